import PyProof.Rows.All
import Wide.All
import OpenK.AllK
import Wide.FinOn
import HandS.ForMost
import HandS.Deep
import HandS.Zip
import HandS.IsInst
import HandS.Walk
import HandS.CallLocal
import HandS.Lambda
import HandS.Flow
import HandS.TupAny
import HandS.Defaults
import KE.KDictKeyed
import KE.GoesEnum
import HandS.More
import PySem.Challenge.RW_lastproof_k44_whole_simplifications_keep
import KE.DataFind
import HandS.Words
import Lean
import KE.KStateDown
import HandS.Ends
import HandS.WordsExc
import HandS.Head0
import HandS.Head1
import HandS.Head2
import HandS.HeadEnd
import HandS.HeadHook1
import HandS.HeadHook2
import HandS.HeadHook3
import HandS.HeadHook4
import HandS.HeadWalk
import HandS.NestedK
set_option Elab.async false
set_option linter.all false
set_option maxRecDepth 100000
set_option maxHeartbeats 4000000
/-! D1: data instead of values, a map of mutable things instead of the abstract heap; judgements lifted. -/
namespace My
open PySem PySem.Spec PyProof.Rows L2

inductive D where
  | non | bl (b : Bool) | int (i : Int) | tup (xs : List D) | ob (a : Addr)

/-- what never changes -/
def Imm (b : Addr) (u : HO) : Prop := (∃ xs, u = .tup xs) ∨ (∃ o v, u = .frz o v) ∨ ∃ q, u = LamX.CodeO b q
def TL (H H' : Hp) : Prop := ∀ b u, Imm b u → H b = some u → H' b = some u
theorem imm_tup {b : Addr} {xs : List V} : Imm b (.tup xs) := .inl ⟨xs, rfl⟩
theorem imm_frz {b : Addr} {o : Obj} {v : HO} : Imm b (.frz o v) := .inr (.inl ⟨o, v, rfl⟩)
theorem imm_code {b : Addr} {q : Str} : Imm b (LamX.CodeO b q) := .inr (.inr ⟨q, rfl⟩)
theorem TL.refl (H : Hp) : TL H H := fun _ _ _ h => h
theorem TL.trans {H H1 H2 : Hp} (a : TL H H1) (b : TL H1 H2) : TL H H2 := fun c xs i h => b c xs i (a c xs i h)

mutual
def RD (H : Hp) : D → V → Prop
  | .non, v => v = .non
  | .bl b, v => v = .bl b
  | .int i, v => v = .int i
  | .tup ds, v => ∃ a vs, v = .ref a ∧ H a = some (.tup vs) ∧ RDs H ds vs
  | .ob a, v => v = .ref a
def RDs (H : Hp) : List D → List V → Prop
  | [], vs => vs = []
  | d :: ds, vs => ∃ v r, vs = v :: r ∧ RD H d v ∧ RDs H ds r
end
mutual
theorem RD.mono {H H' : Hp} (t : TL H H') : ∀ {d : D} {v : V}, RD H d v → RD H' d v
  | .non, _, h => h
  | .bl _, _, h => h
  | .int _, _, h => h
  | .ob _, _, h => h
  | .tup ds, v, h => by
    obtain ⟨a, vs, e, ha, hs⟩ := (show ∃ a vs, v = .ref a ∧ H a = some (.tup vs) ∧ RDs H ds vs from h)
    exact ⟨a, vs, e, t _ _ imm_tup ha, RDs.mono t hs⟩
theorem RDs.mono {H H' : Hp} (t : TL H H') : ∀ {ds : List D} {vs : List V}, RDs H ds vs → RDs H' ds vs
  | [], _, h => h
  | d :: ds, vs, h => by
    obtain ⟨v, r, e, h1, h2⟩ := (show ∃ v r, vs = v :: r ∧ RD H d v ∧ RDs H ds r from h)
    exact ⟨v, r, e, RD.mono t h1, RDs.mono t h2⟩
end
section
variable {H : Hp}
theorem RDs.nil : RDs H [] [] := rfl
theorem RDs.cons {d : D} {v : V} {ds : List D} {vs : List V} (h : RD H d v) (t : RDs H ds vs) : RDs H (d :: ds) (v :: vs) := ⟨v, vs, rfl, h, t⟩
theorem RDs.length : ∀ {ds : List D} {vs : List V}, RDs H ds vs → vs.length = ds.length
  | [], _, h => by cases (show _ = [] from h); rfl
  | d :: ds, vs, h => by
    obtain ⟨v, r, rfl, _, h2⟩ := h
    rw [List.length_cons, List.length_cons, RDs.length h2]
theorem RDs.get : ∀ {ds : List D} {vs : List V} {i : Nat} {d : D}, RDs H ds vs → ds[i]? = some d → ∃ v, vs[i]? = some v ∧ RD H d v
  | [], _, _, _, _, e => by simp at e
  | d :: ds, vs, 0, d', h, e => by
    obtain ⟨v, r, rfl, h1, _⟩ := h
    have e' : d = d' := Option.some.inj e
    subst e'
    exact ⟨v, rfl, h1⟩
  | d :: ds, vs, i + 1, d', h, e => by
    obtain ⟨v, r, rfl, _, h2⟩ := h
    exact RDs.get (i := i) h2 e
theorem RDs.getV {ds : List D} {vs : List V} {i : Nat} {v : V} (h : RDs H ds vs) (e : vs[i]? = some v) : ∃ d, ds[i]? = some d ∧ RD H d v := by
  obtain ⟨hi, e1⟩ := List.getElem?_eq_some_iff.mp e
  have hi' : i < ds.length := by rw [← h.length]; exact hi
  obtain ⟨v', e2, r⟩ := h.get (List.getElem?_eq_getElem hi')
  rw [e] at e2
  cases e2
  exact ⟨_, List.getElem?_eq_getElem hi', r⟩
theorem RDs.append : ∀ {ds es : List D} {vs us : List V}, RDs H ds vs → RDs H es us → RDs H (ds ++ es) (vs ++ us)
  | [], _, _, _, h, k => by cases (show _ = [] from h); exact k
  | d :: ds, es, vs, us, h, k => by
    obtain ⟨v, r, rfl, h1, h2⟩ := h
    exact .cons h1 (RDs.append h2 k)
theorem RDs.take : ∀ {ds : List D} {vs : List V} (n : Nat), RDs H ds vs → RDs H (ds.take n) (vs.take n)
  | _, _, 0, _ => by simp only [List.take_zero]; exact .nil
  | [], _, _ + 1, h => by cases (show _ = [] from h); exact .nil
  | d :: ds, vs, n + 1, h => by
    obtain ⟨v, r, rfl, h1, h2⟩ := h
    exact .cons h1 (RDs.take n h2)
theorem RDs.drop : ∀ {ds : List D} {vs : List V} (n : Nat), RDs H ds vs → RDs H (ds.drop n) (vs.drop n)
  | _, _, 0, h => h
  | [], _, _ + 1, h => by cases (show _ = [] from h); exact .nil
  | d :: ds, vs, n + 1, h => by
    obtain ⟨v, r, rfl, h1, h2⟩ := h
    exact RDs.drop n h2
theorem RDs.set {d : D} {v : V} (k : RD H d v) : ∀ {ds : List D} {vs : List V} (i : Nat), RDs H ds vs → RDs H (ds.set i d) (vs.set i v)
  | [], _, _, h => by cases (show _ = [] from h); exact .nil
  | e :: ds, vs, 0, h => by
    obtain ⟨u, r, rfl, h1, h2⟩ := h
    exact .cons k h2
  | e :: ds, vs, i + 1, h => by
    obtain ⟨u, r, rfl, h1, h2⟩ := h
    exact .cons h1 (RDs.set k i h2)
theorem RDs.eraseIdx : ∀ {ds : List D} {vs : List V} (i : Nat), RDs H ds vs → RDs H (ds.eraseIdx i) (vs.eraseIdx i)
  | [], _, _, h => by cases (show _ = [] from h); exact .nil
  | e :: ds, vs, 0, h => by
    obtain ⟨u, r, rfl, h1, h2⟩ := h
    exact h2
  | e :: ds, vs, i + 1, h => by
    obtain ⟨u, r, rfl, h1, h2⟩ := h
    exact .cons h1 (RDs.eraseIdx i h2)
theorem RDs.ints : ∀ {ns : List Int} {vs : List V}, RDs H (ns.map D.int) vs → vs = ns.map V.int
  | [], _, h => h
  | n :: ns, vs, h => by
    obtain ⟨v, r, rfl, h1, h2⟩ := (show ∃ v r, vs = v :: r ∧ RD H (.int n) v ∧ RDs H (ns.map D.int) r from h)
    rw [show v = V.int n from h1, RDs.ints h2]
    rfl
theorem RDs.of_ints : ∀ {ns : List Int}, RDs H (ns.map D.int) (ns.map V.int)
  | [] => .nil
  | n :: ns => .cons rfl RDs.of_ints
theorem RDs.bls : ∀ {bs : List Bool} {vs : List V}, RDs H (bs.map D.bl) vs → vs = bs.map V.bl
  | [], _, h => h
  | n :: ns, vs, h => by
    obtain ⟨v, r, rfl, h1, h2⟩ := (show ∃ v r, vs = v :: r ∧ RD H (.bl n) v ∧ RDs H (ns.map D.bl) r from h)
    rw [show v = V.bl n from h1, RDs.bls h2]
    rfl
end

/-! ### mutable things -/
inductive MO where
  | lst (ds : List D)
  | dI (kvs : List (Int × D))
  | dT (kvs : List (List Int × D))
  | dN (kvs : List (D × D))
  | ins (C : Addr) (fs : List (Str × D))
  | ro (ns : List Int)
  | fz (ob : Obj)
  | code (q : Str)
abbrev Mp := Addr → Option MO
def um (M : Mp) (a : Addr) (o : MO) : Mp := fun b => if b = a then some o else M b
theorem um_same {M : Mp} {a : Addr} {o : MO} : um M a o a = some o := if_pos rfl
theorem um_ne {M : Mp} {a b : Addr} {o : MO} (h : b ≠ a) : um M a o b = M b := if_neg h
theorem um_um {M : Mp} {a : Addr} {o u : MO} : um (um M a o) a u = um M a u := by
  funext b; unfold um; split <;> rfl
def LE (M M' : Mp) : Prop := ∀ a o, M a = some o → M' a = some o
theorem LE.refl (M : Mp) : LE M M := fun _ _ h => h
theorem LE.trans {M M1 M2 : Mp} (a : LE M M1) (b : LE M1 M2) : LE M M2 := fun c o h => b c o (a c o h)
theorem le_um {M : Mp} {p : Addr} {o : MO} (h : M p = none) : LE M (um M p o) := fun b u e => by
  rw [um_ne (fun z => by rw [z, h] at e; cases e)]; exact e
theorem LE.um {M M' : Mp} (l : LE M M') {p : Addr} {o : MO} : LE (um M p o) (My.um M' p o) := fun b u e => by
  unfold My.um at e ⊢
  split at e
  · rw [if_pos (by assumption)]; exact e
  · rw [if_neg (by assumption)]; exact l b u e
theorem mne {M : Mp} {a p : Addr} {o : MO} (h : M a = some o) (n : M p = none) : a ≠ p := fun z => by rw [z, n] at h; cases h

/-! ### nested keys -/
mutual
def D.key : D → NestedKey
  | .non => .none
  | .bl b => .num (if b then 1 else 0)
  | .int i => .num i
  | .tup ds => .tup (D.keys ds)
  | .ob _ => .none
def D.keys : List D → List NestedKey
  | [] => []
  | d :: ds => d.key :: D.keys ds
end

def KVR (H : Hp) : List (Int × D) → List (Key × V) → Prop := Paired fun p q => q.1 = Sum.inl p.1 ∧ RD H p.2 q.2
def KTR (H : Hp) : List (List Int × D) → List (List Key × V) → Prop := Paired fun p q => q.1 = p.1.map Sum.inl ∧ RD H p.2 q.2
def FSR (H : Hp) : List (Str × D) → List (Str × V) → Prop := Paired fun p q => p.1 = q.1 ∧ RD H p.2 q.2
/-- an entry of a dict with nested keys: the key's data, its value; the key's NestedKey, its tuple, the value -/
def KNR (H : Hp) : List (D × D) → List (NestedKey × Addr × Value) → Prop :=
  Paired fun p q => q.1 = p.1.key ∧ RD H p.1 (.ref q.2.1) ∧ ∃ v, RelV v q.2.2 ∧ RD H p.2 v

theorem Paired.mapQ {α β : Type} {F G : α → β → Prop} : ∀ {l₁ : List α} {l₂ : List β}, Paired F l₁ l₂ → (∀ a b, F a b → G a b) → Paired G l₁ l₂
  | _, _, .nil, _ => .nil
  | _, _, .cons r t, f => .cons (f _ _ r) (Paired.mapQ t f)

def nDictAt (P : Program) (w : World) (a : Addr) (o : Obj) (xs : List (NestedKey × Addr × Value)) : Prop :=
  o.ExactDict ∧ (∃ es ep, o.data = .dict es ep ∧ es.toList = xs.map (entryOfKey (nestedKind P w))) ∧ (xs.map (·.1)).Nodup ∧ (a == sysModules) = false

def RO (P : Program) (w : World) (K : PySem.W.Frag) (H : Hp) (a : Addr) : MO → Prop
  | .lst ds => ∃ vs, H a = some (.lst vs) ∧ RDs H ds vs
  | .dI kvs => ∃ ks, H a = some (.dK ks) ∧ KVR H kvs ks
  | .dT kvs => ∃ ks, H a = some (.dT ks) ∧ KTR H kvs ks
  | .dN kvs => ∃ (o : Obj) (xs : List (NestedKey × Addr × Value)), H a = some (.ext fun h => h.get? a = some o) ∧ nDictAt P w a o xs ∧ KNR H kvs xs
  | .ins C fs => ∃ dx gs, H a = some (.ins C dx gs) ∧ FSR H fs gs
  | .ro ns => ∃ ob, H a = some (.frz ob (.lst (ns.map V.int)))
  | .fz ob => H a = some (.frz ob (.own 0))
  | .code q => H a = some (LamX.CodeO a q)
section
variable {P : Program} {w : World} {K : PySem.W.Frag} {H H' : Hp} {a : Addr} {o : MO}
theorem RO.keep (h : RO P w K H a o) (k : ∀ u, H a = some u → H' a = some u) (t : TL H H') : RO P w K H' a o := by
  cases o with
  | lst ds => obtain ⟨vs, e, r⟩ := h; exact ⟨vs, k _ e, r.mono t⟩
  | dI kvs => obtain ⟨ks, e, r⟩ := h; exact ⟨ks, k _ e, Paired.mapQ r fun p q z => ⟨z.1, z.2.mono t⟩⟩
  | dT kvs => obtain ⟨ks, e, r⟩ := h; exact ⟨ks, k _ e, Paired.mapQ r fun p q z => ⟨z.1, z.2.mono t⟩⟩
  | dN kvs =>
    obtain ⟨ob, xs, e, n, r⟩ := h
    exact ⟨ob, xs, k _ e, n, Paired.mapQ r fun p q z => ⟨z.1, z.2.1.mono t, let ⟨v, z1, z2⟩ := z.2.2; ⟨v, z1, z2.mono t⟩⟩⟩
  | ins C fs => obtain ⟨dx, gs, e, r⟩ := h; exact ⟨dx, gs, k _ e, Paired.mapQ r fun p q z => ⟨z.1, z.2.mono t⟩⟩
  | ro ns => obtain ⟨ob, h⟩ := h; exact ⟨ob, k _ h⟩
  | fz ob => exact k _ h
  | code q => exact k _ h
end

/-- M tells of H; the tables stand -/
structure RM (P : Program) (w : World) (K : PySem.W.Frag) (T : List (Addr × Str)) (M : Mp) (H : Hp) : Prop where
  at_ : ∀ a o, M a = some o → RO P w K H a o
  tabs : LamX.Tabs T H
section
variable {P : Program} {w : World} {K : PySem.W.Frag} {T : List (Addr × Str)} {M M' : Mp} {H H' : Hp} {p x : Addr} {ob : HO} {o : MO}
theorem RM.le (r : RM P w K T M H) (l : LE M' M) : RM P w K T M' H := ⟨fun a o e => r.at_ a o (l a o e), r.tabs⟩
theorem RM.keep (r : RM P w K T M H) (k : ∀ b u, H b = some u → H' b = some u) : RM P w K T M H' :=
  ⟨fun a o e => (r.at_ a o e).keep (k a) fun b xs _ q => k b _ q, r.tabs.ext k⟩
theorem up_keep (h : H p = none) : ∀ b u, H b = some u → upd H p ob b = some u := fun b u e => by rw [upd_ne (ne_of_none e h)]; exact e
theorem tl_new (h : H p = none) : TL H (upd H p ob) := fun b xs _ e => up_keep h b _ e
/-- a new thing, tracked -/
theorem RM.new (r : RM P w K T M H) (h : H p = none) (n : RO P w K (upd H p ob) p o) : RM P w K T (um M p o) (upd H p ob) := by
  refine ⟨fun a u e => ?_, r.tabs.ext (up_keep h)⟩
  by_cases z : a = p
  · subst z; rw [um_same] at e; cases e; exact n
  · rw [um_ne z] at e
    exact (r.at_ a u e).keep (fun u' e' => up_keep h a _ e') (tl_new h)
theorem RM.fresh (r : RM P w K T M H) (h : H p = none) : M p = none := by
  cases e : M p with
  | none => rfl
  | some u =>
    have q := r.at_ p u e
    cases u with
    | lst ds => obtain ⟨_, z, _⟩ := q; rw [h] at z; cases z
    | dI kvs => obtain ⟨_, z, _⟩ := q; rw [h] at z; cases z
    | dT kvs => obtain ⟨_, z, _⟩ := q; rw [h] at z; cases z
    | dN kvs => obtain ⟨_, _, z, _⟩ := q; rw [h] at z; cases z
    | ins C fs => obtain ⟨_, _, z, _⟩ := q; rw [h] at z; cases z
    | ro ns => obtain ⟨_, z⟩ := q; rw [h] at z; cases z
    | fz ob => have z : H p = some (.frz ob (.own 0)) := q; rw [h] at z; cases z
    | code qq => have z : H p = some (LamX.CodeO p qq) := q; rw [h] at z; cases z
/-- what may be written: no tuple, no table, no code object, not locked -/
def Wr (x : Addr) : HO → Prop
  | .lst _ => True
  | .dK _ => True
  | .dT _ => True
  | .ins _ _ _ => True
  | .ext φ => ∃ o : Obj, φ = (fun h => h.get? x = some o) ∧ o.ExactDict ∧ ∃ es ep, o.data = .dict es ep
  | _ => False
theorem wr_code {q : Str} {u : HO} (h : Wr x u) : u ≠ LamX.CodeO x q := by
  intro e
  unfold LamX.CodeO at e
  subst e
  obtain ⟨o, e, _, es, ep, hd⟩ := h
  have h0 : ({ objs := Array.replicate (x + 1) o } : Heap).get? x = some o := by
    unfold Heap.get?
    obtain ⟨c, dd, dt, sl⟩ := o
    cases hd
    simp
  have e1 := congrFun e { objs := Array.replicate (x + 1) o }
  have e2 : ∃ (oc : Obj) (vs : Array Value) (t : Tok), ({ objs := Array.replicate (x + 1) o } : Heap).get? x = some oc ∧ oc.data = .fields vs ∧ vs[1]? = some (.str q t) := by
    rw [e1]; exact h0
  obtain ⟨oc, vs, t, h1, h2, _⟩ := e2
  rw [h0] at h1
  cases h1
  rw [hd] at h2
  cases h2
theorem tl_wr {u : HO} (hx : H x = some u) (hw : Wr x u) : TL H (upd H x ob) := fun b v i e => by
  rw [upd_ne (fun z => ?_)]
  · exact e
  · subst z
    rw [hx] at e
    cases e
    rcases i with ⟨xs, rfl⟩ | ⟨o, v, rfl⟩ | ⟨q, e⟩
    · exact hw
    · exact hw
    · exact wr_code hw e
theorem tabs_wr {u : HO} (t : LamX.Tabs T H) (hx : H x = some u) (hw : Wr x u) : LamX.Tabs T (upd H x ob) := fun p hp => by
  obtain ⟨ps, h1, h2, h3⟩ := t p hp
  refine ⟨ps, ?_, h2, fun pos cv hc => ?_⟩
  · rw [upd_ne (fun z => by rw [z, hx] at h1; cases h1; exact hw)]; exact h1
  · obtain ⟨c, e1, e2⟩ := h3 pos cv hc
    refine ⟨c, e1, ?_⟩
    rw [upd_ne (fun z => by rw [z, hx] at e2; exact wr_code hw (by rw [z] at *; exact Option.some.inj e2))]; exact e2
/-- a thing that is tracked, written -/
theorem RM.write {u : HO} (r : RM P w K T M H) (hx : H x = some u) (hw : Wr x u) (n : RO P w K (upd H x ob) x o) : RM P w K T (um M x o) (upd H x ob) := by
  refine ⟨fun a v e => ?_, tabs_wr r.tabs hx hw⟩
  by_cases z : a = x
  · subst z; rw [um_same] at e; cases e; exact n
  · rw [um_ne z] at e
    exact (r.at_ a v e).keep (fun u' e' => by rw [upd_ne z]; exact e') (tl_wr hx hw)
end
end My
set_option maxHeartbeats 4000000
/-! D2: the judgements lifted; names, constants, operators, tests. -/
namespace My
open PySem PySem.Spec PyProof.Rows L2

abbrev Rho := List (Option D)
abbrev VKD := D → Mp → Prop
abbrev TED := Rho → Mp → VKD → Prop
abbrev TTD := Rho → Mp → (Bool → Mp → Prop) → Prop
abbrev TAD := Rho → Mp → (List D → Mp → Prop) → Prop
structure EndsD where
  nx : Rho → Mp → Prop
  rt : VKD
  bk : Rho → Mp → Prop := fun _ _ => False
  ct : Rho → Mp → Prop := fun _ _ => False
abbrev TSD := EndsD → Rho → Mp → Prop

structure RS (H : Hp) (r : Rho) (σ : L2.St) : Prop where
  len : r.length = σ.length
  at_ : ∀ (i : Nat) d, r[i]? = some (some d) → ∃ v, σ[i]? = some (some v) ∧ RD H d v
section
variable {H H' : Hp} {r : Rho} {σ : L2.St}
theorem RS.mono (x : RS H r σ) (t : TL H H') : RS H' r σ := ⟨x.len, fun i d e => let ⟨v, h1, h2⟩ := x.at_ i d e; ⟨v, h1, h2.mono t⟩⟩
theorem RS.set (x : RS H r σ) (i : Nat) {d : D} {v : V} (k : RD H d v) : RS H (r.set i (some d)) (σ.set i (some v)) := by
  refine ⟨by simpa using x.len, fun j e h => ?_⟩
  by_cases z : i = j
  · subst z
    by_cases hl : i < r.length
    · rw [List.getElem?_set_self hl] at h
      cases h
      exact ⟨v, List.getElem?_set_self (by rw [← x.len]; exact hl), k⟩
    · rw [List.getElem?_eq_none (by simpa using hl)] at h
      cases h
  · rw [List.getElem?_set_ne z] at h ⊢
    exact x.at_ j e h
end

section
variable (P : Program) (w : World) (K : PySem.W.Frag) (T : List (Addr × Str))
def lfE (t : TED) : TE := fun σ H Q => ∃ r M R, RS H r σ ∧ RM P w K T M H ∧ t r M R ∧ ∀ d v M' H', TL H H' → RD H' d v → RM P w K T M' H' → R d M' → Q v H'
def lfT (t : TTD) : TT := fun σ H Q => ∃ r M R, RS H r σ ∧ RM P w K T M H ∧ t r M R ∧ ∀ b M' H', TL H H' → RM P w K T M' H' → R b M' → Q b H'
def lfA (t : TAD) : TA := fun σ H Q => ∃ r M R, RS H r σ ∧ RM P w K T M H ∧ t r M R ∧ ∀ ds vs M' H', TL H H' → RDs H' ds vs → RM P w K T M' H' → R ds M' → Q vs H'
def lfS (t : TSD) : TS := fun E σ H => ∃ r M DD, RS H r σ ∧ RM P w K T M H ∧ t DD r M ∧
  (∀ r' M' σ' H', TL H H' → RS H' r' σ' → RM P w K T M' H' → DD.nx r' M' → E.nx σ' H') ∧ (∀ d v M' H', TL H H' → RD H' d v → RM P w K T M' H' → DD.rt d M' → E.rt v H') ∧
  (∀ r' M' σ' H', TL H H' → RS H' r' σ' → RM P w K T M' H' → DD.bk r' M' → E.bk σ' H') ∧ (∀ r' M' σ' H', TL H H' → RS H' r' σ' → RM P w K T M' H' → DD.ct r' M' → E.ct σ' H')
end
abbrev PEd (T : List (Addr × Str)) (X : Cx) (e : Expr) (t : TED) : Prop := PE X e (lfE X.prog X.w X.K T t)
abbrev PTd (T : List (Addr × Str)) (X : Cx) (e : Expr) (t : TTD) : Prop := PT X e (lfT X.prog X.w X.K T t)
abbrev PWd (T : List (Addr × Str)) (X : Cx) (e : Expr) (t : TTD) : Prop := PW X e (lfT X.prog X.w X.K T t)
abbrev PAd (T : List (Addr × Str)) (X : Cx) (es : List Expr) (t : TAD) : Prop := PA X es (lfA X.prog X.w X.K T t)
abbrev PSd (T : List (Addr × Str)) (X : Cx) (s : Stmt) (t : TSD) : Prop := PS X s (lfS X.prog X.w X.K T t)
abbrev PSsd (T : List (Addr × Str)) (X : Cx) (s : List Stmt) (t : TSD) : Prop := PSs X s (lfS X.prog X.w X.K T t)

section
variable {X : Cx}
theorem wkE {e : Expr} {t t' : TE} (h : PE X e t) (f : ∀ σ H Q, t' σ H Q → t σ H Q) : PE X e t' := ⟨fun pins s σ H Q I q => h.run pins s σ H Q I (f _ _ _ q)⟩
theorem wkT {e : Expr} {t t' : TT} (h : PT X e t) (f : ∀ σ H Q, t' σ H Q → t σ H Q) : PT X e t' := ⟨fun pins s σ H Q I q => h.run pins s σ H Q I (f _ _ _ q)⟩
theorem wkW {e : Expr} {t t' : TT} (h : PW X e t) (f : ∀ σ H Q, t' σ H Q → t σ H Q) : PW X e t' := ⟨fun wh pins s σ H Q I q => h.run wh pins s σ H Q I (f _ _ _ q)⟩
theorem wkA {es : List Expr} {t t' : TA} (h : PA X es t) (f : ∀ σ H Q, t' σ H Q → t σ H Q) : PA X es t' := ⟨fun pos pins s σ H Q I q => h.run pos pins s σ H Q I (f _ _ _ q)⟩
theorem wkS {st : Stmt} {t t' : TS} (h : PS X st t) (f : ∀ E σ H, t' E σ H → t E σ H) : PS X st t' := ⟨fun pins s σ H E I q => h.run pins s σ H E I (f _ _ _ q)⟩
theorem wkSs {st : List Stmt} {t t' : TS} (h : PSs X st t) (f : ∀ E σ H, t' E σ H → t E σ H) : PSs X st t' := ⟨fun pins s σ H E I q => h.run pins s σ H E I (f _ _ _ q)⟩
end

/-! ### names, constants -/
def tVarD (i : Nat) : TED := fun r M R => match r[i]? with
  | some (some d) => R d M
  | _ => False
def tCD (d : D) : TED := fun _ M R => R d M
section
variable {X : Cx} {T : List (Addr × Str)} {P : Program} {w : World} {K : PySem.W.Frag} {σ : L2.St} {H : Hp}
theorem lf_var {i : Nat} {Q : VK} (h : lfE P w K T (tVarD i) σ H Q) : tVar i σ H Q := by
  obtain ⟨r, M, R, hs, hm, ht, k⟩ := h
  have ht : (match r[i]? with | some (some d) => R d M | _ => False) := ht
  cases e : r[i]? with
  | none => rw [e] at ht; exact ht.elim
  | some o =>
    cases o with
    | none => rw [e] at ht; exact ht.elim
    | some d =>
      rw [e] at ht
      obtain ⟨v, h1, h2⟩ := hs.at_ i d e
      exact ⟨v, h1, k d v M H (TL.refl H) h2 hm ht⟩
theorem lf_c {d : D} {v : V} {Q : VK} (rv : ∀ H, RD H d v) (h : lfE P w K T (tCD d) σ H Q) : tC v σ H Q := by
  obtain ⟨r, M, R, hs, hm, ht, k⟩ := h
  exact k d v M H (TL.refl H) (rv H) hm ht
/-- the name in slot i -/
theorem dv (i : Nat) {x : Str} {pos : Pos} (hv : Vis X.env.scope x) (hN : X.N[i]? = some x := by rfl) (hd : (x == ("__debug__" : Str)) = false := by decide)
    (hcd : (x == ("__classdict__" : Str)) = false := by decide) : PEd T X (.Name x pos) (tVarD i) := wkE (pe_var hN hv hd hcd) fun _ _ _ => lf_var
theorem d_int {i : Int} {j pos} : PEd T X (.Constant (.int i) j pos) (tCD (.int i)) := wkE pe_int fun _ _ _ => lf_c fun _ => rfl
theorem d_bl {b : Bool} {j pos} : PEd T X (.Constant (.bool b) j pos) (tCD (.bl b)) := wkE pe_bl fun _ _ _ => lf_c fun _ => rfl
theorem d_non {j pos} : PEd T X (.Constant .none j pos) (tCD .non) := wkE pe_non fun _ _ _ => lf_c fun _ => rfl
/-- a global that stands for an object -/
theorem d_glob {x : Str} {a : Addr} {pos : Pos} (hg : Gl X x) (hm : X.mg x = some (.ref a)) (hd : (x == ("__debug__" : Str)) = false := by decide) : PEd T X (.Name x pos) (tCD (.ob a)) :=
  wkE (pe_glob (v := .ref a) hg hm rfl hd) fun _ _ _ => lf_c fun _ => rfl
end

/-! ### two-place operations -/
abbrev R2D := D → D → Mp → VKD → Prop
def tOpD (r : R2D) (ta tb : TED) : TED := fun ρ M R => ta ρ M fun x M1 => tb ρ M1 fun y M2 => r x y M2 R
/-- the operation on data is the operation on values -/
def Op2 (P : Program) (w : World) (K : PySem.W.Frag) (T : List (Addr × Str)) (rD : R2D) (r : R2) : Prop :=
  ∀ {H : Hp} {M : Mp} {d e : D} {v u : V} {R : VKD} {Q : VK}, RD H d v → RD H e u → RM P w K T M H → rD d e M R → (∀ d v M' H', TL H H' → RD H' d v → RM P w K T M' H' → R d M' → Q v H') → r v u H Q
theorem lf_op {P : Program} {w : World} {K : PySem.W.Frag} {T : List (Addr × Str)} {rD : R2D} {r : R2} {ta tb : TED} (o : Op2 P w K T rD r) {σ : L2.St} {H : Hp} {Q : VK} (h : lfE P w K T (tOpD rD ta tb) σ H Q) :
    tOp r (lfE P w K T ta) (lfE P w K T tb) σ H Q := by
  obtain ⟨ρ, M, R, hs, hm, ht, k⟩ := h
  refine ⟨ρ, M, fun x M1 => tb ρ M1 fun y M2 => rD x y M2 R, hs, hm, ht, fun d v M1 H1 t1 r1 m1 q1 => ?_⟩
  refine ⟨ρ, M1, fun y M2 => rD d y M2 R, hs.mono t1, m1, q1, fun e u M2 H2 t2 r2 m2 q2 => ?_⟩
  exact o (r1.mono t2) r2 m2 q2 fun d' v' M' H' t rd rm q => k d' v' M' H' (t1.trans (t2.trans t)) rd rm q
def mInt2 (C : Int → Int → Prop) (g : Int → Int → D) : R2D := fun x y M R => match x, y with
  | .int i, .int j => C i j ∧ R (g i j) M
  | _, _ => False
def mInt (g : Int → Int → D) : R2D := fun x y M R => match x, y with
  | .int i, .int j => R (g i j) M
  | _, _ => False
theorem rd_b {H : Hp} {b : Bool} : RD H (.bl b) (.bl b) := rfl
theorem rd_i {H : Hp} {i : Int} : RD H (.int i) (.int i) := rfl
def isNon : D → Bool
  | .non => true
  | _ => false
theorem rd_int {H : Hp} {i : Int} {v : V} (h : RD H (.int i) v) : v = .int i := h
section
variable {P : Program} {w : World} {K : PySem.W.Frag} {T : List (Addr × Str)}
theorem op2_i0 {g : Int → Int → D} {g' : Int → Int → V} (hg : ∀ H i j, RD H (g i j) (g' i j)) : Op2 P w K T (mInt g) (rI0 g') := by
  intro H M d e v u R Q r1 r2 m h k
  cases d with
  | int i =>
    cases e with
    | int j => exact ⟨i, j, r1, r2, k _ _ M H (TL.refl H) (hg H i j) m h⟩
    | _ => exact (show False from h).elim
  | _ => exact (show False from h).elim
theorem op2_i {C : Int → Int → Prop} {g : Int → Int → D} {g' : Int → Int → V} (hg : ∀ H i j, RD H (g i j) (g' i j)) : Op2 P w K T (mInt2 C g) (rI C g') := by
  intro H M d e v u R Q r1 r2 m h k
  cases d with
  | int i =>
    cases e with
    | int j =>
      obtain ⟨hc, h⟩ := (show C i j ∧ R (g i j) M from h)
      exact ⟨i, j, r1, r2, hc, k _ _ M H (TL.refl H) (hg H i j) m h⟩
    | _ => exact (show False from h).elim
  | _ => exact (show False from h).elim
end
section
variable {X : Cx} {T : List (Addr × Str)} {a b : Expr} {ta tb : TED} {pos : Pos}
theorem d_op {op : Operator} {r : R2} {rD : R2D} (ho : OpR X (binaryOp op) r) (o : Op2 X.prog X.w X.K T rD r) (ha : PEd T X a ta) (hb : PEd T X b tb) : PEd T X (.BinOp a op b pos) (tOpD rD ta tb) := wkE (pe_op ho ha hb) fun _ _ _ => lf_op o
theorem d_add (ha : PEd T X a ta) (hb : PEd T X b tb) : PEd T X (.BinOp a .Add b pos) (tOpD (mInt fun i j => .int (i + j)) ta tb) := d_op op_add (op2_i0 (by intros; rfl)) ha hb
theorem d_sub (ha : PEd T X a ta) (hb : PEd T X b tb) : PEd T X (.BinOp a .Sub b pos) (tOpD (mInt fun i j => .int (i - j)) ta tb) := d_op op_sub (op2_i0 (by intros; rfl)) ha hb
theorem d_mul (ha : PEd T X a ta) (hb : PEd T X b tb) : PEd T X (.BinOp a .Mult b pos) (tOpD (mInt2 CMul fun i j => .int (i * j)) ta tb) := d_op op_mul (op2_i (by intros; rfl)) ha hb
theorem d_fdiv (ha : PEd T X a ta) (hb : PEd T X b tb) : PEd T X (.BinOp a .FloorDiv b pos) (tOpD (mInt2 CDiv fun i j => .int (i / j)) ta tb) := d_op op_fdiv (op2_i (by intros; rfl)) ha hb
theorem d_mod (ha : PEd T X a ta) (hb : PEd T X b tb) : PEd T X (.BinOp a .Mod b pos) (tOpD (mInt2 (fun _ j => 0 < j) fun i j => .int (i % j)) ta tb) := d_op op_mod (op2_i (by intros; rfl)) ha hb
theorem d_cmp {op : CmpOp} {r : R2} {rD : R2D} (ho : OpR X (compareOp op) r) (o : Op2 X.prog X.w X.K T rD r) (ha : PEd T X a ta) (hb : PEd T X b tb) (hm : behindInMarks op b = false) : PEd T X (.Compare a [op] [b] pos) (tOpD rD ta tb) :=
  wkE (pe_cmpR ho ha hb hm) fun _ _ _ => lf_op o
theorem d_lt (ha : PEd T X a ta) (hb : PEd T X b tb) : PEd T X (.Compare a [.Lt] [b] pos) (tOpD (mInt fun i j => .bl (decide (i < j))) ta tb) := d_cmp op_lt (op2_i0 (by intros; rfl)) ha hb (nomark b)
theorem d_le (ha : PEd T X a ta) (hb : PEd T X b tb) : PEd T X (.Compare a [.LtE] [b] pos) (tOpD (mInt fun i j => .bl (decide (i ≤ j))) ta tb) := d_cmp op_le (op2_i0 (by intros; rfl)) ha hb (nomark b)
theorem d_gt (ha : PEd T X a ta) (hb : PEd T X b tb) : PEd T X (.Compare a [.Gt] [b] pos) (tOpD (mInt fun i j => .bl (decide (j < i))) ta tb) := d_cmp op_gt (op2_i0 (by intros; rfl)) ha hb (nomark b)
theorem d_ge (ha : PEd T X a ta) (hb : PEd T X b tb) : PEd T X (.Compare a [.GtE] [b] pos) (tOpD (mInt fun i j => .bl (decide (j ≤ i))) ta tb) := d_cmp op_ge (op2_i0 (by intros; rfl)) ha hb (nomark b)
end

/-! ### == of data -/
mutual
def D.py : D → PyData
  | .non => .none
  | .bl b => .bool b
  | .int i => .int i
  | .tup ds => .tuple (D.pys ds)
  | .ob _ => .none
def D.pys : List D → List PyData
  | [] => []
  | d :: ds => d.py :: D.pys ds
end
mutual
/-- no object within, at most n deep -/
def D.flat : Nat → D → Bool
  | n, .non => true
  | n, .bl _ => true
  | n, .int _ => true
  | 0, .tup _ => false
  | n + 1, .tup ds => D.flats n ds
  | _, .ob _ => false
def D.flats : Nat → List D → Bool
  | n, [] => true
  | n, d :: ds => D.flat n d && D.flats n ds
end
/-- == of data -/
def deq (d e : D) : Bool := PyData.eqv d.py e.py
mutual
theorem flat_py : ∀ (n : Nat) (d : D), D.flat n d = true → d.py.canLay0 = true ∧ d.py.depth ≤ n
  | _, .non, _ => by simp [D.py, PyData.canLay0, PyData.depth]
  | _, .bl _, _ => by simp [D.py, PyData.canLay0, PyData.depth]
  | _, .int _, _ => by simp [D.py, PyData.canLay0, PyData.depth]
  | 0, .tup _, h => by simp [D.flat] at h
  | n + 1, .tup ds, h => by
    have h' : D.flats n ds = true := by simpa [D.flat] using h
    obtain ⟨h1, h2⟩ := flats_py n ds h'
    refine ⟨by simpa [D.py, PyData.canLay0] using h1, ?_⟩
    simp only [D.py, PyData.depth]; omega
  | _, .ob _, h => by simp [D.flat] at h
theorem flats_py : ∀ (n : Nat) (ds : List D), D.flats n ds = true → PyData.canLayAll0 (D.pys ds) = true ∧ PyData.depthAll (D.pys ds) ≤ n
  | _, [], _ => by simp [D.pys, PyData.canLayAll0, PyData.depthAll]
  | n, d :: ds, h => by
    have h' : D.flat n d = true ∧ D.flats n ds = true := by simpa [D.flats] using h
    obtain ⟨h1, h2⟩ := flat_py n d h'.1
    obtain ⟨h3, h4⟩ := flats_py n ds h'.2
    refine ⟨by simp [D.pys, PyData.canLayAll0, h1, h3], ?_⟩
    simp only [D.pys, PyData.depthAll]; omega
end
theorem shaped_of {d : D} (h : D.flat 64 d = true) : SeqAt.shaped d.py = true := by
  obtain ⟨h1, h2⟩ := flat_py 64 d h
  simp [SeqAt.shaped, h1, h2]
mutual
theorem RD.dp {K : PySem.W.Frag} {H : Hp} : ∀ {n : Nat} {d : D} {v : V}, D.flat n d = true → RD H d v → Dp K H v d.py
  | _, .non, v, _, h => by cases (show v = .non from h); exact .non
  | _, .bl b, v, _, h => by cases (show v = .bl b from h); exact .bl b
  | _, .int b, v, _, h => by cases (show v = .int b from h); exact .int b
  | 0, .tup _, _, f, _ => by simp [D.flat] at f
  | n + 1, .tup ds, v, f, h => by
    obtain ⟨a, vs, rfl, ha, hs⟩ := (show ∃ a vs, v = .ref a ∧ H a = some (.tup vs) ∧ RDs H ds vs from h)
    have f' : D.flats n ds = true := by simpa [D.flat] using f
    have q := RDs.dp (K := K) f' hs
    show Dp K H (.ref a) (.tuple (D.pys ds))
    exact .tup (.of ha) q
  | _, .ob _, _, f, _ => by simp [D.flat] at f
theorem RDs.dp {K : PySem.W.Frag} {H : Hp} : ∀ {n : Nat} {ds : List D} {vs : List V}, D.flats n ds = true → RDs H ds vs → DpAll K H vs (D.pys ds)
  | _, [], vs, _, h => by cases (show vs = [] from h); exact .nil
  | n, d :: ds, vs, f, h => by
    obtain ⟨v, r, rfl, h1, h2⟩ := h
    have f' : D.flat n d = true ∧ D.flats n ds = true := by simpa [D.flats] using f
    exact .cons (RD.dp f'.1 h1) (RDs.dp f'.2 h2)
end
def mEq : R2D := fun x y M R => D.flat 64 x = true ∧ D.flat 64 y = true ∧ R (.bl (deq x y)) M
def mNe : R2D := fun x y M R => D.flat 64 x = true ∧ D.flat 64 y = true ∧ R (.bl (!deq x y)) M
def mIntEq : R2D := mInt fun i j => .bl (decide (i = j))
def mIntNe : R2D := mInt fun i j => .bl (!decide (i = j))
def mIsN : R2D := fun x y M R => match y with
  | .non => R (.bl (isNon x)) M
  | _ => False
def mNotN : R2D := fun x y M R => match y with
  | .non => R (.bl (!isNon x)) M
  | _ => False
section
variable {P : Program} {w : World} {K : PySem.W.Frag} {T : List (Addr × Str)}
theorem op2_eq : Op2 P w K T mEq (rEqD K) := by
  intro H M d e v u R Q r1 r2 m h k
  obtain ⟨f1, f2, h⟩ := h
  exact ⟨d.py, e.py, r1.dp f1, r2.dp f2, shaped_of f1, shaped_of f2, k _ _ M H (TL.refl H) rd_b m h⟩
theorem op2_ne : Op2 P w K T mNe (rNeD K) := by
  intro H M d e v u R Q r1 r2 m h k
  obtain ⟨f1, f2, h⟩ := h
  exact ⟨d.py, e.py, r1.dp f1, r2.dp f2, shaped_of f1, shaped_of f2, k _ _ M H (TL.refl H) rd_b m h⟩
theorem op2_ieq : Op2 P w K T mIntEq rEq := by
  intro H M d e v u R Q r1 r2 m h k
  cases d with
  | int i =>
    cases e with
    | int j =>
      cases rd_int r1; cases rd_int r2
      refine ⟨rfl, k _ _ M H (TL.refl H) (show RD H (.bl (decide (i = j))) (.bl (decide (V.int i = V.int j))) from ?_) m h⟩
      show V.bl _ = V.bl _
      exact congrArg V.bl (decide_eq_decide.mpr ⟨fun z => V.int.inj z, fun z => congrArg V.int z⟩)
    | _ => exact (show False from h).elim
  | _ => exact (show False from h).elim
theorem op2_ine : Op2 P w K T mIntNe rNe := by
  intro H M d e v u R Q r1 r2 m h k
  cases d with
  | int i =>
    cases e with
    | int j =>
      cases rd_int r1; cases rd_int r2
      refine ⟨rfl, k _ _ M H (TL.refl H) (show RD H (.bl (!decide (i = j))) (.bl (!decide (V.int i = V.int j))) from ?_) m h⟩
      show V.bl _ = V.bl _
      exact congrArg (fun z => V.bl (!z)) (decide_eq_decide.mpr ⟨fun z => V.int.inj z, fun z => congrArg V.int z⟩)
    | _ => exact (show False from h).elim
  | _ => exact (show False from h).elim
theorem rd_non {H : Hp} {d : D} {v : V} (r : RD H d v) : decide (v = .non) = isNon d := by
  cases d with
  | non => cases (show v = .non from r); rfl
  | bl b => cases (show v = .bl b from r); rfl
  | int b => cases (show v = .int b from r); rfl
  | ob b => cases (show v = .ref b from r); rfl
  | tup ds => obtain ⟨a, vs, rfl, _⟩ := (show ∃ a vs, v = .ref a ∧ H a = some (.tup vs) ∧ RDs H ds vs from r); rfl
theorem op2_isN : Op2 P w K T mIsN (fun x y H Q => y = .non ∧ Q (.bl (decide (x = .non))) H) := by
  intro H M d e v u R Q r1 r2 m h k
  cases e with
  | non => exact ⟨r2, by rw [rd_non r1]; exact k _ _ M H (TL.refl H) rd_b m h⟩
  | _ => exact (show False from h).elim
theorem op2_notN : Op2 P w K T mNotN (fun x y H Q => y = .non ∧ Q (.bl (!decide (x = .non))) H) := by
  intro H M d e v u R Q r1 r2 m h k
  cases e with
  | non =>
    refine ⟨r2, ?_⟩
    rw [rd_non r1]
    exact k _ _ M H (TL.refl H) rd_b m h
  | _ => exact (show False from h).elim
end
section
variable {X : Cx} {T : List (Addr × Str)} {a b : Expr} {ta tb : TED} {pos : Pos}
theorem d_eq (hu : X.A.units + 64 < cLine) (ha : PEd T X a ta) (hb : PEd T X b tb) : PEd T X (.Compare a [.Eq] [b] pos) (tOpD mEq ta tb) := d_cmp (op_eqD hu) op2_eq ha hb (nomark b)
theorem d_ne (hu : X.A.units + 64 < cLine) (ha : PEd T X a ta) (hb : PEd T X b tb) : PEd T X (.Compare a [.NotEq] [b] pos) (tOpD mNe ta tb) := d_cmp (op_neD hu) op2_ne ha hb (nomark b)
theorem d_ieq (ha : PEd T X a ta) (hb : PEd T X b tb) : PEd T X (.Compare a [.Eq] [b] pos) (tOpD mIntEq ta tb) := d_cmp op_eq op2_ieq ha hb (nomark b)
theorem d_ine (ha : PEd T X a ta) (hb : PEd T X b tb) : PEd T X (.Compare a [.NotEq] [b] pos) (tOpD mIntNe ta tb) := d_cmp op_ne op2_ine ha hb (nomark b)
theorem d_isN (ha : PEd T X a ta) (hb : PEd T X b tb) : PEd T X (.Compare a [.Is] [b] pos) (tOpD mIsN ta tb) := d_cmp op_isN op2_isN ha hb (nomark b)
theorem d_notN (ha : PEd T X a ta) (hb : PEd T X b tb) : PEd T X (.Compare a [.IsNot] [b] pos) (tOpD mNotN ta tb) := d_cmp op_notN op2_notN ha hb (nomark b)
end

/-! ### tests -/
def bI (b : Bool) (A B : Prop) : Prop := match b with
  | true => A
  | false => B
theorem bI_i {b : Bool} {A B : Prop} (h1 : b = true → A) (h2 : b = false → B) : bI b A B := by cases b with
  | true => exact h1 rfl
  | false => exact h2 rfl
theorem bI_ite {b : Bool} {A B : Prop} (h : bI b A B) : if b = true then A else B := by cases b with
  | true => exact (if_pos rfl).mpr h
  | false => exact (if_neg Bool.false_ne_true).mpr h
def tTestD (t : TED) : TTD := fun r M R => t r M fun d M1 => match d with
  | .bl b => R b M1
  | _ => False
section
variable {X : Cx} {T : List (Addr × Str)} {P : Program} {w : World} {K : PySem.W.Frag} {σ : L2.St} {H : Hp}
theorem lf_test {t : TED} {Q : Bool → Hp → Prop} (h : lfT P w K T (tTestD t) σ H Q) : tTest (lfE P w K T t) σ H Q := by
  obtain ⟨r, M, R, hs, hm, ht, k⟩ := h
  refine ⟨r, M, _, hs, hm, ht, fun d v M1 H1 t1 r1 m1 q => ?_⟩
  cases d with
  | bl b => exact ⟨b, r1, k b M1 H1 t1 m1 q⟩
  | _ => exact (show False from q).elim
/-- a comparison as a test -/
theorem dt_cmp {a b : Expr} {ta tb : TED} {pos : Pos} {op : CmpOp} {r : R2} {rD : R2D} (ho : OpR X (compareOp op) r) (o : Op2 X.prog X.w X.K T rD r) (ha : PEd T X a ta) (hb : PEd T X b tb) (hm : behindInMarks op b = false) :
    PTd T X (.Compare a [op] [b] pos) (tTestD (tOpD rD ta tb)) := wkT (pt_cmpR ho ha hb hm) fun σ H Q h => by
  obtain ⟨ρ, M, R, hs, hm, ht, k⟩ := h
  refine lf_op o ⟨ρ, M, _, hs, hm, ht, fun d v M1 H1 t1 r1 m1 q => ?_⟩
  cases d with
  | bl b => exact ⟨b, r1, k b M1 H1 t1 m1 q⟩
  | _ => exact (show False from q).elim
section
variable {a b : Expr} {ta tb : TED} {pos : Pos}
theorem dt_lt (ha : PEd T X a ta) (hb : PEd T X b tb) : PTd T X (.Compare a [.Lt] [b] pos) (tTestD (tOpD (mInt fun i j => .bl (decide (i < j))) ta tb)) := dt_cmp op_lt (op2_i0 (by intros; rfl)) ha hb (nomark b)
theorem dt_gt (ha : PEd T X a ta) (hb : PEd T X b tb) : PTd T X (.Compare a [.Gt] [b] pos) (tTestD (tOpD (mInt fun i j => .bl (decide (j < i))) ta tb)) := dt_cmp op_gt (op2_i0 (by intros; rfl)) ha hb (nomark b)
theorem dt_ge (ha : PEd T X a ta) (hb : PEd T X b tb) : PTd T X (.Compare a [.GtE] [b] pos) (tTestD (tOpD (mInt fun i j => .bl (decide (j ≤ i))) ta tb)) := dt_cmp op_ge (op2_i0 (by intros; rfl)) ha hb (nomark b)
theorem dt_eq (hu : X.A.units + 64 < cLine) (ha : PEd T X a ta) (hb : PEd T X b tb) : PTd T X (.Compare a [.Eq] [b] pos) (tTestD (tOpD mEq ta tb)) := dt_cmp (op_eqD hu) op2_eq ha hb (nomark b)
theorem dt_ne (hu : X.A.units + 64 < cLine) (ha : PEd T X a ta) (hb : PEd T X b tb) : PTd T X (.Compare a [.NotEq] [b] pos) (tTestD (tOpD mNe ta tb)) := dt_cmp (op_neD hu) op2_ne ha hb (nomark b)
theorem dt_ieq (ha : PEd T X a ta) (hb : PEd T X b tb) : PTd T X (.Compare a [.Eq] [b] pos) (tTestD (tOpD mIntEq ta tb)) := dt_cmp op_eq op2_ieq ha hb (nomark b)
theorem dt_ine (ha : PEd T X a ta) (hb : PEd T X b tb) : PTd T X (.Compare a [.NotEq] [b] pos) (tTestD (tOpD mIntNe ta tb)) := dt_cmp op_ne op2_ine ha hb (nomark b)
theorem dt_isN (ha : PEd T X a ta) (hb : PEd T X b tb) : PTd T X (.Compare a [.Is] [b] pos) (tTestD (tOpD mIsN ta tb)) := dt_cmp op_isN op2_isN ha hb (nomark b)
theorem dt_notN (ha : PEd T X a ta) (hb : PEd T X b tb) : PTd T X (.Compare a [.IsNot] [b] pos) (tTestD (tOpD mNotN ta tb)) := dt_cmp op_notN op2_notN ha hb (nomark b)
/-- an expression that gives True or False (a call, a name, a subscript), as a test -/
theorem dt_val {e : Expr} {t : TED} (h : PEd T X e t) (he : ∀ whole, isTrue e X.env whole = (do let v ← whole; standAt e.pos; holding [v] (truthy v)) := by intro _; rfl) : PTd T X e (tTestD t) :=
  wkT (pt_val h he) fun _ _ _ q => lf_test q
/-- any expression by its truth: a tuple, a list (the list is dropped if that is wanted) -/
def truD (d : D) (M1 : Mp) (R : Bool → Mp → Prop) : Prop := match d with
  | .bl b => R b M1
  | .tup ds => R (!ds.isEmpty) M1
  | .ob a => ∃ ds, M1 a = some (.lst ds) ∧ ∃ M2, LE M2 M1 ∧ R (!ds.isEmpty) M2
  | _ => False
def tTruD (t : TED) : TTD := fun r M R => t r M fun d M1 => truD d M1 R
theorem isEmpty_rds {H : Hp} {ds : List D} {vs : List V} (r : RDs H ds vs) : vs.isEmpty = ds.isEmpty := by
  cases ds with
  | nil => cases (show vs = [] from r); rfl
  | cons d ds => obtain ⟨v, u, rfl, _⟩ := (show ∃ v r, vs = v :: r ∧ RD H d v ∧ RDs H ds r from r); rfl
theorem tru_d {K' : PySem.W.Frag} {M1 : Mp} {H1 : Hp} {d : D} {v : V} {R : Bool → Mp → Prop} (r1 : RD H1 d v) (m1 : RM P w K' T M1 H1)
    (q : truD d M1 R) : ∃ k M2, TruV K' v H1 k ∧ RM P w K' T M2 H1 ∧ R k M2 := by
  cases d with
  | bl b => cases (show v = .bl b from r1); exact ⟨b, M1, rfl, m1, q⟩
  | tup ds =>
    obtain ⟨a, vs, rfl, ha, hs⟩ := (show ∃ a vs, v = .ref a ∧ H1 a = some (.tup vs) ∧ RDs H1 ds vs from r1)
    exact ⟨_, M1, .inr (.inl ⟨vs, .of ha, by rw [isEmpty_rds hs]⟩), m1, q⟩
  | ob a =>
    cases (show v = .ref a from r1)
    obtain ⟨ds, e, M2, l, q⟩ := q
    obtain ⟨vs, ha, hs⟩ := m1.at_ a _ e
    exact ⟨_, M2, .inl ⟨vs, .of ha, by rw [isEmpty_rds hs]⟩, m1.le l, q⟩
  | _ => exact (show False from q).elim
theorem dt_tru {e : Expr} {t : TED} (h : PEd T X e t) (he : ∀ whole, isTrue e X.env whole = (do let v ← whole; standAt e.pos; holding [v] (truthy v)) := by intro _; rfl) : PTd T X e (tTruD t) :=
  wkT (pt_truth h he) fun σ H Q q => by
    obtain ⟨r, M, R, hs, hm, ht, k⟩ := q
    refine ⟨r, M, _, hs, hm, ht, fun d v M1 H1 t1 r1 m1 q => ?_⟩
    obtain ⟨b, M2, h1, h2, h3⟩ := tru_d r1 m1 q
    exact ⟨b, h1, k b M2 H1 t1 h2 h3⟩
end

/-! ### and, or, not -/
def tAndD (t u : TTD) : TTD := fun r M R => t r M fun c M1 => bI c (u r M1 R) (R false M1)
def tOrD (t u : TTD) : TTD := fun r M R => t r M fun c M1 => bI c (R true M1) (u r M1 R)
def tNotD (t : TTD) : TTD := fun r M R => t r M fun c M1 => R (!c) M1
theorem lf_and {t u : TTD} {Q : Bool → Hp → Prop} (h : lfT P w K T (tAndD t u) σ H Q) : tAnd (lfT P w K T t) (lfT P w K T u) σ H Q := by
  obtain ⟨r, M, R, hs, hm, ht, k⟩ := h
  refine ⟨r, M, _, hs, hm, ht, fun c M1 H1 t1 m1 q => bI_ite ?_⟩
  cases c with
  | true => exact ⟨r, M1, R, hs.mono t1, m1, q, fun b M' H' t2 => k b M' H' (t1.trans t2)⟩
  | false => exact k _ M1 H1 t1 m1 q
theorem lf_or {t u : TTD} {Q : Bool → Hp → Prop} (h : lfT P w K T (tOrD t u) σ H Q) : tOr (lfT P w K T t) (lfT P w K T u) σ H Q := by
  obtain ⟨r, M, R, hs, hm, ht, k⟩ := h
  refine ⟨r, M, _, hs, hm, ht, fun c M1 H1 t1 m1 q => bI_ite ?_⟩
  cases c with
  | true => exact k _ M1 H1 t1 m1 q
  | false => exact ⟨r, M1, R, hs.mono t1, m1, q, fun b M' H' t2 => k b M' H' (t1.trans t2)⟩
theorem lf_not {t : TTD} {Q : Bool → Hp → Prop} (h : lfT P w K T (tNotD t) σ H Q) : tNot (lfT P w K T t) σ H Q := by
  obtain ⟨r, M, R, hs, hm, ht, k⟩ := h
  exact ⟨r, M, _, hs, hm, ht, fun c M1 H1 t1 m1 q => k _ M1 H1 t1 m1 q⟩
section
variable {a b : Expr} {rest : List Expr} {tA tB : TTD} {ta tb : TED} {pos : Pos}
theorem dw_and1 (ha : PTd T X a tA) : PWd T X (.BoolOp .And [a] pos) tA := pw_and1 ha
theorem dw_or1 (ha : PTd T X a tA) : PWd T X (.BoolOp .Or [a] pos) tA := pw_or1 ha
theorem dw_and (ha : PTd T X a tA) (hb : PWd T X (.BoolOp .And (b :: rest) pos) tB) : PWd T X (.BoolOp .And (a :: b :: rest) pos) (tAndD tA tB) := wkW (pw_and ha hb) fun _ _ _ => lf_and
theorem dw_or (ha : PTd T X a tA) (hb : PWd T X (.BoolOp .Or (b :: rest) pos) tB) : PWd T X (.BoolOp .Or (a :: b :: rest) pos) (tOrD tA tB) := wkW (pw_or ha hb) fun _ _ _ => lf_or
theorem dt_not (ha : PTd T X a tA) : PTd T X (.UnaryOp .Not a pos) (tNotD tA) := wkT (pt_not ha) fun _ _ _ => lf_not
/-- as values -/
def tAndVD (ta tb : TED) : TED := fun r M R => ta r M fun d M1 => match d with
  | .bl c => bI c (tb r M1 R) (R (.bl false) M1)
  | _ => False
def tOrVD (ta tb : TED) : TED := fun r M R => ta r M fun d M1 => match d with
  | .bl c => bI c (R (.bl true) M1) (tb r M1 R)
  | _ => False
theorem d_one {op} {t : TED} (h : PEd T X a t) : PEd T X (.BoolOp op [a] pos) t := pe_one h
theorem d_and (ha : PEd T X a ta) (hb : PEd T X (.BoolOp .And (b :: rest) pos) tb) : PEd T X (.BoolOp .And (a :: b :: rest) pos) (tAndVD ta tb) := wkE (pe_and ha hb) fun σ H Q h => by
  obtain ⟨r, M, R, hs, hm, ht, k⟩ := h
  refine ⟨r, M, _, hs, hm, ht, fun d v M1 H1 t1 r1 m1 q => ?_⟩
  cases d with
  | bl c =>
    refine ⟨c, r1, bI_ite ?_⟩
    cases c with
    | true => exact ⟨r, M1, R, hs.mono t1, m1, q, fun d v M' H' t2 => k d v M' H' (t1.trans t2)⟩
    | false => exact k _ _ M1 H1 t1 rd_b m1 q
  | _ => exact (show False from q).elim
theorem d_or (ha : PEd T X a ta) (hb : PEd T X (.BoolOp .Or (b :: rest) pos) tb) : PEd T X (.BoolOp .Or (a :: b :: rest) pos) (tOrVD ta tb) := wkE (pe_or ha hb) fun σ H Q h => by
  obtain ⟨r, M, R, hs, hm, ht, k⟩ := h
  refine ⟨r, M, _, hs, hm, ht, fun d v M1 H1 t1 r1 m1 q => ?_⟩
  cases d with
  | bl c =>
    refine ⟨c, r1, bI_ite ?_⟩
    cases c with
    | true => exact k _ _ M1 H1 t1 rd_b m1 q
    | false => exact ⟨r, M1, R, hs.mono t1, m1, q, fun d v M' H' t2 => k d v M' H' (t1.trans t2)⟩
  | _ => exact (show False from q).elim
/-- not x by truth, as a value -/
def tNotVD (ta : TED) : TED := fun r M R => tTruD ta r M fun b M1 => R (.bl (!b)) M1
theorem d_not (ha : PEd T X a ta) : PEd T X (.UnaryOp .Not a pos) (tNotVD ta) := wkE (pe_notT ha) fun σ H Q h => by
  obtain ⟨r, M, R, hs, hm, ht, k⟩ := h
  refine ⟨r, M, _, hs, hm, ht, fun d v M1 H1 t1 r1 m1 q => ?_⟩
  obtain ⟨b, M2, h1, h2, h3⟩ := tru_d (R := fun b M1 => R (.bl (!b)) M1) r1 m1 q
  exact ⟨b, h1, k _ _ M2 H1 t1 rd_b h2 h3⟩
def tIfD (t : TTD) (ta tb : TED) : TED := fun r M R => t r M fun c M1 => bI c (ta r M1 R) (tb r M1 R)
theorem d_ifExp {c : Expr} (hc : PTd T X c tA) (ha : PEd T X a ta) (hb : PEd T X b tb) : PEd T X (.IfExp c a b pos) (tIfD tA ta tb) := wkE (pe_ifExp hc ha hb) fun σ H Q h => by
  obtain ⟨r, M, R, hs, hm, ht, k⟩ := h
  refine ⟨r, M, _, hs, hm, ht, fun c M1 H1 t1 m1 q => bI_ite ?_⟩
  cases c with
  | true => exact ⟨r, M1, R, hs.mono t1, m1, q, fun d v M' H' t2 => k d v M' H' (t1.trans t2)⟩
  | false => exact ⟨r, M1, R, hs.mono t1, m1, q, fun d v M' H' t2 => k d v M' H' (t1.trans t2)⟩
end
end
end My
set_option maxHeartbeats 4000000
/-! D3: argument lists, displays, subscripts, slices, built-ins, methods. -/
namespace My
open PySem PySem.Spec PyProof.Rows L2

def tNilD : TAD := fun _ M R => R [] M
def tConsD (ta : TED) (tr : TAD) : TAD := fun r M R => ta r M fun d M1 => tr r M1 fun ds M2 => R (d :: ds) M2
/-- A, where the list has the length n -/
def mlen (ds : List D) (n : Nat) (A : Prop) : Prop := match Nat.beq ds.length n with
  | true => A
  | false => False
theorem mlen_e {ds : List D} {n : Nat} {A : Prop} (h : mlen ds n A) : ds.length = n ∧ A := by
  unfold mlen at h
  cases e : Nat.beq ds.length n with
  | true => rw [e] at h; exact ⟨Nat.eq_of_beq_eq_true e, h⟩
  | false => rw [e] at h; exact h.elim
def tTupD (n : Nat) (t : TAD) : TED := fun r M R => t r M fun ds M1 => mlen ds n (R (.tup ds) M1)
def tLstD (n : Nat) (t : TAD) : TED := fun r M R => t r M fun ds M1 => mlen ds n (∀ p, M1 p = none → R (.ob p) (um M1 p (.lst ds)))
section
variable {X : Cx} {T : List (Addr × Str)} {P : Program} {w : World} {K : PySem.W.Frag} {σ : L2.St} {H : Hp}
theorem lf_cons {ta : TED} {tr : TAD} {Q : List V → Hp → Prop} (h : lfA P w K T (tConsD ta tr) σ H Q) : tCons (lfE P w K T ta) (lfA P w K T tr) σ H Q := by
  obtain ⟨r, M, R, hs, hm, ht, k⟩ := h
  refine ⟨r, M, _, hs, hm, ht, fun d v M1 H1 t1 r1 m1 q => ?_⟩
  refine ⟨r, M1, _, hs.mono t1, m1, q, fun ds vs M2 H2 t2 r2 m2 q2 => ?_⟩
  exact k _ _ M2 H2 (t1.trans t2) (.cons (r1.mono t2) r2) m2 q2
variable {e : Expr} {es : List Expr} {te : TED} {t : TAD} {pos : Pos}
theorem da_nil : PAd T X [] tNilD := wkA pa_nil fun σ H Q h => by
  obtain ⟨r, M, R, hs, hm, ht, k⟩ := h
  exact k [] [] M H (TL.refl H) .nil hm ht
theorem da_cons (ha : PEd T X e te) (hr : PAd T X es t) (hs : starEach (e :: es) X.env = (false, eval e X.env) :: starEach es X.env := by rfl) : PAd T X (e :: es) (tConsD te t) := wkA (pa_cons ha hr hs) fun _ _ _ => lf_cons
theorem rm_new {M : Mp} {H : Hp} {p : Addr} {ob : HO} {o : MO} (m : RM P w K T M H) (hp : H p = none) (n : RO P w K (upd H p ob) p o) : M p = none ∧ RM P w K T (um M p o) (upd H p ob) := ⟨m.fresh hp, m.new hp n⟩
theorem d_tup {x1} (h : PAd T X es t) {n : Nat} (hn : es.length = n := by rfl) (hz : n ≤ 1000 := by decide) : PEd T X (.Tuple es x1 pos) (tTupD n t) := wkE (pe_tup h) fun σ H Q q => by
  obtain ⟨r, M, R, hs, hm, ht, k⟩ := q
  refine ⟨r, M, _, hs, hm, ht, fun ds vs M1 H1 t1 r1 m1 q => ?_⟩
  obtain ⟨hl, q⟩ := mlen_e q
  refine ⟨by rw [r1.length, hl]; exact Nat.le_of_lt (small1000 hz), fun p hp => ?_⟩
  have tn : TL H1 (upd H1 p (.tup vs)) := tl_new hp
  exact k (.tup ds) (.ref p) M1 _ (t1.trans tn) ⟨p, vs, rfl, upd_same, r1.mono tn⟩ (m1.keep (up_keep hp)) q
theorem d_lst (h : PAd T X es t) {n : Nat} (hn : es.length = n := by rfl) (hz : n ≤ 1000 := by decide) : PEd T X (.List es pos) (tLstD n t) := wkE (pe_lst h) fun σ H Q q => by
  obtain ⟨r, M, R, hs, hm, ht, k⟩ := q
  refine ⟨r, M, _, hs, hm, ht, fun ds vs M1 H1 t1 r1 m1 q => ?_⟩
  obtain ⟨hl, q⟩ := mlen_e q
  refine ⟨by rw [r1.length, hl]; exact Nat.le_of_lt (small1000 hz), fun p hp => ?_⟩
  have tn : TL H1 (upd H1 p (.lst vs)) := tl_new hp
  obtain ⟨n1, m2⟩ := rm_new (o := .lst ds) m1 hp ⟨vs, upd_same, r1.mono tn⟩
  exact k (.ob p) (.ref p) _ _ (t1.trans tn) rfl m2 (q p n1)
/-- {} for int keys, for tuple keys -/
def tDNewI : TED := fun _ M R => ∀ p, M p = none → R (.ob p) (um M p (.dI []))
def tDNewT : TED := fun _ M R => ∀ p, M p = none → R (.ob p) (um M p (.dT []))
theorem d_newI : PEd T X (.Dict [] [] pos) tDNewI := wkE pe_dnewK fun σ H Q q => by
  obtain ⟨r, M, R, hs, hm, ht, k⟩ := q
  intro p hp
  obtain ⟨n1, m2⟩ := rm_new (ob := .dK []) (o := .dI []) hm hp ⟨[], upd_same, .nil⟩
  exact k (.ob p) (.ref p) _ _ (tl_new hp) rfl m2 (ht p n1)
theorem d_newT : PEd T X (.Dict [] [] pos) tDNewT := wkE pe_dnewT fun σ H Q q => by
  obtain ⟨r, M, R, hs, hm, ht, k⟩ := q
  intro p hp
  obtain ⟨n1, m2⟩ := rm_new (ob := .dT []) (o := .dT []) hm hp ⟨[], upd_same, .nil⟩
  exact k (.ob p) (.ref p) _ _ (tl_new hp) rfl m2 (ht p n1)
end

/-! ### subscripts -/
/-- an item of a tuple, of a list -/
def mIx : R2D := fun x y M R => match x, y with
  | .tup ds, .int i => (match atI ds i with
    | some d => R d M
    | none => False)
  | .ob a, .int i => ∃ ds d, M a = some (.lst ds) ∧ atI ds i = some d ∧ R d M
  | _, _ => False
theorem mIx_nat {ds : List D} {j : Nat} {d : D} {M : Mp} {R : VKD} (e : ds[j]? = some d) (h : R d M) : mIx (.tup ds) (.int (j : Int)) M R := by
  show (match atI ds (j : Int) with | some d => R d M | none => False)
  rw [atI_nat e]; exact h
theorem mIx_at {ds : List D} {i : Int} {d : D} {M : Mp} {R : VKD} (e : atI ds i = some d) (h : R d M) : mIx (.tup ds) (.int i) M R := by
  show (match atI ds i with | some d => R d M | none => False)
  rw [e]; exact h
theorem rds_atI {H : Hp} {ds : List D} {vs : List V} (r : RDs H ds vs) {i : Int} {d : D} (e : atI ds i = some d) : ∃ v, atI vs i = some v ∧ RD H d v := by
  unfold atI at e ⊢
  rw [r.length]
  cases h : ixN ds.length i with
  | none => rw [h] at e; cases e
  | some j =>
    rw [h] at e
    exact r.get (show ds[j]? = some d from e)
section
variable {X : Cx} {T : List (Addr × Str)} {P : Program} {w : World} {K : PySem.W.Frag} {σ : L2.St} {H : Hp} {a b : Expr} {ta tb : TED} {pos : Pos}
theorem op2_ix : Op2 P w K T mIx (rIx K) := by
  intro H M d e v u R Q r1 r2 m h k
  cases d with
  | tup ds =>
    cases e with
    | int i =>
      obtain ⟨p, vs, rfl, ha, hs⟩ := (show ∃ a vs, v = .ref a ∧ H a = some (.tup vs) ∧ RDs H ds vs from r1)
      have h' : (match atI ds i with | some d => R d M | none => False) := h
      cases e : atI ds i with
      | none => rw [e] at h'; exact h'.elim
      | some d =>
        rw [e] at h'
        obtain ⟨v, h1, h2⟩ := rds_atI hs e
        exact .inr (.inl ⟨p, vs, i, v, rfl, r2, .of ha, h1, k d v M H (TL.refl H) h2 m h'⟩)
    | _ => exact (show False from h).elim
  | ob p =>
    cases e with
    | int i =>
      obtain ⟨ds, d, e1, e2, h'⟩ := (show ∃ ds d, M p = some (.lst ds) ∧ atI ds i = some d ∧ R d M from h)
      obtain ⟨vs, ha, hs⟩ := m.at_ p _ e1
      obtain ⟨v', h1, h2⟩ := rds_atI hs e2
      exact .inl ⟨p, vs, i, v', r1, r2, .of ha, h1, k d v' M H (TL.refl H) h2 m h'⟩
    | _ => exact (show False from h).elim
  | _ => exact (show False from h).elim
theorem d_ix (ha : PEd T X a ta) (hb : PEd T X b tb) (hs : PlainIx b := by intro _ _; rfl) : PEd T X (.Subscript a b pos) (tOpD mIx ta tb) := wkE (pe_ix ix_seq ha hb hs) fun _ _ _ => lf_op op2_ix

/-! ### slices -/
abbrev TOD := Rho → Mp → (Option Int → Mp → Prop) → Prop
def lfO (P : Program) (w : World) (K : PySem.W.Frag) (T : List (Addr × Str)) (t : TOD) : TO := fun σ H Q => ∃ r M R, RS H r σ ∧ RM P w K T M H ∧ t r M R ∧ ∀ o M' H', TL H H' → RM P w K T M' H' → R o M' → Q o H'
abbrev POd (T : List (Addr × Str)) (X : Cx) (e : Option Expr) (t : TOD) : Prop := PO X e (lfO X.prog X.w X.K T t)
def tNoD : TOD := fun _ M R => R none M
def tPartD (t : TED) : TOD := fun r M R => t r M fun d M1 => match d with
  | .int i => R (some i) M1
  | _ => False
theorem wkO {e : Option Expr} {t t' : TO} (h : PO X e t) (f : ∀ σ H Q, t' σ H Q → t σ H Q) : PO X e t' := ⟨fun pins s σ H Q I q => h.run pins s σ H Q I (f _ _ _ q)⟩
theorem do_none : POd T X none tNoD := wkO po_none fun σ H Q h => by
  obtain ⟨r, M, R, hs, hm, ht, k⟩ := h
  exact k none M H (TL.refl H) hm ht
theorem do_some {e : Expr} {te : TED} (h : PEd T X e te) : POd T X (some e) (tPartD te) := wkO (po_some h) fun σ H Q h => by
  obtain ⟨r, M, R, hs, hm, ht, k⟩ := h
  refine ⟨r, M, _, hs, hm, ht, fun d v M1 H1 t1 r1 m1 q => ?_⟩
  cases d with
  | int i => exact ⟨i, r1, k _ M1 H1 t1 m1 q⟩
  | _ => exact (show False from q).elim
def cutD (ds : List D) (lo hi : Option Int) : List D := (ds.drop (HT.sIx ds.length 0 lo)).take (HT.sIx ds.length ds.length hi - HT.sIx ds.length 0 lo)
def mSl (x : D) (lo hi : Option Int) (M : Mp) (R : VKD) : Prop := match x with
  | .tup ds => R (.tup (cutD ds lo hi)) M
  | .ob a => ∃ ds, M a = some (.lst ds) ∧ ∀ p, M p = none → R (.ob p) (um M p (.lst (cutD ds lo hi)))
  | _ => False
def tSlD (te : TED) (tl th : TOD) : TED := fun r M R => te r M fun x M1 => tl r M1 fun l M2 => th r M2 fun u M3 => mSl x l u M3 R
theorem rds_cut {H : Hp} {ds : List D} {vs : List V} (r : RDs H ds vs) (lo hi : Option Int) : RDs H (cutD ds lo hi) (cutV vs lo hi) := by
  unfold cutD cutV
  rw [r.length]
  exact (r.drop _).take _
theorem cut_whole {ds : List D} {lo hi : Option Int} (h : HT.sIx ds.length 0 lo = 0 ∧ HT.sIx ds.length ds.length hi = ds.length) : cutD ds lo hi = ds := by
  unfold cutD
  rw [h.1, h.2]
  simp
theorem d_slice {e : Expr} {te : TED} {lo hi : Option Expr} {tl th : TOD} {p2 : Pos} (he : PEd T X e te) (hl : POd T X lo tl) (hu : POd T X hi th) : PEd T X (.Subscript e (.Slice lo hi none p2) pos) (tSlD te tl th) :=
  wkE (pe_slice (sl_tupA.or sl_list) he hl hu) fun σ H Q h => by
  obtain ⟨r, M, R, hs, hm, ht, k⟩ := h
  refine ⟨r, M, _, hs, hm, ht, fun d v M1 H1 t1 r1 m1 q => ⟨r, M1, _, hs.mono t1, m1, q, fun l M2 H2 t2 m2 q2 => ⟨r, M2, _, (hs.mono t1).mono t2, m2, q2, fun u M3 H3 t3 m3 q3 => ?_⟩⟩⟩
  have r3 : RD H3 d v := (r1.mono t2).mono t3
  have tt : TL H H3 := (t1.trans t2).trans t3
  cases d with
  | tup ds =>
    obtain ⟨p, vs, rfl, ha, hs⟩ := (show ∃ a vs, v = .ref a ∧ H3 a = some (.tup vs) ∧ RDs H3 ds vs from r3)
    have q3 : R (.tup (cutD ds l u)) M3 := q3
    refine .inl ⟨p, vs, rfl, .of ha, fun hw => ?_, fun _ c hc => ?_⟩
    · rw [hs.length] at hw
      rw [cut_whole hw] at q3
      exact k _ _ M3 H3 tt r3 m3 q3
    · have tn : TL H3 (upd H3 c (.tup (cutV vs l u))) := tl_new hc
      exact k (.tup (cutD ds l u)) _ M3 _ (tt.trans tn) ⟨c, _, rfl, upd_same, (rds_cut hs l u).mono tn⟩ (m3.keep (up_keep hc)) q3
  | ob a =>
    obtain ⟨ds, e1, q3⟩ := (show ∃ ds, M3 a = some (.lst ds) ∧ ∀ p, M3 p = none → R (.ob p) (um M3 p (.lst (cutD ds l u))) from q3)
    obtain ⟨vs, ha, hs⟩ := m3.at_ a _ e1
    refine .inr ⟨a, vs, r3, .of ha, fun c hc => ?_⟩
    have tn : TL H3 (upd H3 c (.lst (cutV vs l u))) := tl_new hc
    obtain ⟨n1, m4⟩ := rm_new (o := .lst (cutD ds l u)) m3 hc ⟨_, upd_same, (rds_cut hs l u).mono tn⟩
    exact k (.ob c) (.ref c) _ _ (tt.trans tn) rfl m4 (q3 c n1)
  | _ => exact (show False from q3).elim

/-! ### + of tuples, of lists; < of tuples of ints -/
def mCat : R2D := fun x y M R => match x, y with
  | .tup ds, .tup es => ds.length + es.length ≤ 1000 ∧ R (.tup (ds ++ es)) M
  | .ob a, .ob b => ∃ ds es, M a = some (.lst ds) ∧ M b = some (.lst es) ∧ ds.length + es.length ≤ 1000 ∧ ∀ p, M p = none → R (.ob p) (um M p (.lst (ds ++ es)))
  | _, _ => False
theorem OpR.or' {f : Value → Value → Sem Value} {r r' : R2} (h : OpR X f r) (h' : OpR X f r') : OpR X f (fun x y H Q => r x y H Q ∨ r' x y H Q) := OpR.or h h'
theorem nil_rds {H : Hp} {ds : List D} {vs : List V} (r : RDs H ds vs) : vs = [] ↔ ds = [] := by
  rw [← List.length_eq_zero_iff, r.length, List.length_eq_zero_iff]
theorem op2_cat : Op2 P w K T mCat (fun x y H Q => rCatA K x y H Q ∨ rCat x y H Q) := by
  intro H M d e v u R Q r1 r2 m h k
  cases d with
  | tup ds =>
    cases e with
    | tup es =>
      obtain ⟨hz, h⟩ := (show ds.length + es.length ≤ 1000 ∧ R (.tup (ds ++ es)) M from h)
      obtain ⟨p, vs, rfl, ha, hs⟩ := (show ∃ a vs, v = .ref a ∧ H a = some (.tup vs) ∧ RDs H ds vs from r1)
      obtain ⟨p', us, rfl, hb, hs'⟩ := (show ∃ a vs, u = .ref a ∧ H a = some (.tup vs) ∧ RDs H es vs from r2)
      refine .inl ⟨p, p', vs, us, rfl, rfl, .of ha, .of hb, by rw [hs.length, hs'.length]; exact Nat.le_of_lt (small1000 hz), fun z => ?_, fun _ z => ?_, fun _ _ c hc => ?_⟩
      · rw [(nil_rds hs).mp z, List.nil_append] at h
        exact k _ _ M H (TL.refl H) r2 m h
      · rw [(nil_rds hs').mp z, List.append_nil] at h
        exact k _ _ M H (TL.refl H) r1 m h
      · have tn : TL H (upd H c (.tup (vs ++ us))) := tl_new hc
        exact k (.tup (ds ++ es)) _ M _ tn ⟨c, _, rfl, upd_same, (hs.append hs').mono tn⟩ (m.keep (up_keep hc)) h
    | _ => exact (show False from h).elim
  | ob a =>
    cases e with
    | ob b =>
      obtain ⟨ds, es, e1, e2, hz, h⟩ := (show ∃ ds es, M a = some (.lst ds) ∧ M b = some (.lst es) ∧ ds.length + es.length ≤ 1000 ∧ ∀ p, M p = none → R (.ob p) (um M p (.lst (ds ++ es))) from h)
      obtain ⟨vs, ha, hs⟩ := m.at_ a _ e1
      obtain ⟨us, hb, hs'⟩ := m.at_ b _ e2
      refine .inr ⟨a, b, vs, us, r1, r2, ha, hb, by rw [hs.length, hs'.length]; exact Nat.le_of_lt (small1000 hz), fun c hc => ?_⟩
      have tn : TL H (upd H c (.lst (vs ++ us))) := tl_new hc
      obtain ⟨n1, m4⟩ := rm_new (o := .lst (ds ++ es)) m hc ⟨_, upd_same, (hs.append hs').mono tn⟩
      exact k (.ob c) (.ref c) _ _ tn rfl m4 (h c n1)
    | _ => exact (show False from h).elim
  | _ => exact (show False from h).elim
theorem d_cat (ha : PEd T X a ta) (hb : PEd T X b tb) : PEd T X (.BinOp a .Add b pos) (tOpD mCat ta tb) := d_op (op_catA.or op_cat) op2_cat ha hb
def mLtT : R2D := fun x y M R => ∃ ns ms : List Int, x = .tup (ns.map D.int) ∧ y = .tup (ms.map D.int) ∧ R (.bl (HT.lexLt ns ms)) M
theorem op2_ltT : Op2 P w K T mLtT (rLtT K) := by
  intro H M d e v u R Q r1 r2 m h k
  obtain ⟨ns, ms, rfl, rfl, h⟩ := h
  obtain ⟨p, vs, rfl, ha, hs⟩ := (show ∃ a vs, v = .ref a ∧ H a = some (.tup vs) ∧ RDs H (ns.map D.int) vs from r1)
  obtain ⟨p', us, rfl, hb, hs'⟩ := (show ∃ a vs, u = .ref a ∧ H a = some (.tup vs) ∧ RDs H (ms.map D.int) vs from r2)
  rw [hs.ints] at ha
  rw [hs'.ints] at hb
  exact ⟨p, p', ns, ms, rfl, rfl, .of ha, .of hb, k _ _ M H (TL.refl H) rd_b m h⟩
theorem d_ltT (hu : X.A.units < cLine) (ha : PEd T X a ta) (hb : PEd T X b tb) : PEd T X (.Compare a [.Lt] [b] pos) (tOpD mLtT ta tb) := d_cmp (op_ltT hu) op2_ltT ha hb (nomark b)

/-! ### in, not in -/
/-- x in a list, a tuple of flat things (ints) -/
def intsOf (M : Mp) : D → List Int → Prop
  | .tup ds, ns => ds = ns.map D.int
  | .ob a, ns => M a = some (.lst (ns.map D.int))
  | _, _ => False
def mInI : R2D := fun x y M R => ∃ i ns, x = .int i ∧ intsOf M y ns ∧ R (.bl (ns.contains i)) M
def mNotInI : R2D := fun x y M R => ∃ i ns, x = .int i ∧ intsOf M y ns ∧ R (.bl (!ns.contains i)) M
theorem inV_ints (i : Int) : ∀ ns : List Int, inV (.int i) (ns.map V.int) = ns.contains i
  | [] => rfl
  | n :: ns => by
    show (eqV (.int n) (.int i) || inV (.int i) (ns.map V.int)) = _
    rw [inV_ints i ns, List.contains_cons]
    show ((n == i) || _) = _
    rw [Bool.beq_comm]
theorem flat_ints : ∀ ns : List Int, (ns.map V.int).all flatV = true
  | [] => rfl
  | n :: ns => flat_ints ns
theorem intsOf_at {M : Mp} {y : D} {u : V} {ns : List Int} (m : RM P w K T M H) (r : RD H y u) (h : intsOf M y ns) : ∃ p, u = .ref p ∧ (SqL K H p (ns.map V.int) ∨ SqT K H p (ns.map V.int)) := by
  cases y with
  | tup ds =>
    cases (show ds = ns.map D.int from h)
    obtain ⟨p, vs, rfl, ha, hs⟩ := (show ∃ a vs, u = .ref a ∧ H a = some (.tup vs) ∧ RDs H (ns.map D.int) vs from r)
    rw [hs.ints] at ha
    exact ⟨p, rfl, .inr (.of ha)⟩
  | ob a =>
    obtain ⟨vs, ha, hs⟩ := m.at_ a _ h
    rw [hs.ints] at ha
    exact ⟨a, r, .inl (.of ha)⟩
  | _ => exact (show False from h).elim
theorem op2_inI : Op2 P w K T mInI (rIn K false) := by
  intro H M d e v u R Q r1 r2 m h k
  obtain ⟨i, ns, rfl, hi, h⟩ := h
  obtain ⟨p, rfl, hq⟩ := intsOf_at m r2 hi
  cases rd_int r1
  exact ⟨p, _, rfl, hq, rfl, flat_ints ns, by
    show Q (.bl (inV _ _)) H
    rw [inV_ints]
    exact k _ _ M H (TL.refl H) rd_b m h⟩
theorem op2_notInI : Op2 P w K T mNotInI (rIn K true) := by
  intro H M d e v u R Q r1 r2 m h k
  obtain ⟨i, ns, rfl, hi, h⟩ := h
  obtain ⟨p, rfl, hq⟩ := intsOf_at m r2 hi
  cases rd_int r1
  exact ⟨p, _, rfl, hq, rfl, flat_ints ns, by
    show Q (.bl (!inV _ _)) H
    rw [inV_ints]
    exact k _ _ M H (TL.refl H) rd_b m h⟩
theorem d_inI (ha : PEd T X a ta) (hb : PEd T X b tb) (hm : behindInMarks .In b = false := by rfl) : PEd T X (.Compare a [.In] [b] pos) (tOpD mInI ta tb) := d_cmp op_in_seq op2_inI ha hb hm
theorem dt_notInI (ha : PEd T X a ta) (hb : PEd T X b tb) (hm : behindInMarks .NotIn b = false := by rfl) : PTd T X (.Compare a [.NotIn] [b] pos) (tTestD (tOpD mNotInI ta tb)) := dt_cmp op_notIn_seq op2_notInI ha hb hm
/-- x in a list of data -/
def mInD : R2D := fun x y M R => match y with
  | .ob a => ∃ ds, M a = some (.lst ds) ∧ D.flat 64 x = true ∧ D.flats 63 ds = true ∧ R (.bl (ds.any fun z => deq z x)) M
  | _ => False
def mNotInD : R2D := fun x y M R => match y with
  | .ob a => ∃ ds, M a = some (.lst ds) ∧ D.flat 64 x = true ∧ D.flats 63 ds = true ∧ R (.bl (!ds.any fun z => deq z x)) M
  | _ => False
theorem any_pys (x : D) : ∀ ds : List D, ((D.pys ds).any fun z => PyData.eqv z x.py) = ds.any fun z => deq z x
  | [] => rfl
  | d :: ds => by
    show (PyData.eqv d.py x.py || (D.pys ds).any _) = (deq d x || ds.any _)
    rw [any_pys x ds]
    rfl
theorem shaped_list {ds : List D} (h : D.flats 63 ds = true) : SeqAt.shaped (.list (D.pys ds)) = true := by
  obtain ⟨h1, h2⟩ := flats_py 63 ds h
  have h3 : PyData.depth (.list (D.pys ds)) ≤ 64 := by simp only [PyData.depth]; omega
  simp [SeqAt.shaped, PyData.canLay0, h1, h3]
theorem op2_inD : Op2 P w K T mInD (rInD K) := by
  intro H M d e v u R Q r1 r2 m h k
  cases e with
  | ob p =>
    obtain ⟨ds, e1, f1, f2, h⟩ := (show ∃ ds, M p = some (.lst ds) ∧ D.flat 64 d = true ∧ D.flats 63 ds = true ∧ R (.bl (ds.any fun z => deq z d)) M from h)
    obtain ⟨vs, ha, hs⟩ := m.at_ p _ e1
    cases (show u = .ref p from r2)
    exact ⟨d.py, D.pys ds, r1.dp f1, .lst (.of ha) (hs.dp f2), shaped_of f1, shaped_list f2, by rw [any_pys]; exact k _ _ M H (TL.refl H) rd_b m h⟩
  | _ => exact (show False from h).elim
theorem op2_notInD : Op2 P w K T mNotInD (rNotInD K) := by
  intro H M d e v u R Q r1 r2 m h k
  cases e with
  | ob p =>
    obtain ⟨ds, e1, f1, f2, h⟩ := (show ∃ ds, M p = some (.lst ds) ∧ D.flat 64 d = true ∧ D.flats 63 ds = true ∧ R (.bl (!ds.any fun z => deq z d)) M from h)
    obtain ⟨vs, ha, hs⟩ := m.at_ p _ e1
    cases (show u = .ref p from r2)
    exact ⟨d.py, D.pys ds, r1.dp f1, .lst (.of ha) (hs.dp f2), shaped_of f1, shaped_list f2, by rw [any_pys]; exact k _ _ M H (TL.refl H) rd_b m h⟩
  | _ => exact (show False from h).elim
theorem dt_inD (hu : X.A.units + 65 < cLine) (ha : PEd T X a ta) (hb : PEd T X b tb) (hm : behindInMarks .In b = false := by rfl) : PTd T X (.Compare a [.In] [b] pos) (tTestD (tOpD mInD ta tb)) := dt_cmp (op_inD hu) op2_inD ha hb hm
theorem dt_notInD (hu : X.A.units + 65 < cLine) (ha : PEd T X a ta) (hb : PEd T X b tb) (hm : behindInMarks .NotIn b = false := by rfl) : PTd T X (.Compare a [.NotIn] [b] pos) (tTestD (tOpD mNotInD ta tb)) := dt_cmp (op_notInD hu) op2_notInD ha hb hm
end

/-! ### built-ins by name -/
def mLen (d : D) (M : Mp) (R : VKD) : Prop := match d with
  | .tup ds => R (.int ds.length) M
  | .ob a => ∃ ds, M a = some (.lst ds) ∧ R (.int ds.length) M
  | _ => False
def mToInt (d : D) (M : Mp) (R : VKD) : Prop := match d with
  | .int i => R (.int i) M
  | .bl b => R (.int (if b then 1 else 0)) M
  | _ => False
def mIsInt (d : D) (M : Mp) (R : VKD) : Prop := match d with
  | .int _ => R (.bl true) M
  | .tup _ => R (.bl false) M
  | _ => False
def mToTup (d : D) (M : Mp) (R : VKD) : Prop := match d with
  | .tup ds => R (.tup ds) M
  | .ob a => ∃ ds, M a = some (.lst ds) ∧ ∃ M2, LE M2 M ∧ R (.tup ds) M2
  | _ => False
def mToLst (d : D) (M : Mp) (R : VKD) : Prop := match d with
  | .tup ds => ∀ p, M p = none → R (.ob p) (um M p (.lst ds))
  | .ob a => ∃ ds, M a = some (.lst ds) ∧ ∀ p, M p = none → R (.ob p) (um M p (.lst ds))
  | _ => False
def mToDct (d : D) (M : Mp) (R : VKD) : Prop := ∃ a kvs, d = .ob a ∧ M a = some (.dI kvs) ∧ ∀ p, M p = none → R (.ob p) (um M p (.dI kvs))
def mAny (d : D) (M : Mp) (R : VKD) : Prop := ∃ (a : Addr) (bs : List Bool), d = .ob a ∧ M a = some (.lst (bs.map D.bl)) ∧ ∃ M2, LE M2 M ∧ R (.bl (bs.any id)) M2
def mAll (d : D) (M : Mp) (R : VKD) : Prop := ∃ (a : Addr) (bs : List Bool), d = .ob a ∧ M a = some (.lst (bs.map D.bl)) ∧ ∃ M2, LE M2 M ∧ R (.bl (bs.all id)) M2
def tUnD (m : D → Mp → VKD → Prop) (t : TED) : TED := fun r M R => t r M fun d M1 => m d M1 R
def Op1 (P : Program) (w : World) (K : PySem.W.Frag) (T : List (Addr × Str)) (m : D → Mp → VKD → Prop) (r : List V → Hp → VK → Prop) : Prop :=
  ∀ {H : Hp} {M : Mp} {d : D} {v : V} {R : VKD} {Q : VK}, RD H d v → RM P w K T M H → m d M R → (∀ d v M' H', TL H H' → RD H' d v → RM P w K T M' H' → R d M' → Q v H') → r [v] H Q
section
variable {P : Program} {w : World} {K : PySem.W.Frag} {T : List (Addr × Str)}
theorem lf_un {m : D → Mp → VKD → Prop} {r : List V → Hp → VK → Prop} (o : Op1 P w K T m r) {t : TED} {σ : L2.St} {H : Hp} {Q : VK} (h : lfE P w K T (tUnD m t) σ H Q) : tCB r (tCons (lfE P w K T t) tNil) σ H Q := by
  obtain ⟨ρ, M, R, hs, hm, ht, k⟩ := h
  refine ⟨ρ, M, _, hs, hm, ht, fun d v M1 H1 t1 r1 m1 q => ?_⟩
  exact o r1 m1 q fun d v M' H' t2 => k d v M' H' (t1.trans t2)
theorem op1_len : Op1 P w K T mLen (fun xs H Q => ∃ x n, xs = [x] ∧ LenV K x H n ∧ Q (.int n) H) := by
  intro H M d v R Q r m h k
  cases d with
  | tup ds =>
    obtain ⟨p, vs, rfl, ha, hs⟩ := (show ∃ a vs, v = .ref a ∧ H a = some (.tup vs) ∧ RDs H ds vs from r)
    exact ⟨_, ds.length, rfl, .inr ⟨vs, .of ha, hs.length.symm⟩, k _ _ M H (TL.refl H) rd_i m h⟩
  | ob p =>
    cases (show v = .ref p from r)
    obtain ⟨ds, e1, h⟩ := (show ∃ ds, M p = some (.lst ds) ∧ R (.int ds.length) M from h)
    obtain ⟨vs, ha, hs⟩ := m.at_ p _ e1
    exact ⟨_, ds.length, rfl, .inl ⟨vs, .of ha, hs.length.symm⟩, k _ _ M H (TL.refl H) rd_i m h⟩
  | _ => exact (show False from h).elim
theorem op1_int : Op1 P w K T mToInt (fun xs H Q => (∃ i, xs = [.int i] ∧ Q (.int i) H) ∨ ∃ k, xs = [.bl k] ∧ Q (.int (if k then 1 else 0)) H) := by
  intro H M d v R Q r m h k
  cases d with
  | int i => cases rd_int r; exact .inl ⟨i, rfl, k _ _ M H (TL.refl H) rd_i m h⟩
  | bl b => cases (show v = .bl b from r); exact .inr ⟨b, rfl, k _ _ M H (TL.refl H) rd_i m h⟩
  | _ => exact (show False from h).elim
theorem op1_tup : Op1 P w K T mToTup (fun xs H Q => ∃ p ys, xs = [.ref p] ∧ ((SqL K H p ys ∧ ∀ l, H l = none → Q (.ref l) (upd H l (.tup ys))) ∨ (SqT K H p ys ∧ Q (.ref p) H))) := by
  intro H M d v R Q r m h k
  cases d with
  | tup ds =>
    obtain ⟨p, vs, rfl, ha, hs⟩ := (show ∃ a vs, v = .ref a ∧ H a = some (.tup vs) ∧ RDs H ds vs from r)
    exact ⟨p, vs, rfl, .inr ⟨.of ha, k _ _ M H (TL.refl H) r m h⟩⟩
  | ob p =>
    cases (show v = .ref p from r)
    obtain ⟨ds, e1, M2, l, h⟩ := (show ∃ ds, M p = some (.lst ds) ∧ ∃ M2, LE M2 M ∧ R (.tup ds) M2 from h)
    obtain ⟨vs, ha, hs⟩ := m.at_ p _ e1
    refine ⟨p, vs, rfl, .inl ⟨.of ha, fun c hc => ?_⟩⟩
    have tn : TL H (upd H c (.tup vs)) := tl_new hc
    exact k (.tup ds) _ M2 _ tn ⟨c, _, rfl, upd_same, hs.mono tn⟩ ((m.le l).keep (up_keep hc)) h
  | _ => exact (show False from h).elim
theorem op1_lst : Op1 P w K T mToLst (fun xs H Q => ∃ p ys, xs = [.ref p] ∧ (SqL K H p ys ∨ SqT K H p ys) ∧ ∀ l, H l = none → Q (.ref l) (upd H l (.lst ys))) := by
  intro H M d v R Q r m h k
  have fin : ∀ {p : Addr} {ds : List D} {vs : List V}, RDs H ds vs → (∀ p, M p = none → R (.ob p) (um M p (.lst ds))) → ∀ l, H l = none → Q (.ref l) (upd H l (.lst vs)) := fun {p ds vs} hs h c hc => by
    have tn : TL H (upd H c (.lst vs)) := tl_new hc
    obtain ⟨n1, m4⟩ := rm_new (o := .lst ds) m hc ⟨_, upd_same, hs.mono tn⟩
    exact k (.ob c) (.ref c) _ _ tn rfl m4 (h c n1)
  cases d with
  | tup ds =>
    obtain ⟨p, vs, rfl, ha, hs⟩ := (show ∃ a vs, v = .ref a ∧ H a = some (.tup vs) ∧ RDs H ds vs from r)
    exact ⟨p, vs, rfl, .inr (.of ha), fin (p := p) hs h⟩
  | ob p =>
    cases (show v = .ref p from r)
    obtain ⟨ds, e1, h⟩ := (show ∃ ds, M p = some (.lst ds) ∧ ∀ p, M p = none → R (.ob p) (um M p (.lst ds)) from h)
    obtain ⟨vs, ha, hs⟩ := m.at_ p _ e1
    exact ⟨p, vs, rfl, .inl (.of ha), fin (p := p) hs h⟩
  | _ => exact (show False from h).elim
theorem op1_dct : Op1 P w K T mToDct (fun xs H Q => ∃ (a : Addr) (kvs : List (Key × V)), xs = [.ref a] ∧ Rd H a (.dK kvs) ∧ ∀ p, H p = none → Q (.ref p) (upd H p (.dK kvs))) := by
  intro H M d v R Q r m h k
  obtain ⟨a, kvs, rfl, e1, h⟩ := h
  cases (show v = .ref a from r)
  obtain ⟨ks, ha, hs⟩ := m.at_ a _ e1
  refine ⟨a, ks, rfl, .of ha, fun c hc => ?_⟩
  have tn : TL H (upd H c (.dK ks)) := tl_new hc
  obtain ⟨n1, m4⟩ := rm_new (o := .dI kvs) m hc ⟨ks, upd_same, Paired.mapQ hs fun p q z => ⟨z.1, z.2.mono tn⟩⟩
  exact k (.ob c) (.ref c) _ _ tn rfl m4 (h c n1)
theorem op1_any : Op1 P w K T mAny (rAny K) := by
  intro H M d v R Q r m h k
  obtain ⟨a, bs, rfl, e1, M2, l, h⟩ := h
  cases (show v = .ref a from r)
  obtain ⟨vs, ha, hs⟩ := m.at_ a _ e1
  rw [hs.bls] at ha
  exact ⟨a, bs, rfl, .of ha, k _ _ M2 H (TL.refl H) rd_b (m.le l) h⟩
theorem op1_all : Op1 P w K T mAll (rAll K) := by
  intro H M d v R Q r m h k
  obtain ⟨a, bs, rfl, e1, M2, l, h⟩ := h
  cases (show v = .ref a from r)
  obtain ⟨vs, ha, hs⟩ := m.at_ a _ e1
  rw [hs.bls] at ha
  exact ⟨a, bs, rfl, .of ha, k _ _ M2 H (TL.refl H) rd_b (m.le l) h⟩
end
section
variable {X : Cx} {T : List (Addr × Str)} {x : Str} {p pos : Pos} {e : Expr} {t : TED} {m : D → Mp → VKD → Prop} {r : List V → Hp → VK → Prop}
theorem d_callB {id : String} (hc : CallR X (.builtin id) r) (o : Op1 X.prog X.w X.K T m r) (hg : Gl X x) (hm : X.mg x = none) (hv : bootBuiltins x = some (.builtin id)) (ha : PEd T X e t) (hn : x ≠ "__name__" := by decide) (hdb : (x == ("__debug__" : Str)) = false := by decide)
    (he : starEach [e] X.env = (false, eval e X.env) :: starEach [] X.env := by rfl) (hpl : (backTo pos (starEach [] X.env)).any (·.1) = false := by rfl) : PEd T X (.Call (.Name x p) [e] [] pos) (tUnD m t) :=
  wkE (pe_callB hc hg hm hv (pa_cons ha pa_nil he) hn hdb he hpl) fun _ _ _ => lf_un o
theorem d_callTy {ty : String} (hc : CallR X (.type ty) r) (o : Op1 X.prog X.w X.K T m r) (hg : Gl X x) (hm : X.mg x = none) (hv : bootBuiltins x = some (.type ty)) (ha : PEd T X e t) (hn : x ≠ "__name__" := by decide) (hdb : (x == ("__debug__" : Str)) = false := by decide)
    (he : starEach [e] X.env = (false, eval e X.env) :: starEach [] X.env := by rfl) (hpl : (backTo pos (starEach [] X.env)).any (·.1) = false := by rfl) : PEd T X (.Call (.Name x p) [e] [] pos) (tUnD m t) :=
  wkE (pe_callTy hc hg hm hv (pa_cons ha pa_nil he) hn hdb he hpl) fun _ _ _ => lf_un o
theorem bb_len : bootBuiltins "len" = some (.builtin "len") := PySem.boot_len
theorem bb_any : bootBuiltins "any" = some (.builtin "any") := by decide +kernel
theorem bb_all : bootBuiltins "all" = some (.builtin "all") := by decide +kernel
theorem bb_int : bootBuiltins "int" = some (.type "int") := by decide +kernel
theorem bb_tuple : bootBuiltins "tuple" = some (.type "tuple") := by decide +kernel
theorem bb_list : bootBuiltins "list" = some (.type "list") := by decide +kernel
theorem bb_dict : bootBuiltins "dict" = some (.type "dict") := by decide +kernel
theorem bb_isi : bootBuiltins "isinstance" = some (.builtin "isinstance") := by decide +kernel
variable (ha : PEd T X e t) (he : starEach [e] X.env = (false, eval e X.env) :: starEach [] X.env := by rfl)
include ha he
theorem d_len (hg : Gl X "len") (hm : X.mg "len" = none) : PEd T X (.Call (.Name "len" p) [e] [] pos) (tUnD mLen t) := d_callB call_len op1_len hg hm bb_len ha (he := he)
theorem d_toInt (hg : Gl X "int") (hm : X.mg "int" = none) : PEd T X (.Call (.Name "int" p) [e] [] pos) (tUnD mToInt t) := d_callTy call_int1 op1_int hg hm bb_int ha (he := he)
theorem d_toTup (hg : Gl X "tuple") (hm : X.mg "tuple" = none) : PEd T X (.Call (.Name "tuple" p) [e] [] pos) (tUnD mToTup t) := d_callTy call_tuple_of op1_tup hg hm bb_tuple ha (he := he)
theorem d_toLst (hg : Gl X "list") (hm : X.mg "list" = none) : PEd T X (.Call (.Name "list" p) [e] [] pos) (tUnD mToLst t) := d_callTy call_list_of op1_lst hg hm bb_list ha (he := he)
theorem d_toDct (hg : Gl X "dict") (hm : X.mg "dict" = none) : PEd T X (.Call (.Name "dict" p) [e] [] pos) (tUnD mToDct t) := d_callTy call_dictD op1_dct hg hm bb_dict ha (he := he)
theorem d_any (hg : Gl X "any") (hm : X.mg "any" = none) (hc : X.calm = true := by rfl) : PEd T X (.Call (.Name "any" p) [e] [] pos) (tUnD mAny t) := d_callB (cr_any hc) op1_any hg hm bb_any ha (he := he)
theorem d_all (hg : Gl X "all") (hm : X.mg "all" = none) (hc : X.calm = true := by rfl) : PEd T X (.Call (.Name "all" p) [e] [] pos) (tUnD mAll t) := d_callB (cr_all hc) op1_all hg hm bb_all ha (he := he)
end
section
variable {X : Cx} {T : List (Addr × Str)} {p q pos : Pos} {e : Expr} {t : TED}
/-- isinstance(x, int) -/
theorem d_isInt (ha : PEd T X e t) (hg : Gl X "isinstance") (hm : X.mg "isinstance" = none) (hg2 : Gl X "int") (hm2 : X.mg "int" = none)
    (he : starEach [e, .Name "int" q] X.env = (false, eval e X.env) :: starEach [.Name "int" q] X.env := by rfl) (he2 : starEach [.Name "int" q] X.env = (false, eval (.Name "int" q) X.env) :: starEach [] X.env := by rfl)
    (hpl : (backTo pos (starEach [.Name "int" q] X.env)).any (·.1) = false := by rfl) : PEd T X (.Call (.Name "isinstance" p) [e, .Name "int" q] [] pos) (tUnD mIsInt t) :=
  wkE (pe_callB call_isi hg hm bb_isi (pa_cons ha (pa_cons (pe_bltn (v := .ty "int") hg2 hm2 bb_int rfl) pa_nil he2) he) (he := he) (hpl := hpl)) fun σ H Q h => by
  obtain ⟨ρ, M, R, hs, hm, ht, k⟩ := h
  refine ⟨ρ, M, _, hs, hm, ht, fun d v M1 H1 t1 r1 m1 q => ?_⟩
  cases d with
  | int i =>
    cases rd_int r1
    exact ⟨.int i, .ty "int", .type "int", .type "int", true, rfl, .ty "int", .base (.int i), kit_ty (by decide +kernel), k _ _ M1 H1 t1 rd_b m1 q⟩
  | tup ds =>
    obtain ⟨a, vs, rfl, ha, hs⟩ := (show ∃ a vs, v = .ref a ∧ H1 a = some (.tup vs) ∧ RDs H1 ds vs from r1)
    exact ⟨.ref a, .ty "int", .type "tuple", .type "int", false, rfl, .ty "int", .base (.tup ha), kit_ty (by decide +kernel), k _ _ M1 H1 t1 rd_b m1 q⟩
  | _ => exact (show False from q).elim
end
end My
set_option maxHeartbeats 4000000
/-! D4: dicts, methods, statements, targets, loops, comprehensions, calls of defs. -/
namespace My
open PySem PySem.Spec PyProof.Rows L2

/-! ### tables -/
section
variable {κ : Type} [DecidableEq κ]
def vD (kvs : List (κ × D)) (k : κ) : Option D := (kvs.find? fun kv => decide (kv.1 = k)).map (·.2)
def pD (kvs : List (κ × D)) (k : κ) (d : D) : List (κ × D) :=
  if (kvs.any fun kv => decide (kv.1 = k)) = true then kvs.map (fun kv => if kv.1 = k then (kv.1, d) else kv) else kvs ++ [(k, d)]
theorem vD_cons {k k' : κ} {d : D} {kvs : List (κ × D)} : vD ((k', d) :: kvs) k = if k' = k then some d else vD kvs k := by
  unfold vD
  rw [List.find?_cons]
  by_cases h : k' = k
  · simp [h]
  · simp [h]
theorem vD_nil {k : κ} : vD ([] : List (κ × D)) k = none := rfl
theorem any_vD (k : κ) : ∀ kvs : List (κ × D), (kvs.any fun kv => decide (kv.1 = k)) = (vD kvs k).isSome
  | [] => rfl
  | (k', d) :: kvs => by
    rw [List.any_cons, any_vD k kvs, vD_cons]
    by_cases h : k' = k <;> simp [h]
theorem vD_map (k j : κ) (d : D) : ∀ kvs : List (κ × D), vD (kvs.map fun kv => if kv.1 = k then (kv.1, d) else kv) j = (vD kvs j).map fun x => if j = k then d else x
  | [] => rfl
  | (k', x) :: kvs => by
    have ih := vD_map k j d kvs
    rw [List.map_cons]
    by_cases h1 : k' = k
    · rw [if_pos h1, vD_cons, vD_cons, ih]
      by_cases h2 : k' = j
      · rw [if_pos h2, if_pos h2]
        simp [← h2, h1]
      · rw [if_neg h2, if_neg h2]
    · rw [if_neg h1, vD_cons, vD_cons, ih]
      by_cases h2 : k' = j
      · rw [if_pos h2, if_pos h2]
        have h3 : ¬ j = k := fun e => h1 (h2.trans e)
        simp [h3]
      · rw [if_neg h2, if_neg h2]
theorem vD_app (k j : κ) (d : D) : ∀ kvs : List (κ × D), vD (kvs ++ [(k, d)]) j = (vD kvs j).or (if k = j then some d else none)
  | [] => by rw [List.nil_append, vD_cons]; rfl
  | (k', x) :: kvs => by
    rw [List.cons_append, vD_cons, vD_cons, vD_app k j d kvs]
    by_cases h : k' = j
    · rw [if_pos h, if_pos h]; rfl
    · rw [if_neg h, if_neg h]
theorem vD_pD (kvs : List (κ × D)) (k j : κ) (d : D) : vD (pD kvs k d) j = if j = k then some d else vD kvs j := by
  unfold pD
  rw [any_vD]
  cases e : vD kvs k with
  | some x =>
    rw [if_pos (show (some x).isSome = true from rfl), vD_map]
    by_cases h : j = k
    · subst h; rw [e]; simp
    · rw [if_neg h]
      cases vD kvs j with
      | none => rfl
      | some y => simp [h]
  | none =>
    rw [if_neg (by simp), vD_app]
    by_cases h : j = k
    · subst h; rw [e]; simp
    · rw [if_neg h]
      have h' : ¬ k = j := fun z => h z.symm
      rw [if_neg h']
      cases vD kvs j <;> rfl
theorem pD_length (kvs : List (κ × D)) (k : κ) (d : D) : (pD kvs k d).length ≤ kvs.length + 1 := by
  unfold pD; split
  · rw [List.length_map]; omega
  · rw [List.length_append]; simp
end
def KR {κ κ' : Type} (f : κ → κ') (H : Hp) : List (κ × D) → List (κ' × V) → Prop := Paired fun p q => q.1 = f p.1 ∧ RD H p.2 q.2
section
variable {κ κ' : Type} [DecidableEq κ] [DecidableEq κ'] {f : κ → κ'} {H : Hp}
theorem KR.get (hf : ∀ a b, f a = f b → a = b) (k : κ) : ∀ {kvs : List (κ × D)} {ks : List (κ' × V)}, KR f H kvs ks → (∀ d, vD kvs k = some d → ∃ v, valV ks (f k) = some v ∧ RD H d v) ∧ (vD kvs k = none → valV ks (f k) = none)
  | _, _, .nil => ⟨fun d h => (nomatch h), fun _ => rfl⟩
  | (k', d') :: kvs, (k2, v2) :: ks, .cons r t => by
    have r1 : k2 = f k' := r.1
    have r2 : RD H d' v2 := r.2
    subst r1
    have ih := KR.get hf k t
    by_cases h : k' = k
    · subst h
      refine ⟨fun d e => ?_, fun e => ?_⟩
      · rw [vD_cons, if_pos rfl] at e
        cases e
        exact ⟨v2, valV_pos rfl, r2⟩
      · rw [vD_cons, if_pos rfl] at e
        cases e
    · have h2 : ¬ f k' = f k := fun e => h (hf _ _ e)
      refine ⟨fun d e => ?_, fun e => ?_⟩
      · rw [vD_cons, if_neg h] at e
        rw [valV_neg h2]
        exact ih.1 d e
      · rw [vD_cons, if_neg h] at e
        rw [valV_neg h2]
        exact ih.2 e
theorem KR.any (hf : ∀ a b, f a = f b → a = b) (k : κ) : ∀ {kvs : List (κ × D)} {ks : List (κ' × V)}, KR f H kvs ks → (kvs.any fun kv => decide (kv.1 = k)) = ks.any fun kv => decide (kv.1 = f k)
  | _, _, .nil => rfl
  | (k', d') :: kvs, (k2, v2) :: ks, .cons r t => by
    have r1 : k2 = f k' := r.1
    rw [List.any_cons, List.any_cons, KR.any hf k t, r1]
    congr 1
    exact decide_eq_decide.mpr ⟨fun e => congrArg f e, hf _ _⟩
theorem KR.len : ∀ {kvs : List (κ × D)} {ks : List (κ' × V)}, KR f H kvs ks → ks.length = kvs.length
  | _, _, .nil => rfl
  | _ :: _, _ :: _, .cons _ t => by rw [List.length_cons, List.length_cons, KR.len t]
theorem KR.app {k : κ} {d : D} {v : V} (r : RD H d v) : ∀ {kvs : List (κ × D)} {ks : List (κ' × V)}, KR f H kvs ks → KR f H (kvs ++ [(k, d)]) (ks ++ [(f k, v)])
  | _, _, .nil => .cons ⟨rfl, r⟩ .nil
  | _ :: _, _ :: _, .cons q t => .cons q (KR.app r t)
theorem KR.rep (hf : ∀ a b, f a = f b → a = b) {k : κ} {d : D} {v : V} (r : RD H d v) : ∀ {kvs : List (κ × D)} {ks : List (κ' × V)}, KR f H kvs ks →
    KR f H (kvs.map fun kv => if kv.1 = k then (kv.1, d) else kv) (ks.map fun kv => if kv.1 = f k then (kv.1, v) else kv)
  | _, _, .nil => .nil
  | (k', d') :: kvs, (k2, v2) :: ks, .cons q t => by
    have r1 : k2 = f k' := q.1
    refine .cons ?_ (KR.rep hf r t)
    show (if k2 = f k then (k2, v) else (k2, v2)).1 = f (if k' = k then (k', d) else (k', d')).1 ∧ RD H (if k' = k then (k', d) else (k', d')).2 (if k2 = f k then (k2, v) else (k2, v2)).2
    subst r1
    by_cases h : k' = k
    · rw [if_pos h, if_pos (by rw [h])]; exact ⟨rfl, r⟩
    · rw [if_neg h, if_neg (fun e => h (hf _ _ e))]; exact ⟨rfl, q.2⟩
theorem KR.put (hf : ∀ a b, f a = f b → a = b) {k : κ} {d : D} {v : V} (r : RD H d v) {kvs : List (κ × D)} {ks : List (κ' × V)} (h : KR f H kvs ks) : KR f H (pD kvs k d) (putK ks (f k) v) := by
  unfold pD putK
  rw [KR.any hf k h]
  split
  · exact KR.rep hf r h
  · exact KR.app r h
end
theorem inl_inj : ∀ a b : Int, (Sum.inl a : Key) = Sum.inl b → a = b := fun _ _ e => Sum.inl.inj e
theorem inls_inj : ∀ a b : List Int, a.map (Sum.inl : Int → Key) = b.map Sum.inl → a = b
  | [], [], _ => rfl
  | [], _ :: _, h => by cases h
  | _ :: _, [], h => by cases h
  | x :: xs, y :: ys, h => by
    rw [List.map_cons, List.map_cons] at h
    injection h with h1 h2
    rw [inl_inj _ _ h1, inls_inj xs ys h2]
theorem kvr {H : Hp} {kvs : List (Int × D)} {ks : List (Key × V)} (h : KVR H kvs ks) : KR (Sum.inl : Int → Key) H kvs ks := h
theorem ktr {H : Hp} {kvs : List (List Int × D)} {ks : List (List Key × V)} (h : KTR H kvs ks) : KR (List.map (Sum.inl : Int → Key)) H kvs ks := h
theorem kV_ints (ns : List Int) : (ns.map (Sum.inl : Int → Key)).map kV = ns.map V.int := by rw [List.map_map]; rfl

section
variable {X : Cx} {T : List (Addr × Str)} {P : Program} {w : World} {K : PySem.W.Frag} {o e f : Expr} {td ty tx : TED} {pos apos cpos : Pos}
/-- what a dict holds -/
def getD1 (M : Mp) (a : Addr) (y : D) (o : Option D) : Prop := (∃ kvs i, M a = some (.dI kvs) ∧ y = .int i ∧ o = vD kvs i) ∨ ∃ kvs ns, M a = some (.dT kvs) ∧ y = .tup (ns.map D.int) ∧ o = vD kvs ns
theorem getD1_at {M : Mp} {H : Hp} {a : Addr} {y : D} {u : V} {ov : Option D} (m : RM P w K T M H) (ry : RD H y u) (h : getD1 M a y ov) : ∃ o', DGet H a u o' ∧ (∀ d, ov = some d → ∃ v, o' = some v ∧ RD H d v) ∧ (ov = none → o' = none) := by
  rcases h with ⟨kvs, i, e, rfl, rfl⟩ | ⟨kvs, ns, e, rfl, rfl⟩
  · obtain ⟨ks, ha, hs⟩ := m.at_ a _ e
    cases rd_int ry
    obtain ⟨h1, h2⟩ := KR.get inl_inj i (kvr hs)
    exact ⟨_, DGet.k (k := Sum.inl i) ha, h1, h2⟩
  · obtain ⟨ks, ha, hs⟩ := m.at_ a _ e
    obtain ⟨p, vs, rfl, hp, hv⟩ := (show ∃ a vs, u = .ref a ∧ H a = some (.tup vs) ∧ RDs H (ns.map D.int) vs from ry)
    obtain ⟨h1, h2⟩ := KR.get inls_inj ns (ktr hs)
    rw [hv.ints, ← kV_ints] at hp
    exact ⟨_, DGet.t ha hp, h1, h2⟩
theorem getD1_isD {M : Mp} {H : Hp} {a : Addr} {o : MO} (m : RM P w K T M H) (h : M a = some o) (ho : (∃ kvs, o = .dI kvs) ∨ ∃ kvs, o = .dT kvs) : IsD H a := by
  rcases ho with ⟨kvs, rfl⟩ | ⟨kvs, rfl⟩
  · obtain ⟨ks, ha, _⟩ := m.at_ a _ h
    exact .inl ⟨ks, .of ha⟩
  · obtain ⟨ks, ha, _⟩ := m.at_ a _ h
    exact .inr ⟨ks, .of ha⟩
/-- d.get(k, x) -/
def tGet2D (td ty tx : TED) : TED := fun r M R => td r M fun x M1 => ∃ a mo, x = .ob a ∧ M1 a = some mo ∧ ((∃ kvs, mo = .dI kvs) ∨ ∃ kvs, mo = .dT kvs) ∧ ty r M1 fun y M2 => tx r M2 fun z M3 => ∃ ov, getD1 M3 a y ov ∧ R (ov.getD z) M3
theorem d_get2 (hu : X.A.units + 1 < cLine) (ho : PEd T X o td) (he : PEd T X e ty) (hf : PEd T X f tx) (m : M2 X o "get" apos e f cpos := by exact ⟨rfl, rfl, rfl, rfl⟩) : PEd T X (.Call (.Attribute o "get" apos) [e, f] [] cpos) (tGet2D td ty tx) :=
  wkE (pe_dget2 hu ho he hf m) fun σ H Q h => by
  obtain ⟨r, M, R, hs, hm, ht, k⟩ := h
  refine ⟨r, M, _, hs, hm, ht, fun d v M1 H1 t1 r1 m1 q => ?_⟩
  obtain ⟨a, mo, rfl, ea, ho, q⟩ := q
  refine ⟨a, r1, getD1_isD m1 ea ho, r, M1, _, hs.mono t1, m1, q, fun y u M2 H2 t2 r2 m2 q2 => ?_⟩
  refine ⟨r, M2, _, (hs.mono t1).mono t2, m2, q2, fun z v2 M3 H3 t3 r3 m3 q3 => ?_⟩
  obtain ⟨ov, g, q3⟩ := q3
  obtain ⟨o', g', g1, g2⟩ := getD1_at m3 (r2.mono t3) g
  refine ⟨o', g', ?_⟩
  have tt := (t1.trans t2).trans t3
  cases ov with
  | none => rw [g2 rfl]; exact k _ _ M3 H3 tt r3 m3 q3
  | some d => obtain ⟨v, e, rv⟩ := g1 d rfl; rw [e]; exact k _ _ M3 H3 tt rv m3 q3
/-- d[k], there -/
def tDGetD (td ty : TED) : TED := fun r M R => td r M fun x M1 => ty r M1 fun y M2 => ∃ a d, x = .ob a ∧ getD1 M2 a y (some d) ∧ R d M2
theorem d_dget (hu : X.A.units + 1 < cLine) (ho : PEd T X o td) (he : PEd T X e ty) (hs : NoSl e := by intro _ _; rfl) : PEd T X (.Subscript o e pos) (tDGetD td ty) := wkE (pe_dget hu ho he hs) fun σ H Q h => by
  obtain ⟨r, M, R, hs, hm, ht, k⟩ := h
  refine ⟨r, M, _, hs, hm, ht, fun x v M1 H1 t1 r1 m1 q => ⟨r, M1, _, hs.mono t1, m1, q, fun y u M2 H2 t2 r2 m2 q2 => ?_⟩⟩
  obtain ⟨a, d, rfl, g, q2⟩ := q2
  obtain ⟨o', g', g1, _⟩ := getD1_at m2 r2 g
  obtain ⟨v', e, rv⟩ := g1 d rfl
  subst e
  exact ⟨a, v', r1, g', k _ _ M2 H2 (t1.trans t2) rv m2 q2⟩
/-- k in d -/
def tDInD (ty td : TED) : TED := fun r M R => ty r M fun y M1 => td r M1 fun x M2 => ∃ a o, x = .ob a ∧ getD1 M2 a y o ∧ R (.bl o.isSome) M2
theorem dt_din (hu : X.A.units + 1 < cLine) (he : PEd T X e ty) (ho : PEd T X o td) (h1 : behindInMarks .In o = false := by rfl) : PTd T X (.Compare e [.In] [o] pos) (tTestD (tDInD ty td)) := wkT (pt_cmp (pc_din hu he ho) h1) fun σ H Q h => by
  obtain ⟨r, M, R, hs, hm, ht, k⟩ := h
  refine ⟨r, M, _, hs, hm, ht, fun y u M1 H1 t1 r1 m1 q => ⟨r, M1, _, hs.mono t1, m1, q, fun x v M2 H2 t2 r2 m2 q2 => ?_⟩⟩
  obtain ⟨a, ov, rfl, g, q2⟩ := q2
  obtain ⟨o', g', g1, g2⟩ := getD1_at m2 (r1.mono t2) g
  refine ⟨a, o', r2, g', _, rfl, ?_⟩
  cases ov with
  | none => rw [g2 rfl]; exact k _ M2 H2 (t1.trans t2) m2 q2
  | some d => obtain ⟨v', e, _⟩ := g1 d rfl; rw [e]; exact k _ M2 H2 (t1.trans t2) m2 q2
end

/-! ### statements -/
def tNextD : TSD := fun E r M => E.nx r M
def tSeqD (t u : TSD) : TSD := fun E r M => t { E with nx := u E } r M
def tDropD (te : TED) : TSD := fun E r M => te r M fun _ M1 => E.nx r M1
def tRetD (te : TED) : TSD := fun E r M => te r M E.rt
def tIfSD (c : TTD) (t u : TSD) : TSD := fun E r M => c r M fun b M1 => bI b (t E r M1) (u E r M1)
def tSetD (i : Nat) (te : TED) : TSD := fun E r M => te r M fun d M1 => E.nx (r.set i (some d)) M1
section
variable {X : Cx} {T : List (Addr × Str)} {P : Program} {w : World} {K : PySem.W.Frag} {σ : L2.St} {H : Hp}
theorem lf_seq {t u : TSD} {E : Ends} (h : lfS P w K T (tSeqD t u) E σ H) : tSeq (lfS P w K T t) (lfS P w K T u) E σ H := by
  obtain ⟨r, M, DD, hs, hm, ht, k1, k2, k3, k4⟩ := h
  exact ⟨r, M, _, hs, hm, ht, fun r' M' σ' H' tl s' m' q => ⟨r', M', DD, s', m', q, fun a b c d t => k1 a b c d (tl.trans t), fun a b c d t => k2 a b c d (tl.trans t), fun a b c d t => k3 a b c d (tl.trans t), fun a b c d t => k4 a b c d (tl.trans t)⟩, k2, k3, k4⟩
variable {st : Stmt} {rest : List Stmt} {t u : TSD} {e : Expr} {te : TED} {pos : Pos}
theorem dss_nil : PSsd T X [] tNextD := wkSs pss_nil fun E σ H h => by
  obtain ⟨r, M, DD, hs, hm, ht, k1, k2, k3, k4⟩ := h
  exact k1 r M σ H (TL.refl H) hs hm ht
theorem dss_cons (h1 : PSd T X st t) (h2 : PSsd T X rest u) : PSsd T X (st :: rest) (tSeqD t u) := wkSs (pss_cons h1 h2) fun _ _ _ => lf_seq
theorem dss_one (h1 : PSd T X st t) : PSsd T X [st] t := pss_one h1
theorem ds_expr (he : PEd T X e te) (hs : swapsWith e none pos.line X.env = pure false := by rfl) : PSd T X (.Expr e pos) (tDropD te) := wkS (ps_expr he hs) fun E σ H h => by
  obtain ⟨r, M, DD, hs, hm, ht, k1, k2, k3, k4⟩ := h
  exact ⟨r, M, _, hs, hm, ht, fun d v M' H' t1 r1 m1 q => k1 r M' σ H' t1 (hs.mono t1) m1 q⟩
theorem ds_ret (he : PEd T X e te) : PSd T X (.Return (some e) pos) (tRetD te) := wkS (ps_ret he) fun E σ H h => by
  obtain ⟨r, M, DD, hs, hm, ht, k1, k2, k3, k4⟩ := h
  exact ⟨r, M, _, hs, hm, ht, fun d v M' H' t1 r1 m1 q => k2 d v M' H' t1 r1 m1 q⟩
theorem ds_if {c : Expr} {a b : List Stmt} {tc : TTD} (hc : PTd T X c tc) (ha : PSsd T X a t) (hb : PSsd T X b u) : PSd T X (.If c a b pos) (tIfSD tc t u) := wkS (ps_if hc ha hb) fun E σ H h => by
  obtain ⟨r, M, DD, hs, hm, ht, k1, k2, k3, k4⟩ := h
  refine ⟨r, M, _, hs, hm, ht, fun b M' H' t1 m1 q => bI_ite ?_⟩
  cases b with
  | true => exact ⟨r, M', DD, hs.mono t1, m1, q, fun a b c d t => k1 a b c d (t1.trans t), fun a b c d t => k2 a b c d (t1.trans t), fun a b c d t => k3 a b c d (t1.trans t), fun a b c d t => k4 a b c d (t1.trans t)⟩
  | false => exact ⟨r, M', DD, hs.mono t1, m1, q, fun a b c d t => k1 a b c d (t1.trans t), fun a b c d t => k2 a b c d (t1.trans t), fun a b c d t => k3 a b c d (t1.trans t), fun a b c d t => k4 a b c d (t1.trans t)⟩
theorem ds_set {i : Nat} {x : Str} {pos' : Pos} (hN : X.N.Nodup) (hx : Loc X.env.scope x) (he : PEd T X e te) (hi : X.N[i]? = some x := by rfl) (hs : swapsWith e (some (.Name x pos')) pos.line X.env = pure false := by rfl) (hf : X.fn x = true ∨ X.env.scope.names.lookup x = some .local := by first | exact .inl rfl | exact .inr rfl | assumption) :
    PSd T X (.Assign [.Name x pos'] e pos) (tSetD i te) := wkS (ps_set hN hi hx he hs hf) fun E σ H h => by
  obtain ⟨r, M, DD, hs, hm, ht, k1, k2, k3, k4⟩ := h
  exact ⟨r, M, _, hs, hm, ht, fun d v M' H' t1 r1 m1 q => k1 _ M' _ H' t1 ((hs.mono t1).set i r1) m1 q⟩
/-- x += e, ints -/
def tAugD (i : Nat) (te : TED) : TSD := fun E r M => match r[i]? with
  | some (some (.int a)) => te r M fun d M1 => (match d with
    | .int b => E.nx (r.set i (some (.int (a + b)))) M1
    | _ => False)
  | _ => False
theorem ds_aug {i : Nat} {x : Str} {pos' : Pos} (hN : X.N.Nodup) (hx : Loc X.env.scope x) (he : PEd T X e te) (hi : X.N[i]? = some x := by rfl) (hf : X.fn x = true ∨ X.env.scope.names.lookup x = some .local := by first | exact .inl rfl | exact .inr rfl | assumption) :
    PSd T X (.AugAssign (.Name x pos') .Add e pos) (tAugD i te) := wkS (ps_aug hN hi hx he ip_add hf) fun E σ H h => by
  obtain ⟨r, M, DD, hs, hm, ht, k1, k2, k3, k4⟩ := h
  have ht : (match r[i]? with
  | some (some (.int a)) => te r M fun d M1 => (match d with
    | .int b => DD.nx (r.set i (some (.int (a + b)))) M1
    | _ => False)
  | _ => False) := ht
  split at ht
  · rename_i a e1
    obtain ⟨v, h1, h2⟩ := hs.at_ i _ e1
    refine ⟨v, h1, r, M, _, hs, hm, ht, fun d u M' H' t1 r1 m1 q => ?_⟩
    cases d with
    | int b => exact ⟨a, b, h2, r1, k1 _ M' _ H' t1 ((hs.mono t1).set i rd_i) m1 q⟩
    | _ => exact (show False from q).elim
  · exact ht.elim
/-- d[k] = v -/
def putD1 (M : Mp) (a : Addr) (y d : D) (M' : Mp) : Prop := (∃ kvs i, M a = some (.dI kvs) ∧ y = .int i ∧ kvs.length < 1000 ∧ M' = um M a (.dI (pD kvs i d))) ∨
  ∃ kvs ns, M a = some (.dT kvs) ∧ y = .tup (ns.map D.int) ∧ kvs.length < 1000 ∧ M' = um M a (.dT (pD kvs ns d))
def tDPutD (td ty tv : TED) : TSD := fun E r M => tv r M fun d M1 => td r M1 fun x M2 => ty r M2 fun y M3 => ∃ a M4, x = .ob a ∧ putD1 M3 a y d M4 ∧ E.nx r M4
theorem ds_dput {o i value : Expr} {td ty tv : TED} {pos' : Pos} (hu : X.A.units + 1 < cLine) (ho : PEd T X o td) (hi : PEd T X i ty) (hv : PEd T X value tv) (hs : swapsWith value (some (.Subscript o i pos')) pos.line X.env = pure false := by rfl) :
    PSd T X (.Assign [.Subscript o i pos'] value pos) (tDPutD td ty tv) := wkS (ps_dput hu ho hi hv hs) fun E σ H h => by
  obtain ⟨r, M, DD, hs, hm, ht, k1, k2, k3, k4⟩ := h
  refine ⟨r, M, _, hs, hm, ht, fun d v M1 H1 t1 r1 m1 q => ⟨r, M1, _, hs.mono t1, m1, q, fun x vx M2 H2 t2 r2 m2 q2 => ⟨r, M2, _, (hs.mono t1).mono t2, m2, q2, fun y vy M3 H3 t3 r3 m3 q3 => ?_⟩⟩⟩
  obtain ⟨a, M4, rfl, p, q3⟩ := q3
  cases (show vx = .ref a from r2)
  have rv : RD H3 d v := (r1.mono t2).mono t3
  have s3 : RS H3 r σ := ((hs.mono t1).mono t2).mono t3
  rcases p with ⟨kvs, i, e, rfl, hl, rfl⟩ | ⟨kvs, ns, e, rfl, hl, rfl⟩
  · obtain ⟨ks, ha, hk⟩ := m3.at_ a _ e
    cases rd_int r3
    have hl' : ks.length < sizeLine := by rw [KR.len (kvr hk)]; exact small1000 (Nat.le_of_lt hl)
    have tn : TL H3 (upd H3 a (.dK (putK ks (Sum.inl i) v))) := tl_wr ha trivial
    refine ⟨a, _, rfl, DPut.k (k := Sum.inl i) ha hl', k1 r _ σ _ (((t1.trans t2).trans t3).trans tn) (s3.mono tn) (m3.write (o := .dI (pD kvs i d)) ha trivial ⟨_, upd_same, ?_⟩) q3⟩
    exact Paired.mapQ (KR.put inl_inj rv (kvr hk)) fun p q z => ⟨z.1, z.2.mono tn⟩
  · obtain ⟨ks, ha, hk⟩ := m3.at_ a _ e
    obtain ⟨p, vs, rfl, hp, hv⟩ := (show ∃ a vs, vy = .ref a ∧ H3 a = some (.tup vs) ∧ RDs H3 (ns.map D.int) vs from r3)
    rw [hv.ints, ← kV_ints] at hp
    have hl' : ks.length < sizeLine := by rw [KR.len (ktr hk)]; exact small1000 (Nat.le_of_lt hl)
    have tn : TL H3 (upd H3 a (.dT (putK ks (ns.map Sum.inl) v))) := tl_wr ha trivial
    refine ⟨a, _, rfl, DPut.t ha hp hl', k1 r _ σ _ (((t1.trans t2).trans t3).trans tn) (s3.mono tn) (m3.write (o := .dT (pD kvs ns d)) ha trivial ⟨_, upd_same, ?_⟩) q3⟩
    exact Paired.mapQ (KR.put inls_inj rv (ktr hk)) fun p q z => ⟨z.1, z.2.mono tn⟩
/-- xs[i] = v -/
def tLPutD (tl ti tv : TED) : TSD := fun E r M => tv r M fun d M1 => tl r M1 fun x M2 => ti r M2 fun y M3 => ∃ a i ds j, x = .ob a ∧ y = .int i ∧ M3 a = some (.lst ds) ∧ ixN ds.length i = some j ∧ E.nx r (um M3 a (.lst (ds.set j d)))
theorem ds_lput {o i value : Expr} {tl ti tv : TED} {pos' : Pos} (ho : PEd T X o tl) (hi : PEd T X i ti) (hv : PEd T X value tv)
    (hs : swapsWithSole [.Subscript o i pos'] value pos.line X.env = pure false := by rfl) (hw : swappedStores [.Subscript o i pos'] value X.env = pure none := by rfl) (h1 : (assignEach [.Subscript o i pos'] X.env).map (·.2) = [assign (.Subscript o i pos') X.env] := by rfl)
    (ha : ∀ v, assign (.Subscript o i pos') X.env v = (do
      let ov ← holding [v] (eval o X.env)
      let iv ← holding [v, ov] (eval i X.env)
      standAt pos'
      holding [v, ov, iv] (setItem ov iv v)
      release [v, ov, iv] []) := by intro _; rfl) :
    PSd T X (.Assign [.Subscript o i pos'] value pos) (tLPutD tl ti tv) := wkS (ps_asg hv (pg_sub ho hi set_list ha) hs hw h1) fun E σ H h => by
  obtain ⟨r, M, DD, hs, hm, ht, k1, k2, k3, k4⟩ := h
  refine ⟨r, M, _, hs, hm, ht, fun d v M1 H1 t1 r1 m1 q => ⟨r, M1, _, hs.mono t1, m1, q, fun x vx M2 H2 t2 r2 m2 q2 => ⟨r, M2, _, (hs.mono t1).mono t2, m2, q2, fun y vy M3 H3 t3 r3 m3 q3 => ?_⟩⟩⟩
  obtain ⟨a, i, ds, j, rfl, rfl, e, hj, q3⟩ := q3
  cases (show vx = .ref a from r2)
  cases rd_int r3
  obtain ⟨vs, ha, hv⟩ := m3.at_ a _ e
  have rv : RD H3 d v := (r1.mono t2).mono t3
  have tn : TL H3 (upd H3 a (.lst (vs.set j v))) := tl_wr ha trivial
  exact ⟨a, vs, i, j, rfl, rfl, ha, by rw [hv.length]; exact hj, k1 r _ σ _ (((t1.trans t2).trans t3).trans tn) ((((hs.mono t1).mono t2).mono t3).mono tn) (m3.write (o := .lst (ds.set j d)) ha trivial ⟨_, upd_same, (hv.set rv j).mono tn⟩) q3⟩
end

/-! ### append -/
def tAppD (to te : TED) : TED := fun r M R => to r M fun x M1 => ∃ a ds0, x = .ob a ∧ M1 a = some (.lst ds0) ∧ te r M1 fun y M2 => ∃ ds, M2 a = some (.lst ds) ∧ ds.length < 1000 ∧ R .non (um M2 a (.lst (ds ++ [y])))
section
variable {X : Cx} {T : List (Addr × Str)} {o e : Expr} {to te : TED} {apos cpos : Pos}
theorem d_append (ho : PEd T X o to) (he : PEd T X e te)
    (hs : starEach [e] X.env = (false, eval e X.env) :: starEach [] X.env := by rfl)
    (hbase : attributeBase o "append" X.env (eval o X.env) = eval o X.env := by rfl)
    (hfew : ((backTo cpos (starEach [e] X.env)).all (fun x => !x.1) && (backToKw cpos (keywordEach [] X.env)).all (fun x => x.1.isSome)
      && decide ([e].length + ([] : List Keyword).length + (if ([] : List Keyword).isEmpty then 0 else 1) < 30)) = true := by rfl)
    (hline : (apos.endLine == cpos.line) = true := by rfl) (hplain : (backTo cpos (starEach [] X.env)).any (·.1) = false := by rfl) :
    PEd T X (.Call (.Attribute o "append" apos) [e] [] cpos) (tAppD to te) :=
  wkE (pe_bm PySem.F.plainAttrs_list PySem.F.slot_list_append PySem.F.type_list_append mt_append ho (pa_cons he pa_nil hs) hbase hfew hline hs hplain) fun σ H Q h => by
  obtain ⟨r, M, R, hs, hm, ht, k⟩ := h
  refine ⟨r, M, _, hs, hm, ht, fun x v M1 H1 t1 r1 m1 q => ?_⟩
  obtain ⟨a, ds0, rfl, e0, q⟩ := q
  cases (show v = .ref a from r1)
  obtain ⟨vs0, ha0, _⟩ := m1.at_ a _ e0
  refine ⟨.inl ⟨rfl, _, .of ha0⟩, r, M1, _, hs.mono t1, m1, q, fun y u M2 H2 t2 r2 m2 q2 => ?_⟩
  obtain ⟨ds, e, hl, q2⟩ := q2
  obtain ⟨vs, ha, hv⟩ := m2.at_ a _ e
  have tn : TL H2 (upd H2 a (.lst (vs ++ [u]))) := tl_wr ha trivial
  exact ⟨a, vs, u, rfl, rfl, ha, by rw [hv.length]; exact small1000 (Nat.le_of_lt hl), k .non .non _ _ ((t1.trans t2).trans tn) rfl (m2.write (o := .lst (ds ++ [y])) ha trivial ⟨_, upd_same, (hv.append (.cons r2 .nil)).mono tn⟩) q2⟩
end
end My
set_option maxHeartbeats 4000000
/-! D5: what is walked, targets, for, comprehensions, calls of defs, the rule of a def. -/
namespace PySem
/-- enumerate over a thing that begins at o: the model's own new -/
theorem my_enum_new {v : Value} {o : Obj} {H : Heap → Prop} (B : Begins v o H) :
    Meets (Builtin.«enumerate.__new__» ⟨[.type "enumerate", v], []⟩) (fun _ R s => H s.heap ∧
      R (.ok (.ret (.ref (s.heap.push o).objs.size))) { s with heap := (s.heap.push o).push { cls := .type "enumerate", data := .fields #[.none, .bool false, .ref s.heap.objs.size, rawInt 0, .none, .none] } }) :=
  .of_wp fun prog w A R s h => by
    obtain ⟨hp, g, d, tk, os⟩ := s
    obtain ⟨h1, h⟩ := h
    have hsub := sub_enumerate
    have q1 : ∀ {A' : Around} {E : Value → Shared → Prop} {Q : Value → Shared → Prop}, Q (.ref hp.objs.size) ⟨hp.push o, g, d, tk, os⟩ → wpAny (model prog w) A' (pyIter v) Q E ⟨hp, g, d, tk, os⟩ :=
      fun q => B.iter prog w _ _ ⟨hp, g, d, tk, os⟩ _ h1 q
    wp_walk using q1
    refine wpAny_stack_any fun st => wpAny_pure ?_
    split
    · rename_i c _ _ _ _ _
      cases (c == Value.type "enumerate")
      · wp_walk using q1
        exact ⟨_, rfl, h⟩
      · wp_walk using q1
        exact ⟨_, rfl, h⟩
    · wp_walk using q1
      exact ⟨_, rfl, h⟩
section
variable {prog : Program} {w : World} {A : Around} {E : Value → Shared → Prop} {s : Shared}
theorem my_enum_begins {v : Value} {o : Obj} {H : Heap → Prop} {Q : Value → Shared → Prop} (B : Begins v o H) (h1 : H s.heap)
    (h : ∀ h', IsEnum h' (s.heap.objs.size + 1) s.heap.objs.size 0 .none → h'.get? s.heap.objs.size = some o → h'.objs.size = s.heap.objs.size + 2 →
      (∀ b o, s.heap.get? b = some o → h'.get? b = some o) → Q (.ref (s.heap.objs.size + 1)) { s with heap := h' }) :
    wpAny (model prog w) A (call (.type "enumerate") [v]) Q E s := by
  refine callType_new F.called_enumerate (by decide) (F.typeCall_enumerate_1 _) (F.newCall_enumerate_1 _) (fun obj => F.args_object_init_2 obj _) F.entry_enumerate_new
    (my_enum_new B) ⟨h1, ?_⟩
  have hz : (s.heap.push o).objs.size = s.heap.objs.size + 1 := Heap.size_push ..
  show _ ∧ _
  rw [hz]
  have he : IsEnum ((s.heap.push o).push { cls := .type "enumerate", data := .fields #[.none, .bool false, .ref s.heap.objs.size, rawInt 0, .none, .none] }) (s.heap.objs.size + 1) s.heap.objs.size 0 .none := by
    have := Heap.get?_push_size (s.heap.push o) (o := { cls := .type "enumerate", data := .fields #[.none, .bool false, .ref s.heap.objs.size, rawInt 0, .none, .none] }) rfl
    rw [hz] at this; exact this
  refine ⟨⟨_, he, rfl⟩, h _ he (Heap.get?_push_of_some _ (Heap.get?_push_size _ B.free)) (by rw [Heap.size_push, hz]) fun b o x => Heap.get?_push_of_some _ (Heap.get?_push_of_some _ x)⟩
end
end PySem

namespace My
open PySem PySem.Spec PyProof.Rows L2
/-! ### enumerate(tuple) -/
def IteT (K : PySem.W.Frag) (a : Addr) : It :=
  ⟨fun i H => ∃ (xs : List V) (x : V), SqT K H a xs ∧ xs[i]? = some x, fun i H v H' => ∃ T x, v = .ref T ∧ H T = none ∧ H' = upd H T (.tup [.int (i : Nat), x]) ∧ ∀ xs, SqT K H a xs → xs[i]? = some x, fun i H => ∃ xs : List V, SqT K H a xs ∧ xs.length = i⟩
theorem turn_enumT {P : Program} {w : World} {K : PySem.W.Frag} {elts : List Expr} {kk : Nat} {tpos : Pos} (a e it : Addr) (hae : a ≠ it) (hae2 : a ≠ e) (hne : e ≠ it) :
    Turn P w K (.Tuple elts kk tpos) (IteT K a) [e, it] e (fun i h => (∃ old, IsEnum h e it ((i : Nat) : Int) old) ∧ h.IsTupleIter it a i) where
  mem := by simp
  obj := fun i h st b hb => by
    obtain ⟨⟨old, he⟩, ⟨o, ho, hc, hd⟩⟩ := st
    have e' : b = e ∨ b = it := by simpa using hb
    rcases e' with z | z
    · subst z; exact ⟨_, he, fun v q => nomatch q⟩
    · subst z; exact ⟨o, ho, fun v q => by rw [hd] at q; cases q⟩
  keep := fun i h h' st k => let ⟨⟨old, he⟩, hi⟩ := st; ⟨⟨old, k e (by simp) _ he⟩, hi.at fun o q => k it (by simp) o q⟩
  item := by
    intro X hP hw hK hc i pins s σ H E I hf st hg
    subst hP hw hK
    obtain ⟨⟨old, he⟩, hit⟩ := st
    obtain ⟨xs, x, hq, hx⟩ := hg
    obtain ⟨its, rv, p, hz⟩ := I.tuple hq
    obtain ⟨u, hu, ru⟩ := rv.get hx
    have hel : e < s.heap.objs.size := Heap.lt_size he
    have hil : it < s.heap.objs.size := by obtain ⟨_, q, _⟩ := id hit; exact Heap.lt_size q
    have hT0 : s.heap.IsTuple a its.toArray := p
    have hlt : i < its.toArray.size := by
      obtain ⟨q, _⟩ := List.getElem?_eq_some_iff.mp hu
      simpa using q
    have Dr := Draws.tuple (prog := X.prog) (w := X.w) (A := X.A.in1) (show X.A.in1.handled = none from I.ok.hd hc) it a hae its.toArray
    have hef : e ∉ [it, a] := by
      intro q
      have q' : e = it ∨ e = a := by simpa using q
      rcases q' with q' | q'
      · exact hne q'
      · exact hae2 q'.symm
    refine wpAny_pyNext_enum_itemC Dr he ⟨hit, hT0⟩ hlt hne hef fun x2 h' tk hP ho hst' hT hsz hk => ?_
    have e2 : x2 = u := by
      have q1 : its.toArray[i]? = some x2 := hP
      have q2 : its.toArray[i]? = some u := by simpa using hu
      rw [q1] at q2
      exact Option.some.inj q2
    subst e2
    refine ⟨_, rfl, wpAny_letOwnedTupleGo_enum (s := { s with heap := h', toks := tk + 1 }) ho fun h'' he' sb => ?_⟩
    have hT2 : h''.get? s.heap.objs.size = some { cls := .type "tuple", data := .seq #[.int i tk, x2] } := (sb.2 _ (Nat.ne_of_gt hel)).trans hT
    have new : ObjOk X.prog X.w (upd H s.heap.objs.size (.tup [.int (i : Nat), x])) h'' s.heap.objs.size (.tup [.int (i : Nat), x]) :=
      ⟨by show 2 ≤ sizeLine; decide, [.int i tk, x2], .cons ⟨_, rfl⟩ (.cons ru .nil), ⟨_, hT2, rfl, _, rfl⟩⟩
    have I1 : Inv X pins σ (upd H s.heap.objs.size (.tup [.int (i : Nat), x])) { s with heap := h'', toks := tk + 1 } :=
      I.turnedNew (ch := [e, it]) (fun b ob hb q => (sb.2 b (fun z => hb (by simp [z]))).trans (hk b ob (fun z => hb (by simp [z])) (fun z => hb (by simp [z])) q)) hf (Nat.le_refl _) new
    refine ⟨.ref s.heap.objs.size, _, I1, rfl, ⟨_, x, rfl, I.hok.fresh (Nat.le_refl _), rfl, fun ys hy => by rw [I.tuple_inj hy hq]; exact hx⟩, ⟨⟨x2, ?_⟩, hst'.1.at fun o q => (sb.2 it (Ne.symm hne)).trans q⟩, fun b hb => ?_⟩
    · have e1 : ((i + 1 : Nat) : Int) = (i : Int) + 1 := by omega
      rw [e1]; exact he'
    · have hb' : b < s.heap.objs.size := by
        have e' : b = e ∨ b = it := by simpa using hb
        rcases e' with z | z
        · rw [z]; exact hel
        · rw [z]; exact hil
      rw [upd_ne (Nat.ne_of_lt hb')]
      exact (hf b hb).1
  done := by
    intro X hP hw hK hc i pins s σ H E I hf st hg
    subst hP hw hK
    obtain ⟨⟨old, he⟩, hit⟩ := st
    obtain ⟨xs, hq, hx⟩ := hg
    obtain ⟨its, rv, p, hz⟩ := I.tuple hq
    obtain ⟨f0, f1, f2, f3, f4, f5⟩ := hf it (by simp)
    have hl := rv.length
    have hT0 : s.heap.IsTuple a its.toArray := p
    have hsz : its.toArray.size = i := by simp; omega
    have Dr := Draws.tuple (prog := X.prog) (w := X.w) (A := X.A.in1) (show X.A.in1.handled = none from I.ok.hd hc) it a hae its.toArray
    exact wpAny_pyNext_enum_endD Dr he (show s.heap.IsTupleIter it a its.toArray.size ∧ s.heap.IsTuple a its.toArray from ⟨by rw [hsz]; exact hit, hT0⟩) fun h' eb => ⟨rfl, I.turned (t' := s.toks) (fun b o hb q => eb b o hb q) f0 f1 f3 f4 f5⟩
  self := fun A i s Q E st h => let ⟨⟨_, he⟩, _⟩ := st; wpAny_pyIter_enum he h
end My
set_option maxHeartbeats 4000000
namespace My
open PySem PySem.Spec PyProof.Rows L2

/-! ### what is walked -/
structure Src where
  items : List D
  keep : Mp → Prop
def WkD (P : Program) (w : World) (K : PySem.W.Frag) (T : List (Addr × Str)) (S : Src) (J : It) (H0 : Hp) : Prop :=
  Walk J S.items.length (fun H => TL H0 H ∧ ∃ M, RM P w K T M H ∧ S.keep M) (fun i H x H' => TL H H' ∧ (∀ M, RM P w K T M H → RM P w K T M H') ∧ ∃ d, S.items[i]? = some d ∧ RD H' d x)
abbrev TID := Rho → Mp → (Src → Mp → Prop) → Prop
def lfI (P : Program) (w : World) (K : PySem.W.Frag) (T : List (Addr × Str)) (t : TID) : TI := fun σ H R => ∃ r M RR, RS H r σ ∧ RM P w K T M H ∧ t r M RR ∧ ∀ S M' H' J, TL H H' → RM P w K T M' H' → S.keep M' → WkD P w K T S J H' → RR S M' → R J H'
abbrev PId (T : List (Addr × Str)) (X : Cx) (tg iter : Expr) (t : TID) : Prop := PI X tg iter (lfI X.prog X.w X.K T t)
section
variable {X : Cx} {T : List (Addr × Str)} {P : Program} {w : World} {K : PySem.W.Frag} {tg : Expr}
theorem wkI {iter : Expr} {t t' : TI} (h : PI X tg iter t) (f : ∀ σ H Q, t' σ H Q → t σ H Q) : PI X tg iter t' := ⟨fun pins s σ H R I q => h.run pins s σ H R I (f _ _ _ q)⟩
/-- a tuple -/
def iTupD (te : TED) : TID := fun r M R => te r M fun d M1 => match d with
  | .tup ds => R ⟨ds, fun _ => True⟩ M1
  | _ => False
/-- a list -/
def iLstD (te : TED) : TID := fun r M R => te r M fun d M1 => match d with
  | .ob a => ∃ ds, M1 a = some (.lst ds) ∧ R ⟨ds, fun M => M a = some (.lst ds)⟩ M1
  | _ => False
theorem wk_tup {H : Hp} {a : Addr} {ds : List D} {vs : List V} (ha : H a = some (.tup vs)) (hs : RDs H ds vs) : WkD P w K T ⟨ds, fun _ => True⟩ (Itt K a) H := by
  have e : ds.length = vs.length := hs.length.symm
  show Walk (Itt K a) ds.length _ _
  rw [e]
  refine (walk_tup (K := K) (a := a) (xs := vs)).mono (fun H' h => .of (h.1 _ _ imm_tup ha)) fun i H1 x H2 hi h y => ?_
  obtain ⟨rfl, y⟩ := y
  obtain ⟨d, h1, h2⟩ := hs.getV y
  exact ⟨TL.refl _, fun _ m => m, d, h1, h2.mono h.1⟩
theorem di_tup {l : Expr} {tl : TED} (hl : PEd T X l tl) : PId T X tg l (iTupD tl) := wkI (pi_tup hl) fun σ H Q h => by
  obtain ⟨r, M, R, hs, hm, ht, k⟩ := h
  refine ⟨r, M, _, hs, hm, ht, fun d v M1 H1 t1 r1 m1 q => ?_⟩
  cases d with
  | tup ds =>
    obtain ⟨a, vs, rfl, ha, hs⟩ := (show ∃ a vs, v = .ref a ∧ H1 a = some (.tup vs) ∧ RDs H1 ds vs from r1)
    exact ⟨a, rfl, ⟨vs, .of ha⟩, k _ M1 H1 _ t1 m1 trivial (wk_tup ha hs) q⟩
  | _ => exact (show False from q).elim
theorem di_lst {l : Expr} {tl : TED} (hl : PEd T X l tl) : PId T X tg l (iLstD tl) := wkI (pi_list hl) fun σ H Q h => by
  obtain ⟨r, M, R, hs, hm, ht, k⟩ := h
  refine ⟨r, M, _, hs, hm, ht, fun d v M1 H1 t1 r1 m1 q => ?_⟩
  cases d with
  | ob a =>
    obtain ⟨ds, e, q⟩ := q
    obtain ⟨vs, ha, hv⟩ := m1.at_ a _ e
    refine ⟨a, r1, ⟨vs, .of ha⟩, k ⟨ds, fun M => M a = some (.lst ds)⟩ M1 H1 _ t1 m1 e ?_ q⟩
    refine ⟨fun i H' hi h => ?_, fun H' h => ?_, fun i H' x H2 hi h y => ?_⟩
    · obtain ⟨_, M', m', e'⟩ := h
      obtain ⟨vs', ha', hv'⟩ := m'.at_ a _ e'
      have hi' : i < vs'.length := by rw [hv'.length]; exact hi
      exact ⟨vs', vs'[i], .of ha', List.getElem?_eq_getElem hi'⟩
    · obtain ⟨_, M', m', e'⟩ := h
      obtain ⟨vs', ha', hv'⟩ := m'.at_ a _ e'
      exact ⟨vs', .of ha', Nat.le_of_eq hv'.length⟩
    · obtain ⟨_, M', m', e'⟩ := h
      obtain ⟨vs', ha', hv'⟩ := m'.at_ a _ e'
      obtain ⟨rfl, y⟩ := y
      obtain ⟨d, h1, h2⟩ := hv'.getV (y vs' (.of ha'))
      exact ⟨TL.refl _, fun _ m => m, d, h1, h2⟩
  | _ => exact (show False from q).elim
/-- range(n) -/
def iRngD (te : TED) : TID := fun r M R => te r M fun d M1 => match d with
  | .int n => n < 1000000 ∧ 0 ≤ n ∧ R ⟨(List.range n.toNat).map fun i => .int (i : Nat), fun _ => True⟩ M1
  | _ => False
theorem di_rng {a : Expr} {ta : TED} {p pos : Pos} (ha : PEd T X a ta) (hg : Gl X "range") (hm : X.mg "range" = none) (hs : starEach [a] X.env = [(false, eval a X.env)] := by rfl) : PId T X tg (.Call (.Name "range" p) [a] [] pos) (iRngD ta) :=
  wkI (pi_range1 hg hm (pa_cons ha pa_nil hs) hs) fun σ H Q h => by
  obtain ⟨r, M, R, hs, hm, ht, k⟩ := h
  refine ⟨r, M, _, hs, hm, ht, fun d v M1 H1 t1 r1 m1 q => ?_⟩
  cases d with
  | int n =>
    obtain ⟨h1, h0, q⟩ := q
    cases rd_int r1
    refine ⟨n, rfl, by omega, by omega, k ⟨(List.range n.toNat).map fun i => .int (i : Nat), fun _ => True⟩ M1 H1 _ t1 m1 trivial ?_ q⟩
    show Walk _ ((List.range n.toNat).map _).length _ _
    rw [List.length_map, List.length_range]
    refine (walk_range (lo := 0) (n := n.toNat)).mono (fun _ _ => trivial) fun i H' x H2 hi h y => ?_
    obtain ⟨rfl, rfl⟩ := y
    refine ⟨TL.refl _, fun _ m => m, .int (i : Nat), ?_, ?_⟩
    · show ((List.range n.toNat).map _)[i]? = _
      rw [List.getElem?_map, List.getElem?_range hi]; rfl
    · show RD H2 _ (V.int (0 + (i : Nat)))
      rw [Int.zero_add]; exact rd_i
  | _ => exact (show False from q).elim
/-- enumerate -/
def enumD : Nat → List D → List D
  | _, [] => []
  | n, d :: ds => .tup [.int (n : Nat), d] :: enumD (n + 1) ds
theorem enumD_len : ∀ (n : Nat) (ds : List D), (enumD n ds).length = ds.length
  | _, [] => rfl
  | n, d :: ds => by rw [enumD, List.length_cons, List.length_cons, enumD_len]
theorem enumD_get : ∀ (n i : Nat) (ds : List D), (enumD n ds)[i]? = ds[i]?.map fun d => .tup [.int ((n + i : Nat) : Int), d]
  | _, _, [] => by simp [enumD]
  | n, 0, d :: ds => rfl
  | n, i + 1, d :: ds => by
    rw [enumD, List.getElem?_cons_succ, List.getElem?_cons_succ, enumD_get]
    congr 1
    funext d
    rw [show n + 1 + i = n + (i + 1) by omega]
def iEnuD (te : TED) : TID := fun r M R => te r M fun d M1 => match d with
  | .tup ds => R ⟨enumD 0 ds, fun _ => True⟩ M1
  | _ => False
def iEnlD (te : TED) : TID := fun r M R => te r M fun d M1 => match d with
  | .ob a => ∃ ds, M1 a = some (.lst ds) ∧ R ⟨enumD 0 ds, fun M => M a = some (.lst ds)⟩ M1
  | _ => False
theorem pair_new {H : Hp} {c : Addr} {i : Int} {d : D} {v : V} (hn : H c = none) (r : RD H d v) : RD (upd H c (.tup [.int i, v])) (.tup [.int i, d]) (.ref c) :=
  ⟨c, _, rfl, upd_same, .cons rfl (.cons (r.mono (tl_new hn)) .nil)⟩
theorem pair_new2 {H : Hp} {c : Addr} {d e : D} {u v : V} (hn : H c = none) (r1 : RD H d u) (r : RD H e v) : RD (upd H c (.tup [u, v])) (.tup [d, e]) (.ref c) :=
  ⟨c, _, rfl, upd_same, .cons (r1.mono (tl_new hn)) (.cons (r.mono (tl_new hn)) .nil)⟩
theorem di_enl {e : Expr} {te : TED} {p pos tpos : Pos} {elts : List Expr} {kk : Nat} (he : PEd T X e te) (hg : Gl X "enumerate") (hm : X.mg "enumerate" = none) (hs : starEach [e] X.env = [(false, eval e X.env)] := by rfl) :
    PId T X (.Tuple elts kk tpos) (.Call (.Name "enumerate" p) [e] [] pos) (iEnlD te) := wkI (pi_enum hg hm (pa_cons he pa_nil hs) hs) fun σ H Q h => by
  obtain ⟨r, M, R, hs, hm, ht, k⟩ := h
  refine ⟨r, M, _, hs, hm, ht, fun d v M1 H1 t1 r1 m1 q => ?_⟩
  cases d with
  | ob a =>
    obtain ⟨ds, e, q⟩ := q
    cases (show v = .ref a from r1)
    obtain ⟨vs, ha, hv⟩ := m1.at_ a _ e
    refine ⟨a, vs, rfl, .of ha, k ⟨enumD 0 ds, fun M => M a = some (.lst ds)⟩ M1 H1 _ t1 m1 e ?_ q⟩
    have fwd : ∀ {H' : Hp}, (TL H1 H' ∧ ∃ M, RM X.prog X.w X.K T M H' ∧ M a = some (.lst ds)) → ∃ vs', H' a = some (.lst vs') ∧ RDs H' ds vs' := fun h => let ⟨_, M', m', e'⟩ := h; m'.at_ a _ e'
    have el := enumD_len 0 ds
    refine ⟨fun i H' hi h => ?_, fun H' h => ?_, fun i H' x H2 hi h y => ?_⟩
    · obtain ⟨vs', ha', hv'⟩ := fwd h
      have hi : i < (enumD 0 ds).length := hi
      have hi' : i < vs'.length := by rw [hv'.length]; omega
      exact ⟨vs', vs'[i], .of ha', List.getElem?_eq_getElem hi'⟩
    · obtain ⟨vs', ha', hv'⟩ := fwd h
      have hl := hv'.length
      exact ⟨vs', .of ha', by show vs'.length ≤ (enumD 0 ds).length; omega⟩
    · obtain ⟨vs', ha', hv'⟩ := fwd h
      obtain ⟨c, x', rfl, hn, rfl, y⟩ := y
      obtain ⟨d, h1, h2⟩ := hv'.getV (y vs' (.of ha'))
      refine ⟨tl_new hn, fun _ m => m.keep (up_keep hn), _, ?_, pair_new hn h2⟩
      show (enumD 0 ds)[i]? = _
      rw [enumD_get, h1, Nat.zero_add]; rfl
  | _ => exact (show False from q).elim
def iEnumT (K : PySem.W.Frag) (ta : TA) : TI := fun σ H R => ta σ H fun vs H1 => ∃ a xs, vs = [.ref a] ∧ SqT K H1 a xs ∧ R (IteT K a) H1
theorem pi_enumT {e : Expr} {ta : TA} {p pos tpos : Pos} {elts : List Expr} {kk : Nat} (hg : Gl X "enumerate") (hm : X.mg "enumerate" = none) (ha : PA X [e] ta) (hs : starEach [e] X.env = [(false, eval e X.env)] := by rfl) :
    PI X (.Tuple elts kk tpos) (.Call (.Name "enumerate" p) [e] [] pos) (iEnumT X.K ta) := by
  refine ⟨fun pins s σ H R I h => ?_⟩
  refine Call_ (ld_blt I hg hm boot_enumerate (PyProof.Rows.callWith_type1 (thn (ha.run pos pins s σ H _ I h) fun us s1 ⟨vs, H1, I1, r1, q1⟩ => ?_) hs rfl))
  obtain ⟨a, xs, ex, hq, q⟩ := q1
  subst ex
  cases r1 with
  | cons r rr =>
    cases rr
    cases r
    obtain ⟨its, rv, p', hz⟩ := I1.tuple hq
    have hT : s1.heap.IsTuple a its.toArray := p'
    have hal : a < s1.heap.objs.size := by obtain ⟨o, ho, _⟩ := id p'; exact Heap.lt_size ho
    refine PySem.my_enum_begins (PySem.begins_tuple a its.toArray) hT fun h' he hit hsz hk => wpAny_pyIter_enum he ?_
    have I2 : Inv X pins σ H1 { s1 with heap := h' } := I1.kept (t' := s1.toks) hk
    have hit2 : h'.IsTupleIter s1.heap.objs.size a 0 := ⟨_, hit, rfl, rfl⟩
    refine ⟨s1.heap.objs.size + 1, [s1.heap.objs.size + 1, s1.heap.objs.size], _, _, H1, rfl, I2, turn_enumT a (s1.heap.objs.size + 1) s1.heap.objs.size (Nat.ne_of_lt hal) (Nat.ne_of_lt (Nat.lt_succ_of_lt hal)) (Nat.succ_ne_self _), ⟨⟨.none, he⟩, hit2⟩, fun b hb => ?_, q⟩
    have e' : b = s1.heap.objs.size + 1 ∨ b = s1.heap.objs.size := by simpa using hb
    have hle : s1.heap.objs.size ≤ b := by
      rcases e' with z | z
      · rw [z]; exact Nat.le_add_right _ _
      · rw [z]; exact Nat.le_refl _
    exact I1.fpOk hle (I1.hok.fresh hle)
theorem di_enu {e : Expr} {te : TED} {p pos tpos : Pos} {elts : List Expr} {kk : Nat} (he : PEd T X e te) (hg : Gl X "enumerate") (hm : X.mg "enumerate" = none) (hs : starEach [e] X.env = [(false, eval e X.env)] := by rfl) :
    PId T X (.Tuple elts kk tpos) (.Call (.Name "enumerate" p) [e] [] pos) (iEnuD te) := wkI (pi_enumT hg hm (pa_cons he pa_nil hs) hs) fun σ H Q h => by
  obtain ⟨r, M, R, hs, hm, ht, k⟩ := h
  refine ⟨r, M, _, hs, hm, ht, fun d v M1 H1 t1 r1 m1 q => ?_⟩
  cases d with
  | tup ds =>
    obtain ⟨a, vs, rfl, ha, hv⟩ := (show ∃ a vs, v = .ref a ∧ H1 a = some (.tup vs) ∧ RDs H1 ds vs from r1)
    refine ⟨a, vs, rfl, .of ha, k ⟨enumD 0 ds, fun _ => True⟩ M1 H1 _ t1 m1 trivial ?_ q⟩
    have el := enumD_len 0 ds
    have hl := hv.length
    refine ⟨fun i H' hi h => ?_, fun H' h => ?_, fun i H' x H2 hi h y => ?_⟩
    · have hi : i < (enumD 0 ds).length := hi
      have hi' : i < vs.length := by omega
      exact ⟨vs, vs[i], .of (h.1 _ _ imm_tup ha), List.getElem?_eq_getElem hi'⟩
    · exact ⟨vs, .of (h.1 _ _ imm_tup ha), by show vs.length = (enumD 0 ds).length; omega⟩
    · obtain ⟨c, x', rfl, hn, rfl, y⟩ := y
      obtain ⟨d, h1, h2⟩ := hv.getV (y vs (.of (h.1 _ _ imm_tup ha)))
      refine ⟨tl_new hn, fun _ m => m.keep (up_keep hn), _, ?_, pair_new hn (h2.mono h.1)⟩
      show (enumD 0 ds)[i]? = _
      rw [enumD_get, h1, Nat.zero_add]; rfl
  | _ => exact (show False from q).elim
/-- zip of two tuples -/
def zipD : List D → List D → List D
  | d :: ds, e :: es => .tup [d, e] :: zipD ds es
  | _, _ => []
theorem zipD_get : ∀ (i : Nat) (ds es : List D) (d e : D), ds[i]? = some d → es[i]? = some e → (zipD ds es)[i]? = some (.tup [d, e])
  | _, [], _, _, _, h, _ => by simp at h
  | _, _ :: _, [], _, _, _, h => by simp at h
  | 0, d :: ds, e :: es, d', e', h1, h2 => by
    cases (show d = d' from Option.some.inj h1)
    cases (show e = e' from Option.some.inj h2)
    rfl
  | i + 1, d :: ds, e :: es, d', e', h1, h2 => zipD_get i ds es d' e' h1 h2
theorem zipD_len : ∀ ds es : List D, (zipD ds es).length = min ds.length es.length
  | [], _ => by simp [zipD]
  | _ :: _, [] => by simp [zipD]
  | d :: ds, e :: es => by rw [zipD, List.length_cons, List.length_cons, List.length_cons, zipD_len]; omega
def iZipD (ta tb : TED) : TID := fun r M R => ta r M fun x M1 => tb r M1 fun y M2 => match x, y with
  | .tup ds, .tup es => R ⟨zipD ds es, fun _ => True⟩ M2
  | _, _ => False
theorem di_zip {e e2 : Expr} {ta tb : TED} {p pos tpos : Pos} {elts : List Expr} {kk : Nat} (ha : PEd T X e ta) (hb : PEd T X e2 tb) (hg : Gl X "zip") (hm : X.mg "zip" = none)
    (hs : starEach [e, e2] X.env = (false, eval e X.env) :: starEach [e2] X.env := by rfl) (hs2 : starEach [e2] X.env = (false, eval e2 X.env) :: starEach [] X.env := by rfl) (hpl : (backTo pos (starEach [e2] X.env)).any (·.1) = false := by rfl) :
    PId T X (.Tuple elts kk tpos) (.Call (.Name "zip" p) [e, e2] [] pos) (iZipD ta tb) := wkI (RZ.pi_zipA hg hm (pa_cons ha (pa_cons hb pa_nil hs2) hs) hs hpl) fun σ H Q h => by
  obtain ⟨r, M, R, hs, hm, ht, k⟩ := h
  refine ⟨r, M, _, hs, hm, ht, fun x v M1 H1 t1 r1 m1 q => ⟨r, M1, _, hs.mono t1, m1, q, fun y u M2 H2 t2 r2 m2 q2 => ?_⟩⟩
  cases x with
  | tup ds =>
    cases y with
    | tup es =>
      obtain ⟨a, vs, rfl, ha, hv⟩ := (show ∃ a vs, v = .ref a ∧ H2 a = some (.tup vs) ∧ RDs H2 ds vs from r1.mono t2)
      obtain ⟨b, us, rfl, hb, hu⟩ := (show ∃ a vs, u = .ref a ∧ H2 a = some (.tup vs) ∧ RDs H2 es vs from r2)
      refine ⟨a, b, vs, us, rfl, .inr ⟨.of ha, .of hb, k ⟨zipD ds es, fun _ => True⟩ M2 H2 _ (t1.trans t2) m2 trivial ?_ q2⟩⟩
      have el := zipD_len ds es
      have hl := hv.length
      have hl2 := hu.length
      refine ⟨fun i H' hi h => ?_, fun H' h => ?_, fun i H' x H3 hi h y => ?_⟩
      · have hi : i < (zipD ds es).length := hi
        have h1 : i < vs.length := by omega
        have h2 : i < us.length := by omega
        exact ⟨vs, us, vs[i], us[i], .of (h.1 _ _ imm_tup ha), .of (h.1 _ _ imm_tup hb), List.getElem?_eq_getElem h1, List.getElem?_eq_getElem h2⟩
      · refine ⟨vs, us, .of (h.1 _ _ imm_tup ha), .of (h.1 _ _ imm_tup hb), ?_⟩
        show vs.length ≤ (zipD ds es).length ∨ us.length ≤ (zipD ds es).length
        omega
      · obtain ⟨c, x1, x2, rfl, hn, rfl, y1, y2⟩ := y
        obtain ⟨d, h1, h2⟩ := hv.getV (y1 vs (.of (h.1 _ _ imm_tup ha)))
        obtain ⟨e, h3, h4⟩ := hu.getV (y2 us (.of (h.1 _ _ imm_tup hb)))
        exact ⟨tl_new hn, fun _ m => m.keep (up_keep hn), _, zipD_get i ds es d e h1 h3, pair_new2 hn (h2.mono h.1) (h4.mono h.1)⟩
    | _ => exact (show False from q2).elim
  | _ => exact (show False from q2).elim
end

/-! ### targets -/
abbrev TGD := D → Rho → Mp → (Rho → Mp → Prop) → Prop
def lfG (P : Program) (w : World) (K : PySem.W.Frag) (T : List (Addr × Str)) (t : TGD) : TG := fun v σ H Q => ∃ d r M R, RD H d v ∧ RS H r σ ∧ RM P w K T M H ∧ t d r M R ∧ ∀ r' σ' M', RS H r' σ' → RM P w K T M' H → R r' M' → Q σ' H
abbrev PGd (T : List (Addr × Str)) (X : Cx) (tg : Expr) (t : TGD) : Prop := PG X tg (lfG X.prog X.w X.K T t)
def gNameD (i : Nat) : TGD := fun d r M Q => Q (r.set i (some d)) M
def gTup2D (i j : Nat) : TGD := fun d r M Q => match d with
  | .tup [x, y] => Q ((r.set i (some x)).set j (some y)) M
  | _ => False
section
variable {X : Cx} {T : List (Addr × Str)}
theorem wkG {tg : Expr} {t t' : TG} (h : PG X tg t) (f : ∀ v σ H Q, t' v σ H Q → t v σ H Q) : PG X tg t' := ⟨fun pins s σ H v u Q I r q => h.run pins s σ H v u Q I r (f _ _ _ _ q)⟩
theorem dg_name {i : Nat} {x : Str} {pos : Pos} (hN : X.N.Nodup) (hx : Loc X.env.scope x) (hi : X.N[i]? = some x := by rfl) (hf : X.fn x = true ∨ X.env.scope.names.lookup x = some .local := by first | exact .inl rfl | exact .inr rfl | assumption) : PGd T X (.Name x pos) (gNameD i) :=
  wkG (pg_name hN hi hx hf) fun v σ H Q h => by
  obtain ⟨d, r, M, R, rd, hs, hm, ht, k⟩ := h
  exact k _ _ M (hs.set i rd) hm ht
theorem gtup2_at {P : Program} {w : World} {K : PySem.W.Frag} {i j : Nat} {v : V} {σ : L2.St} {H : Hp} {Q : L2.St → Hp → Prop} (h : lfG P w K T (gTup2D i j) v σ H Q) : gTup K 2 (gCons (gName i) (gCons (gName j) gNil)) v σ H Q := by
  obtain ⟨d, r, M, R, rd, hs, hm, ht, k⟩ := h
  cases d with
  | tup ds =>
    match ds, ht with
    | [x, y], ht =>
      obtain ⟨a, vs, rfl, ha, hv⟩ := (show ∃ a vs, v = .ref a ∧ H a = some (.tup vs) ∧ RDs H [x, y] vs from rd)
      obtain ⟨v1, r1, rfl, h1, hv⟩ := (show ∃ v r, vs = v :: r ∧ RD H x v ∧ RDs H [y] r from hv)
      obtain ⟨v2, r2, rfl, h2, hv⟩ := (show ∃ v r, r1 = v :: r ∧ RD H y v ∧ RDs H [] r from hv)
      cases (show r2 = [] from hv)
      exact ⟨a, [v1, v2], rfl, .of ha, rfl, v1, [v2], rfl, v2, [], rfl, rfl, k _ _ M ((hs.set i h1).set j h2) hm ht⟩
  | _ => exact (show False from ht).elim
theorem dg_tup2 {i j : Nat} {x y : Str} {p1 p2 pos : Pos} {kk : Nat} (hc : X.calm = true) (hN : X.N.Nodup) (hx : Loc X.env.scope x) (hy : Loc X.env.scope y) (hi : X.N[i]? = some x := by rfl) (hj : X.N[j]? = some y := by rfl)
    (hf : X.fn x = true ∨ X.env.scope.names.lookup x = some .local := by first | exact .inl rfl | exact .inr rfl | assumption) (hf2 : X.fn y = true ∨ X.env.scope.names.lookup y = some .local := by first | exact .inl rfl | exact .inr rfl | assumption)
    (hs2 : (assignEach [.Name y p2] X.env).map (·.2) = assign (.Name y p2) X.env :: (assignEach [] X.env).map (·.2) := by rfl)
    (hs : (assignEach [.Name x p1, .Name y p2] X.env).map (·.2) = assign (.Name x p1) X.env :: (assignEach [.Name y p2] X.env).map (·.2) := by rfl)
    (hn : (assignEach [.Name x p1, .Name y p2] X.env).length = 2 := by rfl) (hst : (assignEach [.Name x p1, .Name y p2] X.env).findIdx? (·.1) = none := by rfl) :
    PGd T X (.Tuple [.Name x p1, .Name y p2] kk pos) (gTup2D i j) :=
  wkG (pg_tup hc (pgs_cons (pg_name hN hi hx hf) (pgs_cons (pg_name hN hj hy hf2) pgs_nil hs2) hs) hn hst) fun v σ H Q => gtup2_at
end

/-! ### for -/
def forD (S : Src) (g : TGD) (tb : TSD) (E : EndsD) (r : Rho) (M1 : Mp) : Prop :=
  ∃ Pv : List D → List D → Rho → Mp → Prop, Pv [] S.items r M1 ∧ (∀ pre post r M, S.items = pre ++ post → Pv pre post r M → S.keep M) ∧
    (∀ pre d post r M, S.items = pre ++ d :: post → Pv pre (d :: post) r M → g d r M fun r2 M2 => tb { E with nx := fun r M => ∃ M', LE M' M ∧ Pv (pre ++ [d]) post r M', ct := fun r M => ∃ M', LE M' M ∧ Pv (pre ++ [d]) post r M', bk := E.nx } r2 M2) ∧
    ∀ r M, Pv S.items [] r M → E.nx r M
def tForD (wi : TID) (g : TGD) (tb : TSD) : TSD := fun E r M => wi r M fun S M1 => forD S g tb E r M1
section
variable {X : Cx} {T : List (Addr × Str)}
theorem split_at {α : Type} {l : List α} {i : Nat} {a : α} (h : l[i]? = some a) : l = l.take i ++ a :: l.drop (i + 1) := by
  obtain ⟨hi, e⟩ := List.getElem?_eq_some_iff.mp h
  rw [← e, ← List.drop_eq_getElem_cons hi, List.take_append_drop]
theorem ds_for {tg iter : Expr} {body : List Stmt} {wi : TID} {g : TGD} {tb : TSD} {pos : Pos} (hp : PassesOwn (model X.prog X.w) X.A X.env X.xe) (hc : X.calm = true) (hi : PId T X tg iter wi) (hg : PGd T X tg g) (hb : PSsd T X body tb)
    (hs : ∀ x, foldedSetIterable iter X.env x = pure x := by intro _; rfl) : PSd T X (.For tg iter body [] pos) (tForD wi g tb) := wkS (ps_for hp hc hi hg hb hs) fun E σ H h => by
  obtain ⟨r, M, DD, hs, hm, ht, k1, k2, k3, k4⟩ := h
  refine ⟨r, M, _, hs, hm, ht, fun S M1 H1 J t1 m1 hk W q => ?_⟩
  obtain ⟨Pv, p0, pk, ps, pe⟩ := q
  refine for_it W (fun i σ' H' => TL H1 H' ∧ ∃ r' M', RS H' r' σ' ∧ RM X.prog X.w X.K T M' H' ∧ Pv (S.items.take i) (S.items.drop i) r' M') ?_ ?_ ?_ ?_
  · exact ⟨TL.refl _, r, M1, hs.mono t1, m1, by simpa using p0⟩
  · rintro i σ' H' hi ⟨tl, r', M', s', m', p⟩
    exact ⟨tl, M', m', pk _ _ _ _ (List.take_append_drop i _).symm p⟩
  · rintro i x σ' H' H2 hi ⟨tl, r', M', s', m', p⟩ ⟨tl2, mk, d, hd, rd⟩
    have e := split_at hd
    have e2 : S.items.drop i = d :: S.items.drop (i + 1) := by
      obtain ⟨hi', e3⟩ := List.getElem?_eq_some_iff.mp hd
      rw [List.drop_eq_getElem_cons hi', e3]
    rw [e2] at p
    have e4 : S.items.take i ++ [d] = S.items.take (i + 1) := by
      rw [List.take_add_one, hd]; rfl
    have q := ps _ d _ r' M' e p
    rw [e4] at q
    refine ⟨d, r', M', _, rd, s'.mono tl2, mk M' m', q, fun r3 σ3 M3 s3 m3 q3 => ?_⟩
    refine ⟨r3, M3, _, s3, m3, q3, ?_, ?_, ?_, ?_⟩
    · rintro r4 M4 σ4 H4 tl4 s4 m4 ⟨M5, le, q4⟩
      exact ⟨(tl.trans tl2).trans tl4, r4, M5, s4, m4.le le, q4⟩
    · exact fun a b c d t => k2 a b c d ((t1.trans (tl.trans tl2)).trans t)
    · exact fun a b c d t => k1 a b c d ((t1.trans (tl.trans tl2)).trans t)
    · rintro r4 M4 σ4 H4 tl4 s4 m4 ⟨M5, le, q4⟩
      exact ⟨(tl.trans tl2).trans tl4, r4, M5, s4, m4.le le, q4⟩
  · rintro σ' H' ⟨tl, r', M', s', m', p⟩
    have e1 : S.items.take S.items.length = S.items := List.take_length
    have e2 : S.items.drop S.items.length = [] := List.drop_length
    rw [e1, e2] at p
    exact k1 r' M' σ' H' (t1.trans tl) s' m' (pe r' M' p)
end
end My
set_option maxHeartbeats 4000000
namespace My
open PySem PySem.Spec PyProof.Rows L2

/-! ### list comprehensions -/
def lcD (S : Src) (i : Nat) (tt : TTD) (te : TED) (p : Addr) (r : Rho) (M1 : Mp) (R : VKD) : Prop :=
  ∃ Pv : List D → List D → List D → Mp → Prop, Pv [] S.items [] (um M1 p (.lst [])) ∧ (∀ pre post out M, S.items = pre ++ post → Pv pre post out M → S.keep M ∧ M p = some (.lst out)) ∧
    (∀ pre d post out M, S.items = pre ++ d :: post → Pv pre (d :: post) out M → tt (r.set i (some d)) M fun b M2 =>
      bI b (te (r.set i (some d)) M2 fun y M3 => M3 p = some (.lst out) ∧ out.length < 1000 ∧ Pv (pre ++ [d]) post (out ++ [y]) (um M3 p (.lst (out ++ [y])))) (Pv (pre ++ [d]) post out M2)) ∧
    ∀ out M, Pv S.items [] out M → R (.ob p) M
def tLcD (wi : TID) (i : Nat) (tt : TTD) (te : TED) : TED := fun r M R => wi r M fun S M1 => ∀ p, M1 p = none → lcD S i tt te p r M1 R
def lcD2 (S : Src) (i j : Nat) (tt : TTD) (te : TED) (p : Addr) (r : Rho) (M1 : Mp) (R : VKD) : Prop :=
  ∃ Pv : List D → List D → List D → Mp → Prop, Pv [] S.items [] (um M1 p (.lst [])) ∧ (∀ pre post out M, S.items = pre ++ post → Pv pre post out M → S.keep M ∧ M p = some (.lst out)) ∧
    (∀ pre d post out M, S.items = pre ++ d :: post → Pv pre (d :: post) out M → ∃ a b, d = .tup [a, b] ∧ tt ((r.set i (some a)).set j (some b)) M fun c M2 =>
      bI c (te ((r.set i (some a)).set j (some b)) M2 fun y M3 => M3 p = some (.lst out) ∧ out.length < 1000 ∧ Pv (pre ++ [d]) post (out ++ [y]) (um M3 p (.lst (out ++ [y])))) (Pv (pre ++ [d]) post out M2)) ∧
    ∀ out M, Pv S.items [] out M → R (.ob p) M
def tLcD2 (wi : TID) (i j : Nat) (tt : TTD) (te : TED) : TED := fun r M R => wi r M fun S M1 => ∀ p, M1 p = none → lcD2 S i j tt te p r M1 R
def tYesD : TTD := fun _ M R => R true M
abbrev PTsd (T : List (Addr × Str)) (X : Cx) (es : List Expr) (t : TTD) : Prop := PTs X es (lfT X.prog X.w X.K T t)
theorem RS.wipe {H : Hp} {r : Rho} {σ : L2.St} (h : RS H r σ) (i : Nat) : RS H (r.set i none) (σ.set i none) := by
  refine ⟨by simpa using h.len, fun j d e => ?_⟩
  by_cases z : i = j
  · subst z
    by_cases hl : i < r.length
    · rw [List.getElem?_set_self hl] at e; cases e
    · rw [List.getElem?_eq_none (by simpa using hl)] at e; cases e
  · rw [List.getElem?_set_ne z] at e ⊢
    exact h.at_ j d e
theorem set_two {α : Type} (r : List α) {i j : Nat} (h : i ≠ j) (a b n : α) : (((r.set j n).set i n).set i a).set j b = (r.set i a).set j b := by
  rw [List.set_set, List.set_comm n a (Ne.symm h), List.set_set]
section
variable {X : Cx} {T : List (Addr × Str)}
theorem dts_nil : PTsd T X [] tYesD := ⟨fun pins s σ H Q I h => by
  obtain ⟨r, M, R, hs, hm, ht, k⟩ := h
  exact pts_nil.run pins s σ H Q I (k true M H (TL.refl H) hm ht)⟩
theorem dts_one {c : Expr} {t : TTD} (h : PTd T X c t) : PTsd T X [c] t := pts_one h
theorem take_drop {α : Type} {l : List α} {i : Nat} {d : α} (h : l[i]? = some d) : l.drop i = d :: l.drop (i + 1) ∧ l.take i ++ [d] = l.take (i + 1) := by
  obtain ⟨hi, e⟩ := List.getElem?_eq_some_iff.mp h
  refine ⟨by rw [List.drop_eq_getElem_cons hi, e], ?_⟩
  rw [List.take_add_one, h] <;> rfl
variable {elt tg iter : Expr} {ifs : List Expr} {scope : Scope} {pos : Pos} {wi : TID} {tt : TTD} {te : TED}
/-- [e for x in ..] -/
theorem d_lc {i : Nat} {x : Str} {xp : Pos} (hc : X.calm = true) (hN : X.N.Nodup) (hi : PId T X (.Name x xp) iter wi) (ok : BlkOk X.N X.env.scope scope [(x, i)])
    (hg : ∀ (s : Shared) (H : Hp) (C : Addr) (cl : List (Str × Addr)) (fp : List Addr), PG (X.blk s H scope (compEnvC scope cl C X.env) fp) (.Name x xp) (gName i))
    (ht : ∀ (s : Shared) (H : Hp) (C : Addr) (cl : List (Str × Addr)) (fp : List Addr), PTsd T (X.blk s H scope (compEnvC scope cl C X.env) fp) ifs tt)
    (he : ∀ (s : Shared) (H : Hp) (C : Addr) (cl : List (Str × Addr)) (fp : List Addr), PEd T (X.blk s H scope (compEnvC scope cl C X.env) fp) elt te) (hs : ∀ x, foldedSetIterable iter X.env x = pure x := by intro _; rfl) :
    PEd T X (.ListComp elt [⟨.Name x xp, iter, ifs, 0⟩] scope pos) (tLcD wi i tt te) :=
  wkE (pe_lc (own := [(x, i)]) (tt := lfT X.prog X.w X.K T tt) (te := lfE X.prog X.w X.K T te) hc hN hi ok hg ht he hs) fun σ H Q h => by
  obtain ⟨r, M, R, hs, hm, ht, k⟩ := h
  refine ⟨r, M, _, hs, hm, ht, fun S M1 H1 J t1 m1 hk W q c hc => ?_⟩
  obtain ⟨n1, m2⟩ := rm_new (ob := .lst []) (o := .lst []) m1 hc ⟨[], upd_same, .nil⟩
  obtain ⟨Pv, p0, pk, ps, pe⟩ := q c n1
  refine lc_it W (fun i H' => TL H1 H' ∧ ∃ M' out, RM X.prog X.w X.K T M' H' ∧ Pv (S.items.take i) (S.items.drop i) out M') ?_ ?_ ?_ ?_
  · exact ⟨tl_new hc, _, [], m2, by simpa using p0⟩
  · rintro i H' hi ⟨tl, M', out, m', p⟩
    exact ⟨tl, M', m', (pk _ _ _ _ (List.take_append_drop i _).symm p).1⟩
  · rintro n y H' H2 hn ⟨tl, M', out, m', p⟩ ⟨tl2, mk, d, hd, rd⟩
    obtain ⟨e2, e4⟩ := take_drop hd
    rw [e2] at p
    have q := ps _ d _ out M' (split_at hd) p
    rw [e4] at q
    refine ⟨?_, r.set i (some d), M', _, ?_, mk M' m', q, fun b M3 H3 t3 m3 q3 => bI_ite ?_⟩
    · show ((σ.set i none).set i (some y)).set i none = σ.set i none
      rw [List.set_set, List.set_set]
    · show RS H2 (r.set i (some d)) ((σ.set i none).set i (some y))
      rw [List.set_set]
      exact (hs.mono ((t1.trans tl).trans tl2)).set i rd
    · have s3 : RS H3 (r.set i (some d)) ((σ.set i none).set i (some y)) := by
        rw [List.set_set]
        exact (hs.mono (((t1.trans tl).trans tl2).trans t3)).set i (rd.mono t3)
      cases b with
      | false => exact ⟨(tl.trans tl2).trans t3, M3, out, m3, q3⟩
      | true =>
        refine ⟨r.set i (some d), M3, _, s3, m3, q3, fun y2 v2 M4 H4 t4 r4 m4 q4 => ?_⟩
        obtain ⟨e5, hl, q4⟩ := q4
        obtain ⟨acc, ha, hv⟩ := m4.at_ c _ e5
        have tn : TL H4 (upd H4 c (.lst (acc ++ [v2]))) := tl_wr ha trivial
        exact ⟨acc, ha, by rw [hv.length]; exact small1000 (Nat.le_of_lt hl), (((tl.trans tl2).trans t3).trans t4).trans tn, _, _, m4.write (o := .lst (out ++ [y2])) ha trivial ⟨_, upd_same, (hv.append (.cons r4 .nil)).mono tn⟩, q4⟩
  · rintro H' ⟨tl, M', out, m', p⟩
    have e1 : S.items.take S.items.length = S.items := List.take_length
    have e2 : S.items.drop S.items.length = [] := List.drop_length
    rw [e1, e2] at p
    exact k (.ob c) (.ref c) M' H' (t1.trans tl) rfl m' (pe out M' p)
/-- [e for k, x in ..] -/
theorem d_lc2 {i j : Nat} {x y : Str} (hij : i ≠ j) (hc : X.calm = true) (hN : X.N.Nodup) (hi : PId T X tg iter wi) (ok : BlkOk X.N X.env.scope scope [(x, i), (y, j)])
    (hg : ∀ (s : Shared) (H : Hp) (C : Addr) (cl : List (Str × Addr)) (fp : List Addr), PG (X.blk s H scope (compEnvC scope cl C X.env) fp) tg (gTup X.K 2 (gCons (gName i) (gCons (gName j) gNil))))
    (ht : ∀ (s : Shared) (H : Hp) (C : Addr) (cl : List (Str × Addr)) (fp : List Addr), PTsd T (X.blk s H scope (compEnvC scope cl C X.env) fp) ifs tt)
    (he : ∀ (s : Shared) (H : Hp) (C : Addr) (cl : List (Str × Addr)) (fp : List Addr), PEd T (X.blk s H scope (compEnvC scope cl C X.env) fp) elt te) (hs : ∀ x, foldedSetIterable iter X.env x = pure x := by intro _; rfl) :
    PEd T X (.ListComp elt [⟨tg, iter, ifs, 0⟩] scope pos) (tLcD2 wi i j tt te) :=
  wkE (pe_lc (own := [(x, i), (y, j)]) (tt := lfT X.prog X.w X.K T tt) (te := lfE X.prog X.w X.K T te) hc hN hi ok hg ht he hs) fun σ H Q h => by
  obtain ⟨r, M, R, hs, hm, ht, k⟩ := h
  refine ⟨r, M, _, hs, hm, ht, fun S M1 H1 J t1 m1 hk W q c hc => ?_⟩
  obtain ⟨n1, m2⟩ := rm_new (ob := .lst []) (o := .lst []) m1 hc ⟨[], upd_same, .nil⟩
  obtain ⟨Pv, p0, pk, ps, pe⟩ := q c n1
  refine lc_it W (fun i H' => TL H1 H' ∧ ∃ M' out, RM X.prog X.w X.K T M' H' ∧ Pv (S.items.take i) (S.items.drop i) out M') ?_ ?_ ?_ ?_
  · exact ⟨tl_new hc, _, [], m2, by simpa using p0⟩
  · rintro i H' hi ⟨tl, M', out, m', p⟩
    exact ⟨tl, M', m', (pk _ _ _ _ (List.take_append_drop i _).symm p).1⟩
  · rintro n z H' H2 hn ⟨tl, M', out, m', p⟩ ⟨tl2, mk, d, hd, rd⟩
    obtain ⟨e2, e4⟩ := take_drop hd
    rw [e2] at p
    obtain ⟨a, b, rfl, q⟩ := ps _ d _ out M' (split_at hd) p
    rw [e4] at q
    obtain ⟨ad, vs, rfl, ha, hv⟩ := (show ∃ a' vs, z = .ref a' ∧ H2 a' = some (.tup vs) ∧ RDs H2 [a, b] vs from rd)
    obtain ⟨v1, r1, rfl, h1, hv⟩ := (show ∃ v r, vs = v :: r ∧ RD H2 a v ∧ RDs H2 [b] r from hv)
    obtain ⟨v2, r2, rfl, h2, hv⟩ := (show ∃ v r, r1 = v :: r ∧ RD H2 b v ∧ RDs H2 [] r from hv)
    cases (show r2 = [] from hv)
    refine ⟨ad, [v1, v2], rfl, .of ha, rfl, v1, [v2], rfl, v2, [], rfl, rfl, ?_⟩
    have ew : ((((σ.set j none).set i none).set i (some v1)).set j (some v2)) = (σ.set i (some v1)).set j (some v2) := set_two σ hij _ _ _
    have s2 : RS H2 ((r.set i (some a)).set j (some b)) ((σ.set i (some v1)).set j (some v2)) := ((hs.mono ((t1.trans tl).trans tl2)).set i h1).set j h2
    refine ⟨?_, (r.set i (some a)).set j (some b), M', _, ?_, mk M' m', q, fun b2 M3 H3 t3 m3 q3 => bI_ite ?_⟩
    · show (((((σ.set j none).set i none).set i (some v1)).set j (some v2)).set j none).set i none = (σ.set j none).set i none
      rw [ew, List.set_set, List.set_comm _ _ hij, List.set_set]
    · show RS H2 _ ((((σ.set j none).set i none).set i (some v1)).set j (some v2))
      rw [ew]; exact s2
    · have s3 : RS H3 ((r.set i (some a)).set j (some b)) ((((σ.set j none).set i none).set i (some v1)).set j (some v2)) := by
        rw [ew]; exact s2.mono t3
      cases b2 with
      | false => exact ⟨(tl.trans tl2).trans t3, M3, out, m3, q3⟩
      | true =>
        refine ⟨_, M3, _, s3, m3, q3, fun y2 v2 M4 H4 t4 r4 m4 q4 => ?_⟩
        obtain ⟨e5, hl, q4⟩ := q4
        obtain ⟨acc, ha, hv⟩ := m4.at_ c _ e5
        have tn : TL H4 (upd H4 c (.lst (acc ++ [v2]))) := tl_wr ha trivial
        exact ⟨acc, ha, by rw [hv.length]; exact small1000 (Nat.le_of_lt hl), (((tl.trans tl2).trans t3).trans t4).trans tn, _, _, m4.write (o := .lst (out ++ [y2])) ha trivial ⟨_, upd_same, (hv.append (.cons r4 .nil)).mono tn⟩, q4⟩
  · rintro H' ⟨tl, M', out, m', p⟩
    have e1 : S.items.take S.items.length = S.items := List.take_length
    have e2 : S.items.drop S.items.length = [] := List.drop_length
    rw [e1, e2] at p
    exact k (.ob c) (.ref c) M' H' (t1.trans tl) rfl m' (pe out M' p)
end
/-- a comprehension whose test and element change nothing -/
theorem lc_pure {S : Src} {i : Nat} {tt : TTD} {te : TED} {p : Addr} {r : Rho} {M1 : Mp} {R : VKD} (b : D → Bool) (f : D → D) (n1 : M1 p = none) (hk : ∀ M, LE M1 M → S.keep M) (hl : S.items.length < 1000)
    (ht : ∀ d ∈ S.items, ∀ M, LE M1 M → ∀ R', R' (b d) M → tt (r.set i (some d)) M R') (he : ∀ d ∈ S.items, b d = true → ∀ M, LE M1 M → ∀ R', R' (f d) M → te (r.set i (some d)) M R')
    (hd : R (.ob p) (um M1 p (.lst ((S.items.filter b).map f)))) : lcD S i tt te p r M1 R := by
  refine ⟨fun pre post out M => out = (pre.filter b).map f ∧ M = um M1 p (.lst out), ⟨rfl, rfl⟩, ?_, ?_, ?_⟩
  · rintro pre post out M e ⟨_, rfl⟩
    exact ⟨hk _ (le_um n1), um_same⟩
  · rintro pre d post out M e ⟨e1, rfl⟩
    have hm : d ∈ S.items := by rw [e]; simp
    refine ht d hm _ (le_um n1) _ ?_
    cases hb : b d with
    | false =>
      refine ⟨?_, rfl⟩
      rw [e1, List.filter_append, List.filter_cons, hb]
      simp
    | true =>
      refine he d hm hb _ (le_um n1) _ ⟨um_same, ?_, ?_, um_um⟩
      · rw [e1, List.length_map]
        refine Nat.lt_of_le_of_lt (List.length_filter_le _ _) (Nat.lt_of_le_of_lt ?_ hl)
        rw [e]; simp
      · rw [e1, List.filter_append, List.filter_cons, hb]
        simp
  · rintro out M ⟨rfl, rfl⟩
    exact hd
theorem lc_map {S : Src} {i : Nat} {te : TED} {p : Addr} {r : Rho} {M1 : Mp} {R : VKD} (f : D → D) (n1 : M1 p = none) (hk : ∀ M, LE M1 M → S.keep M) (hl : S.items.length < 1000)
    (he : ∀ d ∈ S.items, ∀ M, LE M1 M → ∀ R', R' (f d) M → te (r.set i (some d)) M R') (hd : R (.ob p) (um M1 p (.lst (S.items.map f)))) : lcD S i tYesD te p r M1 R := by
  refine lc_pure (fun _ => true) f n1 hk hl (fun d _ M _ R' h => h) (fun d hm _ => he d hm) ?_
  rw [List.filter_eq_self.mpr (fun _ _ => rfl)]
  exact hd
theorem lc_pure2 {S : Src} {i j : Nat} {tt : TTD} {te : TED} {p : Addr} {r : Rho} {M1 : Mp} {R : VKD} (b : D → Bool) (f : D → D) (n1 : M1 p = none) (hk : ∀ M, LE M1 M → S.keep M) (hl : S.items.length < 1000)
    (ht : ∀ d ∈ S.items, ∃ x y, d = .tup [x, y] ∧ ∀ M, LE M1 M → (∀ R', R' (b d) M → tt ((r.set i (some x)).set j (some y)) M R') ∧ (b d = true → ∀ R', R' (f d) M → te ((r.set i (some x)).set j (some y)) M R'))
    (hd : R (.ob p) (um M1 p (.lst ((S.items.filter b).map f)))) : lcD2 S i j tt te p r M1 R := by
  refine ⟨fun pre post out M => out = (pre.filter b).map f ∧ M = um M1 p (.lst out), ⟨rfl, rfl⟩, ?_, ?_, ?_⟩
  · rintro pre post out M e ⟨_, rfl⟩
    exact ⟨hk _ (le_um n1), um_same⟩
  · rintro pre d post out M e ⟨e1, rfl⟩
    have hm : d ∈ S.items := by rw [e]; simp
    obtain ⟨x, y, ed, hh⟩ := ht d hm
    obtain ⟨h1, h2⟩ := hh _ (le_um n1 (o := .lst out))
    refine ⟨x, y, ed, h1 _ ?_⟩
    cases hb : b d with
    | false =>
      refine ⟨?_, rfl⟩
      rw [e1, List.filter_append, List.filter_cons, hb]
      simp
    | true =>
      refine h2 hb _ ⟨um_same, ?_, ?_, um_um⟩
      · rw [e1, List.length_map]
        refine Nat.lt_of_le_of_lt (List.length_filter_le _ _) (Nat.lt_of_le_of_lt ?_ hl)
        rw [e]; simp
      · rw [e1, List.filter_append, List.filter_cons, hb]
        simp
  · rintro out M ⟨rfl, rfl⟩
    exact hd

/-! ### calls of defs -/
abbrev SpD := List D → Mp → VKD → Prop
def lfSp (P : Program) (w : World) (K : PySem.W.Frag) (T : List (Addr × Str)) (sp : SpD) : Sp := fun vs H Q _ => ∃ ds M R, RDs H ds vs ∧ RM P w K T M H ∧ sp ds M R ∧ ∀ d v M' H', TL H H' → RD H' d v → RM P w K T M' H' → R d M' → Q v H'
/-- the name x stands for a def that keeps the promise -/
structure Cal (P : Program) (w : World) (K : PySem.W.Frag) (mg : Str → Option Value) (base : Heap) (T : List (Addr × Str)) (k : Nat) (x : Str) (sp : SpD) : Prop where
  ex : ∃ (f : Addr) (fd : FuncData) (ps : List Str), FnOk P w K mg base CX0 k f fd ps (lfSp P w K T sp) ∧ mg x = some (.ref f) ∧ PySem.W.keepIn K (.ref f) = true ∧ Binds K fd ps []
/-- the def at f keeps the promise -/
structure CalA (P : Program) (w : World) (K : PySem.W.Frag) (mg : Str → Option Value) (base : Heap) (T : List (Addr × Str)) (k : Nat) (f : Addr) (sp : SpD) : Prop where
  ex : ∃ (fd : FuncData) (ps : List Str), FnOk P w K mg base CX0 k f fd ps (lfSp P w K T sp) ∧ PySem.W.keepIn K (.ref f) = true ∧ Binds K fd ps []
def tCallD (sp : SpD) (t : TAD) : TED := fun r M R => t r M fun ds M1 => sp ds M1 R
def tCallLD (i : Nat) (f : Addr) (sp : SpD) (t : TAD) : TED := fun r M R => r[i]? = some (some (.ob f)) ∧ t r M fun ds M1 => sp ds M1 R
section
variable {X : Cx} {T : List (Addr × Str)} {k : Nat} {x : Str} {sp : SpD} {p pos : Pos} {e : Expr} {es : List Expr} {t : TAD}
theorem lf_call {P : Program} {w : World} {K : PySem.W.Frag} {σ : L2.St} {H : Hp} {Q : VK} (h : lfE P w K T (tCallD sp t) σ H Q) : tCall (lfSp P w K T sp) [] E0 (lfA P w K T t) σ H Q := by
  obtain ⟨r, M, R, hs, hm, ht, k⟩ := h
  refine ⟨r, M, _, hs, hm, ht, fun ds vs M1 H1 t1 r1 m1 q => ?_⟩
  show lfSp P w K T sp (vs ++ []) H1 Q E0
  rw [List.append_nil]
  exact ⟨ds, M1, R, r1, m1, q, fun d v M' H' t2 => k d v M' H' (t1.trans t2)⟩
theorem d_call (C : Cal X.prog X.w X.K X.mg X.base T k x sp) (hr : Room k X.A) (hg : Gl X x) (ha : PAd T X (e :: es) t) (hdb : (x == ("__debug__" : Str)) = false := by decide)
    (he : starEach (e :: es) X.env = (false, eval e X.env) :: starEach es X.env := by rfl) (hpl : (backTo pos (starEach es X.env)).any (·.1) = false := by rfl) : PEd T X (.Call (.Name x p) (e :: es) [] pos) (tCallD sp t) := by
  obtain ⟨f, fd, ps, F, hm, hk, hb⟩ := C.ex
  exact wkE (pe_call F hr hg hm hk hb .nil pass0 ha hdb he hpl) fun _ _ _ => lf_call
theorem d_callL {i : Nat} {f : Addr} (C : CalA X.prog X.w X.K X.mg X.base T k f sp) (hr : Room k X.A) (hv : Vis X.env.scope x) (ha : PAd T X (e :: es) t) (hN : X.N[i]? = some x := by rfl) (hdb : (x == ("__debug__" : Str)) = false := by decide) (hcd : (x == ("__classdict__" : Str)) = false := by decide)
    (he : starEach (e :: es) X.env = (false, eval e X.env) :: starEach es X.env := by rfl) (hpl : (backTo pos (starEach es X.env)).any (·.1) = false := by rfl) : PEd T X (.Call (.Name x p) (e :: es) [] pos) (tCallLD i f sp t) := by
  obtain ⟨fd, ps, F, hk, hb⟩ := C.ex
  exact wkE (pe_callL (i := i) F hr hN hv hk hb .nil pass0 ha hdb hcd he hpl) fun σ H Q h => by
    obtain ⟨r, M, R, hs, hm, ⟨e1, ht⟩, k⟩ := h
    obtain ⟨v, h1, h2⟩ := hs.at_ i _ e1
    cases (show v = .ref f from h2)
    exact ⟨h1, lf_call ⟨r, M, R, hs, hm, ht, k⟩⟩
end

/-! ### a def by its body -/
def startD (N : List Str) (ds : List D) : Rho := ds.map some ++ List.replicate (N.length - ds.length) none
theorem start_rs {H : Hp} {N : List Str} {ds : List D} {vs : List V} (r : RDs H ds vs) : RS H (startD N ds) (L2.start N vs) := by
  have hl := r.length
  refine ⟨?_, fun i d e => ?_⟩
  · unfold startD L2.start
    rw [List.length_append, List.length_append, List.length_map, List.length_map, List.length_replicate, List.length_replicate, hl]
  · unfold startD at e
    unfold L2.start
    by_cases h : i < ds.length
    · rw [List.getElem?_append_left (by simpa using h), List.getElem?_map] at e
      cases e2 : ds[i]? with
      | none => rw [e2] at e; cases e
      | some d2 =>
        rw [e2] at e
        cases e
        obtain ⟨v, h1, h2⟩ := r.get e2
        refine ⟨v, ?_, h2⟩
        rw [List.getElem?_append_left (by simp; omega), List.getElem?_map, h1]; rfl
    · rw [List.getElem?_append_right (by simp; omega), List.getElem?_replicate] at e
      split at e <;> cases e
section
variable {P : Program} {w : World} {K : PySem.W.Frag} {mg : Str → Option Value} {base : Heap} {T : List (Addr × Str)}
abbrev endD (R : VKD) : EndsD := { nx := fun _ M' => ∃ M2, LE M2 M' ∧ R .non M2, rt := fun d M' => ∃ M2, LE M2 M' ∧ R d M2 }
theorem dfn {x qual : Str} {params : Arguments} {body : List Stmt} {scope : Scope} {f : Addr} {fd : FuncData} {N ps : List Str} {k : Nat} {sp : SpD} {t : TSD} (F : FunD K x qual params body scope [] [] f fd) (S : FnScope N ps scope)
    (hder : ∀ (cdv : Value) (A : Around) (outer : List Env) (s : Shared) (H : Hp) (E : XK), Room k (A.deeper (envOfC qual scope s.heap.objs.size f cdv)) → PSsd T (cxOf CX0 P w K mg base N qual scope f cdv A outer s H E).nox body t)
    (len : ∀ ds M R, sp ds M R → ds.length = ps.length) (hread : ∀ ds M R, sp ds M R → t (endD R) (startD N ds) M) : FnOk P w K mg base CX0 (k + 1) f fd ps (lfSp P w K T sp) := by
  refine F.ok S (fun vs H Q E h => ?_) fun cdv A outer s H vs Q E hr h => ?_
  · obtain ⟨ds, M, R, r, m, h, _⟩ := h
    rw [r.length]; exact len ds M R h
  · obtain ⟨ds, M, R, r, m, h, kk⟩ := h
    refine ⟨_, (hder cdv A outer s H E hr).nox, startD N ds, M, endD R, start_rs r, m, hread ds M R h, ?_, ?_, ?_, ?_⟩
    · rintro r' M' σ' H' tl _ m' ⟨M2, le, q⟩
      exact kk .non .non M2 H' tl rfl (m'.le le) q
    · rintro d v M' H' tl rd m' ⟨M2, le, q⟩
      exact kk d v M2 H' tl rd (m'.le le) q
    · intro _ _ _ _ _ _ _ z; exact z
    · intro _ _ _ _ _ _ _ z; exact z
end
end My
set_option maxHeartbeats 4000000
/-! D8: the text; a def of the top and its promise. -/
namespace My
open PySem PySem.Spec PyProof.Rows L2
def top (i : Nat) : Stmt := PySem.Challenge.pw_lastproof_k44_whole_simplifications_keep.main.body.getD i (.Pass (Pos.mk 0 0 0 0))
/-- the name x stands for the def st of the top -/
def DefAt (K : PySem.W.Frag) (mg : Str → Option Value) (x : Str) (st : Stmt) : Prop := ∃ (f : Addr) (fd : FuncData), FunD K x x (defArgs st) (defBody st) (defScope st) [] [] f fd ∧ mg x = some (.ref f)
section
variable {P : Program} {w : World} {K : PySem.W.Frag} {mg : Str → Option Value} {base : Heap} {T : List (Addr × Str)} {x : Str} {st : Stmt} {N ps : List Str} {k j : Nat} {sp : SpD}
theorem Cal.up (C : Cal P w K mg base T j x sp) (h : j ≤ k) : Cal P w K mg base T k x sp :=
  let ⟨f, fd, ps, F, hm, hk, hb⟩ := C.ex
  ⟨f, fd, ps, F.mono h, hm, hk, hb⟩
theorem Cal.weak {sp' : SpD} (C : Cal P w K mg base T k x sp) (h : ∀ ds M R, sp' ds M R → sp ds M R) : Cal P w K mg base T k x sp' :=
  let ⟨f, fd, ps, F, hm, hk, hb⟩ := C.ex
  ⟨f, fd, ps, F.imp fun vs H Q E q => let ⟨ds, M, R, r, m, q, kk⟩ := q; ⟨ds, M, R, r, m, h ds M R q, kk⟩, hm, hk, hb⟩
/-- THE RULE of a def of the top -/
theorem dcal {t : TSD} (DA : DefAt K mg x st) (S : FnScope N ps (defScope st))
    (hb : ∀ (kV doc pm : Value) (an : Option Addr) (cdv ct : Value) (us : List Value), us.length = ps.length → bindArgs (PySem.W.fnOf x x (defArgs st) (defBody st) (defScope st) .none kV doc pm an cdv ct) ⟨us, []⟩ = pure (ps.zip us))
    (hder : ∀ (f : Addr) (cdv : Value) (A : Around) (outer : List Env) (s : Shared) (H : Hp) (E : XK), Room k (A.deeper (envOfC x (defScope st) s.heap.objs.size f cdv)) → PSsd T (cxOf CX0 P w K mg base N x (defScope st) f cdv A outer s H E).nox (defBody st) t)
    (len : ∀ ds M R, sp ds M R → ds.length = ps.length) (hread : ∀ ds M R, sp ds M R → t (endD R) (startD N ds) M) : Cal P w K mg base T (k + 1) x sp := by
  obtain ⟨f, fd, F, hm⟩ := DA
  exact ⟨f, fd, ps, dfn F S (hder f) len hread, hm, F.kp, F.bindsN hb⟩
/-- nothing is promised -/
theorem cal_none (DA : DefAt K mg x st) (ps : List Str)
    (hb : ∀ (kV doc pm : Value) (an : Option Addr) (cdv ct : Value) (us : List Value), us.length = ps.length → bindArgs (PySem.W.fnOf x x (defArgs st) (defBody st) (defScope st) .none kV doc pm an cdv ct) ⟨us, []⟩ = pure (ps.zip us))
    (no : ∀ ds M R, ¬ sp ds M R) : Cal P w K mg base T k x sp := by
  obtain ⟨f, fd, F, hm⟩ := DA
  have no' : ∀ vs H Q E, ¬ lfSp P w K T sp vs H Q E := fun vs H Q E q => let ⟨ds, M, R, _, _, q, _⟩ := q; no ds M R q
  exact ⟨f, fd, ps, ⟨fun vs H Q E h => absurd h (no' vs H Q E), fun A outer s H args us vs Q E _ _ _ _ h => absurd h (no' vs H Q E)⟩, hm, F.kp, F.bindsN hb⟩
end
/-- what is returned: the rest of the map may be dropped -/
theorem ret {R : VKD} {d : D} {M : Mp} (h : R d M) : ∃ M2, LE M2 M ∧ R d M2 := ⟨M, LE.refl M, h⟩
theorem retD {R : VKD} {d : D} {M M2 : Mp} (l : LE M2 M) (h : R d M2) : ∃ M2, LE M2 M ∧ R d M2 := ⟨M2, l, h⟩
end My
set_option maxHeartbeats 4000000
/-! M1: terms, literals, clauses as plain data; their encodings. -/
namespace My
open PySem PySem.Spec PyProof.Rows L2

abbrev Sym := Int × Int × Int
inductive Tm where
  | var (x : Int)
  | app (f : Sym) (as : List Tm)
mutual
theorem Tm.ind {P : Tm → Prop} (hv : ∀ x, P (.var x)) (ha : ∀ f as, (∀ a ∈ as, P a) → P (.app f as)) : ∀ t, P t
  | .var x => hv x
  | .app f as => ha f as (Tm.inds hv ha as)
theorem Tm.inds {P : Tm → Prop} (hv : ∀ x, P (.var x)) (ha : ∀ f as, (∀ a ∈ as, P a) → P (.app f as)) : ∀ as : List Tm, ∀ a ∈ as, P a
  | [], a, h => by cases h
  | b :: bs, a, h => by
    rcases List.mem_cons.mp h with e | h
    · rw [e]; exact Tm.ind hv ha b
    · exact Tm.inds hv ha bs a h
end
noncomputable instance : DecidableEq Tm := fun a b => Classical.propDecidable (a = b)
/-- a symbol as data -/
def esym (f : Sym) : D := .tup [.int f.1, .int f.2.1, .int f.2.2]
mutual
def enc : Tm → D
  | .var x => .int x
  | .app f as => .tup [esym f, .tup (encs as)]
def encs : List Tm → List D
  | [] => []
  | a :: as => enc a :: encs as
end
theorem encs_map : ∀ as : List Tm, encs as = as.map enc
  | [] => rfl
  | a :: as => by rw [encs, encs_map as]; rfl
theorem enc_app (f : Sym) (as : List Tm) : enc (.app f as) = .tup [esym f, .tup (as.map enc)] := by rw [enc, encs_map]
theorem enc_var (x : Int) : enc (.var x) = .int x := rfl
mutual
def Tm.size : Tm → Nat
  | .var _ => 1
  | .app _ as => Tm.sizes as + 1
def Tm.sizes : List Tm → Nat
  | [] => 0
  | a :: as => a.size + Tm.sizes as
end
theorem size_app (f : Sym) (as : List Tm) : (Tm.app f as).size = Tm.sizes as + 1 := by rw [Tm.size]
theorem size_pos : ∀ t : Tm, 1 ≤ t.size
  | .var _ => by rw [Tm.size]; exact Nat.le_refl 1
  | .app _ _ => by rw [Tm.size]; omega
theorem size_mem : ∀ {as : List Tm} {a : Tm}, a ∈ as → a.size ≤ Tm.sizes as
  | b :: bs, a, h => by
    rw [Tm.sizes]
    rcases List.mem_cons.mp h with e | h
    · rw [e]; omega
    · have := size_mem h; omega
theorem sizes_append : ∀ as bs : List Tm, Tm.sizes (as ++ bs) = Tm.sizes as + Tm.sizes bs
  | [], bs => by rw [List.nil_append, Tm.sizes]; omega
  | a :: as, bs => by rw [List.cons_append, Tm.sizes, Tm.sizes, sizes_append as bs]; omega
theorem length_sizes : ∀ as : List Tm, as.length ≤ Tm.sizes as
  | [] => Nat.zero_le _
  | a :: as => by rw [List.length_cons, Tm.sizes]; have := length_sizes as; have := size_pos a; omega
/-- strong induction by the size -/
theorem Tm.sind {P : Tm → Prop} (h : ∀ t, (∀ u, u.size < t.size → P u) → P t) : ∀ t, P t := fun t => by
  have : ∀ n, ∀ t : Tm, t.size < n → P t := fun n => by
    induction n with
    | zero => intro t ht; omega
    | succ n ih => intro t ht; exact h t fun u hu => ih u (by omega)
  exact this (t.size + 1) t (Nat.lt_succ_self _)

/-! ### == of encodings -/
theorem deq_int (i j : Int) : deq (.int i) (.int j) = (i == j) := by simp [deq, D.py, PyData.eqv]
theorem deq_bl (i j : Bool) : deq (.bl i) (.bl j) = (i == j) := by simp [deq, D.py, PyData.eqv]
theorem deq_tup (xs ys : List D) : deq (.tup xs) (.tup ys) = PyData.eqvAll (D.pys xs) (D.pys ys) := by simp [deq, D.py, PyData.eqv]
theorem deqs_nil : PyData.eqvAll (D.pys []) (D.pys []) = true := by simp [D.pys, PyData.eqvAll]
theorem deqs_cons (x y : D) (xs ys : List D) : PyData.eqvAll (D.pys (x :: xs)) (D.pys (y :: ys)) = (deq x y && PyData.eqvAll (D.pys xs) (D.pys ys)) := by simp [deq, D.pys, PyData.eqvAll]
theorem deqs_nc (y : D) (ys : List D) : PyData.eqvAll (D.pys []) (D.pys (y :: ys)) = false := by simp [D.pys, PyData.eqvAll]
theorem deqs_cn (y : D) (ys : List D) : PyData.eqvAll (D.pys (y :: ys)) (D.pys []) = false := by simp [D.pys, PyData.eqvAll]
theorem deq_it (i : Int) (ys : List D) : deq (.int i) (.tup ys) = false := by simp [deq, D.py, PyData.eqv]
theorem deq_ti (i : Int) (ys : List D) : deq (.tup ys) (.int i) = false := by simp [deq, D.py, PyData.eqv]
theorem deq_sym (f g : Sym) : deq (esym f) (esym g) = decide (f = g) := by
  obtain ⟨a, b, c⟩ := f
  obtain ⟨a', b', c'⟩ := g
  unfold esym
  rw [deq_tup, deqs_cons, deqs_cons, deqs_cons, deqs_nil, deq_int, deq_int, deq_int, Bool.and_true]
  rw [Bool.eq_iff_iff]
  simp
mutual
theorem deq_enc : ∀ s t : Tm, deq (enc s) (enc t) = decide (s = t)
  | .var x, .var y => by
    rw [enc, enc, deq_int, Bool.eq_iff_iff]
    simp
  | .var x, .app g bs => by
    rw [enc, enc, deq_it]
    exact (decide_eq_false (fun e => by cases e)).symm
  | .app f as, .var y => by
    rw [enc, enc, deq_ti]
    exact (decide_eq_false (fun e => by cases e)).symm
  | .app f as, .app g bs => by
    rw [enc, enc, deq_tup, deqs_cons, deqs_cons, deqs_nil, deq_sym, deq_tup, deq_encs as bs, Bool.and_true, Bool.eq_iff_iff]
    simp
theorem deq_encs : ∀ as bs : List Tm, PyData.eqvAll (D.pys (encs as)) (D.pys (encs bs)) = decide (as = bs)
  | [], [] => by rw [encs, deqs_nil]; simp
  | [], b :: bs => by rw [encs, encs, deqs_nc]; simp
  | a :: as, [] => by rw [encs, encs, deqs_cn]; simp
  | a :: as, b :: bs => by
    rw [encs, encs, deqs_cons, deq_enc a b, deq_encs as bs, Bool.eq_iff_iff]
    simp
end
/-! ### how deep -/
theorem flat_sym (n : Nat) (f : Sym) : D.flat (n + 1) (esym f) = true := by simp [esym, D.flat, D.flats]
theorem flats_le : ∀ {n m : Nat}, n ≤ m → (∀ d : D, D.flat n d = true → D.flat m d = true) ∧ ∀ ds : List D, D.flats n ds = true → D.flats m ds = true := by
  intro n
  induction n with
  | zero =>
    intro m h
    have h1 : ∀ d : D, D.flat 0 d = true → D.flat m d = true := fun d hd => by
      cases d <;> first | (simp [D.flat]; done) | (simp [D.flat] at hd)
    refine ⟨h1, fun ds => ?_⟩
    induction ds with
    | nil => intro _; simp [D.flats]
    | cons d ds ih => intro hd; simp [D.flats] at hd ⊢; exact ⟨h1 d hd.1, ih hd.2⟩
  | succ n ih =>
    intro m h
    cases m with
    | zero => omega
    | succ m =>
      have h1 : ∀ d : D, D.flat (n + 1) d = true → D.flat (m + 1) d = true := fun d hd => by
        cases d with
        | tup ds => simp [D.flat] at hd ⊢; exact (ih (m := m) (by omega)).2 ds hd
        | ob a => simp [D.flat] at hd
        | _ => simp [D.flat]
      refine ⟨h1, fun ds => ?_⟩
      induction ds with
      | nil => intro _; simp [D.flats]
      | cons d ds ih => intro hd; simp [D.flats] at hd ⊢; exact ⟨h1 d hd.1, ih hd.2⟩
theorem flat_le {n m : Nat} (h : n ≤ m) {d : D} (hd : D.flat n d = true) : D.flat m d = true := (flats_le h).1 d hd
mutual
/-- depth -/
def Tm.dep : Tm → Nat
  | .var _ => 0
  | .app _ as => Tm.deps as + 1
def Tm.deps : List Tm → Nat
  | [] => 0
  | a :: as => max a.dep (Tm.deps as)
end
mutual
theorem flat_enc : ∀ (t : Tm), D.flat (2 * t.dep + 2) (enc t) = true
  | .var x => by simp [enc, D.flat]
  | .app f as => by
    have h := flats_enc as
    rw [enc, Tm.dep]
    show D.flat (2 * (Tm.deps as + 1) + 1 + 1) _ = true
    simp only [D.flat, D.flats, Bool.and_true, Bool.and_eq_true]
    exact ⟨flat_sym _ f, by show D.flats (2 * (Tm.deps as + 1)) (encs as) = true; exact (flats_le (n := 2 * Tm.deps as + 2) (m := 2 * (Tm.deps as + 1)) (by omega)).2 _ h⟩
theorem flats_enc : ∀ (as : List Tm), D.flats (2 * Tm.deps as + 2) (encs as) = true
  | [] => by simp [encs, D.flats]
  | a :: as => by
    have h1 := flat_enc a
    have h2 := flats_enc as
    rw [encs, Tm.deps]
    simp only [D.flats, Bool.and_eq_true]
    exact ⟨flat_le (n := 2 * a.dep + 2) (by omega) h1, (flats_le (n := 2 * Tm.deps as + 2) (by omega)).2 _ h2⟩
end
mutual
theorem dep_size : ∀ t : Tm, t.dep ≤ t.size
  | .var _ => by rw [Tm.dep, Tm.size]; omega
  | .app f as => by rw [Tm.dep, Tm.size]; have := deps_sizes as; omega
theorem deps_sizes : ∀ as : List Tm, Tm.deps as ≤ Tm.sizes as
  | [] => by rw [Tm.deps, Tm.sizes]; exact Nat.le_refl 0
  | a :: as => by rw [Tm.deps, Tm.sizes]; have := dep_size a; have := deps_sizes as; omega
end

/-! ### literals, clauses -/
structure Lit where
  pos : Bool
  l : Tm
  r : Tm
abbrev Cl := List Lit
noncomputable instance : DecidableEq Lit := fun a b => Classical.propDecidable (a = b)
def encL (L : Lit) : D := .tup [.bl L.pos, enc L.l, enc L.r]
def encC (c : Cl) : D := .tup (c.map encL)
theorem Lit.ext' {a b : Lit} (h1 : a.pos = b.pos) (h2 : a.l = b.l) (h3 : a.r = b.r) : a = b := by
  cases a; cases b; cases h1; cases h2; cases h3; rfl
theorem deq_encL (a b : Lit) : deq (encL a) (encL b) = decide (a = b) := by
  unfold encL
  rw [deq_tup, deqs_cons, deqs_cons, deqs_cons, deqs_nil, deq_bl, deq_enc, deq_enc, Bool.and_true, Bool.eq_iff_iff]
  simp only [Bool.and_eq_true, beq_iff_eq, decide_eq_true_eq]
  exact ⟨fun ⟨h1, h2, h3⟩ => Lit.ext' h1 h2 h3, fun e => by rw [e]; exact ⟨rfl, rfl, rfl⟩⟩
theorem deqs_encC : ∀ c d : Cl, PyData.eqvAll (D.pys (c.map encL)) (D.pys (d.map encL)) = decide (c = d)
  | [], [] => by rw [List.map_nil, deqs_nil]; simp
  | [], b :: bs => by rw [List.map_nil, List.map_cons, deqs_nc]; simp
  | a :: as, [] => by rw [List.map_nil, List.map_cons, deqs_cn]; simp
  | a :: as, b :: bs => by
    rw [List.map_cons, List.map_cons, deqs_cons, deq_encL, deqs_encC as bs, Bool.eq_iff_iff]
    simp
theorem deq_encC (c d : Cl) : deq (encC c) (encC d) = decide (c = d) := by
  unfold encC; rw [deq_tup, deqs_encC]
end My
set_option maxHeartbeats 4000000
/-! D9: more rules. -/
namespace My
open PySem PySem.Spec PyProof.Rows L2
theorem bI_t {b : Bool} {A B : Prop} (e : b = true) (h : A) : bI b A B := by subst e; exact h
theorem bI_f {b : Bool} {A B : Prop} (e : b = false) (h : B) : bI b A B := by subst e; exact h
theorem bI_of {b : Bool} {A B : Prop} (h : A) (h' : B) : bI b A B := by cases b <;> assumption
theorem u65 {A : Around} {k : Nat} (hr : Room k A) : A.units + 65 < cLine := by have := hr.un; omega
theorem hu_of {A : Around} {k : Nat} (hr : Room k A) : A.units + 1 < cLine := by have := hr.un; omega
/-- -x -/
def tNegD (t : TED) : TED := fun r M R => t r M fun d M1 => match d with
  | .int i => R (.int (-i)) M1
  | _ => False
section
variable {X : Cx} {T : List (Addr × Str)} {e : Expr} {te : TED} {pos : Pos}
theorem d_neg (h : PEd T X e te) : PEd T X (.UnaryOp .USub e pos) (tNegD te) := wkE (pe_un un_neg h) fun σ H Q q => by
  obtain ⟨r, M, R, hs, hm, ht, k⟩ := q
  refine ⟨r, M, _, hs, hm, ht, fun d v M1 H1 t1 r1 m1 q => ?_⟩
  cases d with
  | int i => exact ⟨i, r1, k _ _ M1 H1 t1 rd_i m1 q⟩
  | _ => exact (show False from q).elim
end
/-! ### loops over encodings -/
theorem map_split {α β : Type} {f : α → β} : ∀ {xs : List α} {p q : List β}, xs.map f = p ++ q → ∃ a b, xs = a ++ b ∧ p = a.map f ∧ q = b.map f
  | xs, [], q, h => ⟨[], xs, rfl, rfl, h.symm⟩
  | [], y :: p, q, h => by simp at h
  | x :: xs, y :: p, q, h => by
    simp only [List.map_cons, List.cons_append, List.cons.injEq] at h
    obtain ⟨a, b, h1, h2, h3⟩ := map_split h.2
    exact ⟨x :: a, b, by rw [h1]; rfl, by rw [← h.1, h2]; rfl, h3⟩
theorem for_map {α : Type} (f : α → D) (xs : List α) {items : List D} {keep : Mp → Prop} {g : TGD} {tb : TSD} {E : EndsD} {r : Rho} {M1 : Mp} (he : items = xs.map f) (Pv : List α → List α → Rho → Mp → Prop) (p0 : Pv [] xs r M1)
    (pk : ∀ pre post r M, xs = pre ++ post → Pv pre post r M → keep M)
    (ps : ∀ pre a post r M, xs = pre ++ a :: post → Pv pre (a :: post) r M → g (f a) r M fun r2 M2 => tb { E with nx := fun r M => ∃ M', LE M' M ∧ Pv (pre ++ [a]) post r M', ct := fun r M => ∃ M', LE M' M ∧ Pv (pre ++ [a]) post r M', bk := E.nx } r2 M2)
    (pe : ∀ r M, Pv xs [] r M → E.nx r M) : forD ⟨items, keep⟩ g tb E r M1 := by
  subst he
  refine ⟨fun p q r M => ∃ a b, p = a.map f ∧ q = b.map f ∧ xs = a ++ b ∧ Pv a b r M, ⟨[], xs, rfl, rfl, rfl, p0⟩, ?_, ?_, ?_⟩
  · rintro pre post r M e ⟨a, b, _, _, h3, h4⟩
    exact pk a b r M h3 h4
  · rintro pre d post r M e ⟨a, b, h1, h2, h3, h4⟩
    cases b with
    | nil => simp at h2
    | cons y b =>
      simp only [List.map_cons, List.cons.injEq] at h2
      obtain ⟨h2, h2'⟩ := h2
      subst h2
      have q := ps a y b r M h3 h4
      have conv : ∀ r M, (∃ M', LE M' M ∧ Pv (a ++ [y]) b r M') → ∃ M', LE M' M ∧ ∃ a' b', pre ++ [f y] = a'.map f ∧ post = b'.map f ∧ xs = a' ++ b' ∧ Pv a' b' r M' := by
        rintro r M ⟨M', l, h⟩
        exact ⟨M', l, a ++ [y], b, by rw [h1]; simp, h2', by rw [h3]; simp, h⟩
      have conv2 : (fun r M => ∃ M', LE M' M ∧ Pv (a ++ [y]) b r M') = (fun r M => ∃ M', LE M' M ∧ ∃ a' b', pre ++ [f y] = a'.map f ∧ post = b'.map f ∧ xs = a' ++ b' ∧ Pv a' b' r M') := by
        funext r M
        refine propext ⟨conv r M, ?_⟩
        rintro ⟨M', l, a', b', e1, e2, e3, h⟩
        have hl : a'.length = (a ++ [y]).length := by
          have := congrArg List.length e1
          simp [h1] at this
          simp; omega
        have e4 : a' ++ b' = (a ++ [y]) ++ b := by rw [← e3, h3]; simp
        obtain ⟨e5, e6⟩ := List.append_inj e4 hl
        subst e5; subst e6
        exact ⟨M', l, h⟩
      rw [conv2] at q
      exact q
  · rintro r M ⟨a, b, h1, h2, h3, h4⟩
    have hb : b = [] := by cases b with
      | nil => rfl
      | cons y b => simp at h2
    subst hb
    have ha : xs = a := by simpa using h3
    rw [← ha] at h4
    exact pe r M h4
/-- what goes on -/
theorem nxt {Q : Rho → Mp → Prop} {r : Rho} {M : Mp} (h : Q r M) : ∃ M', LE M' M ∧ Q r M' := ⟨M, LE.refl M, h⟩
theorem nxtL {Q : Rho → Mp → Prop} {r : Rho} {M M1 : Mp} (l : LE M1 M) (h : Q r M1) : ∃ M', LE M' M ∧ Q r M' := ⟨M1, l, h⟩
end My
set_option maxHeartbeats 4000000
/-! D10: list.remove of data; dicts with nested keys. -/
namespace My
open PySem PySem.Spec PyProof.Rows L2
/-! ### remove -/
def rRemoveD (K : PySem.W.Frag) : V → List V → Hp → VK → Prop := fun x xs H Q => ∃ (a : Addr) (y : V) (vs : List V) (d : PyData) (ds : List PyData) (j : Nat) (z : PyData), x = V.ref a ∧ xs = [y] ∧ H a = some (.lst vs) ∧ DpAll K H vs ds ∧ Dp K H y d ∧
  SeqAt.shaped (.list ds) = true ∧ SeqAt.shaped d = true ∧ ds[j]? = some z ∧ PyData.eqv z d = true ∧ (∀ (m : Nat) (z' : PyData), m < j → ds[m]? = some z' → PyData.eqv z' d = false) ∧ Q .non (upd H a (.lst (vs.eraseIdx j)))
theorem mt_removeD {X : Cx} (hu : X.A.units + 65 < cLine) : MtM X "list.remove" (rRemoveD X.K) := by
  intro pins s σ H x xs v us Q I rx rxs h
  obtain ⟨a, y, vs, d, ds, j, z, rfl, rfl, hH, ha, hy, sl, sd, hz, hzj, hno, q⟩ := h
  cases rx
  cases rxs with
  | cons ry rt =>
    rename_i uy ut
    cases rt
    obtain ⟨bs, r1⟩ := Dp.reads I d y uy hy ry
    have hxs : PyData.canLayAll0 ds = true := SeqAt.canLay_of_shaped sl
    have hroom : X.A.units + 1 + min (PyData.depthAll ds) d.depth < cLine := room_in_shaped sd hu
    obtain ⟨zz, its, n, rv, hl, ho⟩ := I.lstM hH
    obtain ⟨as, h4⟩ := Dp.readsAll I ds _ its ha rv
    have hn : its.length = ds.length := SeqAt.ReadsAll.length ds its as h4
    have hmap : its.map (SeqAt.readOf s.heap) = ds := SeqAt.readsAll_map ds its as hxs h4
    have hsl := sizeLine_eq
    obtain ⟨hjd, _⟩ := List.getElem?_eq_some_iff.mp hz
    have hjl : j < its.length := by omega
    have hj : j < its.toArray.size := by simpa using hjl
    have at_ : ∀ (m : Nat) (hm : m < its.toArray.size) (z' : PyData), ds[m]? = some z' → SeqAt.readOf s.heap its.toArray[m] = z' := by
      intro m hm z' hz'
      have hml : m < its.length := by simpa using hm
      rw [← hmap, List.getElem?_map, List.getElem?_eq_getElem hml] at hz'
      have e1 : SeqAt.readOf s.heap its[m] = z' := Option.some.inj (show some (SeqAt.readOf s.heap its[m]) = some z' from hz')
      simpa using e1
    refine call_meets PySem.F.slot_list_remove ⟨_, ho, rfl⟩ PySem.F.entry_list_remove (PySem.F.args_list_remove_2 _ _)
      (SeqAt.list_removeAt a its.toArray n none #[] uy (fun u => PyData.eqv (SeqAt.readOf s.heap u) d) j hj ?_ ?_ (by rw [List.size_toArray]; omega)) ⟨ho, SeqAt.items_eqAt (vs := its.toArray) (show ReadsAll s.heap its.toArray.toList ds as from h4) r1 hxs (SeqAt.canLay_of_shaped sd) hroom, ?_⟩
    · show PyData.eqv (SeqAt.readOf s.heap its.toArray[j]) d = true
      rw [at_ j hj z hz]
      exact hzj
    · intro m hm hmj
      have hmd : m < ds.length := by omega
      have hz' : ds[m]? = some ds[m] := List.getElem?_eq_getElem hmd
      show PyData.eqv (SeqAt.readOf s.heap its.toArray[m]) d = false
      rw [at_ m hm _ hz']
      exact hno m _ hmj hz'
    · refine ⟨.non, _, I.lset (its' := its.eraseIdx j) hH ho ?_ (rv.eraseIdx j) ?_, rfl, q⟩
      · show its.toArray.eraseIdxIfInBounds j = (its.eraseIdx j).toArray
        rw [List.eraseIdxIfInBounds_toArray]
      · have := List.length_eraseIdx_le vs j
        omega
def tRemD (to te : TED) : TED := fun r M R => to r M fun x M1 => ∃ a ds0, x = .ob a ∧ M1 a = some (.lst ds0) ∧ te r M1 fun y M2 => ∃ ds j z, M2 a = some (.lst ds) ∧ D.flats 63 ds = true ∧ D.flat 64 y = true ∧ ds[j]? = some z ∧ deq z y = true ∧
  (∀ m z', m < j → ds[m]? = some z' → deq z' y = false) ∧ R .non (um M2 a (.lst (ds.eraseIdx j)))
theorem pys_map : ∀ ds : List D, D.pys ds = ds.map D.py
  | [] => rfl
  | d :: ds => by rw [D.pys, pys_map ds]; rfl
section
variable {X : Cx} {T : List (Addr × Str)} {o e : Expr} {to te : TED} {apos cpos : Pos}
theorem d_remove (hu : X.A.units + 65 < cLine) (ho : PEd T X o to) (he : PEd T X e te)
    (hs : starEach [e] X.env = (false, eval e X.env) :: starEach [] X.env := by rfl)
    (hbase : attributeBase o "remove" X.env (eval o X.env) = eval o X.env := by rfl)
    (hfew : ((backTo cpos (starEach [e] X.env)).all (fun x => !x.1) && (backToKw cpos (keywordEach [] X.env)).all (fun x => x.1.isSome)
      && decide ([e].length + ([] : List Keyword).length + (if ([] : List Keyword).isEmpty then 0 else 1) < 30)) = true := by rfl)
    (hline : (apos.endLine == cpos.line) = true := by rfl) (hplain : (backTo cpos (starEach [] X.env)).any (·.1) = false := by rfl) :
    PEd T X (.Call (.Attribute o "remove" apos) [e] [] cpos) (tRemD to te) :=
  wkE (pe_bm PySem.F.plainAttrs_list PySem.F.slot_list_remove PySem.F.type_list_remove (mt_removeD hu) ho (pa_cons he pa_nil hs) hbase hfew hline hs hplain) fun σ H Q h => by
  obtain ⟨r, M, R, hs, hm, ht, k⟩ := h
  refine ⟨r, M, _, hs, hm, ht, fun x v M1 H1 t1 r1 m1 q => ?_⟩
  obtain ⟨a, ds0, rfl, e0, q⟩ := q
  cases (show v = .ref a from r1)
  obtain ⟨vs0, ha0, _⟩ := m1.at_ a _ e0
  refine ⟨.inl ⟨rfl, _, .of ha0⟩, r, M1, _, hs.mono t1, m1, q, fun y u M2 H2 t2 r2 m2 q2 => ?_⟩
  obtain ⟨ds, j, z, e, f1, f2, hj, hz, hno, q2⟩ := q2
  obtain ⟨vs, ha, hv⟩ := m2.at_ a _ e
  have tn : TL H2 (upd H2 a (.lst (vs.eraseIdx j))) := tl_wr ha trivial
  refine ⟨a, u, vs, y.py, D.pys ds, j, z.py, rfl, rfl, ha, hv.dp f1, r2.dp f2, shaped_list f1, shaped_of f2, ?_, hz, ?_, k .non .non _ _ ((t1.trans t2).trans tn) rfl (m2.write (o := .lst (ds.eraseIdx j)) ha trivial ⟨_, upd_same, (hv.eraseIdx j).mono tn⟩) q2⟩
  · rw [pys_map, List.getElem?_map, hj]; rfl
  · intro m z' hm hz'
    rw [pys_map, List.getElem?_map] at hz'
    cases e2 : ds[m]? with
    | none => rw [e2] at hz'; cases hz'
    | some w =>
      rw [e2] at hz'
      cases hz'
      exact hno m w hm e2
end
/-! ### dicts with nested keys -/
mutual
theorem nest_is {X : Cx} {pins : List (Addr × Obj)} {σ : L2.St} {H : Hp} {s : Shared} (I : Inv X pins σ H s) : ∀ {n : Nat} {d : D} {v : V} {u : Value}, D.flat n d = true → RD H d v → RelV v u → NestedIs s.heap d.key u
  | _, .non, v, u, _, h, r => by
    cases (show v = .non from h)
    cases (show u = .none from r)
    exact .none
  | _, .bl b, v, u, _, h, r => by
    cases (show v = .bl b from h)
    cases (show u = .bool b from r)
    exact .bool rfl
  | _, .int b, v, u, _, h, r => by
    cases (show v = .int b from h)
    obtain ⟨t, rfl⟩ := (show ∃ t, u = Value.int b t from r)
    exact .int b t
  | 0, .tup _, _, _, f, _, _ => by simp [D.flat] at f
  | n + 1, .tup ds, v, u, f, h, r => by
    obtain ⟨a, vs, rfl, ha, hs⟩ := (show ∃ a vs, v = .ref a ∧ H a = some (.tup vs) ∧ RDs H ds vs from h)
    have f' : D.flats n ds = true := by simpa [D.flat] using f
    cases (show u = .ref a from r)
    obtain ⟨its, rv, ⟨o, e, hc, nn, hd⟩, _⟩ := I.tuple (SqT.of (K := X.K) ha)
    exact .tup e hc hd (by simpa using nest_all I f' hs rv)
  | _, .ob _, _, _, f, _, _ => by simp [D.flat] at f
theorem nest_all {X : Cx} {pins : List (Addr × Obj)} {σ : L2.St} {H : Hp} {s : Shared} (I : Inv X pins σ H s) : ∀ {n : Nat} {ds : List D} {vs : List V} {us : List Value}, D.flats n ds = true → RDs H ds vs → Vals vs us → NestedAll s.heap (D.keys ds) us
  | _, [], vs, us, _, h, r => by
    cases (show vs = [] from h)
    cases r
    exact .nil
  | n, d :: ds, vs, us, f, h, r => by
    obtain ⟨v, vr, rfl, h1, h2⟩ := h
    have f' : D.flat n d = true ∧ D.flats n ds = true := by simpa [D.flats] using f
    cases r with
    | cons r1 r2 => exact .cons (nest_is I f'.1 h1 r1) (nest_all I f'.2 h2 r2)
end
mutual
theorem key_depth : ∀ (n : Nat) (d : D), D.flat n d = true → d.key.depth ≤ n
  | _, .non, _ => by simp [D.key, NestedKey.depth]
  | _, .bl b, _ => by simp [D.key, NestedKey.depth]
  | _, .int _, _ => by simp [D.key, NestedKey.depth]
  | 0, .tup _, h => by simp [D.flat] at h
  | n + 1, .tup ds, h => by
    have h' : D.flats n ds = true := by simpa [D.flat] using h
    have := keys_depth n ds h'
    simp only [D.key, NestedKey.depth]; omega
  | _, .ob _, h => by simp [D.flat] at h
theorem keys_depth : ∀ (n : Nat) (ds : List D), D.flats n ds = true → NestedKey.depthAll (D.keys ds) ≤ n
  | _, [], _ => by simp [D.keys, NestedKey.depthAll]
  | n, d :: ds, h => by
    have h' : D.flat n d = true ∧ D.flats n ds = true := by simpa [D.flats] using h
    have h1 := key_depth n d h'.1
    have h2 := keys_depth n ds h'.2
    simp only [D.keys, NestedKey.depthAll]; omega
end
theorem nk_is {X : Cx} {pins : List (Addr × Obj)} {σ : L2.St} {H : Hp} {s : Shared} (I : Inv X pins σ H s) {d : D} {b : Addr} (f : D.flat 6 d = true) (h : RD H d (.ref b)) : (nestedKind X.prog X.w).is s.heap d.key b :=
  ⟨nest_is I f h rfl, by have := key_depth 6 d f; omega⟩
theorem knr_is {X : Cx} {pins : List (Addr × Obj)} {σ : L2.St} {H : Hp} {s : Shared} (I : Inv X pins σ H s) : ∀ {kvs : List (D × D)} {xs : List (NestedKey × Addr × Value)}, (∀ p ∈ kvs, D.flat 6 p.1 = true) → KNR H kvs xs → ∀ x ∈ xs, (nestedKind X.prog X.w).is s.heap x.1 x.2.1
  | _, _, _, .nil, x, hx => by cases hx
  | p :: kvs, q :: xs, f, .cons r t, x, hx => by
    rcases List.mem_cons.mp hx with e | hx
    · rw [e, r.1]
      exact nk_is I (f p (by simp)) r.2.1
    · exact knr_is I (fun p hp => f p (by simp [hp])) t x hx
theorem knr_at {H : Hp} : ∀ {kvs : List (D × D)} {xs : List (NestedKey × Addr × Value)}, KNR H kvs xs → ∀ p ∈ kvs, ∃ b u v, (p.1.key, b, u) ∈ xs ∧ RelV v u ∧ RD H p.2 v
  | _, _, .nil, p, hp => by cases hp
  | p :: kvs, (k, b, u) :: xs, .cons r t, p', hp => by
    rcases List.mem_cons.mp hp with e | hp
    · subst e
      obtain ⟨v, h1, h2⟩ := r.2.2
      exact ⟨b, u, v, by rw [show p'.1.key = k from r.1.symm]; simp, h1, h2⟩
    · obtain ⟨b', u', v', h1, h2⟩ := knr_at t p' hp
      exact ⟨b', u', v', by simp [h1], h2⟩
theorem atKey_mem {xs : List (NestedKey × Addr × Value)} (nd : (xs.map (·.1)).Nodup) {k : NestedKey} {b : Addr} {u : Value} (h : (k, b, u) ∈ xs) : atKey xs k = some (b, u) := by
  unfold atKey
  induction xs with
  | nil => cases h
  | cons x xs ih =>
    rw [List.map_cons, List.nodup_cons] at nd
    rw [List.find?_cons]
    rcases List.mem_cons.mp h with e | h
    · rw [← e]; simp
    · have ne : ¬ x.1 = k := fun e => nd.1 (by rw [e]; exact List.mem_map.mpr ⟨_, h, rfl⟩)
      rw [decide_eq_false ne]
      exact ih nd.2 h
theorem atKey_none {xs : List (NestedKey × Addr × Value)} {k : NestedKey} (h : ∀ x ∈ xs, x.1 ≠ k) : atKey xs k = none := by
  unfold atKey
  rw [Option.map_eq_none_iff, List.find?_eq_none]
  intro x hx
  simpa using h x hx
theorem knr_key {H : Hp} : ∀ {kvs : List (D × D)} {xs : List (NestedKey × Addr × Value)}, KNR H kvs xs → xs.map (·.1) = kvs.map fun p => p.1.key
  | _, _, .nil => rfl
  | p :: kvs, q :: xs, .cons r t => by rw [List.map_cons, List.map_cons, knr_key t, r.1]
/-- {} for nested keys -/
def tDNewN : TED := fun _ M R => ∀ p, M p = none → R (.ob p) (um M p (.dN []))
/-- d[k], d[k] = v -/
def tNGetD (td ty : TED) : TED := fun r M R => td r M fun x M1 => ty r M1 fun y M2 => ∃ a kvs d, x = .ob a ∧ M2 a = some (.dN kvs) ∧ (∀ p ∈ kvs, D.flat 6 p.1 = true) ∧ D.flat 6 y = true ∧ (∃ ys, y = .tup ys) ∧ (y, d) ∈ kvs ∧ R d M2
def tNPutD (td ty tv : TED) : TSD := fun E r M => tv r M fun d M1 => td r M1 fun x M2 => ty r M2 fun y M3 => ∃ a kvs, x = .ob a ∧ M3 a = some (.dN kvs) ∧ (∀ p ∈ kvs, D.flat 6 p.1 = true) ∧ D.flat 6 y = true ∧ (∃ ys, y = .tup ys) ∧ (∀ p ∈ kvs, p.1.key ≠ y.key) ∧ kvs.length < 1000 ∧
  E.nx r (um M3 a (.dN (kvs ++ [(y, d)])))
section
variable {X : Cx} {T : List (Addr × Str)} {o i value : Expr} {td ty tv : TED} {pos pos' : Pos}
def nO0 : Obj := { cls := .type "dict", data := .dict #[] }
theorem d_newN : PEd T X (.Dict [] [] pos) tDNewN := wkE (t := fun _ H Q => ∀ p, H p = none → (p == sysModules) = false → Q (.ref p) (upd H p (.ext fun h => h.get? p = some nO0)))
  ⟨fun pins s σ H Q I h => wpAny_Dict_empty ⟨.ref s.heap.objs.size, _, I.laid (a := s.heap.objs.size) (o := .ext fun h => h.get? s.heap.objs.size = some nO0) (t' := s.toks) (fun _ _ q => Heap.get?_push_of_some _ q) (Nat.le_refl _)
    ⟨Heap.get?_push_size _ rfl, ⟨_, Heap.get?_push_size _ rfl⟩, fun h1 h2 e st => st _ e⟩, rfl, h _ (I.hok.fresh (Nat.le_refl _)) (beq_eq_false_iff_ne.mpr (Ne.symm (Nat.ne_of_lt I.big)))⟩⟩ fun σ H Q q => by
  obtain ⟨r, M, R, hs, hm, ht, k⟩ := q
  intro p hp hsm
  obtain ⟨n1, m2⟩ := rm_new (ob := .ext fun h => h.get? p = some nO0) (o := .dN []) hm hp ⟨nO0, [], upd_same, ⟨⟨rfl, rfl, rfl⟩, ⟨#[], 0, rfl, rfl⟩, List.nodup_nil, hsm⟩, .nil⟩
  exact k (.ob p) (.ref p) _ _ (tl_new hp) rfl m2 (ht p n1)
theorem room8 {A : Around} (hu : A.units + 65 < cLine) : (nestedKind X.prog X.w).room A.in1 := by
  show A.units + 1 + 8 < cLine
  omega
theorem dn_of {pins : List (Addr × Obj)} {σ : L2.St} {H : Hp} {s : Shared} {M : Mp} {a : Addr} {kvs : List (D × D)} (I : Inv X pins σ H s) (m : RM X.prog X.w X.K T M H) (h : M a = some (.dN kvs)) (f : ∀ p ∈ kvs, D.flat 6 p.1 = true) :
    ∃ xs, s.heap.DictOfH (nestedKind X.prog X.w) a xs ∧ KNR H kvs xs ∧ (a == sysModules) = false ∧ ∃ ob : Obj, H a = some (.ext fun h => h.get? a = some ob) ∧ ob.ExactDict ∧ ∃ es ep, ob.data = .dict es ep := by
  obtain ⟨ob, xs, e, ⟨h1, ⟨es, ep, h2, h3⟩, h4, h5⟩, r⟩ := m.at_ a _ h
  obtain ⟨g, _, _⟩ := I.hok a _ e
  exact ⟨xs, ⟨ob, es, ep, g, h1, h2, h3, knr_is I f r, h4⟩, r, h5, ob, e, h1, es, ep, h2⟩
theorem d_nget (hu : X.A.units + 65 < cLine) (ho : PEd T X o td) (he : PEd T X i ty) (hs : NoSl i := by intro _ _; rfl) : PEd T X (.Subscript o i pos) (tNGetD td ty) := ⟨fun pins s σ H Q I h => by
  obtain ⟨r, M, R, hs', hm, ht, k⟩ := h
  refine subD_of PySem.F.slot_dict_getitem.lookup hs (thn (ho.run pins s σ H (fun x H1 => ∃ d M1, TL H H1 ∧ RD H1 d x ∧ RM X.prog X.w X.K T M1 H1 ∧ ty r M1 fun y M2 => ∃ a kvs e, d = .ob a ∧ M2 a = some (.dN kvs) ∧ (∀ p ∈ kvs, D.flat 6 p.1 = true) ∧ D.flat 6 y = true ∧ (∃ ys, y = .tup ys) ∧ (y, e) ∈ kvs ∧ R e M2) I ⟨r, M, _, hs', hm, ht, fun d v M' H' t1 r1 m1 q => ⟨d, M', t1, r1, m1, q⟩⟩) fun u s1 ⟨x, H1, I1, rx, d, M1, t1, r1, m1, q1⟩ =>
    thn (he.run pins s1 σ H1 (fun y' H2 => ∃ y M2, TL H1 H2 ∧ RD H2 y y' ∧ RM X.prog X.w X.K T M2 H2 ∧ ∃ a kvs e, d = .ob a ∧ M2 a = some (.dN kvs) ∧ (∀ p ∈ kvs, D.flat 6 p.1 = true) ∧ D.flat 6 y = true ∧ (∃ ys, y = .tup ys) ∧ (y, e) ∈ kvs ∧ R e M2) I1 ⟨r, M1, _, hs'.mono t1, m1, q1, fun d v M' H' t2 r2 m2 q => ⟨d, M', t2, r2, m2, q⟩⟩) fun iv s2 ⟨y', H2, I2, ry, y, M2, t2, r2, m2, a, kvs, e, ed, ea, f, fy, ⟨ys, eys⟩, hin, q2⟩ => ?_)
  subst ed
  cases (show x = .ref a from r1)
  obtain rfl : u = Value.ref a := rx
  obtain ⟨xs, dx, kr, hsm, _⟩ := dn_of I2 m2 ea f
  subst eys
  obtain ⟨b, vs, rfl, hb, _⟩ := id r2
  obtain rfl : iv = Value.ref b := ry
  obtain ⟨b', u', v', h1, h2, h3⟩ := knr_at kr _ hin
  have nd : (xs.map (·.1)).Nodup := by obtain ⟨_, _, _, _, _, _, _, _, nd⟩ := dx; exact nd
  refine ⟨?_, wpAny_getItem_heap (room8 hu) (nk_is I2 fy r2) dx (atKey_mem nd h1) ?_⟩
  · obtain ⟨ob, _, _, g, h1, _⟩ := dx
    exact ⟨ob, g, h1.1⟩
  · exact ⟨v', H2, I2.kept (t' := _) (fun _ _ q => q), h2, k e v' M2 H2 (t1.trans t2) h3 m2 q2⟩⟩
def rSetN (P : Program) (w : World) (K : PySem.W.Frag) (T : List (Addr × Str)) : V → V → V → Hp → (Hp → Prop) → Prop := fun o i v H Q => ∃ (M : Mp) (a : Addr) (kvs : List (D × D)) (y d : D), RM P w K T M H ∧ o = .ref a ∧ RD H y i ∧ RD H d v ∧ M a = some (.dN kvs) ∧ (∀ p ∈ kvs, D.flat 6 p.1 = true) ∧ D.flat 6 y = true ∧
  (∃ ys, y = .tup ys) ∧ (∀ p ∈ kvs, p.1.key ≠ y.key) ∧ kvs.length < 1000 ∧ ∀ H', TL H H' → RM P w K T (um M a (.dN (kvs ++ [(y, d)]))) H' → Q H'
theorem knr_len {H : Hp} {kvs : List (D × D)} {xs : List (NestedKey × Addr × Value)} (h : KNR H kvs xs) : xs.length = kvs.length := by
  have := congrArg List.length (knr_key h)
  simpa using this
theorem paired_app {α β : Type} {F : α → β → Prop} : ∀ {l₁ : List α} {l₂ : List β} {a : α} {b : β}, Paired F l₁ l₂ → F a b → Paired F (l₁ ++ [a]) (l₂ ++ [b])
  | _, _, _, _, .nil, h => .cons h .nil
  | _, _, _, _, .cons r t, h => .cons r (paired_app t h)
theorem set_nest (hu : X.A.units + 65 < cLine) : PSet X (rSetN X.prog X.w X.K T) := by
  intro pins s σ H o i v ov iv u Q I ro ri rv h
  obtain ⟨M, a, kvs, y, d, m, rfl, ry, rd, ea, f, fy, ⟨ys, rfl⟩, hno, hl, q⟩ := h
  obtain rfl : ov = Value.ref a := ro
  obtain ⟨b, vs, rfl, hb, _⟩ := id ry
  obtain rfl : iv = Value.ref b := ri
  obtain ⟨xs, dx, kr, hsm, ob, hH, hex, es, ep, hdt⟩ := dn_of I m ea f
  have hlen := knr_len kr
  refine wpAny_setItem_heap (room8 hu) (nk_is I fy ry) dx (fun h' dx' sb => ?_) (by rw [hlen]; exact Nat.le_of_lt (small1000 (Nat.le_of_lt hl)))
  have hnone : atKey xs (D.tup ys).key = none := by
    refine atKey_none fun x hx => ?_
    have : x.1 ∈ xs.map (·.1) := List.mem_map.mpr ⟨x, hx, rfl⟩
    rw [knr_key kr] at this
    obtain ⟨p, hp, e⟩ := List.mem_map.mp this
    rw [← e]; exact hno p hp
  rw [storedH_new hnone] at dx'
  obtain ⟨ob', es', ep', g', hex', hdt', hes', his', nd'⟩ := dx'
  have wr : Wr a (.ext fun h => h.get? a = some ob) := ⟨ob, rfl, hex, es, ep, hdt⟩
  have tn : TL H (upd H a (.ext fun h => h.get? a = some ob')) := tl_wr hH wr
  refine ⟨_, I.write (x := a) (e := a) (o := .ext fun h => h.get? a = some ob') (by rw [hH]; trivial) (.inl rfl) (fun b' u' hb' e => (sb.2 b' hb').trans e) ⟨_, g'⟩ ⟨g', ⟨_, g'⟩, fun h1 h2 e st => st _ e⟩, q _ tn (m.write hH wr ⟨ob', _, upd_same, ⟨hex', ⟨es', ep', hdt', hes'⟩, nd', hsm⟩, ?_⟩)⟩
  exact paired_app (Paired.mapQ kr fun p q z => ⟨z.1, z.2.1.mono tn, let ⟨v, z1, z2⟩ := z.2.2; ⟨v, z1, z2.mono tn⟩⟩) ⟨rfl, ry.mono tn, v, rv, rd.mono tn⟩
theorem ds_nput (hu : X.A.units + 65 < cLine) (ho : PEd T X o td) (hi : PEd T X i ty) (hv : PEd T X value tv)
    (hs : swapsWithSole [.Subscript o i pos'] value pos.line X.env = pure false := by rfl) (hw : swappedStores [.Subscript o i pos'] value X.env = pure none := by rfl) (h1 : (assignEach [.Subscript o i pos'] X.env).map (·.2) = [assign (.Subscript o i pos') X.env] := by rfl)
    (ha : ∀ v, assign (.Subscript o i pos') X.env v = (do
      let ov ← holding [v] (eval o X.env)
      let iv ← holding [v, ov] (eval i X.env)
      standAt pos'
      holding [v, ov, iv] (setItem ov iv v)
      release [v, ov, iv] []) := by intro _; rfl) :
    PSd T X (.Assign [.Subscript o i pos'] value pos) (tNPutD td ty tv) := wkS (ps_asg hv (pg_sub ho hi (set_nest (T := T) hu) ha) hs hw h1) fun E σ H h => by
  obtain ⟨r, M, DD, hs, hm, ht, k1, k2, k3, k4⟩ := h
  refine ⟨r, M, _, hs, hm, ht, fun d v M1 H1 t1 r1 m1 q => ⟨r, M1, _, hs.mono t1, m1, q, fun x vx M2 H2 t2 r2 m2 q2 => ⟨r, M2, _, (hs.mono t1).mono t2, m2, q2, fun y vy M3 H3 t3 r3 m3 q3 => ?_⟩⟩⟩
  obtain ⟨a, kvs, rfl, e, f, fy, eys, hno, hl, q3⟩ := q3
  cases (show vx = .ref a from r2)
  exact ⟨M3, a, kvs, y, d, m3, rfl, r3, (r1.mono t2).mono t3, e, f, fy, eys, hno, hl, fun H' tn m4 => k1 r _ σ _ (((t1.trans t2).trans t3).trans tn) ((((hs.mono t1).mono t2).mono t3).mono tn) m4 q3⟩
end
end My
set_option maxHeartbeats 4000000
/-! D11: the script; instances. -/
namespace My
open PySem PySem.Spec PyProof.Rows L2
/-! ### the script, read only -/
def KFact (K : PySem.W.Frag) (a : Addr) (ns : List Int) : Prop := ∀ H : Hp, SqL K H a (ns.map V.int)
def Scr (K : PySem.W.Frag) (M : Mp) (a : Addr) (ns : List Int) : Prop := M a = some (.lst (ns.map D.int)) ∨ M a = some (.ro ns) ∨ KFact K a ns
theorem Scr.le {K : PySem.W.Frag} {M M' : Mp} {a : Addr} {ns : List Int} (h : Scr K M a ns) (l : LE M M') : Scr K M' a ns := h.imp (l _ _) fun h => h.imp (l _ _) id
theorem Scr.at {P : Program} {w : World} {K : PySem.W.Frag} {T : List (Addr × Str)} {M : Mp} {H : Hp} {a : Addr} {ns : List Int} (h : Scr K M a ns) (m : RM P w K T M H) : SqL K H a (ns.map V.int) := by
  rcases h with h | h | h
  · obtain ⟨vs, ha, hs⟩ := m.at_ a _ h
    rw [hs.ints] at ha
    exact .of ha
  · obtain ⟨ob, ha⟩ := m.at_ a _ h
    exact .inl (.inr ⟨ob, ha⟩)
  · exact h H
def mLenS (K : PySem.W.Frag) (d : D) (M : Mp) (R : VKD) : Prop := ∃ a ns, d = .ob a ∧ Scr K M a ns ∧ R (.int (ns.length : Nat)) M
def mIxS (K : PySem.W.Frag) : R2D := fun x y M R => ∃ a ns i z, x = .ob a ∧ y = .int i ∧ Scr K M a ns ∧ atI ns i = some z ∧ R (.int z) M
section
variable {P : Program} {w : World} {K : PySem.W.Frag} {T : List (Addr × Str)}
theorem op1_lenS : Op1 P w K T (mLenS K) (fun xs H Q => ∃ x n, xs = [x] ∧ LenV K x H n ∧ Q (.int n) H) := by
  intro H M d v R Q r m h k
  obtain ⟨a, ns, rfl, hs, h⟩ := h
  cases (show v = .ref a from r)
  exact ⟨_, ns.length, rfl, .inl ⟨_, hs.at m, by rw [List.length_map]⟩, k _ _ M H (TL.refl H) rd_i m h⟩
theorem op2_ixS : Op2 P w K T (mIxS K) (rIx K) := by
  intro H M d e v u R Q r1 r2 m h k
  obtain ⟨a, ns, i, z, rfl, rfl, hs, hz, h⟩ := h
  refine .inl ⟨a, _, i, .int z, r1, r2, hs.at m, ?_, k _ _ M H (TL.refl H) rd_i m h⟩
  unfold atI at hz ⊢
  rw [List.length_map]
  cases e : ixN ns.length i with
  | none => rw [e] at hz; cases hz
  | some j =>
    rw [e] at hz
    show (ns.map V.int)[j]? = _
    rw [List.getElem?_map, show ns[j]? = some z from hz]; rfl
end
section
variable {X : Cx} {T : List (Addr × Str)} {a b e : Expr} {ta tb t : TED} {p pos : Pos}
theorem d_ixS {K : PySem.W.Frag} (ha : PEd T X a ta) (hb : PEd T X b tb) (hK : X.K = K) (hs : PlainIx b := by intro _ _; rfl) : PEd T X (.Subscript a b pos) (tOpD (mIxS K) ta tb) := by subst hK; exact wkE (pe_ix ix_seq ha hb hs) fun _ _ _ => lf_op op2_ixS
theorem d_lenS {K : PySem.W.Frag} (ha : PEd T X e t) (hg : Gl X "len") (hm : X.mg "len" = none) (hK : X.K = K) (he : starEach [e] X.env = (false, eval e X.env) :: starEach [] X.env := by rfl) : PEd T X (.Call (.Name "len" p) [e] [] pos) (tUnD (mLenS K) t) := by subst hK; exact d_callB call_len op1_lenS hg hm bb_len ha (he := he)
end
/-! ### instances -/
def putFD (f : Str) (v : D) : List (Str × D) → List (Str × D)
  | [] => [(f, v)]
  | (g, x) :: r => if g = f then (g, v) :: r else (g, x) :: putFD f v r
theorem fsr_put {H : Hp} {f : Str} {d : D} {v : V} (r : RD H d v) : ∀ {fs : List (Str × D)} {gs : List (Str × V)}, FSR H fs gs → FSR H (putFD f d fs) (putF f v gs)
  | _, _, .nil => .cons ⟨rfl, r⟩ .nil
  | (g, x) :: fs, (g', y) :: gs, .cons h t => by
    obtain ⟨e, h⟩ := h
    cases (show g = g' from e)
    show FSR H (if g = f then (g, d) :: fs else (g, x) :: putFD f d fs) (if g = f then (g, v) :: gs else (g, y) :: putF f v gs)
    by_cases z : g = f
    · rw [if_pos z, if_pos z]; exact .cons ⟨rfl, r⟩ t
    · rw [if_neg z, if_neg z]; exact .cons ⟨rfl, h⟩ (fsr_put r t)
theorem fsr_len {H : Hp} : ∀ {fs : List (Str × D)} {gs : List (Str × V)}, FSR H fs gs → gs.length = fs.length
  | _, _, .nil => rfl
  | _ :: _, _ :: _, .cons _ t => by rw [List.length_cons, List.length_cons, fsr_len t]
theorem fsr_look {H : Hp} {f : Str} {d : D} : ∀ {fs : List (Str × D)} {gs : List (Str × V)}, FSR H fs gs → fs.lookup f = some d → ∃ v, gs.lookup f = some v ∧ RD H d v
  | _, _, .nil, h => by cases h
  | (g, x) :: fs, (g', y) :: gs, .cons h t, e => by
    obtain ⟨e1, h⟩ := h
    cases (show g = g' from e1)
    rw [List.lookup_cons] at e ⊢
    cases z : f == g with
    | true => rw [z] at e; cases e; exact ⟨y, rfl, h⟩
    | false => rw [z] at e; exact fsr_look t e
def tFldD (C : Addr) (f : Str) (t : TED) : TED := fun r M R => t r M fun x M1 => ∃ a fs d, x = .ob a ∧ M1 a = some (.ins C fs) ∧ fs.lookup f = some d ∧ R d M1
def tFldSD (C : Addr) (f : Str) (tv ta : TED) : TSD := fun E r M => tv r M fun y M1 => ta r M1 fun x M2 => ∃ a fs, x = .ob a ∧ M2 a = some (.ins C fs) ∧ fs.length < 1000 ∧ E.nx r (um M2 a (.ins C (putFD f y fs)))
def tMakeD (C : Addr) (sp : SpD) (t : TAD) : TED := fun r M R => t r M fun ds M1 => ∀ p, M1 p = none → sp (.ob p :: ds) (um M1 p (.ins C [])) fun v M2 => v = .non ∧ R (.ob p) M2
section
variable {X : Cx} {T : List (Addr × Str)} {C : Addr} {o e value : Expr} {f : Str} {ta tv : TED} {pos pos' : Pos}
theorem d_fld (c : Cls X.K C) (n : NoAttr X.K C f) (he : PEd T X e ta) (hb : attributeBase e f X.env (eval e X.env) = eval e X.env := by rfl) : PEd T X (.Attribute e f pos) (tFldD C f ta) := wkE (pe_fld he hb) fun σ H Q h => by
  obtain ⟨r, M, R, hs, hm, ht, k⟩ := h
  refine ⟨r, M, _, hs, hm, ht, fun x v M1 H1 t1 r1 m1 q => ?_⟩
  obtain ⟨a, fs, d, rfl, e, hl, q⟩ := q
  cases (show v = .ref a from r1)
  obtain ⟨dx, gs, ha, hf⟩ := m1.at_ a _ e
  obtain ⟨v', h1, h2⟩ := fsr_look hf hl
  exact ⟨a, C, dx, gs, v', rfl, ha, c, n, h1, k d v' M1 H1 t1 h2 m1 q⟩
theorem ds_fld (c : Cls X.K C) (n : NoAttr X.K C f) (ha : PEd T X o ta) (hv : PEd T X value tv) (hs : swapsWith value (some (.Attribute o f pos')) pos.line X.env = pure false := by rfl) : PSd T X (.Assign [.Attribute o f pos'] value pos) (tFldSD C f tv ta) := wkS (ps_fld ha hv hs) fun E σ H h => by
  obtain ⟨r, M, DD, hs, hm, ht, k1, k2, k3, k4⟩ := h
  refine ⟨r, M, _, hs, hm, ht, fun y u M1 H1 t1 r1 m1 q => ⟨r, M1, _, hs.mono t1, m1, q, fun x v M2 H2 t2 r2 m2 q2 => ?_⟩⟩
  obtain ⟨a, fs, rfl, e, hl, q2⟩ := q2
  cases (show v = .ref a from r2)
  obtain ⟨dx, gs, ha, hf⟩ := m2.at_ a _ e
  have tn : TL H2 (upd H2 a (.ins C dx (putF f u gs))) := tl_wr ha trivial
  refine ⟨a, C, dx, gs, rfl, ha, c, n, by rw [fsr_len hf]; exact hl, k1 r _ σ _ ((t1.trans t2).trans tn) (((hs.mono t1).mono t2).mono tn) (m2.write (o := .ins C (putFD f y fs)) ha trivial ⟨dx, _, upd_same, ?_⟩) q2⟩
  exact Paired.mapQ (fsr_put (r1.mono t2) hf) fun p q z => ⟨z.1, z.2.mono tn⟩
variable {k : Nat} {x : Str} {sp : SpD} {p : Pos} {es : List Expr} {t : TAD} {fI : Addr}
theorem d_make (Mm : Mk X.K C fI) (Ci : CalA X.prog X.w X.K X.mg X.base T k fI sp) (hr : Room (k + 1) X.A) (hg : Gl X x) (hm : X.mg x = some (.ref C)) (ha : PAd T X (e :: es) t) (hdb : (x == ("__debug__" : Str)) = false := by decide)
    (he : starEach (e :: es) X.env = (false, eval e X.env) :: starEach es X.env := by rfl) (hpl : (backTo pos (starEach es X.env)).any (·.1) = false := by rfl) : PEd T X (.Call (.Name x p) (e :: es) [] pos) (tMakeD C sp t) := by
  obtain ⟨fd, ps, F, hk, hb⟩ := Ci.ex
  refine wkE (pe_make Mm F hr hg hm hb .nil pass0 ha hdb he hpl) fun σ H Q h => ?_
  obtain ⟨r, M, R, hs, hm, ht, k⟩ := h
  refine ⟨r, M, _, hs, hm, ht, fun ds vs M1 H1 t1 r1 m1 q => fun x dx hx hdx hne => ?_⟩
  have t2 : TL H1 (upd H1 dx (.own x)) := tl_new hdx
  have m2 : RM X.prog X.w X.K T M1 (upd H1 dx (.own x)) := m1.keep (up_keep hdx)
  have hx2 : upd H1 dx (.own x) x = none := by rw [upd_ne (Ne.symm hne)]; exact hx
  have t3 : TL (upd H1 dx (.own x)) (upd (upd H1 dx (.own x)) x (.ins C dx [])) := tl_new hx2
  obtain ⟨n1, m3⟩ := rm_new (ob := .ins C dx []) (o := .ins C []) m2 hx2 ⟨dx, [], upd_same, .nil⟩
  show lfSp X.prog X.w X.K T sp (.ref x :: (vs ++ [])) _ _ _
  rw [List.append_nil]
  refine ⟨.ob x :: ds, _, _, .cons rfl ((r1.mono t2).mono t3), m3, q x n1, fun d v M' H' t4 r4 m4 q4 => ?_⟩
  obtain ⟨rfl, q4⟩ := q4
  exact ⟨r4, k (.ob x) (.ref x) M' H' (t1.trans (t2.trans (t3.trans t4))) rfl m4 q4⟩
end
/-- a def by its address -/
theorem calA_of {P : Program} {w : World} {K : PySem.W.Frag} {mg : Str → Option Value} {base : Heap} {T : List (Addr × Str)} {x qual : Str} {params : Arguments} {body : List Stmt} {scope : Scope} {f : Addr} {fd : FuncData} {N ps : List Str} {k : Nat} {sp : SpD} {t : TSD} (F : FunD K x qual params body scope [] [] f fd) (S : FnScope N ps scope)
    (hb : ∀ (kV doc pm : Value) (an : Option Addr) (cdv ct : Value) (us : List Value), us.length = ps.length → bindArgs (PySem.W.fnOf x qual params body scope .none kV doc pm an cdv ct) ⟨us, []⟩ = pure (ps.zip us))
    (hder : ∀ (cdv : Value) (A : Around) (outer : List Env) (s : Shared) (H : Hp) (E : XK), Room k (A.deeper (envOfC qual scope s.heap.objs.size f cdv)) → PSsd T (cxOf CX0 P w K mg base N qual scope f cdv A outer s H E).nox body t)
    (len : ∀ ds M R, sp ds M R → ds.length = ps.length) (hread : ∀ ds M R, sp ds M R → t (endD R) (startD N ds) M) : CalA P w K mg base T (k + 1) f sp :=
  ⟨fd, ps, dfn F S hder len hread, F.kp, F.bindsN hb⟩
theorem Cal.addr {P : Program} {w : World} {K : PySem.W.Frag} {mg : Str → Option Value} {base : Heap} {T : List (Addr × Str)} {k : Nat} {x : Str} {sp : SpD} (C : Cal P w K mg base T k x sp) {f : Addr} (hm : mg x = some (.ref f)) : CalA P w K mg base T k f sp := by
  obtain ⟨f', fd, ps, F, hm', hk, hb⟩ := C.ex
  rw [hm] at hm'
  cases hm'
  exact ⟨fd, ps, F, hk, hb⟩
theorem Cal.glob {P : Program} {w : World} {K : PySem.W.Frag} {mg : Str → Option Value} {base : Heap} {T : List (Addr × Str)} {k : Nat} {x : Str} {sp : SpD} (C : Cal P w K mg base T k x sp) : ∃ f, mg x = some (.ref f) ∧ CalA P w K mg base T k f sp := by
  obtain ⟨f', fd, ps, F, hm', hk, hb⟩ := C.ex
  exact ⟨f', hm', fd, ps, F, hk, hb⟩
theorem CalA.up {P : Program} {w : World} {K : PySem.W.Frag} {mg : Str → Option Value} {base : Heap} {T : List (Addr × Str)} {k j : Nat} {f : Addr} {sp : SpD} (C : CalA P w K mg base T j f sp) (h : j ≤ k) : CalA P w K mg base T k f sp :=
  let ⟨fd, ps, F, hk, hb⟩ := C.ex
  ⟨fd, ps, F.mono h, hk, hb⟩
theorem CalA.weak {P : Program} {w : World} {K : PySem.W.Frag} {mg : Str → Option Value} {base : Heap} {T : List (Addr × Str)} {k : Nat} {f : Addr} {sp sp' : SpD} (C : CalA P w K mg base T k f sp) (h : ∀ ds M R, sp' ds M R → sp ds M R) : CalA P w K mg base T k f sp' :=
  let ⟨fd, ps, F, hk, hb⟩ := C.ex
  ⟨fd, ps, F.imp fun vs H Q E q => let ⟨ds, M, R, r, m, q, kk⟩ := q; ⟨ds, M, R, r, m, h ds M R q, kk⟩, hk, hb⟩
end My
set_option maxHeartbeats 4000000
/-! D12: closures of two parameters that capture one name and hand on to a def. -/
namespace My
open PySem PySem.Spec PyProof.Rows L2
/-! ### heaps with a cell forgotten -/
def hdrop (H : Hp) (c : Addr) : Hp := fun b => if b = c then none else H b
def hback (H H' : Hp) (c : Addr) : Hp := fun b => if b = c then H c else H' b
def TT (H H' : Hp) : Prop := ∀ b xs, H b = some (.tup xs) → H' b = some (.tup xs)
theorem TL.tt {H H' : Hp} (t : TL H H') : TT H H' := fun b xs h => t b _ imm_tup h
mutual
theorem RD.monoT {H H' : Hp} (t : TT H H') : ∀ {d : D} {v : V}, RD H d v → RD H' d v
  | .non, _, h => h
  | .bl _, _, h => h
  | .int _, _, h => h
  | .ob _, _, h => h
  | .tup ds, v, h => by
    obtain ⟨a, vs, e, ha, hs⟩ := (show ∃ a vs, v = .ref a ∧ H a = some (.tup vs) ∧ RDs H ds vs from h)
    exact ⟨a, vs, e, t _ _ ha, RDs.monoT t hs⟩
theorem RDs.monoT {H H' : Hp} (t : TT H H') : ∀ {ds : List D} {vs : List V}, RDs H ds vs → RDs H' ds vs
  | [], _, h => h
  | d :: ds, vs, h => by
    obtain ⟨v, r, e, h1, h2⟩ := (show ∃ v r, vs = v :: r ∧ RD H d v ∧ RDs H ds r from h)
    exact ⟨v, r, e, RD.monoT t h1, RDs.monoT t h2⟩
end
section
variable {P : Program} {w : World} {K : PySem.W.Frag} {T : List (Addr × Str)} {H H' : Hp} {a : Addr} {o : MO}
/-- the thing itself is there -/
theorem RO.is (h : RO P w K H a o) : ∃ u, H a = some u ∧ (∀ ps, u ≠ .tbl ps) ∧ (∀ x, u ≠ .own x) ∧ ∀ xs, u ≠ .tup xs := by
  cases o with
  | lst ds => obtain ⟨vs, e, r⟩ := h; exact ⟨_, e, (fun _ z => by cases z), (fun _ z => by cases z), fun _ z => by cases z⟩
  | dI kvs => obtain ⟨vs, e, r⟩ := h; exact ⟨_, e, (fun _ z => by cases z), (fun _ z => by cases z), fun _ z => by cases z⟩
  | dT kvs => obtain ⟨vs, e, r⟩ := h; exact ⟨_, e, (fun _ z => by cases z), (fun _ z => by cases z), fun _ z => by cases z⟩
  | dN kvs => obtain ⟨vs, xs, e, r⟩ := h; exact ⟨_, e, (fun _ z => by cases z), (fun _ z => by cases z), fun _ z => by cases z⟩
  | ins C fs => obtain ⟨vs, xs, e, r⟩ := h; exact ⟨_, e, (fun _ z => by cases z), (fun _ z => by cases z), fun _ z => by cases z⟩
  | ro ns => obtain ⟨ob, e⟩ := h; exact ⟨_, e, (fun _ z => by cases z), (fun _ z => by cases z), fun _ z => by cases z⟩
  | fz ob => exact ⟨_, h, (fun _ z => by cases z), (fun _ z => by cases z), fun _ z => by cases z⟩
  | code q => exact ⟨_, h, LamX.codeO_ne, (fun _ z => by unfold LamX.CodeO at z; cases z), fun _ z => by unfold LamX.CodeO at z; cases z⟩
theorem RO.keepT (h : RO P w K H a o) (k : ∀ u, H a = some u → (∀ ps, u ≠ .tbl ps) → H' a = some u) (t : TT H H') : RO P w K H' a o := by
  cases o with
  | lst ds => obtain ⟨vs, e, r⟩ := h; exact ⟨vs, k _ e (fun _ z => by cases z), r.monoT t⟩
  | dI kvs => obtain ⟨ks, e, r⟩ := h; exact ⟨ks, k _ e (fun _ z => by cases z), Paired.mapQ r fun p q z => ⟨z.1, z.2.monoT t⟩⟩
  | dT kvs => obtain ⟨ks, e, r⟩ := h; exact ⟨ks, k _ e (fun _ z => by cases z), Paired.mapQ r fun p q z => ⟨z.1, z.2.monoT t⟩⟩
  | dN kvs =>
    obtain ⟨ob, xs, e, n, r⟩ := h
    exact ⟨ob, xs, k _ e (fun _ z => by cases z), n, Paired.mapQ r fun p q z => ⟨z.1, z.2.1.monoT t, let ⟨v, z1, z2⟩ := z.2.2; ⟨v, z1, z2.monoT t⟩⟩⟩
  | ins C fs => obtain ⟨dx, gs, e, r⟩ := h; exact ⟨dx, gs, k _ e (fun _ z => by cases z), Paired.mapQ r fun p q z => ⟨z.1, z.2.monoT t⟩⟩
  | ro ns => obtain ⟨ob, h⟩ := h; exact ⟨ob, k _ h (fun _ z => by cases z)⟩
  | fz ob => exact k _ h (fun _ z => by cases z)
  | code q => exact k _ h LamX.codeO_ne
end
/-! ### the closure's context -/
abbrev lamE (q : Str) (scope : Scope) (cl : List (Str × Addr)) (L f c' : Addr) : Env := PySem.W.envX q scope L f (.ref c') cl
def lamC (P : Program) (w : World) (K : PySem.W.Frag) (mg : Str → Option Value) (base : Heap) (N : List Str) (q : Str) (scope : Scope) (cl : List (Str × Addr)) (A : Around) (outer : List Env) (s : Shared) (H : Hp) (f c' : Addr) : Cx where
  prog := P
  w := w
  K := K
  mg := mg
  base := base
  A := A.deeper (lamE q scope cl s.heap.objs.size f c')
  N := N
  s_0 := s
  H_0 := H
  env := lamE q scope cl s.heap.objs.size f c'
  outer := outer
  stack := lamE q scope cl s.heap.objs.size f c' :: outer
  ex := []
  fn := fun _ => false
  calm := true
  pn := []
  xe := fun e s' => wpAny (model P w) (A.deeper (lamE q scope cl s.heap.objs.size f c')) (leaving (lamE q scope cl s.heap.objs.size f c') e) (fun _ s'' => L2.CX0 outer H s E0 e s'') (fun e' s'' => L2.CX0 outer H s E0 e' s'') s'
/-- the names of the closure: two parameters a, b; y is captured -/
structure LS (scope : Scope) (a b y : Str) : Prop where
  kind : scope.kind = .function
  co : scope.isCoroutine = false
  gen : scope.isGenerator = false
  la : scope.names.lookup a = some .local
  lb : scope.names.lookup b = some .local
  ly : scope.names.lookup y = some .free
  nc : ∀ z ∈ scope.names, z.2 ≠ .cell
  fr : ∀ z ∈ scope.names, z.2 = .free → z.1 = y
  ab : a ≠ b
def OAt (base : Heap) (H : Hp) (a : Addr) (ob : Obj) : Prop := H a = some (.frz ob (.own 0)) ∨ base.get? a = some ob
/-- at f stands the closure, its cell cw holds u -/
def CloV (base : Heap) (H : Hp) (q : Str) (params : Arguments) (body : Expr) (scope : Scope) (y : Str) (f cw : Addr) (u : Value) : Prop :=
  ∃ (c' : Addr) (pm ctv : Value) (cob : Obj), OAt base H f (PySem.W.kla_obj "<lambda>" q params body scope [(y, cw)] pm c' ctv) ∧ H cw = some (.frz cob (.own 0)) ∧ cob.data = .cell (some u) ∧ H c' = some (LamX.CodeO c' q)
theorem vals2 : ∀ {x y : V} {us : List Value}, Vals [x, y] us → ∃ u1 u2, us = [u1, u2] ∧ RelV x u1 ∧ RelV y u2
  | _, _, _, .cons r1 (.cons r2 .nil) => ⟨_, _, rfl, r1, r2⟩
section
variable {X : Cx}
theorem frs_ne {base : Heap} {H : Hp} {s : Shared} {l : List Env} {P : Program} {w : World} {K : PySem.W.Frag} {mg : Str → Option Value} {A : Around} (e : Env0 P w K mg base A l s H) {b : Addr} {o : HO} (h : H b = some o) : b ∉ frs l := fun z => by
  have := e.frf b z
  rw [this] at h; cases h
/-- x(e1, e2) where the slot i holds the closure -/
theorem pe_clo {i : Nat} {x a b y q : Str} {params : Arguments} {body e1 e2 : Expr} {scope : Scope} {k : Nat} {p1 p2 : Pos} {tA : TA} {tb : TE} (L : LS scope a b y)
    (hbind : ∀ (cl : List (Str × Addr)) (pm cv ctv u1 u2 : Value), bindArgs (PySem.W.kla_fn "<lambda>" q params body scope cl pm cv ctv) ⟨[u1, u2], []⟩ = pure [(a, u1), (b, u2)])
    (hbody : ∀ (A : Around) (outer : List Env) (s : Shared) (H : Hp) (f c' cw : Addr), Room k (A.deeper (lamE q scope [(y, cw)] s.heap.objs.size f c')) → PE (lamC X.prog X.w X.K X.mg X.base [a, b, y] q scope [(y, cw)] A outer s H f c') body tb)
    (hr : Room (k + 1) X.A) (hN : X.N[i]? = some x) (hv : Vis X.env.scope x) (ha : PA X [e1, e2] tA) (hd : (x == ("__debug__" : Str)) = false := by decide) (hcd : (x == ("__classdict__" : Str)) = false := by decide)
    (he : starEach [e1, e2] X.env = (false, eval e1 X.env) :: starEach [e2] X.env := by rfl) (hpl : (backTo p2 (starEach [e2] X.env)).any (·.1) = false := by rfl) :
    PE X (.Call (.Name x p1) [e1, e2] [] p2) (fun σ H Q => ∃ f, σ[i]? = some (some (.ref f)) ∧ (∃ ob : Obj, OAt X.base H f ob ∧ ∃ nm q2 pr bd sc cl pm c' ctv, ob = PySem.W.kla_obj nm q2 pr bd sc cl pm c' ctv) ∧ tA σ H fun vs H1 => ∃ v1 v2 vw cw u, vs = [v1, v2] ∧ RelV vw u ∧ CloV X.base H1 q params body scope y f cw u ∧
      tb [some v1, some v2, some vw] (hdrop H1 cw) fun v H2 => H2 cw = none → Q v (hback H1 H2 cw)) := by
  refine ⟨fun pins s σ H Q I h => ?_⟩
  obtain ⟨f, hs, ⟨ob, hob, hsh⟩, ht⟩ := h
  refine wpAny_Call_Name_kw (thn ((pe_var (pos := p1) (i := i) hN hv hd hcd).run pins s σ H (fun v H1 => v = .ref f ∧ H1 = H) I ⟨.ref f, hs, rfl, rfl⟩) fun u0 s1 ⟨v, H1, I1, r1, q1⟩ => ?_)
  obtain ⟨ev, eH⟩ := q1
  subst ev
  subst eH
  obtain rfl : u0 = Value.ref f := r1
  obtain ⟨nm, q2, pr, bd, sc, cl, pm0, c0, ctv0, rfl⟩ := hsh
  have of0 : ∀ {Hx : Hp} {sx : Shared} {σx : L2.St} {pinsx : List (Addr × Obj)} {o : Obj}, Inv X pinsx σx Hx sx → OAt X.base Hx f o → sx.heap.get? f = some o := fun J z => by
    rcases z with z | z
    · exact (J.hok f _ z).1
    · exact (J.bs f _ z).1
  refine PySem.W.callWith_F ⟨_, _, _, _, of0 I1 hob⟩ (thn (ha.run p2 pins s1 σ H1 _ I1 ht) fun us s2 ⟨vs, H2, I2, rs, q2⟩ => ?_) he hpl
  obtain ⟨v1, v2, vw, cw, u, rfl, rw', ⟨c', pm, ctv, cob, hf, hcw, hcd', hcc⟩, htb⟩ := q2
  obtain ⟨u1, u2, rfl, ra, rb⟩ := vals2 rs
  have of2 := of0 I2 hf
  refine ⟨⟨_, _, _, _, of2⟩, ?_⟩
  obtain ⟨⟨oc, vsc, tq, hoc, hdc, hvc⟩, _, _⟩ := I2.hok c' _ hcc
  have hcwo : s2.heap.get? cw = some cob := (I2.hok cw _ hcw).1
  have env0 := I2.env0
  have ncw : cw ∉ frs X.stack := frs_ne env0 hcw
  have hdn : ∀ b, b ≠ cw → hdrop H2 cw b = H2 b := fun b hb => if_neg hb
  have hdc0 : hdrop H2 cw cw = none := if_pos rfl
  have hok' : HOk X.prog X.w (hdrop H2 cw) s2.heap := fun b o e => by
    have hb : b ≠ cw := fun z => by rw [z, hdc0] at e; cases e
    rw [hdn b hb] at e
    refine (I2.hok b o e).stay (fun _ _ _ z => z) (fun d z => ?_) (fun d xs z => ?_)
    · rw [hdn d (fun y => by rw [y, hcw] at z; cases z)]; exact z
    · rw [hdn d (fun y => by rw [y, hcw] at z; cases z)]; exact z
  have none' : ∀ b, H2 b = none → hdrop H2 cw b = none := fun b e => by
    by_cases hb : b = cw
    · rw [hb]; exact hdc0
    · rw [hdn b hb]; exact e
  have rc : codeAny (model X.prog X.w) X.A (.call (.ref f) ⟨[u1, u2], []⟩) (CR L2.CX0 X.stack X.prog X.w (hdrop H2 cw) s2 (fun v H3 => H3 cw = none → Q v (hback H2 H3 cw)) E0) s2 := by
    refine PySem.W.kla_callFunE hr.depth of2 rfl L.co L.gen rfl ⟨c', oc, vsc, tq, rfl, hoc, hdc, hvc⟩ ?_
    rw [hbind]
    refine wpAny_pure (wpAny_newFunctionEnv L.nc (fun z hz => ?_) (fun h₁ hns hsb => ⟨I2.nolimit.fresh _ hsb, ?_⟩) L.kind)
    · simp only [List.mem_cons, List.not_mem_nil, or_false] at hz
      rcases hz with rfl | rfl
      · exact L.la
      · exact L.lb
    show codeAny _ _ (.expr body (lamE q scope [(y, cw)] s2.heap.objs.size f c')) _ _
    have kp : ∀ b o, s2.heap.get? b = some o → h₁.get? b = some o := fun b o e => hsb.extBut b o (Nat.ne_of_lt (Heap.lt_size e)) (Heap.get?_push_of_some _ e)
    have noA : ∀ bb : Addr, bb ∉ (lamC X.prog X.w X.K X.mg X.base [a, b, y] q scope [(y, cw)] X.A X.stack s2 (hdrop H2 cw) f c').ex := fun bb z => absurd (show bb ∈ ([] : List Addr) from z) (by simp)
    have cl1 : ∀ z c, ([(y, cw)] : List (Str × Addr)).lookup z = some c → z = y ∧ c = cw := fun z c e => by
      rw [List.lookup_cons] at e
      cases hz : z == y with
      | true => rw [hz] at e; exact ⟨beq_iff_eq.mp hz, (Option.some.inj e).symm⟩
      | false => rw [hz] at e; cases e
    have cl2 : ([(y, cw)] : List (Str × Addr)).lookup y = some cw := by rw [List.lookup_cons, beq_self_eq_true]
    have J : Inv (lamC X.prog X.w X.K X.mg X.base [a, b, y] q scope [(y, cw)] X.A X.stack s2 (hdrop H2 cw) f c') [] [some v1, some v2, some vw] (hdrop H2 cw) { s2 with heap := h₁, toks := s2.toks + [(a, u1), (b, u2)].length } := by
      refine ⟨⟨env0.mod, L.kind, rfl, rfl, Nat.le_refl _, fun z1 z2 c h1 h2 => (cl1 z1 c h1).1.trans (cl1 z2 c h2).1.symm, fun z hz => ?_, fun z c hz _ => ?_, fun _ => hr.hd, Around.frames_deeper env0.frames, .inr ⟨rfl, rfl⟩, fun b z => absurd z (noA b), fun b o e => ⟨(env0.bs b o e).1, none' b (env0.bs b o e).2⟩, env0.bsz, fun b _ _ => noA b,
        fun b z => absurd z (noA b), env0.funs, fun b hb => none' b (env0.frf b hb)⟩,
        rfl, env0.bare, Un.kept kp, ⟨_, hns, fun j z v e1 e2 e3 => ?_⟩, fun z c e => ?_, none' _ (I2.hok.fresh (Nat.le_refl _)), fun z c e => ?_, fun p hp => absurd (show p ∈ ([] : List (Addr × Obj)) ++ [] from hp) (by simp), hok'.kept kp, rfl⟩
      · have hz : scope.names.lookup z = some .cell ∨ scope.names.lookup z = some .free := hz
        rcases hz with hz | hz
        · exact absurd rfl (L.nc _ (PySem.mem_of_lookup hz))
        · have := L.fr _ (PySem.mem_of_lookup hz) rfl
          exact ⟨cw, by rw [show z = y from this]; exact cl2⟩
      · have hz : false = true := hz
        cases hz
      · match j, e1, e2 with
        | 0, e1, e2 =>
          cases (show a = z from Option.some.inj e1)
          cases (show some v1 = some v from Option.some.inj e2)
          refine ⟨u1, ra, .inl ⟨L.la, ?_⟩⟩
          show ([(b, u2), (a, u1)] : List (Str × Value)).lookup a = some u1
          rw [List.lookup_cons, beq_eq_false_iff_ne.mpr L.ab]
          show ([(a, u1)] : List (Str × Value)).lookup a = some u1
          rw [List.lookup_cons, beq_self_eq_true]
        | 1, e1, e2 =>
          cases (show b = z from Option.some.inj e1)
          cases (show some v2 = some v from Option.some.inj e2)
          refine ⟨u2, rb, .inl ⟨L.lb, ?_⟩⟩
          show ([(b, u2), (a, u1)] : List (Str × Value)).lookup b = some u2
          rw [List.lookup_cons, beq_self_eq_true]
        | 2, e1, e2 =>
          cases (show y = z from Option.some.inj e1)
          cases (show some vw = some v from Option.some.inj e2)
          exact ⟨u, rw', .inr ⟨.inr L.ly, cw, cl2, cob, kp _ _ hcwo, hcd'⟩⟩
        | j + 3, e1, e2 => simp at e2
      · obtain ⟨_, rfl⟩ := cl1 z c e
        exact ⟨some u, cob, kp _ _ hcwo, hcd'⟩
      · obtain ⟨_, rfl⟩ := cl1 z c e
        exact hdc0
    refine PySem.W.kla_codeExpr (wpAny_mono ((hbody X.A X.stack s2 (hdrop H2 cw) f c' cw (hr.deeper _)).run [] _ _ _ _ J htb) (fun v s' hq => ?_) fun e s' hq => hq)
    obtain ⟨w', H', J', rv, hq⟩ := hq
    exact ⟨w', H', J'.os, J'.bare, J'.base, J'.hok, rv, hq⟩
  refine wpAny_call (codeAny_mono rc fun r s' hq => ?_)
  cases r with
  | error e => exact (show False from hq).elim
  | ok fl =>
    cases fl with
    | ret ur =>
      obtain ⟨v, H3, os, bare, un, hok3, rv, hq⟩ := hq
      have h3c : H3 cw = none := un.free cw cob hcwo hdc0 (by simp)
      have hbn : ∀ b, b ≠ cw → hback H2 H3 cw b = H3 b := fun b hb => if_neg hb
      have hbc : hback H2 H3 cw cw = H2 cw := if_pos rfl
      refine I2.after ⟨v, hback H2 H3 cw, os, bare, ⟨fun b o e n hb hx => ?_, fun b o e n hb hx => ?_, fun b o e n hx => ?_, fun b o e hx => un.there b o e hx, fun b xs e => ?_, fun b o uu e => ?_, fun b ps e => ?_⟩, fun b o e => ?_, rv, hq h3c⟩
      · exact un.keep b o e (none' b n) hb hx
      · exact un.slot b o e (none' b n) hb hx
      · have hb : b ≠ cw := fun z => by rw [z, hcw] at n; cases n
        rw [hbn b hb]; exact un.free b o e (none' b n) hx
      · have hb : b ≠ cw := fun z => by rw [z, hcw] at e; cases e
        rw [hbn b hb]; exact un.tups b xs (by rw [hdn b hb]; exact e)
      · by_cases hb : b = cw
        · rw [hb, hbc]; rw [hb] at e; exact e
        · rw [hbn b hb]; exact un.frzs b o uu (by rw [hdn b hb]; exact e)
      · have hb : b ≠ cw := fun z => by rw [z, hcw] at e; cases e
        rw [hbn b hb]; exact un.tbls b ps (by rw [hdn b hb]; exact e)
      · by_cases hb : b = cw
        · rw [hb, hbc, hcw] at e
          cases e
          rw [hb]
          have := un.keep cw cob hcwo hdc0 ncw (by simp)
          exact ⟨this, ⟨_, this⟩⟩
        · rw [hbn b hb] at e
          refine (hok3 b o e).stay (fun _ _ _ z => z) (fun d z => ?_) (fun d xs z => ?_)
          · rw [hbn d (fun yy => by rw [yy, h3c] at z; cases z)]; exact z
          · rw [hbn d (fun yy => by rw [yy, h3c] at z; cases z)]; exact z
    | next => exact False.elim hq
    | brk => exact False.elim hq
    | cont => exact False.elim hq
end
end My
set_option maxHeartbeats 4000000
/-! D13: a lambda handed on; the rules on data. -/
namespace My
open PySem PySem.Spec PyProof.Rows L2
open Classical in
noncomputable def hfz (base : Heap) (H : Hp) (f : Addr) (fob : Obj) (c : Addr) (cob : Obj) : Hp := fun b => if b = c then some (.frz cob (.own 0)) else if b = f ∧ base.get? f = none then some (.frz fob (.own 0)) else H b
def hdrop2 (H : Hp) (f c : Addr) : Hp := fun b => if b = c ∨ b = f then none else H b
theorem hd2_ne {H : Hp} {f c b : Addr} (h1 : b ≠ c) (h2 : b ≠ f) : hdrop2 H f c b = H b := if_neg fun z => z.elim h1 h2
theorem hfz_c {base : Heap} {H : Hp} {f c : Addr} {fob cob : Obj} : hfz base H f fob c cob c = some (.frz cob (.own 0)) := if_pos rfl
theorem hfz_ne {base : Heap} {H : Hp} {f c b : Addr} {fob cob : Obj} (h1 : b ≠ c) (h2 : b ≠ f) : hfz base H f fob c cob b = H b := by
  unfold hfz; rw [if_neg h1, if_neg (fun z => h2 z.1)]
section
variable {X : Cx}
/-- x(e1, e2, e3, lambda a, b: ..) -/
theorem pe_lam3 {T : List (Addr × Str)} {x y : Str} {iy : Nat} {g c P : Addr} {k : Nat} {fd : FuncData} {ps : List Str} {sp : Sp} {params : Arguments} {body e1 e2 e3 : Expr} {scope : Scope} {t1 t2 t3 : TE} {p lpos pos : Pos}
    (TB : LamX.TabB X.base X.mg c P) (hcode : X.env.code = .ref c) (hmT : (P, X.env.qual ++ "<lambda>") ∈ T) (hu : ∀ p ∈ T, p.1 = P → p.2 = X.env.qual ++ "<lambda>")
    (hy : X.env.scope.names.lookup y = some .cell) (hfn : X.fn y = true) (hN : X.N[iy]? = some y)
    (F : FnOk X.prog X.w X.K X.mg X.base L2.CX0 k g fd ps sp) (hr : Room k X.A) (hg : Gl X x) (hm : X.mg x = some (.ref g)) (hk : PySem.W.keepIn X.K (.ref g) = true) (hb : Binds X.K fd ps [])
    (h1 : PE X e1 t1) (h2 : PE X e2 t2) (h3 : PE X e3 t3)
    (hcl : ∀ cells : List (Str × Addr), cloFrom cells scope.names [] = [(y, (cells.lookup y).getD 0)] := by intro _; rfl) (hfr : ∀ z ∈ scope.names, z.2 = .free → z.1 = y := by decide +kernel) (hdef : defaultsOf params X.env = ([], []) := by rfl)
    (hdb : (x == ("__debug__" : Str)) = false := by decide)
    (hs1 : starEach [e1, e2, e3, .Lambda params body scope lpos] X.env = (false, eval e1 X.env) :: starEach [e2, e3, .Lambda params body scope lpos] X.env := by rfl)
    (hs2 : starEach [e2, e3, .Lambda params body scope lpos] X.env = (false, eval e2 X.env) :: starEach [e3, .Lambda params body scope lpos] X.env := by rfl)
    (hs3 : starEach [e3, .Lambda params body scope lpos] X.env = (false, eval e3 X.env) :: starEach [.Lambda params body scope lpos] X.env := by rfl)
    (hpl : (backTo pos (starEach [e2, e3, .Lambda params body scope lpos] X.env)).any (·.1) = false := by rfl) :
    PE X (.Call (.Name x p) [e1, e2, e3, .Lambda params body scope lpos] [] pos) (fun σ H Q => t1 σ H fun v1 H1 => t2 σ H1 fun v2 H2 => t3 σ H2 fun v3 H3 => LamX.Tabs T H3 ∧ ∃ vy, σ[iy]? = some (some vy) ∧
      ∀ (f cw c' : Addr) (pm ctv u : Value) (cob : Obj) (H4 : Hp), LamX.ExtN H3 H4 → LamX.Tabs T H4 → H4 f = none → H4 cw = none → f ≠ cw → cob.data = .cell (some u) → RelV vy u → H4 c' = some (LamX.CodeO c' (X.env.qual ++ "<lambda>")) →
        (∀ o, X.base.get? f = some o → o = PySem.W.kla_obj "<lambda>" (X.env.qual ++ "<lambda>") params body scope [(y, cw)] pm c' ctv) →
        sp [v1, v2, v3, .ref f] (hfz X.base H4 f (PySem.W.kla_obj "<lambda>" (X.env.qual ++ "<lambda>") params body scope [(y, cw)] pm c' ctv) cw cob)
          (fun v H5 => H5 cw = some (.frz cob (.own 0)) → (∀ u, H5 f = some u → ∃ ob, u = .frz ob (.own 0)) → Q v (hdrop2 H5 f cw)) E0) := by
  refine ⟨fun pins s σ H Q I h => ?_⟩
  refine wpAny_Call_Name_kw (ld_glob I hg hm ?_ hdb)
  refine PySem.W.callWith_K (h₀ := X.base) I.ok.mod.kin hk ?_ hs1 hpl
  rw [hs1]
  show wpAny _ _ (spliced ((false, eval e1 X.env) :: backTo pos (starEach [e2, e3, .Lambda params body scope lpos] X.env))) _ _ s
  refine Calls.spliced_cons (thn (h1.run pins s σ H _ I h) fun u1 s1 ⟨v1, H1, I1, r1, q1⟩ => ?_)
  rw [hs2]
  show wpAny _ _ (spliced ((false, eval e2 X.env) :: backTo pos (starEach [e3, .Lambda params body scope lpos] X.env))) _ _ s1
  refine Calls.spliced_cons (thn (h2.run pins s1 σ H1 _ I1 q1) fun u2 s2 ⟨v2, H2, I2, r2, q2⟩ => ?_)
  rw [hs3]
  show wpAny _ _ (spliced ((false, eval e3 X.env) :: backTo pos (starEach [.Lambda params body scope lpos] X.env))) _ _ s2
  refine Calls.spliced_cons (thn (h3.run pins s2 σ H2 _ I2 q2) fun u3 s3 ⟨v3, H3, I3, r3, q3⟩ => ?_)
  obtain ⟨hT, vy, hvy, hsp⟩ := q3
  show wpAny _ _ (spliced ((false, eval (.Lambda params body scope lpos) X.env) :: backTo pos (starEach [] X.env))) _ _ s3
  have hhas : ∀ z ∈ scope.names, z.2 = .free → ∃ c, X.env.cells.lookup z.1 = some c := fun z hz e => by
    rw [hfr z hz e]; exact I3.ok.has y (.inl hy)
  obtain ⟨cw, hcw⟩ := I3.ok.has y (.inl hy)
  refine Calls.spliced_cons (LamX.lam_make2 I3 TB hcode hmT hu hT hdef hhas fun f c' pm ctv H4 s4 I4 eN T4 hf hfn' hfr' hco => ?_)
  refine Calls.spliced_nil ⟨I4.kIn, ?_⟩
  rw [hcl, hcw] at hf
  have hf : s4.heap.get? f = some (PySem.W.kla_obj "<lambda>" (X.env.qual ++ "<lambda>") params body scope [(y, cw)] pm c' ctv) := hf
  -- the cell
  have hcn : H4 cw = none := I4.freeC y cw hcw
  obtain ⟨m, hns, hl⟩ := I4.loc
  obtain ⟨u, ru, lk⟩ := hl iy y vy hN hvy (.inr (.inl hy))
  have hcell : s4.heap.IsCell cw (some u) := by
    rcases lk with ⟨k', _⟩ | ⟨_, c2, e, z⟩
    · rw [show X.env.kindOf y = some .cell from hy] at k'; cases k'
    · rw [hcw] at e; cases e; exact z
  obtain ⟨cob, hcob, hcd⟩ := hcell
  have nfc : f ≠ cw := fun z => by rw [z, hcob] at hf; cases hf; cases hcd
  have above : X.s_0.heap.objs.size ≤ cw := I4.ok.cab y cw hfn hcw
  have e0 := I4.env0
  have cbase : X.base.get? cw = none := by
    cases e : X.base.get? cw with
    | none => rfl
    | some o => exact absurd (Nat.lt_of_lt_of_le (Heap.lt_size e) I4.ok.bsz) (Nat.not_lt.mpr above)
  have cst : cw ∉ frs X.stack := fun z => by
    rcases List.mem_cons.mp (I4.stkSub _ z) with e | e
    · obtain ⟨o, es, ep, ho, hd⟩ := hns
      rw [← e, hcob] at ho
      cases ho
      rw [hcd] at hd
      cases hd.1
    · obtain ⟨_, o, ho, _⟩ := I4.ok.funs.mem e
      exact absurd (Heap.lt_size ho) (Nat.not_lt.mpr above)
  have hq := hsp f cw c' pm ctv u cob H4 eN T4 hfn' hcn nfc hcd ru hco (fun o e => by
    have := (I4.bs f o e).1
    rw [hf] at this
    exact (Option.some.inj this).symm)
  generalize hfob : PySem.W.kla_obj "<lambda>" (X.env.qual ++ "<lambda>") params body scope [(y, cw)] pm c' ctv = fob at hf hq
  have hHf : ∀ b, b ≠ cw → b ≠ f → hfz X.base H4 f fob cw cob b = H4 b := fun b => hfz_ne
  have hff : hfz X.base H4 f fob cw cob f = some (.frz fob (.own 0)) ∨ (hfz X.base H4 f fob cw cob f = none ∧ X.base.get? f = some fob) := by
    unfold hfz
    rw [if_neg nfc]
    cases e : X.base.get? f with
    | none => rw [if_pos ⟨rfl, rfl⟩]; exact .inl rfl
    | some o =>
      rw [if_neg (fun z => by cases z.2)]
      have := (I4.bs f o e).1
      rw [hf] at this
      exact .inr ⟨hfn', this.symm ▸ rfl⟩
  have hsame : ∀ b o, H4 b = some o → hfz X.base H4 f fob cw cob b = some o := fun b o e => by
    rw [hHf b (fun z => by rw [z, hcn] at e; cases e) (fun z => by rw [z, hfn'] at e; cases e)]; exact e
  have e0f : Env0 X.prog X.w X.K X.mg X.base X.A X.stack s4 (hfz X.base H4 f fob cw cob) := by
    refine ⟨e0.frames, e0.mod, fun b o e => ⟨(e0.bs b o e).1, ?_⟩, e0.bsz, e0.funs, fun b hb => ?_, fun b o e => ?_, e0.bare⟩
    · have n1 : b ≠ cw := fun z => by rw [z, cbase] at e; cases e
      by_cases n2 : b = f
      · subst n2
        unfold hfz
        rw [if_neg n1, if_neg (fun z => by rw [z.2] at e; cases e)]
        exact hfn'
      · rw [hHf b n1 n2]; exact (e0.bs b o e).2
    · rw [hHf b (fun z => cst (z ▸ hb)) (fun z => hfr' (z ▸ hb))]; exact e0.frf b hb
    · by_cases n1 : b = cw
      · subst n1
        rw [hfz_c] at e
        cases e
        exact ⟨hcob, ⟨_, hcob⟩⟩
      · by_cases n2 : b = f
        · subst n2
          rcases hff with z | z
          · rw [z] at e; cases e; exact ⟨hf, ⟨_, hf⟩⟩
          · rw [z.1] at e; cases e
        · rw [hHf b n1 n2] at e
          exact (I4.hok b o e).stay (fun _ _ _ z => z) (fun d z => hsame d _ z) (fun d xs z => hsame d _ z)
  have rc := F.run X.A X.stack s4 _ ⟨[u1, u2, u3, .ref f], []⟩ [u1, u2, u3, .ref f] [v1, v2, v3, .ref f] _ E0 hr e0f (by
    have hl4 : ([u1, u2, u3, .ref f] ++ [] : List Value).length = ps.length := by
      have := F.len _ _ _ _ hq
      simpa using this
    have := hb s4 [u1, u2, u3, .ref f] I4.kIn hl4
    rwa [List.append_nil] at this) (.cons r1 (.cons r2 (.cons r3 (.cons rfl .nil)))) hq
  refine wpAny_call (codeAny_mono rc fun r s5 hqq => ?_)
  cases r with
  | error e => exact (show False from hqq).elim
  | ok fl =>
    cases fl with
    | ret ur =>
      obtain ⟨v, H5, os, bare, un, hok5, rv, hq5⟩ := hqq
      have h5c : H5 cw = some (.frz cob (.own 0)) := un.frzs cw _ _ hfz_c
      have h5f : H5 f = some (.frz fob (.own 0)) ∨ H5 f = none := by
        rcases hff with z | z
        · exact .inl (un.frzs f _ _ z)
        · exact .inr (un.free f fob hf z.1 (by simp))
      have h5t : ∀ u, H5 f = some u → ∃ ob, u = .frz ob (.own 0) := fun xs z => by
        rcases h5f with e | e <;> rw [e] at z <;> cases z
        exact ⟨_, rfl⟩
      have nd : ∀ b o, H4 b = some o → b ≠ cw ∧ b ≠ f := fun b o e => ⟨(fun z => by rw [z, hcn] at e; cases e), (fun z => by rw [z, hfn'] at e; cases e)⟩
      refine I4.after ⟨v, hdrop2 H5 f cw, os, bare, ⟨fun b o e n hb hx => ?_, fun b o e n hb hx => ?_, fun b o e n hx => ?_, fun b o e hx => un.there b o e hx, fun b xs e => ?_, fun b o uu e => ?_, fun b ps e => ?_⟩, fun b o e => ?_, rv, hq5 h5c h5t⟩
      · by_cases n1 : b = cw
        · subst n1
          rw [hcob] at e; cases e
          exact (hok5 b _ h5c).1
        · by_cases n2 : b = f
          · subst n2
            rw [hf] at e; cases e
            rcases h5f with z | z
            · exact (hok5 b _ z).1
            · rcases hff with y | y
              · have := un.frzs b _ _ y
                rw [z] at this; cases this
              · exact un.keep b fob hf y.1 hb hx
          · exact un.keep b o e (by rw [hHf b n1 n2]; exact n) hb hx
      · have hbs : b ∈ frs X.stack := hb
        have n1 : b ≠ cw := fun z => cst (z ▸ hbs)
        have n2 : b ≠ f := fun z => hfr' (z ▸ hbs)
        exact un.slot b o e (by rw [hHf b n1 n2]; exact n) hb hx
      · by_cases n1 : b = cw
        · exact if_pos (.inl n1)
        · by_cases n2 : b = f
          · exact if_pos (.inr n2)
          · rw [hd2_ne n1 n2]; exact un.free b o e (by rw [hHf b n1 n2]; exact n) hx
      · obtain ⟨n1, n2⟩ := nd b _ e
        rw [hd2_ne n1 n2]; exact un.tups b xs (hsame b _ e)
      · obtain ⟨n1, n2⟩ := nd b _ e
        rw [hd2_ne n1 n2]; exact un.frzs b o uu (hsame b _ e)
      · obtain ⟨n1, n2⟩ := nd b _ e
        rw [hd2_ne n1 n2]; exact un.tbls b ps (hsame b _ e)
      · have n12 : b ≠ cw ∧ b ≠ f := ⟨(fun z => by rw [show hdrop2 H5 f cw b = none from if_pos (.inl z)] at e; cases e), (fun z => by rw [show hdrop2 H5 f cw b = none from if_pos (.inr z)] at e; cases e)⟩
        rw [hd2_ne n12.1 n12.2] at e
        have keep : ∀ d o', H5 d = some o' → (∀ ob v, o' ≠ .frz ob v) → hdrop2 H5 f cw d = some o' := fun d o' z nz => by
          rw [hd2_ne (fun y => by rw [y, h5c] at z; cases z; exact nz _ _ rfl) (fun y => by
            rw [y] at z
            rcases h5f with q | q <;> rw [q] at z
            · cases z; exact nz _ _ rfl
            · cases z)]
          exact z
        exact (hok5 b o e).stay (fun _ _ _ z => z) (fun d z => keep d _ z (fun _ _ y => by cases y)) (fun d xs z => keep d _ z (fun _ _ y => by cases y))
    | next => exact False.elim hqq
    | brk => exact False.elim hqq
    | cont => exact False.elim hqq
end
def FZ (base : Heap) (M : Mp) (f : Addr) (ob : Obj) : Prop := M f = some (.fz ob) ∨ base.get? f = some ob
/-- at f stands the closure; it captured the object at aw, in the cell cw -/
def CloD (base : Heap) (M : Mp) (q : Str) (params : Arguments) (body : Expr) (scope : Scope) (y : Str) (f cw aw : Addr) : Prop :=
  ∃ (c' : Addr) (q' : Str) (pm ctv : Value) (cob : Obj), FZ base M f (PySem.W.kla_obj "<lambda>" q params body scope [(y, cw)] pm c' ctv) ∧ M cw = some (.fz cob) ∧ cob.data = .cell (some (.ref aw)) ∧ M c' = some (.code q') ∧ LamX.CodeO c' q' = LamX.CodeO c' q
theorem CloD.le {base : Heap} {M M' : Mp} {q : Str} {params : Arguments} {body : Expr} {scope : Scope} {y : Str} {f cw aw : Addr} (h : CloD base M q params body scope y f cw aw) (l : LE M M') : CloD base M' q params body scope y f cw aw :=
  let ⟨c', q', pm, ctv, cob, h1, h2, h3, h4, h5⟩ := h
  ⟨c', q', pm, ctv, cob, h1.imp (l _ _) id, l _ _ h2, h3, l _ _ h4, h5⟩
def mdrop (M : Mp) (c : Addr) : Mp := fun b => if b = c then none else M b
theorem mdrop_at {M : Mp} {c b : Addr} {o : MO} (h : mdrop M c b = some o) : b ≠ c ∧ M b = some o := by
  unfold mdrop at h
  split at h
  · cases h
  · rename_i z; exact ⟨z, h⟩
theorem mdrop_ne {M : Mp} {c b : Addr} (h : b ≠ c) : mdrop M c b = M b := if_neg h
def tCloD (base : Heap) (q : Str) (params : Arguments) (body : Expr) (scope : Scope) (y : Str) (i : Nat) (tA : TAD) (tb : TED) : TED := fun r M R => ∃ f, r[i]? = some (some (.ob f)) ∧ (∃ cw aw, CloD base M q params body scope y f cw aw) ∧ tA r M fun ds M1 => ∃ d1 d2 cw aw, ds = [d1, d2] ∧ CloD base M1 q params body scope y f cw aw ∧
  tb [some d1, some d2, some (.ob aw)] (mdrop M1 cw) (fun d M2 => (∃ b, d = .bl b) ∧ LE (mdrop M1 cw) M2) ∧ ∀ b, R (.bl b) M1
def tLam3 (base : Heap) (q : Str) (params : Arguments) (body : Expr) (scope : Scope) (y : Str) (iy : Nat) (sp : SpD) (t1 t2 t3 : TED) : TED := fun r M R => t1 r M fun d1 M1 => t2 r M1 fun d2 M2 => t3 r M2 fun d3 M3 => ∃ aw, r[iy]? = some (some (.ob aw)) ∧
  (∀ f cw M4, LE M3 M4 → CloD base M4 q params body scope y f cw aw → sp [d1, d2, d3, .ob f] M4 fun d M5 => (∃ b, d = .bl b) ∧ LE M3 M5) ∧ ∀ b, R (.bl b) M3
section
variable {X : Cx} {T : List (Addr × Str)}
theorem d_clo {base : Heap} {i : Nat} {x a b y q : Str} {params : Arguments} {body e1 e2 : Expr} {scope : Scope} {k : Nat} {p1 p2 : Pos} {tA : TAD} {tb : TED} (hbase : X.base = base) (L : LS scope a b y)
    (hbind : ∀ (cl : List (Str × Addr)) (pm cv ctv u1 u2 : Value), bindArgs (PySem.W.kla_fn "<lambda>" q params body scope cl pm cv ctv) ⟨[u1, u2], []⟩ = pure [(a, u1), (b, u2)])
    (hbody : ∀ (A : Around) (outer : List Env) (s : Shared) (H : Hp) (f c' cw : Addr), Room k (A.deeper (lamE q scope [(y, cw)] s.heap.objs.size f c')) → PEd T (lamC X.prog X.w X.K X.mg X.base [a, b, y] q scope [(y, cw)] A outer s H f c') body tb)
    (hr : Room (k + 1) X.A) (hv : Vis X.env.scope x) (ha : PAd T X [e1, e2] tA) (hN : X.N[i]? = some x := by rfl) (hd : (x == ("__debug__" : Str)) = false := by decide) (hcd : (x == ("__classdict__" : Str)) = false := by decide)
    (he : starEach [e1, e2] X.env = (false, eval e1 X.env) :: starEach [e2] X.env := by rfl) (hpl : (backTo p2 (starEach [e2] X.env)).any (·.1) = false := by rfl) :
    PEd T X (.Call (.Name x p1) [e1, e2] [] p2) (tCloD base q params body scope y i tA tb) := wkE (pe_clo (i := i) (tb := lfE X.prog X.w X.K T tb) L hbind hbody hr hN hv ha hd hcd he hpl) fun σ H Q h => by
  subst hbase
  obtain ⟨r, M, R, hs, hm, ⟨f, hf, ⟨cw0, aw0, c0, q0, pm0, ctv0, cob0, z1, z2, z3, z4, z5⟩, ht⟩, k⟩ := h
  obtain ⟨vf, hf1, hf2⟩ := hs.at_ i _ hf
  cases (show vf = .ref f from hf2)
  have fz : ∀ {M : Mp} {H : Hp} {ob : Obj}, RM X.prog X.w X.K T M H → FZ X.base M f ob → OAt X.base H f ob := fun {M H ob} m z => z.imp (fun z => m.at_ f (.fz ob) z) id
  refine ⟨f, hf1, ⟨_, fz hm z1, _, _, _, _, _, _, _, _, _, rfl⟩, r, M, _, hs, hm, ht, fun ds vs M1 H1 t1 r1 m1 q1 => ?_⟩
  obtain ⟨d1, d2, cw, aw, rfl, ⟨c', q', pm, ctv, cob, y1, y2, y3, y4, y5⟩, tb1, hR⟩ := q1
  obtain ⟨v1, rr, rfl, rv1, r1⟩ := r1
  obtain ⟨v2, rr, rfl, rv2, r1⟩ := r1
  cases (show rr = [] from r1)
  have hcw : H1 cw = some (.frz cob (.own 0)) := m1.at_ cw _ y2
  have hcc : H1 c' = some (LamX.CodeO c' q) := by rw [← y5]; exact m1.at_ c' _ y4
  have hdn : ∀ b, b ≠ cw → hdrop H1 cw b = H1 b := fun b hb => if_neg hb
  have tt : TT H1 (hdrop H1 cw) := fun b xs e => by rw [hdn b (fun z => by rw [z, hcw] at e; cases e)]; exact e
  have md : RM X.prog X.w X.K T (mdrop M1 cw) (hdrop H1 cw) := by
    refine ⟨fun a o e => ?_, fun p hp => ?_⟩
    · obtain ⟨n, e⟩ := mdrop_at e
      exact (m1.at_ a o e).keepT (fun u hu _ => by rw [hdn a n]; exact hu) tt
    · obtain ⟨ps, a1, a2, a3⟩ := m1.tabs p hp
      refine ⟨ps, by rw [hdn _ (fun z => by rw [z, hcw] at a1; cases a1)]; exact a1, a2, fun pos cv hc => ?_⟩
      obtain ⟨c, e1, e2⟩ := a3 pos cv hc
      exact ⟨c, e1, by rw [hdn _ (fun z => by rw [z, hcw] at e2; have := Option.some.inj e2; unfold LamX.CodeO at this; cases this)]; exact e2⟩
  refine ⟨v1, v2, .ref aw, cw, .ref aw, rfl, rfl, ⟨c', pm, ctv, cob, fz m1 y1, hcw, y3, hcc⟩, ?_⟩
  refine ⟨[some d1, some d2, some (.ob aw)], mdrop M1 cw, _, ⟨rfl, fun j d e => ?_⟩, md, tb1, fun d v M2 H2 t2 r2 m2 q2 => ?_⟩
  · match j, e with
    | 0, e => cases (show some d1 = some d from Option.some.inj e); exact ⟨v1, rfl, rv1.monoT tt⟩
    | 1, e => cases (show some d2 = some d from Option.some.inj e); exact ⟨v2, rfl, rv2.monoT tt⟩
    | 2, e => cases (show some (D.ob aw) = some d from Option.some.inj e); exact ⟨.ref aw, rfl, rfl⟩
    | j + 3, e => simp at e
  · obtain ⟨⟨bb, rfl⟩, le⟩ := q2
    intro h2c
    have hbn : ∀ b, b ≠ cw → hback H1 H2 cw b = H2 b := fun b hb => if_neg hb
    have hbc : hback H1 H2 cw cw = H1 cw := if_pos rfl
    have tt2 : TT H2 (hback H1 H2 cw) := fun b xs e => by rw [hbn b (fun z => by rw [z, h2c] at e; cases e)]; exact e
    refine k (.bl bb) v M1 _ (t1.trans fun b u i e => ?_) (by exact r2) ⟨fun a o e => ?_, fun p hp => ?_⟩ (hR bb)
    · by_cases n : b = cw
      · rw [n, hbc]; rw [n] at e; exact e
      · rw [hbn b n]; exact t2 b u i (by rw [hdn b n]; exact e)
    · by_cases n : a = cw
      · subst n
        rw [y2] at e
        cases e
        exact hbc.trans hcw
      · exact (m2.at_ a o (le a o (by rw [mdrop_ne n]; exact e))).keepT (fun u hu _ => by rw [hbn a n]; exact hu) tt2
    · obtain ⟨ps, a1, a2, a3⟩ := m2.tabs p hp
      refine ⟨ps, by rw [hbn _ (fun z => by rw [z, h2c] at a1; cases a1)]; exact a1, a2, fun pos cv hc => ?_⟩
      obtain ⟨c, e1, e2⟩ := a3 pos cv hc
      exact ⟨c, e1, by rw [hbn _ (fun z => by rw [z, h2c] at e2; cases e2)]; exact e2⟩
theorem qual_cx0 {CX : CXT} {P : Program} {w : World} {K : PySem.W.Frag} {mg : Str → Option Value} {base : Heap} {N : List Str} {qual : Str} {scope : Scope} {f : Addr} {cdv : Value} {A : Around} {outer : List Env} {s : Shared} {H : Hp} {E : XK} : (cxOf CX P w K mg base N qual scope f cdv A outer s H E).nox.env.qual = qual ++ ".<locals>." := rfl
theorem qual_cx {CX : CXT} {P : Program} {w : World} {K : PySem.W.Frag} {mg : Str → Option Value} {base : Heap} {N : List Str} {qual : Str} {scope : Scope} {f : Addr} {cdv : Value} {A : Around} {outer : List Env} {s : Shared} {H : Hp} {E : XK} : (cxOf CX P w K mg base N qual scope f cdv A outer s H E).nox.env.qual ++ "<lambda>" = (qual ++ ".<locals>.") ++ "<lambda>" := by rw [qual_cx0]
theorem d_lam3 {base : Heap} {x y q : Str} {iy : Nat} {c Pt : Addr} {k : Nat} {sp : SpD} {params : Arguments} {body e1 e2 e3 : Expr} {scope : Scope} {t1 t2 t3 : TED} {p lpos pos : Pos} (hbase : X.base = base) (hq : X.env.qual ++ "<lambda>" = q)
    (TB : LamX.TabB X.base X.mg c Pt) (hcode : X.env.code = .ref c) (hmT : (Pt, q) ∈ T) (hu : ∀ p ∈ T, p.1 = Pt → p.2 = q)
    (hy : X.env.scope.names.lookup y = some .cell) (hfn : X.fn y = true)
    (C : Cal X.prog X.w X.K X.mg X.base T k x sp) (hr : Room k X.A) (hg : Gl X x)
    (h1 : PEd T X e1 t1) (h2 : PEd T X e2 t2) (h3 : PEd T X e3 t3) (hN : X.N[iy]? = some y := by rfl)
    (hcl : ∀ cells : List (Str × Addr), cloFrom cells scope.names [] = [(y, (cells.lookup y).getD 0)] := by intro _; rfl) (hfr : ∀ z ∈ scope.names, z.2 = .free → z.1 = y := by decide +kernel) (hdef : defaultsOf params X.env = ([], []) := by rfl)
    (hdb : (x == ("__debug__" : Str)) = false := by decide)
    (hs1 : starEach [e1, e2, e3, .Lambda params body scope lpos] X.env = (false, eval e1 X.env) :: starEach [e2, e3, .Lambda params body scope lpos] X.env := by rfl)
    (hs2 : starEach [e2, e3, .Lambda params body scope lpos] X.env = (false, eval e2 X.env) :: starEach [e3, .Lambda params body scope lpos] X.env := by rfl)
    (hs3 : starEach [e3, .Lambda params body scope lpos] X.env = (false, eval e3 X.env) :: starEach [.Lambda params body scope lpos] X.env := by rfl)
    (hpl : (backTo pos (starEach [e2, e3, .Lambda params body scope lpos] X.env)).any (·.1) = false := by rfl) :
    PEd T X (.Call (.Name x p) [e1, e2, e3, .Lambda params body scope lpos] [] pos) (tLam3 base q params body scope y iy sp t1 t2 t3) := by
  subst hbase
  subst hq
  obtain ⟨g, fd, ps, F, hm, hk, hb⟩ := C.ex
  refine wkE (pe_lam3 TB hcode hmT hu hy hfn hN F hr hg hm hk hb h1 h2 h3 hcl hfr hdef hdb hs1 hs2 hs3 hpl) fun σ H Q h => ?_
  obtain ⟨r, M, R, hs, hm, ht, kk⟩ := h
  refine ⟨r, M, _, hs, hm, ht, fun d1 v1 M1 H1 tl1 r1 m1 q1 => ⟨r, M1, _, hs.mono tl1, m1, q1, fun d2 v2 M2 H2 tl2 r2 m2 q2 => ⟨r, M2, _, (hs.mono tl1).mono tl2, m2, q2, fun d3 v3 M3 H3 tl3 r3 m3 q3 => ?_⟩⟩⟩
  obtain ⟨aw, hw, hsp, hR⟩ := q3
  obtain ⟨vy, hy1, hy2⟩ := (((hs.mono tl1).mono tl2).mono tl3).at_ iy _ hw
  cases (show vy = .ref aw from hy2)
  refine ⟨m3.tabs, .ref aw, hy1, fun f cw c' pm ctv u cob H4 eN T4 hfn hcn nfc hcd ru hco hbo => ?_⟩
  cases (show u = .ref aw from ru)
  have t34 : TL H3 H4 := fun b u i e => eN b u e (fun ps z => by
    rcases i with ⟨xs, rfl⟩ | ⟨o, v, rfl⟩ | ⟨qq, rfl⟩
    · cases z
    · cases z
    · exact LamX.codeO_ne ps z)
  have m4 : RM X.prog X.w X.K T M3 H4 := ⟨fun a o e => (m3.at_ a o e).keepT (fun u hu nt => eN a u hu nt) t34.tt, T4⟩
  obtain ⟨Mc, lc, mc, q', hc1, hc2⟩ : ∃ Mc, LE M3 Mc ∧ RM X.prog X.w X.K T Mc H4 ∧ ∃ q', Mc c' = some (.code q') ∧ LamX.CodeO c' q' = LamX.CodeO c' (X.env.qual ++ "<lambda>") := by
    cases e : M3 c' with
    | none =>
      refine ⟨um M3 c' (.code (X.env.qual ++ "<lambda>")), le_um e, ⟨fun a o ea => ?_, T4⟩, _, um_same, rfl⟩
      by_cases n : a = c'
      · subst n; rw [um_same] at ea; cases ea; exact hco
      · rw [um_ne n] at ea; exact m4.at_ a o ea
    | some o =>
      refine ⟨M3, LE.refl _, m4, ?_⟩
      have hr := m4.at_ c' o e
      have nw : ∀ {u}, Wr c' u → H4 c' ≠ some u := fun {u} w z => by rw [hco] at z; exact wr_code w (Option.some.inj z).symm
      cases o with
      | lst ds => obtain ⟨vs, z, _⟩ := hr; exact absurd z (nw trivial)
      | dI ds => obtain ⟨vs, z, _⟩ := hr; exact absurd z (nw trivial)
      | dT ds => obtain ⟨vs, z, _⟩ := hr; exact absurd z (nw trivial)
      | dN ds => obtain ⟨ob, xs, z, ⟨n1, n2, _⟩, _⟩ := hr; exact absurd z (nw ⟨ob, rfl, n1, let ⟨es, ep, n3, _⟩ := n2; ⟨es, ep, n3⟩⟩)
      | ins C fs => obtain ⟨dx, gs, z, _⟩ := hr; exact absurd z (nw trivial)
      | ro ns => obtain ⟨ob, z⟩ := hr; rw [hco] at z; have := Option.some.inj z; unfold LamX.CodeO at this; cases this
      | fz ob => have z : H4 c' = some (.frz ob (.own 0)) := hr; rw [hco] at z; have := Option.some.inj z; unfold LamX.CodeO at this; cases this
      | code q' => have z : H4 c' = some (LamX.CodeO c' q') := hr; rw [hco] at z; exact ⟨q', e, (Option.some.inj z).symm⟩
  generalize hfob : PySem.W.kla_obj "<lambda>" (X.env.qual ++ "<lambda>") params body scope [(y, cw)] pm c' ctv = fob at hbo
  have hnf := mc.fresh hfn
  have hnc := mc.fresh hcn
  obtain ⟨M4, l4, mm, hz⟩ : ∃ M4, LE Mc M4 ∧ RM X.prog X.w X.K T M4 (hfz X.base H4 f fob cw cob) ∧ FZ X.base M4 f fob ∧ M4 cw = some (.fz cob) := by
    cases e : X.base.get? f with
    | none =>
      have eH : hfz X.base H4 f fob cw cob = upd (upd H4 f (.frz fob (.own 0))) cw (.frz cob (.own 0)) := by
        funext b
        unfold hfz upd
        by_cases n1 : b = cw
        · rw [if_pos n1, if_pos n1]
        · rw [if_neg n1, if_neg n1]
          by_cases n2 : b = f
          · rw [if_pos ⟨n2, e⟩, if_pos n2]
          · rw [if_neg (fun z => n2 z.1), if_neg n2]
      have hcn2 : upd H4 f (.frz fob (.own 0)) cw = none := by rw [upd_ne (Ne.symm nfc)]; exact hcn
      have ma : RM X.prog X.w X.K T (um Mc f (.fz fob)) (upd H4 f (.frz fob (.own 0))) := mc.new hfn upd_same
      have mb : RM X.prog X.w X.K T (um (um Mc f (.fz fob)) cw (.fz cob)) (upd (upd H4 f (.frz fob (.own 0))) cw (.frz cob (.own 0))) := ma.new hcn2 upd_same
      exact ⟨_, (le_um hnf).trans (le_um (ma.fresh hcn2)), by rw [eH]; exact mb, .inl (by rw [um_ne nfc, um_same]), um_same⟩
    | some o =>
      have eH : hfz X.base H4 f fob cw cob = upd H4 cw (.frz cob (.own 0)) := by
        funext b
        unfold hfz upd
        by_cases n1 : b = cw
        · rw [if_pos n1, if_pos n1]
        · rw [if_neg n1, if_neg n1, if_neg (fun z => by rw [e] at z; cases z.2)]
      have mb : RM X.prog X.w X.K T (um Mc cw (.fz cob)) (upd H4 cw (.frz cob (.own 0))) := mc.new hcn upd_same
      exact ⟨_, le_um hnc, by rw [eH]; exact mb, .inr (by rw [e, hbo o e]), um_same⟩
  have th : TL H4 (hfz X.base H4 f fob cw cob) := fun b u i e => by
    rw [hfz_ne (fun z => by rw [z, hcn] at e; cases e) (fun z => by rw [z, hfn] at e; cases e)]; exact e
  have tl : TL H3 (hfz X.base H4 f fob cw cob) := t34.trans th
  refine ⟨[d1, d2, d3, .ob f], M4, _, .cons (((r1.mono tl2).mono tl3).mono tl) (.cons ((r2.mono tl3).mono tl) (.cons (r3.mono tl) (.cons rfl .nil))), mm, hsp f cw M4 (lc.trans l4) ⟨c', q', pm, ctv, cob, by rw [hfob]; exact hz.1, hz.2, hcd, l4 _ _ hc1, hc2⟩, fun d v M5 H5 t5 r5 m5 q5 => ?_⟩
  obtain ⟨⟨bb, rfl⟩, le⟩ := q5
  intro h5c h5f
  have n3 : ∀ a o, M3 a = some o → a ≠ cw ∧ a ≠ f := fun a o e => ⟨(fun z => by rw [z] at e; have := m4.fresh hcn; rw [this] at e; cases e), (fun z => by rw [z] at e; have := m4.fresh hfn; rw [this] at e; cases e)⟩
  have t56 : TT H5 (hdrop2 H5 f cw) := fun b xs e => by
    rw [hd2_ne (fun z => by rw [z, h5c] at e; cases e) (fun z => by rw [z] at e; obtain ⟨ob, z⟩ := h5f _ e; cases z)]; exact e
  refine kk (.bl bb) v M3 _ ?_ (by exact r5) ⟨fun a o e => ?_, fun p hp => ?_⟩ (hR bb)
  · intro b u i e
    have e3 := (tl1.trans (tl2.trans tl3)) b u i e
    have e4 := t34 b u i e3
    have n1 : b ≠ cw := fun z => by rw [z, hcn] at e4; cases e4
    have n2 : b ≠ f := fun z => by rw [z, hfn] at e4; cases e4
    rw [hd2_ne n1 n2]
    exact t5 b u i (th b u i e4)
  · obtain ⟨n1, n2⟩ := n3 a o e
    exact (m5.at_ a o (le a o e)).keepT (fun u hu _ => by rw [hd2_ne n1 n2]; exact hu) t56
  · obtain ⟨ps, a1, a2, a3⟩ := m5.tabs p hp
    obtain ⟨ps4, b1, _, _⟩ := T4 p hp
    have n1 : p.1 ≠ cw := fun z => by rw [z, hcn] at b1; cases b1
    have n2 : p.1 ≠ f := fun z => by rw [z, hfn] at b1; cases b1
    refine ⟨ps, by rw [hd2_ne n1 n2]; exact a1, a2, fun pos cv hc => ?_⟩
    obtain ⟨c, e1, e2⟩ := a3 pos cv hc
    refine ⟨c, e1, ?_⟩
    have n3 : c ≠ cw := fun z => by rw [z, h5c] at e2; have := Option.some.inj e2; unfold LamX.CodeO at this; cases this
    have n4 : c ≠ f := fun z => by rw [z] at e2; obtain ⟨ob, z2⟩ := h5f _ e2; unfold LamX.CodeO at z2; cases z2
    rw [hd2_ne n3 n4]; exact e2
end
end My
set_option maxHeartbeats 4000000
/-! F1: terms and the order. -/
namespace My
open PySem PySem.Spec PyProof.Rows L2
def Tm.isVar : Tm → Bool
  | .var _ => true
  | .app _ _ => false
mutual
def occ (x : Int) : Tm → Int
  | .var y => if y = x then 1 else 0
  | .app _ as => occs x as
def occs (x : Int) : List Tm → Int
  | [] => 0
  | a :: as => occ x a + occs x as
end
theorem occs_app (x : Int) : ∀ as bs : List Tm, occs x (as ++ bs) = occs x as + occs x bs
  | [], bs => by rw [List.nil_append, occs, Int.zero_add]
  | a :: as, bs => by rw [List.cons_append, occs, occs, occs_app x as bs, Int.add_assoc]
mutual
def coll (xs : List Int) : Tm → List Int
  | .var x => if xs.contains x then xs else xs ++ [x]
  | .app _ as => colls xs as
def colls (xs : List Int) : List Tm → List Int
  | [] => xs
  | a :: as => colls (coll xs a) as
end
theorem colls_app (as bs : List Tm) : ∀ xs : List Int, colls xs (as ++ bs) = colls (colls xs as) bs := by
  induction as with
  | nil => intro xs; rw [List.nil_append, colls]
  | cons a as ih => intro xs; rw [List.cons_append, colls, colls, ih]
mutual
theorem coll_len (t : Tm) (xs : List Int) : (coll xs t).length ≤ xs.length + t.size := by
  cases t with
  | var x => rw [coll, Tm.size]; split <;> simp
  | app f as => rw [coll, size_app]; have := colls_len as xs; omega
theorem colls_len (as : List Tm) (xs : List Int) : (colls xs as).length ≤ xs.length + Tm.sizes as := by
  cases as with
  | nil => rw [colls, Tm.sizes]; omega
  | cons a as => rw [colls, Tm.sizes]; have := coll_len a xs; have := colls_len as (coll xs a); omega
end
theorem dep_mem : ∀ {as : List Tm} {a : Tm}, a ∈ as → a.dep ≤ Tm.deps as
  | b :: bs, a, h => by
    rw [Tm.deps]
    rcases List.mem_cons.mp h with e | h
    · rw [e]; omega
    · have := dep_mem h; omega
theorem dep_app (f : Sym) (as : List Tm) : (Tm.app f as).dep = Tm.deps as + 1 := by rw [Tm.dep]
def symL (f : Sym) : List Int := [f.1, f.2.1, f.2.2]
theorem esym_L (f : Sym) : esym f = .tup ((symL f).map D.int) := rfl
section
variable {P : Program} {w : World} {K : PySem.W.Frag} {mg : Str → Option Value} {base : Heap} {T : List (Addr × Str)} {k : Nat}
def spIsVar : SpD := fun ds M R => ∃ t, ds = [enc t] ∧ R (.bl t.isVar) M
theorem sc_is_variable : FnScope ["term"] ["term"] (defScope (top 1)) := ⟨rfl, rfl, rfl, by decide +kernel, rfl, by decide +kernel, by decide +kernel⟩
theorem c_is_variable (DA : DefAt K mg "is_variable" (top 1)) (m_int : mg "int" = none) (m_isinstance : mg "isinstance" = none) : Cal P w K mg base T (k + 1) "is_variable" spIsVar := by
  refine dcal DA sc_is_variable (fun _ _ _ _ _ _ us hl => match us, hl with | [_], _ => rfl) (fun f cdv A outer s H E hr =>
    (dss_one (ds_ret (d_isInt (dv 0 (.inl rfl)) (by rfl) m_isinstance (by rfl) m_int)))) (fun ds M R h => by obtain ⟨_, rfl, _⟩ := h; rfl) (fun ds M R h => ?_)

  obtain ⟨t, rfl, h⟩ := h
  cases t with
  | var x => exact ret h
  | app f as => exact ret h
theorem sc_l_is_variable : FnScope ["_law_term_here"] ["_law_term_here"] (defScope (top 62)) := ⟨rfl, rfl, rfl, by decide +kernel, rfl, by decide +kernel, by decide +kernel⟩
theorem c_l_is_variable (DA : DefAt K mg "_law_is_variable" (top 62)) (m_int : mg "int" = none) (m_isinstance : mg "isinstance" = none) : Cal P w K mg base T (k + 1) "_law_is_variable" spIsVar := by
  refine dcal DA sc_l_is_variable (fun _ _ _ _ _ _ us hl => match us, hl with | [_], _ => rfl) (fun f cdv A outer s H E hr =>
    (dss_one (ds_ret (d_isInt (dv 0 (.inl rfl)) (by rfl) m_isinstance (by rfl) m_int)))) (fun ds M R h => by obtain ⟨_, rfl, _⟩ := h; rfl) (fun ds M R h => ?_)

  obtain ⟨t, rfl, h⟩ := h
  cases t with
  | var x => exact ret h
  | app f as => exact ret h
def spOcc (n : Nat) : SpD := fun ds M R => ∃ t x, ds = [enc t, .int x] ∧ t.dep < n ∧ R (.int (occ x t)) M
theorem sc_occurrences : FnScope ["term", "variable", "total", "part"] ["term", "variable"] (defScope (top 2)) := ⟨rfl, rfl, rfl, by decide +kernel, rfl, by decide +kernel, by decide +kernel⟩
theorem c_occurrences (DA : DefAt K mg "occurrences" (top 2)) {n : Nat} (C_is_variable : Cal P w K mg base T k "is_variable" spIsVar) (C_occurrences : Cal P w K mg base T k "occurrences" (spOcc n)) : Cal P w K mg base T (k + 1) "occurrences" (spOcc (n + 1)) := by
  refine dcal DA sc_occurrences (fun _ _ _ _ _ _ us hl => match us, hl with | [_, _], _ => rfl) (fun f cdv A outer s H E hr =>
    (dss_cons (ds_if (dt_val (d_call C_is_variable hr (by rfl) (da_cons (dv 0 (.inl rfl)) da_nil)))
      (dss_one (ds_ret (d_ifExp (dt_ieq (dv 0 (.inl rfl)) (dv 1 (.inl rfl))) d_int d_int)))
      dss_nil)
    (dss_cons (ds_set (i := 2) sc_occurrences.nd (.inl rfl) d_int)
    (dss_cons (ds_for PassesOwn.never rfl (di_tup (d_ix (dv 0 (.inl rfl)) d_int)) (dg_name (i := 3) sc_occurrences.nd (.inl rfl))
      (dss_one (ds_aug (i := 2) sc_occurrences.nd (.inl rfl) (d_call C_occurrences hr (by rfl) (da_cons (dv 3 (.inl rfl)) (da_cons (dv 1 (.inl rfl)) da_nil))))))
    (dss_one (ds_ret (dv 2 (.inl rfl)))))))) (fun ds M R h => by obtain ⟨_, _, rfl, _⟩ := h; rfl) (fun ds M R h => ?_)

  obtain ⟨t, x, rfl, hd, h⟩ := h
  refine ⟨t, rfl, ?_⟩
  cases t with
  | var y =>
    refine bI_t rfl (bI_i (fun e => ret ?_) (fun e => ret ?_))
    · have e1 : y = x := of_decide_eq_true e
      rw [occ, if_pos e1] at h
      exact h
    · have e1 : ¬ y = x := of_decide_eq_false e
      rw [occ, if_neg e1] at h
      exact h
  | app f as =>
    refine bI_f rfl ?_
    refine for_map enc as (encs_map as) (fun pre post r M' => M' = M ∧ ∃ o, r = [some (enc (.app f as)), some (.int x), some (.int (occs x pre)), o]) ⟨rfl, none, rfl⟩ (fun _ _ _ _ _ _ => trivial) ?_ ?_
    · rintro pre a post r M' e ⟨rfl, o, rfl⟩
      have ha : a ∈ as := by rw [e]; simp
      rw [dep_app] at hd
      refine ⟨a, x, rfl, by have := dep_mem ha; omega, ⟨_, LE.refl _, ⟨rfl, some (enc a), ?_⟩⟩⟩
      rw [occs_app, occs, occs, Int.add_zero]
      rfl
    · rintro r M' ⟨rfl, o, rfl⟩
      exact ret h
theorem sc_l_count : FnScope ["_law_term_here", "_law_variable", "_law_total", "_law_part_here"] ["_law_term_here", "_law_variable"] (defScope (top 64)) := ⟨rfl, rfl, rfl, by decide +kernel, rfl, by decide +kernel, by decide +kernel⟩
theorem c_l_count (DA : DefAt K mg "_law_count" (top 64)) {n : Nat} (C_l_is_variable : Cal P w K mg base T k "_law_is_variable" spIsVar) (C_l_count : Cal P w K mg base T k "_law_count" (spOcc n)) : Cal P w K mg base T (k + 1) "_law_count" (spOcc (n + 1)) := by
  refine dcal DA sc_l_count (fun _ _ _ _ _ _ us hl => match us, hl with | [_, _], _ => rfl) (fun f cdv A outer s H E hr =>
    (dss_cons (ds_if (dt_val (d_call C_l_is_variable hr (by rfl) (da_cons (dv 0 (.inl rfl)) da_nil)))
      (dss_one (ds_ret (d_ifExp (dt_ieq (dv 0 (.inl rfl)) (dv 1 (.inl rfl))) d_int d_int)))
      dss_nil)
    (dss_cons (ds_set (i := 2) sc_l_count.nd (.inl rfl) d_int)
    (dss_cons (ds_for PassesOwn.never rfl (di_tup (d_ix (dv 0 (.inl rfl)) d_int)) (dg_name (i := 3) sc_l_count.nd (.inl rfl))
      (dss_one (ds_set (i := 2) sc_l_count.nd (.inl rfl) (d_add (dv 2 (.inl rfl)) (d_call C_l_count hr (by rfl) (da_cons (dv 3 (.inl rfl)) (da_cons (dv 1 (.inl rfl)) da_nil)))))))
    (dss_one (ds_ret (dv 2 (.inl rfl)))))))) (fun ds M R h => by obtain ⟨_, _, rfl, _⟩ := h; rfl) (fun ds M R h => ?_)

  obtain ⟨t, x, rfl, hd, h⟩ := h
  refine ⟨t, rfl, ?_⟩
  cases t with
  | var y =>
    refine bI_t rfl (bI_i (fun e => ret ?_) (fun e => ret ?_))
    · have e1 : y = x := of_decide_eq_true e
      rw [occ, if_pos e1] at h
      exact h
    · have e1 : ¬ y = x := of_decide_eq_false e
      rw [occ, if_neg e1] at h
      exact h
  | app f as =>
    refine bI_f rfl ?_
    refine for_map enc as (encs_map as) (fun pre post r M' => M' = M ∧ ∃ o, r = [some (enc (.app f as)), some (.int x), some (.int (occs x pre)), o]) ⟨rfl, none, rfl⟩ (fun _ _ _ _ _ _ => trivial) ?_ ?_
    · rintro pre a post r M' e ⟨rfl, o, rfl⟩
      have ha : a ∈ as := by rw [e]; simp
      rw [dep_app] at hd
      refine ⟨a, x, rfl, by have := dep_mem ha; omega, ⟨_, LE.refl _, ⟨rfl, some (enc a), ?_⟩⟩⟩
      rw [occs_app, occs, occs, Int.add_zero]
      rfl
    · rintro r M' ⟨rfl, o, rfl⟩
      exact ret h
def spColl (n : Nat) : SpD := fun ds M R => ∃ t a xs, ds = [enc t, .ob a] ∧ M a = some (.lst (xs.map D.int)) ∧ t.dep < n ∧ xs.length + t.size ≤ 900 ∧ R .non (um M a (.lst ((coll xs t).map D.int)))
theorem sc_collect : FnScope ["term", "found", "part"] ["term", "found"] (defScope (top 3)) := ⟨rfl, rfl, rfl, by decide +kernel, rfl, by decide +kernel, by decide +kernel⟩
theorem c_collect (DA : DefAt K mg "collect" (top 3)) {n : Nat} (C_is_variable : Cal P w K mg base T k "is_variable" spIsVar) (C_collect : Cal P w K mg base T k "collect" (spColl n)) : Cal P w K mg base T (k + 1) "collect" (spColl (n + 1)) := by
  refine dcal DA sc_collect (fun _ _ _ _ _ _ us hl => match us, hl with | [_, _], _ => rfl) (fun f cdv A outer s H E hr =>
    (dss_one (ds_if (dt_val (d_call C_is_variable hr (by rfl) (da_cons (dv 0 (.inl rfl)) da_nil)))
      (dss_one (ds_if (dt_notInI (dv 0 (.inl rfl)) (dv 1 (.inl rfl)))
        (dss_one (ds_expr (d_append (dv 1 (.inl rfl)) (dv 0 (.inl rfl)))))
        dss_nil))
      (dss_one (ds_for PassesOwn.never rfl (di_tup (d_ix (dv 0 (.inl rfl)) d_int)) (dg_name (i := 2) sc_collect.nd (.inl rfl))
        (dss_one (ds_expr (d_call C_collect hr (by rfl) (da_cons (dv 2 (.inl rfl)) (da_cons (dv 1 (.inl rfl)) da_nil)))))))))) (fun ds M R h => by obtain ⟨_, _, _, rfl, _⟩ := h; rfl) (fun ds M R h => ?_)

  obtain ⟨t, a, xs, rfl, ha, hd, hz, h⟩ := h
  refine ⟨t, rfl, ?_⟩
  cases t with
  | var y =>
    refine bI_t rfl ⟨y, xs, rfl, ha, ?_⟩
    rw [coll] at h
    cases e : xs.contains y with
    | true =>
      rw [e, if_pos rfl] at h
      refine bI_f rfl ⟨_, ?_, h⟩
      intro b u hb
      unfold um at hb
      split at hb
      · cases hb; rename_i z; rw [z]; exact ha
      · exact hb
    | false =>
      rw [e, if_neg (by simp)] at h
      refine bI_t rfl ⟨a, xs.map D.int, rfl, ha, xs.map D.int, ha, ?_, ?_⟩
      · rw [List.length_map]; omega
      · rw [List.map_append] at h
        exact ret h
  | app f as =>
    refine bI_f rfl ?_
    rw [dep_app] at hd
    rw [size_app] at hz
    refine for_map enc as (encs_map as) (fun pre post r M' => M' = um M a (.lst ((colls xs pre).map D.int)) ∧ ∃ o, r = [some (enc (.app f as)), some (.ob a), o]) ?_ (fun _ _ _ _ _ _ => trivial) ?_ ?_
    · refine ⟨?_, none, rfl⟩
      funext b
      unfold um
      rw [colls]
      split
      · rename_i z; rw [z]; exact ha
      · rfl
    · rintro pre u post r M' e ⟨rfl, o, rfl⟩
      have hu : u ∈ as := by rw [e]; simp
      have hl := colls_len pre xs
      have hl2 : Tm.sizes as = Tm.sizes pre + (u.size + Tm.sizes post) := by rw [e, sizes_append, Tm.sizes]
      refine ⟨u, a, colls xs pre, rfl, um_same, by have := dep_mem hu; omega, by omega, ⟨_, LE.refl _, ⟨?_, some (enc u), rfl⟩⟩⟩
      rw [um_um, colls_app, colls, colls]
    · rintro r M' ⟨rfl, o, rfl⟩
      rw [coll] at h
      exact ret h
def spVars (n : Nat) : SpD := fun ds M R => ∃ t, ds = [enc t] ∧ t.dep < n ∧ t.size ≤ 900 ∧ ∀ p, M p = none → R (.ob p) (um M p (.lst ((coll [] t).map D.int)))
theorem sc_variables : FnScope ["term", "found"] ["term"] (defScope (top 4)) := ⟨rfl, rfl, rfl, by decide +kernel, rfl, by decide +kernel, by decide +kernel⟩
theorem c_variables (DA : DefAt K mg "variables" (top 4)) {n : Nat} (C_collect : Cal P w K mg base T k "collect" (spColl n)) : Cal P w K mg base T (k + 1) "variables" (spVars n) := by
  refine dcal DA sc_variables (fun _ _ _ _ _ _ us hl => match us, hl with | [_], _ => rfl) (fun f cdv A outer s H E hr =>
    (dss_cons (ds_set (i := 1) sc_variables.nd (.inl rfl) (d_lst da_nil))
    (dss_cons (ds_expr (d_call C_collect hr (by rfl) (da_cons (dv 0 (.inl rfl)) (da_cons (dv 1 (.inl rfl)) da_nil))))
    (dss_one (ds_ret (dv 1 (.inl rfl))))))) (fun ds M R h => by obtain ⟨_, rfl, _⟩ := h; rfl) (fun ds M R h => ?_)

  obtain ⟨t, rfl, hd, hz, h⟩ := h
  intro p hp
  refine ⟨t, p, [], rfl, um_same, hd, by simpa using hz, ?_⟩
  rw [um_um]
  exact ret (h p hp)
def Tm.isAtom : Tm → Bool
  | .var _ => false
  | .app f _ => [(0 : Int), 1, 4, 5].contains f.1
def spIsAtom : SpD := fun ds M R => ∃ t, ds = [enc t] ∧ R (.bl t.isAtom) M
theorem sc_is_atom : FnScope ["term"] ["term"] (defScope (top 5)) := ⟨rfl, rfl, rfl, by decide +kernel, rfl, by decide +kernel, by decide +kernel⟩
theorem c_is_atom (DA : DefAt K mg "is_atom" (top 5)) (C_is_variable : Cal P w K mg base T k "is_variable" spIsVar) : Cal P w K mg base T (k + 1) "is_atom" spIsAtom := by
  refine dcal DA sc_is_atom (fun _ _ _ _ _ _ us hl => match us, hl with | [_], _ => rfl) (fun f cdv A outer s H E hr =>
    (dss_one (ds_ret (d_and (d_not (d_call C_is_variable hr (by rfl) (da_cons (dv 0 (.inl rfl)) da_nil))) (d_one (d_inI (d_ix (d_ix (dv 0 (.inl rfl)) d_int) d_int) (d_tup (da_cons d_int (da_cons d_int (da_cons d_int (da_cons d_int da_nil))))))))))) (fun ds M R h => by obtain ⟨_, rfl, _⟩ := h; rfl) (fun ds M R h => ?_)

  obtain ⟨t, rfl, h⟩ := h
  refine ⟨t, rfl, ?_⟩
  cases t with
  | var x => exact ret h
  | app f as => exact ⟨f.1, [(0 : Int), 1, 4, 5], rfl, rfl, ret h⟩
/-! ### weights -/
def WtOK (M : Mp) (a : Addr) (W : Sym → Int) : Prop := ∃ kvs, M a = some (.dT kvs) ∧ ∀ f, (vD kvs (symL f)).getD (.int 1) = .int (W f)
theorem WtOK.le {M M' : Mp} {a : Addr} {W : Sym → Int} (h : WtOK M a W) (l : LE M M') : WtOK M' a W := let ⟨kvs, e, q⟩ := h; ⟨kvs, l _ _ e, q⟩
mutual
def wtT (W : Sym → Int) : Tm → Int
  | .var _ => 1
  | .app f as => W f + wtTs W as
def wtTs (W : Sym → Int) : List Tm → Int
  | [] => 0
  | a :: as => wtT W a + wtTs W as
end
theorem wtTs_app (W : Sym → Int) : ∀ as bs : List Tm, wtTs W (as ++ bs) = wtTs W as + wtTs W bs
  | [], bs => by rw [List.nil_append, wtTs, Int.zero_add]
  | a :: as, bs => by rw [List.cons_append, wtTs, wtTs, wtTs_app W as bs, Int.add_assoc]
def spSymW (W : Sym → Int) : SpD := fun ds M R => ∃ a f, ds = [.ob a, esym f] ∧ WtOK M a W ∧ R (.int (W f)) M
theorem sc_symbol_weight : FnScope ["weights", "symbol"] ["weights", "symbol"] (defScope (top 7)) := ⟨rfl, rfl, rfl, by decide +kernel, rfl, by decide +kernel, by decide +kernel⟩
theorem c_symbol_weight (DA : DefAt K mg "symbol_weight" (top 7)) {W : Sym → Int} : Cal P w K mg base T (k + 1) "symbol_weight" (spSymW W) := by
  refine dcal DA sc_symbol_weight (fun _ _ _ _ _ _ us hl => match us, hl with | [_, _], _ => rfl) (fun f cdv A outer s H E hr =>
    (dss_one (ds_ret (d_get2 (hu_of hr) (dv 0 (.inl rfl)) (dv 1 (.inl rfl)) d_int)))) (fun ds M R h => by obtain ⟨_, _, rfl, _⟩ := h; rfl) (fun ds M R h => ?_)

  obtain ⟨a, f, rfl, ⟨kvs, e, q⟩, h⟩ := h
  refine ⟨a, _, rfl, e, .inr ⟨kvs, rfl⟩, ?_⟩
  refine ⟨_, .inr ⟨kvs, symL f, e, esym_L f, rfl⟩, ret ?_⟩
  rw [q]
  exact h
def spWt (W : Sym → Int) (n : Nat) : SpD := fun ds M R => ∃ a t, ds = [.ob a, enc t] ∧ WtOK M a W ∧ t.dep < n ∧ R (.int (wtT W t)) M
theorem sc_term_weight : FnScope ["weights", "term", "total", "part"] ["weights", "term"] (defScope (top 8)) := ⟨rfl, rfl, rfl, by decide +kernel, rfl, by decide +kernel, by decide +kernel⟩
theorem c_term_weight (DA : DefAt K mg "term_weight" (top 8)) {W : Sym → Int} {n : Nat} (C_is_variable : Cal P w K mg base T k "is_variable" spIsVar) (C_symbol_weight : Cal P w K mg base T k "symbol_weight" (spSymW W)) (C_term_weight : Cal P w K mg base T k "term_weight" (spWt W n)) : Cal P w K mg base T (k + 1) "term_weight" (spWt W (n + 1)) := by
  refine dcal DA sc_term_weight (fun _ _ _ _ _ _ us hl => match us, hl with | [_, _], _ => rfl) (fun f cdv A outer s H E hr =>
    (dss_cons (ds_if (dt_val (d_call C_is_variable hr (by rfl) (da_cons (dv 1 (.inl rfl)) da_nil)))
      (dss_one (ds_ret d_int))
      dss_nil)
    (dss_cons (ds_set (i := 2) sc_term_weight.nd (.inl rfl) (d_call C_symbol_weight hr (by rfl) (da_cons (dv 0 (.inl rfl)) (da_cons (d_ix (dv 1 (.inl rfl)) d_int) da_nil))))
    (dss_cons (ds_for PassesOwn.never rfl (di_tup (d_ix (dv 1 (.inl rfl)) d_int)) (dg_name (i := 3) sc_term_weight.nd (.inl rfl))
      (dss_one (ds_set (i := 2) sc_term_weight.nd (.inl rfl) (d_add (dv 2 (.inl rfl)) (d_call C_term_weight hr (by rfl) (da_cons (dv 0 (.inl rfl)) (da_cons (dv 3 (.inl rfl)) da_nil)))))))
    (dss_one (ds_ret (dv 2 (.inl rfl)))))))) (fun ds M R h => by obtain ⟨_, _, rfl, _⟩ := h; rfl) (fun ds M R h => ?_)

  obtain ⟨a, t, rfl, hw, hd, h⟩ := h
  refine ⟨t, rfl, ?_⟩
  cases t with
  | var y => rw [wtT] at h; exact bI_t rfl (ret h)
  | app f as =>
    rw [dep_app] at hd
    rw [wtT] at h
    refine bI_f rfl ⟨a, f, rfl, hw, ?_⟩
    refine for_map enc as (encs_map as) (fun pre post r M' => M' = M ∧ ∃ o, r = [some (.ob a), some (enc (.app f as)), some (.int (W f + wtTs W pre)), o]) ⟨rfl, none, by rw [wtTs, Int.add_zero]; rfl⟩ (fun _ _ _ _ _ _ => trivial) ?_ ?_
    · rintro pre u post r M' e ⟨rfl, o, rfl⟩
      have hu : u ∈ as := by rw [e]; simp
      refine ⟨a, u, rfl, hw, by have := dep_mem hu; omega, ⟨_, LE.refl _, ⟨rfl, some (enc u), ?_⟩⟩⟩
      rw [wtTs_app, wtTs, wtTs, Int.add_zero, ← Int.add_assoc]
      rfl
    · rintro r M' ⟨rfl, o, rfl⟩
      exact ret h
theorem sc_l_weigh : FnScope ["_law_weights_here", "_law_term_here", "_law_total", "_law_part_here"] ["_law_weights_here", "_law_term_here"] (defScope (top 65)) := ⟨rfl, rfl, rfl, by decide +kernel, rfl, by decide +kernel, by decide +kernel⟩
theorem c_l_weigh (DA : DefAt K mg "_law_weigh" (top 65)) {W : Sym → Int} {n : Nat} (C_l_is_variable : Cal P w K mg base T k "_law_is_variable" spIsVar) (C_l_weigh : Cal P w K mg base T k "_law_weigh" (spWt W n)) : Cal P w K mg base T (k + 1) "_law_weigh" (spWt W (n + 1)) := by
  refine dcal DA sc_l_weigh (fun _ _ _ _ _ _ us hl => match us, hl with | [_, _], _ => rfl) (fun f cdv A outer s H E hr =>
    (dss_cons (ds_if (dt_val (d_call C_l_is_variable hr (by rfl) (da_cons (dv 1 (.inl rfl)) da_nil)))
      (dss_one (ds_ret d_int))
      dss_nil)
    (dss_cons (ds_set (i := 2) sc_l_weigh.nd (.inl rfl) (d_get2 (hu_of hr) (dv 0 (.inl rfl)) (d_ix (dv 1 (.inl rfl)) d_int) d_int))
    (dss_cons (ds_for PassesOwn.never rfl (di_tup (d_ix (dv 1 (.inl rfl)) d_int)) (dg_name (i := 3) sc_l_weigh.nd (.inl rfl))
      (dss_one (ds_set (i := 2) sc_l_weigh.nd (.inl rfl) (d_add (dv 2 (.inl rfl)) (d_call C_l_weigh hr (by rfl) (da_cons (dv 0 (.inl rfl)) (da_cons (dv 3 (.inl rfl)) da_nil)))))))
    (dss_one (ds_ret (dv 2 (.inl rfl)))))))) (fun ds M R h => by obtain ⟨_, _, rfl, _⟩ := h; rfl) (fun ds M R h => ?_)

  obtain ⟨a, t, rfl, hw, hd, h⟩ := h
  refine ⟨t, rfl, ?_⟩
  cases t with
  | var y => rw [wtT] at h; exact bI_t rfl (ret h)
  | app f as =>
    rw [dep_app] at hd
    rw [wtT] at h
    obtain ⟨kvs, ek, q⟩ := id hw
    refine bI_f rfl ⟨a, _, rfl, ek, .inr ⟨kvs, rfl⟩, ⟨_, .inr ⟨kvs, symL f, ek, esym_L f, rfl⟩, ?_⟩⟩
    rw [q]
    refine for_map enc as (encs_map as) (fun pre post r M' => M' = M ∧ ∃ o, r = [some (.ob a), some (enc (.app f as)), some (.int (W f + wtTs W pre)), o]) ⟨rfl, none, by rw [wtTs, Int.add_zero]; rfl⟩ (fun _ _ _ _ _ _ => trivial) ?_ ?_
    · rintro pre u post r M' e ⟨rfl, o, rfl⟩
      have hu : u ∈ as := by rw [e]; simp
      refine ⟨a, u, rfl, hw, by have := dep_mem hu; omega, ⟨_, LE.refl _, ⟨rfl, some (enc u), ?_⟩⟩⟩
      rw [wtTs_app, wtTs, wtTs, Int.add_zero, ← Int.add_assoc]
      rfl
    · rintro r M' ⟨rfl, o, rfl⟩
      exact ret h
end
end My
set_option maxHeartbeats 4000000
/-! F2: the order's comparisons. -/
namespace My
open PySem PySem.Spec PyProof.Rows L2
theorem cut_last (ds : List D) : cutD ds none (some (-1)) = ds.dropLast := by
  unfold cutD
  have e : HT.sIx ds.length ds.length (some (-1)) = ds.length - 1 := by
    show (if (-1 : Int) < 0 then ((-1 : Int) + (ds.length : Int)).toNat else min (-1 : Int).toNat ds.length) = ds.length - 1
    rw [if_pos (by decide)]; omega
  rw [e, List.dropLast_eq_take]
  rfl
theorem encs_dropLast (as : List Tm) : (encs as).dropLast = encs as.dropLast := by rw [encs_map, encs_map, List.map_dropLast]
theorem encs_empty (as : List Tm) : (encs as).isEmpty = as.isEmpty := by cases as <;> rfl
theorem encs_append (as bs : List Tm) : encs (as ++ bs) = encs as ++ encs bs := by rw [encs_map, encs_map, encs_map, List.map_append]
theorem split_last {α : Type} {as : List α} (h : as ≠ []) : ∃ i x, as = i ++ [x] := by
  rcases List.eq_nil_or_concat as with e | ⟨i, x, e⟩
  · exact absurd e h
  · exact ⟨i, x, by rw [e, List.concat_eq_append]⟩
theorem at_last {as : List Tm} (h : as ≠ []) : atI (encs as) (-1) = some (enc (as.getLastD (.var 0))) := by
  obtain ⟨i, x, rfl⟩ := split_last h
  rw [encs_append]
  have hl : (encs i ++ encs [x]).length = (encs i).length + 1 := by rw [List.length_append]; rfl
  unfold atI ixN
  rw [hl, if_neg (by decide), if_pos (by omega)]
  have e : ((-1 : Int) + (((encs i).length + 1 : Nat) : Int)).toNat = (encs i).length := by omega
  rw [e]
  show (encs i ++ encs [x])[(encs i).length]? = _
  rw [List.getElem?_append_right (Nat.le_refl _), Nat.sub_self]
  show some (enc x) = _
  simp
theorem dep_dropLast (f : Sym) (as : List Tm) : (Tm.app f as.dropLast).dep ≤ (Tm.app f as).dep := by
  rw [dep_app, dep_app]
  rcases List.eq_nil_or_concat as with e | ⟨i, x, e⟩
  · subst e; exact Nat.le_refl _
  · rw [List.concat_eq_append] at e
    subst e
    have : ∀ l m : List Tm, Tm.deps l ≤ Tm.deps (l ++ m) := fun l m => by
      induction l with
      | nil => rw [Tm.deps]; omega
      | cons a l ih => rw [List.cons_append, Tm.deps, Tm.deps]; omega
    have := this i [x]
    simp; omega
theorem size_dropLast (f : Sym) {as : List Tm} (h : as ≠ []) : (Tm.app f as.dropLast).size < (Tm.app f as).size := by
  obtain ⟨i, x, rfl⟩ := split_last h
  rw [size_app, size_app, sizes_append]
  have := size_pos x
  simp [Tm.sizes]; omega
theorem last_mem {as : List Tm} (h : as ≠ []) : as.getLastD (.var 0) ∈ as := by
  obtain ⟨i, x, rfl⟩ := split_last h
  simp
theorem dep_last (f : Sym) {as : List Tm} (h : as ≠ []) : (as.getLastD (.var 0)).dep < (Tm.app f as).dep := by
  rw [dep_app]; have := dep_mem (last_mem h); omega
theorem size_last (f : Sym) {as : List Tm} (h : as ≠ []) : (as.getLastD (.var 0)).size < (Tm.app f as).size := by
  rw [size_app]; have := size_mem (last_mem h); omega
theorem flat64 {t : Tm} (h : t.dep < 20) : D.flat 64 (enc t) = true := flat_le (n := 2 * t.dep + 2) (by omega) (flat_enc t)
def symLt (g f : Sym) : Bool := HT.lexLt (symL g) (symL f)
def hasAll (s t : Tm) : Bool := (coll [] t).all fun x => decide (occ x t ≤ occ x s)
noncomputable def gtE (rec : Tm → Tm → Bool) (f : Sym) (as : List Tm) (g : Sym) (bs : List Tm) : Bool :=
  if as.isEmpty = true then bs.isEmpty && symLt g f else if bs.isEmpty = true then true
  else if f = g ∧ as.dropLast = bs.dropLast then rec (as.getLastD (.var 0)) (bs.getLastD (.var 0)) else rec (.app f as.dropLast) (.app g bs.dropLast)
noncomputable def gtB (rec : Tm → Tm → Bool) : Tm → Tm → Bool
  | .app f as, .app g bs => gtE rec f as g bs
  | _, _ => false
noncomputable def gtF (W : Sym → Int) : Nat → Tm → Tm → Bool
  | 0, _, _ => false
  | n + 1, s, t => if s.isVar = true ∨ hasAll s t = false then false else if wtT W s = wtT W t then gtB (gtF W n) s t else decide (wtT W t < wtT W s)
theorem gtF_s (W : Sym → Int) (n : Nat) (s t : Tm) : gtF W (n + 1) s t = if s.isVar = true ∨ hasAll s t = false then false else if wtT W s = wtT W t then gtB (gtF W n) s t else decide (wtT W t < wtT W s) := rfl
section
variable {P : Program} {w : World} {K : PySem.W.Frag} {mg : Str → Option Value} {base : Heap} {T : List (Addr × Str)} {k : Nat}
def spBefore : SpD := fun ds M R => ∃ g f, ds = [esym g, esym f] ∧ R (.bl (symLt g f)) M
theorem sc_comes_before : FnScope ["first", "second"] ["first", "second"] (defScope (top 10)) := ⟨rfl, rfl, rfl, by decide +kernel, rfl, by decide +kernel, by decide +kernel⟩
theorem c_comes_before (DA : DefAt K mg "comes_before" (top 10)) : Cal P w K mg base T (k + 1) "comes_before" spBefore := by
  refine dcal DA sc_comes_before (fun _ _ _ _ _ _ us hl => match us, hl with | [_, _], _ => rfl) (fun f cdv A outer s H E hr =>
    (dss_one (ds_ret (d_ltT hr.units0 (dv 0 (.inl rfl)) (dv 1 (.inl rfl)))))) (fun ds M R h => by obtain ⟨_, _, rfl, _⟩ := h; rfl) (fun ds M R h => ?_)

  obtain ⟨g, f, rfl, h⟩ := h
  exact ⟨symL g, symL f, rfl, rfl, ret h⟩
def spHead : SpD := fun ds M R => ∃ f as, ds = [enc (.app f as)] ∧ R (enc (.app f as.dropLast)) M
theorem sc_head : FnScope ["term"] ["term"] (defScope (top 12)) := ⟨rfl, rfl, rfl, by decide +kernel, rfl, by decide +kernel, by decide +kernel⟩
theorem c_head (DA : DefAt K mg "head" (top 12)) : Cal P w K mg base T (k + 1) "head" spHead := by
  refine dcal DA sc_head (fun _ _ _ _ _ _ us hl => match us, hl with | [_], _ => rfl) (fun f cdv A outer s H E hr =>
    (dss_one (ds_ret (d_tup (da_cons (d_ix (dv 0 (.inl rfl)) d_int) (da_cons (d_slice (d_ix (dv 0 (.inl rfl)) d_int) do_none (do_some (d_neg d_int))) da_nil)))))) (fun ds M R h => by obtain ⟨_, _, rfl, _⟩ := h; rfl) (fun ds M R h => ?_)

  obtain ⟨f, as, rfl, h⟩ := h
  show ∃ M2, LE M2 M ∧ R (.tup [esym f, .tup (cutD (encs as) none (some (-1)))]) M2
  rw [cut_last, encs_dropLast]
  exact ret h
def spHasAll : SpD := fun ds M R => ∃ s t, ds = [enc s, enc t] ∧ s.dep < 16 ∧ t.dep < 16 ∧ t.size ≤ 900 ∧ R (.bl (hasAll s t)) M
theorem sc_has_all_variables : FnScope ["first", "second", "variable"] ["first", "second"] (defScope (top 13)) := ⟨rfl, rfl, rfl, by decide +kernel, rfl, by decide +kernel, by decide +kernel⟩
theorem c_has_all_variables (DA : DefAt K mg "has_all_variables" (top 13)) (C_variables : Cal P w K mg base T k "variables" (spVars 16)) (C_occurrences : Cal P w K mg base T k "occurrences" (spOcc 16)) : Cal P w K mg base T (k + 1) "has_all_variables" spHasAll := by
  refine dcal DA sc_has_all_variables (fun _ _ _ _ _ _ us hl => match us, hl with | [_, _], _ => rfl) (fun f cdv A outer s H E hr =>
    (dss_cons (ds_for PassesOwn.never rfl (di_lst (d_call C_variables hr (by rfl) (da_cons (dv 1 (.inl rfl)) da_nil))) (dg_name (i := 2) sc_has_all_variables.nd (.inl rfl))
      (dss_one (ds_if (dt_gt (d_call C_occurrences hr (by rfl) (da_cons (dv 1 (.inl rfl)) (da_cons (dv 2 (.inl rfl)) da_nil))) (d_call C_occurrences hr (by rfl) (da_cons (dv 0 (.inl rfl)) (da_cons (dv 2 (.inl rfl)) da_nil))))
        (dss_one (ds_ret d_bl))
        dss_nil)))
    (dss_one (ds_ret d_bl)))) (fun ds M R h => by obtain ⟨_, _, rfl, _⟩ := h; rfl) (fun ds M R h => ?_)

  obtain ⟨s, t, rfl, hs, ht, hz, h⟩ := h
  refine ⟨t, rfl, ht, hz, fun p hp => ⟨_, um_same, ?_⟩⟩
  refine for_map D.int (coll [] t) rfl (fun pre post r M' => M' = um M p (.lst ((coll [] t).map D.int)) ∧ (∀ x ∈ pre, decide (occ x t ≤ occ x s) = true) ∧ ∃ o, r = [some (enc s), some (enc t), o]) ⟨rfl, (fun x hx => by cases hx), none, rfl⟩ (fun _ _ _ _ _ ⟨e, _⟩ => by rw [e]; exact um_same) ?_ ?_
  · rintro pre x post r M' e ⟨rfl, hp2, o, rfl⟩
    refine ⟨t, x, rfl, ht, s, x, rfl, hs, bI_i (fun e1 => ?_) (fun e1 => ?_)⟩
    · refine ⟨M, le_um hp, ?_⟩
      have e2 : hasAll s t = false := by
        unfold hasAll
        rw [List.all_eq_false]
        refine ⟨x, by rw [e]; simp, ?_⟩
        have := of_decide_eq_true e1
        simp; omega
      rw [e2] at h
      exact h
    · refine ⟨_, LE.refl _, rfl, ?_, _, rfl⟩
      intro y hy
      rcases List.mem_append.mp hy with h1 | h1
      · exact hp2 y h1
      · rw [List.mem_singleton] at h1
        subst h1
        have := of_decide_eq_false e1
        exact decide_eq_true (by omega)
  · rintro r M' ⟨rfl, hp2, o, rfl⟩
    refine ⟨M, le_um hp, ?_⟩
    have e2 : hasAll s t = true := by unfold hasAll; rw [List.all_eq_true]; exact hp2
    rw [e2] at h
    exact h
def spGt (W : Sym → Int) (n : Nat) : SpD := fun ds M R => ∃ a s t, ds = [.ob a, enc s, enc t] ∧ WtOK M a W ∧ s.dep < 16 ∧ t.dep < 16 ∧ s.size < n ∧ t.size ≤ 900 ∧ R (.bl (gtF W n s t)) M
def spGtE (W : Sym → Int) (n : Nat) : SpD := fun ds M R => ∃ a f as g bs, ds = [.ob a, enc (.app f as), enc (.app g bs)] ∧ WtOK M a W ∧ (Tm.app f as).dep < 16 ∧ (Tm.app g bs).dep < 16 ∧ (Tm.app f as).size ≤ n ∧ (Tm.app g bs).size ≤ 900 ∧ R (.bl (gtE (gtF W n) f as g bs)) M
theorem sc_greater : FnScope ["weights", "first", "second", "ours", "theirs"] ["weights", "first", "second"] (defScope (top 14)) := ⟨rfl, rfl, rfl, by decide +kernel, rfl, by decide +kernel, by decide +kernel⟩
theorem c_greater (DA : DefAt K mg "greater" (top 14)) {W : Sym → Int} {n : Nat} (C_has_all_variables : Cal P w K mg base T k "has_all_variables" spHasAll) (C_is_variable : Cal P w K mg base T k "is_variable" spIsVar) (C_term_weight : Cal P w K mg base T k "term_weight" (spWt W 16)) (C_greater_of_equal_weight : Cal P w K mg base T k "greater_of_equal_weight" (spGtE W n)) : Cal P w K mg base T (k + 1) "greater" (spGt W (n + 1)) := by
  refine dcal DA sc_greater (fun _ _ _ _ _ _ us hl => match us, hl with | [_, _, _], _ => rfl) (fun f cdv A outer s H E hr =>
    (dss_cons (ds_if (PW.pt (dw_or (dt_val (d_call C_is_variable hr (by rfl) (da_cons (dv 1 (.inl rfl)) da_nil))) (dw_or1 (dt_not (dt_val (d_call C_has_all_variables hr (by rfl) (da_cons (dv 1 (.inl rfl)) (da_cons (dv 2 (.inl rfl)) da_nil))))))))
      (dss_one (ds_ret d_bl))
      dss_nil)
    (dss_cons (ds_set (i := 3) sc_greater.nd (.inl rfl) (d_call C_term_weight hr (by rfl) (da_cons (dv 0 (.inl rfl)) (da_cons (dv 1 (.inl rfl)) da_nil))))
    (dss_cons (ds_set (i := 4) sc_greater.nd (.inl rfl) (d_call C_term_weight hr (by rfl) (da_cons (dv 0 (.inl rfl)) (da_cons (dv 2 (.inl rfl)) da_nil))))
    (dss_cons (ds_if (dt_ine (dv 3 (.inl rfl)) (dv 4 (.inl rfl)))
      (dss_one (ds_ret (d_gt (dv 3 (.inl rfl)) (dv 4 (.inl rfl)))))
      dss_nil)
    (dss_cons (ds_if (dt_val (d_call C_is_variable hr (by rfl) (da_cons (dv 2 (.inl rfl)) da_nil)))
      (dss_one (ds_ret d_bl))
      dss_nil)
    (dss_one (ds_ret (d_call C_greater_of_equal_weight hr (by rfl) (da_cons (dv 0 (.inl rfl)) (da_cons (dv 1 (.inl rfl)) (da_cons (dv 2 (.inl rfl)) da_nil)))))))))))) (fun ds M R h => by obtain ⟨_, _, _, rfl, _⟩ := h; rfl) (fun ds M R h => ?_)

  obtain ⟨a, s, t, rfl, hw, hs, ht, hz, hz2, h⟩ := h
  rw [gtF_s] at h
  refine ⟨s, rfl, ?_⟩
  cases s with
  | var x => refine bI_t rfl (bI_t rfl (ret ?_)); rw [if_pos (.inl rfl)] at h; exact h
  | app f as =>
    refine bI_f rfl ⟨.app f as, t, rfl, hs, ht, hz2, ?_⟩
    cases e : hasAll (.app f as) t with
    | false => rw [if_pos (.inr e)] at h; exact bI_t rfl (ret h)
    | true =>
      rw [if_neg (by rintro (z | z); cases z; rw [e] at z; cases z)] at h
      refine bI_f rfl ⟨a, .app f as, rfl, hw, hs, a, t, rfl, hw, ht, bI_i (fun e1 => ?_) (fun e1 => ?_)⟩
      · have e2 : ¬ wtT W (.app f as) = wtT W t := by simpa using e1
        rw [if_neg e2] at h
        exact ret h
      · have e2 : wtT W (.app f as) = wtT W t := by simpa using e1
        rw [if_pos e2] at h
        refine ⟨t, rfl, ?_⟩
        cases t with
        | var y => exact bI_t rfl (ret h)
        | app g bs => exact bI_f rfl ⟨a, f, as, g, bs, rfl, hw, hs, ht, by omega, hz2, ret h⟩
theorem sc_greater_of_equal_weight : FnScope ["weights", "first", "second", "one", "other"] ["weights", "first", "second"] (defScope (top 15)) := ⟨rfl, rfl, rfl, by decide +kernel, rfl, by decide +kernel, by decide +kernel⟩
theorem c_greater_of_equal_weight (DA : DefAt K mg "greater_of_equal_weight" (top 15)) {W : Sym → Int} {n : Nat} (C_comes_before : Cal P w K mg base T k "comes_before" spBefore) (C_head : Cal P w K mg base T k "head" spHead) (C_greater : Cal P w K mg base T k "greater" (spGt W n)) : Cal P w K mg base T (k + 1) "greater_of_equal_weight" (spGtE W n) := by
  refine dcal DA sc_greater_of_equal_weight (fun _ _ _ _ _ _ us hl => match us, hl with | [_, _, _], _ => rfl) (fun f cdv A outer s H E hr =>
    (dss_cons (ds_if (dt_not (dt_tru (d_ix (dv 1 (.inl rfl)) d_int)))
      (dss_one (ds_ret (d_and (d_not (d_ix (dv 2 (.inl rfl)) d_int)) (d_one (d_call C_comes_before hr (by rfl) (da_cons (d_ix (dv 2 (.inl rfl)) d_int) (da_cons (d_ix (dv 1 (.inl rfl)) d_int) da_nil)))))))
      dss_nil)
    (dss_cons (ds_if (dt_not (dt_tru (d_ix (dv 2 (.inl rfl)) d_int)))
      (dss_one (ds_ret d_bl))
      dss_nil)
    (dss_cons (ds_set (i := 3) sc_greater_of_equal_weight.nd (.inl rfl) (d_call C_head hr (by rfl) (da_cons (dv 1 (.inl rfl)) da_nil)))
    (dss_cons (ds_set (i := 4) sc_greater_of_equal_weight.nd (.inl rfl) (d_call C_head hr (by rfl) (da_cons (dv 2 (.inl rfl)) da_nil)))
    (dss_cons (ds_if (dt_ne hr.units (dv 3 (.inl rfl)) (dv 4 (.inl rfl)))
      (dss_one (ds_ret (d_call C_greater hr (by rfl) (da_cons (dv 0 (.inl rfl)) (da_cons (dv 3 (.inl rfl)) (da_cons (dv 4 (.inl rfl)) da_nil))))))
      dss_nil)
    (dss_one (ds_ret (d_call C_greater hr (by rfl) (da_cons (dv 0 (.inl rfl)) (da_cons (d_ix (d_ix (dv 1 (.inl rfl)) d_int) (d_neg d_int)) (da_cons (d_ix (d_ix (dv 2 (.inl rfl)) d_int) (d_neg d_int)) da_nil)))))))))))) (fun ds M R h => by obtain ⟨_, _, _, _, _, rfl, _⟩ := h; rfl) (fun ds M R h => ?_)

  obtain ⟨a, f, as, g, bs, rfl, hw, hs, ht, hz, hz2, h⟩ := h
  unfold gtE at h
  cases as with
  | nil =>
    rw [if_pos (show ([] : List Tm).isEmpty = true from rfl)] at h
    cases bs with
    | nil => exact ⟨g, f, rfl, ret h⟩
    | cons b bs => exact ret h
  | cons u as =>
    rw [if_neg (by simp)] at h
    cases bs with
    | nil => exact ret h
    | cons v bs =>
      rw [if_neg (by simp)] at h
      have na : u :: as ≠ [] := by simp
      have nb : v :: bs ≠ [] := by simp
      refine ⟨f, u :: as, rfl, g, v :: bs, rfl, ?_⟩
      have d1 := dep_dropLast f (u :: as)
      have d2 := dep_dropLast g (v :: bs)
      have z1 := size_dropLast f na
      have z2 := size_dropLast g nb
      refine ⟨flat64 (by omega), flat64 (by omega), ?_⟩
      rw [deq_enc]
      refine bI_i (fun e1 => ?_) (fun e1 => ?_)
      · have e2 : ¬ (f = g ∧ (u :: as).dropLast = (v :: bs).dropLast) := by
          rintro ⟨z1, z2⟩
          rw [z1, z2] at e1
          simp at e1
        rw [if_neg e2] at h
        exact ⟨a, _, _, rfl, hw, by omega, by omega, by omega, by omega, ret h⟩
      · have e2 : f = g ∧ (u :: as).dropLast = (v :: bs).dropLast := by simpa using e1
        rw [if_pos e2] at h
        show mIx (.tup (encs (u :: as))) (.int (-1)) M (fun d1 M1 => mIx (.tup (encs (v :: bs))) (.int (-1)) M1 (fun d2 M2 => spGt W n [.ob a, d1, d2] M2 (endD R).rt))
        refine mIx_at (at_last na) ?_
        refine mIx_at (at_last nb) ?_
        have y1 := dep_last f na
        have y2 := dep_last g nb
        have y3 := size_last f na
        have y4 := size_last g nb
        exact ⟨a, _, _, rfl, hw, by omega, by omega, by omega, by omega, ret h⟩
def spLVars (n : Nat) : SpD := fun ds M R => ∃ t a xs, ds = [enc t, .ob a] ∧ M a = some (.lst (xs.map D.int)) ∧ t.dep < n ∧ xs.length + t.size ≤ 900 ∧ ∀ M' p, LE M M' → M' p = some (.lst ((coll xs t).map D.int)) → R (.ob p) M'
theorem sc_l_variables : FnScope ["_law_term_here", "_law_found", "_law_part_here"] ["_law_term_here", "_law_found"] (defScope (top 63)) := ⟨rfl, rfl, rfl, by decide +kernel, rfl, by decide +kernel, by decide +kernel⟩
theorem c_l_variables (DA : DefAt K mg "_law_variables" (top 63)) {n : Nat} (C_l_is_variable : Cal P w K mg base T k "_law_is_variable" spIsVar) (C_l_variables : Cal P w K mg base T k "_law_variables" (spLVars n)) : Cal P w K mg base T (k + 1) "_law_variables" (spLVars (n + 1)) := by
  refine dcal DA sc_l_variables (fun _ _ _ _ _ _ us hl => match us, hl with | [_, _], _ => rfl) (fun f cdv A outer s H E hr =>
    (dss_cons (ds_if (dt_val (d_call C_l_is_variable hr (by rfl) (da_cons (dv 0 (.inl rfl)) da_nil)))
      (dss_cons (ds_if (dt_notInI (dv 0 (.inl rfl)) (dv 1 (.inl rfl)))
        (dss_one (ds_set (i := 1) sc_l_variables.nd (.inl rfl) (d_cat (dv 1 (.inl rfl)) (d_lst (da_cons (dv 0 (.inl rfl)) da_nil)))))
        dss_nil)
      (dss_one (ds_ret (dv 1 (.inl rfl)))))
      dss_nil)
    (dss_cons (ds_for PassesOwn.never rfl (di_tup (d_ix (dv 0 (.inl rfl)) d_int)) (dg_name (i := 2) sc_l_variables.nd (.inl rfl))
      (dss_one (ds_set (i := 1) sc_l_variables.nd (.inl rfl) (d_call C_l_variables hr (by rfl) (da_cons (dv 2 (.inl rfl)) (da_cons (dv 1 (.inl rfl)) da_nil))))))
    (dss_one (ds_ret (dv 1 (.inl rfl))))))) (fun ds M R h => by obtain ⟨_, _, _, rfl, _⟩ := h; rfl) (fun ds M R h => ?_)

  obtain ⟨t, a, xs, rfl, ha, hd, hz, h⟩ := h
  refine ⟨t, rfl, ?_⟩
  cases t with
  | var y =>
    rw [coll] at h
    refine bI_t rfl ⟨y, xs, rfl, ha, ?_⟩
    cases e : xs.contains y with
    | true =>
      rw [e, if_pos rfl] at h
      exact bI_f rfl (ret (h M a (LE.refl M) ha))
    | false =>
      rw [e, if_neg (by simp)] at h
      refine bI_t rfl (fun p hp => ⟨_, _, by rw [um_ne (mne ha hp)]; exact ha, um_same, ?_, fun q hq => ?_⟩)
      · rw [List.length_map]; show xs.length + 1 ≤ 1000; omega
      · refine ret (h _ q ((le_um hp).trans (le_um hq)) ?_)
        rw [um_same, List.map_append]; rfl
  | app f as =>
    refine bI_f rfl ?_
    rw [dep_app] at hd
    rw [size_app] at hz
    rw [coll] at h
    refine for_map enc as (encs_map as) (fun pre post r M' => LE M M' ∧ ∃ o q, M' q = some (.lst ((colls xs pre).map D.int)) ∧ r = [some (enc (.app f as)), some (.ob q), o]) ⟨LE.refl M, none, a, ha, rfl⟩ (fun _ _ _ _ _ _ => trivial) ?_ ?_
    · rintro pre u post r M' e ⟨le, o, q, hq, rfl⟩
      have hu : u ∈ as := by rw [e]; simp
      have hl := colls_len pre xs
      have hl2 : Tm.sizes as = Tm.sizes pre + (u.size + Tm.sizes post) := by rw [e, sizes_append, Tm.sizes]
      refine ⟨u, q, colls xs pre, rfl, hq, by have := dep_mem hu; omega, by omega, fun M2 p l2 hp => ?_⟩
      refine ⟨_, LE.refl _, le.trans l2, some (enc u), p, ?_, rfl⟩
      rw [hp, colls_app, colls, colls]
    · rintro r M' ⟨le, o, q, hq, rfl⟩
      exact ret (h M' q le hq)
theorem sc_l_greater : FnScope ["_law_weights_here", "_law_first", "_law_second", "_law_variable", "_law_ours", "_law_theirs", "_law_one", "_law_other"] ["_law_weights_here", "_law_first", "_law_second"] (defScope (top 66)) := ⟨rfl, rfl, rfl, by decide +kernel, rfl, by decide +kernel, by decide +kernel⟩
theorem c_l_greater (DA : DefAt K mg "_law_greater" (top 66)) {W : Sym → Int} {n : Nat} (C_l_is_variable : Cal P w K mg base T k "_law_is_variable" spIsVar) (C_l_variables : Cal P w K mg base T k "_law_variables" (spLVars 16)) (C_l_count : Cal P w K mg base T k "_law_count" (spOcc 16)) (C_l_weigh : Cal P w K mg base T k "_law_weigh" (spWt W 16)) (C_l_greater : Cal P w K mg base T k "_law_greater" (spGt W n)) : Cal P w K mg base T (k + 1) "_law_greater" (spGt W (n + 1)) := by
  refine dcal DA sc_l_greater (fun _ _ _ _ _ _ us hl => match us, hl with | [_, _, _], _ => rfl) (fun f cdv A outer s H E hr =>
    (dss_cons (ds_if (dt_val (d_call C_l_is_variable hr (by rfl) (da_cons (dv 1 (.inl rfl)) da_nil)))
      (dss_one (ds_ret d_bl))
      dss_nil)
    (dss_cons (ds_for PassesOwn.never rfl (di_lst (d_call C_l_variables hr (by rfl) (da_cons (dv 2 (.inl rfl)) (da_cons (d_lst da_nil) da_nil)))) (dg_name (i := 3) sc_l_greater.nd (.inl rfl))
      (dss_one (ds_if (dt_gt (d_call C_l_count hr (by rfl) (da_cons (dv 2 (.inl rfl)) (da_cons (dv 3 (.inl rfl)) da_nil))) (d_call C_l_count hr (by rfl) (da_cons (dv 1 (.inl rfl)) (da_cons (dv 3 (.inl rfl)) da_nil))))
        (dss_one (ds_ret d_bl))
        dss_nil)))
    (dss_cons (ds_set (i := 4) sc_l_greater.nd (.inl rfl) (d_call C_l_weigh hr (by rfl) (da_cons (dv 0 (.inl rfl)) (da_cons (dv 1 (.inl rfl)) da_nil))))
    (dss_cons (ds_set (i := 5) sc_l_greater.nd (.inl rfl) (d_call C_l_weigh hr (by rfl) (da_cons (dv 0 (.inl rfl)) (da_cons (dv 2 (.inl rfl)) da_nil))))
    (dss_cons (ds_if (PW.pt (dw_or (dt_ine (dv 4 (.inl rfl)) (dv 5 (.inl rfl))) (dw_or1 (dt_val (d_call C_l_is_variable hr (by rfl) (da_cons (dv 2 (.inl rfl)) da_nil))))))
      (dss_one (ds_ret (d_gt (dv 4 (.inl rfl)) (dv 5 (.inl rfl)))))
      dss_nil)
    (dss_cons (ds_if (PW.pt (dw_or (dt_not (dt_tru (d_ix (dv 1 (.inl rfl)) d_int))) (dw_or1 (dt_not (dt_tru (d_ix (dv 2 (.inl rfl)) d_int))))))
      (dss_cons (ds_if (dt_tru (d_ix (dv 1 (.inl rfl)) d_int))
        (dss_one (ds_ret d_bl))
        dss_nil)
      (dss_one (ds_ret (d_and (d_not (d_ix (dv 2 (.inl rfl)) d_int)) (d_one (d_ltT hr.units0 (d_ix (dv 2 (.inl rfl)) d_int) (d_ix (dv 1 (.inl rfl)) d_int)))))))
      dss_nil)
    (dss_cons (ds_set (i := 6) sc_l_greater.nd (.inl rfl) (d_tup (da_cons (d_ix (dv 1 (.inl rfl)) d_int) (da_cons (d_slice (d_ix (dv 1 (.inl rfl)) d_int) do_none (do_some (d_neg d_int))) da_nil))))
    (dss_cons (ds_set (i := 7) sc_l_greater.nd (.inl rfl) (d_tup (da_cons (d_ix (dv 2 (.inl rfl)) d_int) (da_cons (d_slice (d_ix (dv 2 (.inl rfl)) d_int) do_none (do_some (d_neg d_int))) da_nil))))
    (dss_cons (ds_if (dt_eq hr.units (dv 6 (.inl rfl)) (dv 7 (.inl rfl)))
      (dss_one (ds_ret (d_call C_l_greater hr (by rfl) (da_cons (dv 0 (.inl rfl)) (da_cons (d_ix (d_ix (dv 1 (.inl rfl)) d_int) (d_neg d_int)) (da_cons (d_ix (d_ix (dv 2 (.inl rfl)) d_int) (d_neg d_int)) da_nil))))))
      dss_nil)
    (dss_one (ds_ret (d_call C_l_greater hr (by rfl) (da_cons (dv 0 (.inl rfl)) (da_cons (dv 6 (.inl rfl)) (da_cons (dv 7 (.inl rfl)) da_nil)))))))))))))))) (fun ds M R h => by obtain ⟨_, _, _, rfl, _⟩ := h; rfl) (fun ds M R h => ?_)

  obtain ⟨a, s, t, rfl, hw, hs, ht, hz, hz2, h⟩ := h
  rw [gtF_s] at h
  refine ⟨s, rfl, ?_⟩
  cases s with
  | var x => refine bI_t rfl (ret ?_); rw [if_pos (.inl rfl)] at h; exact h
  | app f as =>
    refine bI_f rfl (fun p0 hp0 => ⟨t, p0, [], rfl, um_same, ht, by simpa using hz2, fun M1 p le1 hp => ⟨_, hp, ?_⟩⟩)
    have le : LE M M1 := (le_um hp0).trans le1
    refine for_map D.int (coll [] t) rfl (fun pre post r M' => M' = M1 ∧ (∀ x ∈ pre, decide (occ x t ≤ occ x (.app f as)) = true) ∧ ∃ o, r = [some (.ob a), some (enc (.app f as)), some (enc t), o, none, none, none, none]) ⟨rfl, (fun x hx => by cases hx), none, rfl⟩ (fun _ _ _ _ _ ⟨e, _⟩ => by rw [e]; exact hp) ?_ ?_
    · rintro pre x post r M' e ⟨rfl, hp2, o, rfl⟩
      refine ⟨t, x, rfl, ht, .app f as, x, rfl, hs, bI_i (fun e1 => ?_) (fun e1 => ?_)⟩
      · refine ⟨M, le, ?_⟩
        have e2 : hasAll (.app f as) t = false := by
          unfold hasAll
          rw [List.all_eq_false]
          refine ⟨x, by rw [e]; simp, ?_⟩
          have := of_decide_eq_true e1
          simp; omega
        rw [if_pos (.inr e2)] at h
        exact h
      · refine ⟨_, LE.refl _, rfl, ?_, _, rfl⟩
        intro y hy
        rcases List.mem_append.mp hy with h1 | h1
        · exact hp2 y h1
        · rw [List.mem_singleton] at h1
          subst h1
          have := of_decide_eq_false e1
          exact decide_eq_true (by omega)
    · rintro r M' ⟨rfl, hp2, o, rfl⟩
      have e2 : hasAll (.app f as) t = true := by unfold hasAll; rw [List.all_eq_true]; exact hp2
      rw [if_neg (by rintro (z | z); cases z; rw [e2] at z; cases z)] at h
      have hw' := hw.le le
      refine ⟨a, .app f as, rfl, hw', hs, a, t, rfl, hw', ht, bI_i (fun e1 => ?_) (fun e1 => ?_)⟩
      · have e3 : ¬ wtT W (.app f as) = wtT W t := by simpa using e1
        rw [if_neg e3] at h
        exact bI_t rfl ⟨M, le, h⟩
      · have e3 : wtT W (.app f as) = wtT W t := by simpa using e1
        rw [if_pos e3] at h
        refine ⟨t, rfl, ?_⟩
        cases t with
        | var y =>
          refine bI_t rfl ⟨M, le, ?_⟩
          have e4 : decide (wtT W (.var y) < wtT W (.app f as)) = false := by rw [e3]; simp
          show R (.bl (decide (wtT W (.var y) < wtT W (.app f as)))) M
          rw [e4]
          exact h
        | app g bs =>
          refine bI_f rfl ?_
          have h' : R (.bl (gtE (gtF W n) f as g bs)) M := h
          unfold gtE at h'
          cases as with
          | nil =>
            rw [if_pos (show ([] : List Tm).isEmpty = true from rfl)] at h'
            cases bs with
            | nil => exact ⟨symL g, symL f, rfl, rfl, ⟨M, le, h'⟩⟩
            | cons b bs => exact ⟨M, le, h'⟩
          | cons u as =>
            rw [if_neg (by simp)] at h'
            cases bs with
            | nil => exact ⟨M, le, h'⟩
            | cons v bs =>
              rw [if_neg (by simp)] at h'
              have na : u :: as ≠ [] := by simp
              have nb : v :: bs ≠ [] := by simp
              have d1 := dep_dropLast f (u :: as)
              have d2 := dep_dropLast g (v :: bs)
              have z1 := size_dropLast f na
              have z2 := size_dropLast g nb
              have c1 : (D.tup [esym f, .tup (cutD (encs (u :: as)) none (some (-1)))]) = enc (.app f (u :: as).dropLast) := by rw [cut_last, encs_dropLast, enc]
              have c2 : (D.tup [esym g, .tup (cutD (encs (v :: bs)) none (some (-1)))]) = enc (.app g (v :: bs).dropLast) := by rw [cut_last, encs_dropLast, enc]
              refine ⟨(congrArg (D.flat 64) c1).trans (flat64 (by omega)), (congrArg (D.flat 64) c2).trans (flat64 (by omega)), ?_⟩
              have eqv : deq (D.tup [esym f, .tup (cutD (encs (u :: as)) none (some (-1)))]) (D.tup [esym g, .tup (cutD (encs (v :: bs)) none (some (-1)))]) = decide (Tm.app f (u :: as).dropLast = Tm.app g (v :: bs).dropLast) := by rw [c1, c2, deq_enc]
              refine bI_i (fun e1 => ?_) (fun e1 => ?_) <;> replace e1 := eqv.symm.trans e1
              · have e5 : f = g ∧ (u :: as).dropLast = (v :: bs).dropLast := by simpa using e1
                rw [if_pos e5] at h'
                show mIx (.tup (encs (u :: as))) (.int (-1)) M' (fun d1 M1 => mIx (.tup (encs (v :: bs))) (.int (-1)) M1 (fun d2 M2 => spGt W n [.ob a, d1, d2] M2 (endD R).rt))
                refine mIx_at (at_last na) ?_
                refine mIx_at (at_last nb) ?_
                have y1 := dep_last f na
                have y2 := dep_last g nb
                have y3 := size_last f na
                have y4 := size_last g nb
                exact ⟨a, _, _, rfl, hw', by omega, by omega, by omega, by omega, ⟨M, le, h'⟩⟩
              · have e5 : ¬ (f = g ∧ (u :: as).dropLast = (v :: bs).dropLast) := by
                  rintro ⟨z1, z2⟩
                  rw [z1, z2] at e1
                  simp at e1
                rw [if_neg e5] at h'
                exact ⟨a, .app f (u :: as).dropLast, .app g (v :: bs).dropLast, by rw [← c1, ← c2], hw', by omega, by omega, by omega, by omega, ⟨M, le, h'⟩⟩
end
end My
set_option maxHeartbeats 4000000
/-! F3: substitutions, literals, places, matching. -/
namespace My
open PySem PySem.Spec PyProof.Rows L2
theorem LE.upd {M M' : Mp} {p : Addr} {o : MO} (l : LE M M') (h : M p = none) : LE M (My.um M' p o) := fun b u e => by
  rw [um_ne (mne e h)]; exact l b u e
theorem LE.at {M M' : Mp} {p : Addr} {o : MO} (l : LE M M') (h : M' p = some o) : LE (My.um M p o) M' := fun b u e => by
  unfold My.um at e
  split at e
  · cases e; rename_i z; rw [z]; exact h
  · exact l b u e
/-- a comprehension over encodings -/
theorem lc_gen {α : Type} (g : α → D) (xs : List α) (b : α → Bool) (h : α → D) {items : List D} {keep : Mp → Prop} {i : Nat} {tt : TTD} {te : TED} {p : Addr} {r : Rho} {M1 : Mp} {R : VKD} (he : items = xs.map g) (n1 : M1 p = none) (hk : ∀ M, LE M1 M → keep M) (hl : xs.length < 1000)
    (ht : ∀ a ∈ xs, ∀ M, LE M1 M → ∀ R', R' (b a) M → tt (r.set i (some (g a))) M R') (hf : ∀ a ∈ xs, b a = true → ∀ M, LE M1 M → ∀ R' : VKD, R' (h a) M → te (r.set i (some (g a))) M R')
    (hd : R (.ob p) (um M1 p (.lst ((xs.filter b).map h)))) : lcD ⟨items, keep⟩ i tt te p r M1 R := by
  subst he
  refine ⟨fun pre post out M => (∃ a c, xs = a ++ c ∧ pre = a.map g ∧ post = c.map g ∧ out = (a.filter b).map h) ∧ M = um M1 p (.lst out), ⟨⟨[], xs, rfl, rfl, rfl, rfl⟩, rfl⟩, ?_, ?_, ?_⟩
  · rintro pre post out M e ⟨_, rfl⟩
    exact ⟨hk _ (le_um n1), um_same⟩
  · rintro pre d post out M e ⟨⟨a, c, e1, e2, e3, e4⟩, rfl⟩
    cases c with
    | nil => simp at e3
    | cons y c =>
      simp only [List.map_cons, List.cons.injEq] at e3
      obtain ⟨e3, e3'⟩ := e3
      subst e3
      have hm : y ∈ xs := by rw [e1]; simp
      refine ht y hm _ (le_um n1) _ ?_
      have hlen : out.length < 1000 := by
        rw [e4, List.length_map]
        refine Nat.lt_of_le_of_lt (List.length_filter_le _ _) (Nat.lt_of_le_of_lt ?_ hl)
        rw [e1]; simp
      cases hb : b y with
      | false =>
        refine bI_f rfl ⟨⟨a ++ [y], c, by rw [e1]; simp, by rw [e2]; simp, e3', ?_⟩, rfl⟩
        rw [e4, List.filter_append, List.filter_cons, hb]; simp
      | true =>
        refine bI_t rfl (hf y hm hb _ (le_um n1) _ ?_)
        refine ⟨um_same, hlen, ⟨⟨a ++ [y], c, by rw [e1]; simp, by rw [e2]; simp, e3', ?_⟩, um_um⟩⟩
        rw [e4, List.filter_append, List.filter_cons, hb]; simp
  · rintro out M ⟨⟨a, c, e1, e2, e3, e4⟩, rfl⟩
    have hc : c = [] := by cases c with
      | nil => rfl
      | cons y c => simp at e3
    subst hc
    have ha : xs = a := by simpa using e1
    subst ha
    rw [e4]
    exact hd
theorem lc_gmap {α : Type} (g : α → D) (xs : List α) (h : α → D) {items : List D} {keep : Mp → Prop} {i : Nat} {te : TED} {p : Addr} {r : Rho} {M1 : Mp} {R : VKD} (he : items = xs.map g) (n1 : M1 p = none) (hk : ∀ M, LE M1 M → keep M) (hl : xs.length < 1000)
    (hf : ∀ a ∈ xs, ∀ M, LE M1 M → ∀ R' : VKD, R' (h a) M → te (r.set i (some (g a))) M R')
    (hd : R (.ob p) (um M1 p (.lst (xs.map h)))) : lcD ⟨items, keep⟩ i tYesD te p r M1 R := by
  refine lc_gen g xs (fun _ => true) h he n1 hk hl (fun a _ M _ R' z => z) (fun a ha _ => hf a ha) ?_
  rw [List.filter_eq_self.mpr (fun _ _ => rfl)]
  exact hd
/-! ### substitutions -/
abbrev Sb := List (Int × Tm)
def encS (σ : Sb) : List (Int × D) := σ.map fun p => (p.1, enc p.2)
def sbv (σ : Sb) (x : Int) : Option Tm := (σ.find? fun p => decide (p.1 = x)).map (·.2)
theorem sbv_cons (y : Int) (u : Tm) (σ : Sb) (x : Int) : sbv ((y, u) :: σ) x = if y = x then some u else sbv σ x := by
  unfold sbv
  rw [List.find?_cons]
  by_cases h : y = x <;> simp [h]
theorem sbv_nil (x : Int) : sbv [] x = none := rfl
theorem vD_encS : ∀ (σ : Sb) (x : Int), vD (encS σ) x = (sbv σ x).map enc
  | [], _ => rfl
  | (y, u) :: σ, x => by
    show vD ((y, enc u) :: encS σ) x = _
    rw [vD_cons, sbv_cons, vD_encS σ x]
    split <;> rfl
theorem pD_encS {σ : Sb} {x : Int} (h : sbv σ x = none) (t : Tm) : pD (encS σ) x (enc t) = encS (σ ++ [(x, t)]) := by
  have e := vD_encS σ x
  rw [h] at e
  unfold pD
  rw [any_vD, e, if_neg (by simp)]
  unfold encS
  rw [List.map_append]; rfl
mutual
def sub (σ : Sb) : Tm → Tm
  | .var x => (sbv σ x).getD (.var x)
  | .app f as => .app f (subs σ as)
def subs (σ : Sb) : List Tm → List Tm
  | [] => []
  | a :: as => sub σ a :: subs σ as
end
theorem subs_map (σ : Sb) : ∀ as, subs σ as = as.map (sub σ)
  | [] => rfl
  | a :: as => by rw [subs, subs_map σ as]; rfl
/-! ### literals -/
def LD (n : Nat) (L : Lit) : Prop := L.l.dep < n ∧ L.r.dep < n
def wSide (L : Lit) (s : Nat) (t : Tm) : Lit := if s = 0 then ⟨L.pos, t, L.r⟩ else ⟨L.pos, L.l, t⟩
noncomputable def sameS (a b : Lit) : Bool := decide (a.l = b.l ∧ a.r = b.r) || decide (a.l = b.r ∧ a.r = b.l)
noncomputable def sameL (a b : Lit) : Bool := decide (a.pos = b.pos) && sameS a b
def sidesP (L : Lit) : List Tm := if L.pos = true then [L.l, L.r] else [L.l, L.l, L.r, L.r]
def sidesL (L : Lit) : List Tm := if L.pos = true then [L.l, L.r] else [L.l, L.r, L.l, L.r]
/-! ### places -/
def encP (q : List Nat × Tm) : D := .tup [.tup (q.1.map fun i => .int (i : Nat)), enc q.2]
mutual
def placesT : Tm → List (List Nat × Tm)
  | .var x => [([], .var x)]
  | .app f as => ([], .app f as) :: placesL 0 as
def placesL (k : Nat) : List Tm → List (List Nat × Tm)
  | [] => []
  | a :: as => (placesT a).map (fun q => (k :: q.1, q.2)) ++ placesL (k + 1) as
end
mutual
theorem places_len : ∀ t : Tm, (placesT t).length = t.size
  | .var x => rfl
  | .app f as => by rw [placesT, List.length_cons, placesL_len 0 as, size_app]
theorem placesL_len : ∀ (k : Nat) (as : List Tm), (placesL k as).length = Tm.sizes as
  | k, [] => rfl
  | k, a :: as => by rw [placesL, List.length_append, List.length_map, places_len a, placesL_len (k + 1) as, Tm.sizes]
end
def placesZ : List (Tm × Nat) → List (List Nat × Tm)
  | [] => []
  | (a, k) :: ps => (placesT a).map (fun q => (k :: q.1, q.2)) ++ placesZ ps
theorem placesZ_eq : ∀ (as : List Tm) (k : Nat), placesZ (as.zipIdx k) = placesL k as
  | [], k => rfl
  | a :: as, k => by rw [List.zipIdx_cons, placesZ, placesL, placesZ_eq as (k + 1)]
theorem enum_map {α : Type} (f : α → D) : ∀ (as : List α) (n : Nat), enumD n (as.map f) = (as.zipIdx n).map fun p => .tup [.int (p.2 : Nat), f p.1]
  | [], _ => rfl
  | a :: as, n => by rw [List.map_cons, enumD, enum_map f as (n + 1), List.zipIdx_cons, List.map_cons]
def atT : Tm → List Nat → Option Tm
  | t, [] => some t
  | .var _, _ :: _ => none
  | .app _ as, i :: pl => match as[i]? with
    | some a => atT a pl
    | none => none
def putT : Tm → List Nat → Tm → Tm
  | _, [], u => u
  | .var x, _ :: _, _ => .var x
  | .app f as, i :: pl, u => match as[i]? with
    | some a => .app f (as.set i (putT a pl u))
    | none => .app f as
/-! ### matching -/
mutual
noncomputable def ext : Tm → Tm → Sb → Bool × Sb
  | .var x, t, σ => match sbv σ x with
    | some u => (decide (u = t), σ)
    | none => (true, σ ++ [(x, t)])
  | .app _ _, .var _, σ => (false, σ)
  | .app f as, .app g bs, σ => if f = g ∧ as.length = bs.length then exts as bs σ else (false, σ)
noncomputable def exts : List Tm → List Tm → Sb → Bool × Sb
  | a :: as, b :: bs, σ => match ext a b σ with
    | (true, σ') => exts as bs σ'
    | (false, σ') => (false, σ')
  | _, _, σ => (true, σ)
end
noncomputable def extz : List (Tm × Tm) → Sb → Bool × Sb
  | [], σ => (true, σ)
  | (a, b) :: ps, σ => match ext a b σ with
    | (true, σ') => extz ps σ'
    | (false, σ') => (false, σ')
theorem extz_eq : ∀ (as bs : List Tm) (σ : Sb), extz (as.zip bs) σ = exts as bs σ
  | [], bs, σ => by rw [List.zip_nil_left, extz, exts]; intros; simp_all
  | a :: as, [], σ => by rw [List.zip_nil_right, extz, exts]; intros; simp_all
  | a :: as, b :: bs, σ => by
    rw [List.zip_cons_cons, extz, exts]
    cases ext a b σ with
    | mk c σ' => cases c with
      | true => exact extz_eq as bs σ'
      | false => rfl
mutual
theorem ext_len : ∀ (p t : Tm) (σ : Sb), (ext p t σ).2.length ≤ σ.length + p.size
  | .var x, t, σ => by
    rw [ext, Tm.size]
    cases sbv σ x with
    | some u => simp
    | none => simp
  | .app f as, .var y, σ => by rw [ext]; simp
  | .app f as, .app g bs, σ => by
    rw [ext, size_app]
    split
    · have := exts_len as bs σ; omega
    · simp
theorem exts_len : ∀ (as bs : List Tm) (σ : Sb), (exts as bs σ).2.length ≤ σ.length + Tm.sizes as
  | [], bs, σ => by rw [exts]; simp; intros; simp_all
  | a :: as, [], σ => by rw [exts]; simp; intros; simp_all
  | a :: as, b :: bs, σ => by
    rw [exts, Tm.sizes]
    have h := ext_len a b σ
    cases e : ext a b σ with
    | mk c σ' =>
      rw [e] at h
      simp only at h
      cases c with
      | true => have := exts_len as bs σ'; simp only; omega
      | false => simp only; omega
end
end My
set_option maxHeartbeats 4000000
/-! F4: walks of substitutions, literals, places, matching. -/
namespace My
open PySem PySem.Spec PyProof.Rows L2
theorem flat_bl (n : Nat) (b : Bool) : D.flat n (.bl b) = true := by cases n <;> simp [D.flat]
theorem isNon_enc (t : Tm) : isNon (enc t) = false := by cases t <;> rfl
theorem encs_len (as : List Tm) : (encs as).length = as.length := by rw [encs_map, List.length_map]
theorem encs_get (as : List Tm) (i : Nat) : (encs as)[i]? = as[i]?.map enc := by rw [encs_map, List.getElem?_map]
theorem encs_set (as : List Tm) (i : Nat) (u : Tm) : (encs as).set i (enc u) = encs (as.set i u) := by rw [encs_map, encs_map, List.map_set]
theorem cut_tl (d : D) (ds : List D) : cutD (d :: ds) (some 1) none = ds := by
  unfold cutD
  have e1 : HT.sIx (d :: ds).length 0 (some 1) = 1 := by
    refine (HT.sIx_nat _ _ 1).trans ?_
    show min 1 (ds.length + 1) = 1
    omega
  rw [e1]
  show (ds.take ((d :: ds).length - 1)) = ds
  simp
theorem zip_encs : ∀ as bs : List Tm, zipD (encs as) (encs bs) = (as.zip bs).map fun p => .tup [enc p.1, enc p.2]
  | [], bs => by cases bs <;> rfl
  | a :: as, [] => rfl
  | a :: as, b :: bs => by rw [encs, encs, zipD, zip_encs as bs]; rfl
mutual
theorem places_dep : ∀ (t : Tm) (pl : List Nat) (v : Tm), (pl, v) ∈ placesT t → pl.length ≤ t.dep
  | .var x, pl, v, h => by
    rw [placesT, List.mem_singleton] at h
    cases h; exact Nat.zero_le _
  | .app f as, pl, v, h => by
    rw [placesT] at h
    rw [dep_app]
    rcases List.mem_cons.mp h with e | h
    · cases e; exact Nat.zero_le _
    · have := placesL_dep as 0 pl v h; omega
theorem placesL_dep : ∀ (as : List Tm) (k : Nat) (pl : List Nat) (v : Tm), (pl, v) ∈ placesL k as → pl.length ≤ Tm.deps as + 1
  | [], k, pl, v, h => by rw [placesL] at h; cases h
  | a :: as, k, pl, v, h => by
    rw [placesL] at h
    rw [Tm.deps]
    rcases List.mem_append.mp h with h | h
    · obtain ⟨q, hq, e⟩ := List.mem_map.mp h
      cases e
      have := places_dep a q.1 q.2 hq
      rw [List.length_cons]; omega
    · have := placesL_dep as (k + 1) pl v h; omega
end
section
variable {P : Program} {w : World} {K : PySem.W.Frag} {mg : Str → Option Value} {base : Heap} {T : List (Addr × Str)} {k : Nat}
def spPut (n : Nat) : SpD := fun ds M R => ∃ t a σ, ds = [enc t, .ob a] ∧ M a = some (.dI (encS σ)) ∧ t.dep < n ∧ t.size ≤ 900 ∧ R (enc (sub σ t)) M
theorem sc_put : FnScope ["term", "substitution", "part"] ["term", "substitution"] (defScope (top 17)) := ⟨rfl, rfl, rfl, by decide +kernel, rfl, by decide +kernel, by decide +kernel⟩
theorem c_put (DA : DefAt K mg "put" (top 17)) {n : Nat} (C_is_variable : Cal P w K mg base T k "is_variable" spIsVar) (C_put : Cal P w K mg base T k "put" (spPut n)) (m_tuple : mg "tuple" = none) : Cal P w K mg base T (k + 1) "put" (spPut (n + 1)) := by
  refine dcal DA sc_put (fun _ _ _ _ _ _ us hl => match us, hl with | [_, _], _ => rfl) (fun f cdv A outer s H E hr =>
    (dss_cons (ds_if (dt_val (d_call C_is_variable hr (by rfl) (da_cons (dv 0 (.inl rfl)) da_nil)))
      (dss_one (ds_ret (d_get2 (hu_of hr) (dv 1 (.inr (.inl rfl))) (dv 0 (.inl rfl)) (dv 0 (.inl rfl)))))
      dss_nil)
    (dss_one (ds_ret (d_tup (da_cons (d_ix (dv 0 (.inl rfl)) d_int) (da_cons (d_toTup (d_lc (i := 2) rfl sc_put.nd (di_tup (d_ix (dv 0 (.inl rfl)) d_int)) (blkOk_by (by rfl)) (fun _ _ _ _ _ => pg_name (i := 2) sc_put.nd rfl (.inl rfl)) (fun _ _ _ _ _ => dts_nil) (fun _ _ _ _ _ => (d_call C_put hr (by rfl) (da_cons (dv 2 (.inl rfl)) (da_cons (dv 1 (.inr (.inl rfl))) da_nil))))) (hg := by rfl) (hm := m_tuple)) da_nil))))))) (fun ds M R h => by obtain ⟨_, _, _, rfl, _⟩ := h; rfl) (fun ds M R h => ?_)

  obtain ⟨t, a, σ, rfl, ha, hd, hz, h⟩ := h
  refine ⟨t, rfl, ?_⟩
  cases t with
  | var x =>
    refine bI_t rfl ⟨a, _, rfl, ha, .inl ⟨_, rfl⟩, ⟨_, .inl ⟨encS σ, x, ha, rfl, rfl⟩, ret ?_⟩⟩
    rw [vD_encS]
    rw [sub] at h
    cases e : sbv σ x with
    | none => rw [e] at h; exact h
    | some u => rw [e] at h; exact h
  | app f as =>
    refine bI_f rfl (fun p hp => ?_)
    rw [dep_app] at hd
    rw [size_app] at hz
    have hl := length_sizes as
    refine lc_gmap enc as (fun a => enc (sub σ a)) (encs_map as) hp (fun _ _ => trivial) (by omega) (fun u hu M1 l R' h' => ?_) ⟨_, um_same, M, le_um hp, ret ?_⟩
    · have h1 := dep_mem hu
      have h2 := size_mem hu
      exact ⟨u, a, σ, rfl, l _ _ ha, by omega, by omega, h'⟩
    · rw [sub, enc_app, subs_map, List.map_map] at h
      exact h
def spWSide : SpD := fun ds M R => ∃ L s t, ds = [encL L, .int (s : Nat), enc t] ∧ R (encL (wSide L s t)) M
theorem sc_with_side : FnScope ["literal", "k", "term"] ["literal", "k", "term"] (defScope (top 19)) := ⟨rfl, rfl, rfl, by decide +kernel, rfl, by decide +kernel, by decide +kernel⟩
theorem c_with_side (DA : DefAt K mg "with_side" (top 19)) : Cal P w K mg base T (k + 1) "with_side" spWSide := by
  refine dcal DA sc_with_side (fun _ _ _ _ _ _ us hl => match us, hl with | [_, _, _], _ => rfl) (fun f cdv A outer s H E hr =>
    (dss_cons (ds_if (dt_ieq (dv 1 (.inl rfl)) d_int)
      (dss_one (ds_ret (d_tup (da_cons (d_ix (dv 0 (.inl rfl)) d_int) (da_cons (dv 2 (.inl rfl)) (da_cons (d_ix (dv 0 (.inl rfl)) d_int) da_nil))))))
      dss_nil)
    (dss_one (ds_ret (d_tup (da_cons (d_ix (dv 0 (.inl rfl)) d_int) (da_cons (d_ix (dv 0 (.inl rfl)) d_int) (da_cons (dv 2 (.inl rfl)) da_nil)))))))) (fun ds M R h => by obtain ⟨_, _, _, rfl, _⟩ := h; rfl) (fun ds M R h => ?_)

  obtain ⟨L, s, t, rfl, h⟩ := h
  refine bI_i (fun e => ?_) (fun e => ?_)
  · have e1 : ((s : Nat) : Int) = 0 := of_decide_eq_true e
    have e2 : s = 0 := by omega
    rw [wSide, if_pos e2] at h
    exact ret h
  · have e1 : ¬ ((s : Nat) : Int) = 0 := of_decide_eq_false e
    have e2 : ¬ s = 0 := by omega
    rw [wSide, if_neg e2] at h
    exact ret h
def spSameS : SpD := fun ds M R => ∃ a b, ds = [encL a, encL b] ∧ LD 20 a ∧ LD 20 b ∧ R (.bl (sameS a b)) M
theorem sc_same_sides : FnScope ["first", "second"] ["first", "second"] (defScope (top 20)) := ⟨rfl, rfl, rfl, by decide +kernel, rfl, by decide +kernel, by decide +kernel⟩
theorem c_same_sides (DA : DefAt K mg "same_sides" (top 20)) : Cal P w K mg base T (k + 1) "same_sides" spSameS := by
  refine dcal DA sc_same_sides (fun _ _ _ _ _ _ us hl => match us, hl with | [_, _], _ => rfl) (fun f cdv A outer s H E hr =>
    (dss_cons (ds_if (PW.pt (dw_and (dt_eq hr.units (d_ix (dv 0 (.inl rfl)) d_int) (d_ix (dv 1 (.inl rfl)) d_int)) (dw_and1 (dt_eq hr.units (d_ix (dv 0 (.inl rfl)) d_int) (d_ix (dv 1 (.inl rfl)) d_int)))))
      (dss_one (ds_ret d_bl))
      dss_nil)
    (dss_one (ds_ret (d_and (d_eq hr.units (d_ix (dv 0 (.inl rfl)) d_int) (d_ix (dv 1 (.inl rfl)) d_int)) (d_one (d_eq hr.units (d_ix (dv 0 (.inl rfl)) d_int) (d_ix (dv 1 (.inl rfl)) d_int)))))))) (fun ds M R h => by obtain ⟨_, _, rfl, _⟩ := h; rfl) (fun ds M R h => ?_)

  obtain ⟨a, b, rfl, ha, hb, h⟩ := h
  unfold sameS at h
  refine ⟨flat64 ha.1, flat64 hb.1, bI_i (fun e => ?_) (fun e => ?_)⟩
  · have e1 : a.l = b.l := by rw [deq_enc] at e; exact of_decide_eq_true e
    refine ⟨flat64 ha.2, flat64 hb.2, bI_i (fun e' => ?_) (fun e' => ?_)⟩
    · have e2 : a.r = b.r := by rw [deq_enc] at e'; exact of_decide_eq_true e'
      rw [decide_eq_true ⟨e1, e2⟩] at h
      exact ret h
    · have e2 : ¬ a.r = b.r := by rw [deq_enc] at e'; exact of_decide_eq_false e'
      rw [decide_eq_false (fun z => e2 z.2), Bool.false_or] at h
      refine ⟨flat64 ha.1, flat64 hb.2, bI_i (fun e3 => ?_) (fun e3 => ?_)⟩
      · have e4 : a.l = b.r := by rw [deq_enc] at e3; exact of_decide_eq_true e3
        refine ⟨flat64 ha.2, flat64 hb.1, ret ?_⟩
        rw [deq_enc]
        have : decide (a.l = b.r ∧ a.r = b.l) = decide (a.r = b.l) := decide_eq_decide.mpr ⟨fun z => z.2, fun z => ⟨e4, z⟩⟩
        rw [← this]; exact h
      · have e4 : ¬ a.l = b.r := by rw [deq_enc] at e3; exact of_decide_eq_false e3
        rw [decide_eq_false (fun z => e4 z.1)] at h
        exact ret h
  · have e1 : ¬ a.l = b.l := by rw [deq_enc] at e; exact of_decide_eq_false e
    rw [decide_eq_false (fun z => e1 z.1), Bool.false_or] at h
    refine ⟨flat64 ha.1, flat64 hb.2, bI_i (fun e3 => ?_) (fun e3 => ?_)⟩
    · have e4 : a.l = b.r := by rw [deq_enc] at e3; exact of_decide_eq_true e3
      refine ⟨flat64 ha.2, flat64 hb.1, ret ?_⟩
      rw [deq_enc]
      have : decide (a.l = b.r ∧ a.r = b.l) = decide (a.r = b.l) := decide_eq_decide.mpr ⟨fun z => z.2, fun z => ⟨e4, z⟩⟩
      rw [← this]; exact h
    · have e4 : ¬ a.l = b.r := by rw [deq_enc] at e3; exact of_decide_eq_false e3
      rw [decide_eq_false (fun z => e4 z.1)] at h
      exact ret h
def spSameL : SpD := fun ds M R => ∃ a b, ds = [encL a, encL b] ∧ LD 20 a ∧ LD 20 b ∧ R (.bl (sameL a b)) M
theorem sc_same : FnScope ["first", "second"] ["first", "second"] (defScope (top 21)) := ⟨rfl, rfl, rfl, by decide +kernel, rfl, by decide +kernel, by decide +kernel⟩
theorem c_same (DA : DefAt K mg "same" (top 21)) (C_same_sides : Cal P w K mg base T k "same_sides" spSameS) : Cal P w K mg base T (k + 1) "same" spSameL := by
  refine dcal DA sc_same (fun _ _ _ _ _ _ us hl => match us, hl with | [_, _], _ => rfl) (fun f cdv A outer s H E hr =>
    (dss_one (ds_ret (d_and (d_eq hr.units (d_ix (dv 0 (.inl rfl)) d_int) (d_ix (dv 1 (.inl rfl)) d_int)) (d_one (d_call C_same_sides hr (by rfl) (da_cons (dv 0 (.inl rfl)) (da_cons (dv 1 (.inl rfl)) da_nil)))))))) (fun ds M R h => by obtain ⟨_, _, rfl, _⟩ := h; rfl) (fun ds M R h => ?_)

  obtain ⟨a, b, rfl, ha, hb, h⟩ := h
  unfold sameL at h
  refine ⟨flat_bl _ _, flat_bl _ _, bI_i (fun e => ?_) (fun e => ?_)⟩
  · have e1 : a.pos = b.pos := by rw [deq_bl] at e; exact beq_iff_eq.mp e
    rw [decide_eq_true e1, Bool.true_and] at h
    exact ⟨a, b, rfl, ha, hb, ret h⟩
  · have e1 : ¬ a.pos = b.pos := by rw [deq_bl] at e; exact beq_eq_false_iff_ne.mp e
    rw [decide_eq_false e1, Bool.false_and] at h
    exact ret h
theorem sc_l_same : FnScope ["_law_first", "_law_second"] ["_law_first", "_law_second"] (defScope (top 68)) := ⟨rfl, rfl, rfl, by decide +kernel, rfl, by decide +kernel, by decide +kernel⟩
theorem c_l_same (DA : DefAt K mg "_law_same" (top 68)) : Cal P w K mg base T (k + 1) "_law_same" spSameL := by
  refine dcal DA sc_l_same (fun _ _ _ _ _ _ us hl => match us, hl with | [_, _], _ => rfl) (fun f cdv A outer s H E hr =>
    (dss_cons (ds_if (dt_ne hr.units (d_ix (dv 0 (.inl rfl)) d_int) (d_ix (dv 1 (.inl rfl)) d_int))
      (dss_one (ds_ret d_bl))
      dss_nil)
    (dss_cons (ds_if (PW.pt (dw_and (dt_eq hr.units (d_ix (dv 0 (.inl rfl)) d_int) (d_ix (dv 1 (.inl rfl)) d_int)) (dw_and1 (dt_eq hr.units (d_ix (dv 0 (.inl rfl)) d_int) (d_ix (dv 1 (.inl rfl)) d_int)))))
      (dss_one (ds_ret d_bl))
      dss_nil)
    (dss_one (ds_ret (d_and (d_eq hr.units (d_ix (dv 0 (.inl rfl)) d_int) (d_ix (dv 1 (.inl rfl)) d_int)) (d_one (d_eq hr.units (d_ix (dv 0 (.inl rfl)) d_int) (d_ix (dv 1 (.inl rfl)) d_int))))))))) (fun ds M R h => by obtain ⟨_, _, rfl, _⟩ := h; rfl) (fun ds M R h => ?_)

  obtain ⟨a, b, rfl, ha, hb, h⟩ := h
  unfold sameL sameS at h
  refine ⟨flat_bl _ _, flat_bl _ _, bI_i (fun e => ?_) (fun e => ?_)⟩
  · have e1 : ¬ a.pos = b.pos := by rw [deq_bl] at e; simpa using e
    rw [decide_eq_false e1, Bool.false_and] at h
    exact ret h
  · have e1 : a.pos = b.pos := by rw [deq_bl] at e; simpa using e
    rw [decide_eq_true e1, Bool.true_and] at h
    refine ⟨flat64 ha.1, flat64 hb.1, bI_i (fun e => ?_) (fun e => ?_)⟩
    · have e1 : a.l = b.l := by rw [deq_enc] at e; exact of_decide_eq_true e
      refine ⟨flat64 ha.2, flat64 hb.2, bI_i (fun e' => ?_) (fun e' => ?_)⟩
      · have e2 : a.r = b.r := by rw [deq_enc] at e'; exact of_decide_eq_true e'
        rw [decide_eq_true ⟨e1, e2⟩] at h
        exact ret h
      · have e2 : ¬ a.r = b.r := by rw [deq_enc] at e'; exact of_decide_eq_false e'
        rw [decide_eq_false (fun z => e2 z.2), Bool.false_or] at h
        refine ⟨flat64 ha.1, flat64 hb.2, bI_i (fun e3 => ?_) (fun e3 => ?_)⟩
        · have e4 : a.l = b.r := by rw [deq_enc] at e3; exact of_decide_eq_true e3
          refine ⟨flat64 ha.2, flat64 hb.1, ret ?_⟩
          rw [deq_enc]
          have : decide (a.l = b.r ∧ a.r = b.l) = decide (a.r = b.l) := decide_eq_decide.mpr ⟨fun z => z.2, fun z => ⟨e4, z⟩⟩
          rw [← this]; exact h
        · have e4 : ¬ a.l = b.r := by rw [deq_enc] at e3; exact of_decide_eq_false e3
          rw [decide_eq_false (fun z => e4 z.1)] at h
          exact ret h
    · have e1 : ¬ a.l = b.l := by rw [deq_enc] at e; exact of_decide_eq_false e
      rw [decide_eq_false (fun z => e1 z.1), Bool.false_or] at h
      refine ⟨flat64 ha.1, flat64 hb.2, bI_i (fun e3 => ?_) (fun e3 => ?_)⟩
      · have e4 : a.l = b.r := by rw [deq_enc] at e3; exact of_decide_eq_true e3
        refine ⟨flat64 ha.2, flat64 hb.1, ret ?_⟩
        rw [deq_enc]
        have : decide (a.l = b.r ∧ a.r = b.l) = decide (a.r = b.l) := decide_eq_decide.mpr ⟨fun z => z.2, fun z => ⟨e4, z⟩⟩
        rw [← this]; exact h
      · have e4 : ¬ a.l = b.r := by rw [deq_enc] at e3; exact of_decide_eq_false e3
        rw [decide_eq_false (fun z => e4 z.1)] at h
        exact ret h
def spSides (f : Lit → List Tm) : SpD := fun ds M R => ∃ L, ds = [encL L] ∧ ∀ p, M p = none → R (.ob p) (um M p (.lst (encs (f L))))
theorem sc_sides_of : FnScope ["literal"] ["literal"] (defScope (top 26)) := ⟨rfl, rfl, rfl, by decide +kernel, rfl, by decide +kernel, by decide +kernel⟩
theorem c_sides_of (DA : DefAt K mg "sides_of" (top 26)) : Cal P w K mg base T (k + 1) "sides_of" (spSides sidesP) := by
  refine dcal DA sc_sides_of (fun _ _ _ _ _ _ us hl => match us, hl with | [_], _ => rfl) (fun f cdv A outer s H E hr =>
    (dss_cons (ds_if (dt_val (d_ix (dv 0 (.inl rfl)) d_int))
      (dss_one (ds_ret (d_lst (da_cons (d_ix (dv 0 (.inl rfl)) d_int) (da_cons (d_ix (dv 0 (.inl rfl)) d_int) da_nil)))))
      dss_nil)
    (dss_one (ds_ret (d_lst (da_cons (d_ix (dv 0 (.inl rfl)) d_int) (da_cons (d_ix (dv 0 (.inl rfl)) d_int) (da_cons (d_ix (dv 0 (.inl rfl)) d_int) (da_cons (d_ix (dv 0 (.inl rfl)) d_int) da_nil))))))))) (fun ds M R h => by obtain ⟨_, rfl, _⟩ := h; rfl) (fun ds M R h => ?_)

  obtain ⟨⟨s, l, r⟩, rfl, h⟩ := h
  cases s with
  | true => exact fun p hp => ret (h p hp)
  | false => exact fun p hp => ret (h p hp)
theorem sc_l_sides : FnScope ["_law_literal_here"] ["_law_literal_here"] (defScope (top 61)) := ⟨rfl, rfl, rfl, by decide +kernel, rfl, by decide +kernel, by decide +kernel⟩
theorem c_l_sides (DA : DefAt K mg "_law_sides" (top 61)) : Cal P w K mg base T (k + 1) "_law_sides" (spSides sidesL) := by
  refine dcal DA sc_l_sides (fun _ _ _ _ _ _ us hl => match us, hl with | [_], _ => rfl) (fun f cdv A outer s H E hr =>
    (dss_cons (ds_if (dt_val (d_ix (dv 0 (.inl rfl)) d_int))
      (dss_one (ds_ret (d_lst (da_cons (d_ix (dv 0 (.inl rfl)) d_int) (da_cons (d_ix (dv 0 (.inl rfl)) d_int) da_nil)))))
      dss_nil)
    (dss_one (ds_ret (d_lst (da_cons (d_ix (dv 0 (.inl rfl)) d_int) (da_cons (d_ix (dv 0 (.inl rfl)) d_int) (da_cons (d_ix (dv 0 (.inl rfl)) d_int) (da_cons (d_ix (dv 0 (.inl rfl)) d_int) da_nil))))))))) (fun ds M R h => by obtain ⟨_, rfl, _⟩ := h; rfl) (fun ds M R h => ?_)

  obtain ⟨⟨s, l, r⟩, rfl, h⟩ := h
  cases s with
  | true => exact fun p hp => ret (h p hp)
  | false => exact fun p hp => ret (h p hp)
def spPlaces (n : Nat) : SpD := fun ds M R => ∃ t, ds = [enc t] ∧ t.dep < n ∧ t.size ≤ 900 ∧ ∀ p, M p = none → R (.ob p) (um M p (.lst ((placesT t).map encP)))
theorem sc_places : FnScope ["term", "found", "k", "part", "place", "inner"] ["term"] (defScope (top 30)) := ⟨rfl, rfl, rfl, by decide +kernel, rfl, by decide +kernel, by decide +kernel⟩
theorem c_places (DA : DefAt K mg "places" (top 30)) {n : Nat} (C_is_variable : Cal P w K mg base T k "is_variable" spIsVar) (C_places : Cal P w K mg base T k "places" (spPlaces n)) (m_enumerate : mg "enumerate" = none) : Cal P w K mg base T (k + 1) "places" (spPlaces (n + 1)) := by
  refine dcal DA sc_places (fun _ _ _ _ _ _ us hl => match us, hl with | [_], _ => rfl) (fun f cdv A outer s H E hr =>
    (dss_cons (ds_set (i := 1) sc_places.nd (.inl rfl) (d_lst (da_cons (d_tup (da_cons (d_tup da_nil) (da_cons (dv 0 (.inl rfl)) da_nil))) da_nil)))
    (dss_cons (ds_if (dt_not (dt_val (d_call C_is_variable hr (by rfl) (da_cons (dv 0 (.inl rfl)) da_nil))))
      (dss_one (ds_for PassesOwn.never rfl (di_enu (d_ix (dv 0 (.inl rfl)) d_int) (by rfl) m_enumerate) (dg_tup2 (i := 2) (j := 3) rfl sc_places.nd (.inl rfl) (.inl rfl))
        (dss_one (ds_for PassesOwn.never rfl (di_lst (d_call C_places hr (by rfl) (da_cons (dv 3 (.inl rfl)) da_nil))) (dg_tup2 (i := 4) (j := 5) rfl sc_places.nd (.inl rfl) (.inl rfl))
          (dss_one (ds_expr (d_append (dv 1 (.inl rfl)) (d_tup (da_cons (d_cat (d_tup (da_cons (dv 2 (.inl rfl)) da_nil)) (dv 4 (.inl rfl))) (da_cons (dv 5 (.inl rfl)) da_nil))))))))))
      dss_nil)
    (dss_one (ds_ret (dv 1 (.inl rfl))))))) (fun ds M R h => by obtain ⟨_, rfl, _⟩ := h; rfl) (fun ds M R h => ?_)

  obtain ⟨t, rfl, hd, hz, h⟩ := h
  intro p hp
  refine ⟨t, rfl, ?_⟩
  cases t with
  | var x => exact bI_f rfl (ret (h p hp))
  | app f as =>
    rw [dep_app] at hd
    refine bI_t rfl ?_
    have hlen : ∀ (out : List (List Nat × Tm)) rest, out ++ rest = placesT (.app f as) → out.length + rest.length ≤ 900 := fun out rest e => by
      rw [← List.length_append, e, places_len]; exact hz
    refine for_map (fun q : Tm × Nat => .tup [.int (q.2 : Nat), enc q.1]) (as.zipIdx 0) (by rw [encs_map, enum_map]) (fun pre post r M' => LE M M' ∧ ∃ out o1 o2 o3 o4, M' p = some (.lst (out.map encP)) ∧ out ++ placesZ post = placesT (.app f as) ∧ r = [some (enc (.app f as)), some (.ob p), o1, o2, o3, o4])
      ⟨le_um hp, [([], .app f as)], none, none, none, none, um_same, by rw [placesZ_eq, placesT]; rfl, rfl⟩ (fun _ _ _ _ _ _ => trivial) ?_ ?_
    · rintro pre ⟨u, i⟩ post r M' e ⟨le, out, o1, o2, o3, o4, hq, ho, rfl⟩
      have hu : u ∈ as := by
        have : (u, i) ∈ as.zipIdx 0 := by rw [e]; simp
        exact (List.mem_zipIdx this).2.2 ▸ List.getElem_mem _
      have h1 := dep_mem hu
      have h2 := size_mem hu
      rw [size_app] at hz
      refine ⟨u, rfl, by omega, by omega, fun q hqn => ⟨_, um_same, ?_⟩⟩
      have npq : p ≠ q := mne hq hqn
      rw [placesZ] at ho
      refine for_map encP (placesT u) rfl (fun pre2 post2 r M3 => LE M M3 ∧ M3 q = some (.lst ((placesT u).map encP)) ∧ M3 p = some (.lst ((out ++ pre2.map fun z => (i :: z.1, z.2)).map encP)) ∧ ∃ o3 o4, r = [some (enc (.app f as)), some (.ob p), some (.int (i : Nat)), some (enc u), o3, o4])
        ⟨le.trans (le_um hqn), um_same, by rw [um_ne npq, hq]; simp, o3, o4, rfl⟩ (fun _ _ _ _ _ ⟨_, e, _⟩ => e) ?_ ?_
      · rintro pre2 ⟨pl, v⟩ post2 r M3 e2 ⟨le3, q3, p3, o3, o4, rfl⟩
        have hl := hlen out _ ho
        have hl3 : (placesT u).length = pre2.length + (post2.length + 1) := by rw [e2]; simp
        rw [List.length_append, List.length_map] at hl
        refine ⟨p, _, rfl, p3, ⟨?_, ⟨_, p3, ?_, ⟨_, LE.refl _, ?_⟩⟩⟩⟩
        · show 1 + (pl.map fun i : Nat => D.int (i : Nat)).length ≤ 1000
          rw [List.length_map]
          have := places_dep u pl v (by rw [e2]; simp)
          have := dep_size u
          omega
        · rw [List.length_map, List.length_append, List.length_map]; omega
        · refine ⟨le3.upd hp, by rw [um_ne (Ne.symm npq)]; exact q3, ?_, _, _, rfl⟩
          rw [um_same, List.map_append (l₁ := pre2), ← List.append_assoc, List.map_append (l₂ := List.map _ [(pl, v)])]
          rfl
      · rintro r M3 ⟨le3, q3, p3, o3, o4, rfl⟩
        refine ⟨_, LE.refl _, le3, _, _, _, _, _, p3, ?_, rfl⟩
        rw [← ho, List.append_assoc]
    · rintro r M' ⟨le, out, o1, o2, o3, o4, hq, ho, rfl⟩
      rw [placesZ, List.append_nil] at ho
      rw [ho] at hq
      exact ⟨_, le.at hq, h p hp⟩
end
end My
set_option maxHeartbeats 4000000
/-! F5: places, matching, sorts. -/
namespace My
open PySem PySem.Spec PyProof.Rows L2
theorem get_at {as : List Tm} {i : Nat} {a : Tm} (h : as[i]? = some a) : atI (encs as) ((i : Nat) : Int) = some (enc a) := atI_nat (by rw [encs_get, h]; rfl)
theorem at_zero (d : D) (ds : List D) : atI (d :: ds) 0 = some d := by
  unfold atI ixN
  rw [if_pos (Int.le_refl 0), if_pos (by rw [List.length_cons]; omega)]
  rfl
def encPl (pl : List Nat) : D := .tup (pl.map fun i : Nat => .int (i : Nat))
mutual
def isInd : Tm → Bool
  | .var _ => true
  | .app f as => (decide (f.1 = 2) || decide (f.1 = 3)) && isInds as
def isInds : List Tm → Bool
  | [] => true
  | a :: as => isInd a && isInds as
end
theorem isInds_all : ∀ as, isInds as = as.all isInd
  | [] => rfl
  | a :: as => by rw [isInds, isInds_all as, List.all_cons]
def isAtm : Tm → Bool
  | .var _ => false
  | .app f as => !(decide (f.1 = 2) || decide (f.1 = 3)) && isInds as
def tabT : Tm → Tm
  | .var x => .var x
  | .app f as => if f.1 = 1 then .app (1, f.2.1 + 3, 0) as else .app f as
def tabL (L : Lit) : Lit := ⟨L.pos, tabT L.l, L.r⟩
section
variable {P : Program} {w : World} {K : PySem.W.Frag} {mg : Str → Option Value} {base : Heap} {T : List (Addr × Str)} {k : Nat}
def spAt : SpD := fun ds M R => ∃ t pl u, ds = [enc t, encPl pl] ∧ atT t pl = some u ∧ R (enc u) M
theorem sc_at : FnScope ["term", "place", "here", "step"] ["term", "place"] (defScope (top 31)) := ⟨rfl, rfl, rfl, by decide +kernel, rfl, by decide +kernel, by decide +kernel⟩
theorem c_at (DA : DefAt K mg "at" (top 31)) (C_is_variable : Cal P w K mg base T k "is_variable" spIsVar) (m_len : mg "len" = none) : Cal P w K mg base T (k + 1) "at" spAt := by
  refine dcal DA sc_at (fun _ _ _ _ _ _ us hl => match us, hl with | [_, _], _ => rfl) (fun f cdv A outer s H E hr =>
    (dss_cons (ds_set (i := 2) sc_at.nd (.inl rfl) (dv 0 (.inl rfl)))
    (dss_cons (ds_for PassesOwn.never rfl (di_tup (dv 1 (.inl rfl))) (dg_name (i := 3) sc_at.nd (.inl rfl))
      (dss_cons (ds_if (PW.pt (dw_or (dt_val (d_call C_is_variable hr (by rfl) (da_cons (dv 2 (.inl rfl)) da_nil))) (dw_or (dt_lt (dv 3 (.inl rfl)) d_int) (dw_or1 (dt_ge (dv 3 (.inl rfl)) (d_len (d_ix (dv 2 (.inl rfl)) d_int) (hg := by rfl) (hm := m_len)))))))
        (dss_one (ds_ret d_non))
        dss_nil)
      (dss_one (ds_set (i := 2) sc_at.nd (.inl rfl) (d_ix (d_ix (dv 2 (.inl rfl)) d_int) (dv 3 (.inl rfl)))))))
    (dss_one (ds_ret (dv 2 (.inl rfl))))))) (fun ds M R h => by obtain ⟨_, _, _, rfl, _⟩ := h; rfl) (fun ds M R h => ?_)

  obtain ⟨t, pl, u, rfl, hu, h⟩ := h
  refine for_map (fun i : Nat => D.int (i : Nat)) pl rfl (fun pre post r M' => M' = M ∧ ∃ v o, atT v post = some u ∧ r = [some (enc t), some (encPl pl), some (enc v), o]) ⟨rfl, t, none, hu, rfl⟩ (fun _ _ _ _ _ _ => trivial) ?_ ?_
  · rintro pre i post r M' e ⟨rfl, v, o, hv, rfl⟩
    refine ⟨v, rfl, ?_⟩
    cases v with
    | var x => rw [atT] at hv; cases hv
    | app f as =>
      rw [atT] at hv
      cases e1 : as[i]? with
      | none => rw [e1] at hv; cases hv
      | some a =>
        rw [e1] at hv
        obtain ⟨hi, _⟩ := List.getElem?_eq_some_iff.mp e1
        refine bI_f rfl (bI_i (fun e => absurd (of_decide_eq_true e) (by rw [encs_len]; omega)) (fun _ => ?_))
        show mIx (.tup (encs as)) (.int (i : Nat)) M' _
        refine mIx_at (get_at e1) ⟨_, LE.refl _, rfl, a, _, hv, rfl⟩
  · rintro r M' ⟨rfl, v, o, hv, rfl⟩
    rw [atT] at hv
    cases hv
    exact ret h
def spPutIn (n : Nat) : SpD := fun ds M R => ∃ t pl u v, ds = [enc t, encPl pl, enc u] ∧ atT t pl = some v ∧ pl.length < n ∧ t.size ≤ 900 ∧ R (enc (putT t pl u)) M
theorem sc_put_inside : FnScope ["term", "place", "new", "step", "parts"] ["term", "place", "new"] (defScope (top 32)) := ⟨rfl, rfl, rfl, by decide +kernel, rfl, by decide +kernel, by decide +kernel⟩
theorem c_put_inside (DA : DefAt K mg "put_inside" (top 32)) {n : Nat} (C_put_inside : Cal P w K mg base T k "put_inside" (spPutIn n)) (m_list : mg "list" = none) (m_tuple : mg "tuple" = none) : Cal P w K mg base T (k + 1) "put_inside" (spPutIn (n + 1)) := by
  refine dcal DA sc_put_inside (fun _ _ _ _ _ _ us hl => match us, hl with | [_, _, _], _ => rfl) (fun f cdv A outer s H E hr =>
    (dss_cons (ds_if (dt_not (dt_tru (dv 1 (.inl rfl))))
      (dss_one (ds_ret (dv 2 (.inl rfl))))
      dss_nil)
    (dss_cons (ds_set (i := 3) sc_put_inside.nd (.inl rfl) (d_ix (dv 1 (.inl rfl)) d_int))
    (dss_cons (ds_set (i := 4) sc_put_inside.nd (.inl rfl) (d_toLst (d_ix (dv 0 (.inl rfl)) d_int) (hg := by rfl) (hm := m_list)))
    (dss_cons (ds_lput (dv 4 (.inl rfl)) (dv 3 (.inl rfl)) (d_call C_put_inside hr (by rfl) (da_cons (d_ix (dv 4 (.inl rfl)) (dv 3 (.inl rfl))) (da_cons (d_slice (dv 1 (.inl rfl)) (do_some d_int) do_none) (da_cons (dv 2 (.inl rfl)) da_nil)))))
    (dss_one (ds_ret (d_tup (da_cons (d_ix (dv 0 (.inl rfl)) d_int) (da_cons (d_toTup (dv 4 (.inl rfl)) (hg := by rfl) (hm := m_tuple)) da_nil)))))))))) (fun ds M R h => by obtain ⟨_, _, _, _, rfl, _⟩ := h; rfl) (fun ds M R h => ?_)

  obtain ⟨t, pl, u, v, rfl, hv, hl, hz, h⟩ := h
  cases pl with
  | nil =>
    rw [putT] at h
    exact ret h
  | cons i pl =>
    cases t with
    | var x => rw [atT] at hv; cases hv
    | app f as =>
      rw [atT] at hv
      rw [putT] at h
      rw [size_app] at hz
      cases e1 : as[i]? with
      | none => rw [e1] at hv; cases hv
      | some a =>
        rw [e1] at hv h
        obtain ⟨hi, ea⟩ := List.getElem?_eq_some_iff.mp e1
        have ha : a ∈ as := by rw [← ea]; exact List.getElem_mem hi
        show mIx (.tup ((i :: pl).map fun i : Nat => D.int (i : Nat))) (.int 0) M _
        refine mIx_at (at_zero _ _) (fun p hp => ?_)
        refine ⟨encs as, enc a, um_same, get_at e1, ?_⟩
        have ec : (D.tup (cutD ((i :: pl).map fun i : Nat => D.int (i : Nat)) (some 1) none)) = encPl pl := by rw [List.map_cons, cut_tl]; rfl
        refine ⟨a, pl, u, v, ?_, hv, by simpa using hl, by have := size_mem ha; omega, ?_⟩
        · rw [← ec]
        refine ⟨p, _, encs as, i, rfl, rfl, um_same, by unfold ixN; rw [if_pos (by omega), if_pos (by rw [encs_len]; omega)]; simp, ?_⟩
        rw [um_um, encs_set]
        refine ⟨_, um_same, M, le_um hp, ret ?_⟩
        exact h
def spPutAt : SpD := fun ds M R => ∃ t pl u v, ds = [enc t, encPl pl, enc u] ∧ atT t pl = some v ∧ pl.length < 20 ∧ t.size ≤ 900 ∧ R (enc (putT t pl u)) M
theorem sc_put_at : FnScope ["term", "place", "new"] ["term", "place", "new"] (defScope (top 33)) := ⟨rfl, rfl, rfl, by decide +kernel, rfl, by decide +kernel, by decide +kernel⟩
theorem c_put_at (DA : DefAt K mg "put_at" (top 33)) (C_at : Cal P w K mg base T k "at" spAt) (C_put_inside : Cal P w K mg base T k "put_inside" (spPutIn 20)) : Cal P w K mg base T (k + 1) "put_at" spPutAt := by
  refine dcal DA sc_put_at (fun _ _ _ _ _ _ us hl => match us, hl with | [_, _, _], _ => rfl) (fun f cdv A outer s H E hr =>
    (dss_cons (ds_if (dt_isN (d_call C_at hr (by rfl) (da_cons (dv 0 (.inl rfl)) (da_cons (dv 1 (.inl rfl)) da_nil))) d_non)
      (dss_one (ds_ret (dv 0 (.inl rfl))))
      dss_nil)
    (dss_one (ds_ret (d_call C_put_inside hr (by rfl) (da_cons (dv 0 (.inl rfl)) (da_cons (dv 1 (.inl rfl)) (da_cons (dv 2 (.inl rfl)) da_nil)))))))) (fun ds M R h => by obtain ⟨_, _, _, _, rfl, _⟩ := h; rfl) (fun ds M R h => ?_)

  obtain ⟨t, pl, u, v, rfl, hv, hl, hz, h⟩ := h
  refine ⟨t, pl, v, rfl, hv, ?_⟩
  refine bI_f (isNon_enc v) ⟨t, pl, u, v, rfl, hv, hl, hz, ret h⟩
def spExt (n : Nat) : SpD := fun ds M R => ∃ t u a σ, ds = [enc t, enc u, .ob a] ∧ M a = some (.dI (encS σ)) ∧ t.dep < n ∧ t.dep < 20 ∧ u.dep < 20 ∧ (∀ p ∈ σ, p.2.dep < 20) ∧ σ.length + t.size ≤ 900 ∧ R (.bl (ext t u σ).1) (um M a (.dI (encS (ext t u σ).2)))
theorem um_id {M : Mp} {a : Addr} {o : MO} (h : M a = some o) : um M a o = M := by
  funext b; unfold um; split
  · rename_i z; rw [z, h]
  · rfl
theorem sbv_mem {σ : Sb} {x : Int} {u : Tm} (h : sbv σ x = some u) : (x, u) ∈ σ := by
  unfold sbv at h
  obtain ⟨p, h1, h2⟩ := Option.map_eq_some_iff.mp h
  have := List.find?_some h1
  have h3 := List.mem_of_find?_eq_some h1
  have e : p.1 = x := by simpa using this
  rw [← h2, ← e]; exact h3
mutual
theorem ext_dep {n : Nat} : ∀ (t u : Tm) (σ : Sb), u.dep < n → (∀ p ∈ σ, p.2.dep < n) → ∀ p ∈ (ext t u σ).2, p.2.dep < n
  | .var x, u, σ, hu, hs, p, hp => by
    rw [ext] at hp
    cases e : sbv σ x with
    | some v => rw [e] at hp; exact hs p hp
    | none =>
      rw [e] at hp
      rcases List.mem_append.mp hp with z | z
      · exact hs p z
      · rw [List.mem_singleton] at z; rw [z]; exact hu
  | .app f as, .var y, σ, hu, hs, p, hp => by rw [ext] at hp; exact hs p hp
  | .app f as, .app g bs, σ, hu, hs, p, hp => by
    rw [ext] at hp
    split at hp
    · rw [dep_app] at hu
      exact exts_dep as bs σ (by omega) hs p hp
    · exact hs p hp
theorem exts_dep {n : Nat} : ∀ (as bs : List Tm) (σ : Sb), Tm.deps bs < n → (∀ p ∈ σ, p.2.dep < n) → ∀ p ∈ (exts as bs σ).2, p.2.dep < n
  | [], bs, σ, hu, hs, p, hp => by rw [exts] at hp; exact hs p hp; intros; simp_all
  | a :: as, [], σ, hu, hs, p, hp => by rw [exts] at hp; exact hs p hp; intros; simp_all
  | a :: as, b :: bs, σ, hu, hs, p, hp => by
    rw [exts] at hp
    rw [Tm.deps] at hu
    have h := ext_dep (n := n) a b σ (by omega) hs
    cases e : ext a b σ with
    | mk c σ' =>
      rw [e] at h hp
      cases c with
      | true => exact exts_dep as bs σ' (by omega) h p hp
      | false => exact h p hp
end
theorem sc_extends : FnScope ["pattern", "term", "found", "one", "other"] ["pattern", "term", "found"] (defScope (top 35)) := ⟨rfl, rfl, rfl, by decide +kernel, rfl, by decide +kernel, by decide +kernel⟩
theorem c_extends (DA : DefAt K mg "extends" (top 35)) {n : Nat} (C_is_variable : Cal P w K mg base T k "is_variable" spIsVar) (C_extends : Cal P w K mg base T k "extends" (spExt n)) (m_len : mg "len" = none) (m_zip : mg "zip" = none) : Cal P w K mg base T (k + 1) "extends" (spExt (n + 1)) := by
  refine dcal DA sc_extends (fun _ _ _ _ _ _ us hl => match us, hl with | [_, _, _], _ => rfl) (fun f cdv A outer s H E hr =>
    (dss_cons (ds_if (dt_val (d_call C_is_variable hr (by rfl) (da_cons (dv 0 (.inl rfl)) da_nil)))
      (dss_cons (ds_if (dt_din (hu_of hr) (dv 0 (.inl rfl)) (dv 2 (.inl rfl)))
        (dss_one (ds_ret (d_eq hr.units (d_dget (hu_of hr) (dv 2 (.inl rfl)) (dv 0 (.inl rfl))) (dv 1 (.inl rfl)))))
        dss_nil)
      (dss_cons (ds_dput (hu_of hr) (dv 2 (.inl rfl)) (dv 0 (.inl rfl)) (dv 1 (.inl rfl)))
      (dss_one (ds_ret d_bl))))
      dss_nil)
    (dss_cons (ds_if (PW.pt (dw_or (dt_val (d_call C_is_variable hr (by rfl) (da_cons (dv 1 (.inl rfl)) da_nil))) (dw_or (dt_ne hr.units (d_ix (dv 0 (.inl rfl)) d_int) (d_ix (dv 1 (.inl rfl)) d_int)) (dw_or1 (dt_ine (d_len (d_ix (dv 0 (.inl rfl)) d_int) (hg := by rfl) (hm := m_len)) (d_len (d_ix (dv 1 (.inl rfl)) d_int) (hg := by rfl) (hm := m_len)))))))
      (dss_one (ds_ret d_bl))
      dss_nil)
    (dss_cons (ds_for PassesOwn.never rfl (di_zip (d_ix (dv 0 (.inl rfl)) d_int) (d_ix (dv 1 (.inl rfl)) d_int) (by rfl) m_zip) (dg_tup2 (i := 3) (j := 4) rfl sc_extends.nd (.inl rfl) (.inl rfl))
      (dss_one (ds_if (dt_not (dt_val (d_call C_extends hr (by rfl) (da_cons (dv 3 (.inl rfl)) (da_cons (dv 4 (.inl rfl)) (da_cons (dv 2 (.inl rfl)) da_nil))))))
        (dss_one (ds_ret d_bl))
        dss_nil)))
    (dss_one (ds_ret d_bl)))))) (fun ds M R h => by obtain ⟨_, _, _, _, rfl, _⟩ := h; rfl) (fun ds M R h => ?_)

  obtain ⟨t, u, a, σ, rfl, ha, hd, hd2, hu, hσ, hz, h⟩ := h
  refine ⟨t, rfl, ?_⟩
  cases t with
  | var x =>
    rw [ext] at h
    have ev := vD_encS σ x
    refine bI_t rfl ⟨a, _, rfl, .inl ⟨encS σ, x, ha, rfl, rfl⟩, ?_⟩
    cases es : sbv σ x with
    | some v =>
      rw [es] at h ev
      refine bI_t (by rw [ev]; rfl) ⟨a, enc v, rfl, .inl ⟨encS σ, x, ha, rfl, ev.symm⟩, ?_⟩
      refine ⟨flat64 (hσ _ (sbv_mem es)), flat64 hu, ?_⟩
      rw [deq_enc]
      have h' : R (.bl (decide (v = u))) (um M a (.dI (encS σ))) := h
      rw [um_id ha] at h'
      exact ret h'
    | none =>
      rw [es] at h ev
      refine bI_f (by rw [ev]; rfl) ⟨a, _, rfl, .inl ⟨encS σ, x, ha, rfl, ?_, rfl⟩, ?_⟩
      · unfold encS; rw [List.length_map]; omega
      · rw [pD_encS es]; exact ret h
  | app f as =>
    refine bI_f rfl ⟨u, rfl, ?_⟩
    cases u with
    | var y =>
      rw [ext] at h
      have h' : R (.bl false) (um M a (.dI (encS σ))) := h
      rw [um_id ha] at h'
      exact bI_t rfl (bI_t rfl (ret h'))
    | app g bs =>
      rw [ext] at h
      refine bI_f rfl ⟨?_, ?_, ?_⟩
      · exact flat_sym _ _
      · exact flat_sym _ _
      have eq1 : (!deq (esym f) (esym g)) = decide (¬ f = g) := by rw [deq_sym]; simp
      refine bI_i (fun e1 => ?_) (fun e1 => ?_)
      · replace e1 := eq1.symm.trans e1
        rw [if_neg (fun z => (of_decide_eq_true e1) z.1)] at h
        have h' : R (.bl false) (um M a (.dI (encS σ))) := h
        rw [um_id ha] at h'
        exact ret h'
      · replace e1 := eq1.symm.trans e1
        have e2 : f = g := by simpa using e1
        refine bI_i (fun e3 => ?_) (fun e3 => ?_)
        · rw [encs_len, encs_len] at e3
          have e4 : ¬ as.length = bs.length := by
            intro z; rw [z] at e3; simp at e3
          rw [if_neg (fun z => e4 z.2)] at h
          have h' : R (.bl false) (um M a (.dI (encS σ))) := h
          rw [um_id ha] at h'
          exact ret h'
        · rw [encs_len, encs_len] at e3
          have e4 : as.length = bs.length := by
            have e5 : (as.length : Int) = bs.length := by simpa using e3
            omega
          rw [if_pos ⟨e2, e4⟩] at h
          rw [dep_app] at hd hd2 hu
          rw [size_app] at hz
          have hsz : Tm.sizes as = Tm.sizes ((as.zip bs).map (·.1)) := by rw [List.map_fst_zip (by omega)]
          refine for_map (fun p : Tm × Tm => .tup [enc p.1, enc p.2]) (as.zip bs) (zip_encs as bs) (fun pre post r M' => ∃ σ', M' = um M a (.dI (encS σ')) ∧ extz post σ' = exts as bs σ ∧ (∀ p ∈ σ', p.2.dep < 20) ∧ σ'.length + Tm.sizes (post.map (·.1)) ≤ 900 ∧
            ∃ o1 o2, r = [some (enc (.app f as)), some (enc (.app g bs)), some (.ob a), o1, o2]) ⟨σ, (um_id ha).symm, extz_eq as bs σ, hσ, by omega, none, none, rfl⟩ (fun _ _ _ _ _ _ => trivial) ?_ ?_
          · rintro pre ⟨x, y⟩ post r M' e ⟨σ', rfl, hx, hσ', hz', o1, o2, rfl⟩
            have hm : (x, y) ∈ as.zip bs := by rw [e]; simp
            have hx1 := dep_mem (List.of_mem_zip hm).1
            have hy1 := dep_mem (List.of_mem_zip hm).2
            rw [List.map_cons, Tm.sizes] at hz'
            simp only at hz'
            refine ⟨x, y, a, σ', rfl, um_same, by omega, by omega, by omega, hσ', by omega, ?_⟩
            rw [um_um]
            rw [extz] at hx
            have hde := ext_dep (n := 20) x y σ' (by omega) hσ'
            have hle := ext_len x y σ'
            cases e5 : ext x y σ' with
            | mk c σ2 =>
              rw [e5] at hx hde hle
              cases c with
              | false =>
                have hx' : (false, σ2) = exts as bs σ := hx
                rw [← hx'] at h
                exact ret h
              | true =>
                have hx' : extz post σ2 = exts as bs σ := hx
                simp only at hle
                exact ⟨_, LE.refl _, σ2, rfl, hx', hde, by omega, _, _, rfl⟩
          · rintro r M' ⟨σ', rfl, hx, hσ', hz', o1, o2, rfl⟩
            rw [extz] at hx
            rw [← hx] at h
            exact ret h
def spMatch : SpD := fun ds M R => ∃ t u a σ, ds = [enc t, enc u, .ob a] ∧ M a = some (.dI (encS σ)) ∧ t.dep < 16 ∧ u.dep < 16 ∧ (∀ p ∈ σ, p.2.dep < 20) ∧ σ.length + t.size ≤ 900 ∧ ((ext t u σ).1 = true → ∀ q, M q = none → R (.ob q) (um M q (.dI (encS (ext t u σ).2)))) ∧ ((ext t u σ).1 = false → R .non M)
theorem sc_match : FnScope ["pattern", "term", "told", "found"] ["pattern", "term", "told"] (defScope (top 36)) := ⟨rfl, rfl, rfl, by decide +kernel, rfl, by decide +kernel, by decide +kernel⟩
theorem c_match (DA : DefAt K mg "match" (top 36)) (C_extends : Cal P w K mg base T k "extends" (spExt 16)) (m_dict : mg "dict" = none) : Cal P w K mg base T (k + 1) "match" spMatch := by
  refine dcal DA sc_match (fun _ _ _ _ _ _ us hl => match us, hl with | [_, _, _], _ => rfl) (fun f cdv A outer s H E hr =>
    (dss_cons (ds_set (i := 3) sc_match.nd (.inl rfl) (d_toDct (dv 2 (.inl rfl)) (hg := by rfl) (hm := m_dict)))
    (dss_cons (ds_if (dt_val (d_call C_extends hr (by rfl) (da_cons (dv 0 (.inl rfl)) (da_cons (dv 1 (.inl rfl)) (da_cons (dv 3 (.inl rfl)) da_nil)))))
      (dss_one (ds_ret (dv 3 (.inl rfl))))
      dss_nil)
    (dss_one (ds_ret d_non))))) (fun ds M R h => by obtain ⟨_, _, _, _, rfl, _⟩ := h; rfl) (fun ds M R h => ?_)

  obtain ⟨t, u, a, σ, rfl, ha, hd, hu, hσ, hz, h1, h2⟩ := h
  refine ⟨a, encS σ, rfl, ha, fun p hp => ⟨t, u, p, σ, rfl, um_same, hd, by omega, by omega, hσ, hz, ?_⟩⟩
  rw [um_um]
  cases e : ext t u σ with
  | mk c σ' =>
    rw [e] at h1 h2
    cases c with
    | true => exact ret (h1 rfl p hp)
    | false => exact ⟨M, le_um hp, h2 rfl⟩
def spTab : SpD := fun ds M R => ∃ L, ds = [encL L] ∧ R (encL (tabL L)) M
theorem sc_l_tabled : FnScope ["_law_literal_here", "_law_left"] ["_law_literal_here"] (defScope (top 75)) := ⟨rfl, rfl, rfl, by decide +kernel, rfl, by decide +kernel, by decide +kernel⟩
theorem c_l_tabled (DA : DefAt K mg "_law_tabled" (top 75)) (C_l_is_variable : Cal P w K mg base T k "_law_is_variable" spIsVar) : Cal P w K mg base T (k + 1) "_law_tabled" spTab := by
  refine dcal DA sc_l_tabled (fun _ _ _ _ _ _ us hl => match us, hl with | [_], _ => rfl) (fun f cdv A outer s H E hr =>
    (dss_cons (ds_set (i := 1) sc_l_tabled.nd (.inl rfl) (d_ix (dv 0 (.inl rfl)) d_int))
    (dss_cons (ds_if (PW.pt (dw_and (dt_not (dt_val (d_call C_l_is_variable hr (by rfl) (da_cons (dv 1 (.inl rfl)) da_nil)))) (dw_and1 (dt_ieq (d_ix (d_ix (dv 1 (.inl rfl)) d_int) d_int) d_int))))
      (dss_one (ds_set (i := 1) sc_l_tabled.nd (.inl rfl) (d_tup (da_cons (d_tup (da_cons d_int (da_cons (d_add (d_ix (d_ix (dv 1 (.inl rfl)) d_int) d_int) d_int) (da_cons d_int da_nil)))) (da_cons (d_ix (dv 1 (.inl rfl)) d_int) da_nil)))))
      dss_nil)
    (dss_one (ds_ret (d_tup (da_cons (d_ix (dv 0 (.inl rfl)) d_int) (da_cons (dv 1 (.inl rfl)) (da_cons (d_ix (dv 0 (.inl rfl)) d_int) da_nil))))))))) (fun ds M R h => by obtain ⟨_, rfl, _⟩ := h; rfl) (fun ds M R h => ?_)

  obtain ⟨⟨s, l, r⟩, rfl, h⟩ := h
  refine ⟨l, rfl, ?_⟩
  cases l with
  | var x => exact ret h
  | app f as =>
    unfold tabL at h
    simp only [tabT] at h
    refine bI_t rfl (bI_i (fun e => ?_) (fun e => ?_))
    · have e1 : f.1 = 1 := of_decide_eq_true e
      rw [if_pos e1] at h
      exact ret h
    · have e1 : ¬ f.1 = 1 := of_decide_eq_false e
      rw [if_neg e1] at h
      exact ret h
def spInd (n : Nat) : SpD := fun ds M R => ∃ t, ds = [enc t] ∧ t.dep < n ∧ t.size ≤ 900 ∧ R (.bl (isInd t)) M
theorem sc_l_is_individual : FnScope ["_law_term_here", "_law_part_here"] ["_law_term_here"] (defScope (top 76)) := ⟨rfl, rfl, rfl, by decide +kernel, rfl, by decide +kernel, by decide +kernel⟩
theorem c_l_is_individual (DA : DefAt K mg "_law_is_individual" (top 76)) {n : Nat} (C_l_is_variable : Cal P w K mg base T k "_law_is_variable" spIsVar) (C_l_is_individual : Cal P w K mg base T k "_law_is_individual" (spInd n)) (m_all : mg "all" = none) : Cal P w K mg base T (k + 1) "_law_is_individual" (spInd (n + 1)) := by
  refine dcal DA sc_l_is_individual (fun _ _ _ _ _ _ us hl => match us, hl with | [_], _ => rfl) (fun f cdv A outer s H E hr =>
    (dss_cons (ds_if (dt_val (d_call C_l_is_variable hr (by rfl) (da_cons (dv 0 (.inl rfl)) da_nil)))
      (dss_one (ds_ret d_bl))
      dss_nil)
    (dss_cons (ds_if (PW.pt (dw_and (dt_ine (d_ix (d_ix (dv 0 (.inl rfl)) d_int) d_int) d_int) (dw_and1 (dt_ine (d_ix (d_ix (dv 0 (.inl rfl)) d_int) d_int) d_int))))
      (dss_one (ds_ret d_bl))
      dss_nil)
    (dss_one (ds_ret (d_all (d_lc (i := 1) rfl sc_l_is_individual.nd (di_tup (d_ix (dv 0 (.inl rfl)) d_int)) (blkOk_by (by rfl)) (fun _ _ _ _ _ => pg_name (i := 1) sc_l_is_individual.nd rfl (.inl rfl)) (fun _ _ _ _ _ => dts_nil) (fun _ _ _ _ _ => (d_call C_l_is_individual hr (by rfl) (da_cons (dv 1 (.inl rfl)) da_nil)))) (hg := by rfl) (hm := m_all))))))) (fun ds M R h => by obtain ⟨_, rfl, _⟩ := h; rfl) (fun ds M R h => ?_)

  obtain ⟨t, rfl, hd, hz, h⟩ := h
  refine ⟨t, rfl, ?_⟩
  cases t with
  | var x => exact bI_t rfl (ret h)
  | app f as =>
    rw [isInd] at h
    rw [dep_app] at hd
    rw [size_app] at hz
    have fin : (decide (f.1 = 2) || decide (f.1 = 3)) = true → ∀ p, M p = none → lcD ⟨encs as, fun _ => True⟩ 1 tYesD (tCallD (spInd n) (tConsD (tVarD 1) tNilD)) p [some (enc (.app f as)), none] M (fun d M1 => mAll d M1 (endD R).rt) := fun hc p hp => by
      rw [hc, Bool.true_and, isInds_all] at h
      have hl := length_sizes as
      refine lc_gmap enc as (fun a => .bl (isInd a)) (encs_map as) hp (fun _ _ => trivial) (by omega) (fun u hu M1 l R' h' => ?_) ⟨p, as.map isInd, rfl, ?_, M, le_um hp, ?_⟩
      · exact ⟨u, rfl, by have := dep_mem hu; omega, by have := size_mem hu; omega, h'⟩
      · rw [um_same, List.map_map]; rfl
      · rw [List.all_map]; exact ret h
    refine bI_f rfl (bI_i (fun e => ?_) (fun e => ?_))
    · have e1 : ¬ f.1 = 2 := by simpa using e
      refine bI_i (fun e => ?_) (fun e => ?_)
      · have e2 : ¬ f.1 = 3 := by simpa using e
        rw [decide_eq_false e1, decide_eq_false e2] at h
        exact ret h
      · have e2 : f.1 = 3 := by simpa using e
        exact fin (by rw [decide_eq_true e2, Bool.or_true])
    · have e1 : f.1 = 2 := by simpa using e
      exact fin (by rw [decide_eq_true e1, Bool.true_or])
def spAtm : SpD := fun ds M R => ∃ t, ds = [enc t] ∧ t.dep < 16 ∧ t.size ≤ 900 ∧ R (.bl (isAtm t)) M
theorem sc_l_is_atomic : FnScope ["_law_term_here", "_law_part_here"] ["_law_term_here"] (defScope (top 77)) := ⟨rfl, rfl, rfl, by decide +kernel, rfl, by decide +kernel, by decide +kernel⟩
theorem c_l_is_atomic (DA : DefAt K mg "_law_is_atomic" (top 77)) (C_l_is_variable : Cal P w K mg base T k "_law_is_variable" spIsVar) (C_l_is_individual : Cal P w K mg base T k "_law_is_individual" (spInd 16)) (m_all : mg "all" = none) : Cal P w K mg base T (k + 1) "_law_is_atomic" spAtm := by
  refine dcal DA sc_l_is_atomic (fun _ _ _ _ _ _ us hl => match us, hl with | [_], _ => rfl) (fun f cdv A outer s H E hr =>
    (dss_cons (ds_if (PW.pt (dw_or (dt_val (d_call C_l_is_variable hr (by rfl) (da_cons (dv 0 (.inl rfl)) da_nil))) (dw_or (dt_ieq (d_ix (d_ix (dv 0 (.inl rfl)) d_int) d_int) d_int) (dw_or1 (dt_ieq (d_ix (d_ix (dv 0 (.inl rfl)) d_int) d_int) d_int)))))
      (dss_one (ds_ret d_bl))
      dss_nil)
    (dss_one (ds_ret (d_all (d_lc (i := 1) rfl sc_l_is_atomic.nd (di_tup (d_ix (dv 0 (.inl rfl)) d_int)) (blkOk_by (by rfl)) (fun _ _ _ _ _ => pg_name (i := 1) sc_l_is_atomic.nd rfl (.inl rfl)) (fun _ _ _ _ _ => dts_nil) (fun _ _ _ _ _ => (d_call C_l_is_individual hr (by rfl) (da_cons (dv 1 (.inl rfl)) da_nil)))) (hg := by rfl) (hm := m_all)))))) (fun ds M R h => by obtain ⟨_, rfl, _⟩ := h; rfl) (fun ds M R h => ?_)

  obtain ⟨t, rfl, hd, hz, h⟩ := h
  refine ⟨t, rfl, ?_⟩
  cases t with
  | var x => exact bI_t rfl (ret h)
  | app f as =>
    rw [isAtm] at h
    rw [dep_app] at hd
    rw [size_app] at hz
    refine bI_f rfl (bI_i (fun e => ?_) (fun e => ?_))
    · have e1 : f.1 = 2 := of_decide_eq_true e
      rw [decide_eq_true e1] at h
      exact ret h
    · have e1 : ¬ f.1 = 2 := of_decide_eq_false e
      refine bI_i (fun e => ?_) (fun e => ?_)
      · have e2 : f.1 = 3 := of_decide_eq_true e
        rw [decide_eq_true e2, Bool.or_true] at h
        exact ret h
      · have e2 : ¬ f.1 = 3 := of_decide_eq_false e
        rw [decide_eq_false e1, decide_eq_false e2, isInds_all] at h
        intro p hp
        have hl := length_sizes as
        refine lc_gmap enc as (fun a => .bl (isInd a)) (encs_map as) hp (fun _ _ => trivial) (by omega) (fun u hu M1 l R' h' => ?_) ⟨p, as.map isInd, rfl, ?_, M, le_um hp, ?_⟩
        · exact ⟨u, rfl, by have := dep_mem hu; omega, by have := size_mem hu; omega, h'⟩
        · rw [um_same, List.map_map]; rfl
        · rw [List.all_map]; exact ret h
end
end My
set_option maxHeartbeats 4000000
/-! F6: cleaning, tautologies, parts. -/
namespace My
open PySem PySem.Spec PyProof.Rows L2
theorem lc_gen2 {α : Type} (g1 g2 : α → D) (xs : List α) (b : α → Bool) (h : α → D) {items : List D} {keep : Mp → Prop} {i j : Nat} {tt : TTD} {te : TED} {p : Addr} {r : Rho} {M1 : Mp} {R : VKD} (he : items = xs.map fun a => .tup [g1 a, g2 a]) (n1 : M1 p = none) (hk : ∀ M, LE M1 M → keep M) (hl : xs.length < 1000)
    (ht : ∀ a ∈ xs, ∀ M, LE M1 M → ∀ R', R' (b a) M → tt ((r.set i (some (g1 a))).set j (some (g2 a))) M R') (hf : ∀ a ∈ xs, b a = true → ∀ M, LE M1 M → ∀ R' : VKD, R' (h a) M → te ((r.set i (some (g1 a))).set j (some (g2 a))) M R')
    (hd : R (.ob p) (um M1 p (.lst ((xs.filter b).map h)))) : lcD2 ⟨items, keep⟩ i j tt te p r M1 R := by
  subst he
  refine ⟨fun pre post out M => (∃ a c, xs = a ++ c ∧ pre = (a.map fun a => .tup [g1 a, g2 a]) ∧ post = (c.map fun a => .tup [g1 a, g2 a]) ∧ out = (a.filter b).map h) ∧ M = um M1 p (.lst out), ⟨⟨[], xs, rfl, rfl, rfl, rfl⟩, rfl⟩, ?_, ?_, ?_⟩
  · rintro pre post out M e ⟨_, rfl⟩
    exact ⟨hk _ (le_um n1), um_same⟩
  · rintro pre d post out M e ⟨⟨a, c, e1, e2, e3, e4⟩, rfl⟩
    cases c with
    | nil => simp at e3
    | cons y c =>
      simp only [List.map_cons, List.cons.injEq] at e3
      obtain ⟨e3, e3'⟩ := e3
      subst e3
      have hm : y ∈ xs := by rw [e1]; simp
      refine ⟨_, _, rfl, ht y hm _ (le_um n1) _ ?_⟩
      have hlen : out.length < 1000 := by
        rw [e4, List.length_map]
        refine Nat.lt_of_le_of_lt (List.length_filter_le _ _) (Nat.lt_of_le_of_lt ?_ hl)
        rw [e1]; simp
      cases hb : b y with
      | false =>
        refine bI_f rfl ⟨⟨a ++ [y], c, by rw [e1]; simp, by rw [e2]; simp, e3', ?_⟩, rfl⟩
        rw [e4, List.filter_append, List.filter_cons, hb]; simp
      | true =>
        refine bI_t rfl (hf y hm hb _ (le_um n1) _ ?_)
        refine ⟨um_same, hlen, ⟨⟨a ++ [y], c, by rw [e1]; simp, by rw [e2]; simp, e3', ?_⟩, um_um⟩⟩
        rw [e4, List.filter_append, List.filter_cons, hb]; simp
  · rintro out M ⟨⟨a, c, e1, e2, e3, e4⟩, rfl⟩
    have hc : c = [] := by cases c with
      | nil => rfl
      | cons y c => simp at e3
    subst hc
    have ha : xs = a := by simpa using e1
    subst ha
    rw [e4]
    exact hd
theorem cut_from (ds : List D) (n : Nat) : cutD ds (some (n : Int)) none = ds.drop n := by
  unfold cutD
  rw [HT.sIx_nat, HT.sIx_none]
  by_cases h : n ≤ ds.length
  · rw [Nat.min_eq_left h]
    apply List.take_of_length_le
    simp
  · rw [Nat.min_eq_right (by omega), List.drop_eq_nil_of_le (Nat.le_refl _), List.drop_eq_nil_of_le (by omega)]; simp
theorem cut_to (ds : List D) (n : Nat) : cutD ds none (some (n : Int)) = ds.take n := by
  unfold cutD
  rw [HT.sIx_nat, HT.sIx_none]
  rw [List.drop_zero, Nat.sub_zero]
  by_cases h : n ≤ ds.length
  · rw [Nat.min_eq_left h]
  · rw [Nat.min_eq_right (by omega), List.take_of_length_le (Nat.le_refl _), List.take_of_length_le (by omega)]
theorem get_C {c : Cl} {k : Nat} {L : Lit} (h : c[k]? = some L) : atI (c.map encL) ((k : Nat) : Int) = some (encL L) := atI_nat (by rw [List.getElem?_map, h]; rfl)
def CD (n : Nat) (c : Cl) : Prop := ∀ L ∈ c, LD n L
noncomputable def isNeeded (L : Lit) (rest : Cl) : Bool := !(!L.pos && decide (L.l = L.r)) && !(rest.any fun L' => sameL L L')
noncomputable def cleanC : Cl → Cl
  | [] => []
  | L :: c => if isNeeded L c = true then L :: cleanC c else cleanC c
noncomputable def pairB (i j : Nat) (a b : Lit) : Bool := if i = j then a.pos && decide (a.l = a.r) else !decide (a.pos = b.pos) && sameS a b
def stA (L : Lit) : Bool := L.l.isAtom || L.r.isAtom
noncomputable def mS (l r l' r' : Tm) (σ : Sb) : Option Sb := match ext l l' σ with
  | (true, σ1) => (match ext r r' σ1 with
    | (true, σ2) => some σ2
    | (false, _) => none)
  | (false, _) => none
noncomputable def waysT (L L' : Lit) (σ : Sb) : List Sb :=
  if L.pos = L'.pos ∧ stA L = stA L' then (mS L.l L.r L'.l L'.r σ).toList ++ (mS L.l L.r L'.r L'.l σ).toList else []
def Emb (d : Cl) : List Lit → List Nat → Sb → Prop
  | [], _, _ => True
  | L :: ls, used, σ => ∃ j L', d[j]? = some L' ∧ j ∉ used ∧ ∃ σ' ∈ waysT L L' σ, Emb d ls (used ++ [j]) σ'
def PartOf (c d : Cl) : Prop := c.length ≤ d.length ∧ Emb d c [] []
def LZ (z : Nat) (L : Lit) : Prop := L.l.size ≤ z ∧ L.r.size ≤ z
def CZ (z : Nat) (c : Cl) : Prop := ∀ L ∈ c, LZ z L
theorem cleaned_eq (c : Cl) : ∀ (pre rest : Cl), c = pre ++ rest → ((rest.zipIdx pre.length).filter fun p => isNeeded p.1 (c.drop (p.2 + 1))).map (fun p => encL p.1) = (cleanC rest).map encL
  | pre, [], e => rfl
  | pre, L :: rest, e => by
    have ih := cleaned_eq c (pre ++ [L]) rest (by rw [e]; simp)
    have hl : (pre ++ [L]).length = pre.length + 1 := by simp
    rw [hl] at ih
    have hd : c.drop (pre.length + 1) = rest := by rw [e, ← hl, show pre ++ L :: rest = (pre ++ [L]) ++ rest by simp, List.drop_left]
    rw [List.zipIdx_cons, List.filter_cons, cleanC]
    simp only [hd]
    split
    · rw [List.map_cons, List.map_cons, ih]
    · exact ih
section
variable {P : Program} {w : World} {K : PySem.W.Frag} {mg : Str → Option Value} {base : Heap} {T : List (Addr × Str)} {k : Nat}
def spNeeded : SpD := fun ds M R => ∃ c k L, ds = [encC c, .int (k : Nat)] ∧ c[k]? = some L ∧ CD 16 c ∧ R (.bl (isNeeded L (c.drop (k + 1)))) M
theorem sc_is_needed : FnScope ["clause", "k", "literal", "later"] ["clause", "k"] (defScope (top 43)) := ⟨rfl, rfl, rfl, by decide +kernel, rfl, by decide +kernel, by decide +kernel⟩
theorem c_is_needed (DA : DefAt K mg "is_needed" (top 43)) (C_same : Cal P w K mg base T k "same" spSameL) : Cal P w K mg base T (k + 1) "is_needed" spNeeded := by
  refine dcal DA sc_is_needed (fun _ _ _ _ _ _ us hl => match us, hl with | [_, _], _ => rfl) (fun f cdv A outer s H E hr =>
    (dss_cons (ds_set (i := 2) sc_is_needed.nd (.inl rfl) (d_ix (dv 0 (.inl rfl)) (dv 1 (.inl rfl))))
    (dss_cons (ds_if (PW.pt (dw_and (dt_not (dt_val (d_ix (dv 2 (.inl rfl)) d_int))) (dw_and1 (dt_eq hr.units (d_ix (dv 2 (.inl rfl)) d_int) (d_ix (dv 2 (.inl rfl)) d_int)))))
      (dss_one (ds_ret d_bl))
      dss_nil)
    (dss_cons (ds_for PassesOwn.never rfl (di_tup (d_slice (dv 0 (.inl rfl)) (do_some (d_add (dv 1 (.inl rfl)) d_int)) do_none)) (dg_name (i := 3) sc_is_needed.nd (.inl rfl))
      (dss_one (ds_if (dt_val (d_call C_same hr (by rfl) (da_cons (dv 2 (.inl rfl)) (da_cons (dv 3 (.inl rfl)) da_nil))))
        (dss_one (ds_ret d_bl))
        dss_nil)))
    (dss_one (ds_ret d_bl)))))) (fun ds M R h => by obtain ⟨_, _, _, rfl, _⟩ := h; rfl) (fun ds M R h => ?_)

  obtain ⟨c, k, L, rfl, hk, hc, h⟩ := h
  have hL : LD 16 L := hc L (List.mem_of_getElem? hk)
  have hL2 : LD 20 L := ⟨by have := hL.1; omega, by have := hL.2; omega⟩
  show mIx (.tup (c.map encL)) (.int (k : Nat)) M _
  refine mIx_at (get_C hk) ?_
  have main : (!(!L.pos && decide (L.l = L.r))) = true → ∀ o, forD ⟨cutD (c.map encL) (some (((k + 1 : Nat) : Int))) none, fun _ => True⟩ (gNameD 3) (tIfSD (tTestD (tCallD spSameL (tConsD (tVarD 2) (tConsD (tVarD 3) tNilD)))) (tRetD (tCD (.bl false))) tNextD) { endD R with nx := tRetD (tCD (.bl true)) (endD R) } [some (encC c), some (.int (k : Nat)), some (encL L), o] M := by
    intro e1 o
    unfold isNeeded at h
    rw [e1, Bool.true_and] at h
    refine for_map encL (c.drop (k + 1)) (by rw [cut_from, List.map_drop]) (fun pre post r M' => M' = M ∧ (∀ x ∈ pre, sameL L x = false) ∧ ∃ o, r = [some (encC c), some (.int (k : Nat)), some (encL L), o]) ⟨rfl, (fun x hx => by cases hx), o, rfl⟩ (fun _ _ _ _ _ _ => trivial) ?_ ?_
    · rintro pre x post r M' e ⟨rfl, hp, o, rfl⟩
      have hx : x ∈ c := by
        have : x ∈ c.drop (k + 1) := by rw [e]; simp
        exact List.mem_of_mem_drop this
      have hx2 := hc x hx
      refine ⟨L, x, rfl, hL2, ⟨by have := hx2.1; omega, by have := hx2.2; omega⟩, bI_i (fun e2 => ret ?_) (fun e2 => ⟨_, LE.refl _, rfl, ?_, _, rfl⟩)⟩
      · have e3 : ((c.drop (k + 1)).any fun L' => sameL L L') = true := by rw [e, List.any_append, List.any_cons, e2]; simp
        rw [e3] at h
        exact h
      · intro y hy
        rcases List.mem_append.mp hy with h1 | h1
        · exact hp y h1
        · rw [List.mem_singleton] at h1; rw [h1]; exact e2
    · rintro r M' ⟨rfl, hp, o, rfl⟩
      have e3 : ((c.drop (k + 1)).any fun L' => sameL L L') = false := by
        rw [List.any_eq_false]; intro x hx; rw [hp x hx]; simp
      rw [e3] at h
      exact ret h
  obtain ⟨s, l, r⟩ := L
  cases s with
  | true => exact main (by simp) none
  | false =>
    refine ⟨flat64 hL2.1, flat64 hL2.2, bI_i (fun e => ?_) (fun e => ?_)⟩
    · rw [deq_enc] at e
      have e0 : l = r := of_decide_eq_true e
      have e1 : isNeeded ⟨false, l, r⟩ (c.drop (k + 1)) = false := by unfold isNeeded; rw [decide_eq_true (show (Lit.mk false l r).l = (Lit.mk false l r).r from e0)]; simp
      rw [e1] at h
      exact ret h
    · rw [deq_enc] at e
      have e0 : ¬ l = r := of_decide_eq_false e
      exact main (by simp; exact e0) none
def spCleaned : SpD := fun ds M R => ∃ c, ds = [encC c] ∧ CD 16 c ∧ c.length < 900 ∧ R (encC (cleanC c)) M
theorem sc_cleaned : FnScope ["clause", "k", "literal"] ["clause"] (defScope (top 44)) := ⟨rfl, rfl, rfl, by decide +kernel, rfl, by decide +kernel, by decide +kernel⟩
theorem c_cleaned (DA : DefAt K mg "cleaned" (top 44)) (C_is_needed : Cal P w K mg base T k "is_needed" spNeeded) (m_enumerate : mg "enumerate" = none) (m_tuple : mg "tuple" = none) : Cal P w K mg base T (k + 1) "cleaned" spCleaned := by
  refine dcal DA sc_cleaned (fun _ _ _ _ _ _ us hl => match us, hl with | [_], _ => rfl) (fun f cdv A outer s H E hr =>
    (dss_one (ds_ret (d_toTup (d_lc2 (x := "k") (y := "literal") (i := 1) (j := 2) (by decide) rfl sc_cleaned.nd (di_enu (dv 0 (.inr (.inl rfl))) (by rfl) m_enumerate) (blkOk_by (by rfl)) (fun _ _ _ _ _ => pg_tup rfl (pgs_cons (pg_name (i := 1) sc_cleaned.nd rfl (.inl rfl)) (pgs_cons (pg_name (i := 2) sc_cleaned.nd rfl (.inl rfl)) pgs_nil))) (fun _ _ _ _ _ => (dts_one (dt_val (d_call C_is_needed hr (by rfl) (da_cons (dv 0 (.inr (.inl rfl))) (da_cons (dv 1 (.inl rfl)) da_nil)))))) (fun _ _ _ _ _ => (dv 2 (.inl rfl)))) (hg := by rfl) (hm := m_tuple))))) (fun ds M R h => by obtain ⟨_, rfl, _⟩ := h; rfl) (fun ds M R h => ?_)

  obtain ⟨c, rfl, hc, hl, h⟩ := h
  refine fun p hp => ?_
  refine lc_gen2 (fun p : Lit × Nat => .int (p.2 : Nat)) (fun p => encL p.1) (c.zipIdx 0) (fun p => isNeeded p.1 (c.drop (p.2 + 1))) (fun p => encL p.1) (enum_map encL c 0) hp (fun _ _ => trivial) (by rw [List.length_zipIdx]; omega) ?_ ?_ ⟨_, um_same, M, le_um hp, ?_⟩
  · rintro ⟨L, i⟩ hm M1 l R' h'
    have := (List.mem_zipIdx hm)
    have e : c[i]? = some L := by
      have h2 := this.2.2
      have h1 := this.2.1
      rw [List.getElem?_eq_some_iff]
      exact ⟨by simpa using h1, by rw [h2]; simp⟩
    exact ⟨c, i, L, rfl, e, hc, h'⟩
  · rintro ⟨L, i⟩ hm hb M1 l R' h'
    exact h'
  · have e := cleaned_eq c [] c rfl
    rw [show ([] : Cl).length = 0 from rfl] at e
    refine ret ?_
    show R (.tup (((c.zipIdx 0).filter fun p => isNeeded p.1 (c.drop (p.2 + 1))).map fun p => encL p.1)) M
    rw [e]
    exact h
def spPair : SpD := fun ds M R => ∃ c i j a b, ds = [encC c, .int (i : Nat), .int (j : Nat)] ∧ c[i]? = some a ∧ c[j]? = some b ∧ CD 16 c ∧ R (.bl (pairB i j a b)) M
theorem sc_pair_holds : FnScope ["clause", "i", "j", "first"] ["clause", "i", "j"] (defScope (top 45)) := ⟨rfl, rfl, rfl, by decide +kernel, rfl, by decide +kernel, by decide +kernel⟩
theorem c_pair_holds (DA : DefAt K mg "pair_holds" (top 45)) (C_same_sides : Cal P w K mg base T k "same_sides" spSameS) : Cal P w K mg base T (k + 1) "pair_holds" spPair := by
  refine dcal DA sc_pair_holds (fun _ _ _ _ _ _ us hl => match us, hl with | [_, _, _], _ => rfl) (fun f cdv A outer s H E hr =>
    (dss_cons (ds_set (i := 3) sc_pair_holds.nd (.inl rfl) (d_ix (dv 0 (.inl rfl)) (dv 1 (.inl rfl))))
    (dss_cons (ds_if (dt_ieq (dv 1 (.inl rfl)) (dv 2 (.inl rfl)))
      (dss_one (ds_ret (d_and (d_ix (dv 3 (.inl rfl)) d_int) (d_one (d_eq hr.units (d_ix (dv 3 (.inl rfl)) d_int) (d_ix (dv 3 (.inl rfl)) d_int))))))
      dss_nil)
    (dss_one (ds_ret (d_and (d_ne hr.units (d_ix (dv 3 (.inl rfl)) d_int) (d_ix (d_ix (dv 0 (.inl rfl)) (dv 2 (.inl rfl))) d_int)) (d_one (d_call C_same_sides hr (by rfl) (da_cons (dv 3 (.inl rfl)) (da_cons (d_ix (dv 0 (.inl rfl)) (dv 2 (.inl rfl))) da_nil)))))))))) (fun ds M R h => by obtain ⟨_, _, _, _, _, rfl, _⟩ := h; rfl) (fun ds M R h => ?_)

  obtain ⟨c, i, j, a, b, rfl, hi, hj, hc, h⟩ := h
  have ha : LD 16 a := hc a (List.mem_of_getElem? hi)
  have hb : LD 16 b := hc b (List.mem_of_getElem? hj)
  have ha2 : LD 20 a := ⟨by have := ha.1; omega, by have := ha.2; omega⟩
  have hb2 : LD 20 b := ⟨by have := hb.1; omega, by have := hb.2; omega⟩
  show mIx (.tup (c.map encL)) (.int (i : Nat)) M _
  refine mIx_at (get_C hi) (bI_i (fun e => ?_) (fun e => ?_))
  · have e1 : i = j := by have := of_decide_eq_true e; omega
    unfold pairB at h
    rw [if_pos e1] at h
    obtain ⟨s, l, r⟩ := a
    cases s with
    | true =>
      refine ⟨flat64 ha2.1, flat64 ha2.2, ret ?_⟩
      rw [deq_enc]
      simpa using h
    | false => exact ret h
  · have e1 : ¬ i = j := by have := of_decide_eq_false e; omega
    unfold pairB at h
    rw [if_neg e1] at h
    conv => whnf
    rw [get_C hj]
    refine ⟨flat_bl _ _, flat_bl _ _, ?_⟩
    have eqv : (!deq (.bl a.pos) (.bl b.pos)) = !decide (a.pos = b.pos) := by rw [deq_bl]; cases a.pos <;> cases b.pos <;> rfl
    refine bI_i (fun e2 => ?_) (fun e2 => ?_)
    · replace e2 := eqv.symm.trans e2
      rw [e2, Bool.true_and] at h
      conv => whnf
      rw [get_C hj]
      exact ⟨a, b, rfl, ha2, hb2, ret h⟩
    · replace e2 := eqv.symm.trans e2
      rw [e2, Bool.false_and] at h
      exact ret h
def spAlways : SpD := fun ds M R => ∃ c, ds = [encC c] ∧ CD 16 c ∧ c.length < 900 ∧ (∀ i j a b, c[i]? = some a → c[j]? = some b → pairB i j a b = true → R (.tup [.int (i : Nat), .int (j : Nat)]) M) ∧ R .non M
theorem sc_always_holds : FnScope ["clause", "i", "j"] ["clause"] (defScope (top 46)) := ⟨rfl, rfl, rfl, by decide +kernel, rfl, by decide +kernel, by decide +kernel⟩
theorem c_always_holds (DA : DefAt K mg "always_holds" (top 46)) (C_pair_holds : Cal P w K mg base T k "pair_holds" spPair) (m_len : mg "len" = none) (m_range : mg "range" = none) : Cal P w K mg base T (k + 1) "always_holds" spAlways := by
  refine dcal DA sc_always_holds (fun _ _ _ _ _ _ us hl => match us, hl with | [_], _ => rfl) (fun f cdv A outer s H E hr =>
    (dss_cons (ds_for PassesOwn.never rfl (di_rng (d_len (dv 0 (.inl rfl)) (hg := by rfl) (hm := m_len)) (by rfl) m_range) (dg_name (i := 1) sc_always_holds.nd (.inl rfl))
      (dss_one (ds_for PassesOwn.never rfl (di_rng (d_len (dv 0 (.inl rfl)) (hg := by rfl) (hm := m_len)) (by rfl) m_range) (dg_name (i := 2) sc_always_holds.nd (.inl rfl))
        (dss_one (ds_if (dt_val (d_call C_pair_holds hr (by rfl) (da_cons (dv 0 (.inl rfl)) (da_cons (dv 1 (.inl rfl)) (da_cons (dv 2 (.inl rfl)) da_nil)))))
          (dss_one (ds_ret (d_tup (da_cons (dv 1 (.inl rfl)) (da_cons (dv 2 (.inl rfl)) da_nil)))))
          dss_nil)))))
    (dss_one (ds_ret d_non)))) (fun ds M R h => by obtain ⟨_, rfl, _⟩ := h; rfl) (fun ds M R h => ?_)

  obtain ⟨c, rfl, hc, hl, h1, h2⟩ := h
  have en : (c.map encL).length = c.length := List.length_map ..
  refine ⟨by rw [en]; omega, by omega, ?_⟩
  refine for_map (fun i : Nat => D.int (i : Nat)) (List.range c.length) (by rw [en]; rfl) (fun pre post r M' => M' = M ∧ ∃ o1 o2, r = [some (encC c), o1, o2]) ⟨rfl, none, none, rfl⟩ (fun _ _ _ _ _ _ => trivial) ?_ ?_
  · rintro pre i post r M' e ⟨rfl, o1, o2, rfl⟩
    have hi : i < c.length := List.mem_range.mp (by rw [e]; simp)
    refine ⟨by rw [en]; omega, by omega, ?_⟩
    refine for_map (fun i : Nat => D.int (i : Nat)) (List.range c.length) (by rw [en]; rfl) (fun pre post r M2 => M2 = M' ∧ ∃ o2, r = [some (encC c), some (.int (i : Nat)), o2]) ⟨rfl, o2, rfl⟩ (fun _ _ _ _ _ _ => trivial) ?_ ?_
    · rintro pre j post r M2 e ⟨rfl, o2, rfl⟩
      have hj : j < c.length := List.mem_range.mp (by rw [e]; simp)
      refine ⟨c, i, j, c[i], c[j], rfl, List.getElem?_eq_getElem hi, List.getElem?_eq_getElem hj, hc, bI_i (fun e => ?_) (fun e => ?_)⟩
      · exact ret (h1 i j c[i] c[j] (List.getElem?_eq_getElem hi) (List.getElem?_eq_getElem hj) e)
      · exact ⟨_, LE.refl _, rfl, _, rfl⟩
    · rintro r M2 ⟨rfl, o2, rfl⟩
      exact ⟨_, LE.refl _, rfl, _, _, rfl⟩
  · rintro r M' ⟨rfl, o1, o2, rfl⟩
    exact ret h2
def spStA : SpD := fun ds M R => ∃ L, ds = [encL L] ∧ R (.bl (stA L)) M
theorem sc_states_atoms : FnScope ["literal"] ["literal"] (defScope (top 48)) := ⟨rfl, rfl, rfl, by decide +kernel, rfl, by decide +kernel, by decide +kernel⟩
theorem c_states_atoms (DA : DefAt K mg "states_atoms" (top 48)) (C_is_atom : Cal P w K mg base T k "is_atom" spIsAtom) : Cal P w K mg base T (k + 1) "states_atoms" spStA := by
  refine dcal DA sc_states_atoms (fun _ _ _ _ _ _ us hl => match us, hl with | [_], _ => rfl) (fun f cdv A outer s H E hr =>
    (dss_one (ds_ret (d_or (d_call C_is_atom hr (by rfl) (da_cons (d_ix (dv 0 (.inl rfl)) d_int) da_nil)) (d_one (d_call C_is_atom hr (by rfl) (da_cons (d_ix (dv 0 (.inl rfl)) d_int) da_nil))))))) (fun ds M R h => by obtain ⟨_, rfl, _⟩ := h; rfl) (fun ds M R h => ?_)

  obtain ⟨L, rfl, h⟩ := h
  unfold stA at h
  refine ⟨L.l, rfl, ?_⟩
  cases e : L.l.isAtom with
  | true => rw [e, Bool.true_or] at h; exact ret h
  | false => rw [e, Bool.false_or] at h; exact ⟨L.r, rfl, ret h⟩
def spMS : SpD := fun ds M R => ∃ l r l' r' a σ, ds = [enc l, enc r, enc l', enc r', .ob a] ∧ M a = some (.dI (encS σ)) ∧ l.dep < 16 ∧ r.dep < 16 ∧ l'.dep < 16 ∧ r'.dep < 16 ∧ (∀ p ∈ σ, p.2.dep < 20) ∧ σ.length + l.size + r.size ≤ 900 ∧
  (∀ σ2, mS l r l' r' σ = some σ2 → ∀ q M', LE M M' → M' q = some (.dI (encS σ2)) → R (.ob q) M') ∧ (mS l r l' r' σ = none → R .non M)
theorem sc_match_sides : FnScope ["left", "right", "other_left", "other_right", "told", "found"] ["left", "right", "other_left", "other_right", "told"] (defScope (top 49)) := ⟨rfl, rfl, rfl, by decide +kernel, rfl, by decide +kernel, by decide +kernel⟩
theorem c_match_sides (DA : DefAt K mg "match_sides" (top 49)) (C_match : Cal P w K mg base T k "match" spMatch) : Cal P w K mg base T (k + 1) "match_sides" spMS := by
  refine dcal DA sc_match_sides (fun _ _ _ _ _ _ us hl => match us, hl with | [_, _, _, _, _], _ => rfl) (fun f cdv A outer s H E hr =>
    (dss_cons (ds_set (i := 5) sc_match_sides.nd (.inl rfl) (d_call C_match hr (by rfl) (da_cons (dv 0 (.inl rfl)) (da_cons (dv 2 (.inl rfl)) (da_cons (dv 4 (.inl rfl)) da_nil)))))
    (dss_cons (ds_if (dt_isN (dv 5 (.inl rfl)) d_non)
      (dss_one (ds_ret d_non))
      dss_nil)
    (dss_one (ds_ret (d_call C_match hr (by rfl) (da_cons (dv 1 (.inl rfl)) (da_cons (dv 3 (.inl rfl)) (da_cons (dv 5 (.inl rfl)) da_nil))))))))) (fun ds M R h => by obtain ⟨_, _, _, _, _, _, rfl, _⟩ := h; rfl) (fun ds M R h => ?_)

  obtain ⟨l, r, l', r', a, σ, rfl, ha, h1, h2, h3, h4, hσ, hz, q1, q2⟩ := h
  unfold mS at q1 q2
  have hl := ext_len l l' σ
  have hde := ext_dep (n := 20) l l' σ (by omega) hσ
  refine ⟨l, l', a, σ, rfl, ha, h1, h3, hσ, by omega, fun e p hp => ?_, fun e => ?_⟩
  · cases ex : ext l l' σ with
    | mk c σ1 =>
      rw [ex] at e q1 q2 hl hde
      cases (show c = true from e)
      refine ⟨r, r', p, σ1, rfl, um_same, h2, h4, hde, by simp only at hl; omega, fun e p2 hp2 => ?_, fun e => ?_⟩
      · cases ex2 : ext r r' σ1 with
        | mk c σ2 =>
          rw [ex2] at e
          simp only [ex2] at q1 q2
          cases (show c = true from e)
          exact ret (q1 σ2 rfl p2 _ ((le_um hp).trans (le_um hp2)) um_same)
      · cases ex2 : ext r r' σ1 with
        | mk c σ2 =>
          rw [ex2] at e
          simp only [ex2] at q1 q2
          cases (show c = false from e)
          exact ⟨M, le_um hp, q2 rfl⟩
  · cases ex : ext l l' σ with
    | mk c σ1 =>
      rw [ex] at e q1 q2
      cases (show c = false from e)
      exact ret (q2 rfl)
end
end My
set_option maxHeartbeats 4000000
/-! F7: parts. -/
namespace My
open PySem PySem.Spec PyProof.Rows L2
theorem mS_ok {n z : Nat} {l r l' r' : Tm} {σ σ2 : Sb} (h : mS l r l' r' σ = some σ2) (h1 : l'.dep < n) (h2 : r'.dep < n) (hs : ∀ p ∈ σ, p.2.dep < n) : (∀ p ∈ σ2, p.2.dep < n) ∧ σ2.length ≤ σ.length + l.size + r.size := by
  unfold mS at h
  have a1 := ext_dep (n := n) l l' σ h1 hs
  have a2 := ext_len l l' σ
  cases e : ext l l' σ with
  | mk c σ1 =>
    rw [e] at h a1 a2
    cases c with
    | false => cases h
    | true =>
      have a3 := ext_dep (n := n) r r' σ1 h2 a1
      have a4 := ext_len r r' σ1
      simp only at h
      cases e2 : ext r r' σ1 with
      | mk c σ3 =>
        rw [e2] at h a3 a4
        cases c with
        | false => cases h
        | true =>
          cases h
          simp only at a2 a3 a4
          exact ⟨a3, by omega⟩
theorem ways_ok {n : Nat} {L L' : Lit} {σ σ2 : Sb} (h : σ2 ∈ waysT L L' σ) (h1 : LD n L') (hs : ∀ p ∈ σ, p.2.dep < n) : (∀ p ∈ σ2, p.2.dep < n) ∧ σ2.length ≤ σ.length + L.l.size + L.r.size := by
  unfold waysT at h
  split at h
  · rcases List.mem_append.mp h with h | h
    · exact mS_ok (z := 0) (Option.mem_toList.mp h) h1.1 h1.2 hs
    · exact mS_ok (z := 0) (Option.mem_toList.mp h) h1.2 h1.1 hs
  · cases h
section
variable {P : Program} {w : World} {K : PySem.W.Frag} {mg : Str → Option Value} {base : Heap} {T : List (Addr × Str)} {k : Nat}
def DS (M : Mp) (q : Addr) (σ : Sb) : Prop := M q = some (.dI (encS σ))
def spWays : SpD := fun ds M R => ∃ L L' a σ, ds = [encL L, encL L', .ob a] ∧ M a = some (.dI (encS σ)) ∧ LD 16 L ∧ LD 16 L' ∧ (∀ p ∈ σ, p.2.dep < 20) ∧ σ.length + L.l.size + L.r.size ≤ 900 ∧
  ∀ p M' qs, LE M M' → M' p = some (.lst (qs.map D.ob)) → Paired (DS M') qs (waysT L L' σ) → R (.ob p) M'
theorem sc_ways : FnScope ["literal", "other", "told", "straight", "turned", "found"] ["literal", "other", "told"] (defScope (top 50)) := ⟨rfl, rfl, rfl, by decide +kernel, rfl, by decide +kernel, by decide +kernel⟩
theorem c_ways (DA : DefAt K mg "ways" (top 50)) (C_states_atoms : Cal P w K mg base T k "states_atoms" spStA) (C_match_sides : Cal P w K mg base T k "match_sides" spMS) : Cal P w K mg base T (k + 1) "ways" spWays := by
  refine dcal DA sc_ways (fun _ _ _ _ _ _ us hl => match us, hl with | [_, _, _], _ => rfl) (fun f cdv A outer s H E hr =>
    (dss_cons (ds_if (PW.pt (dw_or (dt_ne hr.units (d_ix (dv 0 (.inl rfl)) d_int) (d_ix (dv 1 (.inl rfl)) d_int)) (dw_or1 (dt_ne hr.units (d_call C_states_atoms hr (by rfl) (da_cons (dv 0 (.inl rfl)) da_nil)) (d_call C_states_atoms hr (by rfl) (da_cons (dv 1 (.inl rfl)) da_nil))))))
      (dss_one (ds_ret (d_lst da_nil)))
      dss_nil)
    (dss_cons (ds_set (i := 3) sc_ways.nd (.inl rfl) (d_call C_match_sides hr (by rfl) (da_cons (d_ix (dv 0 (.inl rfl)) d_int) (da_cons (d_ix (dv 0 (.inl rfl)) d_int) (da_cons (d_ix (dv 1 (.inl rfl)) d_int) (da_cons (d_ix (dv 1 (.inl rfl)) d_int) (da_cons (dv 2 (.inl rfl)) da_nil)))))))
    (dss_cons (ds_set (i := 4) sc_ways.nd (.inl rfl) (d_call C_match_sides hr (by rfl) (da_cons (d_ix (dv 0 (.inl rfl)) d_int) (da_cons (d_ix (dv 0 (.inl rfl)) d_int) (da_cons (d_ix (dv 1 (.inl rfl)) d_int) (da_cons (d_ix (dv 1 (.inl rfl)) d_int) (da_cons (dv 2 (.inl rfl)) da_nil)))))))
    (dss_one (ds_ret (d_lc (i := 5) rfl sc_ways.nd (di_tup (d_tup (da_cons (dv 3 (.inl rfl)) (da_cons (dv 4 (.inl rfl)) da_nil)))) (blkOk_by (by rfl)) (fun _ _ _ _ _ => pg_name (i := 5) sc_ways.nd rfl (.inl rfl)) (fun _ _ _ _ _ => (dts_one (dt_notN (dv 5 (.inl rfl)) d_non))) (fun _ _ _ _ _ => (dv 5 (.inl rfl)))))))))) (fun ds M R h => by obtain ⟨_, _, _, _, rfl, _⟩ := h; rfl) (fun ds M R h => ?_)

  obtain ⟨L, L', a, σ, rfl, ha, hL, hL', hσ, hz, h⟩ := h
  have eq1 : (!deq (.bl L.pos) (.bl L'.pos)) = decide (¬ L.pos = L'.pos) := by rw [deq_bl]; cases L.pos <;> cases L'.pos <;> rfl
  have eq2 : (!deq (.bl (stA L)) (.bl (stA L'))) = decide (¬ stA L = stA L') := by rw [deq_bl]; cases stA L <;> cases stA L' <;> rfl
  refine ⟨flat_bl _ _, flat_bl _ _, bI_i (fun e => ?_) (fun e => ?_)⟩
  · have e1 : ¬ L.pos = L'.pos := of_decide_eq_true (eq1.symm.trans e)
    refine fun p hp => ret (h p _ [] (le_um hp) um_same ?_)
    unfold waysT
    rw [if_neg (fun z => e1 z.1)]
    exact .nil
  · have e1 : L.pos = L'.pos := by have := of_decide_eq_false (eq1.symm.trans e); simpa using this
    refine ⟨L, rfl, L', rfl, flat_bl _ _, flat_bl _ _, bI_i (fun e => ?_) (fun e => ?_)⟩
    · have e2 : ¬ stA L = stA L' := of_decide_eq_true (eq2.symm.trans e)
      refine fun p hp => ret (h p _ [] (le_um hp) um_same ?_)
      unfold waysT
      rw [if_neg (fun z => e2 z.2)]
      exact .nil
    · have e2 : stA L = stA L' := by have := of_decide_eq_false (eq2.symm.trans e); simpa using this
      unfold waysT at h
      rw [if_pos ⟨e1, e2⟩] at h
      have fin : ∀ (d1 d2 : D) (M2 : Mp) (qs : List Addr), LE M M2 → ([d1, d2].filter fun d => !isNon d) = qs.map D.ob → Paired (DS M2) qs ((mS L.l L.r L'.l L'.r σ).toList ++ (mS L.l L.r L'.r L'.l σ).toList) → ∀ p, M2 p = none →
          lcD ⟨[d1, d2], fun _ => True⟩ 5 (tTestD (tOpD mNotN (tVarD 5) (tCD .non))) (tVarD 5) p [some (encL L), some (encL L'), some (.ob a), some d1, some d2, none] M2 (endD R).rt := by
        intro d1 d2 M2 qs le hf hp p hpn
        refine lc_gen id [d1, d2] (fun d => !isNon d) id (by simp) hpn (fun _ _ => trivial) (by show 2 < 1000; omega) (fun d _ M3 _ R' h' => h') (fun d _ _ M3 _ R' h' => h') ?_
        refine ret (h p _ qs (le.trans (le_um hpn)) (by rw [um_same, List.map_id, hf]) ?_)
        exact Paired.mapQ hp fun q s z => le_um hpn _ _ z
      refine ⟨L.l, L.r, L'.l, L'.r, a, σ, rfl, ha, hL.1, hL.2, hL'.1, hL'.2, hσ, hz, fun σ2 es q M1 le hq => ?_, fun es => ?_⟩
      · refine ⟨L.l, L.r, L'.r, L'.l, a, σ, rfl, le _ _ ha, hL.1, hL.2, hL'.2, hL'.1, hσ, hz, fun σ3 es3 q3 M3 le3 hq3 => ?_, fun es3 => ?_⟩
        · exact fin (.ob q) (.ob q3) M3 [q, q3] (le.trans le3) rfl (by rw [es, es3]; exact .cons (le3 _ _ hq) (.cons hq3 .nil))
        · exact fin (.ob q) .non M1 [q] le rfl (by rw [es, es3]; exact .cons hq .nil)
      · refine ⟨L.l, L.r, L'.r, L'.l, a, σ, rfl, ha, hL.1, hL.2, hL'.2, hL'.1, hσ, hz, fun σ3 es3 q3 M3 le3 hq3 => ?_, fun es3 => ?_⟩
        · exact fin .non (.ob q3) M3 [q3] le3 rfl (by rw [es, es3]; exact .cons hq3 .nil)
        · exact fin .non .non M [] (LE.refl M) rfl (by rw [es, es3]; exact .nil)
def spPF (n : Nat) : SpD := fun ds M R => ∃ c d used a σ, ds = [encC c, encC d, encPl used, .ob a] ∧ M a = some (.dI (encS σ)) ∧ CD 16 c ∧ CD 16 d ∧ CZ 64 c ∧ (∀ p ∈ σ, p.2.dep < 20) ∧ used.length ≤ c.length ∧ c.length < 6 ∧ c.length - used.length < n ∧
  σ.length + (c.length - used.length) * 128 ≤ 768 ∧ (Emb d (c.drop used.length) used σ → ∀ xs M', LE M M' → R (.tup xs) M') ∧ (¬ Emb d (c.drop used.length) used σ → R .non M)
theorem contains_int (used : List Nat) (j : Nat) : (used.map fun i : Nat => (i : Int)).contains (j : Int) = decide (j ∈ used) := by
  rw [Bool.eq_iff_iff, List.contains_iff_mem, decide_eq_true_eq, List.mem_map]
  constructor
  · rintro ⟨i, hi, e⟩
    have : i = j := by omega
    rw [← this]; exact hi
  · intro h; exact ⟨j, h, rfl⟩
theorem sc_part_from : FnScope ["c", "d", "used", "told", "j", "other", "found", "whole"] ["c", "d", "used", "told"] (defScope (top 51)) := ⟨rfl, rfl, rfl, by decide +kernel, rfl, by decide +kernel, by decide +kernel⟩
theorem c_part_from (DA : DefAt K mg "part_from" (top 51)) {n : Nat} (C_ways : Cal P w K mg base T k "ways" spWays) (C_part_from : Cal P w K mg base T k "part_from" (spPF n)) (m_enumerate : mg "enumerate" = none) (m_len : mg "len" = none) : Cal P w K mg base T (k + 1) "part_from" (spPF (n + 1)) := by
  refine dcal DA sc_part_from (fun _ _ _ _ _ _ us hl => match us, hl with | [_, _, _, _], _ => rfl) (fun f cdv A outer s H E hr =>
    (dss_cons (ds_if (dt_ieq (d_len (dv 2 (.inl rfl)) (hg := by rfl) (hm := m_len)) (d_len (dv 0 (.inl rfl)) (hg := by rfl) (hm := m_len)))
      (dss_one (ds_ret (d_tup (da_cons (dv 3 (.inl rfl)) (da_cons (dv 2 (.inl rfl)) da_nil)))))
      dss_nil)
    (dss_cons (ds_for PassesOwn.never rfl (di_enu (dv 1 (.inl rfl)) (by rfl) m_enumerate) (dg_tup2 (i := 4) (j := 5) rfl sc_part_from.nd (.inl rfl) (.inl rfl))
      (dss_one (ds_if (dt_notInI (dv 4 (.inl rfl)) (dv 2 (.inl rfl)))
        (dss_one (ds_for PassesOwn.never rfl (di_lst (d_call C_ways hr (by rfl) (da_cons (d_ix (dv 0 (.inl rfl)) (d_len (dv 2 (.inl rfl)) (hg := by rfl) (hm := m_len))) (da_cons (dv 5 (.inl rfl)) (da_cons (dv 3 (.inl rfl)) da_nil))))) (dg_name (i := 6) sc_part_from.nd (.inl rfl))
          (dss_cons (ds_set (i := 7) sc_part_from.nd (.inl rfl) (d_call C_part_from hr (by rfl) (da_cons (dv 0 (.inl rfl)) (da_cons (dv 1 (.inl rfl)) (da_cons (d_cat (dv 2 (.inl rfl)) (d_tup (da_cons (dv 4 (.inl rfl)) da_nil))) (da_cons (dv 6 (.inl rfl)) da_nil))))))
          (dss_one (ds_if (dt_notN (dv 7 (.inl rfl)) d_non)
            (dss_one (ds_ret (dv 7 (.inl rfl))))
            dss_nil)))))
        dss_nil)))
    (dss_one (ds_ret d_non))))) (fun ds M R h => by obtain ⟨_, _, _, _, _, rfl, _⟩ := h; rfl) (fun ds M R h => ?_)

  obtain ⟨c, d, used, a, σ, rfl, ha, hc, hd, hcz, hσ, hl, hl6, hn, hz, h1, h2⟩ := h
  have el1 : (used.map fun i : Nat => D.int (i : Nat)).length = used.length := List.length_map ..
  have el2 : (c.map encL).length = c.length := List.length_map ..
  have eqv : decide ((((used.map fun i : Nat => D.int (i : Nat)).length : Nat) : Int) = (((c.map encL).length : Nat) : Int)) = decide (used.length = c.length) := by
    rw [el1, el2]; exact decide_eq_decide.mpr ⟨fun z => by omega, fun z => by omega⟩
  refine bI_i (fun e => ?_) (fun e => ?_)
  · replace e := eqv.symm.trans e
    have e1 : used.length = c.length := of_decide_eq_true e
    rw [e1, List.drop_eq_nil_of_le (Nat.le_refl _)] at h1
    exact ret (h1 trivial _ M (LE.refl M))
  · replace e := eqv.symm.trans e
    have e1 : used.length < c.length := by have := of_decide_eq_false e; omega
    have edr : c.drop used.length = c[used.length] :: c.drop (used.length + 1) := List.drop_eq_getElem_cons e1
    have hLm : c[used.length] ∈ c := List.getElem_mem e1
    have hgL : c[used.length]? = some c[used.length] := List.getElem?_eq_getElem e1
    generalize hLe : c[used.length] = L at edr hLm hgL
    rw [edr] at h1 h2
    have hcD := hc L hLm
    have hcZ := hcz L hLm
    refine for_map (fun p : Lit × Nat => .tup [.int (p.2 : Nat), encL p.1]) (d.zipIdx 0) (enum_map encL d 0) (fun pre post r M' => LE M M' ∧ (∀ p ∈ pre, p.2 ∉ used → ∀ σ' ∈ waysT L p.1 σ, ¬ Emb d (c.drop (used.length + 1)) (used ++ [p.2]) σ') ∧ ∃ o1 o2 o3 o4, r = [some (encC c), some (encC d), some (encPl used), some (.ob a), o1, o2, o3, o4])
      ⟨LE.refl M, (fun x hx => by cases hx), none, none, none, none, rfl⟩ (fun _ _ _ _ _ _ => trivial) ?_ ?_
    · rintro pre ⟨L', j⟩ post r M' e ⟨le, hp, o1, o2, o3, o4, rfl⟩
      have hm : (L', j) ∈ d.zipIdx 0 := by rw [e]; simp
      have hjd : d[j]? = some L' := List.mem_zipIdx_iff_getElem?.mp hm
      have hd' := hd L' (List.mem_of_getElem? hjd)
      refine ⟨(j : Nat), used.map fun i : Nat => (i : Int), rfl, by show (used.map fun i : Nat => D.int (i : Nat)) = _; rw [List.map_map]; rfl, ?_⟩
      have step : ∀ M2 o3 o4, LE M M2 → (j ∉ used → ∀ σ' ∈ waysT L L' σ, ¬ Emb d (c.drop (used.length + 1)) (used ++ [j]) σ') → ∃ M3, LE M3 M2 ∧ LE M M3 ∧ (∀ p ∈ pre ++ [(L', j)], p.2 ∉ used → ∀ σ' ∈ waysT L p.1 σ, ¬ Emb d (c.drop (used.length + 1)) (used ++ [p.2]) σ') ∧ ∃ o1 o2 o3' o4', [some (encC c), some (encC d), some (encPl used), some (.ob a), some (.int (j : Nat)), some (encL L'), o3, o4] = [some (encC c), some (encC d), some (encPl used), some (.ob a), o1, o2, o3', o4'] := by
        intro M2 o3 o4 le2 hno
        refine ⟨M2, LE.refl _, le2, ?_, _, _, _, _, rfl⟩
        intro p hp2
        rcases List.mem_append.mp hp2 with z | z
        · exact hp p z
        · rw [List.mem_singleton] at z; subst z; exact hno
      refine bI_i (fun ej => ?_) (fun ej => ?_)
      · rw [contains_int] at ej
        have hj : j ∉ used := by simpa using ej
        have eu : (((used.map fun i : Nat => D.int (i : Nat)).length : Nat) : Int) = ((used.length : Nat) : Int) := by rw [el1]
        conv => whnf
        rw [eu, get_C hgL]
        refine ⟨L, L', a, σ, rfl, le _ _ ha, hcD, hd', hσ, by have := hcZ.1; have := hcZ.2; omega, fun p M2 qs le2 hpl hpr => ⟨_, hpl, ?_⟩⟩
        refine for_map D.ob qs rfl (fun pre2 post2 r M3 => LE M M3 ∧ M3 p = some (.lst (qs.map D.ob)) ∧ (∃ s1 s2, waysT L L' σ = s1 ++ s2 ∧ Paired (DS M3) post2 s2 ∧ ∀ σ' ∈ s1, ¬ Emb d (c.drop (used.length + 1)) (used ++ [j]) σ') ∧ ∃ o3 o4, r = [some (encC c), some (encC d), some (encPl used), some (.ob a), some (.int (j : Nat)), some (encL L'), o3, o4])
          ⟨le.trans le2, hpl, ⟨[], _, rfl, hpr, (fun x hx => by cases hx)⟩, o3, o4, rfl⟩ (fun _ _ _ _ _ ⟨_, z, _⟩ => z) ?_ ?_
        · rintro pre2 q post2 r M3 e2 ⟨le3, hp3, ⟨s1, s2, es, pr, hno⟩, o3, o4, rfl⟩
          cases pr with
          | @cons _ σ' _ s2' hq pr' =>
            have hin : σ' ∈ waysT L L' σ := by rw [es]; simp
            obtain ⟨w1, w2⟩ := ways_ok (n := 20) hin ⟨by have := hd'.1; omega, by have := hd'.2; omega⟩ hσ
            have w3 := hcZ.1
            have w4 := hcZ.2
            have elu : (used ++ [j]).length = used.length + 1 := by simp
            refine ⟨by show (used.map fun i : Nat => D.int (i : Nat)).length + 1 ≤ 1000; rw [el1]; omega, c, d, used ++ [j], q, σ', ?_, hq, hc, hd, hcz, w1, by omega, hl6, by omega, by omega, fun em xs M4 le4 => ?_, fun em => ?_⟩
            · show [encC c, encC d, D.tup ((used.map fun i : Nat => D.int (i : Nat)) ++ [D.int (j : Nat)]), D.ob q] = _
              unfold encPl; rw [List.map_append]; rfl
            · rw [elu] at em
              exact ret (h1 ⟨j, L', hjd, hj, σ', hin, em⟩ xs M4 (le3.trans le4))
            · rw [elu] at em
              refine ⟨_, LE.refl _, le3, hp3, ⟨s1 ++ [σ'], s2', by rw [es]; simp, pr', ?_⟩, _, _, rfl⟩
              intro s hs
              rcases List.mem_append.mp hs with z | z
              · exact hno s z
              · rw [List.mem_singleton] at z; subst z; exact em
        · rintro r M3 ⟨le3, hp3, ⟨s1, s2, es, pr, hno⟩, o3, o4, rfl⟩
          cases pr
          rw [List.append_nil] at es
          exact step M3 o3 o4 le3 (fun _ => by rw [es]; exact hno)
      · rw [contains_int] at ej
        have hj : j ∈ used := by simpa using ej
        exact step M' o3 o4 le (fun z => absurd hj z)
    · rintro r M' ⟨le, hp, o1, o2, o3, o4, rfl⟩
      refine ⟨M, le, h2 ?_⟩
      rintro ⟨j, L', hj, hju, σ', hs, em⟩
      have hm : (L', j) ∈ d.zipIdx 0 :=
         List.mem_zipIdx_iff_getElem?.mpr hj
      exact hp (L', j) hm hju σ' hs em
def spPO : SpD := fun ds M R => ∃ c d, ds = [encC c, encC d] ∧ CD 16 c ∧ CD 16 d ∧ CZ 64 c ∧ c.length < 6 ∧ (PartOf c d → ∀ xs M', LE M M' → R (.tup xs) M') ∧ (¬ PartOf c d → R .non M)
theorem sc_part_of : FnScope ["c", "d"] ["c", "d"] (defScope (top 52)) := ⟨rfl, rfl, rfl, by decide +kernel, rfl, by decide +kernel, by decide +kernel⟩
theorem c_part_of (DA : DefAt K mg "part_of" (top 52)) (C_part_from : Cal P w K mg base T k "part_from" (spPF 6)) (m_len : mg "len" = none) : Cal P w K mg base T (k + 1) "part_of" spPO := by
  refine dcal DA sc_part_of (fun _ _ _ _ _ _ us hl => match us, hl with | [_, _], _ => rfl) (fun f cdv A outer s H E hr =>
    (dss_cons (ds_if (dt_gt (d_len (dv 0 (.inl rfl)) (hg := by rfl) (hm := m_len)) (d_len (dv 1 (.inl rfl)) (hg := by rfl) (hm := m_len)))
      (dss_one (ds_ret d_non))
      dss_nil)
    (dss_one (ds_ret (d_call C_part_from hr (by rfl) (da_cons (dv 0 (.inl rfl)) (da_cons (dv 1 (.inl rfl)) (da_cons (d_tup da_nil) (da_cons d_newI da_nil))))))))) (fun ds M R h => by obtain ⟨_, _, rfl, _⟩ := h; rfl) (fun ds M R h => ?_)

  obtain ⟨c, d, rfl, hc, hd, hcz, hl, h1, h2⟩ := h
  have el1 : (d.map encL).length = d.length := List.length_map ..
  have el2 : (c.map encL).length = c.length := List.length_map ..
  have eqv : decide ((((d.map encL).length : Nat) : Int) < (((c.map encL).length : Nat) : Int)) = decide (d.length < c.length) := by
    rw [el1, el2]; exact decide_eq_decide.mpr ⟨fun z => by omega, fun z => by omega⟩
  refine bI_i (fun e => ?_) (fun e => ?_)
  · replace e := of_decide_eq_true (eqv.symm.trans e)
    exact ret (h2 fun z => by have := z.1; omega)
  · replace e := of_decide_eq_false (eqv.symm.trans e)
    refine fun q hq => ⟨c, d, [], q, [], rfl, um_same, hc, hd, hcz, (fun p hp => by cases hp), Nat.zero_le _, hl, by show c.length - 0 < 6; omega, ?_, fun em xs M' le => ?_, fun em => ?_⟩
    · show 0 + (c.length - 0) * 128 ≤ 768; omega
    · exact ret (h1 ⟨by omega, em⟩ xs M' ((le_um hq).trans le))
    · exact ⟨M, le_um hq, h2 fun z => em z.2⟩
end
end My
set_option maxHeartbeats 4000000
/-! F8: the law's order of literals and clauses. -/
namespace My
open PySem PySem.Spec PyProof.Rows L2
theorem first_at' {α : Type} [DecidableEq α] : ∀ {ns : List α} {k : α}, k ∈ ns → ∃ j, j < ns.length ∧ ns[j]? = some k ∧ (∀ i, i < j → ns[i]? ≠ some k) ∧ ns.eraseIdx j = ns.erase k
  | [], k, h => absurd h (by simp)
  | a :: r, k, h => by
    by_cases e : a = k
    · refine ⟨0, Nat.succ_pos _, by rw [e] <;> rfl, fun i hi => absurd hi (Nat.not_lt_zero _), ?_⟩
      rw [e, List.erase_cons_head] <;> rfl
    · have hr : k ∈ r := by
        rcases List.mem_cons.mp h with z | z
        · exact absurd z.symm e
        · exact z
      obtain ⟨j, h1, h2, h3, h4⟩ := first_at' hr
      refine ⟨j + 1, Nat.succ_lt_succ h1, h2, fun i hi => ?_, ?_⟩
      · cases i with
        | zero =>
          intro z
          exact e (Option.some.inj z)
        | succ i => exact h3 i (Nat.lt_of_succ_lt_succ hi)
      · rw [List.erase_cons_tail (by rw [beq_iff_eq]; exact e), ← h4] <;> rfl
theorem flats_cons (n : Nat) (d : D) (ds : List D) : D.flats n (d :: ds) = (D.flat n d && D.flats n ds) := by rw [D.flats]
theorem flats_encs {as : List Tm} (h : ∀ a ∈ as, a.dep < 20) : ∀ {n : Nat}, n = 63 → D.flats n (encs as) = true := by
  intro n hn
  induction as with
  | nil => rw [encs, D.flats]
  | cons a as ih =>
    rw [encs, flats_cons, Bool.and_eq_true]
    exact ⟨flat_le (n := 2 * a.dep + 2) (by have := h a (by simp); omega) (flat_enc a), ih fun b hb => h b (by simp [hb])⟩
theorem any_encs (t : Tm) : ∀ as : List Tm, ((encs as).any fun z => deq z (enc t)) = decide (t ∈ as)
  | [] => by simp [encs]
  | a :: as => by
    rw [encs, List.any_cons, any_encs t as, deq_enc, Bool.eq_iff_iff]
    simp only [Bool.or_eq_true, decide_eq_true_eq, List.mem_cons]
    exact ⟨fun h => h.imp Eq.symm id, fun h => h.imp Eq.symm id⟩
theorem map_eraseIdx2 {α β : Type} (f : α → β) : ∀ (ns : List α) (j : Nat), (ns.map f).eraseIdx j = (ns.eraseIdx j).map f
  | [], _ => rfl
  | _ :: _, 0 => rfl
  | n :: r, j + 1 => by
    show f n :: (r.map f).eraseIdx j = f n :: (r.eraseIdx j).map f
    rw [map_eraseIdx2 f r j]
theorem encs_erase {as : List Tm} {t : Tm} (h : t ∈ as) : ∃ j, (encs as)[j]? = some (enc t) ∧ (∀ m z, m < j → (encs as)[m]? = some z → deq z (enc t) = false) ∧ (encs as).eraseIdx j = encs (as.erase t) := by
  obtain ⟨j, h1, h2, h3, h4⟩ := first_at' h
  refine ⟨j, by rw [encs_get, h2]; rfl, fun m z hm hz => ?_, ?_⟩
  · rw [encs_get] at hz
    cases e : as[m]? with
    | none => rw [e] at hz; cases hz
    | some a =>
      rw [e] at hz
      cases hz
      rw [deq_enc]
      exact decide_eq_false fun z => h3 m hm (by rw [e, z])
  · rw [← h4, encs_map, encs_map]
    exact map_eraseIdx2 enc as j
noncomputable def lgF : List Tm → List Tm × List Tm → List Tm × List Tm
  | [], s => s
  | t :: r, (o, th) => if t ∈ th then lgF r (o.erase t, th.erase t) else lgF r (o, th)
noncomputable def lgR (W : Sym → Int) (n : Nat) (s : List Tm × List Tm) : Bool := if s.1.isEmpty = true then false else s.2.all fun y => s.1.any fun x => gtF W n x y
noncomputable def lgt (W : Sym → Int) (n : Nat) (a b : Lit) : Bool := lgR W n (lgF (sidesL a) (sidesL a, sidesL b))
noncomputable def rem1 : Cl → Lit → Option Cl
  | [], _ => none
  | a :: c, L => if sameL a L = true then some c else (rem1 c L).map (a :: ·)
noncomputable def cgF : Cl → Cl × Cl → Cl × Cl
  | [], s => s
  | L :: c, (o, th) => match rem1 th L with
    | some th' => cgF c (o, th')
    | none => cgF c (o ++ [L], th)
noncomputable def cgR (W : Sym → Int) (n : Nat) (s : Cl × Cl) : Bool := if s.1.isEmpty = true then false else s.2.all fun y => s.1.any fun x => lgt W n x y
noncomputable def cgt (W : Sym → Int) (n : Nat) (a b : Cl) : Bool := cgR W n (cgF a ([], b))
theorem rem1_at : ∀ {c : Cl} {L : Lit} {j : Nat}, (∀ m a, m < j → c[m]? = some a → sameL a L = false) → (∃ a, c[j]? = some a ∧ sameL a L = true) → rem1 c L = some (c.take j ++ c.drop (j + 1))
  | [], L, j, _, h => by obtain ⟨a, h, _⟩ := h; simp at h
  | a :: c, L, 0, _, h => by
    obtain ⟨b, h1, h2⟩ := h
    cases h1
    rw [rem1, if_pos h2]; rfl
  | a :: c, L, j + 1, h0, h => by
    obtain ⟨b, h1, h2⟩ := h
    have e : sameL a L = false := h0 0 a (by omega) rfl
    rw [rem1, if_neg (by rw [e]; simp), rem1_at (j := j) (fun m x hm hx => h0 (m + 1) x (by omega) hx) ⟨b, h1, h2⟩]
    rfl
theorem rem1_none : ∀ {c : Cl} {L : Lit}, (∀ a ∈ c, sameL a L = false) → rem1 c L = none
  | [], _, _ => rfl
  | a :: c, L, h => by rw [rem1, if_neg (by rw [h a (by simp)]; simp), rem1_none fun b hb => h b (by simp [hb])]; rfl
theorem rem1_sub : ∀ {c c' : Cl} {L : Lit}, rem1 c L = some c' → ∀ a ∈ c', a ∈ c
  | [], _, _, h => by cases h
  | b :: c, c', L, h => by
    rw [rem1] at h
    split at h
    · cases h; intro a ha; simp [ha]
    · obtain ⟨d, h1, h2⟩ := Option.map_eq_some_iff.mp h
      subst h2
      intro a ha
      rcases List.mem_cons.mp ha with e | ha
      · simp [e]
      · simp [rem1_sub h1 a ha]
theorem rem1_len : ∀ {c c' : Cl} {L : Lit}, rem1 c L = some c' → c'.length < c.length
  | [], _, _, h => by cases h
  | b :: c, c', L, h => by
    rw [rem1] at h
    split at h
    · cases h; simp
    · obtain ⟨d, h1, h2⟩ := Option.map_eq_some_iff.mp h
      subst h2
      have := rem1_len h1
      simp; exact this
theorem sidesL_mem {L : Lit} {t : Tm} (h : t ∈ sidesL L) : t = L.l ∨ t = L.r := by
  unfold sidesL at h
  split at h
  · simpa using h
  · have h' : t = L.l ∨ t = L.r ∨ t = L.l ∨ t = L.r := by simpa using h
    rcases h' with h | h | h | h <;> simp [h]
theorem all_bl (f : Tm → Bool) (as : List Tm) : (as.map fun a => D.bl (f a)) = (as.map f).map D.bl := by rw [List.map_map]; rfl
section
variable {P : Program} {w : World} {K : PySem.W.Frag} {mg : Str → Option Value} {base : Heap} {T : List (Addr × Str)} {k : Nat}
def spLG (W : Sym → Int) (n : Nat) : SpD := fun ds M R => ∃ a L L', ds = [.ob a, encL L, encL L'] ∧ WtOK M a W ∧ LD 16 L ∧ LD 16 L' ∧ L.l.size < n ∧ L.r.size < n ∧ LZ 900 L' ∧ R (.bl (lgt W n L L')) M
theorem sc_l_literal_greater : FnScope ["_law_weights_here", "_law_first", "_law_second", "_law_ours", "_law_theirs", "_law_term_here", "_law_one"] ["_law_weights_here", "_law_first", "_law_second"] (defScope (top 67)) := ⟨rfl, rfl, rfl, by decide +kernel, rfl, by decide +kernel, by decide +kernel⟩
theorem c_l_literal_greater (DA : DefAt K mg "_law_literal_greater" (top 67)) {W : Sym → Int} {n : Nat} (C_l_sides : Cal P w K mg base T k "_law_sides" (spSides sidesL)) (C_l_greater : Cal P w K mg base T k "_law_greater" (spGt W n)) (m_any : mg "any" = none) : Cal P w K mg base T (k + 1) "_law_literal_greater" (spLG W n) := by
  refine dcal DA sc_l_literal_greater (fun _ _ _ _ _ _ us hl => match us, hl with | [_, _, _], _ => rfl) (fun f cdv A outer s H E hr =>
    (dss_cons (ds_set (i := 3) sc_l_literal_greater.nd (.inl rfl) (d_call C_l_sides hr (by rfl) (da_cons (dv 1 (.inl rfl)) da_nil)))
    (dss_cons (ds_set (i := 4) sc_l_literal_greater.nd (.inl rfl) (d_call C_l_sides hr (by rfl) (da_cons (dv 2 (.inl rfl)) da_nil)))
    (dss_cons (ds_for PassesOwn.never rfl (di_lst (d_call C_l_sides hr (by rfl) (da_cons (dv 1 (.inl rfl)) da_nil))) (dg_name (i := 5) sc_l_literal_greater.nd (.inr rfl))
      (dss_one (ds_if (dt_inD (u65 hr) (dv 5 (.inr (.inl rfl))) (dv 4 (.inl rfl)))
        (dss_cons (ds_expr (d_remove (u65 hr) (dv 4 (.inl rfl)) (dv 5 (.inr (.inl rfl)))))
        (dss_one (ds_expr (d_remove (u65 hr) (dv 3 (.inl rfl)) (dv 5 (.inr (.inl rfl)))))))
        dss_nil)))
    (dss_cons (ds_if (dt_not (dt_tru (dv 3 (.inl rfl))))
      (dss_one (ds_ret d_bl))
      dss_nil)
    (dss_cons (ds_for PassesOwn.never rfl (di_lst (dv 4 (.inl rfl))) (dg_name (i := 5) sc_l_literal_greater.nd (.inr rfl))
      (dss_one (ds_if (dt_not (dt_val (d_any (d_lc (i := 6) rfl sc_l_literal_greater.nd (di_lst (dv 3 (.inl rfl))) (blkOk_by (by rfl)) (fun _ _ _ _ _ => pg_name (i := 6) sc_l_literal_greater.nd rfl (.inl rfl)) (fun _ _ _ _ _ => dts_nil) (fun _ _ _ _ _ => (d_call C_l_greater hr (by rfl) (da_cons (dv 0 (.inr (.inl rfl))) (da_cons (dv 6 (.inl rfl)) (da_cons (dv 5 (.inr (.inl rfl))) da_nil)))))) (hg := by rfl) (hm := m_any))))
        (dss_one (ds_ret d_bl))
        dss_nil)))
    (dss_one (ds_ret d_bl)))))))) (fun ds M R h => by obtain ⟨_, _, _, rfl, _⟩ := h; rfl) (fun ds M R h => ?_)

  obtain ⟨a, L, L', rfl, hw, hL, hL', hz1, hz2, hz', h⟩ := h
  have d1 : ∀ t ∈ sidesL L, t.dep < 16 ∧ t.size < n := fun t ht => by
    rcases sidesL_mem ht with e | e <;> subst e
    · exact ⟨hL.1, hz1⟩
    · exact ⟨hL.2, hz2⟩
  have d2 : ∀ t ∈ sidesL L', t.dep < 16 ∧ t.size ≤ 900 := fun t ht => by
    rcases sidesL_mem ht with e | e <;> subst e
    · exact ⟨hL'.1, hz'.1⟩
    · exact ⟨hL'.2, hz'.2⟩
  have l1 : (sidesL L).length ≤ 4 := by unfold sidesL; split <;> simp
  refine ⟨L, rfl, fun p hp => ⟨L', rfl, fun q hq => ⟨L, rfl, fun i hi => ⟨_, um_same, ?_⟩⟩⟩⟩
  have hq0 : M q = none := by
    cases e : M q with
    | none => rfl
    | some o => have := le_um hp _ _ e (o := MO.lst (encs (sidesL L))); rw [hq] at this; cases this
  have npq : p ≠ q := fun z => by rw [z, um_same] at hq; cases hq
  have hi1 : um M p (.lst (encs (sidesL L))) i = none := by
    cases e : um M p (.lst (encs (sidesL L))) i with
    | none => rfl
    | some o => have := le_um hq _ _ e (o := MO.lst (encs (sidesL L'))); rw [hi] at this; cases this
  have npi : p ≠ i := fun z => by rw [z, um_same] at hi1; cases hi1
  have nqi : q ≠ i := fun z => by rw [z, um_same] at hi; cases hi
  have hi0 : M i = none := by rw [um_ne (Ne.symm npi)] at hi1; exact hi1
  have lfin : LE M (um (um (um M p (.lst (encs (sidesL L)))) q (.lst (encs (sidesL L')))) i (.lst (encs (sidesL L)))) := ((le_um hp).trans (le_um hq)).trans (le_um hi)
  refine for_map enc (sidesL L) (encs_map _) (fun pre post r M' => LE M M' ∧ M' i = some (.lst (encs (sidesL L))) ∧ ∃ o th x, M' p = some (.lst (encs o)) ∧ M' q = some (.lst (encs th)) ∧ lgF post (o, th) = lgF (sidesL L) (sidesL L, sidesL L') ∧ (∀ t ∈ o, t ∈ sidesL L) ∧ (∀ t ∈ th, t ∈ sidesL L') ∧ (∀ t, post.count t ≤ o.count t) ∧
    o.length ≤ 4 ∧ r = [some (.ob a), some (encL L), some (encL L'), some (.ob p), some (.ob q), x, none]) ⟨lfin, um_same, sidesL L, sidesL L', none, by rw [um_ne npi, um_ne npq, um_same], by rw [um_ne nqi, um_same], rfl, fun _ z => z, fun _ z => z, fun _ => Nat.le_refl _, l1, rfl⟩ (fun _ _ _ _ _ ⟨_, e, _⟩ => e) ?_ ?_
  · rintro pre t post r M' e ⟨le, hi', o, th, x, ho, hth, hf, so, sth, hc, hol, rfl⟩
    have ht : t ∈ sidesL L := by rw [e]; simp
    have hto : t ∈ o := by
      have := hc t
      rw [List.count_cons_self] at this
      exact List.count_pos_iff.mp (by omega)
    have f1 : D.flats 63 (encs th) = true := flats_encs (fun u hu => by have := d2 u (sth u hu); omega) rfl
    have f2 : D.flats 63 (encs o) = true := flats_encs (fun u hu => by have := d1 u (so u hu); omega) rfl
    have f3 : D.flat 64 (enc t) = true := flat64 (by have := d1 t ht; omega)
    refine ⟨encs th, hth, f3, f1, ?_⟩
    rw [any_encs]
    rw [lgF] at hf
    refine bI_i (fun e1 => ?_) (fun e1 => ?_)
    · have e2 : t ∈ th := of_decide_eq_true e1
      rw [if_pos e2] at hf
      obtain ⟨j1, a1, a2, a3⟩ := encs_erase e2
      obtain ⟨j2, b1, b2, b3⟩ := encs_erase hto
      refine ⟨q, _, rfl, hth, encs th, j1, enc t, hth, f1, f3, a1, by rw [deq_enc]; simp, a2, ?_⟩
      have hpo : um M' q (.lst ((encs th).eraseIdx j1)) p = some (.lst (encs o)) := by rw [um_ne npq]; exact ho
      refine ⟨p, _, rfl, hpo, encs o, j2, enc t, hpo, f2, f3, b1, by rw [deq_enc]; simp, b2, ?_⟩
      refine ⟨_, LE.refl _, (le.upd hq0).upd hp, ?_, o.erase t, th.erase t, some (enc t), ?_, ?_, hf, fun u hu => so u (List.mem_of_mem_erase hu), fun u hu => sth u (List.mem_of_mem_erase hu), fun u => ?_, ?_, rfl⟩
      · rw [um_ne (Ne.symm npi), um_ne (Ne.symm nqi)]; exact hi'
      · rw [um_same, b3]
      · rw [um_ne (Ne.symm npq), um_same, a3]
      · have := hc u
        rw [List.count_cons] at this
        rw [List.count_erase]
        split at this
        · rename_i z; rw [if_pos z]; omega
        · rename_i z; rw [if_neg z]; omega
      · have := List.length_erase_le (a := t) (l := o); omega
    · have e2 : ¬ t ∈ th := of_decide_eq_false e1
      rw [if_neg e2] at hf
      refine ⟨_, LE.refl _, le, hi', o, th, some (enc t), ho, hth, hf, so, sth, fun u => ?_, hol, rfl⟩
      have := hc u
      rw [List.count_cons] at this
      omega
  · rintro r M' ⟨le, hi', o, th, x, ho, hth, hf, so, sth, hc, hol, rfl⟩
    rw [lgF] at hf
    unfold lgt at h
    rw [← hf] at h
    unfold lgR at h
    refine ⟨encs o, ho, M', LE.refl M', ?_⟩
    cases o with
    | nil => 
      rw [if_pos (show ([] : List Tm).isEmpty = true from rfl)] at h
      exact ⟨M, le, h⟩
    | cons o1 o =>
      rw [if_neg (by simp)] at h
      refine ⟨encs th, hth, ?_⟩
      refine for_map enc th (encs_map _) (fun pre post r M2 => M2 = M' ∧ (∀ y ∈ pre, ((o1 :: o).any fun x => gtF W n x y) = true) ∧ ∃ x z, r = [some (.ob a), some (encL L), some (encL L'), some (.ob p), some (.ob q), x, z]) ⟨rfl, (fun y hy => by cases hy), x, none, rfl⟩ (fun _ _ _ _ _ ⟨e, _⟩ => by rw [e]; exact hth) ?_ ?_
      · rintro pre y post r M2 e ⟨rfl, hp', x, z, rfl⟩
        have hy : y ∈ th := by rw [e]; simp
        have hy2 := d2 y (sth y hy)
        refine ⟨encs (o1 :: o), ho, fun g hg => ?_⟩
        refine lc_gmap enc (o1 :: o) (fun u => .bl (gtF W n u y)) (encs_map _) hg (fun M3 l => l _ _ ho) (by omega) (fun u hu M3 l R' h' => ?_) ⟨g, (o1 :: o).map fun u => gtF W n u y, rfl, ?_, M2, le_um hg, ?_⟩
        · have hu2 := d1 u (so u hu)
          exact ⟨a, u, y, rfl, hw.le (le.trans l), hu2.1, hy2.1, hu2.2, hy2.2, h'⟩
        · rw [um_same, all_bl]
        · have ea : (((o1 :: o).map fun u => gtF W n u y).any id) = (o1 :: o).any fun u => gtF W n u y := by rw [List.any_map]; rfl
          rw [ea]
          refine bI_i (fun e1 => ?_) (fun e1 => ?_)
          · refine ⟨M, le, ?_⟩
            have e2 : ((o1 :: o).any fun u => gtF W n u y) = false := by rw [Bool.not_eq_true'] at e1; exact e1
            have e3 : (th.all fun y => (o1 :: o).any fun x => gtF W n x y) = false := by
              rw [List.all_eq_false]; exact ⟨y, hy, by rw [e2]; simp⟩
            rw [e3] at h
            exact h
          · have e2 : ((o1 :: o).any fun u => gtF W n u y) = true := by rw [Bool.not_eq_false'] at e1; exact e1
            refine ⟨_, LE.refl _, rfl, fun v hv => ?_, _, _, rfl⟩
            rcases List.mem_append.mp hv with h1 | h1
            · exact hp' v h1
            · rw [List.mem_singleton] at h1; rw [h1]; exact e2
      · rintro r M2 ⟨rfl, hp', x, z, rfl⟩
        refine ⟨M, le, ?_⟩
        have e3 : (th.all fun y => (o1 :: o).any fun x => gtF W n x y) = true := by rw [List.all_eq_true]; exact hp'
        rw [e3] at h
        exact h
end
end My
set_option maxHeartbeats 4000000
/-! F9: the law's order of clauses. -/
namespace My
open PySem PySem.Spec PyProof.Rows L2
theorem range_split {n i : Nat} {pre post : List Nat} (e : List.range n = pre ++ i :: post) : i = pre.length ∧ i < n := by
  have h1 : (List.range n)[pre.length]? = some i := by rw [e]; simp
  have h2 : i ∈ List.range n := by rw [e]; simp
  have h3 := List.mem_range.mp h2
  rw [List.getElem?_eq_some_iff] at h1
  obtain ⟨h4, h5⟩ := h1
  rw [List.getElem_range] at h5
  exact ⟨h5.symm, h3⟩
theorem le_fresh {M M' : Mp} {p : Addr} (l : LE M M') (h : M' p = none) : M p = none := by
  cases e : M p with
  | none => rfl
  | some o => rw [l _ _ e] at h; cases h
section
variable {P : Program} {w : World} {K : PySem.W.Frag} {mg : Str → Option Value} {base : Heap} {T : List (Addr × Str)} {k : Nat}
def spCG (W : Sym → Int) (n : Nat) : SpD := fun ds M R => ∃ a c d, ds = [.ob a, encC c, encC d] ∧ WtOK M a W ∧ CD 16 c ∧ CD 16 d ∧ (∀ L ∈ c, L.l.size < n ∧ L.r.size < n) ∧ CZ 900 d ∧ c.length ≤ 100 ∧ d.length ≤ 100 ∧ R (.bl (cgt W n c d)) M
theorem sc_l_clause_greater : FnScope ["_law_weights_here", "_law_first", "_law_second", "_law_ours", "_law_theirs", "_law_literal_here", "_law_at", "_law_k", "_law_one"] ["_law_weights_here", "_law_first", "_law_second"] (defScope (top 74)) := ⟨rfl, rfl, rfl, by decide +kernel, rfl, by decide +kernel, by decide +kernel⟩
theorem c_l_clause_greater (DA : DefAt K mg "_law_clause_greater" (top 74)) {W : Sym → Int} {n : Nat} (C_l_same : Cal P w K mg base T k "_law_same" spSameL) (C_l_literal_greater : Cal P w K mg base T k "_law_literal_greater" (spLG W n)) (m_any : mg "any" = none) (m_len : mg "len" = none) (m_list : mg "list" = none) (m_range : mg "range" = none) : Cal P w K mg base T (k + 1) "_law_clause_greater" (spCG W n) := by
  refine dcal DA sc_l_clause_greater (fun _ _ _ _ _ _ us hl => match us, hl with | [_, _, _], _ => rfl) (fun f cdv A outer s H E hr =>
    (dss_cons (ds_set (i := 3) sc_l_clause_greater.nd (.inl rfl) (d_lst da_nil))
    (dss_cons (ds_set (i := 4) sc_l_clause_greater.nd (.inl rfl) (d_toLst (dv 2 (.inl rfl)) (hg := by rfl) (hm := m_list)))
    (dss_cons (ds_for PassesOwn.never rfl (di_tup (dv 1 (.inl rfl))) (dg_name (i := 5) sc_l_clause_greater.nd (.inr rfl))
      (dss_cons (ds_set (i := 6) sc_l_clause_greater.nd (.inl rfl) (d_neg d_int))
      (dss_cons (ds_for PassesOwn.never rfl (di_rng (d_len (dv 4 (.inl rfl)) (hg := by rfl) (hm := m_len)) (by rfl) m_range) (dg_name (i := 7) sc_l_clause_greater.nd (.inl rfl))
        (dss_one (ds_if (PW.pt (dw_and (dt_lt (dv 6 (.inl rfl)) d_int) (dw_and1 (dt_val (d_call C_l_same hr (by rfl) (da_cons (d_ix (dv 4 (.inl rfl)) (dv 7 (.inl rfl))) (da_cons (dv 5 (.inr (.inl rfl))) da_nil)))))))
          (dss_one (ds_set (i := 6) sc_l_clause_greater.nd (.inl rfl) (dv 7 (.inl rfl))))
          dss_nil)))
      (dss_one (ds_if (dt_lt (dv 6 (.inl rfl)) d_int)
        (dss_one (ds_expr (d_append (dv 3 (.inl rfl)) (dv 5 (.inr (.inl rfl))))))
        (dss_one (ds_set (i := 4) sc_l_clause_greater.nd (.inl rfl) (d_cat (d_slice (dv 4 (.inl rfl)) do_none (do_some (dv 6 (.inl rfl)))) (d_slice (dv 4 (.inl rfl)) (do_some (d_add (dv 6 (.inl rfl)) d_int)) do_none)))))))))
    (dss_cons (ds_if (dt_not (dt_tru (dv 3 (.inl rfl))))
      (dss_one (ds_ret d_bl))
      dss_nil)
    (dss_cons (ds_for PassesOwn.never rfl (di_lst (dv 4 (.inl rfl))) (dg_name (i := 5) sc_l_clause_greater.nd (.inr rfl))
      (dss_one (ds_if (dt_not (dt_val (d_any (d_lc (i := 8) rfl sc_l_clause_greater.nd (di_lst (dv 3 (.inl rfl))) (blkOk_by (by rfl)) (fun _ _ _ _ _ => pg_name (i := 8) sc_l_clause_greater.nd rfl (.inl rfl)) (fun _ _ _ _ _ => dts_nil) (fun _ _ _ _ _ => (d_call C_l_literal_greater hr (by rfl) (da_cons (dv 0 (.inr (.inl rfl))) (da_cons (dv 8 (.inl rfl)) (da_cons (dv 5 (.inr (.inl rfl))) da_nil)))))) (hg := by rfl) (hm := m_any))))
        (dss_one (ds_ret d_bl))
        dss_nil)))
    (dss_one (ds_ret d_bl)))))))) (fun ds M R h => by obtain ⟨_, _, _, rfl, _⟩ := h; rfl) (fun ds M R h => ?_)

  obtain ⟨a, c, d, rfl, hw, hc, hd, hz, hz', hl1, hl2, h⟩ := h
  refine fun p hp => fun q hq => ?_
  have npq : p ≠ q := fun z => by rw [z, um_same] at hq; cases hq
  refine for_map encL c rfl (fun pre post r M' => LE M M' ∧ ∃ o th q x1 x2 x3, M' p = some (.lst (o.map encL)) ∧ M' q = some (.lst (th.map encL)) ∧ p ≠ q ∧ cgF post (o, th) = cgF c ([], d) ∧ (∀ L ∈ o, L ∈ c) ∧ (∀ L ∈ th, L ∈ d) ∧ o.length + post.length ≤ c.length ∧ th.length ≤ d.length ∧
    r = [some (.ob a), some (encC c), some (encC d), some (.ob p), some (.ob q), x1, x2, x3, none]) ⟨(le_um hp).trans (le_um hq), [], d, q, none, none, none, by rw [um_ne npq, um_same]; rfl, by rw [um_same], npq, rfl, (fun _ z => by cases z), fun _ z => z, by simp, Nat.le_refl _, rfl⟩ (fun _ _ _ _ _ _ => trivial) ?_ ?_
  · rintro pre L post r M' e ⟨le, o, th, q, x1, x2, x3, ho, hth, npq, hf, so, sth, hol, htl, rfl⟩
    have hLc : L ∈ c := by rw [e]; simp
    have hLd := hc L hLc
    refine ⟨_, hth, ?_⟩
    have el : (th.map encL).length = th.length := List.length_map ..
    refine ⟨by rw [el]; omega, by omega, ?_⟩
    refine for_map (fun i : Nat => D.int (i : Nat)) (List.range th.length) (by rw [el]; rfl) (fun pre2 post2 r M2 => M2 = M' ∧ ∃ (at' : Int) (x3 : Option D), ((at' = -1 ∧ ∀ m b, m < pre2.length → th[m]? = some b → sameL b L = false) ∨ ∃ (j : Nat) (b : Lit), at' = (j : Int) ∧ th[j]? = some b ∧ sameL b L = true ∧ ∀ m b, m < j → th[m]? = some b → sameL b L = false) ∧
      r = [some (.ob a), some (encC c), some (encC d), some (.ob p), some (.ob q), some (encL L), some (.int at'), x3, none]) ⟨rfl, -1, x3, .inl ⟨rfl, fun m b hm => by simp at hm⟩, rfl⟩ (fun _ _ _ _ _ _ => trivial) ?_ ?_
    · rintro pre2 i post2 r M2 e2 ⟨rfl, at', x3, hat, rfl⟩
      obtain ⟨hi, hilt⟩ := range_split e2
      have hgi : th[i]? = some th[i] := List.getElem?_eq_getElem hilt
      have hbD := hd _ (sth _ (List.getElem_mem hilt))
      rcases hat with ⟨rfl, hno⟩ | ⟨j, b, rfl, hj, hs, hno⟩
      · refine ⟨_, encL th[i], hth, get_C hgi, th[i], L, rfl, ⟨by have := hbD.1; omega, by have := hbD.2; omega⟩, ⟨by have := hLd.1; omega, by have := hLd.2; omega⟩, ?_⟩
        refine bI_i (fun es => ?_) (fun es => ?_)
        · exact ⟨_, LE.refl _, rfl, (i : Nat), _, .inr ⟨i, th[i], rfl, hgi, es, fun m b hm hb => hno m b (by omega) hb⟩, rfl⟩
        · refine ⟨_, LE.refl _, rfl, -1, _, .inl ⟨rfl, fun m b hm hb => ?_⟩, rfl⟩
          rw [List.length_append, List.length_singleton] at hm
          by_cases e : m = i
          · subst e; rw [hgi] at hb; cases hb; exact es
          · exact hno m b (by omega) hb
      · exact ⟨_, LE.refl _, rfl, (j : Nat), _, .inr ⟨j, b, rfl, hj, hs, hno⟩, rfl⟩
    · rintro r M2 ⟨rfl, at', x3, hat, rfl⟩
      rw [cgF] at hf
      rcases hat with ⟨rfl, hno⟩ | ⟨j, b, rfl, hj, hs, hno⟩
      · have hr : rem1 th L = none := rem1_none fun b hb => by
          obtain ⟨m, hm, e⟩ := List.getElem_of_mem hb
          exact hno m b (by rw [List.length_range]; exact hm) (by rw [List.getElem?_eq_getElem hm, e])
        rw [hr] at hf
        refine ⟨p, _, rfl, ho, o.map encL, ho, ?_, ⟨_, LE.refl _, le.upd hp, o ++ [L], th, q, _, _, _, by rw [um_same, List.map_append]; rfl, by rw [um_ne (Ne.symm npq)]; exact hth, npq, hf, ?_, sth, ?_, htl, rfl⟩⟩
        · rw [List.length_map]; rw [List.length_cons] at hol; omega
        · intro x hx
          rcases List.mem_append.mp hx with z | z
          · exact so x z
          · rw [List.mem_singleton] at z; rw [z]; exact hLc
        · rw [List.length_append, List.length_singleton]; rw [List.length_cons] at hol; omega
      · have hr := rem1_at hno ⟨b, hj, hs⟩
        rw [hr] at hf
        obtain ⟨hjl, _⟩ := List.getElem?_eq_some_iff.mp hj
        refine ⟨_, hth, fun p1 h1 => ⟨_, by rw [um_ne (mne hth h1)]; exact hth, fun p2 h2 => ?_⟩⟩
        have e1 : um (um M2 p1 (.lst (cutD (th.map encL) none (some (j : Int))))) p2 (.lst (cutD (th.map encL) (some ((j : Int) + 1)) none)) p1 = some (.lst ((th.take j).map encL)) := by
          rw [um_ne (mne um_same h2), um_same, cut_to, List.map_take]
        have e2 : um (um M2 p1 (.lst (cutD (th.map encL) none (some (j : Int))))) p2 (.lst (cutD (th.map encL) (some ((j : Int) + 1)) none)) p2 = some (.lst ((th.drop (j + 1)).map encL)) := by
          rw [um_same, show ((j : Int) + 1) = ((j + 1 : Nat) : Int) from rfl, cut_from, List.map_drop]
        refine ⟨_, _, e1, e2, ?_, fun p3 h3 => ?_⟩
        · rw [List.length_map, List.length_map, List.length_take, List.length_drop]; omega
        · have le3 : LE M2 (um (um (um M2 p1 (.lst (cutD (th.map encL) none (some (j : Int))))) p2 (.lst (cutD (th.map encL) (some ((j : Int) + 1)) none))) p3 (.lst ((th.take j).map encL ++ (th.drop (j + 1)).map encL))) := ((le_um h1).trans (le_um h2)).trans (le_um h3)
          refine ⟨_, LE.refl _, le.trans le3, o, th.take j ++ th.drop (j + 1), p3, _, _, _, le3 _ _ ho, by rw [um_same, List.map_append], ?_, hf, so, ?_, ?_, ?_, rfl⟩
          · intro z
            have := le_um h2 (o := MO.lst (cutD (th.map encL) (some ((j : Int) + 1)) none)) _ _ (le_um h1 (o := MO.lst (cutD (th.map encL) none (some (j : Int)))) _ _ ho)
            rw [z, h3] at this; cases this
          · intro x hx
            exact sth x (rem1_sub hr x hx)
          · rw [List.length_cons] at hol; omega
          · have := rem1_len hr; omega
  · rintro r M' ⟨le, o, th, q, x1, x2, x3, ho, hth, npq, hf, so, sth, hol, htl, rfl⟩
    rw [cgF] at hf
    unfold cgt at h
    rw [← hf] at h
    unfold cgR at h
    refine ⟨_, ho, M', LE.refl M', ?_⟩
    cases o with
    | nil =>
      rw [if_pos (show ([] : Cl).isEmpty = true from rfl)] at h
      exact ⟨M, le, h⟩
    | cons o1 o =>
      rw [if_neg (by simp)] at h
      refine ⟨_, hth, ?_⟩
      refine for_map encL th rfl (fun pre post r M2 => M2 = M' ∧ (∀ y ∈ pre, ((o1 :: o).any fun x => lgt W n x y) = true) ∧ ∃ x1 x2 x3 z, r = [some (.ob a), some (encC c), some (encC d), some (.ob p), some (.ob q), x1, x2, x3, z]) ⟨rfl, (fun y hy => by cases hy), x1, x2, x3, none, rfl⟩ (fun _ _ _ _ _ ⟨e, _⟩ => by rw [e]; exact hth) ?_ ?_
      · rintro pre y post r M2 e ⟨rfl, hp', x1, x2, x3, z, rfl⟩
        have hy : y ∈ th := by rw [e]; simp
        have hy2 := hd y (sth y hy)
        have hy3 := hz' y (sth y hy)
        refine ⟨_, ho, fun g hg => ?_⟩
        refine lc_gmap encL (o1 :: o) (fun u => .bl (lgt W n u y)) rfl hg (fun M3 l => l _ _ ho) (by simp only [List.length_nil, Nat.add_zero] at hol; omega) (fun u hu M3 l R' h' => ?_) ⟨g, (o1 :: o).map fun u => lgt W n u y, rfl, ?_, M2, le_um hg, ?_⟩
        · have hu2 := hc u (so u hu)
          have hu3 := hz u (so u hu)
          exact ⟨a, u, y, rfl, hw.le (le.trans l), hu2, hy2, hu3.1, hu3.2, hy3, h'⟩
        · rw [um_same]
          show some (MO.lst ((o1 :: o).map fun u => D.bl (lgt W n u y))) = _
          rw [List.map_map]; rfl
        · have ea : (((o1 :: o).map fun u => lgt W n u y).any id) = (o1 :: o).any fun u => lgt W n u y := by rw [List.any_map]; rfl
          rw [ea]
          refine bI_i (fun e1 => ?_) (fun e1 => ?_)
          · refine ⟨M, le, ?_⟩
            have e2 : ((o1 :: o).any fun u => lgt W n u y) = false := by rw [Bool.not_eq_true'] at e1; exact e1
            have e3 : (th.all fun y => (o1 :: o).any fun x => lgt W n x y) = false := by
              rw [List.all_eq_false]; exact ⟨y, hy, by rw [e2]; simp⟩
            rw [e3] at h
            exact h
          · have e2 : ((o1 :: o).any fun u => lgt W n u y) = true := by rw [Bool.not_eq_false'] at e1; exact e1
            refine ⟨_, LE.refl _, rfl, fun v hv => ?_, _, _, _, _, rfl⟩
            rcases List.mem_append.mp hv with h1 | h1
            · exact hp' v h1
            · rw [List.mem_singleton] at h1; rw [h1]; exact e2
      · rintro r M2 ⟨rfl, hp', x1, x2, x3, z, rfl⟩
        refine ⟨M, le, ?_⟩
        have e3 : (th.all fun y => (o1 :: o).any fun x => lgt W n x y) = true := by rw [List.all_eq_true]; exact hp'
        rw [e3] at h
        exact h
end
end My
set_option maxHeartbeats 4000000
/-! F10: well-formed clauses, variables, uses. -/
namespace My
open PySem PySem.Spec PyProof.Rows L2
def tru : Tm := .app (0, 0, 0) []
theorem enc_tru : enc tru = .tup [.tup [.int 0, .int 0, .int 0], .tup []] := rfl
noncomputable def GLt (L : Lit) : Bool := (isInd L.l && isInd L.r) || (isAtm L.l && decide (L.r = tru))
theorem tabT_dep (t : Tm) : (tabT t).dep = t.dep := by
  cases t with
  | var x => rfl
  | app f as => rw [tabT]; split <;> simp [Tm.dep]
theorem tabT_size (t : Tm) : (tabT t).size = t.size := by
  cases t with
  | var x => rfl
  | app f as => rw [tabT]; split <;> simp [Tm.size]
def collC (xs : List Int) : Cl → List Int
  | [] => xs
  | L :: c => collC (coll (coll xs L.l) L.r) c
def csz : Cl → Nat
  | [] => 0
  | L :: c => L.l.size + L.r.size + csz c
abbrev Us := Sym × Nat
def encU (u : Us) : D := .tup [esym u.1, .int (u.2 : Nat)]
theorem deq_encU (a b : Us) : deq (encU a) (encU b) = decide (a = b) := by
  unfold encU
  rw [deq_tup, deqs_cons, deqs_cons, deqs_nil, deq_sym, deq_int, Bool.and_true, Bool.eq_iff_iff]
  obtain ⟨f, n⟩ := a
  obtain ⟨g, m⟩ := b
  simp only [Bool.and_eq_true, decide_eq_true_eq, beq_iff_eq, Prod.mk.injEq]
  exact ⟨fun h => ⟨h.1, by omega⟩, fun h => ⟨h.1, by omega⟩⟩
theorem any_encU (u : Us) : ∀ xs : List Us, ((xs.map encU).any fun z => deq z (encU u)) = decide (u ∈ xs)
  | [] => by simp
  | a :: xs => by
    rw [List.map_cons, List.any_cons, any_encU u xs, deq_encU, Bool.eq_iff_iff]
    simp only [Bool.or_eq_true, decide_eq_true_eq, List.mem_cons]
    exact ⟨fun h => h.imp Eq.symm id, fun h => h.imp Eq.symm id⟩
theorem flat_encU (u : Us) : D.flat 6 (encU u) = true := by simp [encU, esym, D.flat, D.flats]
theorem flats_encU (xs : List Us) : ∀ {n : Nat}, n = 63 → D.flats n (xs.map encU) = true := by
  intro n hn
  induction xs with
  | nil => rw [List.map_nil, D.flats]
  | cons a as ih =>
    rw [List.map_cons, flats_cons, Bool.and_eq_true]
    exact ⟨flat_le (n := 6) (by omega) (flat_encU a), ih⟩
def us1 (xs : List Us) (f : Sym) (as : List Tm) : List Us := if (f, as.length) ∉ xs ∧ ¬ (f = (0, 0, 0) ∧ as.length = 0) then xs ++ [(f, as.length)] else xs
mutual
def usT (xs : List Us) : Tm → List Us
  | .var _ => xs
  | .app f as => usTs (us1 xs f as) as
def usTs (xs : List Us) : List Tm → List Us
  | [] => xs
  | a :: as => usTs (usT xs a) as
end
theorem usTs_app (as bs : List Tm) : ∀ xs : List Us, usTs xs (as ++ bs) = usTs (usTs xs as) bs := by
  induction as with
  | nil => intro xs; rw [List.nil_append, usTs]
  | cons a as ih => intro xs; rw [List.cons_append, usTs, usTs, ih]
theorem us1_len (xs : List Us) (f : Sym) (as : List Tm) : (us1 xs f as).length ≤ xs.length + 1 := by
  unfold us1; split
  · simp
  · omega
mutual
theorem usT_len (t : Tm) (xs : List Us) : (usT xs t).length ≤ xs.length + t.size := by
  cases t with
  | var x => rw [usT]; omega
  | app f as => rw [usT, size_app]; have := us1_len xs f as; have := usTs_len as (us1 xs f as); omega
theorem usTs_len (as : List Tm) (xs : List Us) : (usTs xs as).length ≤ xs.length + Tm.sizes as := by
  cases as with
  | nil => rw [usTs]; omega
  | cons a as => rw [usTs, Tm.sizes]; have := usT_len a xs; have := usTs_len as (usT xs a); omega
end
def usC (xs : List Us) : Cl → List Us
  | [] => xs
  | L :: c => usC (usT (usT xs L.l) L.r) c
def wfP (M : Mp) (c : Cl) (p : Addr) (pre post : List Lit) (r : Rho) (M' : Mp) : Prop :=
  LE M M' ∧ ∃ (c' : Cl) (o x : Option D), M' p = some (.lst (c'.map encL)) ∧ c'.length + post.length ≤ c.length ∧ (∀ L ∈ c', GLt L = true ∧ ∃ L0 ∈ c, L = tabL L0) ∧ r = [some (encC c), some (.ob p), x, o]
section
variable {P : Program} {w : World} {K : PySem.W.Frag} {mg : Str → Option Value} {base : Heap} {T : List (Addr × Str)} {k : Nat}
def spWF : SpD := fun ds M R => ∃ c, ds = [encC c] ∧ CD 16 c ∧ CZ 900 c ∧ c.length ≤ 100 ∧ ∀ c' : Cl, c'.length ≤ c.length → (∀ L ∈ c', GLt L = true ∧ ∃ L0 ∈ c, L = tabL L0) → R (encC c') M
theorem sc_l_well_formed : FnScope ["_law_clause_here", "_law_kept", "_law_literal_here", "_law_one"] ["_law_clause_here"] (defScope (top 78)) := ⟨rfl, rfl, rfl, by decide +kernel, rfl, by decide +kernel, by decide +kernel⟩
theorem c_l_well_formed (DA : DefAt K mg "_law_well_formed" (top 78)) (C_l_tabled : Cal P w K mg base T k "_law_tabled" spTab) (C_l_is_individual : Cal P w K mg base T k "_law_is_individual" (spInd 16)) (C_l_is_atomic : Cal P w K mg base T k "_law_is_atomic" spAtm) (m_tuple : mg "tuple" = none) : Cal P w K mg base T (k + 1) "_law_well_formed" spWF := by
  refine dcal DA sc_l_well_formed (fun _ _ _ _ _ _ us hl => match us, hl with | [_], _ => rfl) (fun f cdv A outer s H E hr =>
    (dss_cons (ds_set (i := 1) sc_l_well_formed.nd (.inl rfl) (d_lst da_nil))
    (dss_cons (ds_for PassesOwn.never rfl (di_tup (dv 0 (.inl rfl))) (dg_name (i := 2) sc_l_well_formed.nd (.inl rfl))
      (dss_cons (ds_set (i := 3) sc_l_well_formed.nd (.inl rfl) (d_call C_l_tabled hr (by rfl) (da_cons (dv 2 (.inl rfl)) da_nil)))
      (dss_one (ds_if (PW.pt (dw_and (dt_val (d_call C_l_is_individual hr (by rfl) (da_cons (d_ix (dv 3 (.inl rfl)) d_int) da_nil))) (dw_and1 (dt_val (d_call C_l_is_individual hr (by rfl) (da_cons (d_ix (dv 3 (.inl rfl)) d_int) da_nil))))))
        (dss_one (ds_expr (d_append (dv 1 (.inl rfl)) (dv 3 (.inl rfl)))))
        (dss_one (ds_if (PW.pt (dw_and (dt_val (d_call C_l_is_atomic hr (by rfl) (da_cons (d_ix (dv 3 (.inl rfl)) d_int) da_nil))) (dw_and1 (dt_eq hr.units (d_ix (dv 3 (.inl rfl)) d_int) (d_tup (da_cons (d_tup (da_cons d_int (da_cons d_int (da_cons d_int da_nil)))) (da_cons (d_tup da_nil) da_nil)))))))
          (dss_one (ds_expr (d_append (dv 1 (.inl rfl)) (dv 3 (.inl rfl)))))
          dss_nil))))))
    (dss_one (ds_ret (d_toTup (dv 1 (.inl rfl)) (hg := by rfl) (hm := m_tuple))))))) (fun ds M R h => by obtain ⟨_, rfl, _⟩ := h; rfl) (fun ds M R h => ?_)

  obtain ⟨c, rfl, hc, hz, hl, h⟩ := h
  refine fun p hp => ?_
  refine for_map encL c rfl (wfP M c p) ⟨le_um hp, [], none, none, um_same, by simp, (fun _ z => by cases z), rfl⟩ (fun _ _ _ _ _ _ => trivial) ?_ ?_
  · rintro pre L post r M' e ⟨le, c', o, x, hp', hlen, hall, rfl⟩
    have hL : L ∈ c := by rw [e]; simp
    have hD := hc L hL
    have hZ := hz L hL
    rw [List.length_cons] at hlen
    have a1 : (tabT L.l).dep < 16 := by rw [tabT_dep]; exact hD.1
    have a2 : (tabT L.l).size ≤ 900 := by rw [tabT_size]; exact hZ.1
    have add : GLt (tabL L) = true → ∃ M'_1, LE M'_1 (um M' p (.lst (c'.map encL ++ [encL (tabL L)]))) ∧ wfP M c p (pre ++ [L]) post [some (encC c), some (.ob p), some (encL L), some (encL (tabL L))] M'_1 := fun hg => by
      refine ⟨_, LE.refl _, le.upd hp, c' ++ [tabL L], _, _, by rw [um_same, List.map_append]; rfl, by rw [List.length_append, List.length_singleton]; omega, ?_, rfl⟩
      intro L' hL'
      rcases List.mem_append.mp hL' with z | z
      · exact hall L' z
      · rw [List.mem_singleton] at z; rw [z]; exact ⟨hg, L, hL, rfl⟩
    have skip : ∃ M'_1, LE M'_1 M' ∧ wfP M c p (pre ++ [L]) post [some (encC c), some (.ob p), some (encL L), some (encL (tabL L))] M'_1 := ⟨_, LE.refl _, le, c', _, _, hp', by omega, hall, rfl⟩
    have hln : (c'.map encL).length < 1000 := by rw [List.length_map]; omega
    refine ⟨L, rfl, tabT L.l, rfl, a1, a2, bI_i (fun e1 => ⟨L.r, rfl, hD.2, hZ.2, bI_i (fun e2 => ?_) (fun e2 => ?_)⟩) (fun e1 => ?_)⟩
    · exact ⟨p, _, rfl, hp', _, hp', hln, add (by unfold GLt; rw [show (tabL L).l = tabT L.l from rfl, show (tabL L).r = L.r from rfl, e1, e2]; simp)⟩
    all_goals
      refine ⟨tabT L.l, rfl, a1, a2, bI_i (fun e3 => ⟨flat64 (t := L.r) (by have := hD.2; omega), flat64 (t := tru) (by decide), bI_i (fun e4 => ?_) (fun e4 => skip)⟩) (fun e3 => skip)⟩
      have e5 : L.r = tru := of_decide_eq_true ((deq_enc L.r tru).symm.trans e4)
      exact ⟨p, _, rfl, hp', _, hp', hln, add (by unfold GLt; rw [show (tabL L).l = tabT L.l from rfl, show (tabL L).r = L.r from rfl, e3, decide_eq_true e5]; simp)⟩
  · rintro r M' ⟨le, c', o, x, hp', hlen, hall, rfl⟩
    refine ⟨_, hp', M, le, ret ?_⟩
    exact h c' (by simpa using hlen) hall
def spCV : SpD := fun ds M R => ∃ c, ds = [encC c] ∧ CD 16 c ∧ csz c ≤ 800 ∧ ∀ M' p, LE M M' → M' p = some (.lst ((collC [] c).map D.int)) → R (.ob p) M'
theorem collC_len : ∀ (c : Cl) (xs : List Int), (collC xs c).length ≤ xs.length + csz c
  | [], xs => by rw [collC, csz]; omega
  | L :: c, xs => by
    rw [collC, csz]
    have := collC_len c (coll (coll xs L.l) L.r)
    have := coll_len L.r (coll xs L.l)
    have := coll_len L.l xs
    omega
theorem sc_l_clause_variables : FnScope ["_law_clause_here", "_law_found", "_law_literal_here"] ["_law_clause_here"] (defScope (top 79)) := ⟨rfl, rfl, rfl, by decide +kernel, rfl, by decide +kernel, by decide +kernel⟩
theorem c_l_clause_variables (DA : DefAt K mg "_law_clause_variables" (top 79)) (C_l_variables : Cal P w K mg base T k "_law_variables" (spLVars 16)) : Cal P w K mg base T (k + 1) "_law_clause_variables" spCV := by
  refine dcal DA sc_l_clause_variables (fun _ _ _ _ _ _ us hl => match us, hl with | [_], _ => rfl) (fun f cdv A outer s H E hr =>
    (dss_cons (ds_set (i := 1) sc_l_clause_variables.nd (.inl rfl) (d_lst da_nil))
    (dss_cons (ds_for PassesOwn.never rfl (di_tup (dv 0 (.inl rfl))) (dg_name (i := 2) sc_l_clause_variables.nd (.inl rfl))
      (dss_cons (ds_set (i := 1) sc_l_clause_variables.nd (.inl rfl) (d_call C_l_variables hr (by rfl) (da_cons (d_ix (dv 2 (.inl rfl)) d_int) (da_cons (dv 1 (.inl rfl)) da_nil))))
      (dss_one (ds_set (i := 1) sc_l_clause_variables.nd (.inl rfl) (d_call C_l_variables hr (by rfl) (da_cons (d_ix (dv 2 (.inl rfl)) d_int) (da_cons (dv 1 (.inl rfl)) da_nil)))))))
    (dss_one (ds_ret (dv 1 (.inl rfl))))))) (fun ds M R h => by obtain ⟨_, rfl, _⟩ := h; rfl) (fun ds M R h => ?_)

  obtain ⟨c, rfl, hc, hz, h⟩ := h
  refine fun p hp => ?_
  refine for_map encL c rfl (fun pre post r M' => LE M M' ∧ ∃ xs q o, M' q = some (.lst (xs.map D.int)) ∧ collC xs post = collC [] c ∧ xs.length + csz post ≤ 800 ∧ r = [some (encC c), some (.ob q), o]) ⟨le_um hp, [], p, none, um_same, rfl, by simpa using hz, rfl⟩ (fun _ _ _ _ _ _ => trivial) ?_ ?_
  · rintro pre L post r M' e ⟨le, xs, q, o, hq, hf, hlen, rfl⟩
    have hD := hc L (by rw [e]; simp)
    rw [csz] at hlen
    rw [collC] at hf
    have l1 := coll_len L.l xs
    have l2 := coll_len L.r (coll xs L.l)
    refine ⟨L.l, q, xs, rfl, hq, hD.1, by omega, fun M2 p2 le2 h2 => ⟨L.r, p2, _, rfl, h2, hD.2, by omega, fun M3 p3 le3 h3 => ⟨_, LE.refl _, (le.trans le2).trans le3, _, p3, _, h3, hf, by omega, rfl⟩⟩⟩
  · rintro r M' ⟨le, xs, q, o, hq, hf, hlen, rfl⟩
    rw [collC] at hf
    rw [hf] at hq
    exact ret (h M' q le hq)
def spUses (n : Nat) : SpD := fun ds M R => ∃ t a xs, ds = [enc t, .ob a] ∧ M a = some (.lst (xs.map encU)) ∧ t.dep < n ∧ t.dep < 20 ∧ xs.length + t.size ≤ 900 ∧ ∀ M' p, LE M M' → M' p = some (.lst ((usT xs t).map encU)) → R (.ob p) M'
theorem sc_l_uses : FnScope ["_law_term_here", "_law_found", "_law_part_here"] ["_law_term_here", "_law_found"] (defScope (top 80)) := ⟨rfl, rfl, rfl, by decide +kernel, rfl, by decide +kernel, by decide +kernel⟩
theorem c_l_uses (DA : DefAt K mg "_law_uses" (top 80)) {n : Nat} (C_l_is_variable : Cal P w K mg base T k "_law_is_variable" spIsVar) (C_l_uses : Cal P w K mg base T k "_law_uses" (spUses n)) (m_len : mg "len" = none) : Cal P w K mg base T (k + 1) "_law_uses" (spUses (n + 1)) := by
  refine dcal DA sc_l_uses (fun _ _ _ _ _ _ us hl => match us, hl with | [_, _], _ => rfl) (fun f cdv A outer s H E hr =>
    (dss_cons (ds_if (dt_val (d_call C_l_is_variable hr (by rfl) (da_cons (dv 0 (.inl rfl)) da_nil)))
      (dss_one (ds_ret (dv 1 (.inl rfl))))
      dss_nil)
    (dss_cons (ds_if (PW.pt (dw_and (dt_notInD (u65 hr) (d_tup (da_cons (d_ix (dv 0 (.inl rfl)) d_int) (da_cons (d_len (d_ix (dv 0 (.inl rfl)) d_int) (hg := by rfl) (hm := m_len)) da_nil))) (dv 1 (.inl rfl))) (dw_and1 (dt_ne hr.units (dv 0 (.inl rfl)) (d_tup (da_cons (d_tup (da_cons d_int (da_cons d_int (da_cons d_int da_nil)))) (da_cons (d_tup da_nil) da_nil)))))))
      (dss_one (ds_set (i := 1) sc_l_uses.nd (.inl rfl) (d_cat (dv 1 (.inl rfl)) (d_lst (da_cons (d_tup (da_cons (d_ix (dv 0 (.inl rfl)) d_int) (da_cons (d_len (d_ix (dv 0 (.inl rfl)) d_int) (hg := by rfl) (hm := m_len)) da_nil))) da_nil)))))
      dss_nil)
    (dss_cons (ds_for PassesOwn.never rfl (di_tup (d_ix (dv 0 (.inl rfl)) d_int)) (dg_name (i := 2) sc_l_uses.nd (.inl rfl))
      (dss_one (ds_set (i := 1) sc_l_uses.nd (.inl rfl) (d_call C_l_uses hr (by rfl) (da_cons (dv 2 (.inl rfl)) (da_cons (dv 1 (.inl rfl)) da_nil))))))
    (dss_one (ds_ret (dv 1 (.inl rfl)))))))) (fun ds M R h => by obtain ⟨_, _, _, rfl, _⟩ := h; rfl) (fun ds M R h => ?_)

  obtain ⟨t, a, xs, rfl, ha, hd, hd2, hz, h⟩ := h
  refine ⟨t, rfl, ?_⟩
  cases t with
  | var y =>
    rw [usT] at h
    exact bI_t rfl (ret (h M a (LE.refl M) ha))
  | app f as =>
    rw [usT] at h
    rw [size_app] at hz
    have loop : ∀ M1 q, LE M M1 → M1 q = some (.lst ((us1 xs f as).map encU)) → forD ⟨encs as, fun _ => True⟩ (gNameD 2) (tSetD 1 (tCallD (spUses n) (tConsD (tVarD 2) (tConsD (tVarD 1) tNilD)))) { endD R with nx := tRetD (tVarD 1) (endD R) } [some (enc (.app f as)), some (.ob q), none] M1 := by
      intro M1 q le hq
      have hl1 := us1_len xs f as
      rw [dep_app] at hd hd2
      refine for_map enc as (encs_map as) (fun pre post r M' => LE M M' ∧ ∃ ys o q, M' q = some (.lst (ys.map encU)) ∧ usTs ys post = usTs (us1 xs f as) as ∧ ys.length + Tm.sizes post ≤ 900 ∧ r = [some (enc (.app f as)), some (.ob q), o]) ⟨le, _, none, q, hq, rfl, by omega, rfl⟩ (fun _ _ _ _ _ _ => trivial) ?_ ?_
      · rintro pre u post r M' e ⟨le, ys, o, q, hq, hf, hlen, rfl⟩
        have hu : u ∈ as := by rw [e]; simp
        have h1 := dep_mem hu
        rw [usTs] at hf
        rw [Tm.sizes] at hlen
        have h2 := usT_len u ys
        exact ⟨u, q, ys, rfl, hq, by omega, by omega, by omega, fun M2 p l2 hp => ⟨_, LE.refl _, le.trans l2, _, some (enc u), p, hp, hf, by omega, rfl⟩⟩
      · rintro r M' ⟨le, ys, o, q, hq, hf, hlen, rfl⟩
        rw [usTs] at hf
        rw [hf] at hq
        exact ret (h M' q le hq)
    have ek : (D.tup [esym f, .int (((encs as).length : Nat) : Int)]) = encU (f, as.length) := by rw [encs_len]; rfl
    have keep : ¬ ((f, as.length) ∉ xs ∧ ¬ (f = (0, 0, 0) ∧ as.length = 0)) → us1 xs f as = xs := fun z => by unfold us1; rw [if_neg z]
    refine bI_f rfl ⟨xs.map encU, ha, (congrArg (D.flat 64) ek).trans (flat_le (n := 6) (by omega) (flat_encU _)), flats_encU xs rfl, ?_⟩
    have eqv : (!(xs.map encU).any fun z => deq z (D.tup [esym f, .int (((encs as).length : Nat) : Int)])) = decide ((f, as.length) ∉ xs) := by rw [ek, any_encU]; simp
    refine bI_i (fun e1 => ?_) (fun e1 => ?_)
    · replace e1 := of_decide_eq_true (eqv.symm.trans e1)
      refine ⟨flat64 hd2, flat64 (t := tru) (by decide), ?_⟩
      have eqv2 : (!deq (enc (.app f as)) (enc tru)) = decide (¬ (f = (0, 0, 0) ∧ as.length = 0)) := by
        rw [deq_enc]
        rw [Bool.eq_iff_iff]
        simp [tru]
      refine bI_i (fun e2 => ?_) (fun e2 => ?_)
      · replace e2 := of_decide_eq_true (eqv2.symm.trans e2)
        refine fun p hp => ⟨_, _, by rw [um_ne (mne ha hp)]; exact ha, um_same, by rw [List.length_map]; show xs.length + 1 ≤ 1000; omega, fun q hq => ?_⟩
        refine loop _ q ((le_um hp).trans (le_um hq)) ?_
        rw [um_same]
        unfold us1
        rw [if_pos ⟨e1, e2⟩, List.map_append]
        show some (MO.lst (xs.map encU ++ [D.tup [esym f, .int (((encs as).length : Nat) : Int)]])) = _
        rw [ek]; rfl
      · replace e2 := of_decide_eq_false (eqv2.symm.trans e2)
        exact loop M a (LE.refl M) (by rw [keep (fun z => e2 z.2)]; exact ha)
    · replace e1 := of_decide_eq_false (eqv.symm.trans e1)
      exact loop M a (LE.refl M) (by rw [keep (fun z => e1 z.1)]; exact ha)
theorem usC_len : ∀ (c : Cl) (xs : List Us), (usC xs c).length ≤ xs.length + csz c
  | [], xs => by rw [usC, csz]; omega
  | L :: c, xs => by
    rw [usC, csz]
    have := usC_len c (usT (usT xs L.l) L.r)
    have := usT_len L.r (usT xs L.l)
    have := usT_len L.l xs
    omega
def spCU : SpD := fun ds M R => ∃ c a xs, ds = [encC c, .ob a] ∧ M a = some (.lst (xs.map encU)) ∧ CD 16 c ∧ xs.length + csz c ≤ 800 ∧ ∀ M' p, LE M M' → M' p = some (.lst ((usC xs c).map encU)) → R (.ob p) M'
theorem sc_l_clause_uses : FnScope ["_law_clause_here", "_law_found", "_law_literal_here"] ["_law_clause_here", "_law_found"] (defScope (top 84)) := ⟨rfl, rfl, rfl, by decide +kernel, rfl, by decide +kernel, by decide +kernel⟩
theorem c_l_clause_uses (DA : DefAt K mg "_law_clause_uses" (top 84)) (C_l_uses : Cal P w K mg base T k "_law_uses" (spUses 16)) : Cal P w K mg base T (k + 1) "_law_clause_uses" spCU := by
  refine dcal DA sc_l_clause_uses (fun _ _ _ _ _ _ us hl => match us, hl with | [_, _], _ => rfl) (fun f cdv A outer s H E hr =>
    (dss_cons (ds_for PassesOwn.never rfl (di_tup (dv 0 (.inl rfl))) (dg_name (i := 2) sc_l_clause_uses.nd (.inl rfl))
      (dss_one (ds_set (i := 1) sc_l_clause_uses.nd (.inl rfl) (d_call C_l_uses hr (by rfl) (da_cons (d_ix (dv 2 (.inl rfl)) d_int) (da_cons (d_call C_l_uses hr (by rfl) (da_cons (d_ix (dv 2 (.inl rfl)) d_int) (da_cons (dv 1 (.inl rfl)) da_nil))) da_nil))))))
    (dss_one (ds_ret (dv 1 (.inl rfl)))))) (fun ds M R h => by obtain ⟨_, _, _, rfl, _⟩ := h; rfl) (fun ds M R h => ?_)

  obtain ⟨c, a, xs, rfl, ha, hc, hz, h⟩ := h
  refine for_map encL c rfl (fun pre post r M' => LE M M' ∧ ∃ ys q o, M' q = some (.lst (ys.map encU)) ∧ usC ys post = usC xs c ∧ ys.length + csz post ≤ 800 ∧ r = [some (encC c), some (.ob q), o]) ⟨LE.refl M, xs, a, none, ha, rfl, hz, rfl⟩ (fun _ _ _ _ _ _ => trivial) ?_ ?_
  · rintro pre L post r M' e ⟨le, ys, q, o, hq, hf, hlen, rfl⟩
    have hD := hc L (by rw [e]; simp)
    rw [csz] at hlen
    rw [usC] at hf
    have l1 := usT_len L.l ys
    have l2 := usT_len L.r (usT ys L.l)
    have d1 := hD.1
    have d2 := hD.2
    refine ⟨L.l, q, ys, rfl, hq, hD.1, by omega, by omega, fun M2 p2 le2 h2 => ⟨L.r, p2, _, rfl, h2, hD.2, by omega, by omega, fun M3 p3 le3 h3 => ⟨_, LE.refl _, (le.trans le2).trans le3, _, p3, _, h3, hf, by omega, rfl⟩⟩⟩
  · rintro r M' ⟨le, ys, q, o, hq, hf, hlen, rfl⟩
    rw [usC] at hf
    rw [hf] at hq
    exact ret (h M' q le hq)
end
end My
set_option maxHeartbeats 4000000
/-! F11: tables, values. -/
namespace My
open PySem PySem.Spec PyProof.Rows L2
abbrev Tb := Us → List Int
def bd (sz : Int) (f : Sym) : Int := if f.1 = 2 ∨ f.1 = 3 then sz else 2
def TbOK (sz : Int) (us : List Us) (F : Tb) : Prop := ∀ u ∈ us, ((F u).length : Int) = sz ^ u.2 ∧ ∀ v ∈ F u, 0 ≤ v ∧ v < bd sz u.1
def encT (us : List Us) (F : Tb) : List (D × D) := us.map fun u => (encU u, .tup ((F u).map D.int))
theorem key_encU {a b : Us} (h : (encU a).key = (encU b).key) : a = b := by
  obtain ⟨⟨x, y, z⟩, n⟩ := a
  obtain ⟨⟨x', y', z'⟩, m⟩ := b
  simp [encU, esym, D.key, D.keys] at h
  obtain ⟨⟨h1, h2, h3⟩, h4⟩ := h
  have h5 : n = m := by omega
  subst h1; subst h2; subst h3; subst h5; rfl
theorem encT_flat (us : List Us) (F : Tb) : ∀ p ∈ encT us F, D.flat 6 p.1 = true := by
  intro p hp
  obtain ⟨u, _, e⟩ := List.mem_map.mp hp
  rw [← e]; exact flat_encU u
theorem encT_congr {us : List Us} {F G : Tb} (h : ∀ u ∈ us, F u = G u) : encT us F = encT us G := by
  unfold encT
  exact List.map_congr_left fun u hu => by rw [h u hu]
theorem pow_pos' {sz : Int} (h : sz = 1 ∨ sz = 2) : ∀ n : Nat, 0 < sz ^ n ∧ sz ^ n ≤ 2 ^ n
  | 0 => by simp
  | n + 1 => by
    have ih := pow_pos' h n
    rw [Int.pow_succ, Int.pow_succ]
    rcases h with rfl | rfl <;> omega
section
variable {P : Program} {w : World} {K : PySem.W.Frag} {mg : Str → Option Value} {base : Heap} {T : List (Addr × Str)} {k : Nat}
def spWT : SpD := fun ds M R => ∃ a us sz row, ds = [.ob a, .int sz, .int row] ∧ M a = some (.lst (us.map encU)) ∧ us.Nodup ∧ us.length ≤ 900 ∧ (∀ u ∈ us, u.2 ≤ 4) ∧ (sz = 1 ∨ sz = 2) ∧ ∀ F, TbOK sz us F → ∀ p, M p = none → ∀ M', LE (um M p (.dN (encT us F))) M' → R (.ob p) M'
theorem sc_l_world_tables : FnScope ["_law_uses_here", "_law_size", "_law_row", "_law_tables", "_law_use", "_law_many", "_law_k", "_law_bound", "_law_values"] ["_law_uses_here", "_law_size", "_law_row"] (defScope (top 81)) := ⟨rfl, rfl, rfl, by decide +kernel, rfl, by decide +kernel, by decide +kernel⟩
theorem c_l_world_tables (DA : DefAt K mg "_law_world_tables" (top 81)) (m_int : mg "int" = none) (m_range : mg "range" = none) (m_tuple : mg "tuple" = none) : Cal P w K mg base T (k + 1) "_law_world_tables" spWT := by
  refine dcal DA sc_l_world_tables (fun _ _ _ _ _ _ us hl => match us, hl with | [_, _, _], _ => rfl) (fun f cdv A outer s H E hr =>
    (dss_cons (ds_set (i := 3) sc_l_world_tables.nd (.inl rfl) d_newN)
    (dss_cons (ds_for PassesOwn.never rfl (di_lst (dv 0 (.inl rfl))) (dg_name (i := 4) sc_l_world_tables.nd (.inl rfl))
      (dss_cons (ds_set (i := 5) sc_l_world_tables.nd (.inl rfl) d_int)
      (dss_cons (ds_for PassesOwn.never rfl (di_rng (d_ix (dv 4 (.inl rfl)) d_int) (by rfl) m_range) (dg_name (i := 6) sc_l_world_tables.nd (.inl rfl))
        (dss_one (ds_set (i := 5) sc_l_world_tables.nd (.inl rfl) (d_mul (dv 5 (.inl rfl)) (dv 1 (.inl rfl))))))
      (dss_cons (ds_set (i := 7) sc_l_world_tables.nd (.inl rfl) (dv 1 (.inl rfl)))
      (dss_cons (ds_if (PW.pt (dw_and (dt_ine (d_ix (d_ix (dv 4 (.inl rfl)) d_int) d_int) d_int) (dw_and1 (dt_ine (d_ix (d_ix (dv 4 (.inl rfl)) d_int) d_int) d_int))))
        (dss_one (ds_set (i := 7) sc_l_world_tables.nd (.inl rfl) d_int))
        dss_nil)
      (dss_cons (ds_set (i := 8) sc_l_world_tables.nd (.inl rfl) (d_lst da_nil))
      (dss_cons (ds_for PassesOwn.never rfl (di_rng (dv 5 (.inl rfl)) (by rfl) m_range) (dg_name (i := 6) sc_l_world_tables.nd (.inl rfl))
        (dss_cons (ds_expr (d_append (dv 8 (.inl rfl)) (d_mod (d_toInt (dv 2 (.inl rfl)) (hg := by rfl) (hm := m_int)) (dv 7 (.inl rfl)))))
        (dss_one (ds_set (i := 2) sc_l_world_tables.nd (.inl rfl) (d_add (d_fdiv (dv 2 (.inl rfl)) (dv 7 (.inl rfl))) (d_mul (d_mul d_int (d_add (dv 6 (.inl rfl)) d_int)) (d_toInt (d_lt (dv 2 (.inl rfl)) d_int) (hg := by rfl) (hm := m_int))))))))
      (dss_cons (ds_nput (u65 hr) (dv 3 (.inl rfl)) (dv 4 (.inl rfl)) (d_toTup (dv 8 (.inl rfl)) (hg := by rfl) (hm := m_tuple)))
      (dss_one (ds_set (i := 2) sc_l_world_tables.nd (.inl rfl) (d_add (dv 2 (.inl rfl)) d_int)))))))))))
    (dss_one (ds_ret (dv 3 (.inl rfl))))))) (fun ds M R h => by obtain ⟨_, _, _, _, rfl, _⟩ := h; rfl) (fun ds M R h => ?_)

  obtain ⟨a, us, sz, row, rfl, ha, hnd, hul, har, hsz, h⟩ := h
  refine fun p hp => ⟨_, le_um hp _ _ ha, ?_⟩
  refine for_map encU us rfl (fun pre post r M' => LE M M' ∧ ∃ F row x4 x5 x6 x7 x8, M' p = some (.dN (encT pre F)) ∧ TbOK sz pre F ∧ r = [some (.ob a), some (.int sz), some (.int row), some (.ob p), x4, x5, x6, x7, x8]) ⟨le_um hp, fun _ => [], row, none, none, none, none, none, um_same, (fun _ z => by cases z), rfl⟩ (fun _ _ _ _ _ ⟨l, _⟩ => l _ _ ha) ?_ ?_
  · rintro pre u post r M' e ⟨le, F, row, x4, x5, x6, x7, x8, hq, hF, rfl⟩
    have hu : u ∈ us := by rw [e]; simp
    have hun : u ∉ pre := by
      rw [e, List.nodup_append] at hnd
      exact fun z => hnd.2.2 u z u (by simp) rfl
    have hpl : pre.length < 1000 := by rw [e] at hul; simp at hul; omega
    have hu4 := har u hu
    refine ⟨by omega, by omega, ?_⟩
    refine for_map (fun i : Nat => D.int (i : Nat)) (List.range u.2) rfl (fun pre2 post2 r M2 => M2 = M' ∧ ∃ x6, r = [some (.ob a), some (.int sz), some (.int row), some (.ob p), some (encU u), some (.int (sz ^ pre2.length)), x6, x7, x8]) ⟨rfl, x6, by rw [List.length_nil, Int.pow_zero]; rfl⟩ (fun _ _ _ _ _ _ => trivial) ?_ ?_
    · rintro pre2 i post2 r M2 e2 ⟨rfl, x6, rfl⟩
      refine ⟨.inr (by rcases hsz with rfl | rfl <;> decide), ⟨_, LE.refl _, rfl, some (.int (i : Nat)), ?_⟩⟩
      rw [List.length_append, List.length_singleton, Int.pow_succ]
      rfl
    · rintro r M2 ⟨rfl, x6, rfl⟩
      rw [List.length_range]
      have hpw := pow_pos' hsz u.2
      have hpw2 : (2 : Int) ^ u.2 ≤ 16 := by
        have : u.2 = 0 ∨ u.2 = 1 ∨ u.2 = 2 ∨ u.2 = 3 ∨ u.2 = 4 := by omega
        rcases this with e | e | e | e | e <;> rw [e] <;> decide
      have tail : ∀ B : Int, B = bd sz u.1 → 0 < B → B ≤ 2 → tSeqD (tSetD 8 (tLstD 0 tNilD)) (tSeqD (tForD (iRngD (tVarD 5)) (gNameD 6) (tSeqD (tDropD (tAppD (tVarD 8) (tOpD (mInt2 (fun _ j => 0 < j) fun i j => .int (i % j)) (tUnD mToInt (tVarD 2)) (tVarD 7))))
          (tSetD 2 (tOpD (mInt fun i j => .int (i + j)) (tOpD (mInt2 CDiv fun i j => .int (i / j)) (tVarD 2) (tVarD 7)) (tOpD (mInt2 CMul fun i j => .int (i * j)) (tOpD (mInt2 CMul fun i j => .int (i * j)) (tCD (.int 7)) (tOpD (mInt fun i j => .int (i + j)) (tVarD 6) (tCD (.int 1)))) (tUnD mToInt (tOpD (mInt fun i j => .bl (decide (i < j))) (tVarD 2) (tCD (.int 1000)))))))))
          (tSeqD (tNPutD (tVarD 3) (tVarD 4) (tUnD mToTup (tVarD 8))) (tSetD 2 (tOpD (mInt fun i j => .int (i + j)) (tVarD 2) (tCD (.int 1))))))
          { nx := fun r M'' => ∃ M'_1, LE M'_1 M'' ∧ LE M M'_1 ∧ ∃ F row x4 x5 x6 x7 x8, M'_1 p = some (.dN (encT (pre ++ [u]) F)) ∧ TbOK sz (pre ++ [u]) F ∧ r = [some (.ob a), some (.int sz), some (.int row), some (.ob p), x4, x5, x6, x7, x8], rt := (endD R).rt }
          [some (.ob a), some (.int sz), some (.int row), some (.ob p), some (encU u), some (.int (sz ^ u.2)), x6, some (.int B), x8] M2 := by
        intro B hB hB0 hB2
        refine fun q hqn => ?_
        have npq : p ≠ q := mne hq hqn
        refine ⟨by omega, by omega, ?_⟩
        have hrange : ((List.range (sz ^ u.2).toNat).length : Int) = sz ^ u.2 := by rw [List.length_range]; omega
        refine for_map (fun i : Nat => D.int (i : Nat)) (List.range (sz ^ u.2).toNat) rfl (fun pre3 post3 r M3 => LE M M3 ∧ M3 p = some (.dN (encT pre F)) ∧ ∃ (vs : List Int) (row : Int) (x6 : Option D), M3 q = some (.lst (vs.map D.int)) ∧ vs.length = pre3.length ∧ (∀ v ∈ vs, 0 ≤ v ∧ v < bd sz u.1) ∧
          r = [some (.ob a), some (.int sz), some (.int row), some (.ob p), some (encU u), some (.int (sz ^ u.2)), x6, some (.int B), some (.ob q)]) ⟨le.trans (le_um hqn), by rw [um_ne npq]; exact hq, [], row, x6, um_same, rfl, (fun _ z => by cases z), rfl⟩ (fun _ _ _ _ _ _ => trivial) ?_ ?_
        · rintro pre3 i post3 r M3 e3 ⟨le3, hp3, vs, row, x6, hv, hvl, hvb, rfl⟩
          obtain ⟨hi, hil⟩ := range_split e3
          have hil2 : (i : Int) < sz ^ u.2 := by omega
          refine ⟨q, _, rfl, hv, hB0, vs.map D.int, hv, by rw [List.length_map]; omega, ?_⟩
          refine ⟨⟨hB0, by omega⟩, .inl ⟨by decide, by decide⟩, ?_⟩
          have fin : ∀ b : Bool, CMul (7 * ((i : Int) + 1)) (if b = true then 1 else 0) := fun b => .inr (by cases b <;> decide)
          refine ⟨fin _, _, LE.refl _, (le3.upd (le_fresh le hqn)), by rw [um_ne npq]; exact hp3, vs ++ [row % B], _, _, by rw [um_same, List.map_append]; rfl, by simp [hvl], ?_, rfl⟩
          intro v hv'
          rcases List.mem_append.mp hv' with z | z
          · exact hvb v z
          · rw [List.mem_singleton] at z
            rw [z, ← hB]
            exact ⟨Int.emod_nonneg _ (by omega), Int.emod_lt_of_pos _ hB0⟩
        · rintro r M3 ⟨le3, hp3, vs, row, x6, hv, hvl, hvb, rfl⟩
          refine ⟨vs.map D.int, hv, M3, LE.refl _, p, encT pre F, rfl, hp3, encT_flat _ _, flat_encU u, ⟨_, rfl⟩, ?_, by unfold encT; rw [List.length_map]; exact hpl, ?_⟩
          · intro x hx
            obtain ⟨u', hu', e'⟩ := List.mem_map.mp hx
            rw [← e']
            exact fun z => hun (by rw [← key_encU z]; exact hu')
          · refine ⟨_, LE.refl _, le3.upd hp, fun x => if x = u then vs else F x, _, _, _, _, _, _, ?_, ?_, rfl⟩
            · rw [um_same]
              unfold encT
              rw [List.map_append]
              refine congrArg (fun z => some (MO.dN z)) ?_
              refine congr (congrArg _ ?_) ?_
              · exact List.map_congr_left fun x hx => by
                  have : x ≠ u := fun z => hun (z ▸ hx)
                  simp only [if_neg this]
              · simp
            · intro x hx
              rcases List.mem_append.mp hx with z | z
              · have : x ≠ u := fun y => hun (y ▸ z)
                simp only [if_neg this]
                exact hF x z
              · rw [List.mem_singleton] at z
                subst z
                simp only [if_true]
                refine ⟨?_, hvb⟩
                rw [hvl, List.length_range]; omega
      have hs0 : 0 < sz ∧ sz ≤ 2 := by rcases hsz with rfl | rfl <;> decide
      refine bI_i (fun e1 => bI_i (fun e2 => ?_) (fun e2 => ?_)) (fun e1 => ?_)
      · have e1' : ¬ u.1.1 = 2 := by simpa using e1
        have e2' : ¬ u.1.1 = 3 := by simpa using e2
        exact tail 2 (by unfold bd; rw [if_neg (by simp [e1', e2'])]) (by decide) (by decide)
      · have e2' : u.1.1 = 3 := by simpa using e2
        exact tail sz (by unfold bd; rw [if_pos (.inr e2')]) hs0.1 hs0.2
      · have e1' : u.1.1 = 2 := by simpa using e1
        exact tail sz (by unfold bd; rw [if_pos (.inl e1')]) hs0.1 hs0.2
  · rintro r M' ⟨le, F, row, x4, x5, x6, x7, x8, hq, hF, rfl⟩
    exact ret (h F hF p hp M' (le.at hq))
end
end My
set_option maxHeartbeats 4000000
/-! F12: values; whether a clause holds. -/
namespace My
open PySem PySem.Spec PyProof.Rows L2
mutual
def val (F : Tb) (sz : Int) (v : Int → Int) : Tm → Int
  | .var x => v x
  | .app g as => if g = (0, 0, 0) ∧ as.length = 0 then 1 else ((F (g, as.length))[(vat F sz v 0 as).toNat]?).getD 0
def vat (F : Tb) (sz : Int) (v : Int → Int) (acc : Int) : List Tm → Int
  | [] => acc
  | a :: as => vat F sz v (acc * sz + val F sz v a) as
end
mutual
def VG (us : List Us) (p : Int → Prop) : Tm → Prop
  | .var x => p x
  | .app g as => (g = (0, 0, 0) ∧ as.length = 0) ∨ ((g, as.length) ∈ us ∧ isInds as = true ∧ VGs us p as)
def VGs (us : List Us) (p : Int → Prop) : List Tm → Prop
  | [] => True
  | a :: as => VG us p a ∧ VGs us p as
end
mutual
theorem VG.mono {us us' : List Us} {p q : Int → Prop} (hu : ∀ u ∈ us, u ∈ us') (h : ∀ x, p x → q x) : ∀ t : Tm, VG us p t → VG us' q t
  | .var x, z => by rw [VG] at z ⊢; exact h x z
  | .app g as, z => by
    rw [VG] at z ⊢
    exact z.imp id fun ⟨a, b, c⟩ => ⟨hu _ a, b, VGs.mono hu h as c⟩
theorem VGs.mono {us us' : List Us} {p q : Int → Prop} (hu : ∀ u ∈ us, u ∈ us') (h : ∀ x, p x → q x) : ∀ as : List Tm, VGs us p as → VGs us' q as
  | [], z => trivial
  | a :: as, z => by rw [VGs] at z ⊢; exact ⟨VG.mono hu h a z.1, VGs.mono hu h as z.2⟩
end
theorem VGs.mem {us : List Us} {p : Int → Prop} : ∀ {as : List Tm}, VGs us p as → ∀ a ∈ as, VG us p a
  | b :: bs, h, a, ha => by
    rw [VGs] at h
    rcases List.mem_cons.mp ha with e | ha
    · rw [e]; exact h.1
    · exact VGs.mem h.2 a ha
mutual
theorem coll_sub (t : Tm) (xs : List Int) : ∀ x ∈ xs, x ∈ coll xs t := by
  cases t with
  | var y => intro x hx; rw [coll]; split <;> simp [hx]
  | app f as => rw [coll]; exact colls_sub as xs
theorem colls_sub (as : List Tm) (xs : List Int) : ∀ x ∈ xs, x ∈ colls xs as := by
  cases as with
  | nil => intro x hx; rw [colls]; exact hx
  | cons a as => intro x hx; rw [colls]; exact colls_sub as _ x (coll_sub a xs x hx)
end
mutual
theorem coll_vg {us : List Us} (t : Tm) (xs : List Int) (h : VG us (fun _ => True) t) : VG us (fun x => x ∈ coll xs t) t := by
  cases t with
  | var y =>
    rw [VG, coll]
    split
    · rename_i e; exact List.contains_iff_mem.mp e
    · simp
  | app f as =>
    rw [VG] at h ⊢
    refine h.imp id fun ⟨a, b, c⟩ => ⟨a, b, ?_⟩
    rw [coll]
    exact colls_vg as xs c
theorem colls_vg {us : List Us} (as : List Tm) (xs : List Int) (h : VGs us (fun _ => True) as) : VGs us (fun x => x ∈ colls xs as) as := by
  cases as with
  | nil => rw [VGs]; trivial
  | cons a as =>
    rw [VGs] at h ⊢
    rw [colls]
    exact ⟨VG.mono (fun _ z => z) (fun x hx => colls_sub as _ x hx) a (coll_vg a xs h.1), colls_vg as _ h.2⟩
end
theorem collC_sub : ∀ (c : Cl) (xs : List Int), ∀ x ∈ xs, x ∈ collC xs c
  | [], xs, x, hx => hx
  | L :: c, xs, x, hx => by rw [collC]; exact collC_sub c _ x (coll_sub _ _ x (coll_sub _ _ x hx))
theorem collC_vg {us : List Us} : ∀ (c : Cl) (xs : List Int), (∀ L ∈ c, VG us (fun _ => True) L.l ∧ VG us (fun _ => True) L.r) → ∀ L ∈ c, VG us (fun x => x ∈ collC xs c) L.l ∧ VG us (fun x => x ∈ collC xs c) L.r
  | [], xs, h, L, hL => by cases hL
  | L0 :: c, xs, h, L, hL => by
    rw [collC]
    rcases List.mem_cons.mp hL with e | hL
    · subst e
      have hh := h L (by simp)
      exact ⟨VG.mono (fun _ z => z) (fun x hx => collC_sub c _ x (coll_sub _ _ x hx)) _ (coll_vg L.l xs hh.1), VG.mono (fun _ z => z) (fun x hx => collC_sub c _ x hx) _ (coll_vg L.r _ hh.2)⟩
    · exact collC_vg c _ (fun L hL => h L (by simp [hL])) L hL
mutual
theorem coll_nodup (t : Tm) (xs : List Int) (h : xs.Nodup) : (coll xs t).Nodup := by
  cases t with
  | var y =>
    rw [coll]
    split
    · exact h
    · rename_i e
      have e' : y ∉ xs := fun z => e (List.contains_iff_mem.mpr z)
      rw [List.nodup_append]
      exact ⟨h, by simp, fun a ha b hb z => by rw [List.mem_singleton] at hb; exact e' (by rw [← hb, ← z]; exact ha)⟩
  | app f as => rw [coll]; exact colls_nodup as xs h
theorem colls_nodup (as : List Tm) (xs : List Int) (h : xs.Nodup) : (colls xs as).Nodup := by
  cases as with
  | nil => rw [colls]; exact h
  | cons a as => rw [colls]; exact colls_nodup as _ (coll_nodup a xs h)
end
theorem collC_nodup : ∀ (c : Cl) (xs : List Int), xs.Nodup → (collC xs c).Nodup
  | [], xs, h => h
  | L :: c, xs, h => by rw [collC]; exact collC_nodup c _ (coll_nodup _ _ (coll_nodup _ _ h))
mutual
theorem val_bd {F : Tb} {sz : Int} {v : Int → Int} {us : List Us} {p : Int → Prop} (hF : TbOK sz us F) (hs : 0 < sz) (hv : ∀ x, p x → 0 ≤ v x ∧ v x < sz) : ∀ t : Tm, isInd t = true → VG us p t → 0 ≤ val F sz v t ∧ val F sz v t < sz
  | .var x, _, h => by rw [VG] at h; rw [val]; exact hv x h
  | .app g as, hi, h => by
    rw [isInd] at hi
    rw [VG] at h
    simp only [Bool.and_eq_true, Bool.or_eq_true, decide_eq_true_eq] at hi
    have hg : ¬ (g = (0, 0, 0) ∧ as.length = 0) := by
      rintro ⟨e, _⟩
      rw [e] at hi
      rcases hi.1 with z | z <;> cases z
    rcases h with h | ⟨h1, h2, h3⟩
    · exact absurd h hg
    · rw [val, if_neg hg]
      have hb := vat_bd hF hs hv as 0 0 h2 h3 (by simp)
      rw [Nat.zero_add] at hb
      obtain ⟨f1, f2⟩ := hF _ h1
      simp only at f1 f2
      have hlt : (vat F sz v 0 as).toNat < (F (g, as.length)).length := by omega
      rw [List.getElem?_eq_getElem hlt]
      have := f2 _ (List.getElem_mem hlt)
      unfold bd at this
      rw [if_pos hi.1] at this
      exact this
theorem vat_bd {F : Tb} {sz : Int} {v : Int → Int} {us : List Us} {p : Int → Prop} (hF : TbOK sz us F) (hs : 0 < sz) (hv : ∀ x, p x → 0 ≤ v x ∧ v x < sz) : ∀ (as : List Tm) (acc : Int) (k : Nat), isInds as = true → VGs us p as → (0 ≤ acc ∧ acc < sz ^ k) → 0 ≤ vat F sz v acc as ∧ vat F sz v acc as < sz ^ (k + as.length)
  | [], acc, k, _, _, h => by rw [vat]; exact h
  | a :: as, acc, k, hi, hg, h => by
    rw [isInds, Bool.and_eq_true] at hi
    rw [VGs] at hg
    rw [vat]
    have ha := val_bd hF hs hv a hi.1 hg.1
    have h2 : 0 ≤ acc * sz + val F sz v a ∧ acc * sz + val F sz v a < sz ^ (k + 1) := by
      have h3 : 0 ≤ acc * sz := Int.mul_nonneg h.1 (by omega)
      have h4 : (acc + 1) * sz ≤ sz ^ k * sz := Int.mul_le_mul_of_nonneg_right (by omega) (by omega)
      rw [Int.pow_succ]
      rw [Int.add_mul, Int.one_mul] at h4
      omega
    have := vat_bd hF hs hv as _ (k + 1) hi.2 hg.2 h2
    rw [List.length_cons, show k + (as.length + 1) = k + 1 + as.length by omega]
    exact this
end
mutual
theorem val_congr {F : Tb} {sz : Int} {v v' : Int → Int} {us : List Us} {p : Int → Prop} (hv : ∀ x, p x → v x = v' x) : ∀ t : Tm, VG us p t → val F sz v t = val F sz v' t
  | .var x, h => by rw [VG] at h; rw [val, val]; exact hv x h
  | .app g as, h => by
    rw [VG] at h
    rw [val, val]
    rcases h with h | ⟨h1, h2, h3⟩
    · rw [if_pos h, if_pos h]
    · rw [vat_congr hv as 0 h3]
theorem vat_congr {F : Tb} {sz : Int} {v v' : Int → Int} {us : List Us} {p : Int → Prop} (hv : ∀ x, p x → v x = v' x) : ∀ (as : List Tm) (acc : Int), VGs us p as → vat F sz v acc as = vat F sz v' acc as
  | [], acc, _ => by rw [vat, vat]
  | a :: as, acc, h => by rw [VGs] at h; rw [vat, vat, val_congr hv a h.1, vat_congr hv as _ h.2]
end
def clH (F : Tb) (sz : Int) (v : Int → Int) (c : Cl) : Bool := c.any fun L => decide (val F sz v L.l = val F sz v L.r) == L.pos
def Valid (F : Tb) (sz : Int) (c : Cl) : Prop := ∀ v : Int → Int, (∀ x, 0 ≤ v x ∧ v x < sz) → clH F sz v c = true
noncomputable def holdsB (F : Tb) (sz : Int) (c : Cl) : Bool := @decide (Valid F sz c) (Classical.propDecidable _)
theorem holdsB_iff {F : Tb} {sz : Int} {c : Cl} : holdsB F sz c = true ↔ Valid F sz c := by unfold holdsB; exact @decide_eq_true_iff _ (Classical.propDecidable _)
theorem holdsB_t {F : Tb} {sz : Int} {c : Cl} (h : Valid F sz c) : holdsB F sz c = true := holdsB_iff.mpr h
theorem holdsB_f {F : Tb} {sz : Int} {c : Cl} (h : ¬ Valid F sz c) : holdsB F sz c = false := by
  cases e : holdsB F sz c with
  | false => rfl
  | true => exact absurd (holdsB_iff.mp e) h
def digD (sz : Int) (code : Int) : List Int → List (Int × D)
  | [] => []
  | x :: xs => (x, .int (code % sz)) :: digD sz (code / sz) xs
def vOf (sz : Int) (code : Int) : List Int → Int → Int
  | [], _ => 0
  | y :: ys, x => if y = x then code % sz else vOf sz (code / sz) ys x
def encN (sz : Int) (v : Int → Int) : List Int → Int
  | [] => 0
  | x :: xs => v x + sz * encN sz v xs
theorem vD_dig (sz : Int) : ∀ (ns : List Int) (code : Int) (x : Int), x ∈ ns → vD (digD sz code ns) x = some (.int (vOf sz code ns x))
  | y :: ys, code, x, h => by
    rw [digD, vD_cons, vOf]
    split
    · rfl
    · rename_i e
      exact vD_dig sz ys _ x ((List.mem_cons.mp h).resolve_left fun z => e z.symm)
theorem vOf_bd {sz : Int} (hs : 0 < sz) : ∀ (ns : List Int) (code x : Int), 0 ≤ vOf sz code ns x ∧ vOf sz code ns x < sz
  | [], code, x => by rw [vOf]; omega
  | y :: ys, code, x => by
    rw [vOf]
    split
    · exact ⟨Int.emod_nonneg _ (by omega), Int.emod_lt_of_pos _ hs⟩
    · exact vOf_bd hs ys _ x
theorem encN_bd {sz : Int} {v : Int → Int} (hs : 0 < sz) (hv : ∀ x, 0 ≤ v x ∧ v x < sz) : ∀ ns : List Int, 0 ≤ encN sz v ns ∧ encN sz v ns < sz ^ ns.length
  | [] => by rw [encN]; simp
  | x :: xs => by
    have ih := encN_bd hs hv xs
    have h := hv x
    rw [encN, List.length_cons, Int.pow_succ]
    have h1 : 0 ≤ sz * encN sz v xs := Int.mul_nonneg (by omega) ih.1
    have h2 : sz * (encN sz v xs + 1) ≤ sz * sz ^ xs.length := Int.mul_le_mul_of_nonneg_left (by omega) (by omega)
    rw [Int.mul_add, Int.mul_one] at h2
    rw [Int.mul_comm (sz ^ xs.length) sz]
    omega
theorem vOf_encN {sz : Int} {v : Int → Int} (hs : 0 < sz) (hv : ∀ x, 0 ≤ v x ∧ v x < sz) : ∀ (ns : List Int) (x : Int), x ∈ ns → vOf sz (encN sz v ns) ns x = v x
  | y :: ys, x, h => by
    have hy := hv y
    rw [vOf, encN]
    have e1 : (v y + sz * encN sz v ys) % sz = v y := by rw [Int.add_mul_emod_self_left, Int.emod_eq_of_lt hy.1 hy.2]
    have e2 : (v y + sz * encN sz v ys) / sz = encN sz v ys := by
      rw [Int.add_mul_ediv_left _ _ (by omega), Int.ediv_eq_zero_of_lt hy.1 hy.2, Int.zero_add]
    split
    · rename_i e; rw [e1, e]
    · rename_i e
      rw [e2]
      exact vOf_encN hs hv ys x ((List.mem_cons.mp h).resolve_left fun z => e z.symm)
theorem clH_congr {F : Tb} {sz : Int} {v v' : Int → Int} {us : List Us} {p : Int → Prop} (hv : ∀ x, p x → v x = v' x) (c : Cl) (h : ∀ L ∈ c, VG us p L.l ∧ VG us p L.r) : clH F sz v c = clH F sz v' c := by
  induction c with
  | nil => rfl
  | cons L c ih =>
    unfold clH at ih ⊢
    rw [List.any_cons, List.any_cons, val_congr hv _ (h L (by simp)).1, val_congr hv _ (h L (by simp)).2, ih fun L hL => h L (by simp [hL])]
theorem pD_new {kvs : List (Int × D)} {x : Int} (h : x ∉ kvs.map (·.1)) (d : D) : pD kvs x d = kvs ++ [(x, d)] := by
  unfold pD
  rw [if_neg]
  intro z
  rw [List.any_eq_true] at z
  obtain ⟨p, hp, e⟩ := z
  exact h (List.mem_map.mpr ⟨p, hp, of_decide_eq_true e⟩)
theorem flat_int (n : Nat) (i : Int) : D.flat n (.int i) = true := by cases n <;> simp [D.flat]
section
variable {P : Program} {w : World} {K : PySem.W.Frag} {mg : Str → Option Value} {base : Heap} {T : List (Addr × Str)} {k : Nat}
def spVal (n : Nat) : SpD := fun ds M R => ∃ t tb sz vs us F kvs, ∃ (v : Int → Int) (p : Int → Prop), ds = [enc t, .ob tb, .int sz, .ob vs] ∧ M tb = some (.dN (encT us F)) ∧ M vs = some (.dI kvs) ∧ (∀ x, p x → vD kvs x = some (.int (v x)) ∧ 0 ≤ v x ∧ v x < sz) ∧ (sz = 1 ∨ sz = 2) ∧ TbOK sz us F ∧ VG us p t ∧
  t.dep < n ∧ t.dep < 20 ∧ R (.int (val F sz v t)) M
theorem sc_l_value : FnScope ["_law_term_here", "_law_tables", "_law_size", "_law_values", "_law_at", "_law_part_here"] ["_law_term_here", "_law_tables", "_law_size", "_law_values"] (defScope (top 82)) := ⟨rfl, rfl, rfl, by decide +kernel, rfl, by decide +kernel, by decide +kernel⟩
theorem c_l_value (DA : DefAt K mg "_law_value" (top 82)) {n : Nat} (C_l_is_variable : Cal P w K mg base T k "_law_is_variable" spIsVar) (C_l_value : Cal P w K mg base T k "_law_value" (spVal n)) (m_len : mg "len" = none) : Cal P w K mg base T (k + 1) "_law_value" (spVal (n + 1)) := by
  refine dcal DA sc_l_value (fun _ _ _ _ _ _ us hl => match us, hl with | [_, _, _, _], _ => rfl) (fun f cdv A outer s H E hr =>
    (dss_cons (ds_if (dt_val (d_call C_l_is_variable hr (by rfl) (da_cons (dv 0 (.inl rfl)) da_nil)))
      (dss_one (ds_ret (d_dget (hu_of hr) (dv 3 (.inl rfl)) (dv 0 (.inl rfl)))))
      dss_nil)
    (dss_cons (ds_if (dt_eq hr.units (dv 0 (.inl rfl)) (d_tup (da_cons (d_tup (da_cons d_int (da_cons d_int (da_cons d_int da_nil)))) (da_cons (d_tup da_nil) da_nil))))
      (dss_one (ds_ret d_int))
      dss_nil)
    (dss_cons (ds_set (i := 4) sc_l_value.nd (.inl rfl) d_int)
    (dss_cons (ds_for PassesOwn.never rfl (di_tup (d_ix (dv 0 (.inl rfl)) d_int)) (dg_name (i := 5) sc_l_value.nd (.inl rfl))
      (dss_one (ds_set (i := 4) sc_l_value.nd (.inl rfl) (d_add (d_mul (dv 4 (.inl rfl)) (dv 2 (.inl rfl))) (d_call C_l_value hr (by rfl) (da_cons (dv 5 (.inl rfl)) (da_cons (dv 1 (.inl rfl)) (da_cons (dv 2 (.inl rfl)) (da_cons (dv 3 (.inl rfl)) da_nil)))))))))
    (dss_one (ds_ret (d_ix (d_nget (u65 hr) (dv 1 (.inl rfl)) (d_tup (da_cons (d_ix (dv 0 (.inl rfl)) d_int) (da_cons (d_len (d_ix (dv 0 (.inl rfl)) d_int) (hg := by rfl) (hm := m_len)) da_nil)))) (dv 4 (.inl rfl)))))))))) (fun ds M R h => by obtain ⟨_, _, _, _, _, _, _, _, _, rfl, _⟩ := h; rfl) (fun ds M R h => ?_)

  obtain ⟨t, tb, sz, vs, us, F, kvs, v, p, rfl, htb, hvs, hv, hsz, hF, hg, hd, hd2, h⟩ := h
  refine ⟨t, rfl, ?_⟩
  have hs0 : 0 < sz := by rcases hsz with rfl | rfl <;> decide
  cases t with
  | var x =>
    rw [VG] at hg
    rw [val] at h
    obtain ⟨h1, h2⟩ := hv x hg
    exact bI_t rfl ⟨vs, _, rfl, .inl ⟨kvs, x, hvs, rfl, h1.symm⟩, ret h⟩
  | app g as =>
    rw [val] at h
    rw [dep_app] at hd
    have eqv : deq (enc (.app g as)) (enc tru) = decide (g = (0, 0, 0) ∧ as.length = 0) := by
      rw [deq_enc, Bool.eq_iff_iff]
      simp [tru]
    refine bI_f rfl ⟨flat64 hd2, flat64 (t := tru) (by decide), bI_i (fun e => ?_) (fun e => ?_)⟩
    · have e1 := of_decide_eq_true (eqv.symm.trans e)
      rw [if_pos e1] at h
      exact ret h
    · have e1 := of_decide_eq_false (eqv.symm.trans e)
      rw [if_neg e1] at h
      rw [VG] at hg
      obtain ⟨hu, hi, hgs⟩ := hg.resolve_left e1
      refine for_map enc as (encs_map as) (fun pre post r M' => M' = M ∧ ∃ acc x, vat F sz v acc post = vat F sz v 0 as ∧ r = [some (enc (.app g as)), some (.ob tb), some (.int sz), some (.ob vs), some (.int acc), x]) ⟨rfl, 0, none, rfl, rfl⟩ (fun _ _ _ _ _ _ => trivial) ?_ ?_
      · rintro pre a post r M' e ⟨rfl, acc, x, hacc, rfl⟩
        have ha : a ∈ as := by rw [e]; simp
        rw [vat] at hacc
        have hda := dep_mem ha
        rw [dep_app] at hd2
        exact ⟨.inr (by rcases hsz with rfl | rfl <;> decide), a, tb, sz, vs, us, F, kvs, v, p, rfl, htb, hvs, hv, hsz, hF, VGs.mem hgs a ha, by omega, by omega, _, LE.refl _, rfl, _, _, hacc, rfl⟩
      · rintro r M' ⟨rfl, acc, x, hacc, rfl⟩
        rw [vat] at hacc
        subst hacc
        have ek : (D.tup [esym g, .int (((encs as).length : Nat) : Int)]) = encU (g, as.length) := by rw [encs_len]; rfl
        have hb := vat_bd hF hs0 (fun x hx => (hv x hx).2) as 0 0 hi hgs (by simp)
        rw [Nat.zero_add] at hb
        obtain ⟨f1, f2⟩ := hF _ hu
        simp only at f1
        have hlt : (vat F sz v 0 as).toNat < (F (g, as.length)).length := by omega
        rw [List.getElem?_eq_getElem hlt] at h
        refine ⟨tb, encT us F, .tup ((F (g, as.length)).map D.int), rfl, htb, encT_flat _ _, (congrArg (D.flat 6) ek).trans (flat_encU _), ⟨_, rfl⟩, ?_, ?_⟩
        · show (D.tup [esym g, .int (((encs as).length : Nat) : Int)], D.tup ((F (g, as.length)).map D.int)) ∈ encT us F
          rw [ek]
          exact List.mem_map.mpr ⟨(g, as.length), hu, rfl⟩
        · refine mIx_at (d := .int ((F (g, as.length))[(vat F sz v 0 as).toNat])) ?_ (ret h)
          have e2 : vat F sz v 0 as = ((vat F sz v 0 as).toNat : Int) := by omega
          have e3 : ((F (g, as.length)).map D.int)[(vat F sz v 0 as).toNat]? = some (.int ((F (g, as.length))[(vat F sz v 0 as).toNat])) := by rw [List.getElem?_map, List.getElem?_eq_getElem hlt]; rfl
          exact (congrArg (atI _) e2).trans (atI_nat e3)
def spHolds : SpD := fun ds M R => ∃ c tb sz us F, ds = [encC c, .ob tb, .int sz] ∧ M tb = some (.dN (encT us F)) ∧ (sz = 1 ∨ sz = 2) ∧ TbOK sz us F ∧ CD 16 c ∧ csz c ≤ 800 ∧ c.length ≤ 900 ∧ (∀ L ∈ c, VG us (fun _ => True) L.l ∧ VG us (fun _ => True) L.r) ∧ (collC [] c).length ≤ 10 ∧ R (.bl (holdsB F sz c)) M
theorem sc_l_clause_holds : FnScope ["_law_clause_here", "_law_tables", "_law_size", "_law_names", "_law_total", "_law_variable", "_law_code", "_law_values", "_law_rest", "_law_told", "_law_one", "_law_left", "_law_right"] ["_law_clause_here", "_law_tables", "_law_size"] (defScope (top 83)) := ⟨rfl, rfl, rfl, by decide +kernel, rfl, by decide +kernel, by decide +kernel⟩
theorem c_l_clause_holds (DA : DefAt K mg "_law_clause_holds" (top 83)) (C_l_clause_variables : Cal P w K mg base T k "_law_clause_variables" spCV) (C_l_value : Cal P w K mg base T k "_law_value" (spVal 16)) (m_any : mg "any" = none) (m_int : mg "int" = none) (m_range : mg "range" = none) : Cal P w K mg base T (k + 1) "_law_clause_holds" spHolds := by
  refine dcal DA sc_l_clause_holds (fun _ _ _ _ _ _ us hl => match us, hl with | [_, _, _], _ => rfl) (fun f cdv A outer s H E hr =>
    (dss_cons (ds_set (i := 3) sc_l_clause_holds.nd (.inl rfl) (d_call C_l_clause_variables hr (by rfl) (da_cons (dv 0 (.inl rfl)) da_nil)))
    (dss_cons (ds_set (i := 4) sc_l_clause_holds.nd (.inl rfl) d_int)
    (dss_cons (ds_for PassesOwn.never rfl (di_lst (dv 3 (.inl rfl))) (dg_name (i := 5) sc_l_clause_holds.nd (.inl rfl))
      (dss_one (ds_set (i := 4) sc_l_clause_holds.nd (.inl rfl) (d_mul (dv 4 (.inl rfl)) (dv 2 (.inl rfl))))))
    (dss_cons (ds_for PassesOwn.never rfl (di_rng (dv 4 (.inl rfl)) (by rfl) m_range) (dg_name (i := 6) sc_l_clause_holds.nd (.inl rfl))
      (dss_cons (ds_set (i := 7) sc_l_clause_holds.nd (.inl rfl) d_newI)
      (dss_cons (ds_set (i := 8) sc_l_clause_holds.nd (.inl rfl) (dv 6 (.inl rfl)))
      (dss_cons (ds_for PassesOwn.never rfl (di_lst (dv 3 (.inl rfl))) (dg_name (i := 5) sc_l_clause_holds.nd (.inl rfl))
        (dss_cons (ds_dput (hu_of hr) (dv 7 (.inl rfl)) (dv 5 (.inl rfl)) (d_mod (d_toInt (dv 8 (.inl rfl)) (hg := by rfl) (hm := m_int)) (dv 2 (.inl rfl))))
        (dss_one (ds_set (i := 8) sc_l_clause_holds.nd (.inl rfl) (d_fdiv (dv 8 (.inl rfl)) (dv 2 (.inl rfl)))))))
      (dss_cons (ds_set (i := 9) sc_l_clause_holds.nd (.inl rfl) (d_lst da_nil))
      (dss_cons (ds_for PassesOwn.never rfl (di_tup (dv 0 (.inl rfl))) (dg_name (i := 10) sc_l_clause_holds.nd (.inl rfl))
        (dss_cons (ds_set (i := 11) sc_l_clause_holds.nd (.inl rfl) (d_call C_l_value hr (by rfl) (da_cons (d_ix (dv 10 (.inl rfl)) d_int) (da_cons (dv 1 (.inl rfl)) (da_cons (dv 2 (.inl rfl)) (da_cons (dv 7 (.inl rfl)) da_nil))))))
        (dss_cons (ds_set (i := 12) sc_l_clause_holds.nd (.inl rfl) (d_call C_l_value hr (by rfl) (da_cons (d_ix (dv 10 (.inl rfl)) d_int) (da_cons (dv 1 (.inl rfl)) (da_cons (dv 2 (.inl rfl)) (da_cons (dv 7 (.inl rfl)) da_nil))))))
        (dss_one (ds_expr (d_append (dv 9 (.inl rfl)) (d_eq hr.units (d_eq hr.units (dv 11 (.inl rfl)) (dv 12 (.inl rfl))) (d_ix (dv 10 (.inl rfl)) d_int))))))))
      (dss_one (ds_if (dt_not (dt_val (d_any (dv 9 (.inl rfl)) (hg := by rfl) (hm := m_any))))
        (dss_one (ds_ret d_bl))
        dss_nil))))))))
    (dss_one (ds_ret d_bl))))))) (fun ds M R h => by obtain ⟨_, _, _, _, _, rfl, _⟩ := h; rfl) (fun ds M R h => ?_)

  obtain ⟨c, tb, sz, us, F, rfl, htb, hsz, hF, hc, hcz, hcl, hg, hnl, h⟩ := h
  have hs0 : 0 < sz ∧ sz ≤ 2 := by rcases hsz with rfl | rfl <;> decide
  have hnd : (collC [] c).Nodup := collC_nodup c [] List.nodup_nil
  have hvg := collC_vg c [] hg
  refine ⟨c, rfl, hc, hcz, fun M1 q le hq => ⟨_, hq, ?_⟩⟩
  generalize hns : collC [] c = ns at hnl hnd hvg hq
  refine for_map D.int ns rfl (fun pre post r M' => M' = M1 ∧ ∃ x5, r = [some (encC c), some (.ob tb), some (.int sz), some (.ob q), some (.int (sz ^ pre.length)), x5, none, none, none, none, none, none, none]) ⟨rfl, none, by rw [List.length_nil, Int.pow_zero]; rfl⟩ (fun _ _ _ _ _ ⟨e, _⟩ => by rw [e]; exact hq) ?_ ?_
  · rintro pre x post r M' e ⟨rfl, x5, rfl⟩
    refine ⟨.inr ⟨by omega, by omega⟩, ⟨_, LE.refl _, rfl, some (.int x), ?_⟩⟩
    rw [List.length_append, List.length_singleton, Int.pow_succ]
    rfl
  · rintro r M' ⟨rfl, x5, rfl⟩
    have hpw := pow_pos' hsz ns.length
    have hpw2 : (2 : Int) ^ ns.length ≤ 1024 := by
      have h1 : (2 : Nat) ^ ns.length ≤ 2 ^ 10 := Nat.pow_le_pow_right (by decide) hnl
      have h2 : ((2 ^ ns.length : Nat) : Int) = (2 : Int) ^ ns.length := by simp
      omega
    refine ⟨by omega, by omega, ?_⟩
    refine for_map (fun i : Nat => D.int (i : Nat)) (List.range (sz ^ ns.length).toNat) rfl (fun pre post r M2 => LE M' M2 ∧ (∀ i ∈ pre, clH F sz (vOf sz (i : Nat) ns) c = true) ∧ ∃ x5 x6 x7 x8 x9 x10 x11 x12, r = [some (encC c), some (.ob tb), some (.int sz), some (.ob q), some (.int (sz ^ ns.length)), x5, x6, x7, x8, x9, x10, x11, x12]) ⟨LE.refl _, (fun _ z => by cases z), _, _, _, _, _, _, _, _, rfl⟩ (fun _ _ _ _ _ _ => trivial) ?_ ?_
    · rintro pre i post r M2 e ⟨le2, hpre, x5, x6, x7, x8, x9, x10, x11, x12, rfl⟩
      refine fun p hp => ⟨_, le_um hp _ _ (le2 _ _ hq), ?_⟩
      have hpM : M' p = none := le_fresh le2 hp
      have hpM0 : M p = none := le_fresh le hpM
      have npq : q ≠ p := mne hq hpM
      have npt : tb ≠ p := mne htb hpM0
      refine for_map D.int ns rfl (fun pre2 post2 r M3 => LE M' M3 ∧ ∃ kvs rest x5, M3 p = some (.dI kvs) ∧ kvs.map (·.1) = pre2 ∧ kvs ++ digD sz rest post2 = digD sz (i : Nat) ns ∧ r = [some (encC c), some (.ob tb), some (.int sz), some (.ob q), some (.int (sz ^ ns.length)), x5, some (.int (i : Nat)), some (.ob p), some (.int rest), x9, x10, x11, x12])
        ⟨le2.trans (le_um hp), [], (i : Nat), x5, um_same, rfl, rfl, rfl⟩ (fun _ _ _ _ _ ⟨l, _⟩ => l _ _ hq) ?_ ?_
      · rintro pre2 x post2 r M3 e2 ⟨le3, kvs, rest, x5, hp3, hk, hdg, rfl⟩
        have hxn : x ∉ kvs.map (·.1) := by
          rw [hk]
          rw [e2, List.nodup_append] at hnd
          exact fun z => hnd.2.2 x z x (by simp) rfl
        have hkl : kvs.length < 1000 := by
          have : kvs.length = pre2.length := by rw [← hk, List.length_map]
          rw [e2] at hnl; simp at hnl; omega
        rw [digD] at hdg
        refine ⟨hs0.1, p, _, rfl, .inl ⟨kvs, x, hp3, rfl, hkl, rfl⟩, ⟨hs0.1, by omega⟩, _, LE.refl _, le3.upd hpM, kvs ++ [(x, .int (rest % sz))], rest / sz, _, ?_, ?_, ?_, rfl⟩
        · rw [um_same, pD_new hxn]
        · rw [List.map_append, hk]; rfl
        · rw [← hdg, List.append_assoc]; rfl
      · rintro r M3 ⟨le3, kvs, rest, x5, hp3, hk, hdg, rfl⟩
        rw [digD, List.append_nil] at hdg
        refine fun s hs => ?_
        have nps : p ≠ s := mne hp3 hs
        have hvv : ∀ x, x ∈ ns → vD kvs x = some (.int (vOf sz (i : Nat) ns x)) ∧ 0 ≤ vOf sz (i : Nat) ns x ∧ vOf sz (i : Nat) ns x < sz := fun x hx => ⟨by rw [hdg]; exact vD_dig sz ns _ x hx, vOf_bd hs0.1 ns _ x⟩
        refine for_map encL c rfl (fun pre4 post4 r M4 => LE M' M4 ∧ M4 p = some (.dI kvs) ∧ M4 s = some (.lst ((pre4.map fun L => decide (val F sz (vOf sz (i : Nat) ns) L.l = val F sz (vOf sz (i : Nat) ns) L.r) == L.pos).map D.bl)) ∧ ∃ x5 x10 x11 x12, r = [some (encC c), some (.ob tb), some (.int sz), some (.ob q), some (.int (sz ^ ns.length)), x5, some (.int (i : Nat)), some (.ob p), some (.int rest), some (.ob s), x10, x11, x12])
          ⟨le3.trans (le_um hs), by rw [um_ne nps]; exact hp3, by rw [um_same]; rfl, x5, x10, x11, x12, rfl⟩ (fun _ _ _ _ _ _ => trivial) ?_ ?_
        · rintro pre4 L post4 r M4 e4 ⟨le4, hp4, hs4, x5, x10, x11, x12, rfl⟩
          have hL : L ∈ c := by rw [e4]; simp
          have hLD := hc L hL
          have d1 := hLD.1
          have d2 := hLD.2
          have htb4 : M4 tb = some (.dN (encT us F)) := le4 _ _ (le _ _ htb)
          have hlen : pre4.length < 1000 := by
            have : c.length = pre4.length + (post4.length + 1) := by rw [e4]; simp
            omega
          refine ⟨L.l, tb, sz, p, us, F, kvs, vOf sz (i : Nat) ns, fun x => x ∈ ns, rfl, htb4, hp4, hvv, hsz, hF, (hvg L hL).1, d1, by omega, L.r, tb, sz, p, us, F, kvs, vOf sz (i : Nat) ns, fun x => x ∈ ns, rfl, htb4, hp4, hvv, hsz, hF, (hvg L hL).2, d2, by omega, ?_⟩
          refine ⟨s, _, rfl, hs4, flat_int _ _, flat_int _ _, flat_bl _ _, flat_bl _ _, _, hs4, by rw [List.length_map, List.length_map]; exact hlen, ?_⟩
          refine ⟨_, LE.refl _, le4.upd (le_fresh le3 hs), by rw [um_ne nps]; exact hp4, ?_, _, _, _, _, rfl⟩
          rw [um_same, List.map_append, List.map_append, deq_bl, deq_int]
          have eb : (val F sz (vOf sz (i : Nat) ns) L.l == val F sz (vOf sz (i : Nat) ns) L.r) = decide (val F sz (vOf sz (i : Nat) ns) L.l = val F sz (vOf sz (i : Nat) ns) L.r) := by rw [Bool.eq_iff_iff]; simp
          rw [eb]
          rfl
        · rintro r M4 ⟨le4, hp4, hs4, x5, x10, x11, x12, rfl⟩
          refine ⟨s, _, rfl, hs4, M4, LE.refl _, ?_⟩
          have ea : ((c.map fun L => decide (val F sz (vOf sz (i : Nat) ns) L.l = val F sz (vOf sz (i : Nat) ns) L.r) == L.pos).any id) = clH F sz (vOf sz (i : Nat) ns) c := by rw [List.any_map]; rfl
          rw [ea]
          refine bI_i (fun e1 => ?_) (fun e1 => ?_)
          · rw [Bool.not_eq_true'] at e1
            have nv : ¬ Valid F sz c := fun z => by rw [z _ (fun x => vOf_bd hs0.1 ns _ x)] at e1; cases e1
            rw [holdsB_f nv] at h
            exact ⟨M, le.trans le4, h⟩
          · rw [Bool.not_eq_false'] at e1
            refine ⟨_, LE.refl _, le4, fun j hj => ?_, _, _, _, _, _, _, _, _, rfl⟩
            rcases List.mem_append.mp hj with z | z
            · exact hpre j z
            · rw [List.mem_singleton] at z; rw [z]; exact e1
    · rintro r M2 ⟨le2, hpre, x5, x6, x7, x8, x9, x10, x11, x12, rfl⟩
      have va : Valid F sz c := fun v hv => by
        have hb := encN_bd hs0.1 hv ns
        have h1 := hpre (encN sz v ns).toNat (List.mem_range.mpr (by omega))
        rw [show (((encN sz v ns).toNat : Nat) : Int) = encN sz v ns by omega] at h1
        rw [← h1]
        exact clH_congr (us := us) (p := fun x => x ∈ ns) (fun x hx => (vOf_encN hs0.1 hv ns x hx).symm) c hvg
      rw [holdsB_t va] at h
      exact ⟨M, le.trans le2, h⟩
end
end My
set_option maxHeartbeats 4000000
/-! F13: what is drawn. -/
namespace My
open PySem PySem.Spec PyProof.Rows L2
theorem cml {i j : Int} (h : (-(2 ^ 64) < i ∧ i < 2 ^ 64) := by decide) : CMul i j := .inl h
theorem cmr {i j : Int} (h : (-(2 ^ 64) < j ∧ j < 2 ^ 64) := by decide) : CMul i j := .inr h
theorem cdv {i j : Int} (h : 0 < j ∧ j < 1073741824 := by decide) : CDiv i j := h
theorem ltm {j : Int} (h : 0 < j := by decide) : 0 < j := h
mutual
/-- variables 0, 1, 2, at most two parts -/
def tok : Tm → Bool
  | .var x => decide (0 ≤ x) && decide (x < 3)
  | .app _ as => decide (as.length ≤ 2) && toks as
def toks : List Tm → Bool
  | [] => true
  | a :: as => tok a && toks as
end
theorem toks_app : ∀ as bs : List Tm, toks (as ++ bs) = (toks as && toks bs)
  | [], bs => by rw [List.nil_append, toks, Bool.true_and]
  | a :: as, bs => by rw [List.cons_append, toks, toks, toks_app as bs, Bool.and_assoc]
theorem isInds_app : ∀ as bs : List Tm, isInds (as ++ bs) = (isInds as && isInds bs)
  | [], bs => by rw [List.nil_append, isInds, Bool.true_and]
  | a :: as, bs => by rw [List.cons_append, isInds, isInds, isInds_app as bs, Bool.and_assoc]
theorem deps_le {n : Nat} : ∀ {as : List Tm}, (∀ a ∈ as, a.dep ≤ n) → Tm.deps as ≤ n
  | [], _ => by rw [Tm.deps]; omega
  | a :: as, h => by
    rw [Tm.deps]
    have := h a (by simp)
    have := deps_le (as := as) (fun b hb => h b (by simp [hb]))
    omega
theorem sizes_le {n : Nat} : ∀ {as : List Tm}, (∀ a ∈ as, a.size ≤ n) → Tm.sizes as ≤ as.length * n
  | [], _ => by rw [Tm.sizes]; omega
  | a :: as, h => by
    rw [Tm.sizes, List.length_cons, Nat.add_mul, Nat.one_mul]
    have := h a (by simp)
    have := sizes_le (as := as) (fun b hb => h b (by simp [hb]))
    omega
theorem sizes_le2 {as : List Tm} {n : Nat} (hl : as.length ≤ 2) (h : ∀ a ∈ as, a.size ≤ n) : Tm.sizes as ≤ 2 * n := by
  have h1 := sizes_le h
  have h2 : as.length * n ≤ 2 * n := Nat.mul_le_mul_right n hl
  omega
section
variable {P : Program} {w : World} {K : PySem.W.Frag} {mg : Str → Option Value} {base : Heap} {T : List (Addr × Str)} {k : Nat}
def spCell (K : PySem.W.Frag) : SpD := fun ds M R => ∃ a k ns, ds = [.ob a, .int k] ∧ 0 ≤ k ∧ Scr K M a ns ∧ ∀ z, R (.int z) M
theorem sc_l_cell : FnScope ["_law_script", "_law_k", "_law_cell_here", "_law_low", "_law_mid", "_law_high"] ["_law_script", "_law_k"] (defScope (top 54)) := ⟨rfl, rfl, rfl, by decide +kernel, rfl, by decide +kernel, by decide +kernel⟩
theorem c_l_cell (DA : DefAt K mg "_law_cell" (top 54)) (m_len : mg "len" = none) (m_int : mg "int" = none) : Cal P w K mg base T (k + 1) "_law_cell" (spCell K) := by
  refine dcal DA sc_l_cell (fun _ _ _ _ _ _ us hl => match us, hl with | [_, _], _ => rfl) (fun f cdv A outer s H E hr =>
    (dss_cons (ds_set (i := 2) sc_l_cell.nd (.inl rfl) (d_add (d_mul d_int (dv 1 (.inl rfl))) d_int))
    (dss_cons (ds_if (dt_lt (dv 1 (.inl rfl)) (d_lenS (dv 0 (.inl rfl)) (hg := by rfl) (hm := m_len) rfl))
      (dss_one (ds_set (i := 2) sc_l_cell.nd (.inl rfl) (d_ixS (dv 0 (.inl rfl)) (dv 1 (.inl rfl)) rfl)))
      dss_nil)
    (dss_cons (ds_if (dt_lt (dv 2 (.inl rfl)) d_int)
      (dss_one (ds_set (i := 2) sc_l_cell.nd (.inl rfl) (d_sub d_int (d_mul d_int (dv 2 (.inl rfl))))))
      dss_nil)
    (dss_cons (ds_if (dt_lt (dv 2 (.inl rfl)) d_int)
      (dss_cons (ds_set (i := 3) sc_l_cell.nd (.inl rfl) (d_mod (d_toInt (d_add (d_add (d_mul (dv 2 (.inl rfl)) d_int) (d_mul (dv 1 (.inl rfl)) d_int)) d_int) (hg := by rfl) (hm := m_int)) d_int))
      (dss_cons (ds_set (i := 4) sc_l_cell.nd (.inl rfl) (d_mod (d_toInt (d_add (d_add (d_mul (dv 3 (.inl rfl)) d_int) (d_mul (dv 1 (.inl rfl)) d_int)) d_int) (hg := by rfl) (hm := m_int)) d_int))
      (dss_cons (ds_set (i := 5) sc_l_cell.nd (.inl rfl) (d_mod (d_toInt (d_add (d_add (d_mul (dv 4 (.inl rfl)) d_int) (dv 3 (.inl rfl))) d_int) (hg := by rfl) (hm := m_int)) d_int))
      (dss_one (ds_set (i := 2) sc_l_cell.nd (.inl rfl) (d_add (d_mul (d_add (d_mul (dv 5 (.inl rfl)) d_int) (dv 4 (.inl rfl))) d_int) (dv 3 (.inl rfl))))))))
      dss_nil)
    (dss_one (ds_ret (dv 2 (.inl rfl))))))))) (fun ds M R h => by obtain ⟨_, _, _, rfl, _⟩ := h; rfl) (fun ds M R h => ?_)

  obtain ⟨a, k, ns, rfl, hk, hs, h⟩ := h
  refine ⟨cml, a, ns, rfl, hs, bI_i (fun e => ?_) (fun e => ?_)⟩
  · have e1 := of_decide_eq_true e
    have e2 : k.toNat < ns.length := by omega
    refine ⟨a, ns, k, ns[k.toNat], rfl, rfl, hs, ?_, ?_⟩
    · unfold atI ixN
      rw [if_pos hk, if_pos e1]
      show ns[k.toNat]? = _
      rw [List.getElem?_eq_getElem e2]
    · refine bI_i (fun e => ⟨cml, bI_i (fun e => ?_) (fun e => ret (h _))⟩) (fun e => bI_i (fun e => ?_) (fun e => ret (h _)))
      all_goals exact ⟨cmr, cmr, ltm, cmr, cmr, ltm, cmr, ltm, cmr, cmr, ret (h _)⟩
  · refine bI_i (fun e => ⟨cml, bI_i (fun e => ?_) (fun e => ret (h _))⟩) (fun e => bI_i (fun e => ?_) (fun e => ret (h _)))
    all_goals exact ⟨cmr, cmr, ltm, cmr, cmr, ltm, cmr, ltm, cmr, cmr, ret (h _)⟩
def wOf (kvs : List (List Int × D)) (f : Sym) : Int := match vD kvs (symL f) with
  | some (.int z) => z
  | _ => 1
def posD (d : D) : Prop := ∃ z : Int, d = .int z ∧ 1 ≤ z
theorem wOf_ok {kvs : List (List Int × D)} (h : ∀ p ∈ kvs, posD p.2) (f : Sym) : (vD kvs (symL f)).getD (.int 1) = .int (wOf kvs f) ∧ 1 ≤ wOf kvs f := by
  unfold wOf
  cases e : vD kvs (symL f) with
  | none => exact ⟨rfl, by decide⟩
  | some d =>
    have : ∃ p ∈ kvs, p.2 = d := by
      unfold vD at e
      obtain ⟨p, h1, h2⟩ := Option.map_eq_some_iff.mp e
      exact ⟨p, List.mem_of_find?_eq_some h1, h2⟩
    obtain ⟨p, hp, e2⟩ := this
    obtain ⟨z, hz, h1⟩ := h p hp
    rw [e2] at hz
    subst hz
    exact ⟨rfl, h1⟩
theorem pD_pos {kvs : List (List Int × D)} (h : ∀ p ∈ kvs, posD p.2) (ns : List Int) {d : D} (hd : posD d) : ∀ p ∈ pD kvs ns d, posD p.2 := by
  intro p hp
  unfold pD at hp
  split at hp
  · obtain ⟨q, hq, e⟩ := List.mem_map.mp hp
    rw [← e]
    split
    · exact hd
    · exact h q hq
  · rcases List.mem_append.mp hp with z | z
    · exact h p z
    · rw [List.mem_singleton] at z; rw [z]; exact hd
def wSyms : List Sym := [(2, 0, 0), (2, 1, 0), (3, 0, 0), (2, 2, 0), (1, 0, 0), (1, 1, 0)]
def spWts : SpD := fun ds M R => ∃ row : Int, ds = [.int row] ∧ ∀ p M' W, LE M M' → WtOK M' p W → (∀ f, 1 ≤ W f) → R (.ob p) M'
theorem sc_l_weights : FnScope ["_law_row", "_law_symbols", "_law_weights_here", "_law_symbol_here"] ["_law_row"] (defScope (top 55)) := ⟨rfl, rfl, rfl, by decide +kernel, rfl, by decide +kernel, by decide +kernel⟩
theorem c_l_weights (DA : DefAt K mg "_law_weights" (top 55)) (m_int : mg "int" = none) : Cal P w K mg base T (k + 1) "_law_weights" spWts := by
  refine dcal DA sc_l_weights (fun _ _ _ _ _ _ us hl => match us, hl with | [_], _ => rfl) (fun f cdv A outer s H E hr =>
    (dss_cons (ds_set (i := 1) sc_l_weights.nd (.inl rfl) (d_lst (da_cons (d_tup (da_cons d_int (da_cons d_int (da_cons d_int da_nil)))) (da_cons (d_tup (da_cons d_int (da_cons d_int (da_cons d_int da_nil)))) (da_cons (d_tup (da_cons d_int (da_cons d_int (da_cons d_int da_nil)))) (da_cons (d_tup (da_cons d_int (da_cons d_int (da_cons d_int da_nil)))) (da_cons (d_tup (da_cons d_int (da_cons d_int (da_cons d_int da_nil)))) (da_cons (d_tup (da_cons d_int (da_cons d_int (da_cons d_int da_nil)))) da_nil))))))))
    (dss_cons (ds_set (i := 2) sc_l_weights.nd (.inl rfl) d_newT)
    (dss_cons (ds_for PassesOwn.never rfl (di_lst (dv 1 (.inl rfl))) (dg_name (i := 3) sc_l_weights.nd (.inl rfl))
      (dss_cons (ds_if (dt_ieq (d_mod (d_toInt (dv 0 (.inl rfl)) (hg := by rfl) (hm := m_int)) d_int) d_int)
        (dss_one (ds_dput (hu_of hr) (dv 2 (.inl rfl)) (dv 3 (.inl rfl)) (d_add d_int (d_mod (d_fdiv (dv 0 (.inl rfl)) d_int) d_int))))
        dss_nil)
      (dss_cons (ds_if (dt_ieq (d_mod (d_toInt (dv 0 (.inl rfl)) (hg := by rfl) (hm := m_int)) d_int) d_int)
        (dss_one (ds_dput (hu_of hr) (dv 2 (.inl rfl)) (dv 3 (.inl rfl)) (d_add d_int (d_mod (d_fdiv (dv 0 (.inl rfl)) d_int) d_int))))
        dss_nil)
      (dss_one (ds_set (i := 0) sc_l_weights.nd (.inl rfl) (d_fdiv (dv 0 (.inl rfl)) d_int))))))
    (dss_one (ds_ret (dv 2 (.inl rfl)))))))) (fun ds M R h => by obtain ⟨_, rfl, _⟩ := h; rfl) (fun ds M R h => ?_)

  obtain ⟨row, rfl, h⟩ := h
  refine fun q hq => fun p hp => ?_
  have npq : q ≠ p := fun z => by rw [← z, um_same] at hp; cases hp
  have hpM : M p = none := le_fresh (le_um hq) hp
  refine ⟨_, by rw [um_ne npq, um_same], ?_⟩
  refine for_map esym wSyms rfl (fun pre post r M' => LE (um M q (.lst (wSyms.map esym))) M' ∧ ∃ kvs row x, M' p = some (.dT kvs) ∧ (∀ p ∈ kvs, posD p.2) ∧ kvs.length ≤ pre.length * 2 ∧ r = [some (.int row), some (.ob q), some (.ob p), x])
    ⟨le_um hp, [], row, none, um_same, (fun _ z => by cases z), by simp, rfl⟩ (fun _ _ _ _ _ ⟨l, _⟩ => l _ _ um_same) ?_ ?_
  · rintro pre f post r M' e ⟨le, kvs, row, x, hq', hpos, hlen, rfl⟩
    have hpl : pre.length ≤ 6 := by
      have := congrArg List.length e
      simp [wSyms] at this; omega
    have one : posD (.int (1 + row / 3 % 4)) := ⟨_, rfl, by have := Int.emod_nonneg (row / 3) (show (4 : Int) ≠ 0 by decide); omega⟩
    have two : posD (.int (1 + row / 3 % 2)) := ⟨_, rfl, by have := Int.emod_nonneg (row / 3) (show (2 : Int) ≠ 0 by decide); omega⟩
    have l1 := pD_length kvs (symL f) (.int (1 + row / 3 % 4))
    have l2 := pD_length kvs (symL f) (.int (1 + row / 3 % 2))
    refine ⟨ltm, bI_i (fun e1 => ?_) (fun e1 => ?_)⟩
    · refine ⟨cdv, ltm, p, _, rfl, .inr ⟨kvs, symL f, hq', esym_L f, by omega, rfl⟩, ltm, bI_i (fun e2 => ?_) (fun e2 => ?_)⟩
      · exfalso
        have a1 : row % 3 = 1 := of_decide_eq_true e1
        have a2 : row % 3 = 2 := of_decide_eq_true e2
        omega
      · refine ⟨cdv, _, LE.refl _, le.upd hp, _, _, _, um_same, pD_pos hpos _ one, ?_, rfl⟩
        simp only [List.length_append, List.length_singleton]; omega
    · refine ⟨ltm, bI_i (fun e2 => ?_) (fun e2 => ?_)⟩
      · refine ⟨cdv, ltm, p, _, rfl, .inr ⟨kvs, symL f, hq', esym_L f, by omega, rfl⟩, cdv, _, LE.refl _, le.upd hp, _, _, _, um_same, pD_pos hpos _ two, ?_, rfl⟩
        simp only [List.length_append, List.length_singleton]; omega
      · refine ⟨cdv, _, LE.refl _, le, kvs, _, _, hq', hpos, ?_, rfl⟩
        simp only [List.length_append, List.length_singleton]; omega
  · rintro r M' ⟨le, kvs, row, x, hq', hpos, hlen, rfl⟩
    exact ret (h p M' (wOf kvs) ((le_um hq).trans le) ⟨kvs, hq', fun f => (wOf_ok hpos f).1⟩ fun f => (wOf_ok hpos f).2)
def spSym : SpD := fun ds M R => ∃ row : Int, ds = [.int row] ∧ ∀ f : Sym, (f.1 = 2 ∨ f.1 = 3) → R (esym f) M
theorem sc_l_symbol : FnScope ["_law_n", "_law_symbols"] ["_law_n"] (defScope (top 56)) := ⟨rfl, rfl, rfl, by decide +kernel, rfl, by decide +kernel, by decide +kernel⟩
theorem c_l_symbol (DA : DefAt K mg "_law_symbol" (top 56)) (m_int : mg "int" = none) : Cal P w K mg base T (k + 1) "_law_symbol" spSym := by
  refine dcal DA sc_l_symbol (fun _ _ _ _ _ _ us hl => match us, hl with | [_], _ => rfl) (fun f cdv A outer s H E hr =>
    (dss_cons (ds_set (i := 1) sc_l_symbol.nd (.inl rfl) (d_lst (da_cons (d_tup (da_cons d_int (da_cons d_int (da_cons d_int da_nil)))) (da_cons (d_tup (da_cons d_int (da_cons d_int (da_cons d_int da_nil)))) (da_cons (d_tup (da_cons d_int (da_cons d_int (da_cons d_int da_nil)))) (da_cons (d_tup (da_cons d_int (da_cons d_int (da_cons d_int da_nil)))) (da_cons (d_tup (da_cons d_int (da_cons d_int (da_cons d_int da_nil)))) da_nil)))))))
    (dss_one (ds_ret (d_ix (dv 1 (.inl rfl)) (d_mod (d_toInt (dv 0 (.inl rfl)) (hg := by rfl) (hm := m_int)) d_int)))))) (fun ds M R h => by obtain ⟨_, rfl, _⟩ := h; rfl) (fun ds M R h => ?_)

  obtain ⟨row, rfl, h⟩ := h
  refine fun p hp => ⟨ltm, ?_⟩
  have h0 := Int.emod_nonneg row (show (5 : Int) ≠ 0 by decide)
  have h1 := Int.emod_lt_of_pos row (show (0 : Int) < 5 by decide)
  have fin : ∀ f : Sym, (f.1 = 2 ∨ f.1 = 3) → ∃ M2, LE M2 (um M p (.lst [esym (2, 0, 0), esym (2, 1, 0), esym (3, 0, 0), esym (2, 2, 0), esym (3, 4, 1)])) ∧ R (esym f) M2 := fun f hf => ⟨M, le_um hp, h f hf⟩
  have c : row % 5 = 0 ∨ row % 5 = 1 ∨ row % 5 = 2 ∨ row % 5 = 3 ∨ row % 5 = 4 := by omega
  rcases c with e | e | e | e | e
  · exact ⟨_, esym (2, 0, 0), um_same, by rw [e]; rfl, fin _ (.inl rfl)⟩
  · exact ⟨_, esym (2, 1, 0), um_same, by rw [e]; rfl, fin _ (.inl rfl)⟩
  · exact ⟨_, esym (3, 0, 0), um_same, by rw [e]; rfl, fin _ (.inr rfl)⟩
  · exact ⟨_, esym (2, 2, 0), um_same, by rw [e]; rfl, fin _ (.inl rfl)⟩
  · exact ⟨_, esym (3, 4, 1), um_same, by rw [e]; rfl, fin _ (.inr rfl)⟩
def spTerm (n : Nat) : SpD := fun ds M R => ∃ (row : Int) (d : Nat), ds = [.int row, .int (d : Nat)] ∧ d < n ∧ ∀ t m, isInd t = true → tok t = true → t.dep ≤ d + 1 → t.size + 1 ≤ 2 ^ (d + 1) → R (.tup [enc t, .int m]) M
theorem sc_l_term : FnScope ["_law_row", "_law_deep", "_law_kind", "_law_many", "_law_symbol_here", "_law_parts", "_law_k", "_law_found"] ["_law_row", "_law_deep"] (defScope (top 57)) := ⟨rfl, rfl, rfl, by decide +kernel, rfl, by decide +kernel, by decide +kernel⟩
theorem c_l_term (DA : DefAt K mg "_law_term" (top 57)) {n : Nat} (C_l_symbol : Cal P w K mg base T k "_law_symbol" spSym) (C_l_term : Cal P w K mg base T k "_law_term" (spTerm n)) (m_int : mg "int" = none) (m_range : mg "range" = none) (m_tuple : mg "tuple" = none) : Cal P w K mg base T (k + 1) "_law_term" (spTerm (n + 1)) := by
  refine dcal DA sc_l_term (fun _ _ _ _ _ _ us hl => match us, hl with | [_, _], _ => rfl) (fun f cdv A outer s H E hr =>
    (dss_cons (ds_set (i := 2) sc_l_term.nd (.inl rfl) (d_mod (d_toInt (dv 0 (.inl rfl)) (hg := by rfl) (hm := m_int)) d_int))
    (dss_cons (ds_set (i := 0) sc_l_term.nd (.inl rfl) (d_fdiv (dv 0 (.inl rfl)) d_int))
    (dss_cons (ds_if (dt_lt (dv 2 (.inl rfl)) d_int)
      (dss_one (ds_ret (d_tup (da_cons (d_mod (d_toInt (dv 0 (.inl rfl)) (hg := by rfl) (hm := m_int)) d_int) (da_cons (d_fdiv (dv 0 (.inl rfl)) d_int) da_nil)))))
      dss_nil)
    (dss_cons (ds_set (i := 3) sc_l_term.nd (.inl rfl) (d_mod (d_toInt (dv 0 (.inl rfl)) (hg := by rfl) (hm := m_int)) d_int))
    (dss_cons (ds_set (i := 0) sc_l_term.nd (.inl rfl) (d_fdiv (dv 0 (.inl rfl)) d_int))
    (dss_cons (ds_if (dt_ieq (dv 1 (.inl rfl)) d_int)
      (dss_one (ds_set (i := 3) sc_l_term.nd (.inl rfl) d_int))
      dss_nil)
    (dss_cons (ds_set (i := 4) sc_l_term.nd (.inl rfl) (d_call C_l_symbol hr (by rfl) (da_cons (d_mod (d_toInt (dv 0 (.inl rfl)) (hg := by rfl) (hm := m_int)) d_int) da_nil)))
    (dss_cons (ds_set (i := 0) sc_l_term.nd (.inl rfl) (d_fdiv (dv 0 (.inl rfl)) d_int))
    (dss_cons (ds_set (i := 5) sc_l_term.nd (.inl rfl) (d_lst da_nil))
    (dss_cons (ds_for PassesOwn.never rfl (di_rng (dv 3 (.inl rfl)) (by rfl) m_range) (dg_name (i := 6) sc_l_term.nd (.inl rfl))
      (dss_cons (ds_set (i := 7) sc_l_term.nd (.inl rfl) (d_call C_l_term hr (by rfl) (da_cons (dv 0 (.inl rfl)) (da_cons (d_sub (dv 1 (.inl rfl)) d_int) da_nil))))
      (dss_cons (ds_expr (d_append (dv 5 (.inl rfl)) (d_ix (dv 7 (.inl rfl)) d_int)))
      (dss_one (ds_set (i := 0) sc_l_term.nd (.inl rfl) (d_ix (dv 7 (.inl rfl)) d_int))))))
    (dss_one (ds_ret (d_tup (da_cons (d_tup (da_cons (dv 4 (.inl rfl)) (da_cons (d_toTup (dv 5 (.inl rfl)) (hg := by rfl) (hm := m_tuple)) da_nil))) (da_cons (dv 0 (.inl rfl)) da_nil)))))))))))))))) (fun ds M R h => by obtain ⟨_, _, rfl, _⟩ := h; rfl) (fun ds M R h => ?_)

  obtain ⟨row, d, rfl, hd, h⟩ := h
  refine ⟨ltm, cdv, bI_i (fun e => ?_) (fun e => ?_)⟩
  · refine ⟨ltm, cdv, ret (h (.var _) _ rfl ?_ (by rw [Tm.dep]; omega) ?_)⟩
    · have h0 := Int.emod_nonneg (row / 5) (show (3 : Int) ≠ 0 by decide)
      have h1 := Int.emod_lt_of_pos (row / 5) (show (0 : Int) < 3 by decide)
      rw [tok, decide_eq_true h0, decide_eq_true h1]; rfl
    · rw [Tm.size]
      have : 2 ^ 1 ≤ 2 ^ (d + 1) := Nat.pow_le_pow_right (by decide) (by omega)
      omega
  · have rest : ∀ (many row : Int) (x2 : Option D), 0 ≤ many → many ≤ 2 → (d = 0 → many = 0) → ∀ f : Sym, (f.1 = 2 ∨ f.1 = 3) → ∀ p, M p = none →
        forD ⟨(List.range many.toNat).map fun i => .int (i : Nat), fun _ => True⟩ (gNameD 6) (tSeqD (tSetD 7 (tCallD (spTerm n) (tConsD (tVarD 0) (tConsD (tOpD (mInt fun i j => .int (i - j)) (tVarD 1) (tCD (.int 1))) tNilD))))
          (tSeqD (tDropD (tAppD (tVarD 5) (tOpD mIx (tVarD 7) (tCD (.int 0))))) (tSetD 0 (tOpD mIx (tVarD 7) (tCD (.int 1))))))
          { endD R with nx := tRetD (tTupD 2 (tConsD (tTupD 2 (tConsD (tVarD 4) (tConsD (tUnD mToTup (tVarD 5)) tNilD))) (tConsD (tVarD 0) tNilD))) (endD R) }
          [some (.int row), some (.int (d : Nat)), x2, some (.int many), some (esym f), some (.ob p), none, none] (um M p (.lst [])) := by
      intro many row x2 hm0 hm2 hmd f hf p hp
      refine for_map (fun i : Nat => D.int (i : Nat)) (List.range many.toNat) rfl (fun pre post r M' => LE M M' ∧ ∃ as row x6 x7, M' p = some (.lst (encs as)) ∧ as.length = pre.length ∧ (∀ a ∈ as, isInd a = true ∧ tok a = true ∧ a.dep ≤ d ∧ a.size + 1 ≤ 2 ^ d) ∧
        r = [some (.int row), some (.int (d : Nat)), x2, some (.int many), some (esym f), some (.ob p), x6, x7]) ⟨le_um hp, [], row, none, none, um_same, rfl, (fun _ z => by cases z), rfl⟩ (fun _ _ _ _ _ _ => trivial) ?_ ?_
      · rintro pre i post r M' e ⟨le, as, row, x6, x7, hp', hal, hg, rfl⟩
        obtain ⟨hi, hil⟩ := range_split e
        have hd0 : d ≠ 0 := fun z => by have := hmd z; omega
        obtain ⟨d', rfl⟩ := Nat.exists_eq_succ_of_ne_zero hd0
        refine ⟨row, d', ?_, by omega, fun t m h1 h2 h3 h4 => ?_⟩
        · have e3 : (((d' + 1 : Nat) : Int) - 1) = ((d' : Nat) : Int) := by omega
          exact congrArg (fun z : Int => [D.int row, D.int z]) e3
        · refine ⟨p, _, rfl, hp', _, hp', by rw [encs_len]; omega, _, LE.refl _, le.upd hp, as ++ [t], m, _, _, by rw [um_same, encs_append]; rfl, by simp [hal], ?_, rfl⟩
          intro a ha
          rcases List.mem_append.mp ha with z | z
          · exact hg a z
          · rw [List.mem_singleton] at z; rw [z]; exact ⟨h1, h2, h3, h4⟩
      · rintro r M' ⟨le, as, row, x6, x7, hp', hal, hg, rfl⟩
        rw [List.length_range] at hal
        have hl2 : as.length ≤ 2 := by omega
        have hz := sizes_le2 (n := 2 ^ d - 1) hl2 (fun a ha => by have := (hg a ha).2.2.2; omega)
        have hp2 : 0 < 2 ^ d := Nat.pow_pos (by decide)
        refine ⟨_, hp', M, le, ret (h (.app f as) row ?_ ?_ ?_ ?_)⟩
        · rw [isInd, isInds_all]
          have : as.all isInd = true := List.all_eq_true.mpr fun a ha => (hg a ha).1
          rw [this, Bool.and_true, Bool.or_eq_true, decide_eq_true_eq, decide_eq_true_eq]
          exact hf
        · rw [tok, decide_eq_true hl2, Bool.true_and]
          have : ∀ bs : List Tm, (∀ a ∈ bs, tok a = true) → toks bs = true := fun bs => by
            induction bs with
            | nil => intro _; rfl
            | cons b bs ih => intro h; rw [toks, h b (by simp), Bool.true_and]; exact ih fun a ha => h a (by simp [ha])
          exact this as fun a ha => (hg a ha).2.1
        · rw [dep_app]
          have := deps_le (n := d) fun a ha => (hg a ha).2.2.1
          omega
        · rw [size_app, Nat.pow_succ]; omega
    refine ⟨ltm, cdv, bI_i (fun e1 => ?_) (fun e1 => ?_)⟩
    · refine ⟨ltm, _, rfl, fun f hf => ⟨cdv, fun p hp => ⟨by decide, by decide, ?_⟩⟩⟩
      exact rest 0 _ _ (by decide) (by decide) (fun _ => rfl) f hf p hp
    · have h0 := Int.emod_nonneg (row / 5) (show (3 : Int) ≠ 0 by decide)
      have h1 := Int.emod_lt_of_pos (row / 5) (show (0 : Int) < 3 by decide)
      refine ⟨ltm, _, rfl, fun f hf => ⟨cdv, fun p hp => ⟨by omega, by omega, ?_⟩⟩⟩
      exact rest _ _ _ h0 (by omega) (fun z => by have := of_decide_eq_false e1; omega) f hf p hp
end
end My
set_option maxHeartbeats 4000000
/-! F14: atoms, literals, clauses that are drawn. -/
namespace My
open PySem PySem.Spec PyProof.Rows L2
theorem toks_all : ∀ as : List Tm, (∀ a ∈ as, tok a = true) → toks as = true
  | [], _ => rfl
  | b :: bs, h => by rw [toks, h b (by simp), Bool.true_and]; exact toks_all bs fun a ha => h a (by simp [ha])
/-- a side that is drawn -/
structure TK (t : Tm) : Prop where
  tok : tok t = true
  dep : t.dep ≤ 3
  size : t.size ≤ 7
structure GL (L : Lit) : Prop where
  sort : (isInd L.l = true ∧ isInd L.r = true) ∨ (isAtm L.l = true ∧ L.l.isAtom = true ∧ L.r = tru)
  l : TK L.l
  r : TK L.r
theorem tk_tru : TK tru := ⟨rfl, by decide, by decide⟩
section
variable {P : Program} {w : World} {K : PySem.W.Frag} {mg : Str → Option Value} {base : Heap} {T : List (Addr × Str)} {k : Nat}
def spAtom : SpD := fun ds M R => ∃ (row : Int), ds = [.int row, .int 1] ∧ ∀ t m, isAtm t = true → t.isAtom = true → TK t → R (.tup [enc t, .int m]) M
theorem sc_l_atom : FnScope ["_law_row", "_law_deep", "_law_symbols", "_law_symbol_here", "_law_many", "_law_parts", "_law_k", "_law_found"] ["_law_row", "_law_deep"] (defScope (top 58)) := ⟨rfl, rfl, rfl, by decide +kernel, rfl, by decide +kernel, by decide +kernel⟩
theorem c_l_atom (DA : DefAt K mg "_law_atom" (top 58)) (C_l_term : Cal P w K mg base T k "_law_term" (spTerm 2)) (m_int : mg "int" = none) (m_range : mg "range" = none) (m_tuple : mg "tuple" = none) : Cal P w K mg base T (k + 1) "_law_atom" spAtom := by
  refine dcal DA sc_l_atom (fun _ _ _ _ _ _ us hl => match us, hl with | [_, _], _ => rfl) (fun f cdv A outer s H E hr =>
    (dss_cons (ds_set (i := 2) sc_l_atom.nd (.inl rfl) (d_lst (da_cons (d_tup (da_cons d_int (da_cons d_int (da_cons d_int da_nil)))) (da_cons (d_tup (da_cons d_int (da_cons d_int (da_cons d_int da_nil)))) (da_cons (d_tup (da_cons d_int (da_cons d_int (da_cons d_int da_nil)))) (da_cons (d_tup (da_cons d_int (da_cons d_int (da_cons d_int da_nil)))) (da_cons (d_tup (da_cons d_int (da_cons d_int (da_cons d_int da_nil)))) (da_cons (d_tup (da_cons d_int (da_cons d_int (da_cons d_int da_nil)))) da_nil))))))))
    (dss_cons (ds_set (i := 3) sc_l_atom.nd (.inl rfl) (d_ix (dv 2 (.inl rfl)) (d_mod (d_toInt (dv 0 (.inl rfl)) (hg := by rfl) (hm := m_int)) d_int)))
    (dss_cons (ds_set (i := 0) sc_l_atom.nd (.inl rfl) (d_fdiv (dv 0 (.inl rfl)) d_int))
    (dss_cons (ds_set (i := 4) sc_l_atom.nd (.inl rfl) (d_mod (d_toInt (dv 0 (.inl rfl)) (hg := by rfl) (hm := m_int)) d_int))
    (dss_cons (ds_set (i := 0) sc_l_atom.nd (.inl rfl) (d_fdiv (dv 0 (.inl rfl)) d_int))
    (dss_cons (ds_set (i := 5) sc_l_atom.nd (.inl rfl) (d_lst da_nil))
    (dss_cons (ds_for PassesOwn.never rfl (di_rng (dv 4 (.inl rfl)) (by rfl) m_range) (dg_name (i := 6) sc_l_atom.nd (.inl rfl))
      (dss_cons (ds_set (i := 7) sc_l_atom.nd (.inl rfl) (d_call C_l_term hr (by rfl) (da_cons (dv 0 (.inl rfl)) (da_cons (dv 1 (.inl rfl)) da_nil))))
      (dss_cons (ds_expr (d_append (dv 5 (.inl rfl)) (d_ix (dv 7 (.inl rfl)) d_int)))
      (dss_one (ds_set (i := 0) sc_l_atom.nd (.inl rfl) (d_ix (dv 7 (.inl rfl)) d_int))))))
    (dss_one (ds_ret (d_tup (da_cons (d_tup (da_cons (dv 3 (.inl rfl)) (da_cons (d_toTup (dv 5 (.inl rfl)) (hg := by rfl) (hm := m_tuple)) da_nil))) (da_cons (dv 0 (.inl rfl)) da_nil))))))))))))) (fun ds M R h => by obtain ⟨_, rfl, _⟩ := h; rfl) (fun ds M R h => ?_)

  obtain ⟨row, rfl, h⟩ := h
  refine fun s hs => ⟨ltm, ?_⟩
  have h0 := Int.emod_nonneg row (show (6 : Int) ≠ 0 by decide)
  have h1 := Int.emod_lt_of_pos row (show (0 : Int) < 6 by decide)
  have rest : ∀ f : Sym, (f.1 = 0 ∨ f.1 = 1 ∨ f.1 = 4 ∨ f.1 = 5) → ∀ (M0 : Mp), LE M M0 → ∀ p, M0 p = none → ∀ (many row : Int) (x2 : Option D), 0 ≤ many → many ≤ 2 →
        forD ⟨(List.range many.toNat).map fun i => .int (i : Nat), fun _ => True⟩ (gNameD 6) (tSeqD (tSetD 7 (tCallD (spTerm 2) (tConsD (tVarD 0) (tConsD (tVarD 1) tNilD))))
          (tSeqD (tDropD (tAppD (tVarD 5) (tOpD mIx (tVarD 7) (tCD (.int 0))))) (tSetD 0 (tOpD mIx (tVarD 7) (tCD (.int 1))))))
          { endD R with nx := tRetD (tTupD 2 (tConsD (tTupD 2 (tConsD (tVarD 3) (tConsD (tUnD mToTup (tVarD 5)) tNilD))) (tConsD (tVarD 0) tNilD))) (endD R) }
          [some (.int row), some (.int 1), x2, some (esym f), some (.int many), some (.ob p), none, none] (um M0 p (.lst [])) := by
    intro f hf M0 le0 p hp many row x2 hm0 hm2
    refine for_map (fun i : Nat => D.int (i : Nat)) (List.range many.toNat) rfl (fun pre post r M' => LE M0 M' ∧ ∃ as row x6 x7, M' p = some (.lst (encs as)) ∧ as.length = pre.length ∧ (∀ a ∈ as, isInd a = true ∧ tok a = true ∧ a.dep ≤ 2 ∧ a.size ≤ 3) ∧
        r = [some (.int row), some (.int 1), x2, some (esym f), some (.int many), some (.ob p), x6, x7]) ⟨le_um hp, [], row, none, none, um_same, rfl, (fun _ z => by cases z), rfl⟩ (fun _ _ _ _ _ _ => trivial) ?_ ?_
    · rintro pre i post r M' e ⟨le, as, row, x6, x7, hp', hal, hg, rfl⟩
      obtain ⟨hi, hil⟩ := range_split e
      refine ⟨row, 1, rfl, by omega, fun t m h1 h2 h3 h4 => ?_⟩
      refine ⟨p, _, rfl, hp', _, hp', by rw [encs_len]; omega, _, LE.refl _, le.upd hp, as ++ [t], m, _, _, by rw [um_same, encs_append]; rfl, by simp [hal], ?_, rfl⟩
      intro a ha
      rcases List.mem_append.mp ha with z | z
      · exact hg a z
      · rw [List.mem_singleton] at z; rw [z]; exact ⟨h1, h2, h3, by have : 2 ^ (1 + 1) = 4 := rfl; omega⟩
    · rintro r M' ⟨le, as, row, x6, x7, hp', hal, hg, rfl⟩
      rw [List.length_range] at hal
      have hl2 : as.length ≤ 2 := by omega
      have hz := sizes_le2 (n := 3) hl2 (fun a ha => (hg a ha).2.2.2)
      have hi : isInds as = true := by rw [isInds_all]; exact List.all_eq_true.mpr fun a ha => (hg a ha).1
      refine ⟨_, hp', M, le0.trans le, ret (h (.app f as) row ?_ ?_ ⟨?_, ?_, ?_⟩)⟩
      · rw [isAtm, hi, Bool.and_true]
        rcases hf with e | e | e | e <;> rw [e] <;> rfl
      · rcases hf with e | e | e | e <;> (unfold Tm.isAtom; simp only [e]; rfl)
      · rw [tok, decide_eq_true hl2, Bool.true_and]
        exact toks_all as fun a ha => (hg a ha).2.1
      · rw [dep_app]
        have := deps_le (n := 2) fun a ha => (hg a ha).2.2.1
        omega
      · rw [size_app]; omega
  have m0 := Int.emod_nonneg (row / 6) (show (3 : Int) ≠ 0 by decide)
  have m1 := Int.emod_lt_of_pos (row / 6) (show (0 : Int) < 3 by decide)
  have c : row % 6 = 0 ∨ row % 6 = 1 ∨ row % 6 = 2 ∨ row % 6 = 3 ∨ row % 6 = 4 ∨ row % 6 = 5 := by omega
  rcases c with e | e | e | e | e | e
  · exact ⟨_, esym (1, 0, 0), um_same, by rw [e]; rfl, cdv, ltm, cdv, fun p hp => ⟨by omega, by omega, rest (1, 0, 0) (by decide) _ (le_um hs) p hp _ _ _ m0 (by omega)⟩⟩
  · exact ⟨_, esym (1, 1, 0), um_same, by rw [e]; rfl, cdv, ltm, cdv, fun p hp => ⟨by omega, by omega, rest (1, 1, 0) (by decide) _ (le_um hs) p hp _ _ _ m0 (by omega)⟩⟩
  · exact ⟨_, esym (4, 0, 0), um_same, by rw [e]; rfl, cdv, ltm, cdv, fun p hp => ⟨by omega, by omega, rest (4, 0, 0) (by decide) _ (le_um hs) p hp _ _ _ m0 (by omega)⟩⟩
  · exact ⟨_, esym (1, 2, 0), um_same, by rw [e]; rfl, cdv, ltm, cdv, fun p hp => ⟨by omega, by omega, rest (1, 2, 0) (by decide) _ (le_um hs) p hp _ _ _ m0 (by omega)⟩⟩
  · exact ⟨_, esym (5, 2, 0), um_same, by rw [e]; rfl, cdv, ltm, cdv, fun p hp => ⟨by omega, by omega, rest (5, 2, 0) (by decide) _ (le_um hs) p hp _ _ _ m0 (by omega)⟩⟩
  · exact ⟨_, esym (0, 0, 0), um_same, by rw [e]; rfl, cdv, ltm, cdv, fun p hp => ⟨by omega, by omega, rest (0, 0, 0) (by decide) _ (le_um hs) p hp _ _ _ m0 (by omega)⟩⟩
def spLit : SpD := fun ds M R => ∃ (row : Int), ds = [.int row, .int 1] ∧ ∀ L m, GL L → R (.tup [encL L, .int m]) M
theorem sc_l_literal : FnScope ["_law_row", "_law_deep", "_law_positive", "_law_kind", "_law_found", "_law_left", "_law_right"] ["_law_row", "_law_deep"] (defScope (top 59)) := ⟨rfl, rfl, rfl, by decide +kernel, rfl, by decide +kernel, by decide +kernel⟩
theorem c_l_literal (DA : DefAt K mg "_law_literal" (top 59)) (C_l_atom : Cal P w K mg base T k "_law_atom" spAtom) (C_l_term : Cal P w K mg base T k "_law_term" (spTerm 2)) (m_int : mg "int" = none) : Cal P w K mg base T (k + 1) "_law_literal" spLit := by
  refine dcal DA sc_l_literal (fun _ _ _ _ _ _ us hl => match us, hl with | [_, _], _ => rfl) (fun f cdv A outer s H E hr =>
    (dss_cons (ds_set (i := 2) sc_l_literal.nd (.inl rfl) (d_ieq (d_mod (d_toInt (dv 0 (.inl rfl)) (hg := by rfl) (hm := m_int)) d_int) d_int))
    (dss_cons (ds_set (i := 3) sc_l_literal.nd (.inl rfl) (d_mod (d_fdiv (dv 0 (.inl rfl)) d_int) d_int))
    (dss_cons (ds_set (i := 0) sc_l_literal.nd (.inl rfl) (d_fdiv (dv 0 (.inl rfl)) d_int))
    (dss_cons (ds_if (dt_ieq (dv 3 (.inl rfl)) d_int)
      (dss_cons (ds_set (i := 4) sc_l_literal.nd (.inl rfl) (d_call C_l_atom hr (by rfl) (da_cons (dv 0 (.inl rfl)) (da_cons (dv 1 (.inl rfl)) da_nil))))
      (dss_one (ds_ret (d_tup (da_cons (d_tup (da_cons (dv 2 (.inl rfl)) (da_cons (d_ix (dv 4 (.inl rfl)) d_int) (da_cons (d_tup (da_cons (d_tup (da_cons d_int (da_cons d_int (da_cons d_int da_nil)))) (da_cons (d_tup da_nil) da_nil))) da_nil)))) (da_cons (d_ix (dv 4 (.inl rfl)) d_int) da_nil))))))
      dss_nil)
    (dss_cons (ds_set (i := 5) sc_l_literal.nd (.inl rfl) (d_call C_l_term hr (by rfl) (da_cons (dv 0 (.inl rfl)) (da_cons (dv 1 (.inl rfl)) da_nil))))
    (dss_cons (ds_set (i := 6) sc_l_literal.nd (.inl rfl) (d_call C_l_term hr (by rfl) (da_cons (d_ix (dv 5 (.inl rfl)) d_int) (da_cons (dv 1 (.inl rfl)) da_nil))))
    (dss_one (ds_ret (d_tup (da_cons (d_tup (da_cons (dv 2 (.inl rfl)) (da_cons (d_ix (dv 5 (.inl rfl)) d_int) (da_cons (d_ix (dv 6 (.inl rfl)) d_int) da_nil)))) (da_cons (d_ix (dv 6 (.inl rfl)) d_int) da_nil)))))))))))) (fun ds M R h => by obtain ⟨_, rfl, _⟩ := h; rfl) (fun ds M R h => ?_)

  obtain ⟨row, rfl, h⟩ := h
  have tk : ∀ t, isInd t = true → tok t = true → t.dep ≤ 1 + 1 → t.size + 1 ≤ 2 ^ (1 + 1) → TK t := fun t _ h2 h3 h4 => ⟨h2, by omega, by have : 2 ^ (1 + 1) = 4 := rfl; omega⟩
  refine ⟨ltm, cdv, ltm, cdv, bI_i (fun e => ?_) (fun e => ?_)⟩
  · exact ⟨_, rfl, fun t m h1 h2 h3 => ret (h ⟨_, t, tru⟩ m ⟨.inr ⟨h1, h2, rfl⟩, h3, tk_tru⟩)⟩
  · exact ⟨_, 1, rfl, by omega, fun t m h1 h2 h3 h4 => ⟨m, 1, rfl, by omega, fun t' m' h1' h2' h3' h4' => ret (h ⟨_, t, t'⟩ m' ⟨.inl ⟨h1, h1'⟩, tk t h1 h2 h3 h4, tk t' h1' h2' h3' h4'⟩)⟩⟩
def spClause : SpD := fun ds M R => ∃ (row : Int) (most : Nat), ds = [.int row, .int (most : Nat), .int 1] ∧ most ≤ 10 ∧ ∀ c : Cl, (∀ L ∈ c, GL L) → c.length ≤ 2 * most → R (encC c) M
theorem sc_l_clause : FnScope ["_law_row", "_law_most", "_law_deep", "_law_many", "_law_literals", "_law_k", "_law_found"] ["_law_row", "_law_most", "_law_deep"] (defScope (top 60)) := ⟨rfl, rfl, rfl, by decide +kernel, rfl, by decide +kernel, by decide +kernel⟩
theorem c_l_clause (DA : DefAt K mg "_law_clause" (top 60)) (C_l_literal : Cal P w K mg base T k "_law_literal" spLit) (m_int : mg "int" = none) (m_len : mg "len" = none) (m_range : mg "range" = none) (m_tuple : mg "tuple" = none) : Cal P w K mg base T (k + 1) "_law_clause" spClause := by
  refine dcal DA sc_l_clause (fun _ _ _ _ _ _ us hl => match us, hl with | [_, _, _], _ => rfl) (fun f cdv A outer s H E hr =>
    (dss_cons (ds_set (i := 3) sc_l_clause.nd (.inl rfl) (d_mod (d_toInt (dv 0 (.inl rfl)) (hg := by rfl) (hm := m_int)) (d_add (dv 1 (.inl rfl)) d_int)))
    (dss_cons (ds_set (i := 0) sc_l_clause.nd (.inl rfl) (d_fdiv (dv 0 (.inl rfl)) (d_add (dv 1 (.inl rfl)) d_int)))
    (dss_cons (ds_set (i := 4) sc_l_clause.nd (.inl rfl) (d_lst da_nil))
    (dss_cons (ds_for PassesOwn.never rfl (di_rng (dv 3 (.inl rfl)) (by rfl) m_range) (dg_name (i := 5) sc_l_clause.nd (.inl rfl))
      (dss_cons (ds_set (i := 6) sc_l_clause.nd (.inl rfl) (d_call C_l_literal hr (by rfl) (da_cons (dv 0 (.inl rfl)) (da_cons (dv 2 (.inl rfl)) da_nil))))
      (dss_cons (ds_expr (d_append (dv 4 (.inl rfl)) (d_ix (dv 6 (.inl rfl)) d_int)))
      (dss_cons (ds_set (i := 0) sc_l_clause.nd (.inl rfl) (d_ix (dv 6 (.inl rfl)) d_int))
      (dss_one (ds_if (dt_ieq (d_mod (d_fdiv (dv 0 (.inl rfl)) d_int) d_int) d_int)
        (dss_one (ds_expr (d_append (dv 4 (.inl rfl)) (d_ix (dv 4 (.inl rfl)) (d_mod (d_toInt (dv 0 (.inl rfl)) (hg := by rfl) (hm := m_int)) (d_len (dv 4 (.inl rfl)) (hg := by rfl) (hm := m_len)))))))
        dss_nil))))))
    (dss_one (ds_ret (d_toTup (dv 4 (.inl rfl)) (hg := by rfl) (hm := m_tuple))))))))) (fun ds M R h => by obtain ⟨_, _, rfl, _⟩ := h; rfl) (fun ds M R h => ?_)

  obtain ⟨row, most, rfl, hm, h⟩ := h
  have hmp : (0 : Int) < (most : Int) + 1 := by omega
  have h0 := Int.emod_nonneg row (show (most : Int) + 1 ≠ 0 by omega)
  have h1 := Int.emod_lt_of_pos row hmp
  refine ⟨hmp, ⟨hmp, by omega⟩, fun p hp => ⟨by omega, by omega, ?_⟩⟩
  refine for_map (fun i : Nat => D.int (i : Nat)) (List.range (row % ((most : Int) + 1)).toNat) rfl (fun pre post r M' => LE M M' ∧ ∃ (c : Cl) (row' : Int) (x5 x6 : Option D), M' p = some (.lst (c.map encL)) ∧ c.length ≤ 2 * pre.length ∧ (∀ L ∈ c, GL L) ∧
    r = [some (.int row'), some (.int (most : Nat)), some (.int 1), some (.int (row % ((most : Int) + 1))), some (.ob p), x5, x6]) ⟨le_um hp, [], _, none, none, um_same, by simp, (fun _ z => by cases z), rfl⟩ (fun _ _ _ _ _ _ => trivial) ?_ ?_
  · rintro pre i post r M' e ⟨le, c, row', x5, x6, hp', hcl, hg, rfl⟩
    obtain ⟨hi, hil⟩ := range_split e
    have hil2 : pre.length < 11 := by omega
    refine ⟨row', rfl, fun L m hL => ⟨p, _, rfl, hp', _, hp', by rw [List.length_map]; omega, cdv, ltm, ?_⟩⟩
    have hp2 : um M' p (.lst (c.map encL ++ [encL L])) p = some (.lst ((c ++ [L]).map encL)) := by rw [um_same, List.map_append]; rfl
    have hg2 : ∀ L' ∈ c ++ [L], GL L' := fun L' hL' => by
      rcases List.mem_append.mp hL' with z | z
      · exact hg L' z
      · rw [List.mem_singleton] at z; rw [z]; exact hL
    have hl2 : (c ++ [L]).length = c.length + 1 := by simp
    refine bI_i (fun e1 => ?_) (fun e1 => ?_)
    · have hlp : (0 : Int) < (((c ++ [L]).map encL).length : Nat) := by rw [List.length_map]; omega
      have n0 := Int.emod_nonneg m (show (((((c ++ [L]).map encL).length : Nat) : Int)) ≠ 0 by omega)
      have n1 := Int.emod_lt_of_pos m hlp
      have hjl : (m % (((c ++ [L]).map encL).length : Nat)).toNat < (c ++ [L]).length := by rw [List.length_map] at n0 n1 ⊢; omega
      have hat : atI ((c ++ [L]).map encL) (m % (((c ++ [L]).map encL).length : Nat)) = some (encL (c ++ [L])[(m % (((c ++ [L]).map encL).length : Nat)).toNat]) := by
        unfold atI ixN
        rw [if_pos n0, if_pos n1]
        show ((c ++ [L]).map encL)[(m % (((c ++ [L]).map encL).length : Nat)).toNat]? = _
        rw [List.getElem?_map, List.getElem?_eq_getElem hjl]; rfl
      have hGL : GL (c ++ [L])[(m % (((c ++ [L]).map encL).length : Nat)).toNat] := hg2 _ (List.getElem_mem hjl)
      generalize (c ++ [L])[(m % (((c ++ [L]).map encL).length : Nat)).toNat] = L2 at hat hGL
      refine ⟨p, _, rfl, hp2, _, hp2, hlp, _, encL L2, hp2, hat, _, hp2, by rw [List.length_map]; omega, ?_⟩
      refine ⟨_, LE.refl _, (le.upd hp).upd hp, c ++ [L] ++ [L2], _, _, _, by rw [um_same, List.map_append (l₁ := c ++ [L])]; rfl, by simp; omega, ?_, rfl⟩
      intro L' hL'
      rcases List.mem_append.mp hL' with z | z
      · exact hg2 L' z
      · rw [List.mem_singleton] at z; rw [z]; exact hGL
    · exact ⟨_, LE.refl _, le.upd hp, c ++ [L], _, _, _, hp2, by rw [hl2, List.length_append, List.length_singleton]; omega, hg2, rfl⟩
  · rintro r M' ⟨le, c, row', x5, x6, hp', hcl, hg, rfl⟩
    rw [List.length_range] at hcl
    exact ⟨_, hp', M, le, ret (h c hg (by omega))⟩
def spPart : SpD := fun ds M R => ∃ (c : Cl) (row : Int), ds = [encC c, .int row] ∧ c.length ≤ 100 ∧ ∀ c' : Cl, c'.Sublist c → R (encC c') M
theorem sc_l_part : FnScope ["_law_clause_here", "_law_row", "_law_kept", "_law_one"] ["_law_clause_here", "_law_row"] (defScope (top 88)) := ⟨rfl, rfl, rfl, by decide +kernel, rfl, by decide +kernel, by decide +kernel⟩
theorem c_l_part (DA : DefAt K mg "_law_part" (top 88)) (m_int : mg "int" = none) (m_tuple : mg "tuple" = none) : Cal P w K mg base T (k + 1) "_law_part" spPart := by
  refine dcal DA sc_l_part (fun _ _ _ _ _ _ us hl => match us, hl with | [_, _], _ => rfl) (fun f cdv A outer s H E hr =>
    (dss_cons (ds_set (i := 2) sc_l_part.nd (.inl rfl) (d_lst da_nil))
    (dss_cons (ds_for PassesOwn.never rfl (di_tup (dv 0 (.inl rfl))) (dg_name (i := 3) sc_l_part.nd (.inl rfl))
      (dss_cons (ds_if (dt_ieq (d_mod (d_toInt (dv 1 (.inl rfl)) (hg := by rfl) (hm := m_int)) d_int) d_int)
        (dss_one (ds_expr (d_append (dv 2 (.inl rfl)) (dv 3 (.inl rfl)))))
        dss_nil)
      (dss_one (ds_set (i := 1) sc_l_part.nd (.inl rfl) (d_fdiv (dv 1 (.inl rfl)) d_int)))))
    (dss_one (ds_ret (d_toTup (dv 2 (.inl rfl)) (hg := by rfl) (hm := m_tuple))))))) (fun ds M R h => by obtain ⟨_, _, rfl, _⟩ := h; rfl) (fun ds M R h => ?_)

  obtain ⟨c, row, rfl, hl, h⟩ := h
  refine fun p hp => ?_
  refine for_map encL c rfl (fun pre post r M' => LE M M' ∧ ∃ (c' : Cl) (row' : Int) (x3 : Option D), M' p = some (.lst (c'.map encL)) ∧ c'.Sublist pre ∧ r = [some (encC c), some (.int row'), some (.ob p), x3]) ⟨le_um hp, [], row, none, um_same, List.Sublist.refl _, rfl⟩ (fun _ _ _ _ _ _ => trivial) ?_ ?_
  · rintro pre L post r M' e ⟨le, c', row', x3, hp', hsub, rfl⟩
    have hcl : c'.length ≤ 100 := by
      have := hsub.length_le
      have : c.length = pre.length + (post.length + 1) := by rw [e]; simp
      omega
    refine ⟨ltm, bI_i (fun e1 => ?_) (fun e1 => ?_)⟩
    · exact ⟨p, _, rfl, hp', _, hp', by rw [List.length_map]; omega, cdv, _, LE.refl _, le.upd hp, c' ++ [L], _, _, by rw [um_same, List.map_append]; rfl, hsub.append (List.Sublist.refl _), rfl⟩
    · exact ⟨cdv, _, LE.refl _, le, c', _, _, hp', hsub.trans (List.sublist_append_left _ _), rfl⟩
  · rintro r M' ⟨le, c', row', x3, hp', hsub, rfl⟩
    exact ⟨_, hp', M, le, ret (h c' hsub)⟩
def spMore : SpD := fun ds M R => ∃ (c : Cl) (row : Int), ds = [encC c, .int row] ∧ c.length ≤ 100 ∧ (∀ L ∈ c, GL L) ∧ ∀ c' : Cl, (∀ L ∈ c', GL L) → c'.length ≤ c.length + 2 → R (encC c') M
theorem GL.neg {L : Lit} (h : GL L) (b : Bool) : GL ⟨b, L.l, L.r⟩ := ⟨h.sort, h.l, h.r⟩
theorem GL.swap {L : Lit} (h : GL L) (h1 : isInd L.l = true) (h2 : isInd L.r = true) : GL ⟨L.pos, L.r, L.l⟩ := ⟨.inl ⟨h2, h1⟩, h.r, h.l⟩
theorem sc_l_more : FnScope ["_law_clause_here", "_law_row", "_law_made", "_law_k", "_law_one"] ["_law_clause_here", "_law_row"] (defScope (top 87)) := ⟨rfl, rfl, rfl, by decide +kernel, rfl, by decide +kernel, by decide +kernel⟩
theorem c_l_more (DA : DefAt K mg "_law_more" (top 87)) (C_l_is_individual : Cal P w K mg base T k "_law_is_individual" (spInd 16)) (m_int : mg "int" = none) (m_len : mg "len" = none) (m_list : mg "list" = none) (m_range : mg "range" = none) (m_tuple : mg "tuple" = none) : Cal P w K mg base T (k + 1) "_law_more" spMore := by
  refine dcal DA sc_l_more (fun _ _ _ _ _ _ us hl => match us, hl with | [_, _], _ => rfl) (fun f cdv A outer s H E hr =>
    (dss_cons (ds_set (i := 2) sc_l_more.nd (.inl rfl) (d_toLst (dv 0 (.inl rfl)) (hg := by rfl) (hm := m_list)))
    (dss_cons (ds_for PassesOwn.never rfl (di_rng (d_mod (d_toInt (dv 1 (.inl rfl)) (hg := by rfl) (hm := m_int)) d_int) (by rfl) m_range) (dg_name (i := 3) sc_l_more.nd (.inl rfl))
      (dss_cons (ds_set (i := 1) sc_l_more.nd (.inl rfl) (d_fdiv (dv 1 (.inl rfl)) d_int))
      (dss_cons (ds_if (dt_tru (dv 2 (.inl rfl)))
        (dss_cons (ds_set (i := 4) sc_l_more.nd (.inl rfl) (d_ix (dv 2 (.inl rfl)) (d_mod (d_toInt (dv 1 (.inl rfl)) (hg := by rfl) (hm := m_int)) (d_len (dv 2 (.inl rfl)) (hg := by rfl) (hm := m_len)))))
        (dss_cons (ds_if (dt_ieq (d_mod (d_fdiv (dv 1 (.inl rfl)) d_int) d_int) d_int)
          (dss_one (ds_set (i := 4) sc_l_more.nd (.inl rfl) (d_tup (da_cons (d_not (d_ix (dv 4 (.inl rfl)) d_int)) (da_cons (d_ix (dv 4 (.inl rfl)) d_int) (da_cons (d_ix (dv 4 (.inl rfl)) d_int) da_nil))))))
          dss_nil)
        (dss_cons (ds_if (PW.pt (dw_and (dt_ieq (d_mod (d_fdiv (dv 1 (.inl rfl)) d_int) d_int) d_int) (dw_and (dt_val (d_call C_l_is_individual hr (by rfl) (da_cons (d_ix (dv 4 (.inl rfl)) d_int) da_nil))) (dw_and1 (dt_val (d_call C_l_is_individual hr (by rfl) (da_cons (d_ix (dv 4 (.inl rfl)) d_int) da_nil)))))))
          (dss_one (ds_set (i := 4) sc_l_more.nd (.inl rfl) (d_tup (da_cons (d_ix (dv 4 (.inl rfl)) d_int) (da_cons (d_ix (dv 4 (.inl rfl)) d_int) (da_cons (d_ix (dv 4 (.inl rfl)) d_int) da_nil))))))
          dss_nil)
        (dss_one (ds_expr (d_append (dv 2 (.inl rfl)) (dv 4 (.inl rfl))))))))
        dss_nil)
      (dss_one (ds_set (i := 1) sc_l_more.nd (.inl rfl) (d_fdiv (dv 1 (.inl rfl)) d_int))))))
    (dss_one (ds_ret (d_toTup (dv 2 (.inl rfl)) (hg := by rfl) (hm := m_tuple))))))) (fun ds M R h => by obtain ⟨_, _, rfl, _⟩ := h; rfl) (fun ds M R h => ?_)

  obtain ⟨c, row, rfl, hl, hg, h⟩ := h
  refine fun p hp => ⟨ltm, ?_⟩
  have r0 := Int.emod_nonneg row (show (3 : Int) ≠ 0 by decide)
  have r1 := Int.emod_lt_of_pos row (show (0 : Int) < 3 by decide)
  refine ⟨by omega, by omega, ?_⟩
  refine for_map (fun i : Nat => D.int (i : Nat)) (List.range (row % 3).toNat) rfl (fun pre post r M' => LE M M' ∧ ∃ (c' : Cl) (row' : Int) (x3 x4 : Option D), M' p = some (.lst (c'.map encL)) ∧ c'.length ≤ c.length + pre.length ∧ (∀ L ∈ c', GL L) ∧ r = [some (encC c), some (.int row'), some (.ob p), x3, x4])
    ⟨le_um hp, c, row, none, none, um_same, by simp, hg, rfl⟩ (fun _ _ _ _ _ _ => trivial) ?_ ?_
  · rintro pre i post r M' e ⟨le, c', row', x3, x4, hp', hcl, hg', rfl⟩
    obtain ⟨hi, hil⟩ := range_split e
    have add : ∀ (L : Lit) (rw' : Int), GL L → M' p = some (.lst (c'.map encL)) ∧ (c'.map encL).length < 1000 ∧ CDiv rw' 20 ∧ ∃ M'_1, LE M'_1 (um M' p (.lst (c'.map encL ++ [encL L]))) ∧ LE M M'_1 ∧ ∃ (c' : Cl) (row' : Int) (x3 x4 : Option D), M'_1 p = some (.lst (c'.map encL)) ∧ c'.length ≤ c.length + (pre ++ [i]).length ∧ (∀ L ∈ c', GL L) ∧
        [some (encC c), some (.int (rw' / 20)), some (.ob p), some (.int (i : Nat)), some (encL L)] = [some (encC c), some (.int row'), some (.ob p), x3, x4] := fun L rw' hL => by
      refine ⟨hp', by rw [List.length_map]; omega, cdv, _, LE.refl _, le.upd hp, c' ++ [L], _, _, _, by rw [um_same, List.map_append]; rfl, by simp; omega, ?_, rfl⟩
      intro L' hL'
      rcases List.mem_append.mp hL' with z | z
      · exact hg' L' z
      · rw [List.mem_singleton] at z; rw [z]; exact hL
    refine ⟨cdv, _, hp', M', LE.refl _, ?_⟩
    cases c' with
    | nil => exact ⟨cdv, _, LE.refl _, le, [], _, _, _, hp', Nat.zero_le _, hg', rfl⟩
    | cons L1 c1 =>
      have hlp : (0 : Int) < (((L1 :: c1).map encL).length : Nat) := by rw [List.length_map, List.length_cons]; omega
      have n0 := Int.emod_nonneg (row' / 3) (show (((((L1 :: c1).map encL).length : Nat) : Int)) ≠ 0 by omega)
      have n1 := Int.emod_lt_of_pos (row' / 3) hlp
      have hjl : ((row' / 3) % (((L1 :: c1).map encL).length : Nat)).toNat < (L1 :: c1).length := by rw [List.length_map] at n0 n1 ⊢; omega
      have hat : atI ((L1 :: c1).map encL) ((row' / 3) % (((L1 :: c1).map encL).length : Nat)) = some (encL (L1 :: c1)[((row' / 3) % (((L1 :: c1).map encL).length : Nat)).toNat]) := by
        unfold atI ixN
        rw [if_pos n0, if_pos n1]
        show ((L1 :: c1).map encL)[((row' / 3) % (((L1 :: c1).map encL).length : Nat)).toNat]? = _
        rw [List.getElem?_map, List.getElem?_eq_getElem hjl]; rfl
      have hGL : GL (L1 :: c1)[((row' / 3) % (((L1 :: c1).map encL).length : Nat)).toNat] := hg' _ (List.getElem_mem hjl)
      generalize (L1 :: c1)[((row' / 3) % (((L1 :: c1).map encL).length : Nat)).toNat] = L at hat hGL
      refine ⟨_, hp', hlp, _, encL L, hp', hat, cdv, ltm, bI_i (fun e1 => ?_) (fun e1 => ?_)⟩
      · refine ⟨cdv, ltm, bI_i (fun e2 => ?_) (fun e2 => ?_)⟩
        · exfalso
          have a1 := of_decide_eq_true e1
          have a2 := of_decide_eq_true e2
          omega
        · obtain ⟨b1, b2, b3, b4⟩ := add ⟨!L.pos, L.l, L.r⟩ (row' / 3) (hGL.neg _)
          exact ⟨p, _, rfl, b1, _, b1, b2, b3, b4⟩
      · refine ⟨cdv, ltm, bI_i (fun e2 => ?_) (fun e2 => ?_)⟩
        · refine ⟨L.l, rfl, by have := hGL.l.dep; omega, by have := hGL.l.size; omega, bI_i (fun e3 => ?_) (fun e3 => ?_)⟩
          · refine ⟨L.r, rfl, by have := hGL.r.dep; omega, by have := hGL.r.size; omega, bI_i (fun e4 => ?_) (fun e4 => ?_)⟩
            · obtain ⟨b1, b2, b3, b4⟩ := add ⟨L.pos, L.r, L.l⟩ (row' / 3) (hGL.swap e3 e4)
              exact ⟨p, _, rfl, b1, _, b1, b2, b3, b4⟩
            · obtain ⟨b1, b2, b3, b4⟩ := add L (row' / 3) hGL
              exact ⟨p, _, rfl, b1, _, b1, b2, b3, b4⟩
          · obtain ⟨b1, b2, b3, b4⟩ := add L (row' / 3) hGL
            exact ⟨p, _, rfl, b1, _, b1, b2, b3, b4⟩
        · obtain ⟨b1, b2, b3, b4⟩ := add L (row' / 3) hGL
          exact ⟨p, _, rfl, b1, _, b1, b2, b3, b4⟩
  · rintro r M' ⟨le, c', row', x3, x4, hp', hcl, hg', rfl⟩
    rw [List.length_range] at hcl
    exact ⟨_, hp', M, le, ret (h c' hg' (by omega))⟩
end
end My
set_option maxHeartbeats 4000000
/-! F15: rewriting. -/
namespace My
open PySem PySem.Spec PyProof.Rows L2
def sideOf (L : Lit) (s : Nat) : Tm := if s = 0 then L.l else L.r
mutual
theorem ext_size {n : Nat} : ∀ (t u : Tm) (σ : Sb), u.size ≤ n → (∀ p ∈ σ, p.2.size ≤ n) → ∀ p ∈ (ext t u σ).2, p.2.size ≤ n
  | .var x, u, σ, hu, hs, p, hp => by
    rw [ext] at hp
    cases e : sbv σ x with
    | some v => rw [e] at hp; exact hs p hp
    | none =>
      rw [e] at hp
      rcases List.mem_append.mp hp with z | z
      · exact hs p z
      · rw [List.mem_singleton] at z; rw [z]; exact hu
  | .app f as, .var y, σ, hu, hs, p, hp => by rw [ext] at hp; exact hs p hp
  | .app f as, .app g bs, σ, hu, hs, p, hp => by
    rw [ext] at hp
    split at hp
    · rw [size_app] at hu
      exact exts_size as bs σ (by omega) hs p hp
    · exact hs p hp
theorem exts_size {n : Nat} : ∀ (as bs : List Tm) (σ : Sb), Tm.sizes bs ≤ n → (∀ p ∈ σ, p.2.size ≤ n) → ∀ p ∈ (exts as bs σ).2, p.2.size ≤ n
  | [], bs, σ, hu, hs, p, hp => by rw [exts] at hp; exact hs p hp; intros; simp_all
  | a :: as, [], σ, hu, hs, p, hp => by rw [exts] at hp; exact hs p hp; intros; simp_all
  | a :: as, b :: bs, σ, hu, hs, p, hp => by
    rw [exts] at hp
    rw [Tm.sizes] at hu
    have h := ext_size (n := n) a b σ (by omega) hs
    cases e : ext a b σ with
    | mk c σ' =>
      rw [e] at h hp
      cases c with
      | true => exact exts_size as bs σ' (by omega) h p hp
      | false => exact h p hp
end
mutual
theorem sub_dep {σ : Sb} {n : Nat} (h : ∀ p ∈ σ, p.2.dep ≤ n) : ∀ t : Tm, (sub σ t).dep ≤ t.dep + n
  | .var x => by
    rw [sub]
    cases e : sbv σ x with
    | none => rw [Option.getD_none, Tm.dep]; omega
    | some u => rw [Option.getD_some]; have := h _ (sbv_mem e); simp only at this; omega
  | .app f as => by rw [sub, dep_app, dep_app]; have := subs_dep h as; omega
theorem subs_dep {σ : Sb} {n : Nat} (h : ∀ p ∈ σ, p.2.dep ≤ n) : ∀ as : List Tm, Tm.deps (subs σ as) ≤ Tm.deps as + n
  | [] => by rw [subs, Tm.deps]; omega
  | a :: as => by rw [subs, Tm.deps, Tm.deps]; have := sub_dep h a; have := subs_dep h as; omega
end
mutual
theorem sub_size {σ : Sb} {n : Nat} (hn : 1 ≤ n) (h : ∀ p ∈ σ, p.2.size ≤ n) : ∀ t : Tm, (sub σ t).size ≤ t.size * n
  | .var x => by
    rw [sub]
    cases e : sbv σ x with
    | none => rw [Option.getD_none, Tm.size]; omega
    | some u => rw [Option.getD_some, Tm.size, Nat.one_mul]; exact h _ (sbv_mem e)
  | .app f as => by rw [sub, size_app, size_app, Nat.add_mul, Nat.one_mul]; have := subs_size hn h as; omega
theorem subs_size {σ : Sb} {n : Nat} (hn : 1 ≤ n) (h : ∀ p ∈ σ, p.2.size ≤ n) : ∀ as : List Tm, Tm.sizes (subs σ as) ≤ Tm.sizes as * n
  | [] => by rw [subs, Tm.sizes]; omega
  | a :: as => by rw [subs, Tm.sizes, Tm.sizes, Nat.add_mul]; have := sub_size hn h a; have := subs_size hn h as; omega
end
/-- t is replaced by u -/
def RepOK (W : Sym → Int) (e : Lit) (es : Nat) (t u : Tm) : Prop := ∃ σ, t.isAtom = (sideOf e es).isAtom ∧ ext (sideOf e es) t [] = (true, σ) ∧ u = sub σ (sideOf e (1 - es)) ∧ gtF W 8 t u = true
/-- c' is made of c -/
def RewC (W : Sym → Int) (e : Lit) (c c' : Cl) : Prop := ∃ k s L pl t es u, c[k]? = some L ∧ s < 2 ∧ (pl, t) ∈ placesT (sideOf L s) ∧ es < 2 ∧ RepOK W e es t u ∧ c' = c.take k ++ [wSide L s (putT (sideOf L s) pl u)] ++ c.drop (k + 1)
theorem rep_tk {W : Sym → Int} {e : Lit} {es : Nat} {t u : Tm} (h : RepOK W e es t u) (he : TK e.l ∧ TK e.r) (ht : t.dep ≤ 3 ∧ t.size ≤ 7) : u.dep ≤ 6 ∧ u.size ≤ 49 := by
  obtain ⟨σ, _, h2, rfl, _⟩ := h
  have hd := ext_dep (n := 4) (sideOf e es) t [] (by omega) (fun p hp => by cases hp)
  have hs := ext_size (n := 7) (sideOf e es) t [] (by omega) (fun p hp => by cases hp)
  rw [h2] at hd hs
  have side : ∀ i, (sideOf e i).dep ≤ 3 ∧ (sideOf e i).size ≤ 7 := fun i => by
    unfold sideOf; split
    · exact ⟨he.1.dep, he.1.size⟩
    · exact ⟨he.2.dep, he.2.size⟩
  have h3 := sub_dep (σ := σ) (n := 3) (fun p hp => by have := hd p hp; omega) (sideOf e (1 - es))
  have h4 := sub_size (σ := σ) (n := 7) (by decide) hs (sideOf e (1 - es))
  have := side (1 - es)
  constructor
  · omega
  · have : (sideOf e (1 - es)).size * 7 ≤ 7 * 7 := Nat.mul_le_mul_right 7 this.2
    omega
mutual
theorem places_le : ∀ (t : Tm) (pl : List Nat) (v : Tm), (pl, v) ∈ placesT t → v.dep ≤ t.dep ∧ v.size ≤ t.size
  | .var x, pl, v, h => by
    rw [placesT, List.mem_singleton] at h
    cases h; exact ⟨Nat.le_refl _, Nat.le_refl _⟩
  | .app f as, pl, v, h => by
    rw [placesT] at h
    rw [dep_app, size_app]
    rcases List.mem_cons.mp h with e | h
    · cases e; rw [dep_app, size_app]; exact ⟨Nat.le_refl _, Nat.le_refl _⟩
    · have := placesL_le as 0 pl v h; omega
theorem placesL_le : ∀ (as : List Tm) (k : Nat) (pl : List Nat) (v : Tm), (pl, v) ∈ placesL k as → v.dep ≤ Tm.deps as ∧ v.size ≤ Tm.sizes as
  | [], k, pl, v, h => by rw [placesL] at h; cases h
  | a :: as, k, pl, v, h => by
    rw [placesL] at h
    rw [Tm.deps, Tm.sizes]
    rcases List.mem_append.mp h with h | h
    · obtain ⟨q, hq, e⟩ := List.mem_map.mp h
      cases e
      have := places_le a q.1 q.2 hq
      omega
    · have := placesL_le as (k + 1) pl v h; omega
end
mutual
theorem places_at : ∀ (t : Tm) (pl : List Nat) (v : Tm), (pl, v) ∈ placesT t → atT t pl = some v
  | .var x, pl, v, h => by
    rw [placesT, List.mem_singleton] at h
    cases h; rfl
  | .app f as, pl, v, h => by
    rw [placesT] at h
    rcases List.mem_cons.mp h with e | h
    · cases e; rfl
    · obtain ⟨i, pl', a, e, h1, h2⟩ := placesL_at as 0 pl v h
      rw [Nat.sub_zero] at h1
      rw [e, atT, h1]; exact h2.1
theorem placesL_at : ∀ (as : List Tm) (k : Nat) (pl : List Nat) (v : Tm), (pl, v) ∈ placesL k as → ∃ i pl' a, pl = i :: pl' ∧ as[i - k]? = some a ∧ atT a pl' = some v ∧ k ≤ i
  | [], k, pl, v, h => by rw [placesL] at h; cases h
  | a :: as, k, pl, v, h => by
    rw [placesL] at h
    rcases List.mem_append.mp h with h | h
    · obtain ⟨q, hq, e⟩ := List.mem_map.mp h
      cases e
      exact ⟨k, q.1, a, rfl, by rw [Nat.sub_self]; rfl, places_at a q.1 q.2 hq, Nat.le_refl _⟩
    · obtain ⟨i, pl', b, e, h1, h2, h3⟩ := placesL_at as (k + 1) pl v h
      refine ⟨i, pl', b, e, ?_, h2, by omega⟩
      rw [show i - k = (i - (k + 1)) + 1 by omega]; exact h1
end
section
variable {P : Program} {w : World} {K : PySem.W.Frag} {mg : Str → Option Value} {base : Heap} {T : List (Addr × Str)} {k : Nat}
def spAnyCG (W : Sym → Int) : SpD := fun ds M R => ∃ a c d, ds = [.ob a, encC c, encC d] ∧ WtOK M a W ∧ CD 16 c ∧ CD 16 d ∧ (∀ L ∈ c, L.l.size < 8 ∧ L.r.size < 8) ∧ CZ 900 d ∧ c.length ≤ 100 ∧ d.length ≤ 100 ∧ ∀ b, R (.bl b) M
def spRepl (W : Sym → Int) : SpD := fun ds M R => ∃ a e s c t, ds = [.ob a, encL e, .int (s : Nat), encC c, enc t] ∧ s < 2 ∧ WtOK M a W ∧ TK e.l ∧ TK e.r ∧ (∀ L ∈ c, TK L.l ∧ TK L.r) ∧ c.length ≤ 100 ∧ t.dep ≤ 3 ∧ t.size ≤ 7 ∧
  (∀ u, RepOK W e s t u → ∀ q M', LE M M' → R (.tup [enc u, .ob q]) M') ∧ R .non M
theorem sc_replacement : FnScope ["weights", "equation", "equation_side", "clause", "term", "pattern", "found", "new"] ["weights", "equation", "equation_side", "clause", "term"] (defScope (top 39)) := ⟨rfl, rfl, rfl, by decide +kernel, rfl, by decide +kernel, by decide +kernel⟩
theorem c_replacement (DA : DefAt K mg "replacement" (top 39)) {W : Sym → Int} (C_is_atom : Cal P w K mg base T k "is_atom" spIsAtom) (C_match : Cal P w K mg base T k "match" spMatch) (C_put : Cal P w K mg base T k "put" (spPut 16)) (C_greater : Cal P w K mg base T k "greater" (spGt W 8)) (C_clause_greater : Cal P w K mg base T k "clause_greater" (spAnyCG W)) : Cal P w K mg base T (k + 1) "replacement" (spRepl W) := by
  refine dcal DA sc_replacement (fun _ _ _ _ _ _ us hl => match us, hl with | [_, _, _, _, _], _ => rfl) (fun f cdv A outer s H E hr =>
    (dss_cons (ds_set (i := 5) sc_replacement.nd (.inl rfl) (d_ix (dv 1 (.inl rfl)) (d_add d_int (dv 2 (.inl rfl)))))
    (dss_cons (ds_if (dt_ne hr.units (d_call C_is_atom hr (by rfl) (da_cons (dv 4 (.inl rfl)) da_nil)) (d_call C_is_atom hr (by rfl) (da_cons (dv 5 (.inl rfl)) da_nil)))
      (dss_one (ds_ret d_non))
      dss_nil)
    (dss_cons (ds_set (i := 6) sc_replacement.nd (.inl rfl) (d_call C_match hr (by rfl) (da_cons (dv 5 (.inl rfl)) (da_cons (dv 4 (.inl rfl)) (da_cons d_newI da_nil)))))
    (dss_cons (ds_if (dt_isN (dv 6 (.inl rfl)) d_non)
      (dss_one (ds_ret d_non))
      dss_nil)
    (dss_cons (ds_set (i := 7) sc_replacement.nd (.inl rfl) (d_call C_put hr (by rfl) (da_cons (d_ix (dv 1 (.inl rfl)) (d_sub d_int (dv 2 (.inl rfl)))) (da_cons (dv 6 (.inl rfl)) da_nil))))
    (dss_cons (ds_if (dt_not (dt_val (d_call C_greater hr (by rfl) (da_cons (dv 0 (.inl rfl)) (da_cons (dv 4 (.inl rfl)) (da_cons (dv 7 (.inl rfl)) da_nil))))))
      (dss_one (ds_ret d_non))
      dss_nil)
    (dss_cons (ds_if (dt_not (dt_val (d_call C_clause_greater hr (by rfl) (da_cons (dv 0 (.inl rfl)) (da_cons (dv 3 (.inl rfl)) (da_cons (d_tup (da_cons (d_tup (da_cons d_bl (da_cons (dv 4 (.inl rfl)) (da_cons (dv 7 (.inl rfl)) da_nil)))) da_nil)) da_nil))))))
      (dss_one (ds_ret d_non))
      dss_nil)
    (dss_one (ds_ret (d_tup (da_cons (dv 7 (.inl rfl)) (da_cons (dv 6 (.inl rfl)) da_nil))))))))))))) (fun ds M R h => by obtain ⟨_, _, _, _, _, rfl, _⟩ := h; rfl) (fun ds M R h => ?_)

  obtain ⟨a, e, s, c, t, rfl, hs, hw, h1, h2, hc, hcl, hd, hz, h, hn⟩ := h
  have main : ∀ p u : Tm, TK p → TK u → (∀ σ, t.isAtom = p.isAtom → ext p t [] = (true, σ) → gtF W 8 t (sub σ u) = true → ∀ q M', LE M M' → R (.tup [enc (sub σ u), .ob q]) M') → ∀ s : Nat, atI [D.bl e.pos, enc e.l, enc e.r] (2 - (s : Int)) = some (enc u) →
      tSeqD (tIfSD (tTestD (tOpD mNe (tCallD spIsAtom (tConsD (tVarD 4) tNilD)) (tCallD spIsAtom (tConsD (tVarD 5) tNilD)))) (tRetD (tCD .non)) tNextD)
        (tSeqD (tSetD 6 (tCallD spMatch (tConsD (tVarD 5) (tConsD (tVarD 4) (tConsD tDNewI tNilD))))) (tSeqD (tIfSD (tTestD (tOpD mIsN (tVarD 6) (tCD .non))) (tRetD (tCD .non)) tNextD)
          (tSeqD (tSetD 7 (tCallD (spPut 16) (tConsD (tOpD mIx (tVarD 1) (tOpD (mInt fun i j => .int (i - j)) (tCD (.int 2)) (tVarD 2))) (tConsD (tVarD 6) tNilD)))) (tSeqD (tIfSD (tNotD (tTestD (tCallD (spGt W 8) (tConsD (tVarD 0) (tConsD (tVarD 4) (tConsD (tVarD 7) tNilD)))))) (tRetD (tCD .non)) tNextD)
            (tSeqD (tIfSD (tNotD (tTestD (tCallD (spAnyCG W) (tConsD (tVarD 0) (tConsD (tVarD 3) (tConsD (tTupD 1 (tConsD (tTupD 3 (tConsD (tCD (.bl true)) (tConsD (tVarD 4) (tConsD (tVarD 7) tNilD)))) tNilD)) tNilD)))))) (tRetD (tCD .non)) tNextD)
              (tRetD (tTupD 2 (tConsD (tVarD 7) (tConsD (tVarD 6) tNilD)))))))))
        (endD R) [some (.ob a), some (encL e), some (.int (s : Nat)), some (encC c), some (enc t), some (enc p), none, none] M := by
    intro p u hp hu hh s hidx
    have eqv : (!deq (.bl t.isAtom) (.bl p.isAtom)) = decide (¬ t.isAtom = p.isAtom) := by rw [deq_bl]; cases t.isAtom <;> cases p.isAtom <;> rfl
    refine ⟨t, rfl, p, rfl, flat_bl _ _, flat_bl _ _, bI_i (fun e1 => ret hn) (fun e1 => ?_)⟩
    have e2 : t.isAtom = p.isAtom := by have := of_decide_eq_false (eqv.symm.trans e1); simpa using this
    refine fun q hq => ⟨p, t, q, [], rfl, um_same, by have := hp.dep; omega, by omega, (fun x hx => by cases hx), by have := hp.size; simp only [List.length_nil]; omega, fun e3 q2 hq2 => ?_, fun e3 => ⟨M, le_um hq, hn⟩⟩
    cases ex : ext p t [] with
    | mk b σ =>
      rw [ex] at e3
      cases (show b = true from e3)
      have le2 : LE M (um (um M q (.dI (encS []))) q2 (.dI (encS σ))) := (le_um hq).trans (le_um hq2)
      have hsd := ext_dep (n := 4) p t [] (by omega) (fun x hx => by cases hx)
      have hss := ext_size (n := 7) p t [] (by omega) (fun x hx => by cases hx)
      rw [ex] at hsd hss
      have h3 := sub_dep (σ := σ) (n := 3) (fun x hx => by have := hsd x hx; omega) u
      have h4 := sub_size (σ := σ) (n := 7) (by decide) hss u
      have h5 : u.size * 7 ≤ 7 * 7 := Nat.mul_le_mul_right 7 hu.size
      have h6 := hu.dep
      conv => whnf
      rw [hidx]
      refine ⟨u, q2, σ, rfl, um_same, by omega, by have := hu.size; omega, a, t, sub σ u, rfl, hw.le le2, by omega, by omega, by omega, by omega, bI_i (fun e4 => ⟨M, le2, hn⟩) (fun e4 => ?_)⟩
      rw [Bool.not_eq_false'] at e4
      refine ⟨a, c, [⟨true, t, sub σ u⟩], rfl, hw.le le2, fun L hL => ⟨by have := (hc L hL).1.dep; omega, by have := (hc L hL).2.dep; omega⟩, fun L hL => ?_, fun L hL => ⟨by have := (hc L hL).1.size; omega, by have := (hc L hL).2.size; omega⟩, fun L hL => ?_, hcl, by simp, fun b => ?_⟩
      · rw [List.mem_singleton] at hL; rw [hL]; exact ⟨by show t.dep < 16; omega, by show (sub σ u).dep < 16; omega⟩
      · rw [List.mem_singleton] at hL; rw [hL]; exact ⟨by show t.size ≤ 900; omega, by show (sub σ u).size ≤ 900; omega⟩
      · cases b with
        | false => exact ⟨M, le2, hn⟩
        | true => exact ret (hh σ e2 ex e4 q2 _ le2)
  have hs2 : s = 0 ∨ s = 1 := by omega
  rcases hs2 with rfl | rfl
  · exact main e.l e.r h1 h2 (fun σ g1 g2 g3 q M' le => h _ ⟨σ, g1, g2, rfl, g3⟩ q M' le) 0 rfl
  · exact main e.r e.l h2 h1 (fun σ g1 g2 g3 q M' le => h _ ⟨σ, g1, g2, rfl, g3⟩ q M' le) 1 rfl
end
end My
set_option maxHeartbeats 4000000
/-! F16: rewriting, continued. -/
namespace My
open PySem PySem.Spec PyProof.Rows L2
def initSt : Stmt := inClass (top 38) 0
theorem sc_init : FnScope ["self", "clause", "literal", "side", "place", "equation_side", "substitution"] ["self", "clause", "literal", "side", "place", "equation_side", "substitution"] (defScope initSt) := ⟨rfl, rfl, rfl, by decide +kernel, rfl, by decide +kernel, by decide +kernel⟩
def rwFs : List Str := ["clause", "literal", "side", "place", "equation_side", "substitution"]
theorem pfl {f : Str} {d : D} : ∀ {fs : List (Str × D)} {n : Nat}, fs.length ≤ n → (putFD f d fs).length ≤ n + 1
  | [], n, h => by show 1 ≤ n + 1; omega
  | (g, x) :: r, 0, h => by simp at h
  | (g, x) :: r, n + 1, h => by
    rw [putFD]
    split
    · exact Nat.le_succ_of_le h
    · rw [List.length_cons] at h ⊢
      have := pfl (f := f) (d := d) (fs := r) (n := n) (by omega)
      omega
theorem l0 : ([] : List (Str × D)).length ≤ 0 := Nat.le_refl 0
def spInit (C : Addr) : SpD := fun ds M R => ∃ p d1 d2 d3 d4 d5 d6, ds = [.ob p, d1, d2, d3, d4, d5, d6] ∧ M p = some (.ins C []) ∧ R .non (um M p (.ins C [("clause", d1), ("literal", d2), ("side", d3), ("place", d4), ("equation_side", d5), ("substitution", d6)]))
section
variable {P : Program} {w : World} {K : PySem.W.Frag} {mg : Str → Option Value} {base : Heap} {T : List (Addr × Str)} {k : Nat} {C fI : Addr} {fdI : FuncData}
theorem c_init (F : FunD K "__init__" "Rewriting.__init__" (defArgs initSt) (defBody initSt) (defScope initSt) [] [] fI fdI) (c : Cls K C) (na : ∀ f ∈ rwFs, NoAttr K C f) : CalA P w K mg base T (k + 1) fI (spInit C) := by
  refine calA_of F sc_init (fun _ _ _ _ _ _ us hl => match us, hl with | [_, _, _, _, _, _, _], _ => rfl) (fun cdv A outer s H E hr =>
    (dss_cons (ds_fld c (na "clause" (by decide)) (dv 0 (.inl rfl)) (dv 1 (.inl rfl)))
    (dss_cons (ds_fld c (na "literal" (by decide)) (dv 0 (.inl rfl)) (dv 2 (.inl rfl)))
    (dss_cons (ds_fld c (na "side" (by decide)) (dv 0 (.inl rfl)) (dv 3 (.inl rfl)))
    (dss_cons (ds_fld c (na "place" (by decide)) (dv 0 (.inl rfl)) (dv 4 (.inl rfl)))
    (dss_cons (ds_fld c (na "equation_side" (by decide)) (dv 0 (.inl rfl)) (dv 5 (.inl rfl)))
    (dss_one (ds_fld c (na "substitution" (by decide)) (dv 0 (.inl rfl)) (dv 6 (.inl rfl))))))))))
    (fun ds M R h => by obtain ⟨_, _, _, _, _, _, _, rfl, _⟩ := h; rfl) (fun ds M R h => ?_)
  obtain ⟨p, d1, d2, d3, d4, d5, d6, rfl, hp, h⟩ := h
  refine ⟨p, _, rfl, hp, by decide, p, _, rfl, um_same, Nat.lt_of_le_of_lt (pfl l0) (by decide), p, _, rfl, um_same, Nat.lt_of_le_of_lt (pfl (pfl l0)) (by decide), p, _, rfl, um_same, Nat.lt_of_le_of_lt (pfl (pfl (pfl l0))) (by decide), p, _, rfl, um_same, Nat.lt_of_le_of_lt (pfl (pfl (pfl (pfl l0)))) (by decide), p, _, rfl, um_same, Nat.lt_of_le_of_lt (pfl (pfl (pfl (pfl (pfl l0))))) (by decide), ?_⟩
  rw [um_um, um_um, um_um, um_um, um_um]
  exact ret h
def RwAt (W : Sym → Int) (e : Lit) (c : Cl) (L : Lit) (k s : Nat) (c' : Cl) : Prop := ∃ pl t es u, (pl, t) ∈ placesT (sideOf L s) ∧ es < 2 ∧ RepOK W e es t u ∧ c' = c.take k ++ [wSide L s (putT (sideOf L s) pl u)] ++ c.drop (k + 1)
def RwObj (C : Addr) (M : Mp) (p : Addr) (c' : Cl) : Prop := ∃ fs, M p = some (.ins C fs) ∧ fs.lookup ("clause" : Str) = some (encC c')
def spRA (C : Addr) (W : Sym → Int) : SpD := fun ds M R => ∃ a e c k s L, ds = [.ob a, encL e, encC c, .int (k : Nat), .int (s : Nat)] ∧ c[k]? = some L ∧ s < 2 ∧ WtOK M a W ∧ TK e.l ∧ TK e.r ∧ (∀ L ∈ c, TK L.l ∧ TK L.r) ∧ c.length ≤ 100 ∧
  (∀ c', RwAt W e c L k s c' → ∀ p M', LE M M' → RwObj C M' p c' → R (.ob p) M') ∧ R .non M
theorem sc_rewritten_at : FnScope ["weights", "equation", "clause", "k", "s", "whole", "place", "term", "equation_side", "made", "literal", "new"] ["weights", "equation", "clause", "k", "s"] (defScope (top 40)) := ⟨rfl, rfl, rfl, by decide +kernel, rfl, by decide +kernel, by decide +kernel⟩
theorem c_rewritten_at (DA : DefAt K mg "rewritten_at" (top 40)) {W : Sym → Int} {j : Nat} (hk : k = j + 1) (Mm : Mk K C fI) (CI : CalA P w K mg base T j fI (spInit C)) (mC : mg "Rewriting" = some (.ref C)) (C_places : Cal P w K mg base T k "places" (spPlaces 16)) (C_replacement : Cal P w K mg base T k "replacement" (spRepl W)) (C_with_side : Cal P w K mg base T k "with_side" spWSide) (C_put_at : Cal P w K mg base T k "put_at" spPutAt) : Cal P w K mg base T (k + 1) "rewritten_at" (spRA C W) := by
  refine dcal DA sc_rewritten_at (fun _ _ _ _ _ _ us hl => match us, hl with | [_, _, _, _, _], _ => rfl) (fun f cdv A outer s H E hr =>
    (dss_cons (ds_set (i := 5) sc_rewritten_at.nd (.inl rfl) (d_ix (d_ix (dv 2 (.inl rfl)) (dv 3 (.inl rfl))) (d_add d_int (dv 4 (.inl rfl)))))
    (dss_cons (ds_for PassesOwn.never rfl (di_lst (d_call C_places hr (by rfl) (da_cons (dv 5 (.inl rfl)) da_nil))) (dg_tup2 (i := 6) (j := 7) rfl sc_rewritten_at.nd (.inl rfl) (.inl rfl))
      (dss_one (ds_for PassesOwn.never rfl (di_tup (d_tup (da_cons d_int (da_cons d_int da_nil)))) (dg_name (i := 8) sc_rewritten_at.nd (.inl rfl))
        (dss_cons (ds_set (i := 9) sc_rewritten_at.nd (.inl rfl) (d_call C_replacement hr (by rfl) (da_cons (dv 0 (.inl rfl)) (da_cons (dv 1 (.inl rfl)) (da_cons (dv 8 (.inl rfl)) (da_cons (dv 2 (.inl rfl)) (da_cons (dv 7 (.inl rfl)) da_nil)))))))
        (dss_one (ds_if (dt_notN (dv 9 (.inl rfl)) d_non)
          (dss_cons (ds_set (i := 10) sc_rewritten_at.nd (.inl rfl) (d_call C_with_side hr (by rfl) (da_cons (d_ix (dv 2 (.inl rfl)) (dv 3 (.inl rfl))) (da_cons (dv 4 (.inl rfl)) (da_cons (d_call C_put_at hr (by rfl) (da_cons (dv 5 (.inl rfl)) (da_cons (dv 6 (.inl rfl)) (da_cons (d_ix (dv 9 (.inl rfl)) d_int) da_nil)))) da_nil)))))
          (dss_cons (ds_set (i := 11) sc_rewritten_at.nd (.inl rfl) (d_cat (d_cat (d_slice (dv 2 (.inl rfl)) do_none (do_some (dv 3 (.inl rfl)))) (d_tup (da_cons (dv 10 (.inl rfl)) da_nil))) (d_slice (dv 2 (.inl rfl)) (do_some (d_add (dv 3 (.inl rfl)) d_int)) do_none)))
          (dss_one (ds_ret (d_make Mm CI (hk ▸ hr) (by rfl) mC (da_cons (dv 11 (.inl rfl)) (da_cons (dv 3 (.inl rfl)) (da_cons (dv 4 (.inl rfl)) (da_cons (dv 6 (.inl rfl)) (da_cons (dv 8 (.inl rfl)) (da_cons (d_ix (dv 9 (.inl rfl)) d_int) da_nil)))))))))))
          dss_nil))))))
    (dss_one (ds_ret d_non))))) (fun ds M R h => by obtain ⟨_, _, _, _, _, _, rfl, _⟩ := h; rfl) (fun ds M R h => ?_)

  obtain ⟨a, e, c, k, s, L, rfl, hkL, hs, hw, h1, h2, hc, hcl, h, hn⟩ := h
  have hL := hc L (List.mem_of_getElem? hkL)
  have hkl : k < c.length := (List.getElem?_eq_some_iff.mp hkL).1
  have hso : TK (sideOf L s) := by unfold sideOf; split; exact hL.1; exact hL.2
  have hat : atI [D.bl L.pos, enc L.l, enc L.r] (1 + (s : Int)) = some (enc (sideOf L s)) := by
    have : s = 0 ∨ s = 1 := by omega
    rcases this with rfl | rfl <;> rfl
  conv => whnf
  rw [get_C hkL]
  conv => whnf
  rw [hat]
  refine ⟨sideOf L s, rfl, by have := hso.dep; omega, by have := hso.size; omega, fun q hq => ⟨_, um_same, ?_⟩⟩
  refine for_map encP (placesT (sideOf L s)) rfl (fun pre post r M' => LE (um M q (.lst ((placesT (sideOf L s)).map encP))) M' ∧ ∃ x6 x7 x8 x9 x10 x11, r = [some (.ob a), some (encL e), some (encC c), some (.int (k : Nat)), some (.int (s : Nat)), some (enc (sideOf L s)), x6, x7, x8, x9, x10, x11]) ⟨LE.refl _, none, none, none, none, none, none, rfl⟩ (fun _ _ _ _ _ ⟨l, _⟩ => l _ _ um_same) ?_ ?_
  · rintro pre ⟨pl, t⟩ post r M' e1 ⟨le, x6, x7, x8, x9, x10, x11, rfl⟩
    have hmem : (pl, t) ∈ placesT (sideOf L s) := by rw [e1]; simp
    have hle := places_le _ pl t hmem
    have hpd := places_dep _ pl t hmem
    have hpa := places_at _ pl t hmem
    refine for_map (fun i : Nat => D.int (i : Nat)) [0, 1] rfl (fun pre2 post2 r M2 => LE (um M q (.lst ((placesT (sideOf L s)).map encP))) M2 ∧ ∃ x8 x9 x10 x11, r = [some (.ob a), some (encL e), some (encC c), some (.int (k : Nat)), some (.int (s : Nat)), some (enc (sideOf L s)), some (encPl pl), some (enc t), x8, x9, x10, x11]) ⟨le, x8, x9, x10, x11, rfl⟩ (fun _ _ _ _ _ _ => trivial) ?_ ?_
    · rintro pre2 es post2 r M2 e2 ⟨le2, x8, x9, x10, x11, rfl⟩
      have hes : es < 2 := by
        have : es ∈ [0, 1] := by rw [e2]; simp
        rcases List.mem_cons.mp this with z | z
        · omega
        · rw [List.mem_singleton] at z; omega
      have leM : LE M M2 := (le_um hq).trans le2
      refine ⟨a, e, es, c, t, rfl, hes, hw.le leM, h1, h2, hc, hcl, by have := hso.dep; omega, by have := hso.size; omega, fun u hu q2 M3 le3 => ?_, ?_⟩
      · conv => whnf
        rw [get_C hkL]
        refine ⟨sideOf L s, pl, u, t, rfl, hpa, by have := hso.dep; omega, by have := hso.size; omega, ?_⟩
        refine ⟨L, s, putT (sideOf L s) pl u, rfl, ?_⟩
        have ec1 : cutD (c.map encL) none (some (k : Int)) = (c.take k).map encL := by rw [cut_to, List.map_take]
        have ec2 : cutD (c.map encL) (some ((k : Int) + 1)) none = (c.drop (k + 1)).map encL := by rw [show ((k : Int) + 1) = ((k + 1 : Nat) : Int) from rfl, cut_from, List.map_drop]
        refine ⟨?_, ?_, ?_⟩
        · show (cutD (c.map encL) none (some (k : Int))).length + 1 ≤ 1000
          rw [ec1, List.length_map, List.length_take]; omega
        · show (cutD (c.map encL) none (some (k : Int)) ++ [encL (wSide L s (putT (sideOf L s) pl u))]).length + (cutD (c.map encL) (some ((k : Int) + 1)) none).length ≤ 1000
          rw [ec1, ec2, List.length_append, List.length_map, List.length_map, List.length_take, List.length_drop, List.length_singleton]; omega
        · refine fun p hp => ?_
          refine ⟨p, D.tup (cutD (c.map encL) none (some (k : Int)) ++ [encL (wSide L s (putT (sideOf L s) pl u))] ++ cutD (c.map encL) (some ((k : Int) + 1)) none), _, _, _, _, _, rfl, um_same, rfl, ?_⟩
          refine ret (h (c.take k ++ [wSide L s (putT (sideOf L s) pl u)] ++ c.drop (k + 1)) ⟨pl, t, es, u, hmem, hes, hu, rfl⟩ p _ ?_ ⟨_, um_same, ?_⟩)
          · rw [um_um]; exact (leM.trans le3).trans (le_um hp)
          · show some (D.tup (cutD (c.map encL) none (some (k : Int)) ++ [encL (wSide L s (putT (sideOf L s) pl u))] ++ cutD (c.map encL) (some ((k : Int) + 1)) none)) = _
            rw [ec1, ec2]
            unfold encC
            rw [List.map_append, List.map_append]; rfl
      · exact ⟨_, LE.refl _, le2, _, _, _, _, rfl⟩
    · rintro r M2 ⟨le2, x8, x9, x10, x11, rfl⟩
      exact ⟨_, LE.refl _, le2, _, _, _, _, _, _, rfl⟩
  · rintro r M' ⟨le, x6, x7, x8, x9, x10, x11, rfl⟩
    exact ⟨M, (le_um hq).trans le, hn⟩
def Rw (W : Sym → Int) (e : Lit) (c c' : Cl) : Prop := e.pos = true ∧ ∃ k s L, c[k]? = some L ∧ s < 2 ∧ RwAt W e c L k s c'
def spRw (C : Addr) (W : Sym → Int) : SpD := fun ds M R => ∃ a e c, ds = [.ob a, encL e, encC c] ∧ WtOK M a W ∧ TK e.l ∧ TK e.r ∧ (∀ L ∈ c, TK L.l ∧ TK L.r) ∧ c.length ≤ 100 ∧ (∀ c', Rw W e c c' → ∀ p M', LE M M' → RwObj C M' p c' → R (.ob p) M') ∧ R .non M
theorem sc_rewrite : FnScope ["weights", "equation", "clause", "k", "s", "found"] ["weights", "equation", "clause"] (defScope (top 41)) := ⟨rfl, rfl, rfl, by decide +kernel, rfl, by decide +kernel, by decide +kernel⟩
theorem c_rewrite (DA : DefAt K mg "rewrite" (top 41)) {W : Sym → Int} (C_rewritten_at : Cal P w K mg base T k "rewritten_at" (spRA C W)) (m_len : mg "len" = none) (m_range : mg "range" = none) : Cal P w K mg base T (k + 1) "rewrite" (spRw C W) := by
  refine dcal DA sc_rewrite (fun _ _ _ _ _ _ us hl => match us, hl with | [_, _, _], _ => rfl) (fun f cdv A outer s H E hr =>
    (dss_cons (ds_if (dt_not (dt_val (d_ix (dv 1 (.inl rfl)) d_int)))
      (dss_one (ds_ret d_non))
      dss_nil)
    (dss_cons (ds_for PassesOwn.never rfl (di_rng (d_len (dv 2 (.inl rfl)) (hg := by rfl) (hm := m_len)) (by rfl) m_range) (dg_name (i := 3) sc_rewrite.nd (.inl rfl))
      (dss_one (ds_for PassesOwn.never rfl (di_tup (d_tup (da_cons d_int (da_cons d_int da_nil)))) (dg_name (i := 4) sc_rewrite.nd (.inl rfl))
        (dss_cons (ds_set (i := 5) sc_rewrite.nd (.inl rfl) (d_call C_rewritten_at hr (by rfl) (da_cons (dv 0 (.inl rfl)) (da_cons (dv 1 (.inl rfl)) (da_cons (dv 2 (.inl rfl)) (da_cons (dv 3 (.inl rfl)) (da_cons (dv 4 (.inl rfl)) da_nil)))))))
        (dss_one (ds_if (dt_notN (dv 5 (.inl rfl)) d_non)
          (dss_one (ds_ret (dv 5 (.inl rfl))))
          dss_nil))))))
    (dss_one (ds_ret d_non))))) (fun ds M R h => by obtain ⟨_, _, _, rfl, _⟩ := h; rfl) (fun ds M R h => ?_)

  obtain ⟨a, ⟨ep, el, er⟩, c, rfl, hw, h1, h2, hc, hcl, h, hn⟩ := h
  cases ep with
  | false => exact ret hn
  | true =>
    have en : (c.map encL).length = c.length := List.length_map ..
    refine ⟨by rw [en]; omega, by omega, ?_⟩
    refine for_map (fun i : Nat => D.int (i : Nat)) (List.range c.length) (by rw [en]; rfl) (fun pre post r M' => M' = M ∧ ∃ x3 x4 x5, r = [some (.ob a), some (encL ⟨true, el, er⟩), some (encC c), x3, x4, x5]) ⟨rfl, none, none, none, rfl⟩ (fun _ _ _ _ _ _ => trivial) ?_ ?_
    · rintro pre k post r M' e1 ⟨rfl, x3, x4, x5, rfl⟩
      have hk : k < c.length := List.mem_range.mp (by rw [e1]; simp)
      refine for_map (fun i : Nat => D.int (i : Nat)) [0, 1] rfl (fun pre2 post2 r M2 => M2 = M' ∧ ∃ x4 x5, r = [some (.ob a), some (encL ⟨true, el, er⟩), some (encC c), some (.int (k : Nat)), x4, x5]) ⟨rfl, x4, x5, rfl⟩ (fun _ _ _ _ _ _ => trivial) ?_ ?_
      · rintro pre2 s post2 r M2 e2 ⟨rfl, x4, x5, rfl⟩
        have hs : s < 2 := by
          have : s ∈ [0, 1] := by rw [e2]; simp
          rcases List.mem_cons.mp this with z | z
          · omega
          · rw [List.mem_singleton] at z; omega
        refine ⟨a, ⟨true, el, er⟩, c, k, s, c[k], rfl, List.getElem?_eq_getElem hk, hs, hw, h1, h2, hc, hcl, fun c' hr p M3 le3 ho => ?_, ?_⟩
        · exact ret (h c' ⟨rfl, k, s, c[k], List.getElem?_eq_getElem hk, hs, hr⟩ p M3 le3 ho)
        · exact ⟨_, LE.refl _, rfl, _, _, rfl⟩
      · rintro r M2 ⟨rfl, x4, x5, rfl⟩
        exact ⟨_, LE.refl _, rfl, _, _, _, rfl⟩
    · rintro r M' ⟨rfl, x3, x4, x5, rfl⟩
      exact ret hn
/-- what is known of a clause that is asked whether it holds -/
structure HC (us : List Us) (c : Cl) : Prop where
  cd : CD 16 c
  csz : csz c ≤ 800
  len : c.length ≤ 100
  vg : ∀ L ∈ c, VG us (fun _ => True) L.l ∧ VG us (fun _ => True) L.r
  names : (collC [] c).length ≤ 10
def spRH (W : Sym → Int) : SpD := fun ds M R => ∃ a e c tb sz us F, ds = [.ob a, encL e, encC c, .ob tb, .int sz] ∧ WtOK M a W ∧ TK e.l ∧ TK e.r ∧ (∀ L ∈ c, TK L.l ∧ TK L.r) ∧ M tb = some (.dN (encT us F)) ∧ (sz = 1 ∨ sz = 2) ∧ TbOK sz us F ∧ HC us c ∧ HC us [e] ∧
  (∀ c', Rw W e c c' → cgt W 8 c c' = true ∧ HC us c' ∧ CZ 900 c' ∧ (Valid F sz [e] → (Valid F sz c' ↔ Valid F sz c))) ∧ R (.bl true) M
theorem sc_l_rewriting_holds : FnScope ["_law_weights_here", "_law_equation", "_law_clause_here", "_law_tables", "_law_size", "_law_found"] ["_law_weights_here", "_law_equation", "_law_clause_here", "_law_tables", "_law_size"] (defScope (top 89)) := ⟨rfl, rfl, rfl, by decide +kernel, rfl, by decide +kernel, by decide +kernel⟩
theorem c_l_rewriting_holds (DA : DefAt K mg "_law_rewriting_holds" (top 89)) {W : Sym → Int} (cC : Cls K C) (na : NoAttr K C "clause") (C_rewrite : Cal P w K mg base T k "rewrite" (spRw C W)) (C_l_clause_greater : Cal P w K mg base T k "_law_clause_greater" (spCG W 8)) (C_l_clause_holds : Cal P w K mg base T k "_law_clause_holds" spHolds) : Cal P w K mg base T (k + 1) "_law_rewriting_holds" (spRH W) := by
  refine dcal DA sc_l_rewriting_holds (fun _ _ _ _ _ _ us hl => match us, hl with | [_, _, _, _, _], _ => rfl) (fun f cdv A outer s H E hr =>
    (dss_cons (ds_set (i := 5) sc_l_rewriting_holds.nd (.inl rfl) (d_call C_rewrite hr (by rfl) (da_cons (dv 0 (.inl rfl)) (da_cons (dv 1 (.inl rfl)) (da_cons (dv 2 (.inl rfl)) da_nil)))))
    (dss_cons (ds_if (dt_isN (dv 5 (.inl rfl)) d_non)
      (dss_one (ds_ret d_bl))
      dss_nil)
    (dss_cons (ds_if (dt_not (dt_val (d_call C_l_clause_greater hr (by rfl) (da_cons (dv 0 (.inl rfl)) (da_cons (dv 2 (.inl rfl)) (da_cons (d_fld cC na (dv 5 (.inl rfl))) da_nil))))))
      (dss_one (ds_ret d_bl))
      dss_nil)
    (dss_cons (ds_if (dt_not (dt_val (d_call C_l_clause_holds hr (by rfl) (da_cons (d_tup (da_cons (dv 1 (.inl rfl)) da_nil)) (da_cons (dv 3 (.inl rfl)) (da_cons (dv 4 (.inl rfl)) da_nil))))))
      (dss_one (ds_ret d_bl))
      dss_nil)
    (dss_one (ds_ret (d_eq hr.units (d_call C_l_clause_holds hr (by rfl) (da_cons (d_fld cC na (dv 5 (.inl rfl))) (da_cons (dv 3 (.inl rfl)) (da_cons (dv 4 (.inl rfl)) da_nil)))) (d_call C_l_clause_holds hr (by rfl) (da_cons (dv 2 (.inl rfl)) (da_cons (dv 3 (.inl rfl)) (da_cons (dv 4 (.inl rfl)) da_nil)))))))))))) (fun ds M R h => by obtain ⟨_, _, _, _, _, _, _, rfl, _⟩ := h; rfl) (fun ds M R h => ?_)

  obtain ⟨a, e, c, tb, sz, us, F, rfl, hw, h1, h2, hc, htb, hsz, hF, hcH, heH, hrw, h⟩ := h
  have hlen := hcH.len
  refine ⟨a, e, c, rfl, hw, h1, h2, hc, hlen, fun c' hr p M1 le ho => ?_, ret h⟩
  obtain ⟨g1, g2, g3, g4⟩ := hrw c' hr
  obtain ⟨fs, ho, hl⟩ := ho
  refine ⟨p, fs, _, rfl, ho, hl, a, c, c', rfl, hw.le le, hcH.cd, g2.cd, fun L hL => ⟨by have := (hc L hL).1.size; omega, by have := (hc L hL).2.size; omega⟩, g3, hlen, g2.len, ?_⟩
  rw [g1]
  refine ⟨[e], tb, sz, us, F, rfl, le _ _ htb, hsz, hF, heH.cd, heH.csz, by simp, heH.vg, heH.names, bI_i (fun e1 => ⟨M, le, h⟩) (fun e1 => ?_)⟩
  rw [Bool.not_eq_false'] at e1
  have g5 := g4 (holdsB_iff.mp e1)
  refine ⟨p, fs, _, rfl, ho, hl, c', tb, sz, us, F, rfl, le _ _ htb, hsz, hF, g2.cd, g2.csz, by have := g2.len; omega, g2.vg, g2.names, c, tb, sz, us, F, rfl, le _ _ htb, hsz, hF, hcH.cd, hcH.csz, by omega, hcH.vg, hcH.names, flat_bl _ _, flat_bl _ _, ⟨M, le, ?_⟩⟩
  rw [deq_bl]
  have e5 : holdsB F sz c' = holdsB F sz c := by
    rw [Bool.eq_iff_iff, holdsB_iff, holdsB_iff]; exact g5
  rw [e5, beq_self_eq_true]
  exact h
end
end My
set_option maxHeartbeats 1000000
/-! N1: plain facts: uses, names, what a clause is good for. -/
namespace My
open PySem PySem.Spec PyProof.Rows L2
theorem us1_sub (xs : List Us) (f : Sym) (as : List Tm) : ∀ u ∈ xs, u ∈ us1 xs f as := by
  intro u hu; unfold us1; split
  · simp [hu]
  · exact hu
mutual
theorem usT_sub (t : Tm) (xs : List Us) : ∀ u ∈ xs, u ∈ usT xs t := by
  cases t with
  | var x => intro u hu; rw [usT]; exact hu
  | app f as => intro u hu; rw [usT]; exact usTs_sub as _ u (us1_sub xs f as u hu)
theorem usTs_sub (as : List Tm) (xs : List Us) : ∀ u ∈ xs, u ∈ usTs xs as := by
  cases as with
  | nil => intro u hu; rw [usTs]; exact hu
  | cons a as => intro u hu; rw [usTs]; exact usTs_sub as _ u (usT_sub a xs u hu)
end
theorem usC_sub : ∀ (c : Cl) (xs : List Us), ∀ u ∈ xs, u ∈ usC xs c
  | [], xs, u, hu => hu
  | L :: c, xs, u, hu => by rw [usC]; exact usC_sub c _ u (usT_sub _ _ u (usT_sub _ _ u hu))
theorem us1_mem (xs : List Us) (f : Sym) (as : List Tm) : (f = (0, 0, 0) ∧ as.length = 0) ∨ (f, as.length) ∈ us1 xs f as := by
  unfold us1
  by_cases h : f = (0, 0, 0) ∧ as.length = 0
  · exact .inl h
  · by_cases h2 : (f, as.length) ∈ xs
    · rw [if_neg (fun z => z.1 h2)]; exact .inr h2
    · rw [if_pos ⟨h2, h⟩]; exact .inr (by simp)
mutual
theorem usT_vg (t : Tm) (xs : List Us) (h : isInd t = true) : VG (usT xs t) (fun _ => True) t := by
  cases t with
  | var x => rw [VG]; trivial
  | app f as =>
    rw [isInd, Bool.and_eq_true] at h
    rw [VG, usT]
    exact (us1_mem xs f as).imp id fun z => ⟨usTs_sub as _ _ z, h.2, usTs_vg as _ h.2⟩
theorem usTs_vg (as : List Tm) (xs : List Us) (h : isInds as = true) : VGs (usTs xs as) (fun _ => True) as := by
  cases as with
  | nil => rw [VGs]; trivial
  | cons a as =>
    rw [isInds, Bool.and_eq_true] at h
    rw [VGs, usTs]
    exact ⟨VG.mono (usTs_sub as _) (fun _ z => z) a (usT_vg a xs h.1), usTs_vg as _ h.2⟩
end
/-- a side that may be valued -/
def Sd (t : Tm) : Prop := isInd t = true ∨ isAtm t = true
theorem usT_vgS (t : Tm) (xs : List Us) (h : Sd t) : VG (usT xs t) (fun _ => True) t := by
  rcases h with h | h
  · exact usT_vg t xs h
  · cases t with
    | var x => cases h
    | app f as =>
      rw [isAtm, Bool.and_eq_true] at h
      rw [VG, usT]
      exact (us1_mem xs f as).imp id fun z => ⟨usTs_sub as _ _ z, h.2, usTs_vg as _ h.2⟩
theorem sd_tru : Sd tru := .inr rfl
theorem GL.sd {L : Lit} (h : GL L) : Sd L.l ∧ Sd L.r := by
  rcases h.sort with ⟨h1, h2⟩ | ⟨h1, _, h2⟩
  · exact ⟨.inl h1, .inl h2⟩
  · exact ⟨.inr h1, by rw [h2]; exact sd_tru⟩
theorem usC_vg : ∀ (c : Cl) (xs : List Us), (∀ L ∈ c, Sd L.l ∧ Sd L.r) → ∀ L ∈ c, VG (usC xs c) (fun _ => True) L.l ∧ VG (usC xs c) (fun _ => True) L.r
  | [], xs, h, L, hL => by cases hL
  | L0 :: c, xs, h, L, hL => by
    rw [usC]
    rcases List.mem_cons.mp hL with e | hL
    · subst e
      have hh := h L (by simp)
      exact ⟨VG.mono (fun u hu => usC_sub c _ u (usT_sub _ _ u hu)) (fun _ z => z) _ (usT_vgS L.l xs hh.1), VG.mono (usC_sub c _) (fun _ z => z) _ (usT_vgS L.r _ hh.2)⟩
    · exact usC_vg c _ (fun L hL => h L (by simp [hL])) L hL
theorem us1_nodup {xs : List Us} (f : Sym) (as : List Tm) (h : xs.Nodup) : (us1 xs f as).Nodup := by
  unfold us1; split
  · rename_i z
    rw [List.nodup_append]
    exact ⟨h, by simp, fun a ha b hb e => by rw [List.mem_singleton] at hb; exact z.1 (by rw [← hb, ← e]; exact ha)⟩
  · exact h
mutual
theorem usT_nodup (t : Tm) (xs : List Us) (h : xs.Nodup) : (usT xs t).Nodup := by
  cases t with
  | var x => rw [usT]; exact h
  | app f as => rw [usT]; exact usTs_nodup as _ (us1_nodup f as h)
theorem usTs_nodup (as : List Tm) (xs : List Us) (h : xs.Nodup) : (usTs xs as).Nodup := by
  cases as with
  | nil => rw [usTs]; exact h
  | cons a as => rw [usTs]; exact usTs_nodup as _ (usT_nodup a xs h)
end
theorem usC_nodup : ∀ (c : Cl) (xs : List Us), xs.Nodup → (usC xs c).Nodup
  | [], xs, h => h
  | L :: c, xs, h => by rw [usC]; exact usC_nodup c _ (usT_nodup _ _ (usT_nodup _ _ h))
mutual
theorem usT_ar (t : Tm) (xs : List Us) (ht : tok t = true) (h : ∀ u ∈ xs, u.2 ≤ 4) : ∀ u ∈ usT xs t, u.2 ≤ 4 := by
  cases t with
  | var x => rw [usT]; exact h
  | app f as =>
    rw [tok, Bool.and_eq_true, decide_eq_true_eq] at ht
    rw [usT]
    refine usTs_ar as _ ht.2 fun u hu => ?_
    unfold us1 at hu
    split at hu
    · rcases List.mem_append.mp hu with z | z
      · exact h u z
      · rw [List.mem_singleton] at z; rw [z]; show as.length ≤ 4; omega
    · exact h u hu
theorem usTs_ar (as : List Tm) (xs : List Us) (ht : toks as = true) (h : ∀ u ∈ xs, u.2 ≤ 4) : ∀ u ∈ usTs xs as, u.2 ≤ 4 := by
  cases as with
  | nil => rw [usTs]; exact h
  | cons a as =>
    rw [toks, Bool.and_eq_true] at ht
    rw [usTs]; exact usTs_ar as _ ht.2 (usT_ar a xs ht.1 h)
end
theorem usC_ar : ∀ (c : Cl) (xs : List Us), (∀ L ∈ c, TK L.l ∧ TK L.r) → (∀ u ∈ xs, u.2 ≤ 4) → ∀ u ∈ usC xs c, u.2 ≤ 4
  | [], xs, _, h => h
  | L :: c, xs, ht, h => by
    rw [usC]
    have := ht L (by simp)
    exact usC_ar c _ (fun L hL => ht L (by simp [hL])) (usT_ar _ _ this.2.tok (usT_ar _ _ this.1.tok h))
/-! ### names -/
def okV (x : Int) : Prop := 0 ≤ x ∧ x < 3
mutual
theorem coll_ok (t : Tm) (xs : List Int) (ht : tok t = true) (h : ∀ x ∈ xs, okV x) : ∀ x ∈ coll xs t, okV x := by
  cases t with
  | var y =>
    rw [tok, Bool.and_eq_true, decide_eq_true_eq, decide_eq_true_eq] at ht
    rw [coll]
    split
    · exact h
    · intro x hx
      rcases List.mem_append.mp hx with z | z
      · exact h x z
      · rw [List.mem_singleton] at z; rw [z]; exact ht
  | app f as =>
    rw [tok, Bool.and_eq_true] at ht
    rw [coll]; exact colls_ok as xs ht.2 h
theorem colls_ok (as : List Tm) (xs : List Int) (ht : toks as = true) (h : ∀ x ∈ xs, okV x) : ∀ x ∈ colls xs as, okV x := by
  cases as with
  | nil => rw [colls]; exact h
  | cons a as =>
    rw [toks, Bool.and_eq_true] at ht
    rw [colls]; exact colls_ok as _ ht.2 (coll_ok a xs ht.1 h)
end
theorem nodup3 {xs : List Int} (hn : xs.Nodup) (h : ∀ x ∈ xs, okV x) : xs.length ≤ 3 := by
  have key : ∀ (n : Nat) (xs : List Int), xs.Nodup → (∀ x ∈ xs, 0 ≤ x ∧ x < (n : Int)) → xs.length ≤ n := by
    intro n
    induction n with
    | zero => intro xs _ h; cases xs with
      | nil => simp
      | cons x xs => have := h x (by simp); omega
    | succ n ih =>
      intro xs hn h
      have h1 := ih (xs.erase (n : Int)) (hn.erase _) (fun x hx => by
        have hx' := (List.Nodup.mem_erase_iff hn).mp hx
        have := h x hx'.2
        have := hx'.1
        omega)
      have h2 := List.length_erase (a := (n : Int)) (l := xs)
      split at h2 <;> omega
  exact key 3 xs hn h
theorem collC_ok : ∀ (c : Cl) (xs : List Int), (∀ L ∈ c, tok L.l = true ∧ tok L.r = true) → (∀ x ∈ xs, okV x) → ∀ x ∈ collC xs c, okV x
  | [], xs, _, h => h
  | L :: c, xs, ht, h => by
    rw [collC]
    have := ht L (by simp)
    exact collC_ok c _ (fun L hL => ht L (by simp [hL])) (coll_ok _ _ this.2 (coll_ok _ _ this.1 h))
theorem names3 (c : Cl) (ht : ∀ L ∈ c, tok L.l = true ∧ tok L.r = true) : (collC [] c).length ≤ 10 := by
  have := nodup3 (collC_nodup c [] List.nodup_nil) (collC_ok c [] ht (fun x hx => by cases hx))
  omega
theorem csz_le {n : Nat} : ∀ {c : Cl}, CZ n c → csz c ≤ c.length * (2 * n)
  | [], _ => by rw [csz]; omega
  | L :: c, h => by
    rw [csz, List.length_cons, Nat.add_mul, Nat.one_mul]
    have h1 := h L (by simp)
    have h2 := csz_le (c := c) (fun L hL => h L (by simp [hL]))
    have := h1.1
    have := h1.2
    omega
theorem HC.of {us : List Us} {c : Cl} (hg : ∀ L ∈ c, GL L) (hl : c.length ≤ 20) (hu : ∀ L ∈ c, VG us (fun _ => True) L.l ∧ VG us (fun _ => True) L.r) : HC us c := by
  refine ⟨fun L hL => ⟨by have := (hg L hL).l.dep; omega, by have := (hg L hL).r.dep; omega⟩, ?_, by omega, hu, names3 c fun L hL => ⟨(hg L hL).l.tok, (hg L hL).r.tok⟩⟩
  have h1 := csz_le (n := 7) (c := c) (fun L hL => ⟨(hg L hL).l.size, (hg L hL).r.size⟩)
  have h2 : c.length * (2 * 7) ≤ 20 * (2 * 7) := Nat.mul_le_mul_right _ hl
  omega
mutual
theorem isInd_tab : ∀ t : Tm, isInd t = true → isInd (tabT t) = true
  | .var x, h => h
  | .app f as, h => by
    rw [tabT]
    rw [isInd, Bool.and_eq_true, Bool.or_eq_true, decide_eq_true_eq, decide_eq_true_eq] at h
    split
    · rename_i e; rw [e] at h; rcases h.1 with z | z <;> cases z
    · rw [isInd, h.2, Bool.and_true, Bool.or_eq_true, decide_eq_true_eq, decide_eq_true_eq]; exact h.1
end
theorem GL.tab {L : Lit} (h : GL L) : GL (tabL L) := by
  refine ⟨?_, ⟨?_, by show (tabT L.l).dep ≤ 3; rw [tabT_dep]; exact h.l.dep, by show (tabT L.l).size ≤ 7; rw [tabT_size]; exact h.l.size⟩, h.r⟩
  · rcases h.sort with ⟨h1, h2⟩ | ⟨h1, h2, h3⟩
    · exact .inl ⟨isInd_tab _ h1, h2⟩
    · refine .inr ⟨?_, ?_, h3⟩
      · show isAtm (tabT L.l) = true
        cases e : L.l with
        | var x => rw [e] at h1; cases h1
        | app f as =>
          rw [e] at h1
          rw [tabT]
          split
          · rw [isAtm, Bool.and_eq_true] at h1 ⊢
            exact ⟨rfl, h1.2⟩
          · exact h1
      · show (tabT L.l).isAtom = true
        cases e : L.l with
        | var x => rw [e] at h2; cases h2
        | app f as =>
          rw [e] at h2
          rw [tabT]
          split
          · rfl
          · exact h2
  · show tok (tabT L.l) = true
    have := h.l.tok
    cases e : L.l with
    | var x => rw [e] at this; exact this
    | app f as =>
      rw [e] at this
      rw [tabT]
      split
      · rw [tok] at this ⊢; exact this
      · exact this
end My
set_option maxHeartbeats 1000000
/-! N2: what cleaning, pairs, matching mean. -/
namespace My
open PySem PySem.Spec PyProof.Rows L2
def litH (F : Tb) (sz : Int) (v : Int → Int) (L : Lit) : Bool := decide (val F sz v L.l = val F sz v L.r) == L.pos
theorem clH_any (F : Tb) (sz : Int) (v : Int → Int) (c : Cl) : clH F sz v c = c.any (litH F sz v) := rfl
theorem litH_sameS {F : Tb} {sz : Int} {v : Int → Int} {a b : Lit} (h : sameS a b = true) : decide (val F sz v a.l = val F sz v a.r) = decide (val F sz v b.l = val F sz v b.r) := by
  unfold sameS at h
  rw [Bool.or_eq_true, decide_eq_true_eq, decide_eq_true_eq] at h
  rcases h with ⟨h1, h2⟩ | ⟨h1, h2⟩
  · rw [h1, h2]
  · rw [h1, h2]; exact decide_eq_decide.mpr eq_comm
theorem litH_same {F : Tb} {sz : Int} {v : Int → Int} {a b : Lit} (h : sameL a b = true) : litH F sz v a = litH F sz v b := by
  unfold sameL at h
  rw [Bool.and_eq_true, decide_eq_true_eq] at h
  unfold litH
  rw [litH_sameS h.2, h.1]
theorem clean_any (F : Tb) (sz : Int) (v : Int → Int) : ∀ c : Cl, (cleanC c).any (litH F sz v) = c.any (litH F sz v)
  | [] => rfl
  | L :: c => by
    have ih := clean_any F sz v c
    rw [cleanC]
    by_cases h : isNeeded L c = true
    · rw [if_pos h, List.any_cons, List.any_cons, ih]
    · rw [if_neg h, List.any_cons, ih]
      have hn : isNeeded L c = false := by simpa using h
      unfold isNeeded at hn
      rw [Bool.and_eq_false_iff] at hn
      rcases hn with hn | hn
      · rw [Bool.not_eq_false', Bool.and_eq_true, Bool.not_eq_true', decide_eq_true_eq] at hn
        have : litH F sz v L = false := by unfold litH; rw [hn.2, hn.1]; simp
        rw [this, Bool.false_or]
      · rw [Bool.not_eq_false', List.any_eq_true] at hn
        obtain ⟨L', h1, h2⟩ := hn
        cases e : litH F sz v L with
        | false => rw [Bool.false_or]
        | true =>
          rw [Bool.true_or, List.any_eq_true]
          exact ⟨L', h1, by rw [← litH_same h2]; exact e⟩
theorem valid_clean {F : Tb} {sz : Int} {c : Cl} : Valid F sz (cleanC c) ↔ Valid F sz c := by
  unfold Valid
  constructor
  · intro h v hv; have := h v hv; rw [clH_any, clean_any] at this; exact this
  · intro h v hv; have := h v hv; rw [clH_any, clean_any]; exact this
theorem valid_pair {F : Tb} {sz : Int} {c : Cl} {i j : Nat} {a b : Lit} (hi : c[i]? = some a) (hj : c[j]? = some b) (h : pairB i j a b = true) : Valid F sz c := by
  intro v hv
  rw [clH_any, List.any_eq_true]
  have ha := List.mem_of_getElem? hi
  have hb := List.mem_of_getElem? hj
  unfold pairB at h
  by_cases e : i = j
  · rw [if_pos e, Bool.and_eq_true, decide_eq_true_eq] at h
    exact ⟨a, ha, by unfold litH; rw [h.1, h.2]; simp⟩
  · rw [if_neg e, Bool.and_eq_true, Bool.not_eq_true', decide_eq_false_iff_not] at h
    have hs := litH_sameS (F := F) (sz := sz) (v := v) h.2
    cases hp : litH F sz v a with
    | true => exact ⟨a, ha, hp⟩
    | false =>
      refine ⟨b, hb, ?_⟩
      unfold litH at hp ⊢
      rw [← hs]
      have := h.1
      cases h1 : a.pos <;> cases h2 : b.pos <;> rw [h1] at hp this <;> rw [h2] at this <;> simp_all
/-! ### substitution -/
def vS (F : Tb) (sz : Int) (v : Int → Int) (σ : Sb) (x : Int) : Int := match sbv σ x with
  | some u => val F sz v u
  | none => v x
theorem subs_length (σ : Sb) (as : List Tm) : (subs σ as).length = as.length := by rw [subs_map, List.length_map]
mutual
theorem val_sub (F : Tb) (sz : Int) (v : Int → Int) (σ : Sb) : ∀ t : Tm, val F sz v (sub σ t) = val F sz (vS F sz v σ) t
  | .var x => by
    rw [sub, val]
    unfold vS
    cases sbv σ x with
    | none => rw [Option.getD_none, val]
    | some u => rw [Option.getD_some]
  | .app g as => by rw [sub, val, val, subs_length, vat_sub F sz v σ as 0]
theorem vat_sub (F : Tb) (sz : Int) (v : Int → Int) (σ : Sb) : ∀ (as : List Tm) (acc : Int), vat F sz v acc (subs σ as) = vat F sz (vS F sz v σ) acc as
  | [], acc => by rw [subs, vat, vat]
  | a :: as, acc => by rw [subs, vat, vat, val_sub F sz v σ a, vat_sub F sz v σ as]
end
/-! ### matching -/
def ExtS (σ σ' : Sb) : Prop := ∀ x u, sbv σ x = some u → sbv σ' x = some u
theorem ExtS.refl (σ : Sb) : ExtS σ σ := fun _ _ h => h
theorem ExtS.trans {a b c : Sb} (h : ExtS a b) (k : ExtS b c) : ExtS a c := fun x u e => k x u (h x u e)
theorem sbv_app (x y : Int) (t : Tm) : ∀ σ : Sb, sbv (σ ++ [(x, t)]) y = (sbv σ y).or (if x = y then some t else none)
  | [] => by rw [List.nil_append, sbv_cons]; rfl
  | (z, u) :: σ => by
    rw [List.cons_append, sbv_cons, sbv_cons, sbv_app x y t σ]
    split <;> simp
theorem extS_app (σ : Sb) (x : Int) (t : Tm) : ExtS σ (σ ++ [(x, t)]) := fun y u e => by rw [sbv_app, e]; rfl
mutual
theorem ext_sound : ∀ (p t : Tm) (σ σ' : Sb), ext p t σ = (true, σ') → ExtS σ σ' ∧ ∀ σ'', ExtS σ' σ'' → sub σ'' p = t
  | .var x, t, σ, σ', h => by
    rw [ext] at h
    cases e : sbv σ x with
    | some u =>
      rw [e] at h
      simp only [Prod.mk.injEq, decide_eq_true_eq] at h
      obtain ⟨h1, h2⟩ := h
      subst h1; subst h2
      exact ⟨ExtS.refl _, fun σ'' k => by rw [sub, k x u e]; rfl⟩
    | none =>
      rw [e] at h
      simp only [Prod.mk.injEq, true_and] at h
      subst h
      refine ⟨extS_app _ _ _, fun σ'' k => ?_⟩
      have : sbv (σ ++ [(x, t)]) x = some t := by rw [sbv_app, e, if_pos rfl]; rfl
      rw [sub, k x t this]; rfl
  | .app f as, .var y, σ, σ', h => by rw [ext] at h; simp at h
  | .app f as, .app g bs, σ, σ', h => by
    rw [ext] at h
    split at h
    · rename_i e
      obtain ⟨h1, h2⟩ := exts_sound as bs σ σ' e.2 h
      exact ⟨h1, fun σ'' k => by rw [sub, h2 σ'' k, e.1]⟩
    · simp at h
theorem exts_sound : ∀ (as bs : List Tm) (σ σ' : Sb), as.length = bs.length → exts as bs σ = (true, σ') → ExtS σ σ' ∧ ∀ σ'', ExtS σ' σ'' → subs σ'' as = bs
  | [], [], σ, σ', _, h => by
    rw [exts] at h
    · simp only [Prod.mk.injEq, true_and] at h
      subst h
      exact ⟨ExtS.refl _, fun _ _ => by rw [subs]⟩
    · intros; simp_all
  | [], b :: bs, σ, σ', hl, h => by simp at hl
  | a :: as, [], σ, σ', hl, h => by simp at hl
  | a :: as, b :: bs, σ, σ', hl, h => by
    rw [exts] at h
    cases e : ext a b σ with
    | mk c σ1 =>
      rw [e] at h
      cases c with
      | false => simp at h
      | true =>
        obtain ⟨h1, h2⟩ := ext_sound a b σ σ1 e
        obtain ⟨h3, h4⟩ := exts_sound as bs σ1 σ' (by simpa using hl) h
        exact ⟨h1.trans h3, fun σ'' k => by rw [subs, h2 σ'' (h3.trans k), h4 σ'' k]⟩
end
/-- what the entries of a matching are -/
def AllS (G : Tm → Prop) (σ : Sb) : Prop := ∀ p ∈ σ, G p.2
def isVarB : Tm → Bool
  | .var _ => true
  | _ => false
mutual
theorem ext_all {G : Tm → Prop} (hG : ∀ f as, G (.app f as) → ∀ a ∈ as, G a) : ∀ (p t : Tm) (σ : Sb), AllS G σ → (isVarB p = true → G t) → (∀ f as, t = .app f as → ∀ a ∈ as, G a) → AllS G (ext p t σ).2
  | .var x, t, σ, hs, h1, _ => by
    rw [ext]
    cases sbv σ x with
    | some u => exact hs
    | none =>
      intro p hp
      rcases List.mem_append.mp hp with z | z
      · exact hs p z
      · rw [List.mem_singleton] at z; rw [z]; exact h1 rfl
  | .app f as, .var y, σ, hs, _, _ => by rw [ext]; exact hs
  | .app f as, .app g bs, σ, hs, _, h2 => by
    rw [ext]
    split
    · exact exts_all hG as bs σ hs (h2 g bs rfl)
    · exact hs
theorem exts_all {G : Tm → Prop} (hG : ∀ f as, G (.app f as) → ∀ a ∈ as, G a) : ∀ (as bs : List Tm) (σ : Sb), AllS G σ → (∀ b ∈ bs, G b) → AllS G (exts as bs σ).2
  | [], bs, σ, hs, _ => by rw [exts]; exact hs; intros; simp_all
  | a :: as, [], σ, hs, _ => by rw [exts]; exact hs; intros; simp_all
  | a :: as, b :: bs, σ, hs, h => by
    rw [exts]
    have h1 := ext_all hG a b σ hs (fun _ => h b (by simp)) (fun f cs e => by
      have := h b (by simp)
      rw [e] at this
      exact hG f cs this)
    cases e : ext a b σ with
    | mk c σ1 =>
      rw [e] at h1
      cases c with
      | true => exact exts_all hG as bs σ1 h1 fun b hb => h b (by simp [hb])
      | false => exact h1
end
theorem mS_some {l r l' r' : Tm} {σ σ2 : Sb} (h : mS l r l' r' σ = some σ2) : ∃ σ1, ext l l' σ = (true, σ1) ∧ ext r r' σ1 = (true, σ2) := by
  unfold mS at h
  cases e : ext l l' σ with
  | mk c σ1 =>
    rw [e] at h
    cases c with
    | false => cases h
    | true =>
      simp only at h
      cases e2 : ext r r' σ1 with
      | mk c σ3 =>
        rw [e2] at h
        cases c with
        | false => cases h
        | true => cases h; exact ⟨σ1, rfl, e2⟩
end My
set_option maxHeartbeats 1000000
/-! N3: parts, rewritings: what they mean. -/
namespace My
open PySem PySem.Spec PyProof.Rows L2
/-- an individual that may be valued, its names in order -/
structure GI (us : List Us) (t : Tm) : Prop where
  ind : isInd t = true
  vg : VG us (fun _ => True) t
  tok : tok t = true
theorem isInds_mem : ∀ {as : List Tm}, isInds as = true → ∀ a ∈ as, isInd a = true
  | b :: bs, h, a, ha => by
    rw [isInds, Bool.and_eq_true] at h
    rcases List.mem_cons.mp ha with e | ha
    · rw [e]; exact h.1
    · exact isInds_mem h.2 a ha
theorem toks_mem : ∀ {as : List Tm}, toks as = true → ∀ a ∈ as, tok a = true
  | b :: bs, h, a, ha => by
    rw [toks, Bool.and_eq_true] at h
    rcases List.mem_cons.mp ha with e | ha
    · rw [e]; exact h.1
    · exact toks_mem h.2 a ha
theorem args_of {us : List Us} {f : Sym} {as : List Tm} (hs : Sd (.app f as)) (hv : VG us (fun _ => True) (.app f as)) (ht : tok (.app f as) = true) : ∀ a ∈ as, GI us a := by
  intro a ha
  have hi : isInds as = true := by
    rcases hs with h | h
    · rw [isInd, Bool.and_eq_true] at h; exact h.2
    · rw [isAtm, Bool.and_eq_true] at h; exact h.2
  rw [tok, Bool.and_eq_true, decide_eq_true_eq] at ht
  refine ⟨isInds_mem hi a ha, ?_, toks_mem ht.2 a ha⟩
  rw [VG] at hv
  rcases hv with h | h
  · have : as = [] := List.length_eq_zero_iff.mp h.2
    rw [this] at ha; cases ha
  · exact VGs.mem h.2.2 a ha
theorem GI.args {us : List Us} (f : Sym) (as : List Tm) (h : GI us (.app f as)) : ∀ a ∈ as, GI us a := args_of (.inl h.ind) h.vg h.tok
/-- the valuation by a matching is in range -/
theorem vS_bd {F : Tb} {sz : Int} {us : List Us} {v : Int → Int} {σ : Sb} (hF : TbOK sz us F) (hs : 0 < sz) (hv : ∀ x, 0 ≤ v x ∧ v x < sz) (hσ : AllS (GI us) σ) : ∀ x, 0 ≤ vS F sz v σ x ∧ vS F sz v σ x < sz := by
  intro x
  unfold vS
  cases e : sbv σ x with
  | none => exact hv x
  | some u =>
    have := hσ _ (sbv_mem e)
    exact val_bd hF hs (p := fun _ => True) (fun x _ => hv x) u this.ind this.vg
/-- a literal in a world -/
structure LG (us : List Us) (L : Lit) : Prop where
  g : GL L
  vl : VG us (fun _ => True) L.l
  vr : VG us (fun _ => True) L.r
theorem ind_natom {t : Tm} (h : isInd t = true) : t.isAtom = false := by
  cases t with
  | var x => rfl
  | app f as =>
    rw [isInd, Bool.and_eq_true, Bool.or_eq_true, decide_eq_true_eq, decide_eq_true_eq] at h
    unfold Tm.isAtom
    rcases h.1 with e | e <;> simp [e]
theorem atom_nvar {t : Tm} (h : isAtm t = true) : isVarB t = false := by cases t <;> first | rfl | cases h
theorem ext_gi {us : List Us} {p t : Tm} {σ σ' : Sb} (hs : AllS (GI us) σ) (h : ext p t σ = (true, σ')) (hv : VG us (fun _ => True) t) (ht : tok t = true) (hi : isInd t = true ∨ (Sd t ∧ isVarB p = false)) : AllS (GI us) σ' := by
  have := ext_all (G := GI us) GI.args p t σ hs (fun e => by
    rcases hi with hi | hi
    · exact ⟨hi, hv, ht⟩
    · rw [e] at hi; cases hi.2) (fun f as e => by
    subst e
    refine args_of ?_ hv ht
    rcases hi with hi | hi
    · exact .inl hi
    · exact hi.1)
  rw [h] at this
  exact this
theorem way_ok {us : List Us} {L L' : Lit} {σ σ' : Sb} (hL : GL L) (hL' : LG us L') (hs : AllS (GI us) σ) (h : σ' ∈ waysT L L' σ) :
    AllS (GI us) σ' ∧ ExtS σ σ' ∧ L.pos = L'.pos ∧ ∀ σ'', ExtS σ' σ'' → (sub σ'' L.l = L'.l ∧ sub σ'' L.r = L'.r) ∨ (sub σ'' L.l = L'.r ∧ sub σ'' L.r = L'.l) := by
  unfold waysT at h
  split at h
  · rename_i hc
    have sorts : (isInd L'.l = true ∧ isInd L'.r = true) ∨ (isVarB L.l = false ∧ isVarB L.r = false) := by
      rcases hL.sort with ⟨a1, a2⟩ | ⟨a1, a2, a3⟩
      · rcases hL'.g.sort with b | ⟨b1, b2, b3⟩
        · exact .inl b
        · have e1 : stA L = false := by unfold stA; rw [ind_natom a1, ind_natom a2]; rfl
          have e2 : stA L' = true := by unfold stA; rw [b2]; rfl
          rw [e1, e2] at hc; cases hc.2
      · exact .inr ⟨atom_nvar a1, by rw [a3]; rfl⟩
    have sl := hL'.g.sd
    have one : ∀ a b a' b' : Tm, (isVarB a = false ∧ isVarB b = false ∨ isInd a' = true ∧ isInd b' = true) → Sd a' → Sd b' → VG us (fun _ => True) a' → VG us (fun _ => True) b' → tok a' = true → tok b' = true → mS a b a' b' σ = some σ' → AllS (GI us) σ' ∧ ExtS σ σ' ∧ ∀ σ'', ExtS σ' σ'' → sub σ'' a = a' ∧ sub σ'' b = b' := by
      intro a b a' b' hsrt s1 s2 v1 v2 t1 t2 hm
      obtain ⟨σ1, e1, e2⟩ := mS_some hm
      obtain ⟨x1, x2⟩ := ext_sound _ _ _ _ e1
      obtain ⟨y1, y2⟩ := ext_sound _ _ _ _ e2
      have g1 := ext_gi hs e1 v1 t1 (hsrt.elim (fun z => .inr ⟨s1, z.1⟩) (fun z => .inl z.1))
      have g2 := ext_gi g1 e2 v2 t2 (hsrt.elim (fun z => .inr ⟨s2, z.2⟩) (fun z => .inl z.2))
      exact ⟨g2, x1.trans y1, fun σ'' k => ⟨x2 σ'' (y1.trans k), y2 σ'' k⟩⟩
    rcases List.mem_append.mp h with h | h
    · obtain ⟨g, e, k⟩ := one L.l L.r L'.l L'.r (sorts.elim (fun z => .inr z) (fun z => .inl z)) sl.1 sl.2 hL'.vl hL'.vr hL'.g.l.tok hL'.g.r.tok (Option.mem_toList.mp h)
      exact ⟨g, e, hc.1, fun σ'' x => .inl (k σ'' x)⟩
    · obtain ⟨g, e, k⟩ := one L.l L.r L'.r L'.l (sorts.elim (fun z => .inr ⟨z.2, z.1⟩) (fun z => .inl z)) sl.2 sl.1 hL'.vr hL'.vl hL'.g.r.tok hL'.g.l.tok (Option.mem_toList.mp h)
      exact ⟨g, e, hc.1, fun σ'' x => .inr (k σ'' x)⟩
  · cases h
theorem emb_ok {us : List Us} {d : Cl} (hd : ∀ L ∈ d, LG us L) : ∀ (ls : List Lit) (used : List Nat) (σ : Sb), (∀ L ∈ ls, GL L) → AllS (GI us) σ → Emb d ls used σ →
    ∃ σ', AllS (GI us) σ' ∧ ExtS σ σ' ∧ ∀ L ∈ ls, ∃ L' ∈ d, L.pos = L'.pos ∧ ((sub σ' L.l = L'.l ∧ sub σ' L.r = L'.r) ∨ (sub σ' L.l = L'.r ∧ sub σ' L.r = L'.l))
  | [], used, σ, _, hs, _ => ⟨σ, hs, ExtS.refl σ, fun L hL => by cases hL⟩
  | L :: ls, used, σ, hg, hs, h => by
    obtain ⟨j, L', hj, _, σ1, hw, he⟩ := h
    have hL' := List.mem_of_getElem? hj
    obtain ⟨g1, e1, p1, k1⟩ := way_ok (hg L (by simp)) (hd L' hL') hs hw
    obtain ⟨σ2, g2, e2, k2⟩ := emb_ok hd ls _ σ1 (fun L hL => hg L (by simp [hL])) g1 he
    refine ⟨σ2, g2, e1.trans e2, fun M hM => ?_⟩
    rcases List.mem_cons.mp hM with e | hM
    · subst e; exact ⟨L', hL', p1, k1 σ2 e2⟩
    · exact k2 M hM
theorem valid_part {F : Tb} {sz : Int} {us : List Us} {c d : Cl} (hF : TbOK sz us F) (hs : 0 < sz) (hc : ∀ L ∈ c, GL L) (hd : ∀ L ∈ d, LG us L) (h : PartOf c d) (hv : Valid F sz c) : Valid F sz d := by
  obtain ⟨σ, g, _, k⟩ := emb_ok hd c [] [] hc (fun p hp => by cases hp) h.2
  intro v hvr
  have h1 := hv (vS F sz v σ) (vS_bd hF hs hvr g)
  rw [clH_any, List.any_eq_true] at h1 ⊢
  obtain ⟨L, hL, hh⟩ := h1
  obtain ⟨L', hL', hp, q⟩ := k L hL
  refine ⟨L', hL', ?_⟩
  unfold litH at hh ⊢
  rw [← val_sub, ← val_sub] at hh
  rw [← hp]
  rcases q with ⟨q1, q2⟩ | ⟨q1, q2⟩
  · rw [q1, q2] at hh; exact hh
  · rw [q1, q2] at hh
    rw [← hh]
    exact congrArg (· == L.pos) (decide_eq_decide.mpr eq_comm)
/-! ### a sub-clause is a part -/
def IdS (σ : Sb) : Prop := ∀ x u, sbv σ x = some u → u = .var x
mutual
theorem ext_id : ∀ (p : Tm) (σ : Sb), IdS σ → ∃ σ', ext p p σ = (true, σ') ∧ IdS σ'
  | .var x, σ, h => by
    rw [ext]
    cases e : sbv σ x with
    | some u => exact ⟨σ, by simp [h x u e], h⟩
    | none =>
      refine ⟨_, rfl, fun y u hy => ?_⟩
      rw [sbv_app] at hy
      cases e2 : sbv σ y with
      | some u' =>
        rw [e2] at hy
        have : u' = u := by simpa using hy
        rw [← this]; exact h y u' e2
      | none =>
        rw [e2] at hy
        by_cases hxy : x = y
        · rw [if_pos hxy] at hy
          have : Tm.var x = u := by simpa using hy
          rw [← this, hxy]
        · rw [if_neg hxy] at hy; cases hy
  | .app f as, σ, h => by
    rw [ext, if_pos ⟨rfl, rfl⟩]
    exact exts_id as σ h
theorem exts_id : ∀ (as : List Tm) (σ : Sb), IdS σ → ∃ σ', exts as as σ = (true, σ') ∧ IdS σ'
  | [], σ, h => by
    refine ⟨σ, ?_, h⟩
    rw [exts]; intros; simp_all
  | a :: as, σ, h => by
    obtain ⟨σ1, e1, h1⟩ := ext_id a σ h
    rw [exts, e1]
    exact exts_id as σ1 h1
end
theorem ways_id (L : Lit) (σ : Sb) (h : IdS σ) : ∃ σ' ∈ waysT L L σ, IdS σ' := by
  obtain ⟨σ1, e1, h1⟩ := ext_id L.l σ h
  obtain ⟨σ2, e2, h2⟩ := ext_id L.r σ1 h1
  refine ⟨σ2, ?_, h2⟩
  unfold waysT
  rw [if_pos ⟨rfl, rfl⟩]
  have : mS L.l L.r L.l L.r σ = some σ2 := by unfold mS; rw [e1]; simp only; rw [e2]
  rw [this]; simp
theorem emb_sub (d : Cl) : ∀ (rest ls : List Lit) (m : Nat) (used : List Nat) (σ : Sb), d.drop m = rest → ls.Sublist rest → (∀ j ∈ used, j < m) → IdS σ → Emb d ls used σ
  | [], ls, m, used, σ, _, hs, _, _ => by
    have : ls = [] := List.sublist_nil.mp hs
    subst this; exact trivial
  | L :: rest, ls, m, used, σ, hd, hs, hu, hi => by
    have hm : d[m]? = some L := by
      have := congrArg List.head? hd
      rw [List.head?_drop] at this
      exact this
    have hd2 : d.drop (m + 1) = rest := by
      rw [← List.drop_drop, hd]; rfl
    cases hs with
    | cons _ hs => exact emb_sub d rest ls (m + 1) used σ hd2 hs (fun j hj => by have := hu j hj; omega) hi
    | @cons_cons ls' _ _ hs =>
      obtain ⟨σ', hw, hi'⟩ := ways_id L σ hi
      refine ⟨m, L, hm, fun z => by have := hu m z; omega, σ', hw, ?_⟩
      refine emb_sub d rest ls' (m + 1) (used ++ [m]) σ' hd2 hs (fun j hj => ?_) hi'
      rcases List.mem_append.mp hj with z | z
      · have := hu j z; omega
      · rw [List.mem_singleton] at z; omega
theorem part_sub {c d : Cl} (h : c.Sublist d) : PartOf c d := ⟨h.length_le, emb_sub d d c 0 [] [] rfl h (fun j hj => by cases hj) (fun x u e => by cases e)⟩
end My
set_option maxHeartbeats 1000000
/-! N4: what a rewriting keeps. -/
namespace My
open PySem PySem.Spec PyProof.Rows L2
/-- a side of a literal: an individual, or an atom in the program's sense -/
def SdA (t : Tm) : Prop := isInd t = true ∨ (isAtm t = true ∧ t.isAtom = true)
theorem SdA.sd {t : Tm} (h : SdA t) : Sd t := h.imp id fun z => z.1
theorem GL.sdA {L : Lit} (h : GL L) : SdA L.l ∧ SdA L.r := by
  rcases h.sort with ⟨h1, h2⟩ | ⟨h1, h2, h3⟩
  · exact ⟨.inl h1, .inl h2⟩
  · exact ⟨.inr ⟨h1, h2⟩, by rw [h3]; exact .inr ⟨rfl, rfl⟩⟩
theorem GL.side {L : Lit} (h : GL L) (s : Nat) : SdA (sideOf L s) ∧ TK (sideOf L s) := by
  unfold sideOf; split
  · exact ⟨h.sdA.1, h.l⟩
  · exact ⟨h.sdA.2, h.r⟩
theorem LG.vside {us : List Us} {L : Lit} (h : LG us L) (s : Nat) : VG us (fun _ => True) (sideOf L s) := by
  unfold sideOf; split
  · exact h.vl
  · exact h.vr
mutual
theorem place_ind : ∀ (t : Tm) (pl : List Nat) (v : Tm), (pl, v) ∈ placesT t → isInd t = true → isInd v = true
  | .var x, pl, v, h, _ => by rw [placesT, List.mem_singleton] at h; cases h; rfl
  | .app f as, pl, v, h, hi => by
    rw [placesT] at h
    rcases List.mem_cons.mp h with e | h
    · cases e; exact hi
    · rw [isInd, Bool.and_eq_true] at hi; exact placesL_ind as 0 pl v h hi.2
theorem placesL_ind : ∀ (as : List Tm) (k : Nat) (pl : List Nat) (v : Tm), (pl, v) ∈ placesL k as → isInds as = true → isInd v = true
  | [], k, pl, v, h, _ => by rw [placesL] at h; cases h
  | a :: as, k, pl, v, h, hi => by
    rw [placesL] at h
    rw [isInds, Bool.and_eq_true] at hi
    rcases List.mem_append.mp h with h | h
    · obtain ⟨q, hq, e⟩ := List.mem_map.mp h
      cases e
      exact place_ind a q.1 q.2 hq hi.1
    · exact placesL_ind as (k + 1) pl v h hi.2
end
/-- a place of a side: the whole, or an individual within -/
theorem place_side {t : Tm} {pl : List Nat} {v : Tm} (h : (pl, v) ∈ placesT t) (hs : SdA t) : isInd v = true ∨ (pl = [] ∧ v = t ∧ isAtm v = true ∧ v.isAtom = true) := by
  rcases hs with hs | hs
  · exact .inl (place_ind t pl v h hs)
  · cases t with
    | var x => cases hs.1
    | app f as =>
      rw [placesT] at h
      rcases List.mem_cons.mp h with e | h
      · cases e; exact .inr ⟨rfl, rfl, hs.1, hs.2⟩
      · have := hs.1
        rw [isAtm, Bool.and_eq_true] at this
        exact .inl (placesL_ind as 0 pl v h this.2)
/-! ### replacing within -/
theorem isInds_set {as : List Tm} {i : Nat} {u : Tm} (h : isInds as = true) (hu : isInd u = true) : isInds (as.set i u) = true := by
  rw [isInds_all] at h ⊢
  rw [List.all_eq_true] at h ⊢
  intro x hx
  rcases List.mem_or_eq_of_mem_set hx with z | z
  · exact h x z
  · rw [z]; exact hu
theorem toks_set {as : List Tm} {i : Nat} {u : Tm} (h : toks as = true) (hu : tok u = true) : toks (as.set i u) = true := by
  refine toks_all _ fun x hx => ?_
  rcases List.mem_or_eq_of_mem_set hx with z | z
  · exact toks_mem h x z
  · rw [z]; exact hu
theorem VGs_all {us : List Us} {p : Int → Prop} : ∀ {as : List Tm}, (∀ a ∈ as, VG us p a) → VGs us p as
  | [], _ => by rw [VGs]; trivial
  | a :: as, h => by rw [VGs]; exact ⟨h a (by simp), VGs_all fun b hb => h b (by simp [hb])⟩
theorem VGs_set {us : List Us} {p : Int → Prop} {as : List Tm} {i : Nat} {u : Tm} (h : VGs us p as) (hu : VG us p u) : VGs us p (as.set i u) := by
  refine VGs_all fun x hx => ?_
  rcases List.mem_or_eq_of_mem_set hx with z | z
  · exact VGs.mem h x z
  · rw [z]; exact hu
theorem put_ind : ∀ (pl : List Nat) (t u v : Tm), atT t pl = some v → isInd t = true → isInd u = true → isInd (putT t pl u) = true
  | [], t, u, v, _, _, hu => by rw [putT]; exact hu
  | i :: pl, .var x, u, v, h, _, _ => by rw [atT] at h; cases h
  | i :: pl, .app f as, u, v, h, ht, hu => by
    rw [atT] at h
    rw [putT]
    rw [isInd, Bool.and_eq_true] at ht
    cases e : as[i]? with
    | none => rw [e] at h; cases h
    | some a =>
      rw [e] at h
      have := put_ind pl a u v h (isInds_mem ht.2 a (List.mem_of_getElem? e)) hu
      show isInd (.app f (as.set i (putT a pl u))) = true
      rw [isInd, Bool.and_eq_true]
      exact ⟨ht.1, isInds_set ht.2 this⟩
theorem put_tok : ∀ (pl : List Nat) (t u v : Tm), atT t pl = some v → tok t = true → tok u = true → tok (putT t pl u) = true
  | [], t, u, v, _, _, hu => by rw [putT]; exact hu
  | i :: pl, .var x, u, v, h, _, _ => by rw [atT] at h; cases h
  | i :: pl, .app f as, u, v, h, ht, hu => by
    rw [atT] at h
    rw [putT]
    rw [tok, Bool.and_eq_true, decide_eq_true_eq] at ht
    cases e : as[i]? with
    | none => rw [e] at h; cases h
    | some a =>
      rw [e] at h
      have := put_tok pl a u v h (toks_mem ht.2 a (List.mem_of_getElem? e)) hu
      show tok (.app f (as.set i (putT a pl u))) = true
      rw [tok, Bool.and_eq_true, decide_eq_true_eq, List.length_set]
      exact ⟨ht.1, toks_set ht.2 this⟩
theorem put_vg {us : List Us} {p : Int → Prop} : ∀ (pl : List Nat) (t u v : Tm), atT t pl = some v → VG us p t → VG us p u → (pl ≠ [] → isInd u = true) → VG us p (putT t pl u)
  | [], t, u, v, _, _, hu, _ => by rw [putT]; exact hu
  | i :: pl, .var x, u, v, h, _, _, _ => by rw [atT] at h; cases h
  | i :: pl, .app f as, u, v, h, ht, hu, hi => by
    rw [atT] at h
    rw [putT]
    rw [VG] at ht
    cases e : as[i]? with
    | none => rw [e] at h; cases h
    | some a =>
      rw [e] at h
      have ha := List.mem_of_getElem? e
      rcases ht with ht | ⟨h1, h2, h3⟩
      · have : as = [] := List.length_eq_zero_iff.mp ht.2
        rw [this] at ha; cases ha
      · have hind := hi (by simp)
        show VG us p (.app f (as.set i (putT a pl u)))
        rw [VG, List.length_set]
        exact .inr ⟨h1, isInds_set h2 (put_ind pl a u v h (isInds_mem h2 a ha) hind), VGs_set h3 (put_vg pl a u v h (VGs.mem h3 a ha) hu (fun _ => hind))⟩
theorem vat_set (F : Tb) (sz : Int) (v : Int → Int) : ∀ (as : List Tm) (acc : Int) (i : Nat) (a u : Tm), as[i]? = some a → val F sz v u = val F sz v a → vat F sz v acc (as.set i u) = vat F sz v acc as
  | b :: as, acc, 0, a, u, h, e => by
    cases h
    rw [List.set_cons_zero, vat, vat, e]
  | b :: as, acc, i + 1, a, u, h, e => by
    rw [List.set_cons_succ, vat, vat]
    exact vat_set F sz v as _ i a u h e
  | [], acc, i, a, u, h, e => by simp at h
theorem put_val {F : Tb} {sz : Int} {v : Int → Int} : ∀ (pl : List Nat) (t u w : Tm), atT t pl = some w → val F sz v u = val F sz v w → val F sz v (putT t pl u) = val F sz v t
  | [], t, u, w, h, e => by rw [atT] at h; cases h; rw [putT]; exact e
  | i :: pl, .var x, u, w, h, e => by rw [atT] at h; cases h
  | i :: pl, .app f as, u, w, h, e => by
    rw [atT] at h
    rw [putT]
    cases e1 : as[i]? with
    | none => simp [e1] at h
    | some a =>
      rw [e1] at h
      have := put_val pl a u w h e
      show val F sz v (.app f (as.set i (putT a pl u))) = _
      rw [val, val, List.length_set, vat_set F sz v as 0 i a _ e1 this]
theorem put_dep : ∀ (pl : List Nat) (t u v : Tm), atT t pl = some v → (putT t pl u).dep ≤ t.dep + u.dep
  | [], t, u, v, _ => by rw [putT]; omega
  | i :: pl, .var x, u, v, h => by rw [atT] at h; cases h
  | i :: pl, .app f as, u, v, h => by
    rw [atT] at h
    rw [putT]
    cases e1 : as[i]? with
    | none => rw [e1] at h; cases h
    | some a =>
      rw [e1] at h
      have := put_dep pl a u v h
      have ha := dep_mem (List.mem_of_getElem? e1)
      show (Tm.app f (as.set i (putT a pl u))).dep ≤ _
      rw [dep_app, dep_app]
      have : Tm.deps (as.set i (putT a pl u)) ≤ Tm.deps as + u.dep := deps_le fun x hx => by
        rcases List.mem_or_eq_of_mem_set hx with z | z
        · have := dep_mem z; omega
        · rw [z]; omega
      omega
theorem sizes_set : ∀ (as : List Tm) (i : Nat) (u : Tm), Tm.sizes (as.set i u) ≤ Tm.sizes as + u.size
  | [], i, u => by rw [List.set_nil]; omega
  | a :: as, 0, u => by rw [List.set_cons_zero, Tm.sizes, Tm.sizes]; omega
  | a :: as, i + 1, u => by rw [List.set_cons_succ, Tm.sizes, Tm.sizes]; have := sizes_set as i u; omega
theorem sizes_set2 : ∀ (as : List Tm) (i : Nat) (a u : Tm), as[i]? = some a → Tm.sizes (as.set i u) + a.size = Tm.sizes as + u.size
  | a :: as, 0, b, u, h => by cases h; rw [List.set_cons_zero, Tm.sizes, Tm.sizes]; omega
  | a :: as, i + 1, b, u, h => by
    have := sizes_set2 as i b u h
    rw [List.set_cons_succ, Tm.sizes, Tm.sizes]; omega
  | [], i, b, u, h => by simp at h
theorem put_size : ∀ (pl : List Nat) (t u v : Tm), atT t pl = some v → (putT t pl u).size + v.size = t.size + u.size
  | [], t, u, v, h => by rw [atT] at h; cases h; rw [putT]; omega
  | i :: pl, .var x, u, v, h => by rw [atT] at h; cases h
  | i :: pl, .app f as, u, v, h => by
    rw [atT] at h
    rw [putT]
    cases e1 : as[i]? with
    | none => rw [e1] at h; cases h
    | some a =>
      rw [e1] at h
      have := put_size pl a u v h
      have h2 := sizes_set2 as i a (putT a pl u) e1
      show (Tm.app f (as.set i (putT a pl u))).size + _ = _
      rw [size_app, size_app]
      omega
/-! ### sub of good things -/
mutual
theorem sub_ind {us : List Us} {σ : Sb} (hs : AllS (GI us) σ) : ∀ t : Tm, isInd t = true → isInd (sub σ t) = true
  | .var x, _ => by
    rw [sub]
    cases e : sbv σ x with
    | none => rfl
    | some u => exact (hs _ (sbv_mem e)).ind
  | .app f as, h => by
    rw [isInd, Bool.and_eq_true] at h
    rw [sub, isInd, Bool.and_eq_true]
    exact ⟨h.1, subs_ind hs as h.2⟩
theorem subs_ind {us : List Us} {σ : Sb} (hs : AllS (GI us) σ) : ∀ as : List Tm, isInds as = true → isInds (subs σ as) = true
  | [], _ => rfl
  | a :: as, h => by
    rw [isInds, Bool.and_eq_true] at h
    rw [subs, isInds, Bool.and_eq_true]
    exact ⟨sub_ind hs a h.1, subs_ind hs as h.2⟩
end
mutual
theorem sub_tok {us : List Us} {σ : Sb} (hs : AllS (GI us) σ) : ∀ t : Tm, tok t = true → tok (sub σ t) = true
  | .var x, h => by
    rw [sub]
    cases e : sbv σ x with
    | none => exact h
    | some u => exact (hs _ (sbv_mem e)).tok
  | .app f as, h => by
    rw [tok, Bool.and_eq_true] at h
    rw [sub, tok, Bool.and_eq_true, subs_length]
    exact ⟨h.1, subs_tok hs as h.2⟩
theorem subs_tok {us : List Us} {σ : Sb} (hs : AllS (GI us) σ) : ∀ as : List Tm, toks as = true → toks (subs σ as) = true
  | [], _ => rfl
  | a :: as, h => by
    rw [toks, Bool.and_eq_true] at h
    rw [subs, toks, Bool.and_eq_true]
    exact ⟨sub_tok hs a h.1, subs_tok hs as h.2⟩
end
mutual
theorem sub_vg {us : List Us} {σ : Sb} (hs : AllS (GI us) σ) : ∀ t : Tm, VG us (fun _ => True) t → VG us (fun _ => True) (sub σ t)
  | .var x, h => by
    rw [sub]
    cases e : sbv σ x with
    | none => rw [Option.getD_none, VG]; trivial
    | some u => exact (hs _ (sbv_mem e)).vg
  | .app f as, h => by
    rw [VG] at h
    rw [sub, VG, subs_length]
    exact h.imp id fun ⟨h1, h2, h3⟩ => ⟨h1, subs_ind hs as h2, subs_vg hs as h3⟩
theorem subs_vg {us : List Us} {σ : Sb} (hs : AllS (GI us) σ) : ∀ as : List Tm, VGs us (fun _ => True) as → VGs us (fun _ => True) (subs σ as)
  | [], _ => by rw [subs, VGs]; trivial
  | a :: as, h => by
    rw [VGs] at h
    rw [subs, VGs]
    exact ⟨sub_vg hs a h.1, subs_vg hs as h.2⟩
end
mutual
theorem place_vg {us : List Us} {p : Int → Prop} : ∀ (t : Tm) (pl : List Nat) (v : Tm), (pl, v) ∈ placesT t → VG us p t → VG us p v
  | .var x, pl, v, h, hv => by rw [placesT, List.mem_singleton] at h; cases h; exact hv
  | .app f as, pl, v, h, hv => by
    rw [placesT] at h
    rcases List.mem_cons.mp h with e | h
    · cases e; exact hv
    · rw [VG] at hv
      rcases hv with hv | hv
      · have : as = [] := List.length_eq_zero_iff.mp hv.2
        rw [this, placesL] at h; cases h
      · exact placesL_vg as 0 pl v h hv.2.2
theorem placesL_vg {us : List Us} {p : Int → Prop} : ∀ (as : List Tm) (k : Nat) (pl : List Nat) (v : Tm), (pl, v) ∈ placesL k as → VGs us p as → VG us p v
  | [], k, pl, v, h, _ => by rw [placesL] at h; cases h
  | a :: as, k, pl, v, h, hv => by
    rw [placesL] at h
    rw [VGs] at hv
    rcases List.mem_append.mp h with h | h
    · obtain ⟨q, hq, e⟩ := List.mem_map.mp h
      cases e
      exact place_vg a q.1 q.2 hq hv.1
    · exact placesL_vg as (k + 1) pl v h hv.2
end
mutual
theorem place_tok : ∀ (t : Tm) (pl : List Nat) (v : Tm), (pl, v) ∈ placesT t → tok t = true → tok v = true
  | .var x, pl, v, h, hv => by rw [placesT, List.mem_singleton] at h; cases h; exact hv
  | .app f as, pl, v, h, hv => by
    rw [placesT] at h
    rcases List.mem_cons.mp h with e | h
    · cases e; exact hv
    · rw [tok, Bool.and_eq_true] at hv
      exact placesL_tok as 0 pl v h hv.2
theorem placesL_tok : ∀ (as : List Tm) (k : Nat) (pl : List Nat) (v : Tm), (pl, v) ∈ placesL k as → toks as = true → tok v = true
  | [], k, pl, v, h, _ => by rw [placesL] at h; cases h
  | a :: as, k, pl, v, h, hv => by
    rw [placesL] at h
    rw [toks, Bool.and_eq_true] at hv
    rcases List.mem_append.mp h with h | h
    · obtain ⟨q, hq, e⟩ := List.mem_map.mp h
      cases e
      exact place_tok a q.1 q.2 hq hv.1
    · exact placesL_tok as (k + 1) pl v h hv.2
end
/-- a replacement: the new side is good, and worth the same where the equation holds -/
theorem rep_ok {W : Sym → Int} {us : List Us} {e : Lit} {es : Nat} {t u : Tm} (he : LG us e) (hes : es < 2) (ht : isInd t = true ∨ (isAtm t = true ∧ t.isAtom = true)) (hv : VG us (fun _ => True) t) (htk : tok t = true) (h : RepOK W e es t u) :
    VG us (fun _ => True) u ∧ tok u = true ∧ (isInd t = true → isInd u = true) ∧ ∀ {F : Tb} {sz : Int} {v : Int → Int}, TbOK sz us F → 0 < sz → (∀ x, 0 ≤ v x ∧ v x < sz) → e.pos = true → Valid F sz [e] → val F sz v u = val F sz v t := by
  obtain ⟨σ, h1, h2, rfl, _⟩ := h
  have sp := he.g.side es
  have sq := he.g.side (1 - es)
  have g : AllS (GI us) σ := by
    refine ext_gi (fun p hp => by cases hp) h2 hv htk ?_
    rcases ht with ht | ht
    · exact .inl ht
    · refine .inr ⟨.inr ht.1, ?_⟩
      rw [ht.2] at h1
      cases hp : sideOf e es with
      | var x => rw [hp] at h1; cases h1
      | app f as => rfl
  obtain ⟨_, hsub⟩ := ext_sound _ _ _ _ h2
  have hst := hsub σ (ExtS.refl σ)
  refine ⟨sub_vg g _ (he.vside _), sub_tok g _ sq.2.tok, fun hi => ?_, fun {F sz v} hF hs hvr hpos hval => ?_⟩
  · have : (sideOf e es).isAtom = false := by rw [← h1]; exact ind_natom hi
    have hq : isInd (sideOf e (1 - es)) = true := by
      rcases he.g.sort with ⟨a1, a2⟩ | ⟨a1, a2, a3⟩
      · unfold sideOf; split <;> assumption
      · have : (sideOf e es).isAtom = true := by unfold sideOf; split; exact a2; rw [a3]; rfl
        simp_all
    exact sub_ind g _ hq
  · have hb := hval (vS F sz v σ) (vS_bd hF hs hvr g)
    rw [clH_any] at hb
    have hb : decide (val F sz (vS F sz v σ) e.l = val F sz (vS F sz v σ) e.r) = true := by
      have : litH F sz (vS F sz v σ) e = true := by simpa using hb
      unfold litH at this
      rw [hpos] at this
      simpa using this
    have hb := of_decide_eq_true hb
    rw [← hst, val_sub, val_sub]
    have : es = 0 ∨ es = 1 := by omega
    rcases this with rfl | rfl
    · exact hb.symm
    · exact hb
end My
set_option maxHeartbeats 1000000
/-! N5: the clause of a rewriting. -/
namespace My
open PySem PySem.Spec PyProof.Rows L2
theorem split_k {α : Type} {c : List α} {k : Nat} {L : α} (h : c[k]? = some L) : c = c.take k ++ [L] ++ c.drop (k + 1) := by
  obtain ⟨hk, e⟩ := List.getElem?_eq_some_iff.mp h
  rw [List.append_assoc, List.singleton_append, ← e, ← List.drop_eq_getElem_cons hk, List.take_append_drop]
theorem csz_app : ∀ a b : Cl, csz (a ++ b) = csz a + csz b
  | [], b => by rw [List.nil_append, csz]; omega
  | L :: a, b => by rw [List.cons_append, csz, csz, csz_app a b]; omega
theorem wSide_val {F : Tb} {sz : Int} {v : Int → Int} (L : Lit) {s : Nat} (hs : s < 2) {t : Tm} (h : val F sz v t = val F sz v (sideOf L s)) : litH F sz v (wSide L s t) = litH F sz v L := by
  have : s = 0 ∨ s = 1 := by omega
  unfold litH
  rcases this with rfl | rfl
  · show (decide (val F sz v t = val F sz v L.r) == L.pos) = _
    rw [h]; rfl
  · show (decide (val F sz v L.l = val F sz v t) == L.pos) = _
    rw [h]; rfl
/-- the facts of one rewriting -/
theorem rw_facts {W : Sym → Int} {us : List Us} {e : Lit} {c c' : Cl} (he : LG us e) (hc : ∀ L ∈ c, LG us L) (hl : c.length ≤ 8) (h : Rw W e c c') :
    HC us c' ∧ CZ 900 c' ∧ ∀ {F : Tb} {sz : Int}, TbOK sz us F → 0 < sz → Valid F sz [e] → (Valid F sz c' ↔ Valid F sz c) := by
  obtain ⟨hpos, k, s, L, hk, hs, pl, t, es, u, hpl, hes, hrep, rfl⟩ := h
  have hL := hc L (List.mem_of_getElem? hk)
  have hside := hL.g.side s
  have hps := place_side hpl hside.1
  have hat := places_at _ pl t hpl
  have hvt := place_vg _ pl t hpl (hL.vside s)
  have htt := place_tok _ pl t hpl hside.2.tok
  have hle := places_le _ pl t hpl
  have hd3 := hside.2.dep
  have hz7 := hside.2.size
  obtain ⟨r1, r2, r3, r4⟩ := rep_ok he hes (hps.imp id fun z => ⟨z.2.2.1, z.2.2.2⟩) hvt htt hrep
  have rt := rep_tk hrep ⟨he.g.l, he.g.r⟩ ⟨by omega, by omega⟩
  have pd := put_dep pl (sideOf L s) u t hat
  have pz := put_size pl (sideOf L s) u t hat
  have pt := put_tok pl (sideOf L s) u t hat hside.2.tok r2
  have pv := put_vg pl (sideOf L s) u t hat (hL.vside s) r1 (fun z => r3 (hps.elim id fun y => absurd y.1 z))
  generalize hN : putT (sideOf L s) pl u = N at pd pz pt pv
  have hlit : ∀ {Q : Tm → Prop}, Q N → Q L.l → Q L.r → Q (wSide L s N).l ∧ Q (wSide L s N).r := fun {Q} q1 q2 q3 => by
    unfold wSide; split
    · exact ⟨q1, q3⟩
    · exact ⟨q2, q1⟩
  have hmem : ∀ M ∈ c.take k ++ [wSide L s N] ++ c.drop (k + 1), M = wSide L s N ∨ M ∈ c := fun M hM => by
    rcases List.mem_append.mp hM with z | z
    · rcases List.mem_append.mp z with z | z
      · exact .inr (List.mem_of_mem_take z)
      · rw [List.mem_singleton] at z; exact .inl z
    · exact .inr (List.mem_of_mem_drop z)
  have all : ∀ {Q : Tm → Prop}, Q N → (∀ M ∈ c, Q M.l ∧ Q M.r) → ∀ M ∈ c.take k ++ [wSide L s N] ++ c.drop (k + 1), Q M.l ∧ Q M.r := fun {Q} q1 q2 M hM => by
    rcases hmem M hM with z | z
    · rw [z]
      have := q2 L (List.mem_of_getElem? hk)
      exact hlit q1 this.1 this.2
    · exact q2 M z
  have hkl : k < c.length := (List.getElem?_eq_some_iff.mp hk).1
  have hlen : (c.take k ++ [wSide L s N] ++ c.drop (k + 1)).length = c.length := by
    simp only [List.length_append, List.length_take, List.length_drop, List.length_singleton]; omega
  refine ⟨⟨?_, ?_, by rw [hlen]; omega, ?_, ?_⟩, ?_, ?_⟩
  · exact all (Q := fun t => t.dep < 16) (by show N.dep < 16; omega) fun M hM => ⟨by have := (hc M hM).g.l.dep; omega, by have := (hc M hM).g.r.dep; omega⟩
  · rw [csz_app, csz_app]
    have c7 : CZ 7 c := fun M hM => ⟨(hc M hM).g.l.size, (hc M hM).g.r.size⟩
    have h1 := csz_le (n := 7) (c := c.take k) fun M hM => c7 M (List.mem_of_mem_take hM)
    have h2 := csz_le (n := 7) (c := c.drop (k + 1)) fun M hM => c7 M (List.mem_of_mem_drop hM)
    rw [List.length_take] at h1
    rw [List.length_drop] at h2
    have h3 : csz [wSide L s N] ≤ 112 := by
      have := hlit (Q := fun t => t.size ≤ 56) (by show N.size ≤ 56; omega) (by have := hL.g.l.size; omega) (by have := hL.g.r.size; omega)
      simp only [csz]; omega
    omega
  · exact all (Q := fun t => VG us (fun _ => True) t) pv fun M hM => ⟨(hc M hM).vl, (hc M hM).vr⟩
  · exact names3 _ (all (Q := fun t => tok t = true) pt fun M hM => ⟨(hc M hM).g.l.tok, (hc M hM).g.r.tok⟩)
  · exact all (Q := fun t => t.size ≤ 900) (by show N.size ≤ 900; omega) fun M hM => ⟨by have := (hc M hM).g.l.size; omega, by have := (hc M hM).g.r.size; omega⟩
  · intro F sz hF hsz hve
    have key : ∀ v, (∀ x, 0 ≤ v x ∧ v x < sz) → clH F sz v (c.take k ++ [wSide L s N] ++ c.drop (k + 1)) = clH F sz v c := fun v hv => by
      have e1 : val F sz v N = val F sz v (sideOf L s) := by rw [← hN]; exact put_val pl _ u t hat (r4 hF hsz hv hpos hve)
      have e2 := wSide_val L hs e1
      have e3 : clH F sz v c = clH F sz v (c.take k ++ [L] ++ c.drop (k + 1)) := congrArg (clH F sz v) (split_k hk)
      rw [e3, clH_any, clH_any, List.any_append, List.any_append, List.any_append, List.any_append, List.any_cons, List.any_cons, e2]
    constructor
    · intro h v hv; rw [← key v hv]; exact h v hv
    · intro h v hv; rw [key v hv]; exact h v hv
end My
set_option maxHeartbeats 1000000
/-! N6: the order of terms: monotone, irreflexive. -/
namespace My
open PySem PySem.Spec PyProof.Rows L2
mutual
theorem occ_coll (t : Tm) (xs : List Int) (x : Int) (h : x ∉ coll xs t) : occ x t = 0 := by
  cases t with
  | var y =>
    rw [occ]
    rw [coll] at h
    split
    · rename_i e
      exfalso
      subst e
      split at h
      · rename_i c; exact h (List.contains_iff_mem.mp c)
      · exact h (by simp)
    · rfl
  | app f as => rw [coll] at h; rw [occ]; exact occs_colls as xs x h
theorem occs_colls (as : List Tm) (xs : List Int) (x : Int) (h : x ∉ colls xs as) : occs x as = 0 := by
  cases as with
  | nil => rw [occs]
  | cons a as =>
    rw [colls] at h
    have h1 : occs x as = 0 := occs_colls as _ x h
    have h2 : occ x a = 0 := occ_coll a xs x (fun z => h (colls_sub as _ x z))
    rw [occs, h1, h2]; rfl
end
mutual
theorem occ_nn (t : Tm) (x : Int) : 0 ≤ occ x t := by
  cases t with
  | var y => rw [occ]; split <;> omega
  | app f as => rw [occ]; exact occs_nn as x
theorem occs_nn (as : List Tm) (x : Int) : 0 ≤ occs x as := by
  cases as with
  | nil => rw [occs]; omega
  | cons a as => rw [occs]; have := occ_nn a x; have := occs_nn as x; omega
end
theorem hasAll_iff {s t : Tm} : hasAll s t = true ↔ ∀ x, occ x t ≤ occ x s := by
  unfold hasAll
  rw [List.all_eq_true]
  constructor
  · intro h x
    by_cases hx : x ∈ coll [] t
    · exact of_decide_eq_true (h x hx)
    · rw [occ_coll t [] x hx]; exact occ_nn s x
  · intro h x _; exact decide_eq_true (h x)
theorem gtE_congr {r r' : Tm → Tm → Bool} {f g : Sym} {as bs : List Tm} (h : as ≠ [] → ∀ s t, s.size < (Tm.app f as).size → r s t = r' s t) : gtE r f as g bs = gtE r' f as g bs := by
  unfold gtE
  by_cases h1 : as.isEmpty = true
  · rw [if_pos h1, if_pos h1]
  · have hne : as ≠ [] := fun z => by rw [z] at h1; exact h1 rfl
    rw [if_neg h1, if_neg h1, h hne _ _ (size_last f hne), h hne _ _ (size_dropLast f hne)]
theorem gtF_fuel (W : Sym → Int) : ∀ (n m : Nat) (s t : Tm), s.size < n → s.size < m → gtF W n s t = gtF W m s t
  | 0, _, s, t, h, _ => by omega
  | _ + 1, 0, s, t, _, h => by omega
  | n + 1, m + 1, s, t, h1, h2 => by
    rw [gtF_s, gtF_s]
    have : gtB (gtF W n) s t = gtB (gtF W m) s t := by
      cases s with
      | var x => rfl
      | app f as =>
        cases t with
        | var y => rfl
        | app g bs => exact gtE_congr fun _ s' t' hs => gtF_fuel W n m s' t' (by omega) (by omega)
    rw [this]
/-- s above t -/
def GT (W : Sym → Int) (s t : Tm) : Prop := gtF W (s.size + 1) s t = true
theorem GT_iff {W : Sym → Int} {n : Nat} {s t : Tm} (h : s.size < n) : gtF W n s t = true ↔ GT W s t := by
  unfold GT
  rw [gtF_fuel W n (s.size + 1) s t h (by omega)]
theorem gt_var {W : Sym → Int} {x : Int} {t : Tm} : ¬ GT W (.var x) t := by
  unfold GT
  rw [gtF_s, if_pos (.inl rfl)]
  simp
/-- how two applications compare where they weigh the same -/
def GE (W : Sym → Int) (f : Sym) (as : List Tm) (g : Sym) (bs : List Tm) : Prop :=
  (as = [] ∧ bs = [] ∧ symLt g f = true) ∨ (as ≠ [] ∧ bs = []) ∨ (as ≠ [] ∧ bs ≠ [] ∧ ((f = g ∧ as.dropLast = bs.dropLast ∧ GT W (as.getLastD (.var 0)) (bs.getLastD (.var 0))) ∨ (¬ (f = g ∧ as.dropLast = bs.dropLast) ∧ GT W (.app f as.dropLast) (.app g bs.dropLast))))
theorem gtE_iff {W : Sym → Int} {f g : Sym} {as bs : List Tm} : gtE (gtF W (Tm.app f as).size) f as g bs = true ↔ GE W f as g bs := by
  unfold gtE GE
  cases as with
  | nil =>
    rw [if_pos (show ([] : List Tm).isEmpty = true from rfl), Bool.and_eq_true]
    cases bs with
    | nil => simp
    | cons b bs => simp
  | cons a as =>
    rw [if_neg (by simp)]
    cases bs with
    | nil => simp
    | cons b bs =>
      rw [if_neg (by simp)]
      have hne : a :: as ≠ [] := by simp
      by_cases e : f = g ∧ (a :: as).dropLast = (b :: bs).dropLast
      · rw [if_pos e, GT_iff (size_last f hne)]
        constructor
        · intro h; exact .inr (.inr ⟨hne, by simp, .inl ⟨e.1, e.2, h⟩⟩)
        · rintro (h | h | ⟨_, _, h | h⟩)
          · cases h.1
          · cases h.2
          · exact h.2.2
          · exact absurd e h.1
      · rw [if_neg e, GT_iff (size_dropLast f hne)]
        constructor
        · intro h; exact .inr (.inr ⟨hne, by simp, .inr ⟨e, h⟩⟩)
        · rintro (h | h | ⟨_, _, h | h⟩)
          · cases h.1
          · cases h.2
          · exact absurd ⟨h.1, h.2.1⟩ e
          · exact h.2
theorem gt_app {W : Sym → Int} {f g : Sym} {as bs : List Tm} : GT W (.app f as) (.app g bs) ↔ (∀ x, occs x bs ≤ occs x as) ∧ (wtT W (.app g bs) < wtT W (.app f as) ∨ (wtT W (.app f as) = wtT W (.app g bs) ∧ GE W f as g bs)) := by
  unfold GT
  rw [gtF_s]
  by_cases h : hasAll (.app f as) (.app g bs) = true
  · rw [if_neg (by rintro (z | z); cases z; rw [h] at z; cases z)]
    have h' := hasAll_iff.mp h
    simp only [occ] at h'
    by_cases hw : wtT W (.app f as) = wtT W (.app g bs)
    · rw [if_pos hw]
      show gtE (gtF W (Tm.app f as).size) f as g bs = true ↔ _
      rw [gtE_iff]
      constructor
      · intro z; exact ⟨h', .inr ⟨hw, z⟩⟩
      · rintro ⟨_, z | z⟩
        · omega
        · exact z.2
    · rw [if_neg hw, decide_eq_true_eq]
      constructor
      · intro z; exact ⟨h', .inl z⟩
      · rintro ⟨_, z | z⟩
        · exact z
        · exact absurd z.1 hw
  · have h2 : hasAll (.app f as) (.app g bs) = false := by simpa using h
    rw [if_pos (.inr h2)]
    constructor
    · intro z; cases z
    · rintro ⟨z, _⟩
      exact absurd (hasAll_iff.mpr (by simpa only [occ] using z)) h
theorem gt_appv {W : Sym → Int} {s t : Tm} (h : GT W s t) : (∀ x, occ x t ≤ occ x s) ∧ wtT W t ≤ wtT W s := by
  unfold GT at h
  rw [gtF_s] at h
  by_cases hc : s.isVar = true ∨ hasAll s t = false
  · rw [if_pos hc] at h; cases h
  · rw [if_neg hc] at h
    have hh : hasAll s t = true := by
      cases e : hasAll s t with
      | true => rfl
      | false => exact absurd (.inr e) hc
    refine ⟨hasAll_iff.mp hh, ?_⟩
    by_cases hw : wtT W s = wtT W t
    · omega
    · rw [if_neg hw, decide_eq_true_eq] at h; omega
theorem gt_irr {W : Sym → Int} (hr : ∀ f, symLt f f = false) : ∀ t : Tm, ¬ GT W t t := by
  intro t
  induction t using Tm.sind with
  | h t ih =>
    cases t with
    | var x => exact gt_var
    | app f as =>
      rw [gt_app]
      rintro ⟨_, h | ⟨_, h | h | h⟩⟩
      · omega
      · rw [hr f] at h; cases h.2.2
      · exact h.1 h.2
      · obtain ⟨hne, _, h | h⟩ := h
        · exact ih _ (size_last f hne) h.2.2
        · exact h.1 ⟨rfl, rfl⟩
theorem occs_set (x : Int) : ∀ (as : List Tm) (i : Nat) (a u : Tm), as[i]? = some a → occs x (as.set i u) + occ x a = occs x as + occ x u
  | a :: as, 0, b, u, h => by cases h; rw [List.set_cons_zero, occs, occs]; omega
  | a :: as, i + 1, b, u, h => by
    have := occs_set x as i b u h
    rw [List.set_cons_succ, occs, occs]; omega
  | [], i, b, u, h => by simp at h
theorem wts_set (W : Sym → Int) : ∀ (as : List Tm) (i : Nat) (a u : Tm), as[i]? = some a → wtTs W (as.set i u) + wtT W a = wtTs W as + wtT W u
  | a :: as, 0, b, u, h => by cases h; rw [List.set_cons_zero, wtTs, wtTs]; omega
  | a :: as, i + 1, b, u, h => by
    have := wts_set W as i b u h
    rw [List.set_cons_succ, wtTs, wtTs]; omega
  | [], i, b, u, h => by simp at h
theorem gt_mono {W : Sym → Int} (hr : ∀ f, symLt f f = false) (f : Sym) : ∀ (n : Nat) (as : List Tm), as.length = n → ∀ (i : Nat) (a u : Tm), as[i]? = some a → GT W a u → GT W (.app f as) (.app f (as.set i u))
  | 0, as, hl, i, a, u, hi, h => by
    have : as = [] := List.length_eq_zero_iff.mp hl
    rw [this] at hi; simp at hi
  | n + 1, as, hl, i, a, u, hi, h => by
    obtain ⟨h1, h2⟩ := gt_appv h
    have hw := wts_set W as i a u hi
    rw [gt_app]
    refine ⟨fun x => by have := occs_set x as i a u hi; have := h1 x; omega, ?_⟩
    rw [wtT, wtT]
    by_cases hlt : wtT W u < wtT W a
    · left; omega
    · right
      refine ⟨by omega, ?_⟩
      have hne : as ≠ [] := fun z => by rw [z] at hl; cases hl
      obtain ⟨init, l, rfl⟩ := split_last hne
      have hln : init.length = n := by simpa using hl
      have hau : a ≠ u := fun z => gt_irr hr a (by rw [z] at h ⊢; exact h)
      refine .inr (.inr ⟨hne, ?_, ?_⟩)
      · intro z
        have := congrArg List.length z
        simp at this
      · by_cases hil : i < init.length
        · have hi2 : init[i]? = some a := by rw [List.getElem?_append_left hil] at hi; exact hi
          rw [List.set_append_left _ _ hil, List.dropLast_concat, List.dropLast_concat]
          refine .inr ⟨fun z => ?_, gt_mono hr f n init hln i a u hi2 h⟩
          have this : init[i]? = (init.set i u)[i]? := congrArg (fun l : List Tm => l[i]?) z.2
          rw [hi2, List.getElem?_set_self hil] at this
          exact hau (Option.some.inj this)
        · have hie : i = init.length := by
            have := (List.getElem?_eq_some_iff.mp hi).1
            rw [List.length_append, List.length_singleton] at this
            omega
          subst hie
          rw [List.getElem?_append_right (Nat.le_refl _), Nat.sub_self] at hi
          have hla : l = a := by simpa using hi
          subst hla
          rw [List.set_append_right _ _ (Nat.le_refl _), Nat.sub_self]
          show _ ∨ _
          rw [show [l].set 0 u = [u] from rfl, List.dropLast_concat, List.dropLast_concat]
          left
          refine ⟨rfl, rfl, ?_⟩
          simpa using h
theorem gt_put {W : Sym → Int} (hr : ∀ f, symLt f f = false) : ∀ (pl : List Nat) (s t u : Tm), atT s pl = some t → GT W t u → GT W s (putT s pl u)
  | [], s, t, u, h, g => by rw [atT] at h; cases h; rw [putT]; exact g
  | i :: pl, .var x, t, u, h, g => by rw [atT] at h; cases h
  | i :: pl, .app f as, t, u, h, g => by
    rw [atT] at h
    rw [putT]
    cases e : as[i]? with
    | none => simp [e] at h
    | some a =>
      rw [e] at h
      exact gt_mono hr f as.length as rfl i a _ e (gt_put hr pl a t u h g)
theorem symLt_irr (f : Sym) : symLt f f = false := by
  unfold symLt symL
  rw [HT.lexLt_cons, if_pos rfl, HT.lexLt_cons, if_pos rfl, HT.lexLt_cons, if_pos rfl, HT.lexLt_nil_nil]
end My
set_option maxHeartbeats 1000000
/-! N7: the order of literals and clauses. -/
namespace My
open PySem PySem.Spec PyProof.Rows L2
theorem cnt_erase {a x : Tm} {l : List Tm} : (l.erase a).count x = l.count x - if x = a then 1 else 0 := by
  rw [List.count_erase]
  by_cases h : x = a
  · subst h; simp
  · have h' : ¬ a = x := fun z => h z.symm
    simp [h, h']
theorem cnt_cons {a x : Tm} {l : List Tm} : (a :: l).count x = l.count x + if x = a then 1 else 0 := by
  rw [List.count_cons]
  by_cases h : x = a
  · subst h; simp
  · have h' : ¬ a = x := fun z => h z.symm
    simp [h, h']
theorem lgF_cnt : ∀ (r o th : List Tm), (∀ x, r.count x ≤ o.count x) → ∀ x, (lgF r (o, th)).1.count x = o.count x - min (r.count x) (th.count x) ∧ (lgF r (o, th)).2.count x = th.count x - min (r.count x) (th.count x)
  | [], o, th, _, x => by rw [lgF]; simp
  | t :: r, o, th, h, x => by
    rw [lgF]
    by_cases ht : t ∈ th
    · rw [if_pos ht]
      have hc := List.count_pos_iff.mpr ht
      have ih := lgF_cnt r (o.erase t) (th.erase t) (fun y => by
        have := h y
        rw [cnt_cons] at this
        rw [cnt_erase]
        split at this <;> rename_i e
        · rw [if_pos e]; omega
        · rw [if_neg e]; omega) x
      have hx := h x
      rw [cnt_cons] at hx
      rw [cnt_erase, cnt_erase] at ih
      rw [cnt_cons]
      by_cases e : x = t
      · rw [if_pos e] at hx ih ⊢
        rw [e] at hx ih ⊢
        omega
      · rw [if_neg e] at hx ih ⊢
        omega
    · rw [if_neg ht]
      have hc : th.count t = 0 := List.count_eq_zero.mpr ht
      have ih := lgF_cnt r o th (fun y => by have := h y; rw [cnt_cons] at this; omega) x
      rw [cnt_cons]
      by_cases e : x = t
      · rw [if_pos e]
        rw [e] at ih ⊢
        rw [hc] at ih ⊢
        simpa using ih
      · rw [if_neg e]; simpa using ih
/-- the order of literals by counts -/
theorem lgt_iff {W : Sym → Int} {n : Nat} {a b : Lit} : lgt W n a b = true ↔ (∃ x, (sidesL b).count x < (sidesL a).count x) ∧ ∀ y, (sidesL a).count y < (sidesL b).count y → ∃ x, (sidesL b).count x < (sidesL a).count x ∧ gtF W n x y = true := by
  have h := lgF_cnt (sidesL a) (sidesL a) (sidesL b) (fun _ => Nat.le_refl _)
  have m1 : ∀ x, x ∈ (lgF (sidesL a) (sidesL a, sidesL b)).1 ↔ (sidesL b).count x < (sidesL a).count x := fun x => by
    rw [← List.count_pos_iff, (h x).1]; omega
  have m2 : ∀ x, x ∈ (lgF (sidesL a) (sidesL a, sidesL b)).2 ↔ (sidesL a).count x < (sidesL b).count x := fun x => by
    rw [← List.count_pos_iff, (h x).2]; omega
  unfold lgt lgR
  by_cases he : (lgF (sidesL a) (sidesL a, sidesL b)).1.isEmpty = true
  · rw [if_pos he]
    constructor
    · intro z; cases z
    · rintro ⟨⟨x, hx⟩, _⟩
      have := (m1 x).mpr hx
      rw [List.isEmpty_iff.mp he] at this
      cases this
  · rw [if_neg he, List.all_eq_true]
    constructor
    · intro z
      refine ⟨?_, fun y hy => ?_⟩
      · cases e : (lgF (sidesL a) (sidesL a, sidesL b)).1 with
        | nil => rw [e] at he; exact absurd rfl he
        | cons x xs => exact ⟨x, (m1 x).mp (by rw [e]; simp)⟩
      · have := z y ((m2 y).mpr hy)
        rw [List.any_eq_true] at this
        obtain ⟨x, hx, hg⟩ := this
        exact ⟨x, (m1 x).mp hx, hg⟩
    · rintro ⟨_, z⟩ y hy
      obtain ⟨x, hx, hg⟩ := z y ((m2 y).mp hy)
      rw [List.any_eq_true]
      exact ⟨x, (m1 x).mpr hx, hg⟩
theorem same_iff {a b : Lit} : sameL a b = true ↔ a.pos = b.pos ∧ ((a.l = b.l ∧ a.r = b.r) ∨ (a.l = b.r ∧ a.r = b.l)) := by
  unfold sameL sameS
  rw [Bool.and_eq_true, Bool.or_eq_true, decide_eq_true_eq, decide_eq_true_eq, decide_eq_true_eq]
theorem same_refl (a : Lit) : sameL a a = true := same_iff.mpr ⟨rfl, .inl ⟨rfl, rfl⟩⟩
theorem same_symm {a b : Lit} (h : sameL a b = true) : sameL b a = true := by
  obtain ⟨h1, h2 | h2⟩ := same_iff.mp h
  · exact same_iff.mpr ⟨h1.symm, .inl ⟨h2.1.symm, h2.2.symm⟩⟩
  · exact same_iff.mpr ⟨h1.symm, .inr ⟨h2.2.symm, h2.1.symm⟩⟩
theorem same_trans {a b c : Lit} (h : sameL a b = true) (k : sameL b c = true) : sameL a c = true := by
  obtain ⟨h1, h2⟩ := same_iff.mp h
  obtain ⟨k1, k2⟩ := same_iff.mp k
  refine same_iff.mpr ⟨h1.trans k1, ?_⟩
  rcases h2 with ⟨a1, a2⟩ | ⟨a1, a2⟩ <;> rcases k2 with ⟨b1, b2⟩ | ⟨b1, b2⟩
  · exact .inl ⟨a1.trans b1, a2.trans b2⟩
  · exact .inr ⟨a1.trans b1, a2.trans b2⟩
  · exact .inr ⟨a1.trans b2, a2.trans b1⟩
  · exact .inl ⟨a1.trans b2, a2.trans b1⟩
theorem sides_cnt (L : Lit) (x : Tm) : (sidesL L).count x = (if L.pos = true then 1 else 2) * ((if x = L.l then 1 else 0) + (if x = L.r then 1 else 0)) := by
  unfold sidesL
  split
  · rw [cnt_cons, cnt_cons, List.count_nil]; omega
  · rw [cnt_cons, cnt_cons, cnt_cons, cnt_cons, List.count_nil]; omega
theorem sides_same {a b : Lit} (h : sameL a b = true) (x : Tm) : (sidesL a).count x = (sidesL b).count x := by
  obtain ⟨h1, h2⟩ := same_iff.mp h
  rw [sides_cnt, sides_cnt, h1]
  rcases h2 with ⟨a1, a2⟩ | ⟨a1, a2⟩
  · rw [a1, a2]
  · rw [a1, a2, Nat.add_comm]
theorem lgt_same {W : Sym → Int} {n : Nat} {a a' b b' : Lit} (h : sameL a a' = true) (k : sameL b b' = true) (g : lgt W n a b = true) : lgt W n a' b' = true := by
  rw [lgt_iff] at g ⊢
  simp only [sides_same h, sides_same k] at g
  exact g
theorem lgt_irr {W : Sym → Int} {n : Nat} (a : Lit) : ¬ lgt W n a a = true := by
  rw [lgt_iff]
  rintro ⟨⟨x, hx⟩, _⟩
  omega
/-! ### clauses -/
noncomputable def cntL (x : Lit) (c : Cl) : Nat := c.countP fun a => sameL a x
theorem cntL_cons (x a : Lit) (c : Cl) : cntL x (a :: c) = cntL x c + if sameL a x = true then 1 else 0 := by
  unfold cntL
  rw [List.countP_cons]
theorem cntL_app (x : Lit) (a b : Cl) : cntL x (a ++ b) = cntL x a + cntL x b := List.countP_append ..
theorem rem1_cnt : ∀ {c c' : Cl} {L : Lit}, rem1 c L = some c' → ∀ x, cntL x c = cntL x c' + if sameL L x = true then 1 else 0
  | [], _, _, h, _ => by cases h
  | a :: c, c', L, h, x => by
    rw [rem1] at h
    by_cases e : sameL a L = true
    · rw [if_pos e] at h
      cases h
      rw [cntL_cons]
      have : sameL a x = true ↔ sameL L x = true := ⟨fun z => same_trans (same_symm e) z, fun z => same_trans e z⟩
      by_cases hx : sameL L x = true
      · rw [if_pos (this.mpr hx), if_pos hx]
      · rw [if_neg (fun z => hx (this.mp z)), if_neg hx]
    · rw [if_neg e] at h
      obtain ⟨d, h1, h2⟩ := Option.map_eq_some_iff.mp h
      subst h2
      rw [cntL_cons, cntL_cons, rem1_cnt h1 x]
      omega
theorem rem1_zero : ∀ {c : Cl} {L : Lit}, rem1 c L = none → cntL L c = 0
  | [], _, _ => rfl
  | a :: c, L, h => by
    rw [rem1] at h
    by_cases e : sameL a L = true
    · rw [if_pos e] at h; cases h
    · rw [if_neg e, Option.map_eq_none_iff] at h
      rw [cntL_cons, if_neg e, rem1_zero h]
theorem cntL_same {x y : Lit} (h : sameL x y = true) (c : Cl) : cntL x c = cntL y c := by
  unfold cntL
  congr 1
  funext a
  rw [Bool.eq_iff_iff]
  exact ⟨fun z => same_trans z h, fun z => same_trans z (same_symm h)⟩
theorem cgF_cnt : ∀ (r o th : Cl) (x : Lit), cntL x (cgF r (o, th)).1 = cntL x o + (cntL x r - cntL x th) ∧ cntL x (cgF r (o, th)).2 = cntL x th - cntL x r
  | [], o, th, x => by rw [cgF]; simp [cntL]
  | L :: r, o, th, x => by
    rw [cgF]
    cases e : rem1 th L with
    | some th' =>
      have h := rem1_cnt e x
      have ih := cgF_cnt r o th' x
      simp only
      rw [cntL_cons]
      omega
    | none =>
      have h := rem1_zero e
      have ih := cgF_cnt r (o ++ [L]) th x
      simp only
      rw [cntL_app, cntL_cons] at ih
      rw [cntL_cons]
      have hz : cntL x ([] : Cl) = 0 := rfl
      by_cases hx : sameL L x = true
      · rw [cntL_same hx] at h
        rw [if_pos hx] at ih ⊢
        omega
      · rw [if_neg hx] at ih ⊢
        omega
theorem cnt_pos {x : Lit} {c : Cl} : 0 < cntL x c ↔ ∃ a ∈ c, sameL a x = true := by
  unfold cntL
  rw [List.countP_pos_iff]
theorem cgt_of {W : Sym → Int} {n : Nat} {a b : Cl} (h1 : ∃ x, cntL x b < cntL x a) (h2 : ∀ y, cntL y a < cntL y b → ∃ x, cntL x b < cntL x a ∧ lgt W n x y = true) : cgt W n a b = true := by
  have h := cgF_cnt a [] b
  have hz : ∀ x, cntL x ([] : Cl) = 0 := fun _ => rfl
  unfold cgt cgR
  obtain ⟨x, hx⟩ := h1
  have p1 : 0 < cntL x (cgF a ([], b)).1 := by rw [(h x).1, hz]; omega
  obtain ⟨a0, ha0, _⟩ := cnt_pos.mp p1
  rw [if_neg (fun z => by rw [List.isEmpty_iff.mp z] at ha0; cases ha0), List.all_eq_true]
  intro y hy
  have q : 0 < cntL y (cgF a ([], b)).2 := cnt_pos.mpr ⟨y, hy, same_refl y⟩
  rw [(h y).2] at q
  obtain ⟨x', hx', hg⟩ := h2 y (by omega)
  have p2 : 0 < cntL x' (cgF a ([], b)).1 := by rw [(h x').1, hz]; omega
  obtain ⟨z, hz', hs⟩ := cnt_pos.mp p2
  rw [List.any_eq_true]
  exact ⟨z, hz', lgt_same (same_symm hs) (same_refl y) hg⟩
theorem cgt_clean (W : Sym → Int) (n : Nat) (c : Cl) : cleanC c = c ∨ cgt W n c (cleanC c) = true := by
  have le : ∀ (c : Cl) x, cntL x (cleanC c) ≤ cntL x c := fun c x => by
    induction c with
    | nil => exact Nat.le_refl _
    | cons L c ih =>
      rw [cleanC]
      split
      · rw [cntL_cons, cntL_cons]; omega
      · rw [cntL_cons]; omega
  have key : ∀ c : Cl, cleanC c = c ∨ ∃ x, cntL x (cleanC c) < cntL x c := fun c => by
    induction c with
    | nil => exact .inl rfl
    | cons L c ih =>
      rw [cleanC]
      split
      · rcases ih with h | ⟨x, h⟩
        · exact .inl (by rw [h])
        · exact .inr ⟨x, by rw [cntL_cons, cntL_cons]; omega⟩
      · refine .inr ⟨L, ?_⟩
        rw [cntL_cons, if_pos (same_refl L)]
        have := le c L
        omega
  rcases key c with h | h
  · exact .inl h
  · exact .inr (cgt_of h fun y hy => by have := le c y; omega)
theorem lgt_side {W : Sym → Int} {n : Nat} {L : Lit} {s : Nat} (hs : s < 2) {N : Tm} (hz : (sideOf L s).size < n) (g : GT W (sideOf L s) N) : lgt W n L (wSide L s N) = true := by
  have hne : sideOf L s ≠ N := fun z => gt_irr symLt_irr N (by rw [z] at g; exact g)
  obtain ⟨o, hL, hN⟩ : ∃ o : Tm, (∀ x, (sidesL L).count x = (if L.pos = true then 1 else 2) * ((if x = sideOf L s then 1 else 0) + (if x = o then 1 else 0))) ∧ ∀ x, (sidesL (wSide L s N)).count x = (if L.pos = true then 1 else 2) * ((if x = N then 1 else 0) + (if x = o then 1 else 0)) := by
    have : s = 0 ∨ s = 1 := by omega
    rcases this with rfl | rfl
    · exact ⟨L.r, fun x => sides_cnt L x, fun x => sides_cnt ⟨L.pos, N, L.r⟩ x⟩
    · exact ⟨L.l, fun x => by rw [sides_cnt, Nat.add_comm]; rfl, fun x => by
        rw [show wSide L 1 N = ⟨L.pos, L.l, N⟩ from rfl, sides_cnt, Nat.add_comm]⟩
  have hlt : (sidesL (wSide L s N)).count (sideOf L s) < (sidesL L).count (sideOf L s) := by
    rw [hL, hN, if_pos rfl, if_neg hne]
    split <;> split <;> omega
  rw [lgt_iff]
  refine ⟨⟨_, hlt⟩, fun y hy => ⟨_, hlt, ?_⟩⟩
  have hyN : y = N := by
    rw [hL, hN] at hy
    by_cases h : y = N
    · exact h
    · rw [if_neg h] at hy
      exfalso
      by_cases h1 : L.pos = true
      · simp only [if_pos h1] at hy; omega
      · simp only [if_neg h1] at hy; omega
  rw [hyN, GT_iff hz]
  exact g
theorem cgt_rw {W : Sym → Int} {e : Lit} {c c' : Cl} (hc : ∀ L ∈ c, GL L) (h : Rw W e c c') : cgt W 8 c c' = true := by
  obtain ⟨_, k, s, L, hk, hs, pl, t, es, u, hpl, hes, hrep, rfl⟩ := h
  have hL := hc L (List.mem_of_getElem? hk)
  have hside := hL.side s
  have hz : (sideOf L s).size < 8 := by have := hside.2.size; omega
  have hle := places_le _ pl t hpl
  have g0 : GT W t u := by
    obtain ⟨σ, _, _, _, g⟩ := hrep
    exact (GT_iff (by omega)).mp g
  have g1 := gt_put symLt_irr pl (sideOf L s) t u (places_at _ pl t hpl) g0
  have g2 := lgt_side (n := 8) hs hz g1
  generalize putT (sideOf L s) pl u = N at g2
  have e1 : ∀ x, cntL x c = cntL x (c.take k) + cntL x (c.drop (k + 1)) + if sameL L x = true then 1 else 0 := fun x => by
    have h1 := congrArg (cntL x) (split_k hk)
    rw [cntL_app, cntL_app, cntL_cons] at h1
    have hz : cntL x ([] : Cl) = 0 := rfl
    omega
  have e2 : ∀ x, cntL x (c.take k ++ [wSide L s N] ++ c.drop (k + 1)) = cntL x (c.take k) + cntL x (c.drop (k + 1)) + if sameL (wSide L s N) x = true then 1 else 0 := fun x => by
    rw [cntL_app, cntL_app, cntL_cons]
    have hz : cntL x ([] : Cl) = 0 := rfl
    omega
  have ns : ¬ sameL (wSide L s N) L = true := fun z => lgt_irr L (lgt_same (same_refl L) z g2)
  have hx : cntL L (c.take k ++ [wSide L s N] ++ c.drop (k + 1)) < cntL L c := by
    rw [e1, e2, if_pos (same_refl L), if_neg ns]; omega
  refine cgt_of ⟨L, hx⟩ fun y hy => ⟨L, hx, ?_⟩
  have : sameL (wSide L s N) y = true := by
    rw [e1, e2] at hy
    by_cases h : sameL (wSide L s N) y = true
    · exact h
    · rw [if_neg h] at hy; omega
  exact lgt_same (same_refl L) this g2
end My
set_option maxHeartbeats 4000000
/-! F17: the program's orders of literals and clauses. -/
namespace My
open PySem PySem.Spec PyProof.Rows L2
def lamOf (st : Stmt) : Expr := match defBody st with
  | [.Return (some (.Call _ [_, _, _, e] [] _)) _] => e
  | _ => .Constant .none 0 ⟨0, 0, 0, 0⟩
def lamPs (e : Expr) : Arguments := match e with
  | .Lambda a _ _ _ => a
  | _ => { posonlyargs := [], args := [], vararg := none, kwonlyargs := [], kw_defaults := [], kwarg := none, defaults := [] }
def lamBd (e : Expr) : Expr := match e with
  | .Lambda _ b _ _ => b
  | e => e
def lamSc (e : Expr) : Scope := match e with
  | .Lambda _ _ s _ => s
  | _ => { kind := .module, names := [], isGenerator := false, isCoroutine := false }
/-- the name x stands for the def st; its code object stands at c -/
def DefAtC (K : PySem.W.Frag) (mg : Str → Option Value) (x : Str) (st : Stmt) (c : Addr) : Prop := ∃ (f : Addr) (fd : FuncData), FunD K x x (defArgs st) (defBody st) (defScope st) [] [] f fd ∧ mg x = some (.ref f) ∧ fd.code = .ref c
section
variable {P : Program} {w : World} {K : PySem.W.Frag} {mg : Str → Option Value} {base : Heap} {T : List (Addr × Str)} {k : Nat}
theorem dcalC {x : Str} {st : Stmt} {N ps : List Str} {sp : SpD} {c : Addr} {t : TSD} (DA : DefAtC K mg x st c) (S : FnScope N ps (defScope st))
    (hb : ∀ (kV doc pm : Value) (an : Option Addr) (cdv ct : Value) (us : List Value), us.length = ps.length → bindArgs (PySem.W.fnOf x x (defArgs st) (defBody st) (defScope st) .none kV doc pm an cdv ct) ⟨us, []⟩ = pure (ps.zip us))
    (hder : ∀ (f : Addr) (A : Around) (outer : List Env) (s : Shared) (H : Hp) (E : XK), Room k (A.deeper (envOfC x (defScope st) s.heap.objs.size f (.ref c))) → PSsd T (cxOf CX0 P w K mg base N x (defScope st) f (.ref c) A outer s H E).nox (defBody st) t)
    (len : ∀ ds M R, sp ds M R → ds.length = ps.length) (hread : ∀ ds M R, sp ds M R → t (endD R) (startD N ds) M) : Cal P w K mg base T (k + 1) x sp := by
  obtain ⟨f, fd, F, hm, hc⟩ := DA
  refine ⟨f, fd, ps, ?_, hm, F.kp, F.bindsN hb⟩
  obtain ⟨oc, od, dV, kV, doc, pm, an, cdv, ct, osl, rfl, lk, hcd, _, _⟩ := F.ex
  obtain rfl : cdv = .ref c := hc
  refine fn_of lk hcd S (fun vs H Q E h => ?_) fun A outer s H vs Q E hr h => ?_
  · obtain ⟨ds, M, R, r, m, h, _⟩ := h
    rw [r.length]; exact len ds M R h
  · obtain ⟨ds, M, R, r, m, h, kk⟩ := h
    refine ⟨_, (hder f A outer s H E hr).nox, startD N ds, M, endD R, start_rs r, m, hread ds M R h, ?_, ?_, ?_, ?_⟩
    · rintro r' M' σ' H' tl _ m' ⟨M2, le, q⟩
      exact kk .non .non M2 H' tl rfl (m'.le le) q
    · rintro d v M' H' tl rd m' ⟨M2, le, q⟩
      exact kk d v M2 H' tl rd (m'.le le) q
    · intro _ _ _ _ _ _ _ z; exact z
    · intro _ _ _ _ _ _ _ z; exact z
theorem lc_any {S : Src} {i : Nat} {tt : TTD} {te : TED} {p : Addr} {r : Rho} {M1 : Mp} {R : VKD} (f : D → D) (n1 : M1 p = none) (hk : ∀ M, LE M1 M → S.keep M) (hl : S.items.length < 1000)
    (ht : ∀ d ∈ S.items, ∀ M, LE M1 M → ∀ R' : Bool → Mp → Prop, (∀ b, R' b M) → tt (r.set i (some d)) M R') (he : ∀ d ∈ S.items, ∀ M, LE M1 M → ∀ R', R' (f d) M → te (r.set i (some d)) M R')
    (hd : ∀ out, R (.ob p) (um M1 p (.lst out))) : lcD S i tt te p r M1 R := by
  refine ⟨fun pre post out M => out.length ≤ pre.length ∧ M = um M1 p (.lst out), ⟨Nat.le_refl _, rfl⟩, ?_, ?_, ?_⟩
  · rintro pre post out M e ⟨_, rfl⟩
    exact ⟨hk _ (le_um n1), um_same⟩
  · rintro pre d post out M e ⟨e1, rfl⟩
    have hm : d ∈ S.items := by rw [e]; simp
    have hpl : pre.length < S.items.length := by rw [e]; simp
    refine ht d hm _ (le_um n1) _ fun b => ?_
    cases b with
    | false => exact ⟨by rw [List.length_append]; omega, rfl⟩
    | true => exact he d hm _ (le_um n1) _ ⟨um_same, by omega, by simp; exact e1, um_um⟩
  · rintro out M ⟨_, rfl⟩
    exact hd out
def spEq (G1 G2 : D → Prop) : SpD := fun ds M R => ∃ d e, ds = [d, e] ∧ G2 d ∧ G1 e ∧ ∀ b, R (.bl b) M
def spIdx (fe : Addr) (G1 G2 : D → Prop) : SpD := fun ds M R => ∃ a d xs, ds = [.ob a, d, .ob fe] ∧ M a = some (.lst xs) ∧ (∀ x ∈ xs, G2 x) ∧ G1 d ∧ (∀ n : Nat, R (.int (n : Nat)) M) ∧ R .non M
theorem enum_mem : ∀ {xs : List D} {n : Nat} {d : D}, d ∈ enumD n xs → ∃ (i : Nat) (x : D), d = .tup [.int (i : Nat), x] ∧ x ∈ xs
  | x :: xs, n, d, h => by
    rw [enumD] at h
    rcases List.mem_cons.mp h with e | h
    · exact ⟨n, x, e, by simp⟩
    · obtain ⟨i, y, e, hy⟩ := enum_mem h
      exact ⟨i, y, e, by simp [hy]⟩
theorem sc_index_of : FnScope ["listed", "one", "equal", "k", "element"] ["listed", "one", "equal"] (defScope (top 23)) := ⟨rfl, rfl, rfl, by decide +kernel, rfl, by decide +kernel, by decide +kernel⟩
theorem c_index_of (DA : DefAt K mg "index_of" (top 23)) {fe : Addr} {G1 G2 : D → Prop} (C_equal : CalA P w K mg base T k fe (spEq G1 G2)) (m_enumerate : mg "enumerate" = none) : Cal P w K mg base T (k + 1) "index_of" (spIdx fe G1 G2) := by
  refine dcal DA sc_index_of (fun _ _ _ _ _ _ us hl => match us, hl with | [_, _, _], _ => rfl) (fun f cdv A outer s H E hr =>
    (dss_cons (ds_for PassesOwn.never rfl (di_enl (dv 0 (.inl rfl)) (by rfl) m_enumerate) (dg_tup2 (i := 3) (j := 4) rfl sc_index_of.nd (.inl rfl) (.inl rfl))
      (dss_one (ds_if (dt_val (d_callL (i := 2) C_equal hr (.inl rfl) (da_cons (dv 4 (.inl rfl)) (da_cons (dv 1 (.inl rfl)) da_nil))))
        (dss_one (ds_ret (dv 3 (.inl rfl))))
        dss_nil)))
    (dss_one (ds_ret d_non)))) (fun ds M R h => by obtain ⟨_, _, _, rfl, _⟩ := h; rfl) (fun ds M R h => ?_)

  obtain ⟨a, d, xs, rfl, ha, hx, hd, h1, h2⟩ := h
  refine ⟨xs, ha, ?_⟩
  refine ⟨fun pre post r M' => M' = M ∧ ∃ o1 o2, r = [some (.ob a), some d, some (.ob fe), o1, o2], ⟨rfl, none, none, rfl⟩, fun _ _ _ _ _ ⟨e, _⟩ => by rw [e]; exact ha, ?_, ?_⟩
  · rintro pre z post r M' e ⟨rfl, o1, o2, rfl⟩
    have hz : z ∈ enumD 0 xs := by
      have e' : enumD 0 xs = pre ++ z :: post := e
      rw [e']; simp
    obtain ⟨i, x, rfl, hx'⟩ := enum_mem hz
    refine ⟨rfl, x, d, rfl, hx x hx', hd, fun b => ?_⟩
    cases b with
    | true => exact ret (h1 i)
    | false => exact ⟨_, LE.refl _, rfl, _, _, rfl⟩
  · rintro r M' ⟨rfl, o1, o2, rfl⟩
    exact ret h2
theorem cut_sub {xs : List D} {l h : Option Int} {x : D} (hx : x ∈ cutD xs l h) : x ∈ xs := List.mem_of_mem_drop (List.mem_of_mem_take hx)
def spBig (W : Sym → Int) (G1 G2 : D → Prop) : SpD := fun ds M R => ∃ a d e, ds = [.ob a, d, e] ∧ WtOK M a W ∧ G1 d ∧ G2 e ∧ ∀ b, R (.bl b) M
def spIM (base : Heap) (W : Sym → Int) (fe : Addr) (G1 G2 : D → Prop) (q : Str) (params : Arguments) (body : Expr) (scope : Scope) : SpD := fun ds M R => ∃ a1 a2 f xs ys cw aw, ds = [.ob a1, .ob a2, .ob fe, .ob f] ∧ M a1 = some (.lst xs) ∧ M a2 = some (.lst ys) ∧ (∀ x ∈ xs, G1 x) ∧ (∀ y ∈ ys, G2 y) ∧ xs.length ≤ 400 ∧ ys.length ≤ 400 ∧
  CloD base M q params body scope "weights" f cw aw ∧ WtOK M aw W ∧ ∀ b, R (.bl b) M
theorem WtOK.mdrop {M : Mp} {a c : Addr} {W : Sym → Int} {ob : Obj} (h : WtOK M a W) (hc : M c = some (.fz ob)) : WtOK (mdrop M c) a W := by
  obtain ⟨kvs, e, q⟩ := h
  exact ⟨kvs, by rw [mdrop_ne (fun z => by rw [z, hc] at e; cases e)]; exact e, q⟩
theorem sc_is_more : FnScope ["first", "second", "equal", "bigger", "rest", "left", "one", "k", "element"] ["first", "second", "equal", "bigger"] (defScope (top 24)) := ⟨rfl, rfl, rfl, by decide +kernel, rfl, by decide +kernel, by decide +kernel⟩
theorem c_is_more (DA : DefAt K mg "is_more" (top 24)) {W : Sym → Int} {fe : Addr} {G1 G2 : D → Prop} {q : Str} {params : Arguments} {body : Expr} {scope : Scope} {j : Nat} (hk : k = j + 1) (L : LS scope "one" "other" "weights") (hbind : ∀ (cl : List (Str × Addr)) (pm cv ctv u1 u2 : Value), bindArgs (PySem.W.kla_fn "<lambda>" q params body scope cl pm cv ctv) ⟨[u1, u2], []⟩ = pure [(("one" : Str), u1), (("other" : Str), u2)]) (hbody : ∀ (A : Around) (outer : List Env) (s : Shared) (H : Hp) (f c1 cw : Addr), Room j (A.deeper (lamE q scope [("weights", cw)] s.heap.objs.size f c1)) → PEd T (lamC P w K mg base ["one", "other", "weights"] q scope [("weights", cw)] A outer s H f c1) body (tCallD (spBig W G1 G2) (tConsD (tVarD 2) (tConsD (tVarD 0) (tConsD (tVarD 1) tNilD))))) (C_index_of : Cal P w K mg base T k "index_of" (spIdx fe G1 G2)) (m_list : mg "list" = none) : Cal P w K mg base T (k + 1) "is_more" (spIM base W fe G1 G2 q params body scope) := by
  refine dcal DA sc_is_more (fun _ _ _ _ _ _ us hl => match us, hl with | [_, _, _, _], _ => rfl) (fun f cdv A outer s H E hr =>
    (dss_cons (ds_set (i := 4) sc_is_more.nd (.inl rfl) (d_toLst (dv 1 (.inl rfl)) (hg := by rfl) (hm := m_list)))
    (dss_cons (ds_set (i := 5) sc_is_more.nd (.inl rfl) (d_lst da_nil))
    (dss_cons (ds_for PassesOwn.never rfl (di_lst (dv 0 (.inl rfl))) (dg_name (i := 6) sc_is_more.nd (.inl rfl))
      (dss_cons (ds_set (i := 7) sc_is_more.nd (.inl rfl) (d_call C_index_of hr (by rfl) (da_cons (dv 4 (.inl rfl)) (da_cons (dv 6 (.inl rfl)) (da_cons (dv 2 (.inl rfl)) da_nil)))))
      (dss_one (ds_if (dt_isN (dv 7 (.inl rfl)) d_non)
        (dss_one (ds_expr (d_append (dv 5 (.inl rfl)) (dv 6 (.inl rfl)))))
        (dss_one (ds_set (i := 4) sc_is_more.nd (.inl rfl) (d_cat (d_slice (dv 4 (.inl rfl)) do_none (do_some (dv 7 (.inl rfl)))) (d_slice (dv 4 (.inl rfl)) (do_some (d_add (dv 7 (.inl rfl)) d_int)) do_none))))))))
    (dss_cons (ds_if (dt_not (dt_tru (dv 5 (.inl rfl))))
      (dss_one (ds_ret d_bl))
      dss_nil)
    (dss_cons (ds_for PassesOwn.never rfl (di_lst (dv 4 (.inl rfl))) (dg_name (i := 8) sc_is_more.nd (.inr rfl))
      (dss_one (ds_if (dt_not (dt_tru (d_lc (i := 6) rfl sc_is_more.nd (di_lst (dv 5 (.inl rfl))) (blkOk_by (by rfl)) (fun _ _ _ _ _ => pg_name (i := 6) sc_is_more.nd rfl (.inl rfl)) (fun _ _ _ _ _ => (dts_one (dt_val (d_clo (i := 3) rfl L hbind hbody (hk ▸ hr) (.inr (.inl rfl)) (da_cons (dv 6 (.inl rfl)) (da_cons (dv 8 (.inr (.inl rfl))) da_nil)))))) (fun _ _ _ _ _ => (dv 6 (.inl rfl))))))
        (dss_one (ds_ret d_bl))
        dss_nil)))
    (dss_one (ds_ret d_bl)))))))) (fun ds M R h => by obtain ⟨_, _, _, _, _, _, _, rfl, _⟩ := h; rfl) (fun ds M R h => ?_)

  obtain ⟨a1, a2, f, xs, ys, cw, aw, rfl, h1, h2, g1, g2, l1, l2, hc, hw, h⟩ := h
  refine ⟨ys, h2, fun p hp => fun p5 hp5 => ?_⟩
  have n5 : p ≠ p5 := fun z => by rw [← z, um_same] at hp5; cases hp5
  have hp5M : M p5 = none := le_fresh (le_um hp) hp5
  have le0 : LE M (um (um M p (.lst ys)) p5 (.lst [])) := (le_um hp).trans (le_um hp5)
  refine ⟨xs, le0 _ _ h1, ?_⟩
  refine ⟨fun pre post r M' => LE M M' ∧ ∃ rs ls p4 o6 o7, M' p4 = some (.lst rs) ∧ p4 ≠ p5 ∧ M' p5 = some (.lst ls) ∧ (∀ y ∈ rs, G2 y) ∧ rs.length ≤ 400 ∧ (∀ x ∈ ls, G1 x) ∧ ls.length ≤ pre.length ∧ r = [some (.ob a1), some (.ob a2), some (.ob fe), some (.ob f), some (.ob p4), some (.ob p5), o6, o7, none],
    ⟨le0, ys, [], p, none, none, by rw [um_ne n5, um_same], n5, um_same, g2, l2, (fun _ z => by cases z), Nat.le_refl _, rfl⟩, fun _ _ _ _ _ ⟨l, _⟩ => l _ _ h1, ?_, ?_⟩
  · rintro pre x post r M' e ⟨le, rs, ls, p4, o6, o7, h4, n45, h5, gr, lr, gl, ll, rfl⟩
    have hx : x ∈ xs := by
      have e' : xs = pre ++ x :: post := e
      rw [e']; simp
    have hpl : pre.length < 400 := by
      have e' : xs = pre ++ x :: post := e
      rw [e'] at l1; simp at l1; omega
    refine ⟨p4, x, rs, rfl, h4, gr, g1 x hx, fun n => ?_, ?_⟩
    · refine ⟨rs, h4, fun q1 hq1 => ⟨rs, le_um hq1 _ _ h4, fun q2 hq2 => ?_⟩⟩
      have e1 : um (um M' q1 (.lst (cutD rs none (some (n : Int))))) q2 (.lst (cutD rs (some ((n : Int) + 1)) none)) q1 = some (.lst (rs.take n)) := by
        rw [um_ne (mne um_same hq2), um_same, cut_to]
      have e2 : um (um M' q1 (.lst (cutD rs none (some (n : Int))))) q2 (.lst (cutD rs (some ((n : Int) + 1)) none)) q2 = some (.lst (rs.drop (n + 1))) := by
        rw [um_same, show ((n : Int) + 1) = ((n + 1 : Nat) : Int) from rfl, cut_from]
      have le2 : LE M' (um (um M' q1 (.lst (cutD rs none (some (n : Int))))) q2 (.lst (cutD rs (some ((n : Int) + 1)) none))) := (le_um hq1).trans (le_um hq2)
      refine ⟨_, _, e1, e2, by rw [List.length_take, List.length_drop]; omega, fun q3 hq3 => ?_⟩
      have le3 := le2.trans (le_um (o := MO.lst (rs.take n ++ rs.drop (n + 1))) hq3)
      refine ⟨_, LE.refl _, le.trans le3, rs.take n ++ rs.drop (n + 1), ls, q3, _, _, um_same, ?_, le3 _ _ h5, ?_, ?_, gl, by rw [List.length_append]; omega, rfl⟩
      · exact fun z => mne (le2 _ _ h5) hq3 z.symm
      · intro y hy
        rcases List.mem_append.mp hy with z | z
        · exact gr y (List.mem_of_mem_take z)
        · exact gr y (List.mem_of_mem_drop z)
      · rw [List.length_append, List.length_take, List.length_drop]; omega
    · refine ⟨p5, _, rfl, h5, ls, h5, by omega, _, LE.refl _, le.upd hp5M, rs, ls ++ [x], p4, _, _, by rw [um_ne n45]; exact h4, n45, um_same, gr, lr, ?_, by simp; omega, rfl⟩
      intro y hy
      rcases List.mem_append.mp hy with z | z
      · exact gl y z
      · rw [List.mem_singleton] at z; rw [z]; exact g1 x hx
  · rintro r M' ⟨le, rs, ls, p4, o6, o7, h4, n45, h5, gr, lr, gl, ll, rfl⟩
    have ll : ls.length ≤ xs.length := ll
    refine ⟨ls, h5, M', LE.refl _, bI_i (fun e => ⟨M, le, h false⟩) (fun e => ⟨rs, h4, ?_⟩)⟩
    refine ⟨fun pre post r M2 => M2 = M' ∧ ∃ o6 o7 o8, r = [some (.ob a1), some (.ob a2), some (.ob fe), some (.ob f), some (.ob p4), some (.ob p5), o6, o7, o8], ⟨rfl, _, _, _, rfl⟩, fun _ _ _ _ _ ⟨e, _⟩ => by rw [e]; exact h4, ?_, ?_⟩
    · rintro pre y post r M2 e ⟨rfl, o6, o7, o8, rfl⟩
      have hy : y ∈ rs := by
        have e' : rs = pre ++ y :: post := e
        rw [e']; simp
      refine ⟨ls, h5, fun p6 hp6 => ?_⟩
      refine lc_any id hp6 (fun M3 l3 => l3 _ _ h5) (by show ls.length < 1000; omega) (fun x hx M3 l3 R' hR => ?_) (fun x hx M3 l3 R' hR => hR) (fun out => ?_)
      · have hx' : x ∈ ls := hx
        have hc3 := (hc.le le).le l3
        refine ⟨f, rfl, ⟨cw, aw, hc3⟩, x, y, cw, aw, rfl, hc3, ?_, fun b => hR b⟩
        obtain ⟨c', q', pm, ctv, cob, _, hcw, _⟩ := hc3
        exact ⟨aw, x, y, rfl, ((hw.le le).le l3).mdrop hcw, gl x hx', gr y hy, fun b => ⟨⟨b, rfl⟩, LE.refl _⟩⟩
      · refine ⟨out, um_same, M2, le_um hp6, bI_i (fun e => ⟨M, le, h false⟩) (fun e => ⟨_, LE.refl _, rfl, _, _, _, rfl⟩)⟩
    · rintro r M2 ⟨rfl, o6, o7, o8, rfl⟩
      exact ⟨M, le, h true⟩
end
end My
set_option maxHeartbeats 4000000
/-! F18: the two defs with lambdas. -/
namespace My
open PySem PySem.Spec PyProof.Rows L2
abbrev lgE : Expr := lamOf (top 27)
abbrev cgE : Expr := lamOf (top 28)
def GT1 (d : D) : Prop := ∃ t : Tm, d = enc t ∧ t.dep < 16 ∧ t.size < 8
def GT2 (d : D) : Prop := ∃ t : Tm, d = enc t ∧ t.dep < 16 ∧ t.size ≤ 900
def GC1 (d : D) : Prop := ∃ L : Lit, d = encL L ∧ LD 16 L ∧ L.l.size < 8 ∧ L.r.size < 8
def GC2 (d : D) : Prop := ∃ L : Lit, d = encL L ∧ LD 16 L ∧ LZ 900 L
theorem ls_lg : LS (lamSc lgE) "one" "other" "weights" := ⟨rfl, rfl, rfl, rfl, rfl, rfl, by decide +kernel, by decide +kernel, by decide⟩
theorem ls_cg : LS (lamSc cgE) "one" "other" "weights" := ⟨rfl, rfl, rfl, rfl, rfl, rfl, by decide +kernel, by decide +kernel, by decide⟩
abbrev lgQ : Str := (("literal_greater" : Str) ++ ".<locals>.") ++ "<lambda>"
abbrev cgQ : Str := (("clause_greater" : Str) ++ ".<locals>.") ++ "<lambda>"
section
variable {P : Program} {w : World} {K : PySem.W.Frag} {mg : Str → Option Value} {base : Heap} {T : List (Addr × Str)} {k : Nat}
theorem sc_equal_terms : FnScope ["first", "second"] ["first", "second"] (defScope (top 25)) := ⟨rfl, rfl, rfl, by decide +kernel, rfl, by decide +kernel, by decide +kernel⟩
theorem c_equal_terms (DA : DefAt K mg "equal_terms" (top 25)) : Cal P w K mg base T (k + 1) "equal_terms" (spEq GT1 GT2) := by
  refine dcal DA sc_equal_terms (fun _ _ _ _ _ _ us hl => match us, hl with | [_, _], _ => rfl) (fun f cdv A outer s H E hr =>
    (dss_one (ds_ret (d_eq hr.units (dv 0 (.inl rfl)) (dv 1 (.inl rfl)))))) (fun ds M R h => by obtain ⟨_, _, rfl, _⟩ := h; rfl) (fun ds M R h => ?_)

  obtain ⟨d, e, rfl, ⟨t, rfl, h1, _⟩, ⟨u, rfl, h2, _⟩, h⟩ := h
  exact ⟨flat64 (by omega), flat64 (by omega), ret (h _)⟩
theorem c_is_more_lg (DA : DefAt K mg "is_more" (top 24)) {W : Sym → Int} {fe : Addr} {j : Nat} (hk : k = j + 1) (C_greater : Cal P w K mg base T j "greater" (spBig W GT1 GT2)) (C_index_of : Cal P w K mg base T k "index_of" (spIdx fe GT1 GT2)) (m_list : mg "list" = none) :
    Cal P w K mg base T (k + 1) "is_more" (spIM base W fe GT1 GT2 lgQ (lamPs lgE) (lamBd lgE) (lamSc lgE)) :=
  c_is_more DA hk ls_lg (fun _ _ _ _ _ _ => rfl) (fun A outer s H f c1 cw hr => d_call C_greater hr (by rfl) (da_cons (dv 2 (.inr (.inr rfl))) (da_cons (dv 0 (.inl rfl)) (da_cons (dv 1 (.inl rfl)) da_nil)))) C_index_of m_list
theorem c_is_more_cg (DA : DefAt K mg "is_more" (top 24)) {W : Sym → Int} {fe : Addr} {j : Nat} (hk : k = j + 1) (C_literal_greater : Cal P w K mg base T j "literal_greater" (spBig W GC1 GC2)) (C_index_of : Cal P w K mg base T k "index_of" (spIdx fe GC1 GC2)) (m_list : mg "list" = none) :
    Cal P w K mg base T (k + 1) "is_more" (spIM base W fe GC1 GC2 cgQ (lamPs cgE) (lamBd cgE) (lamSc cgE)) :=
  c_is_more DA hk ls_cg (fun _ _ _ _ _ _ => rfl) (fun A outer s H f c1 cw hr => d_call C_literal_greater hr (by rfl) (da_cons (dv 2 (.inr (.inr rfl))) (da_cons (dv 0 (.inl rfl)) (da_cons (dv 1 (.inl rfl)) da_nil)))) C_index_of m_list
theorem sc_literal_greater : FnScope ["weights", "first", "second"] ["weights", "first", "second"] (defScope (top 27)) := ⟨rfl, rfl, rfl, by decide +kernel, rfl, by decide +kernel, by decide +kernel⟩
theorem sc_clause_greater : FnScope ["weights", "first", "second"] ["weights", "first", "second"] (defScope (top 28)) := ⟨rfl, rfl, rfl, by decide +kernel, rfl, by decide +kernel, by decide +kernel⟩
theorem sidesP_mem {L : Lit} {t : Tm} (h : t ∈ sidesP L) : t = L.l ∨ t = L.r := by
  unfold sidesP at h
  split at h
  · simpa using h
  · have h' : t = L.l ∨ t = L.l ∨ t = L.r ∨ t = L.r := by simpa using h
    rcases h' with h | h | h | h <;> simp [h]
theorem sidesP_len (L : Lit) : (sidesP L).length ≤ 4 := by unfold sidesP; split <;> simp
theorem mem_encs {as : List Tm} {d : D} (h : d ∈ encs as) : ∃ t ∈ as, d = enc t := by
  rw [encs_map] at h
  obtain ⟨t, h1, h2⟩ := List.mem_map.mp h
  exact ⟨t, h1, h2.symm⟩
theorem c_literal_greater {c Pt fe : Addr} {W : Sym → Int} (DA : DefAtC K mg "literal_greater" (top 27) c) (TB : LamX.TabB base mg c Pt) (hmT : (Pt, lgQ) ∈ T) (hu : ∀ p ∈ T, p.1 = Pt → p.2 = lgQ) (m_equal_terms : mg "equal_terms" = some (.ref fe))
    (C_sides_of : Cal P w K mg base T k "sides_of" (spSides sidesP)) (C_is_more : Cal P w K mg base T k "is_more" (spIM base W fe GT1 GT2 lgQ (lamPs lgE) (lamBd lgE) (lamSc lgE))) : Cal P w K mg base T (k + 1) "literal_greater" (spBig W GC1 GC2) := by
  refine dcalC DA sc_literal_greater (fun _ _ _ _ _ _ us hl => match us, hl with | [_, _, _], _ => rfl) (fun f A outer s H E hr =>
    (dss_one (ds_ret (d_lam3 (y := "weights") (iy := 0) rfl qual_cx TB rfl hmT hu rfl rfl C_is_more hr (by rfl) (d_call C_sides_of hr (by rfl) (da_cons (dv 1 (.inl rfl)) da_nil)) (d_call C_sides_of hr (by rfl) (da_cons (dv 2 (.inl rfl)) da_nil)) (d_glob (by rfl) m_equal_terms)))))
    (fun ds M R h => by obtain ⟨_, _, _, rfl, _⟩ := h; rfl) (fun ds M R h => ?_)
  obtain ⟨a, d, e, rfl, hw, ⟨L, rfl, hL, hz1, hz2⟩, ⟨L', rfl, hL', hz'⟩, h⟩ := h
  refine ⟨L, rfl, fun p hp => ⟨L', rfl, fun q hq => ⟨a, rfl, fun f cw M4 l4 hc => ?_, fun b => ⟨M, (le_um hp).trans (le_um hq), h b⟩⟩⟩⟩
  have hpq : um (um M p (.lst (encs (sidesP L)))) q (.lst (encs (sidesP L'))) p = some (.lst (encs (sidesP L))) := le_um hq _ _ um_same
  refine ⟨p, q, f, encs (sidesP L), encs (sidesP L'), cw, a, rfl, l4 _ _ hpq, l4 _ _ um_same, fun x hx => ?_, fun y hy => ?_, by rw [encs_len]; have := sidesP_len L; omega, by rw [encs_len]; have := sidesP_len L'; omega, hc, ((hw.le (le_um hp)).le (le_um hq)).le l4, fun b => ⟨⟨b, rfl⟩, l4⟩⟩
  · obtain ⟨t, ht, rfl⟩ := mem_encs hx
    rcases sidesP_mem ht with e | e <;> rw [e]
    · exact ⟨_, rfl, hL.1, hz1⟩
    · exact ⟨_, rfl, hL.2, hz2⟩
  · obtain ⟨t, ht, rfl⟩ := mem_encs hy
    rcases sidesP_mem ht with e | e <;> rw [e]
    · exact ⟨_, rfl, hL'.1, hz'.1⟩
    · exact ⟨_, rfl, hL'.2, hz'.2⟩
theorem c_clause_greater {c Pt fe : Addr} {W : Sym → Int} (DA : DefAtC K mg "clause_greater" (top 28) c) (TB : LamX.TabB base mg c Pt) (hmT : (Pt, cgQ) ∈ T) (hu : ∀ p ∈ T, p.1 = Pt → p.2 = cgQ) (m_same : mg "same" = some (.ref fe)) (m_list : mg "list" = none)
    (C_is_more : Cal P w K mg base T k "is_more" (spIM base W fe GC1 GC2 cgQ (lamPs cgE) (lamBd cgE) (lamSc cgE))) : Cal P w K mg base T (k + 1) "clause_greater" (spAnyCG W) := by
  refine dcalC DA sc_clause_greater (fun _ _ _ _ _ _ us hl => match us, hl with | [_, _, _], _ => rfl) (fun f A outer s H E hr =>
    (dss_one (ds_ret (d_lam3 (y := "weights") (iy := 0) rfl qual_cx TB rfl hmT hu rfl rfl C_is_more hr (by rfl) (d_toLst (dv 1 (.inl rfl)) (hg := by rfl) (hm := m_list)) (d_toLst (dv 2 (.inl rfl)) (hg := by rfl) (hm := m_list)) (d_glob (by rfl) m_same)))))
    (fun ds M R h => by obtain ⟨_, _, _, rfl, _⟩ := h; rfl) (fun ds M R h => ?_)
  obtain ⟨a, C1, C2, rfl, hw, hc1, hc2, hz1, hz2, hl1, hl2, h⟩ := h
  refine fun p hp => fun q hq => ⟨a, rfl, fun f cw M4 l4 hc => ?_, fun b => ⟨M, (le_um hp).trans (le_um hq), h b⟩⟩
  have hpq : um (um M p (.lst (C1.map encL))) q (.lst (C2.map encL)) p = some (.lst (C1.map encL)) := le_um hq _ _ um_same
  refine ⟨p, q, f, C1.map encL, C2.map encL, cw, a, rfl, l4 _ _ hpq, l4 _ _ um_same, fun x hx => ?_, fun y hy => ?_, by rw [List.length_map]; omega, by rw [List.length_map]; omega, hc, ((hw.le (le_um hp)).le (le_um hq)).le l4, fun b => ⟨⟨b, rfl⟩, l4⟩⟩
  · obtain ⟨L, hL, rfl⟩ := List.mem_map.mp hx
    exact ⟨L, rfl, hc1 L hL, hz1 L hL⟩
  · obtain ⟨L, hL, rfl⟩ := List.mem_map.mp hy
    exact ⟨L, rfl, hc2 L hL, hz2 L hL⟩
/-- the def same, asked as the equal of literals -/
theorem spSame_eq {M : Mp} {R : VKD} {ds : List D} (h : spEq GC1 GC2 ds M R) : spSameL ds M R := by
  obtain ⟨d, e, rfl, ⟨L, rfl, h1, _⟩, ⟨L', rfl, h2, _⟩, h⟩ := h
  exact ⟨L, L', rfl, ⟨by have := h1.1; omega, by have := h1.2; omega⟩, ⟨by have := h2.1; omega, by have := h2.2; omega⟩, h _⟩
theorem spGt_big {W : Sym → Int} {M : Mp} {R : VKD} {ds : List D} (h : spBig W GT1 GT2 ds M R) : spGt W 8 ds M R := by
  obtain ⟨a, d, e, rfl, hw, ⟨t, rfl, h1, h2⟩, ⟨u, rfl, h3, h4⟩, h⟩ := h
  exact ⟨a, t, u, rfl, hw, h1, h3, h2, h4, h _⟩
end
end My
set_option maxHeartbeats 4000000
/-! F19: the law. -/
namespace My
open PySem PySem.Spec PyProof.Rows L2
section
variable {X : Cx} {T : List (Addr × Str)} {k : Nat} {x : Str} {p pos : Pos} {e : Expr} {es : List Expr} {t : TAD}
theorem d_callW {ι : Type} (i0 : ι) {sp : ι → SpD} (C : ∀ i, Cal X.prog X.w X.K X.mg X.base T k x (sp i)) (hr : Room k X.A) (hg : Gl X x) (ha : PAd T X (e :: es) t) (hdb : (x == ("__debug__" : Str)) = false := by decide)
    (he : starEach (e :: es) X.env = (false, eval e X.env) :: starEach es X.env := by rfl) (hpl : (backTo pos (starEach es X.env)).any (·.1) = false := by rfl) : PEd T X (.Call (.Name x p) (e :: es) [] pos) (tCallD (fun ds M R => ∃ i, sp i ds M R) t) := by
  refine ⟨fun pins s σ H Q I h => ?_⟩
  obtain ⟨f, fd, ps, F, hm, hk, hb⟩ := (C i0).ex
  obtain ⟨r, M, R, hs, hmm, ht, kk⟩ := h
  refine wpAny_Call_Name_kw (ld_glob I hg hm ?_ hdb)
  refine PySem.W.callWith_K (h₀ := X.base) I.ok.mod.kin hk (thn (ha.run pos pins s σ H (fun vs H1 => ∃ i, lfSp X.prog X.w X.K T (sp i) vs H1 Q E0) I ⟨r, M, _, hs, hmm, ht, fun ds vs M1 H1 t1 r1 m1 q => ?_⟩) fun us s1 ⟨vs, H1, I1, rr, q⟩ => ⟨I1.kIn, ?_⟩) he hpl
  · obtain ⟨i, q⟩ := q
    exact ⟨i, ds, M1, R, r1, m1, q, fun d v M' H' t2 => kk d v M' H' (t1.trans t2)⟩
  · obtain ⟨i, q⟩ := q
    obtain ⟨f', fd', ps', F', hm', hk', hb'⟩ := (C i).ex
    rw [hm] at hm'
    cases hm'
    exact run_fn F' hr hb' .nil pass0 I1 rr (by rw [List.append_nil]; exact q)
end
theorem flats_all {n : Nat} : ∀ {ds : List D}, (∀ d ∈ ds, D.flat n d = true) → D.flats n ds = true
  | [], _ => by rw [D.flats]
  | d :: ds, h => by rw [flats_cons, h d (by simp), flats_all fun d hd => h d (by simp [hd])]; rfl
theorem flat_tup (n : Nat) (ds : List D) : D.flat (n + 1) (.tup ds) = D.flats n ds := by rw [D.flat]
theorem flat_encC {c : Cl} (h : CD 16 c) : D.flat 64 (encC c) = true := by
  unfold encC
  rw [flat_tup 63]
  refine flats_all fun d hd => ?_
  obtain ⟨L, hL, rfl⟩ := List.mem_map.mp hd
  have := h L hL
  unfold encL
  rw [flat_tup 62]
  refine flats_all fun d hd => ?_
  have f1 : D.flat 62 (enc L.l) = true := flat_le (n := 2 * L.l.dep + 2) (by have := this.1; omega) (flat_enc _)
  have f2 : D.flat 62 (enc L.r) = true := flat_le (n := 2 * L.r.dep + 2) (by have := this.2; omega) (flat_enc _)
  simp only [List.mem_cons, List.not_mem_nil, or_false] at hd
  rcases hd with rfl | rfl | rfl
  · exact flat_bl _ _
  · exact f1
  · exact f2
theorem gl_cd {c : Cl} (h : ∀ L ∈ c, GL L) : CD 16 c := fun L hL => ⟨by have := (h L hL).l.dep; omega, by have := (h L hL).r.dep; omega⟩
theorem gl_cz {n : Nat} (hn : 7 ≤ n) {c : Cl} (h : ∀ L ∈ c, GL L) : CZ n c := fun L hL => ⟨by have := (h L hL).l.size; omega, by have := (h L hL).r.size; omega⟩
theorem gl_csz {c : Cl} (h : ∀ L ∈ c, GL L) (hl : c.length ≤ 8) : csz c ≤ 112 := by
  have h1 := csz_le (n := 7) (gl_cz (Nat.le_refl 7) h)
  have h2 : c.length * (2 * 7) ≤ 8 * (2 * 7) := Nat.mul_le_mul_right _ hl
  omega
theorem HC.sub {us : List Us} {c : Cl} {d : List Nat} (hg : ∀ L ∈ c, LG us L) (hl : c.length ≤ 20) : HC us c := HC.of (fun L hL => (hg L hL).g) hl fun L hL => ⟨(hg L hL).vl, (hg L hL).vr⟩
theorem clean_mem : ∀ {c : Cl}, ∀ L ∈ cleanC c, L ∈ c
  | [], L, h => h
  | a :: c, L, h => by
    rw [cleanC] at h
    split at h
    · rcases List.mem_cons.mp h with e | h
      · simp [e]
      · simp [clean_mem L h]
    · simp [clean_mem L h]
theorem clean_len : ∀ c : Cl, (cleanC c).length ≤ c.length
  | [] => Nat.le_refl _
  | a :: c => by rw [cleanC]; have := clean_len c; split <;> simp <;> omega
/-- what the draws give -/
structure Drawn (us : List Us) (c o : Cl) (e : Lit) : Prop where
  hc : ∀ L ∈ c, LG us L
  ho : ∀ L ∈ o, LG us L
  he : LG us e
  cl : c.length ≤ 8
  ol : o.length ≤ 8
theorem drawn_of {c o : Cl} {e : Lit} (hc : ∀ L ∈ c, GL L) (ho : ∀ L ∈ o, GL L) (he : GL e) (hcl : c.length ≤ 8) (hol : o.length ≤ 8) : Drawn (usC (usC (usC [] c) o) [e]) c o e := by
  have sc := usC_vg c [] fun L hL => (hc L hL).sd
  have so := usC_vg o (usC [] c) fun L hL => (ho L hL).sd
  have se := usC_vg [e] (usC (usC [] c) o) fun L hL => by rw [List.mem_singleton] at hL; rw [hL]; exact he.sd
  have up1 : ∀ u ∈ usC [] c, u ∈ usC (usC (usC [] c) o) [e] := fun u hu => usC_sub [e] _ u (usC_sub o _ u hu)
  have up2 : ∀ u ∈ usC (usC [] c) o, u ∈ usC (usC (usC [] c) o) [e] := fun u hu => usC_sub [e] _ u hu
  exact ⟨fun L hL => ⟨hc L hL, VG.mono up1 (fun _ z => z) _ (sc L hL).1, VG.mono up1 (fun _ z => z) _ (sc L hL).2⟩, fun L hL => ⟨ho L hL, VG.mono up2 (fun _ z => z) _ (so L hL).1, VG.mono up2 (fun _ z => z) _ (so L hL).2⟩,
    ⟨he, (se e (by simp)).1, (se e (by simp)).2⟩, hcl, hol⟩
section
variable {P : Program} {w : World} {K : PySem.W.Frag} {mg : Str → Option Value} {base : Heap} {T : List (Addr × Str)} {k : Nat}
def spLaw (K : PySem.W.Frag) : SpD := fun ds M R => ∃ a ns, ds = [.ob a] ∧ Scr K M a ns ∧ R (.bl true) M
theorem sc_law : FnScope ["_law_script", "_law_weights_here", "_law_size", "_law_clause_here", "_law_other", "_law_literal_here", "_law_equation", "_law_uses_here", "_law_part_here", "_law_k", "_law_tables", "_law_holds", "_law_one"] ["_law_script"] (defScope (top 90)) := ⟨rfl, rfl, rfl, by decide +kernel, rfl, by decide +kernel, by decide +kernel⟩
theorem c_lawF {f : Addr} {fd : FuncData} (F : FunD K "law" "law" (defArgs (top 90)) (defBody (top 90)) (defScope (top 90)) [] [] f fd) (C_l_rewriting_holds : ∀ W : Sym → Int, Cal P w K mg base T k "_law_rewriting_holds" (spRH W)) (C_l_clause_greater : ∀ W : Sym → Int, Cal P w K mg base T k "_law_clause_greater" (spCG W 8)) (C_l_weights : Cal P w K mg base T k "_law_weights" spWts) (C_l_cell : Cal P w K mg base T k "_law_cell" (spCell K)) (C_l_more : Cal P w K mg base T k "_law_more" spMore) (C_l_well_formed : Cal P w K mg base T k "_law_well_formed" spWF) (C_l_clause : Cal P w K mg base T k "_law_clause" spClause) (C_l_tabled : Cal P w K mg base T k "_law_tabled" spTab) (C_l_literal : Cal P w K mg base T k "_law_literal" spLit) (C_l_clause_uses : Cal P w K mg base T k "_law_clause_uses" spCU) (C_l_part : Cal P w K mg base T k "_law_part" spPart) (C_l_world_tables : Cal P w K mg base T k "_law_world_tables" spWT) (C_l_clause_holds : Cal P w K mg base T k "_law_clause_holds" spHolds) (C_cleaned : Cal P w K mg base T k "cleaned" spCleaned) (C_always_holds : Cal P w K mg base T k "always_holds" spAlways) (C_part_of : Cal P w K mg base T k "part_of" spPO) (m_len : mg "len" = none) (m_range : mg "range" = none) : FnOk P w K mg base CX0 (k + 1) f fd ["_law_script"] (lfSp P w K T (spLaw K)) := by
  refine dfn F sc_law (fun cdv A outer s H E hr =>
    (dss_cons (ds_set (i := 1) sc_law.nd (.inl rfl) (d_call C_l_weights hr (by rfl) (da_cons (d_call C_l_cell hr (by rfl) (da_cons (dv 0 (.inl rfl)) (da_cons d_int da_nil))) da_nil)))
    (dss_cons (ds_set (i := 2) sc_law.nd (.inl rfl) (d_add d_int (d_mod (d_call C_l_cell hr (by rfl) (da_cons (dv 0 (.inl rfl)) (da_cons d_int da_nil))) d_int)))
    (dss_cons (ds_set (i := 3) sc_law.nd (.inl rfl) (d_call C_l_more hr (by rfl) (da_cons (d_call C_l_well_formed hr (by rfl) (da_cons (d_call C_l_clause hr (by rfl) (da_cons (d_call C_l_cell hr (by rfl) (da_cons (dv 0 (.inl rfl)) (da_cons d_int da_nil))) (da_cons d_int (da_cons d_int da_nil)))) da_nil)) (da_cons (d_call C_l_cell hr (by rfl) (da_cons (dv 0 (.inl rfl)) (da_cons d_int da_nil))) da_nil))))
    (dss_cons (ds_set (i := 4) sc_law.nd (.inl rfl) (d_call C_l_well_formed hr (by rfl) (da_cons (d_call C_l_clause hr (by rfl) (da_cons (d_call C_l_cell hr (by rfl) (da_cons (dv 0 (.inl rfl)) (da_cons d_int da_nil))) (da_cons d_int (da_cons d_int da_nil)))) da_nil)))
    (dss_cons (ds_set (i := 5) sc_law.nd (.inl rfl) (d_call C_l_tabled hr (by rfl) (da_cons (d_ix (d_call C_l_literal hr (by rfl) (da_cons (d_call C_l_cell hr (by rfl) (da_cons (dv 0 (.inl rfl)) (da_cons d_int da_nil))) (da_cons d_int da_nil))) d_int) da_nil)))
    (dss_cons (ds_set (i := 6) sc_law.nd (.inl rfl) (d_tup (da_cons d_bl (da_cons (d_ix (dv 5 (.inl rfl)) d_int) (da_cons (d_ix (dv 5 (.inl rfl)) d_int) da_nil)))))
    (dss_cons (ds_set (i := 7) sc_law.nd (.inl rfl) (d_call C_l_clause_uses hr (by rfl) (da_cons (d_tup (da_cons (dv 6 (.inl rfl)) da_nil)) (da_cons (d_call C_l_clause_uses hr (by rfl) (da_cons (dv 4 (.inl rfl)) (da_cons (d_call C_l_clause_uses hr (by rfl) (da_cons (dv 3 (.inl rfl)) (da_cons (d_lst da_nil) da_nil))) da_nil))) da_nil))))
    (dss_cons (ds_set (i := 8) sc_law.nd (.inl rfl) (d_call C_l_part hr (by rfl) (da_cons (dv 3 (.inl rfl)) (da_cons (d_call C_l_cell hr (by rfl) (da_cons (dv 0 (.inl rfl)) (da_cons d_int da_nil))) da_nil))))
    (dss_cons (ds_for PassesOwn.never rfl (di_rng d_int (by rfl) m_range) (dg_name (i := 9) sc_law.nd (.inl rfl))
      (dss_cons (ds_set (i := 10) sc_law.nd (.inl rfl) (d_call C_l_world_tables hr (by rfl) (da_cons (dv 7 (.inl rfl)) (da_cons (dv 2 (.inl rfl)) (da_cons (d_call C_l_cell hr (by rfl) (da_cons (dv 0 (.inl rfl)) (da_cons (d_add d_int (dv 9 (.inl rfl))) da_nil))) da_nil)))))
      (dss_cons (ds_set (i := 11) sc_law.nd (.inl rfl) (d_call C_l_clause_holds hr (by rfl) (da_cons (dv 3 (.inl rfl)) (da_cons (dv 10 (.inl rfl)) (da_cons (dv 2 (.inl rfl)) da_nil)))))
      (dss_cons (ds_if (dt_ne hr.units (d_call C_l_clause_holds hr (by rfl) (da_cons (d_call C_cleaned hr (by rfl) (da_cons (dv 3 (.inl rfl)) da_nil)) (da_cons (dv 10 (.inl rfl)) (da_cons (dv 2 (.inl rfl)) da_nil)))) (dv 11 (.inl rfl)))
        (dss_one (ds_ret d_bl))
        dss_nil)
      (dss_cons (ds_if (PW.pt (dw_and (dt_notN (d_call C_always_holds hr (by rfl) (da_cons (dv 3 (.inl rfl)) da_nil)) d_non) (dw_and1 (dt_not (dt_val (dv 11 (.inl rfl)))))))
        (dss_one (ds_ret d_bl))
        dss_nil)
      (dss_cons (ds_for PassesOwn.never rfl (di_lst (d_lst (da_cons (dv 8 (.inl rfl)) (da_cons (dv 4 (.inl rfl)) da_nil)))) (dg_name (i := 12) sc_law.nd (.inl rfl))
        (dss_one (ds_if (PW.pt (dw_and (dt_lt (d_len (dv 12 (.inl rfl)) (hg := by rfl) (hm := m_len)) d_int) (dw_and1 (dt_notN (d_call C_part_of hr (by rfl) (da_cons (dv 12 (.inl rfl)) (da_cons (dv 3 (.inl rfl)) da_nil))) d_non))))
          (dss_one (ds_if (PW.pt (dw_and (dt_val (d_call C_l_clause_holds hr (by rfl) (da_cons (dv 12 (.inl rfl)) (da_cons (dv 10 (.inl rfl)) (da_cons (dv 2 (.inl rfl)) da_nil))))) (dw_and1 (dt_not (dt_val (dv 11 (.inl rfl)))))))
            (dss_one (ds_ret d_bl))
            dss_nil))
          dss_nil)))
      (dss_one (ds_if (dt_not (dt_val (d_callW (fun _ => 1) C_l_rewriting_holds hr (by rfl) (da_cons (dv 1 (.inl rfl)) (da_cons (dv 6 (.inl rfl)) (da_cons (dv 3 (.inl rfl)) (da_cons (dv 10 (.inl rfl)) (da_cons (dv 2 (.inl rfl)) da_nil))))))))
        (dss_one (ds_ret d_bl))
        dss_nil))))))))
    (dss_cons (ds_if (PW.pt (dw_and (dt_lt (d_len (dv 8 (.inl rfl)) (hg := by rfl) (hm := m_len)) d_int) (dw_and1 (dt_isN (d_call C_part_of hr (by rfl) (da_cons (dv 8 (.inl rfl)) (da_cons (dv 3 (.inl rfl)) da_nil))) d_non))))
      (dss_one (ds_ret d_bl))
      dss_nil)
    (dss_one (ds_ret (d_or (d_eq hr.units (d_call C_cleaned hr (by rfl) (da_cons (dv 3 (.inl rfl)) da_nil)) (dv 3 (.inl rfl))) (d_one (d_callW (fun _ => 1) C_l_clause_greater hr (by rfl) (da_cons (dv 1 (.inl rfl)) (da_cons (dv 3 (.inl rfl)) (da_cons (d_call C_cleaned hr (by rfl) (da_cons (dv 3 (.inl rfl)) da_nil)) da_nil))))))))))))))))))) (fun ds M R h => by obtain ⟨_, _, rfl, _⟩ := h; rfl) (fun ds M R h => ?_)

  obtain ⟨a, ns, rfl, hs, h⟩ := h
  refine ⟨a, 0, ns, rfl, by decide, hs, fun z0 => ⟨z0, rfl, fun pw M1 W le1 hW hpos => ?_⟩⟩
  refine ⟨a, 1, ns, rfl, by decide, hs.le le1, fun z1 => ⟨ltm, ?_⟩⟩
  obtain ⟨sz, hszE⟩ : ∃ sz : Int, sz = 1 + z1 % 2 := ⟨_, rfl⟩
  have hsz : sz = 1 ∨ sz = 2 := by omega
  have hs0 : 0 < sz := by omega
  have hs1 := hs.le le1
  have wf : ∀ {c c' : Cl}, (∀ L ∈ c, GL L) → (∀ L ∈ c', GLt L = true ∧ ∃ L0 ∈ c, L = tabL L0) → ∀ L ∈ c', GL L := fun {c c'} g g' L hL => by
    obtain ⟨_, L0, h0, e⟩ := g' L hL
    rw [e]; exact (g L0 h0).tab
  refine ⟨a, 2, ns, rfl, by decide, hs1, fun z2 => ⟨z2, 3, rfl, by decide, fun c0 g0 l0 => ⟨c0, rfl, gl_cd g0, gl_cz (by decide) g0, by omega, fun c1 l1 g1 => ?_⟩⟩⟩
  refine ⟨a, 3, ns, rfl, by decide, hs1, fun z3 => ⟨c1, z3, rfl, by omega, wf g0 g1, fun c gc lc => ?_⟩⟩
  refine ⟨a, 4, ns, rfl, by decide, hs1, fun z4 => ⟨z4, 2, rfl, by decide, fun o0 g0 lo0 => ⟨o0, rfl, gl_cd g0, gl_cz (by decide) g0, by omega, fun o lo go0 => ?_⟩⟩⟩
  have go := wf g0 go0
  refine ⟨a, 5, ns, rfl, by decide, hs1, fun z5 => ⟨z5, rfl, fun L0 m hL0 => ⟨L0, rfl, ?_⟩⟩⟩
  have hgt := hL0.tab
  have ge : GL ⟨true, (tabL L0).l, (tabL L0).r⟩ := hgt.neg true
  have hcl : c.length ≤ 8 := by omega
  have hol : o.length ≤ 8 := by omega
  have dr := drawn_of gc go ge hcl hol
  have zc := gl_csz gc hcl
  have zo := gl_csz go hol
  have ze : csz [(⟨true, (tabL L0).l, (tabL L0).r⟩ : Lit)] ≤ 112 := gl_csz (fun L hL => by rw [List.mem_singleton] at hL; rw [hL]; exact ge) (by simp)
  have u1 := usC_len c []
  have u2 := usC_len o (usC [] c)
  have u3 := usC_len [(⟨true, (tabL L0).l, (tabL L0).r⟩ : Lit)] (usC (usC [] c) o)
  simp only [List.length_nil] at u1
  have tkc : ∀ L ∈ c, TK L.l ∧ TK L.r := fun L hL => ⟨(gc L hL).l, (gc L hL).r⟩
  have und : (usC (usC (usC [] c) o) [(⟨true, (tabL L0).l, (tabL L0).r⟩ : Lit)]).Nodup := usC_nodup _ _ (usC_nodup _ _ (usC_nodup _ _ List.nodup_nil))
  have uar : ∀ u ∈ usC (usC (usC [] c) o) [(⟨true, (tabL L0).l, (tabL L0).r⟩ : Lit)], u.2 ≤ 4 := usC_ar _ _ (fun L hL => by rw [List.mem_singleton] at hL; rw [hL]; exact ⟨ge.l, ge.r⟩) (usC_ar _ _ (fun L hL => ⟨(go L hL).l, (go L hL).r⟩) (usC_ar _ _ tkc (fun u hu => by cases hu)))
  refine fun p0 hp0 => ⟨c, p0, [], rfl, um_same, gl_cd gc, by simp only [List.length_nil]; omega, fun M2 q2 le2 h2 => ⟨o, q2, _, rfl, h2, gl_cd go, by omega, fun M3 q3 le3 h3 => ⟨[⟨true, (tabL L0).l, (tabL L0).r⟩], q3, _, rfl, h3, gl_cd (fun L hL => by rw [List.mem_singleton] at hL; rw [hL]; exact ge), by omega, fun M4 q4 le4 h4 => ?_⟩⟩⟩
  have leM : LE M1 M4 := (((le_um hp0).trans le2).trans le3).trans le4
  generalize hus : usC (usC (usC [] c) o) [(⟨true, (tabL L0).l, (tabL L0).r⟩ : Lit)] = us at dr und uar h4 u3
  generalize heq : (⟨true, (tabL L0).l, (tabL L0).r⟩ : Lit) = e at ge dr ze u3
  have hs4 := hs1.le leM
  have hW4 := hW.le leM
  have hcHC : HC us c := HC.sub (d := []) dr.hc (by omega)
  have hoHC : HC us o := HC.sub (d := []) dr.ho (by omega)
  have heHC : HC us [e] := HC.sub (d := []) (fun L hL => by rw [List.mem_singleton] at hL; rw [hL]; exact dr.he) (by simp)
  have rwf : ∀ {F : Tb}, TbOK sz us F → ∀ c', Rw W e c c' → cgt W 8 c c' = true ∧ HC us c' ∧ CZ 900 c' ∧ (Valid F sz [e] → (Valid F sz c' ↔ Valid F sz c)) := fun hF c' hr => by
    obtain ⟨f1, f2, f3⟩ := rw_facts dr.he dr.hc dr.cl hr
    exact ⟨cgt_rw gc hr, f1, f2, f3 hF hs0⟩
  refine ⟨a, 6, ns, rfl, by decide, hs4, fun z6 => ⟨c, z6, rfl, by omega, fun pt hsub => ?_⟩⟩
  have lgp : ∀ L ∈ pt, LG us L := fun L hL => dr.hc L (hsub.subset hL)
  have hpl : pt.length ≤ 8 := by have := hsub.length_le; omega
  have hpHC : HC us pt := HC.sub (d := []) lgp (by omega)
  have hclHC : HC us (cleanC c) := HC.sub (d := []) (fun L hL => dr.hc L (clean_mem L hL)) (by have := clean_len c; omega)
  have lefin : LE M M4 := le1.trans leM
  refine ⟨by decide, by decide, ?_⟩
  refine for_map (fun i : Nat => D.int (i : Nat)) (List.range 3) rfl (fun pre post r M' => LE M4 M' ∧ ∃ x9 x10 x11 x12, r = [some (.ob a), some (.ob pw), some (.int sz), some (encC c), some (encC o), some (encL (tabL L0)), some (encL e), some (.ob q4), some (encC pt), x9, x10, x11, x12]) ⟨LE.refl _, none, none, none, none, by rw [← heq, hszE]; rfl⟩ (fun _ _ _ _ _ _ => trivial) ?_ ?_
  · rintro pre i post r M' e1 ⟨le, x9, x10, x11, x12, rfl⟩
    refine ⟨a, 7 + (i : Nat), ns, rfl, by omega, hs4.le le, fun z => ⟨q4, us, sz, z, rfl, le _ _ h4, und, by omega, uar, hsz, fun F hF tb htb M5 le5 => ?_⟩⟩
    have l5 : LE M' M5 := (le_um htb).trans le5
    have t5 : M5 tb = some (.dN (encT us F)) := le5 _ _ um_same
    have ecl : holdsB F sz (cleanC c) = holdsB F sz c := by rw [Bool.eq_iff_iff, holdsB_iff, holdsB_iff]; exact valid_clean
    refine ⟨c, tb, sz, us, F, rfl, t5, hsz, hF, hcHC.cd, hcHC.csz, Nat.le_trans hcHC.len (by decide), hcHC.vg, hcHC.names, ?_⟩
    refine ⟨c, rfl, gl_cd gc, by omega, ?_⟩
    refine ⟨cleanC c, tb, sz, us, F, rfl, t5, hsz, hF, hclHC.cd, hclHC.csz, Nat.le_trans hclHC.len (by decide), hclHC.vg, hclHC.names, flat_bl _ _, flat_bl _ _, ?_⟩
    rw [ecl, deq_bl]
    refine bI_i (fun z => by rw [beq_self_eq_true] at z; cases z) (fun _ => ?_)
    have parts : ∀ (x10 x12 : Option D), tSeqD (tForD (iLstD (tLstD 2 (tConsD (tVarD 8) (tConsD (tVarD 4) tNilD)))) (gNameD 12)
        (tIfSD (tAndD (tTestD (tOpD (mInt fun i j => .bl (decide (i < j))) (tUnD mLen (tVarD 12)) (tCD (.int 5)))) (tTestD (tOpD mNotN (tCallD spPO (tConsD (tVarD 12) (tConsD (tVarD 3) tNilD))) (tCD .non))))
          (tIfSD (tAndD (tTestD (tCallD spHolds (tConsD (tVarD 12) (tConsD (tVarD 10) (tConsD (tVarD 2) tNilD))))) (tNotD (tTestD (tVarD 11)))) (tRetD (tCD (.bl false))) tNextD) tNextD))
        (tIfSD (tNotD (tTestD (tCallD (fun ds M R => ∃ i, spRH i ds M R) (tConsD (tVarD 1) (tConsD (tVarD 6) (tConsD (tVarD 3) (tConsD (tVarD 10) (tConsD (tVarD 2) tNilD)))))))) (tRetD (tCD (.bl false))) tNextD)
        { nx := fun r M => ∃ M'_1, LE M'_1 M ∧ LE M4 M'_1 ∧ ∃ x9 x10 x11 x12, r = [some (.ob a), some (.ob pw), some (.int sz), some (encC c), some (encC o), some (encL (tabL L0)), some (encL e), some (.ob q4), some (encC pt), x9, x10, x11, x12], rt := (endD R).rt }
        [some (.ob a), some (.ob pw), some (.int sz), some (encC c), some (encC o), some (encL (tabL L0)), some (encL e), some (.ob q4), some (encC pt), some (.int (i : Nat)), some (.ob tb), some (.bl (holdsB F sz c)), x12] M5 := by
      intro _ x12
      refine fun pl hpl' => ⟨_, um_same, ?_⟩
      refine for_map encC [pt, o] rfl (fun pre2 post2 r M6 => LE (um M5 pl (.lst [encC pt, encC o])) M6 ∧ ∃ x12, r = [some (.ob a), some (.ob pw), some (.int sz), some (encC c), some (encC o), some (encL (tabL L0)), some (encL e), some (.ob q4), some (encC pt), some (.int (i : Nat)), some (.ob tb), some (.bl (holdsB F sz c)), x12]) ⟨LE.refl _, x12, rfl⟩ (fun _ _ _ _ _ ⟨l, _⟩ => l _ _ um_same) ?_ ?_
      · rintro pre2 d post2 r M6 e2 ⟨le6, x12, rfl⟩
        have hd : (∀ L ∈ d, LG us L) ∧ HC us d := by
          have : d ∈ [pt, o] := by rw [e2]; simp
          simp only [List.mem_cons, List.not_mem_nil, or_false] at this
          rcases this with rfl | rfl
          · exact ⟨lgp, hpHC⟩
          · exact ⟨dr.ho, hoHC⟩
        have l56 : LE M5 M6 := (le_um hpl').trans le6
        refine bI_i (fun e3 => ?_) (fun _ => ⟨_, LE.refl _, le6, _, rfl⟩)
        have h5 : d.length < 6 := by
          have := of_decide_eq_true e3
          rw [List.length_map] at this
          omega
        refine ⟨d, c, rfl, gl_cd fun L hL => (hd.1 L hL).g, gl_cd gc, gl_cz (by decide) fun L hL => (hd.1 L hL).g, h5, fun hpo xs M7 l7 => ?_, fun _ => ⟨_, LE.refl _, le6, _, rfl⟩⟩
        refine ⟨d, tb, sz, us, F, rfl, (l56.trans l7) _ _ t5, hsz, hF, hd.2.cd, hd.2.csz, Nat.le_trans hd.2.len (by decide), hd.2.vg, hd.2.names, bI_i (fun e4 => ?_) (fun _ => ⟨_, LE.refl _, le6.trans l7, _, rfl⟩)⟩
        have hv := valid_part hF hs0 (fun L hL => (hd.1 L hL).g) dr.hc hpo (holdsB_iff.mp e4)
        refine bI_i (fun e5 => ?_) (fun _ => ⟨_, LE.refl _, le6.trans l7, _, rfl⟩)
        rw [holdsB_t hv] at e5
        cases e5
      · rintro r M6 ⟨le6, x12, rfl⟩
        have l56 : LE M5 M6 := (le_um hpl').trans le6
        refine ⟨W, pw, e, c, tb, sz, us, F, rfl, ((hW4.le le).le l5).le l56, ge.l, ge.r, tkc, l56 _ _ t5, hsz, hF, hcHC, heHC, rwf hF, ?_⟩
        exact ⟨_, LE.refl _, (le.trans l5).trans l56, _, _, _, _, rfl⟩
    refine ⟨c, rfl, gl_cd gc, by omega, fun i j a b hi hj hp => ?_, ?_⟩
    · refine bI_i (fun e5 => ?_) (fun _ => parts (some (.ob tb)) x12)
      rw [holdsB_t (valid_pair hi hj hp)] at e5
      cases e5
    · exact parts (some (.ob tb)) x12
  · rintro r M' ⟨le, x9, x10, x11, x12, rfl⟩
    have lf : LE M M' := lefin.trans le
    have fin : ∀ M6, LE M' M6 → ∀ r', r' = [some (.ob a), some (.ob pw), some (.int sz), some (encC c), some (encC o), some (encL (tabL L0)), some (encL e), some (.ob q4), some (encC pt), x9, x10, x11, x12] → tRetD (tOrVD (tOpD mEq (tCallD spCleaned (tConsD (tVarD 3) tNilD)) (tVarD 3)) (tCallD (fun ds M R => ∃ W, spCG W 8 ds M R) (tConsD (tVarD 1) (tConsD (tVarD 3) (tConsD (tCallD spCleaned (tConsD (tVarD 3) tNilD)) tNilD))))) (endD R) r' M6 := by
      rintro M6 l6 r' rfl
      have lf := lf.trans l6
      refine ⟨c, rfl, gl_cd gc, by omega, flat_encC hclHC.cd, flat_encC hcHC.cd, ?_⟩
      rw [deq_encC]
      refine bI_i (fun _ => ⟨M, lf, h⟩) (fun e5 => ?_)
      have ne := of_decide_eq_false e5
      refine ⟨c, rfl, gl_cd gc, by omega, W, pw, c, cleanC c, rfl, (hW4.le le).le l6, gl_cd gc, hclHC.cd, fun L hL => ⟨by have := (gc L hL).l.size; omega, by have := (gc L hL).r.size; omega⟩, fun L hL => gl_cz (n := 900) (by decide) gc L (clean_mem L hL), by omega, by have := clean_len c; omega, ⟨M, lf, ?_⟩⟩
      rw [(cgt_clean W 8 c).resolve_left ne]
      exact h
    refine bI_i (fun e3 => ?_) (fun _ => fin M' (LE.refl _) _ rfl)
    have h5 : pt.length < 6 := by
      have := of_decide_eq_true e3
      rw [List.length_map] at this
      omega
    exact ⟨pt, c, rfl, gl_cd fun L hL => (lgp L hL).g, gl_cd gc, gl_cz (by decide) fun L hL => (lgp L hL).g, h5, fun _ xs M7 l7 => fin M7 l7 _ rfl, fun z => absurd (part_sub hsub) z⟩
end
end My
set_option maxHeartbeats 4000000
/-! J1: the chain of the promises. -/
namespace My
open PySem PySem.Spec PyProof.Rows L2
def defL : List (Str × Nat) := ([("is_variable", 1), ("occurrences", 2), ("collect", 3), ("variables", 4), ("is_atom", 5), ("symbol_weight", 7), ("term_weight", 8), ("comes_before", 10), ("head", 12), ("has_all_variables", 13), ("greater", 14), ("greater_of_equal_weight", 15), ("put", 17), ("with_side", 19), ("same_sides", 20), ("same", 21), ("index_of", 23), ("is_more", 24), ("equal_terms", 25), ("sides_of", 26), ("literal_greater", 27), ("clause_greater", 28), ("places", 30), ("at", 31), ("put_inside", 32)] : List (Str × Nat)) ++ ([("put_at", 33), ("extends", 35), ("match", 36), ("replacement", 39), ("rewritten_at", 40), ("rewrite", 41), ("is_needed", 43), ("cleaned", 44), ("pair_holds", 45), ("always_holds", 46), ("states_atoms", 48), ("match_sides", 49), ("ways", 50), ("part_from", 51), ("part_of", 52), ("_law_cell", 54), ("_law_weights", 55), ("_law_symbol", 56), ("_law_term", 57), ("_law_atom", 58), ("_law_literal", 59), ("_law_clause", 60), ("_law_sides", 61), ("_law_is_variable", 62), ("_law_variables", 63)] : List (Str × Nat)) ++ ([("_law_count", 64), ("_law_weigh", 65), ("_law_greater", 66), ("_law_literal_greater", 67), ("_law_same", 68), ("_law_clause_greater", 74), ("_law_tabled", 75), ("_law_is_individual", 76), ("_law_is_atomic", 77), ("_law_well_formed", 78), ("_law_clause_variables", 79), ("_law_uses", 80), ("_law_world_tables", 81), ("_law_value", 82), ("_law_clause_holds", 83), ("_law_clause_uses", 84), ("_law_more", 87), ("_law_part", 88), ("_law_rewriting_holds", 89), ("law", 90)] : List (Str × Nat))
section
variable {P : Program} {w : World} {K : PySem.W.Frag} {mg : Str → Option Value} {base : Heap} {T : List (Addr × Str)}
/-- what the head tells -/
structure Told (K : PySem.W.Frag) (mg : Str → Option Value) (base : Heap) (T : List (Addr × Str)) : Prop where
  defs : ∀ (i : Nat) (x : Str) (j : Nat), defL[i]? = some (x, j) → DefAt K mg x (top j)
  m_isinstance : mg "isinstance" = none
  m_len : mg "len" = none
  m_enumerate : mg "enumerate" = none
  m_tuple : mg "tuple" = none
  m_list : mg "list" = none
  m_dict : mg "dict" = none
  m_zip : mg "zip" = none
  m_range : mg "range" = none
  m_any : mg "any" = none
  m_all : mg "all" = none
  m_int : mg "int" = none
  cls : ∃ (C fI : Addr) (fd : FuncData), mg "Rewriting" = some (.ref C) ∧ Mk K C fI ∧ Cls K C ∧ (∀ f ∈ rwFs, NoAttr K C f) ∧ FunD K "__init__" "Rewriting.__init__" (defArgs initSt) (defBody initSt) (defScope initSt) [] [] fI fd
  lg : ∃ c Pt, DefAtC K mg "literal_greater" (top 27) c ∧ LamX.TabB base mg c Pt ∧ (Pt, lgQ) ∈ T ∧ ∀ p ∈ T, p.1 = Pt → p.2 = lgQ
  cg : ∃ c Pt, DefAtC K mg "clause_greater" (top 28) c ∧ LamX.TabB base mg c Pt ∧ (Pt, cgQ) ∈ T ∧ ∀ p ∈ T, p.1 = Pt → p.2 = cgQ
theorem chain_w (t : Told K mg base T) (W : Sym → Int) : Cal P w K mg base T 46 "_law_rewriting_holds" (spRH W) ∧ Cal P w K mg base T 46 "_law_clause_greater" (spCG W 8) := by
  have C_is_variable : Cal P w K mg base T 1 "is_variable" spIsVar := c_is_variable (k := 0) (t.defs 0 "is_variable" 1 rfl) (m_int := t.m_int) (m_isinstance := t.m_isinstance)
  have C_l_is_variable : Cal P w K mg base T 1 "_law_is_variable" spIsVar := c_l_is_variable (k := 0) (t.defs 48 "_law_is_variable" 62 rfl) (m_int := t.m_int) (m_isinstance := t.m_isinstance)
  have R_occurrences : ∀ n : Nat, Cal P w K mg base T (1 + n) "occurrences" (spOcc n) := fun n => by
    induction n with
    | zero => exact cal_none (t.defs 1 "occurrences" 2 rfl) ["term", "variable"] (fun _ _ _ _ _ _ us hl => match us, hl with | [_, _], _ => rfl) (fun ds M R h => by simp [spOcc] at h)
    | succ n ih => exact c_occurrences (k := 1 + n) (t.defs 1 "occurrences" 2 rfl) (C_is_variable := C_is_variable.up (by omega)) (C_occurrences := ih)
  have C_occurrences : Cal P w K mg base T 17 "occurrences" (spOcc 16) := R_occurrences 16
  have R_l_count : ∀ n : Nat, Cal P w K mg base T (1 + n) "_law_count" (spOcc n) := fun n => by
    induction n with
    | zero => exact cal_none (t.defs 50 "_law_count" 64 rfl) ["_law_term_here", "_law_variable"] (fun _ _ _ _ _ _ us hl => match us, hl with | [_, _], _ => rfl) (fun ds M R h => by simp [spOcc] at h)
    | succ n ih => exact c_l_count (k := 1 + n) (t.defs 50 "_law_count" 64 rfl) (C_l_is_variable := C_l_is_variable.up (by omega)) (C_l_count := ih)
  have C_l_count : Cal P w K mg base T 17 "_law_count" (spOcc 16) := R_l_count 16
  have R_collect : ∀ n : Nat, Cal P w K mg base T (1 + n) "collect" (spColl n) := fun n => by
    induction n with
    | zero => exact cal_none (t.defs 2 "collect" 3 rfl) ["term", "found"] (fun _ _ _ _ _ _ us hl => match us, hl with | [_, _], _ => rfl) (fun ds M R h => by simp [spColl] at h)
    | succ n ih => exact c_collect (k := 1 + n) (t.defs 2 "collect" 3 rfl) (C_is_variable := C_is_variable.up (by omega)) (C_collect := ih)
  have C_collect : Cal P w K mg base T 17 "collect" (spColl 16) := R_collect 16
  have C_variables : Cal P w K mg base T 18 "variables" (spVars 16) := c_variables (k := 17) (t.defs 3 "variables" 4 rfl) (C_collect := C_collect.up (by decide))
  have C_is_atom : Cal P w K mg base T 2 "is_atom" spIsAtom := c_is_atom (k := 1) (t.defs 4 "is_atom" 5 rfl) (C_is_variable := C_is_variable.up (by decide))
  have R_l_variables : ∀ n : Nat, Cal P w K mg base T (1 + n) "_law_variables" (spLVars n) := fun n => by
    induction n with
    | zero => exact cal_none (t.defs 49 "_law_variables" 63 rfl) ["_law_term_here", "_law_found"] (fun _ _ _ _ _ _ us hl => match us, hl with | [_, _], _ => rfl) (fun ds M R h => by simp [spLVars] at h)
    | succ n ih => exact c_l_variables (k := 1 + n) (t.defs 49 "_law_variables" 63 rfl) (C_l_is_variable := C_l_is_variable.up (by omega)) (C_l_variables := ih)
  have C_l_variables : Cal P w K mg base T 17 "_law_variables" (spLVars 16) := R_l_variables 16
  have C_same_sides : Cal P w K mg base T 1 "same_sides" spSameS := c_same_sides (k := 0) (t.defs 14 "same_sides" 20 rfl)
  have C_same : Cal P w K mg base T 2 "same" spSameL := c_same (k := 1) (t.defs 15 "same" 21 rfl) (C_same_sides := C_same_sides.up (by decide))
  have C_l_same : Cal P w K mg base T 1 "_law_same" spSameL := c_l_same (k := 0) (t.defs 54 "_law_same" 68 rfl)
  have R_extends : ∀ n : Nat, Cal P w K mg base T (1 + n) "extends" (spExt n) := fun n => by
    induction n with
    | zero => exact cal_none (t.defs 26 "extends" 35 rfl) ["pattern", "term", "found"] (fun _ _ _ _ _ _ us hl => match us, hl with | [_, _, _], _ => rfl) (fun ds M R h => by simp [spExt] at h)
    | succ n ih => exact c_extends (k := 1 + n) (t.defs 26 "extends" 35 rfl) (C_is_variable := C_is_variable.up (by omega)) (C_extends := ih) (m_len := t.m_len) (m_zip := t.m_zip)
  have C_extends : Cal P w K mg base T 17 "extends" (spExt 16) := R_extends 16
  have C_match : Cal P w K mg base T 18 "match" spMatch := c_match (k := 17) (t.defs 27 "match" 36 rfl) (C_extends := C_extends.up (by decide)) (m_dict := t.m_dict)
  have C_l_clause_variables : Cal P w K mg base T 18 "_law_clause_variables" spCV := c_l_clause_variables (k := 17) (t.defs 60 "_law_clause_variables" 79 rfl) (C_l_variables := C_l_variables.up (by decide))
  have R_l_value : ∀ n : Nat, Cal P w K mg base T (1 + n) "_law_value" (spVal n) := fun n => by
    induction n with
    | zero => exact cal_none (t.defs 63 "_law_value" 82 rfl) ["_law_term_here", "_law_tables", "_law_size", "_law_values"] (fun _ _ _ _ _ _ us hl => match us, hl with | [_, _, _, _], _ => rfl) (fun ds M R h => by simp [spVal] at h)
    | succ n ih => exact c_l_value (k := 1 + n) (t.defs 63 "_law_value" 82 rfl) (C_l_is_variable := C_l_is_variable.up (by omega)) (C_l_value := ih) (m_len := t.m_len)
  have C_l_value : Cal P w K mg base T 17 "_law_value" (spVal 16) := R_l_value 16
  have C_l_clause_holds : Cal P w K mg base T 19 "_law_clause_holds" spHolds := c_l_clause_holds (k := 18) (t.defs 64 "_law_clause_holds" 83 rfl) (C_l_clause_variables := C_l_clause_variables.up (by decide)) (C_l_value := C_l_value.up (by decide)) (m_any := t.m_any) (m_int := t.m_int) (m_range := t.m_range)
  have C_symbol_weight : Cal P w K mg base T 1 "symbol_weight" (spSymW W) := c_symbol_weight (k := 0) (t.defs 5 "symbol_weight" 7 rfl)
  have R_term_weight : ∀ n : Nat, Cal P w K mg base T (1 + n) "term_weight" (spWt W n) := fun n => by
    induction n with
    | zero => exact cal_none (t.defs 6 "term_weight" 8 rfl) ["weights", "term"] (fun _ _ _ _ _ _ us hl => match us, hl with | [_, _], _ => rfl) (fun ds M R h => by simp [spWt] at h)
    | succ n ih => exact c_term_weight (k := 1 + n) (t.defs 6 "term_weight" 8 rfl) (C_is_variable := C_is_variable.up (by omega)) (C_symbol_weight := C_symbol_weight.up (by omega)) (C_term_weight := ih)
  have C_term_weight : Cal P w K mg base T 17 "term_weight" (spWt W 16) := R_term_weight 16
  have R_l_weigh : ∀ n : Nat, Cal P w K mg base T (1 + n) "_law_weigh" (spWt W n) := fun n => by
    induction n with
    | zero => exact cal_none (t.defs 51 "_law_weigh" 65 rfl) ["_law_weights_here", "_law_term_here"] (fun _ _ _ _ _ _ us hl => match us, hl with | [_, _], _ => rfl) (fun ds M R h => by simp [spWt] at h)
    | succ n ih => exact c_l_weigh (k := 1 + n) (t.defs 51 "_law_weigh" 65 rfl) (C_l_is_variable := C_l_is_variable.up (by omega)) (C_l_weigh := ih)
  have C_l_weigh : Cal P w K mg base T 17 "_law_weigh" (spWt W 16) := R_l_weigh 16
  have C_comes_before : Cal P w K mg base T 1 "comes_before" spBefore := c_comes_before (k := 0) (t.defs 7 "comes_before" 10 rfl)
  have C_head : Cal P w K mg base T 1 "head" spHead := c_head (k := 0) (t.defs 8 "head" 12 rfl)
  have C_has_all_variables : Cal P w K mg base T 19 "has_all_variables" spHasAll := c_has_all_variables (k := 18) (t.defs 9 "has_all_variables" 13 rfl) (C_variables := C_variables.up (by decide)) (C_occurrences := C_occurrences.up (by decide))
  have R_greater : ∀ n : Nat, Cal P w K mg base T (19 + 2 * n) "greater" (spGt W n) := fun n => by
    induction n with
    | zero => exact cal_none (t.defs 10 "greater" 14 rfl) ["weights", "first", "second"] (fun _ _ _ _ _ _ us hl => match us, hl with | [_, _, _], _ => rfl) (fun ds M R h => by simp [spGt] at h)
    | succ n ih =>
      have C_goe := c_greater_of_equal_weight (k := 19 + 2 * n) (t.defs 11 "greater_of_equal_weight" 15 rfl) (C_comes_before := C_comes_before.up (by omega)) (C_head := C_head.up (by omega)) (C_greater := ih)
      exact (c_greater (k := 20 + 2 * n) (t.defs 10 "greater" 14 rfl) (C_has_all_variables := C_has_all_variables.up (by omega)) (C_is_variable := C_is_variable.up (by omega)) (C_term_weight := C_term_weight.up (by omega)) (C_greater_of_equal_weight := C_goe.up (by omega))).up (by omega)
  have C_greater : Cal P w K mg base T 35 "greater" (spGt W 8) := R_greater 8
  have R_l_greater : ∀ n : Nat, Cal P w K mg base T (17 + n) "_law_greater" (spGt W n) := fun n => by
    induction n with
    | zero => exact cal_none (t.defs 52 "_law_greater" 66 rfl) ["_law_weights_here", "_law_first", "_law_second"] (fun _ _ _ _ _ _ us hl => match us, hl with | [_, _, _], _ => rfl) (fun ds M R h => by simp [spGt] at h)
    | succ n ih => exact c_l_greater (k := 17 + n) (t.defs 52 "_law_greater" 66 rfl) (C_l_is_variable := C_l_is_variable.up (by omega)) (C_l_variables := C_l_variables.up (by omega)) (C_l_count := C_l_count.up (by omega)) (C_l_weigh := C_l_weigh.up (by omega)) (C_l_greater := ih)
  have C_l_greater : Cal P w K mg base T 25 "_law_greater" (spGt W 8) := R_l_greater 8
  have C_l_sides : Cal P w K mg base T 1 "_law_sides" (spSides sidesL) := c_l_sides (k := 0) (t.defs 47 "_law_sides" 61 rfl)
  have C_sides_of : Cal P w K mg base T 1 "sides_of" (spSides sidesP) := c_sides_of (k := 0) (t.defs 19 "sides_of" 26 rfl)
  have C_l_literal_greater : Cal P w K mg base T 26 "_law_literal_greater" (spLG W 8) := c_l_literal_greater (k := 25) (t.defs 53 "_law_literal_greater" 67 rfl) (C_l_sides := C_l_sides.up (by decide)) (C_l_greater := C_l_greater.up (by decide)) (m_any := t.m_any)
  have C_l_clause_greater : Cal P w K mg base T 27 "_law_clause_greater" (spCG W 8) := c_l_clause_greater (k := 26) (t.defs 55 "_law_clause_greater" 74 rfl) (C_l_same := C_l_same.up (by decide)) (C_l_literal_greater := C_l_literal_greater.up (by decide)) (m_any := t.m_any) (m_len := t.m_len) (m_list := t.m_list) (m_range := t.m_range)
  have R_put : ∀ n : Nat, Cal P w K mg base T (1 + n) "put" (spPut n) := fun n => by
    induction n with
    | zero => exact cal_none (t.defs 12 "put" 17 rfl) ["term", "substitution"] (fun _ _ _ _ _ _ us hl => match us, hl with | [_, _], _ => rfl) (fun ds M R h => by simp [spPut] at h)
    | succ n ih => exact c_put (k := 1 + n) (t.defs 12 "put" 17 rfl) (C_is_variable := C_is_variable.up (by omega)) (C_put := ih) (m_tuple := t.m_tuple)
  have C_put : Cal P w K mg base T 17 "put" (spPut 16) := R_put 16
  have C_with_side : Cal P w K mg base T 1 "with_side" spWSide := c_with_side (k := 0) (t.defs 13 "with_side" 19 rfl)
  have R_places : ∀ n : Nat, Cal P w K mg base T (1 + n) "places" (spPlaces n) := fun n => by
    induction n with
    | zero => exact cal_none (t.defs 22 "places" 30 rfl) ["term"] (fun _ _ _ _ _ _ us hl => match us, hl with | [_], _ => rfl) (fun ds M R h => by simp [spPlaces] at h)
    | succ n ih => exact c_places (k := 1 + n) (t.defs 22 "places" 30 rfl) (C_is_variable := C_is_variable.up (by omega)) (C_places := ih) (m_enumerate := t.m_enumerate)
  have C_places : Cal P w K mg base T 17 "places" (spPlaces 16) := R_places 16
  have C_at : Cal P w K mg base T 2 "at" spAt := c_at (k := 1) (t.defs 23 "at" 31 rfl) (C_is_variable := C_is_variable.up (by decide)) (m_len := t.m_len)
  have R_put_inside : ∀ n : Nat, Cal P w K mg base T (1 + n) "put_inside" (spPutIn n) := fun n => by
    induction n with
    | zero => exact cal_none (t.defs 24 "put_inside" 32 rfl) ["term", "place", "new"] (fun _ _ _ _ _ _ us hl => match us, hl with | [_, _, _], _ => rfl) (fun ds M R h => by simp [spPutIn] at h)
    | succ n ih => exact c_put_inside (k := 1 + n) (t.defs 24 "put_inside" 32 rfl) (C_put_inside := ih) (m_list := t.m_list) (m_tuple := t.m_tuple)
  have C_put_inside : Cal P w K mg base T 21 "put_inside" (spPutIn 20) := R_put_inside 20
  have C_put_at : Cal P w K mg base T 22 "put_at" spPutAt := c_put_at (k := 21) (t.defs 25 "put_at" 33 rfl) (C_at := C_at.up (by decide)) (C_put_inside := C_put_inside.up (by decide))
  have C_equal_terms : Cal P w K mg base T 1 "equal_terms" (spEq GT1 GT2) := c_equal_terms (k := 0) (t.defs 18 "equal_terms" 25 rfl)
  obtain ⟨fe, m_et, A_et⟩ := C_equal_terms.glob
  obtain ⟨fs, m_sm, A_sm⟩ := C_same.glob
  have C_idx1 : Cal P w K mg base T 36 "index_of" (spIdx fe GT1 GT2) := c_index_of (k := 35) (t.defs 16 "index_of" 23 rfl) (C_equal := A_et.up (by decide)) (m_enumerate := t.m_enumerate)
  have C_idx2 : Cal P w K mg base T 39 "index_of" (spIdx fs GC1 GC2) := c_index_of (k := 38) (t.defs 16 "index_of" 23 rfl) (C_equal := (A_sm.weak fun ds M R h => spSame_eq h).up (by decide)) (m_enumerate := t.m_enumerate)
  have C_im1 : Cal P w K mg base T 37 "is_more" (spIM base W fe GT1 GT2 lgQ (lamPs lgE) (lamBd lgE) (lamSc lgE)) := c_is_more_lg (k := 36) (j := 35) (t.defs 17 "is_more" 24 rfl) rfl (C_greater.weak fun ds M R h => spGt_big h) C_idx1 t.m_list
  obtain ⟨c1, P1, D1, TB1, hm1, hu1⟩ := t.lg
  obtain ⟨c2, P2, D2, TB2, hm2, hu2⟩ := t.cg
  have C_lg : Cal P w K mg base T 38 "literal_greater" (spBig W GC1 GC2) := c_literal_greater (k := 37) D1 TB1 hm1 hu1 m_et (C_sides_of.up (by decide)) C_im1
  have C_im2 : Cal P w K mg base T 40 "is_more" (spIM base W fs GC1 GC2 cgQ (lamPs cgE) (lamBd cgE) (lamSc cgE)) := c_is_more_cg (k := 39) (j := 38) (t.defs 17 "is_more" 24 rfl) rfl C_lg C_idx2 t.m_list
  have C_clause_greater : Cal P w K mg base T 41 "clause_greater" (spAnyCG W) := c_clause_greater (k := 40) D2 TB2 hm2 hu2 m_sm t.m_list C_im2
  have C_replacement : Cal P w K mg base T 42 "replacement" (spRepl W) := c_replacement (k := 41) (t.defs 28 "replacement" 39 rfl) (C_is_atom := C_is_atom.up (by decide)) (C_match := C_match.up (by decide)) (C_put := C_put.up (by decide)) (C_greater := C_greater.up (by decide)) (C_clause_greater := C_clause_greater.up (by decide))
  obtain ⟨C, fI, fdI, mC, Mm, cC, na, FI⟩ := t.cls
  have CI : CalA P w K mg base T 41 fI (spInit C) := c_init (k := 40) FI cC na
  have C_rewritten_at : Cal P w K mg base T 43 "rewritten_at" (spRA C W) := c_rewritten_at (k := 42) (t.defs 29 "rewritten_at" 40 rfl) (hk := (rfl : 42 = 41 + 1)) (Mm := Mm) (CI := CI) (mC := mC) (C_places := C_places.up (by decide)) (C_replacement := C_replacement.up (by decide)) (C_with_side := C_with_side.up (by decide)) (C_put_at := C_put_at.up (by decide))
  have C_rewrite : Cal P w K mg base T 44 "rewrite" (spRw C W) := c_rewrite (k := 43) (t.defs 30 "rewrite" 41 rfl) (C_rewritten_at := C_rewritten_at.up (by decide)) (m_len := t.m_len) (m_range := t.m_range)
  have C_l_rewriting_holds : Cal P w K mg base T 45 "_law_rewriting_holds" (spRH W) := c_l_rewriting_holds (k := 44) (t.defs 68 "_law_rewriting_holds" 89 rfl) (cC := cC) (na := na "clause" (by decide)) (C_rewrite := C_rewrite.up (by decide)) (C_l_clause_greater := C_l_clause_greater.up (by decide)) (C_l_clause_holds := C_l_clause_holds.up (by decide))
  exact ⟨C_l_rewriting_holds.up (by decide), C_l_clause_greater.up (by decide)⟩
theorem law_chain (t : Told K mg base T) {f : Addr} {fd : FuncData} (F : FunD K "law" "law" (defArgs (top 90)) (defBody (top 90)) (defScope (top 90)) [] [] f fd) : FnOk P w K mg base CX0 47 f fd ["_law_script"] (lfSp P w K T (spLaw K)) := by
  have C_is_variable : Cal P w K mg base T 1 "is_variable" spIsVar := c_is_variable (k := 0) (t.defs 0 "is_variable" 1 rfl) (m_int := t.m_int) (m_isinstance := t.m_isinstance)
  have C_l_is_variable : Cal P w K mg base T 1 "_law_is_variable" spIsVar := c_l_is_variable (k := 0) (t.defs 48 "_law_is_variable" 62 rfl) (m_int := t.m_int) (m_isinstance := t.m_isinstance)
  have R_occurrences : ∀ n : Nat, Cal P w K mg base T (1 + n) "occurrences" (spOcc n) := fun n => by
    induction n with
    | zero => exact cal_none (t.defs 1 "occurrences" 2 rfl) ["term", "variable"] (fun _ _ _ _ _ _ us hl => match us, hl with | [_, _], _ => rfl) (fun ds M R h => by simp [spOcc] at h)
    | succ n ih => exact c_occurrences (k := 1 + n) (t.defs 1 "occurrences" 2 rfl) (C_is_variable := C_is_variable.up (by omega)) (C_occurrences := ih)
  have C_occurrences : Cal P w K mg base T 17 "occurrences" (spOcc 16) := R_occurrences 16
  have R_l_count : ∀ n : Nat, Cal P w K mg base T (1 + n) "_law_count" (spOcc n) := fun n => by
    induction n with
    | zero => exact cal_none (t.defs 50 "_law_count" 64 rfl) ["_law_term_here", "_law_variable"] (fun _ _ _ _ _ _ us hl => match us, hl with | [_, _], _ => rfl) (fun ds M R h => by simp [spOcc] at h)
    | succ n ih => exact c_l_count (k := 1 + n) (t.defs 50 "_law_count" 64 rfl) (C_l_is_variable := C_l_is_variable.up (by omega)) (C_l_count := ih)
  have C_l_count : Cal P w K mg base T 17 "_law_count" (spOcc 16) := R_l_count 16
  have R_collect : ∀ n : Nat, Cal P w K mg base T (1 + n) "collect" (spColl n) := fun n => by
    induction n with
    | zero => exact cal_none (t.defs 2 "collect" 3 rfl) ["term", "found"] (fun _ _ _ _ _ _ us hl => match us, hl with | [_, _], _ => rfl) (fun ds M R h => by simp [spColl] at h)
    | succ n ih => exact c_collect (k := 1 + n) (t.defs 2 "collect" 3 rfl) (C_is_variable := C_is_variable.up (by omega)) (C_collect := ih)
  have C_collect : Cal P w K mg base T 17 "collect" (spColl 16) := R_collect 16
  have C_variables : Cal P w K mg base T 18 "variables" (spVars 16) := c_variables (k := 17) (t.defs 3 "variables" 4 rfl) (C_collect := C_collect.up (by decide))
  have C_is_atom : Cal P w K mg base T 2 "is_atom" spIsAtom := c_is_atom (k := 1) (t.defs 4 "is_atom" 5 rfl) (C_is_variable := C_is_variable.up (by decide))
  have R_l_variables : ∀ n : Nat, Cal P w K mg base T (1 + n) "_law_variables" (spLVars n) := fun n => by
    induction n with
    | zero => exact cal_none (t.defs 49 "_law_variables" 63 rfl) ["_law_term_here", "_law_found"] (fun _ _ _ _ _ _ us hl => match us, hl with | [_, _], _ => rfl) (fun ds M R h => by simp [spLVars] at h)
    | succ n ih => exact c_l_variables (k := 1 + n) (t.defs 49 "_law_variables" 63 rfl) (C_l_is_variable := C_l_is_variable.up (by omega)) (C_l_variables := ih)
  have C_l_variables : Cal P w K mg base T 17 "_law_variables" (spLVars 16) := R_l_variables 16
  have C_same_sides : Cal P w K mg base T 1 "same_sides" spSameS := c_same_sides (k := 0) (t.defs 14 "same_sides" 20 rfl)
  have C_same : Cal P w K mg base T 2 "same" spSameL := c_same (k := 1) (t.defs 15 "same" 21 rfl) (C_same_sides := C_same_sides.up (by decide))
  have C_l_same : Cal P w K mg base T 1 "_law_same" spSameL := c_l_same (k := 0) (t.defs 54 "_law_same" 68 rfl)
  have R_extends : ∀ n : Nat, Cal P w K mg base T (1 + n) "extends" (spExt n) := fun n => by
    induction n with
    | zero => exact cal_none (t.defs 26 "extends" 35 rfl) ["pattern", "term", "found"] (fun _ _ _ _ _ _ us hl => match us, hl with | [_, _, _], _ => rfl) (fun ds M R h => by simp [spExt] at h)
    | succ n ih => exact c_extends (k := 1 + n) (t.defs 26 "extends" 35 rfl) (C_is_variable := C_is_variable.up (by omega)) (C_extends := ih) (m_len := t.m_len) (m_zip := t.m_zip)
  have C_extends : Cal P w K mg base T 17 "extends" (spExt 16) := R_extends 16
  have C_match : Cal P w K mg base T 18 "match" spMatch := c_match (k := 17) (t.defs 27 "match" 36 rfl) (C_extends := C_extends.up (by decide)) (m_dict := t.m_dict)
  have C_l_clause_variables : Cal P w K mg base T 18 "_law_clause_variables" spCV := c_l_clause_variables (k := 17) (t.defs 60 "_law_clause_variables" 79 rfl) (C_l_variables := C_l_variables.up (by decide))
  have R_l_value : ∀ n : Nat, Cal P w K mg base T (1 + n) "_law_value" (spVal n) := fun n => by
    induction n with
    | zero => exact cal_none (t.defs 63 "_law_value" 82 rfl) ["_law_term_here", "_law_tables", "_law_size", "_law_values"] (fun _ _ _ _ _ _ us hl => match us, hl with | [_, _, _, _], _ => rfl) (fun ds M R h => by simp [spVal] at h)
    | succ n ih => exact c_l_value (k := 1 + n) (t.defs 63 "_law_value" 82 rfl) (C_l_is_variable := C_l_is_variable.up (by omega)) (C_l_value := ih) (m_len := t.m_len)
  have C_l_value : Cal P w K mg base T 17 "_law_value" (spVal 16) := R_l_value 16
  have C_l_clause_holds : Cal P w K mg base T 19 "_law_clause_holds" spHolds := c_l_clause_holds (k := 18) (t.defs 64 "_law_clause_holds" 83 rfl) (C_l_clause_variables := C_l_clause_variables.up (by decide)) (C_l_value := C_l_value.up (by decide)) (m_any := t.m_any) (m_int := t.m_int) (m_range := t.m_range)
  have C_l_cell : Cal P w K mg base T 1 "_law_cell" (spCell K) := c_l_cell (k := 0) (t.defs 40 "_law_cell" 54 rfl) (m_len := t.m_len) (m_int := t.m_int)
  have C_l_weights : Cal P w K mg base T 1 "_law_weights" spWts := c_l_weights (k := 0) (t.defs 41 "_law_weights" 55 rfl) (m_int := t.m_int)
  have C_l_symbol : Cal P w K mg base T 1 "_law_symbol" spSym := c_l_symbol (k := 0) (t.defs 42 "_law_symbol" 56 rfl) (m_int := t.m_int)
  have R_l_term : ∀ n : Nat, Cal P w K mg base T (1 + n) "_law_term" (spTerm n) := fun n => by
    induction n with
    | zero => exact cal_none (t.defs 43 "_law_term" 57 rfl) ["_law_row", "_law_deep"] (fun _ _ _ _ _ _ us hl => match us, hl with | [_, _], _ => rfl) (fun ds M R h => by simp [spTerm] at h)
    | succ n ih => exact c_l_term (k := 1 + n) (t.defs 43 "_law_term" 57 rfl) (C_l_symbol := C_l_symbol.up (by omega)) (C_l_term := ih) (m_int := t.m_int) (m_range := t.m_range) (m_tuple := t.m_tuple)
  have C_l_term : Cal P w K mg base T 3 "_law_term" (spTerm 2) := R_l_term 2
  have C_l_atom : Cal P w K mg base T 4 "_law_atom" spAtom := c_l_atom (k := 3) (t.defs 44 "_law_atom" 58 rfl) (C_l_term := C_l_term.up (by decide)) (m_int := t.m_int) (m_range := t.m_range) (m_tuple := t.m_tuple)
  have C_l_literal : Cal P w K mg base T 5 "_law_literal" spLit := c_l_literal (k := 4) (t.defs 45 "_law_literal" 59 rfl) (C_l_atom := C_l_atom.up (by decide)) (C_l_term := C_l_term.up (by decide)) (m_int := t.m_int)
  have C_l_clause : Cal P w K mg base T 6 "_law_clause" spClause := c_l_clause (k := 5) (t.defs 46 "_law_clause" 60 rfl) (C_l_literal := C_l_literal.up (by decide)) (m_int := t.m_int) (m_len := t.m_len) (m_range := t.m_range) (m_tuple := t.m_tuple)
  have C_l_tabled : Cal P w K mg base T 2 "_law_tabled" spTab := c_l_tabled (k := 1) (t.defs 56 "_law_tabled" 75 rfl) (C_l_is_variable := C_l_is_variable.up (by decide))
  have R_l_is_individual : ∀ n : Nat, Cal P w K mg base T (1 + n) "_law_is_individual" (spInd n) := fun n => by
    induction n with
    | zero => exact cal_none (t.defs 57 "_law_is_individual" 76 rfl) ["_law_term_here"] (fun _ _ _ _ _ _ us hl => match us, hl with | [_], _ => rfl) (fun ds M R h => by simp [spInd] at h)
    | succ n ih => exact c_l_is_individual (k := 1 + n) (t.defs 57 "_law_is_individual" 76 rfl) (C_l_is_variable := C_l_is_variable.up (by omega)) (C_l_is_individual := ih) (m_all := t.m_all)
  have C_l_is_individual : Cal P w K mg base T 17 "_law_is_individual" (spInd 16) := R_l_is_individual 16
  have C_l_is_atomic : Cal P w K mg base T 18 "_law_is_atomic" spAtm := c_l_is_atomic (k := 17) (t.defs 58 "_law_is_atomic" 77 rfl) (C_l_is_variable := C_l_is_variable.up (by decide)) (C_l_is_individual := C_l_is_individual.up (by decide)) (m_all := t.m_all)
  have C_l_well_formed : Cal P w K mg base T 19 "_law_well_formed" spWF := c_l_well_formed (k := 18) (t.defs 59 "_law_well_formed" 78 rfl) (C_l_tabled := C_l_tabled.up (by decide)) (C_l_is_individual := C_l_is_individual.up (by decide)) (C_l_is_atomic := C_l_is_atomic.up (by decide)) (m_tuple := t.m_tuple)
  have C_l_more : Cal P w K mg base T 18 "_law_more" spMore := c_l_more (k := 17) (t.defs 66 "_law_more" 87 rfl) (C_l_is_individual := C_l_is_individual.up (by decide)) (m_int := t.m_int) (m_len := t.m_len) (m_list := t.m_list) (m_range := t.m_range) (m_tuple := t.m_tuple)
  have C_l_part : Cal P w K mg base T 1 "_law_part" spPart := c_l_part (k := 0) (t.defs 67 "_law_part" 88 rfl) (m_int := t.m_int) (m_tuple := t.m_tuple)
  have R_l_uses : ∀ n : Nat, Cal P w K mg base T (1 + n) "_law_uses" (spUses n) := fun n => by
    induction n with
    | zero => exact cal_none (t.defs 61 "_law_uses" 80 rfl) ["_law_term_here", "_law_found"] (fun _ _ _ _ _ _ us hl => match us, hl with | [_, _], _ => rfl) (fun ds M R h => by simp [spUses] at h)
    | succ n ih => exact c_l_uses (k := 1 + n) (t.defs 61 "_law_uses" 80 rfl) (C_l_is_variable := C_l_is_variable.up (by omega)) (C_l_uses := ih) (m_len := t.m_len)
  have C_l_uses : Cal P w K mg base T 17 "_law_uses" (spUses 16) := R_l_uses 16
  have C_l_clause_uses : Cal P w K mg base T 18 "_law_clause_uses" spCU := c_l_clause_uses (k := 17) (t.defs 65 "_law_clause_uses" 84 rfl) (C_l_uses := C_l_uses.up (by decide))
  have C_l_world_tables : Cal P w K mg base T 1 "_law_world_tables" spWT := c_l_world_tables (k := 0) (t.defs 62 "_law_world_tables" 81 rfl) (m_int := t.m_int) (m_range := t.m_range) (m_tuple := t.m_tuple)
  have C_is_needed : Cal P w K mg base T 3 "is_needed" spNeeded := c_is_needed (k := 2) (t.defs 31 "is_needed" 43 rfl) (C_same := C_same.up (by decide))
  have C_cleaned : Cal P w K mg base T 4 "cleaned" spCleaned := c_cleaned (k := 3) (t.defs 32 "cleaned" 44 rfl) (C_is_needed := C_is_needed.up (by decide)) (m_enumerate := t.m_enumerate) (m_tuple := t.m_tuple)
  have C_pair_holds : Cal P w K mg base T 2 "pair_holds" spPair := c_pair_holds (k := 1) (t.defs 33 "pair_holds" 45 rfl) (C_same_sides := C_same_sides.up (by decide))
  have C_always_holds : Cal P w K mg base T 3 "always_holds" spAlways := c_always_holds (k := 2) (t.defs 34 "always_holds" 46 rfl) (C_pair_holds := C_pair_holds.up (by decide)) (m_len := t.m_len) (m_range := t.m_range)
  have C_states_atoms : Cal P w K mg base T 3 "states_atoms" spStA := c_states_atoms (k := 2) (t.defs 35 "states_atoms" 48 rfl) (C_is_atom := C_is_atom.up (by decide))
  have C_match_sides : Cal P w K mg base T 19 "match_sides" spMS := c_match_sides (k := 18) (t.defs 36 "match_sides" 49 rfl) (C_match := C_match.up (by decide))
  have C_ways : Cal P w K mg base T 20 "ways" spWays := c_ways (k := 19) (t.defs 37 "ways" 50 rfl) (C_states_atoms := C_states_atoms.up (by decide)) (C_match_sides := C_match_sides.up (by decide))
  have R_part_from : ∀ n : Nat, Cal P w K mg base T (20 + n) "part_from" (spPF n) := fun n => by
    induction n with
    | zero => exact cal_none (t.defs 38 "part_from" 51 rfl) ["c", "d", "used", "told"] (fun _ _ _ _ _ _ us hl => match us, hl with | [_, _, _, _], _ => rfl) (fun ds M R h => by simp [spPF] at h)
    | succ n ih => exact c_part_from (k := 20 + n) (t.defs 38 "part_from" 51 rfl) (C_ways := C_ways.up (by omega)) (C_part_from := ih) (m_enumerate := t.m_enumerate) (m_len := t.m_len)
  have C_part_from : Cal P w K mg base T 26 "part_from" (spPF 6) := R_part_from 6
  have C_part_of : Cal P w K mg base T 27 "part_of" spPO := c_part_of (k := 26) (t.defs 39 "part_of" 52 rfl) (C_part_from := C_part_from.up (by decide)) (m_len := t.m_len)
  exact c_lawF (k := 46) F (C_l_rewriting_holds := fun W => (chain_w t W).1) (C_l_clause_greater := fun W => (chain_w t W).2) (C_l_weights := C_l_weights.up (by decide)) (C_l_cell := C_l_cell.up (by decide)) (C_l_more := C_l_more.up (by decide)) (C_l_well_formed := C_l_well_formed.up (by decide)) (C_l_clause := C_l_clause.up (by decide)) (C_l_tabled := C_l_tabled.up (by decide)) (C_l_literal := C_l_literal.up (by decide)) (C_l_clause_uses := C_l_clause_uses.up (by decide)) (C_l_part := C_l_part.up (by decide)) (C_l_world_tables := C_l_world_tables.up (by decide)) (C_l_clause_holds := C_l_clause_holds.up (by decide)) (C_cleaned := C_cleaned.up (by decide)) (C_always_holds := C_always_holds.up (by decide)) (C_part_of := C_part_of.up (by decide)) (m_len := t.m_len) (m_range := t.m_range)
end
end My
set_option maxHeartbeats 0
/-! H1: from the head's facts to the law's promise. -/
namespace My
open PySem PySem.Spec PyProof.Rows L2
abbrev gd (p : Str × Nat) : He.DefD := { at_ := (p.1, none), name := p.1, qual := p.1, params := defArgs (top p.2), body := defBody (top p.2), scope := defScope (top p.2) }
abbrev initD : He.DefD := { at_ := ("Rewriting", some "__init__"), name := "__init__", qual := "Rewriting.__init__", params := defArgs initSt, body := defBody initSt, scope := defScope initSt }
def fn : List He.DefD := defL.map gd ++ [initD]
def faB : List He.Fa := [.free "isinstance", .free "len", .free "enumerate", .free "tuple", .free "list", .free "dict", .free "zip", .free "range", .free "any", .free "all", .free "int", .glo "Rewriting", .cls "Rewriting", .mkr "Rewriting", .meth "Rewriting" "__init__"]
def fa : List He.Fa := defL.map (fun p => .glo p.1) ++ faB ++ rwFs.map fun f => .noat "Rewriting" f
def tf : List He.Defn := [("literal_greater", none), ("clause_greater", none)]
def exT (K : PySem.W.Frag) : Bool := decide ((He.cT K ("literal_greater", none)).2 ≠ (He.cT K ("clause_greater", none)).2)
theorem code_of {K : PySem.W.Frag} {x q : Str} {pr : Arguments} {b : List Stmt} {s : Scope} {fd : FuncData} (F : FunD K x q pr b s [] [] (He.fAd K (x, none)) fd) : fd.code = .ref (He.codeOf K (x, none)) := by
  obtain ⟨oc, od, dV, kV, doc, pm, an, cdv, ct, osl, rfl, lk, hcd, _, _⟩ := F.ex
  obtain ⟨c, rfl⟩ := He.codeIn_ref hcd
  rw [He.codeOf_eq lk rfl]
theorem fa_b {f : He.Fa} (h : f ∈ faB) : f ∈ fa := List.mem_append_left _ (List.mem_append_right _ h)
theorem law_at {l : PySem.W.OpenLaw} {w : World} {h : Heap} {K : PySem.W.Frag} {mg : Str → Option Value} {fL : Addr} (KX : K.In h) (c : He.SaysX fa fn [] tf exT w h K) (G : h.Ns mainGlobals mg) (hmg : mg "law" = some (.ref fL)) :
    LamX.LawAtS l w K L2.CX0 47 63 "_law_script" mg fL h := by
  have cd := c.t.d
  have glo : ∀ (x : Str) (j : Nat), (x, j) ∈ defL → mg x = some (.ref (He.ga K x)) := fun x j hx => He.glo_ok KX G (cd.facts (f := .glo x) (List.mem_append_left _ (List.mem_append_left _ (List.mem_map.mpr ⟨(x, j), hx, rfl⟩))))
  have fun_ : ∀ (x : Str) (j : Nat), (x, j) ∈ defL → ∃ fd, FunD K x x (defArgs (top j)) (defBody (top j)) (defScope (top j)) [] [] (He.fAd K (x, none)) fd := fun x j hx => cd.defs (d := gd (x, j)) (List.mem_append_left _ (List.mem_map.mpr ⟨(x, j), hx, rfl⟩))
  have free : ∀ x, He.Fa.free x ∈ faB → mg x = none := fun x hx => He.free_ok KX G (cd.facts (fa_b hx))
  have iL : (("law" : Str), 90) ∈ defL := List.mem_of_getElem? (i := 69) rfl
  have iG : (("literal_greater" : Str), 27) ∈ defL := List.mem_of_getElem? (i := 20) rfl
  have iC : (("clause_greater" : Str), 28) ∈ defL := List.mem_of_getElem? (i := 21) rfl
  obtain ⟨fdL, FL⟩ := fun_ "law" 90 iL
  obtain ⟨fdG, FG⟩ := fun_ "literal_greater" 27 iG
  obtain ⟨fdC, FC⟩ := fun_ "clause_greater" 28 iC
  have eL : fL = He.ga K "law" := by
    have := glo "law" 90 iL
    rw [hmg] at this
    cases this; rfl
  have ne : (He.cT K ("literal_greater", none)).2 ≠ (He.cT K ("clause_greater", none)).2 := of_decide_eq_true c.more
  have t1 : (("literal_greater" : Str), (none : Option Str)) ∈ tf := List.mem_cons_self
  have t2 : (("clause_greater" : Str), (none : Option Str)) ∈ tf := List.mem_cons_of_mem _ List.mem_cons_self
  have hmem : ∀ p ∈ [He.cT K ("literal_greater", none), He.cT K ("clause_greater", none)], ∃ q ∈ tf, p = He.cT K q := fun p hp => by
    rcases List.mem_cons.mp hp with e | hp
    · exact ⟨_, t1, e⟩
    · rw [List.mem_singleton] at hp; exact ⟨_, t2, hp⟩
  refine ⟨fdL, [He.cT K ("literal_greater", none), He.cT K ("clause_greater", none)], lfSp l.prog w K [((He.cT K ("literal_greater", none)).2, lgQ), ((He.cT K ("clause_greater", none)).2, cgQ)] (spLaw K), fun p hp => ?_, fun p hp => ?_, fun p hp => ?_, fun s u => ?_, fun H a ns _ _ hT hS => ?_, fun base KB GB TB => ?_⟩
  · obtain ⟨q, hq, rfl⟩ := hmem p hp; exact c.empty q hq
  · obtain ⟨q, hq, rfl⟩ := hmem p hp; exact c.out q hq
  · obtain ⟨q, hq, rfl⟩ := hmem p hp; exact PySem.W.codeHd_of_K KX (c.hd q hq)
  · exact FL.bindsA (ps := ["_law_script"]) (fun _ _ _ _ _ _ us hl => match us, hl with | [_], _ => rfl) s [u] rfl
  · have tabs : LamX.Tabs [((He.cT K ("literal_greater", none)).2, lgQ), ((He.cT K ("clause_greater", none)).2, cgQ)] H := fun p hp => by
      rcases List.mem_cons.mp hp with e | hp
      · rw [e]; exact LamX.TabS.nil (hT _ List.mem_cons_self)
      · rw [List.mem_singleton] at hp
        rw [hp]; exact LamX.TabS.nil (hT _ (List.mem_cons_of_mem _ List.mem_cons_self))
    have fin : ∀ M : Mp, RM l.prog w K _ M H → Scr K M a ns → lfSp l.prog w K [((He.cT K ("literal_greater", none)).2, lgQ), ((He.cT K ("clause_greater", none)).2, cgQ)] (spLaw K) [.ref a] H (fun v _ => v = .bl true) fun _ _ _ => False := fun M m s =>
      ⟨[.ob a], M, fun d _ => d = .bl true, .cons rfl .nil, m, ⟨a, ns, rfl, s, rfl⟩, fun d v M' H' _ rv _ e => by rw [e] at rv; exact rv⟩
    rcases hS with (hS | ⟨o, hS⟩) | hS
    · refine fin (fun b => if b = a then some (.lst (ns.map D.int)) else none) ⟨fun b o e => ?_, tabs⟩ (.inl (if_pos rfl))
      by_cases z : b = a
      · rw [if_pos z] at e; cases e; rw [z]; exact ⟨_, hS, RDs.of_ints⟩
      · rw [if_neg z] at e; cases e
    · refine fin (fun b => if b = a then some (.ro ns) else none) ⟨fun b o' e => ?_, tabs⟩ (.inr (.inl (if_pos rfl)))
      by_cases z : b = a
      · rw [if_pos z] at e; cases e; rw [z]; exact ⟨o, hS⟩
      · rw [if_neg z] at e; cases e
    · exact fin (fun _ => none) ⟨(fun b o e => by cases e), tabs⟩ (.inr (.inr fun H' => .inr hS))
  · have told : Told K mg base [((He.cT K ("literal_greater", none)).2, lgQ), ((He.cT K ("clause_greater", none)).2, cgQ)] := by
      refine ⟨fun i x j hi => ?_, free "isinstance" (List.mem_of_getElem? (i := 0) rfl), free "len" (List.mem_of_getElem? (i := 1) rfl), free "enumerate" (List.mem_of_getElem? (i := 2) rfl), free "tuple" (List.mem_of_getElem? (i := 3) rfl), free "list" (List.mem_of_getElem? (i := 4) rfl), free "dict" (List.mem_of_getElem? (i := 5) rfl), free "zip" (List.mem_of_getElem? (i := 6) rfl), free "range" (List.mem_of_getElem? (i := 7) rfl), free "any" (List.mem_of_getElem? (i := 8) rfl), free "all" (List.mem_of_getElem? (i := 9) rfl), free "int" (List.mem_of_getElem? (i := 10) rfl), ?cls, ?lg, ?cg⟩
      · have hx := List.mem_of_getElem? hi
        obtain ⟨fd, F⟩ := fun_ x j hx
        exact ⟨_, fd, F, glo x j hx⟩
      case cls =>
        obtain ⟨fdI, FI⟩ := cd.defs (d := initD) (List.mem_append_right _ List.mem_cons_self)
        exact ⟨He.ga K "Rewriting", He.ma K (He.ga K "Rewriting") "__init__", fdI, He.glo_ok KX G (cd.facts (f := .glo "Rewriting") (fa_b (List.mem_of_getElem? (i := 11) rfl))), He.mkr_ok (cd.facts (f := .mkr "Rewriting") (fa_b (List.mem_of_getElem? (i := 13) rfl))), He.cls_ok (cd.facts (f := .cls "Rewriting") (fa_b (List.mem_of_getElem? (i := 12) rfl))),
          fun f hf => He.noat_ok (cd.facts (f := .noat "Rewriting" f) (List.mem_append_right _ (List.mem_map.mpr ⟨f, hf, rfl⟩))), FI⟩
      case lg =>
        refine ⟨(He.cT K ("literal_greater", none)).1, (He.cT K ("literal_greater", none)).2, ⟨_, fdG, FG, glo _ _ iG, code_of FG⟩, TB _ List.mem_cons_self, List.mem_cons_self, fun p hp e => ?_⟩
        rcases List.mem_cons.mp hp with z | hp
        · rw [z]
        · rw [List.mem_singleton] at hp
          rw [hp] at e; exact absurd e.symm ne
      case cg =>
        refine ⟨(He.cT K ("clause_greater", none)).1, (He.cT K ("clause_greater", none)).2, ⟨_, fdC, FC, glo _ _ iC, code_of FC⟩, TB _ (List.mem_cons_of_mem _ List.mem_cons_self), List.mem_cons_of_mem _ List.mem_cons_self, fun p hp e => ?_⟩
        rcases List.mem_cons.mp hp with z | hp
        · rw [z] at e; exact absurd e ne
        · rw [List.mem_singleton] at hp; rw [hp]
    rw [eL]
    exact law_chain told FL
end My
set_option maxHeartbeats 0
/-! H2: the head. -/
namespace My
open PySem PySem.Spec PyProof.Rows L2
def loose : List PySem.Str := (["is_variable", "occurrences", "collect", "variables", "is_atom", "symbol_weight", "term_weight", "comes_before", "head", "has_all_variables", "greater", "greater_of_equal_weight", "put", "with_side", "same_sides", "same", "index_of", "is_more", "equal_terms", "sides_of", "literal_greater", "clause_greater", "places", "at", "put_inside", "put_at", "extends", "match", "replacement", "rewritten_at"] : List PySem.Str) ++ (["rewrite", "is_needed", "cleaned", "pair_holds", "always_holds", "states_atoms", "match_sides", "ways", "part_from", "part_of", "_law_cell", "_law_weights", "_law_symbol", "_law_term", "_law_atom", "_law_literal", "_law_clause", "_law_sides", "_law_is_variable", "_law_variables", "_law_count", "_law_weigh", "_law_greater", "_law_literal_greater", "_law_same", "_law_positive_clause", "_law_selected", "_law_is_top", "_law_is_alone", "_law_leads"] : List PySem.Str) ++ (["_law_clause_greater", "_law_tabled", "_law_is_individual", "_law_is_atomic", "_law_well_formed", "_law_clause_variables", "_law_uses", "_law_world_tables", "_law_value", "_law_clause_holds", "_law_clause_uses", "_law_put", "_law_put_clause", "_law_more", "_law_part", "_law_rewriting_holds", "Rewriting"] : List PySem.Str)
abbrev R : PySem.W.OpenRow := PySem.W.OpenLaw.row PySem.Challenge.rw_lastproof_k44_whole_simplifications_keep
def spots : List Addr := ([3, 6, 4, 21, 28, 35, 42, 49, 56, 63, 70, 77, 84, 91, 98, 103, 110, 117, 124, 131, 136, 143, 150, 157, 164, 171, 178, 185, 192, 199, 206, 223, 234, 241, 248] : List Addr) ++ ([255, 260, 267, 274, 281, 288, 293, 300, 307, 314, 321, 328, 335, 342, 349, 356, 363, 370, 377, 384, 391, 398, 403, 410, 415, 420, 425, 430, 437, 442, 449, 454, 459, 466, 473] : List Addr) ++ ([480, 487, 494, 501, 508, 513, 518, 525, 532, 539, 546, 0, 20, 27, 34, 41, 48, 55, 62, 69, 76, 83, 90, 97, 102, 109, 116, 123, 130, 135, 142, 149, 156, 163, 170] : List Addr) ++ ([177, 184, 191, 198, 205, 222, 233, 240, 247, 254, 259, 266, 273, 280, 287, 292, 299, 306, 313, 320, 327, 334, 341, 348, 355, 362, 369, 376, 383, 390, 397, 402, 409, 414, 419] : List Addr) ++ ([424, 429, 436, 441, 448, 453, 458, 465, 472, 479, 486, 493, 500, 507, 512, 517, 524, 531, 538, 545, 220, 221, 224, 225, 228, 229, 230, 231, 232, 219] : List Addr)
/-- what is looked at: the objects at the spots alone -/
def lookAt (g : Addr → Option Obj) : He.AlX := (He.obsT fa fn [] (He.frT g spots), exT (He.frT g spots) && He.tabsB g tf (He.frT g spots))
theorem told {w : World} {h : Heap} (e : lookAt h.get? = He.valX fn [] w) : He.SaysX fa fn [] tf exT w h (He.frT h.get? spots) := by
  have eL := (Prod.ext_iff.mp e).1
  have eR : (exT (He.frT h.get? spots) && He.tabsB h.get? tf (He.frT h.get? spots)) = true := (Prod.ext_iff.mp e).2
  rw [Bool.and_eq_true] at eR
  have each : ∀ p ∈ tf, PySem.W.codeHdIn (He.frT h.get? spots) (He.cT (He.frT h.get? spots) p).1 (He.cT (He.frT h.get? spots) p).2 = true ∧ ∃ x, h.get? (He.cT (He.frT h.get? spots) p).2 = some x ∧ He.emptyTab x = true := by
    intro p hp
    have hq := List.all_eq_true.mp eR.2 p hp
    rw [Bool.and_eq_true] at hq
    refine ⟨hq.1, ?_⟩
    have h2 := hq.2
    split at h2
    · next x ex => exact ⟨x, ex, h2⟩
    · cases h2
  constructor
  · exact eL
  · exact eR.1
  · intro p hp; exact (each p hp).1
  · intro p hp; obtain ⟨_, x, e1, e2⟩ := each p hp; exact He.frT_none e1 e2
  · intro p hp; obtain ⟨_, x, e1, e2⟩ := each p hp; rw [e1, He.emptyTab_eq e2]
def hk : PySem.W.Hook where
  α := He.AlX
  obs := fun z => lookAt z.heap.get?
  val := fun w => He.valX fn [] w
  says := fun w h => ∃ K : PySem.W.Frag, K.In h ∧ He.SaysX fa fn [] tf exT w h K
  of := fun _ _ e => Exists.intro _ (And.intro He.frT_in (told e))
  keeps := by
    intro w h h2 hS kp
    obtain ⟨K, hK, c⟩ := hS
    refine ⟨K, PySem.W.Frag.In.keeps hK kp, ?_⟩
    exact { t := c.t, more := c.more, hd := c.hd, out := c.out, empty := fun p hp => kp _ _ (c.empty p hp) }
def ob (s : PySem.W.SharedT) : He.AlX := lookAt (HandSHeadRun.getT s)
theorem ob_eq (s : PySem.W.SharedT) : ob s = hk.obs s.abs := congrArg lookAt (funext (HandSHeadRun.getT_eq s))
theorem both {S A B C : Type} {x : Option S} {f : S → A} {g : S → B} {k : S → C} {a : A} {b : B} {c : C} (h1 : x.map (fun s => (f s, g s)) = some (a, b)) (h2 : x.map k = some c) : x.map (fun s => (f s, g s, k s)) = some (a, b, c) := by
  cases x with
  | none => cases h2
  | some s =>
    obtain ⟨e1, e2⟩ := Prod.mk.inj (Option.some.inj h1)
    have e3 : k s = c := Option.some.inj h2
    show some (f s, g s, k s) = _
    rw [e1, e2, e3]
section
variable (r : PySem.W.OpenRow) (q : Program) (H : PySem.W.Hook) (o : PySem.W.SharedT → H.α) (M : Nat) (ls : List PySem.Str) (w : World)
noncomputable def lastS (os : OsState) : Option PySem.W.SharedT := HandSHeadRun.endF (HandSHeadRun.stepQ (HandSHeadRun.denQ HandSHeadRun.tabQ) r.prog w) M r.prog w os
def RunL : Prop := ∀ os : OsState, (lastS r M w os).map (fun s => (HandSHeadRun.looksF r.prog (PySem.W.boot_heap w.params) s.abs, HandSHeadRun.seenQ q ls (PySem.importedModules r.prog.main.body) (fun s => PySem.W.xlAt q [] s && PySem.W.recOk r.toRowW.records s) s.abs)) = some (true, PySem.W.openGood q ls)
def RunO : Prop := ∀ os : OsState, (lastS r M w os).map (fun s => o s) = some (H.val w)
theorem run_of (h1 : RunL r q M ls w) (h2 : RunO r H o M w) : HandSHeadRun.RunEq r q H o M ls w := fun os => both (h1 os) (h2 os)
end
theorem run_l (w : World) : RunL R (PySem.W.view R.prog [90]) 4000 loose w := by
  intro os
  kernel_rfl
theorem run_o (w : World) : RunO R hk ob 4000 w := by
  intro os
  kernel_rfl
theorem run (w : World) : HandSHeadRun.RunEq R (PySem.W.view R.prog [90]) hk ob 4000 loose w := run_of R (PySem.W.view R.prog [90]) hk ob 4000 loose w (run_l w) (run_o w)
end My

open PySem PySem.W PySem.Calls PyProof.Rows
theorem PySem.Challenge.cw_lastproof_k44_whole_simplifications_keep_holds : PySem.Challenge.rw_lastproof_k44_whole_simplifications_keep.Holds := by
  w_on; o_law
  refine HandSHeadRun.head_any (r := OpenLaw.row PySem.Challenge.rw_lastproof_k44_whole_simplifications_keep) (q := view (OpenLaw.row PySem.Challenge.rw_lastproof_k44_whole_simplifications_keep).prog [90]) (H := My.hk) (ob := My.ob) (M := 4000) (loose := My.loose) (d := HandSHeadRun.topDef (OpenLaw.row PySem.Challenge.rw_lastproof_k44_whole_simplifications_keep).prog 90) (kwd := []) My.ob_eq
    (by kernel_rfl) (fun s => by kernel_rfl) My.run (by kernel_rfl) (by kernel_rfl) (by kernel_rfl) (by rfl) (by first | assumption | decide +kernel) (by decide +kernel) ⟨rfl, rfl, rfl, rfl, rfl, by decide +kernel⟩ ?hw ?hc
  case hw => w_witness2
  case hc =>
    refine LamX.walk_ofTsE (l := PySem.Challenge.rw_lastproof_k44_whole_simplifications_keep) (n := 63) (k := 47) (x := "_law_script") (CX := fun _ => L2.CX0) rfl (by decide) (by kernel_rfl) ⟨rfl, by decide, by decide⟩ ?F (fun _ _ _ _ _ z => z)
    intro w mg fa h Y G hmg0
    obtain ⟨K, KX, c⟩ := Y
    have hmg : mg ("law" : PySem.Str) = some (.ref fa) := by
      have e : (HandSHeadRun.topDef (OpenLaw.row PySem.Challenge.rw_lastproof_k44_whole_simplifications_keep).prog 90).name = ("law" : PySem.Str) := by kernel_rfl
      rw [← e]
      exact hmg0
    exact ⟨K, KX, My.law_at KX c G hmg⟩
