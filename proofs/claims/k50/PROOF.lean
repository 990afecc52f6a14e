import PyProof.Rows.All
import Wide.All
import OpenK.AllK
import Wide.FinOn
import HandS.ForMost
import HandS.Defaults
import HandS.IsInst
import HandS.FStr
import HandS.DictComp
import HandS.Zip
import HandS.TupAny
import HandS.Wide
import HandS.Rev
import HandS.Strs
import HandS.RaiseMore
import HandS.HeadHook1
import HandS.HeadHook2
import PyProof.AutoSeq1
import HandS.More
import HandS.Walk
import KE.GoesMore
import KE.GoesZip
import KE.GoesEnum
import HandS.Small
import HandS.Style
import KE.KCallOwn
import PyProof.ReprRoads
import HandS.EndBits
import HandS.HeadHook4
import HandS.Head0
import HandS.Head1
import HandS.Head2
import HandS.HeadEnd
import PySem.Challenge.RW_callways_k50_rest_forms_by_hand
set_option Elab.async false
set_option linter.all false
set_option maxRecDepth 100000
/-! KP 1: pure values, the small heap, how they lie in the layer's heap. -/
namespace KP
open PySem PySem.Spec PyProof.Rows L2

/-- a value; tuples are told whole, lists, dicts, instances stand at a place of the small heap; rl: a list that is only read (the script); glo x: what the module's name x stands for -/
inductive PV where
  | non | bl (b : Bool) | int (i : Int) | str (s : Str) | tup (xs : List PV) | rl (xs : List PV) | loc (n : Nat) | glo (x : Str)
/-- what stands at a place -/
inductive PO where
  | lst (xs : List PV) | dic (kvs : List (Key × PV)) | ins (c : Str) (fs : List (Str × PV))
abbrev PH := List PO
abbrev Env := List (Option PV)

abbrev Frg := PySem.W.Frag
/-- a list that is only read -/
def FzL (K : Frg) (H : Hp) (a : Addr) (xs : List V) : Prop :=
  (∃ o, H a = some (.frz o (.lst xs))) ∨
    ∃ (o : Obj) (its : Array Value) (n : Nat), K.lookup a = some o ∧ o.cls = .type "list" ∧ o.dict = none ∧ o.data = .seq its n ∧ its.size ≤ sizeLine ∧ Vals xs its.toList
theorem FzL.sq {K : Frg} {H : Hp} {a : Addr} {xs : List V} (h : FzL K H a xs) : SqL K H a xs := by
  rcases h with h | h
  · exact .inl (.inr h)
  · exact .inr h

mutual
def RV (K : Frg) (μ : List Addr) (H : Hp) : PV → V → Prop
  | .non, v => v = .non
  | .bl b, v => v = .bl b
  | .int i, v => v = .int i
  | .str s, v => v = .str s
  | .tup xs, v => ∃ a vs, v = .ref a ∧ SqT K H a vs ∧ RVs K μ H xs vs
  | .rl xs, v => ∃ a vs, v = .ref a ∧ FzL K H a vs ∧ RVs K μ H xs vs
  | .loc n, v => ∃ a, μ[n]? = some a ∧ v = .ref a
  | .glo x, v => v = .ref (He.ga K x)
def RVs (K : Frg) (μ : List Addr) (H : Hp) : List PV → List V → Prop
  | [], vs => vs = []
  | x :: xs, vs => ∃ w ws, vs = w :: ws ∧ RV K μ H x w ∧ RVs K μ H xs ws
end

/-- what never changes is kept -/
structure Keep (K : Frg) (H H' : Hp) : Prop where
  tup : ∀ a vs, SqT K H a vs → SqT K H' a vs
  frz : ∀ a vs, FzL K H a vs → FzL K H' a vs
theorem Keep.refl {K : Frg} {H : Hp} : Keep K H H := ⟨fun _ _ h => h, fun _ _ h => h⟩
theorem Keep.trans {K : Frg} {H H1 H2 : Hp} (a : Keep K H H1) (b : Keep K H1 H2) : Keep K H H2 := ⟨fun x v h => b.tup x v (a.tup x v h), fun x v h => b.frz x v (a.frz x v h)⟩

mutual
theorem RV.mono {K : Frg} {μ μ' : List Addr} {H H' : Hp} (hm : ∀ (n : Nat) (a : Addr), μ[n]? = some a → μ'[n]? = some a) (k : Keep K H H') : ∀ (p : PV) (v : V), RV K μ H p v → RV K μ' H' p v
  | .non, _, h => h
  | .bl _, _, h => h
  | .int _, _, h => h
  | .str _, _, h => h
  | .tup xs, v, ⟨a, vs, e, s, r⟩ => ⟨a, vs, e, k.tup a vs s, RVs.mono hm k xs vs r⟩
  | .rl xs, v, ⟨a, vs, e, s, r⟩ => ⟨a, vs, e, k.frz a vs s, RVs.mono hm k xs vs r⟩
  | .loc n, v, ⟨a, e, r⟩ => ⟨a, hm n a e, r⟩
  | .glo _, _, h => h
theorem RVs.mono {K : Frg} {μ μ' : List Addr} {H H' : Hp} (hm : ∀ (n : Nat) (a : Addr), μ[n]? = some a → μ'[n]? = some a) (k : Keep K H H') : ∀ (ps : List PV) (vs : List V), RVs K μ H ps vs → RVs K μ' H' ps vs
  | [], _, h => h
  | p :: ps, _, ⟨w, ws, e, r, q⟩ => ⟨w, ws, e, RV.mono hm k p w r, RVs.mono hm k ps ws q⟩
end

section
variable {K : Frg} {μ : List Addr} {H : Hp}
theorem RVs.length : ∀ {ps : List PV} {vs : List V}, RVs K μ H ps vs → vs.length = ps.length
  | [], _, h => by rw [show _ = ([] : List V) from h]; rfl
  | p :: ps, _, ⟨w, ws, e, r, q⟩ => by rw [e, List.length_cons, List.length_cons, RVs.length q]
theorem RVs.get : ∀ {ps : List PV} {vs : List V} {i : Nat} {p : PV}, RVs K μ H ps vs → ps[i]? = some p → ∃ v, vs[i]? = some v ∧ RV K μ H p v
  | [], _, _, _, _, e => by simp at e
  | q :: ps, _, 0, p, ⟨w, ws, e, r, _⟩, h => by
    simp at h; subst h; subst e; exact ⟨w, rfl, r⟩
  | q :: ps, _, i + 1, p, ⟨w, ws, e, _, t⟩, h => by
    subst e
    obtain ⟨v, h1, h2⟩ := RVs.get (i := i) (p := p) t (by simpa using h)
    exact ⟨v, by simpa using h1, h2⟩
theorem RVs.getV : ∀ {ps : List PV} {vs : List V} {i : Nat} {v : V}, RVs K μ H ps vs → vs[i]? = some v → ∃ p, ps[i]? = some p ∧ RV K μ H p v
  | [], _, _, _, h, e => by rw [show _ = ([] : List V) from h] at e; simp at e
  | q :: ps, _, 0, v, ⟨w, ws, e, r, _⟩, h => by
    subst e; simp at h; subst h; exact ⟨q, rfl, r⟩
  | q :: ps, _, i + 1, v, ⟨w, ws, e, _, t⟩, h => by
    subst e
    obtain ⟨p, h1, h2⟩ := RVs.getV (i := i) (v := v) t (by simpa using h)
    exact ⟨p, by simpa using h1, h2⟩
theorem RVs.append : ∀ {ps qs : List PV} {vs ws : List V}, RVs K μ H ps vs → RVs K μ H qs ws → RVs K μ H (ps ++ qs) (vs ++ ws)
  | [], _, _, _, h, r => by rw [show _ = ([] : List V) from h]; exact r
  | p :: ps, _, _, _, ⟨w, ws, e, r, t⟩, q => by subst e; exact ⟨w, _, rfl, r, RVs.append t q⟩
theorem RVs.one {p : PV} {v : V} (r : RV K μ H p v) : RVs K μ H [p] [v] := ⟨v, [], rfl, r, rfl⟩
theorem RVs.cons {p : PV} {v : V} {ps : List PV} {vs : List V} (r : RV K μ H p v) (t : RVs K μ H ps vs) : RVs K μ H (p :: ps) (v :: vs) := ⟨v, vs, rfl, r, t⟩
theorem RVs.nil : RVs K μ H [] [] := rfl
theorem RVs.take : ∀ {ps : List PV} {vs : List V} (n : Nat), RVs K μ H ps vs → RVs K μ H (ps.take n) (vs.take n)
  | _, _, 0, _ => by simp [RVs]
  | [], _, n + 1, h => by rw [show _ = ([] : List V) from h]; simp [RVs]
  | p :: ps, _, n + 1, ⟨w, ws, e, r, t⟩ => by subst e; exact ⟨w, _, rfl, r, RVs.take n t⟩
theorem RVs.drop : ∀ {ps : List PV} {vs : List V} (n : Nat), RVs K μ H ps vs → RVs K μ H (ps.drop n) (vs.drop n)
  | _, _, 0, h => h
  | [], _, n + 1, h => by rw [show _ = ([] : List V) from h]; simp [RVs]
  | p :: ps, _, n + 1, ⟨w, ws, e, r, t⟩ => by subst e; exact RVs.drop n t
theorem RVs.set {p : PV} {v : V} (r : RV K μ H p v) : ∀ {ps : List PV} {vs : List V} (i : Nat), RVs K μ H ps vs → RVs K μ H (ps.set i p) (vs.set i v)
  | [], _, _, h => by rw [show _ = ([] : List V) from h]; simp [RVs]
  | q :: ps, _, 0, ⟨w, ws, e, _, t⟩ => by subst e; exact ⟨v, _, rfl, r, t⟩
  | q :: ps, _, i + 1, ⟨w, ws, e, r', t⟩ => by subst e; exact ⟨w, _, rfl, r', RVs.set r i t⟩
theorem RVs.eraseIdx : ∀ {ps : List PV} {vs : List V} (i : Nat), RVs K μ H ps vs → RVs K μ H (ps.eraseIdx i) (vs.eraseIdx i)
  | [], _, _, h => by rw [show _ = ([] : List V) from h]; simp [RVs]
  | q :: ps, _, 0, ⟨w, ws, e, _, t⟩ => by subst e; exact t
  | q :: ps, _, i + 1, ⟨w, ws, e, r', t⟩ => by subst e; exact ⟨w, _, rfl, r', RVs.eraseIdx i t⟩
theorem RVs.reverse : ∀ {ps : List PV} {vs : List V}, RVs K μ H ps vs → RVs K μ H ps.reverse vs.reverse
  | [], _, h => by rw [show _ = ([] : List V) from h]; simp [RVs]
  | p :: ps, _, ⟨w, ws, e, r, t⟩ => by subst e; rw [List.reverse_cons, List.reverse_cons]; exact (RVs.reverse t).append (.one r)
theorem RVs.dropLast {ps : List PV} {vs : List V} (h : RVs K μ H ps vs) : RVs K μ H ps.dropLast vs.dropLast := by
  rw [List.dropLast_eq_take, List.dropLast_eq_take, h.length]
  exact h.take _
theorem RVs.ints : ∀ {ns : List Int} {vs : List V}, RVs K μ H (ns.map PV.int) vs ↔ vs = ns.map V.int
  | [], _ => Iff.rfl
  | n :: ns, vs => ⟨fun ⟨w, ws, e, r, t⟩ => by rw [e, show w = V.int n from r, RVs.ints.mp t]; rfl, fun e => ⟨V.int n, ns.map V.int, e, rfl, RVs.ints.mpr rfl⟩⟩
theorem RVs.strs : ∀ {ns : List Str} {vs : List V}, RVs K μ H (ns.map PV.str) vs ↔ vs = ns.map V.str
  | [], _ => Iff.rfl
  | n :: ns, vs => ⟨fun ⟨w, ws, e, r, t⟩ => by rw [e, show w = V.str n from r, RVs.strs.mp t]; rfl, fun e => ⟨V.str n, ns.map V.str, e, rfl, RVs.strs.mpr rfl⟩⟩
theorem RVs.bls : ∀ {ns : List Bool} {vs : List V}, RVs K μ H (ns.map PV.bl) vs ↔ vs = ns.map V.bl
  | [], _ => Iff.rfl
  | n :: ns, vs => ⟨fun ⟨w, ws, e, r, t⟩ => by rw [e, show w = V.bl n from r, RVs.bls.mp t]; rfl, fun e => ⟨V.bl n, ns.map V.bl, e, rfl, RVs.bls.mpr rfl⟩⟩
end

/-- what stands at a place, in the layer's heap -/
def OR (K : Frg) (μ : List Addr) (H : Hp) : PO → HO → Prop
  | .lst xs, u => ∃ vs, u = .lst vs ∧ RVs K μ H xs vs
  | .dic kvs, u => ∃ kv', u = .dK kv' ∧ kv'.map (·.1) = kvs.map (·.1) ∧ RVs K μ H (kvs.map (·.2)) (kv'.map (·.2))
  | .ins c fs, u => ∃ dx fs', u = .ins (He.ga K c) dx fs' ∧ fs'.map (·.1) = fs.map (·.1) ∧ RVs K μ H (fs.map (·.2)) (fs'.map (·.2))
theorem OR.mono {K : Frg} {μ μ' : List Addr} {H H' : Hp} (hm : ∀ (n : Nat) (a : Addr), μ[n]? = some a → μ'[n]? = some a) (k : Keep K H H') {o : PO} {u : HO} (h : OR K μ H o u) : OR K μ' H' o u := by
  cases o with
  | lst xs => obtain ⟨vs, e, r⟩ := h; exact ⟨vs, e, r.mono hm k⟩
  | dic kvs => obtain ⟨kv', e, h1, r⟩ := h; exact ⟨kv', e, h1, r.mono hm k⟩
  | ins c fs => obtain ⟨dx, fs', e, h1, r⟩ := h; exact ⟨dx, fs', e, h1, r.mono hm k⟩
theorem OR.mut {K : Frg} {μ : List Addr} {H : Hp} {o : PO} {u : HO} (h : OR K μ H o u) : Mut (some u) := by
  cases o with
  | lst xs => obtain ⟨vs, e, r⟩ := h; subst e; trivial
  | dic kvs => obtain ⟨kv', e, h1, r⟩ := h; subst e; trivial
  | ins c fs => obtain ⟨dx, fs', e, h1, r⟩ := h; subst e; trivial

/-- the small heap h lies in H by μ; wr: which places may be written -/
structure HR (K : Frg) (μ : List Addr) (wr : Nat → Bool) (H : Hp) (h : PH) : Prop where
  len : μ.length = h.length
  inj : ∀ (i j : Nat) (a : Addr), μ[i]? = some a → μ[j]? = some a → i = j
  obj : ∀ (n : Nat) (a : Addr) (o : PO), μ[n]? = some a → h[n]? = some o → ∃ u, OR K μ H o u ∧ (H a = some u ∨ (wr n = false ∧ (∃ kvs, o = .dic kvs) ∧ ∃ ob, H a = some (.frz ob u)))

/-- how the layer's heap goes on -/
structure Step (K : Frg) (μ : List Addr) (wr : Nat → Bool) (H : Hp) (μ' : List Addr) (H' : Hp) : Prop where
  mu : ∀ (n : Nat) (a : Addr), μ[n]? = some a → μ'[n]? = some a
  keep : Keep K H H'
  frame : ∀ (n : Nat) (a : Addr), μ[n]? = some a → wr n = false → H' a = H a
theorem Step.refl {K : Frg} {μ : List Addr} {wr : Nat → Bool} {H : Hp} : Step K μ wr H μ H := ⟨fun _ _ h => h, .refl, fun _ _ _ _ => rfl⟩
theorem Step.trans {K : Frg} {μ μ1 μ2 : List Addr} {wr : Nat → Bool} {H H1 H2 : Hp} (a : Step K μ wr H μ1 H1) (b : Step K μ1 wr H1 μ2 H2) : Step K μ wr H μ2 H2 :=
  ⟨fun n x e => b.mu n x (a.mu n x e), a.keep.trans b.keep, fun n x e w => (b.frame n x (a.mu n x e) w).trans (a.frame n x e w)⟩
theorem RV.step {K : Frg} {μ μ' : List Addr} {wr : Nat → Bool} {H H' : Hp} {p : PV} {v : V} (r : RV K μ H p v) (s : Step K μ wr H μ' H') : RV K μ' H' p v := r.mono s.mu s.keep
theorem RVs.step {K : Frg} {μ μ' : List Addr} {wr : Nat → Bool} {H H' : Hp} {p : List PV} {v : List V} (r : RVs K μ H p v) (s : Step K μ wr H μ' H') : RVs K μ' H' p v := r.mono s.mu s.keep

/-- the slots -/
structure ER (K : Frg) (μ : List Addr) (H : Hp) (env : Env) (σ : L2.St) : Prop where
  len : env.length = σ.length
  val : ∀ (i : Nat) (p : PV), env[i]? = some (some p) → ∃ v, σ[i]? = some (some v) ∧ RV K μ H p v
theorem ER.step {K : Frg} {μ μ' : List Addr} {wr : Nat → Bool} {H H' : Hp} {env : Env} {σ : L2.St} (r : ER K μ H env σ) (s : Step K μ wr H μ' H') : ER K μ' H' env σ :=
  ⟨r.len, fun i p e => let ⟨v, h1, h2⟩ := r.val i p e; ⟨v, h1, h2.step s⟩⟩
theorem ER.set {K : Frg} {μ : List Addr} {H : Hp} {env : Env} {σ : L2.St} {p : PV} {v : V} (r : ER K μ H env σ) (i : Nat) (q : RV K μ H p v) : ER K μ H (env.set i (some p)) (σ.set i (some v)) := by
  refine ⟨by rw [List.length_set, List.length_set, r.len], fun j p' e => ?_⟩
  by_cases hij : i = j
  · subst hij
    have hl : i < env.length := by
      by_cases hl : i < env.length
      · exact hl
      · rw [List.getElem?_eq_none (by simp; omega)] at e; cases e
    rw [List.getElem?_set_self hl] at e
    cases e
    exact ⟨v, List.getElem?_set_self (r.len ▸ hl), q⟩
  · rw [List.getElem?_set_ne hij] at e
    obtain ⟨w, h1, h2⟩ := r.val j p' e
    exact ⟨w, by rw [List.getElem?_set_ne hij]; exact h1, h2⟩
theorem ER.clear {K : Frg} {μ : List Addr} {H : Hp} {env : Env} {σ : L2.St} (r : ER K μ H env σ) (i : Nat) : ER K μ H (env.set i none) σ := by
  refine ⟨by rw [List.length_set, r.len], fun j p' e => ?_⟩
  by_cases hij : i = j
  · subst hij
    by_cases hl : i < env.length
    · rw [List.getElem?_set_self hl] at e; cases e
    · rw [List.getElem?_eq_none (by simp; omega)] at e; cases e
  · rw [List.getElem?_set_ne hij] at e
    exact r.val j p' e

/-! ### what a new or changed object does -/
theorem Keep.of_ext {K : Frg} {H H' : Hp} (e : ∀ a o, H a = some o → H' a = some o) : Keep K H H' := by
  refine ⟨fun a vs h => ?_, fun a vs h => ?_⟩
  · rcases h with (h | ⟨o, h⟩) | h
    · exact .inl (.inl (e _ _ h))
    · exact .inl (.inr ⟨o, e _ _ h⟩)
    · exact .inr h
  · rcases h with ⟨o, h⟩ | h
    · exact .inl ⟨o, e _ _ h⟩
    · exact .inr h
theorem ext_upd {H : Hp} {p : Addr} {o : HO} (hp : H p = none) : ∀ a u, H a = some u → upd H p o a = some u := fun a u e => by rw [upd_ne (ne_of_none e hp)]; exact e
theorem Step.ext {K : Frg} {μ μ' : List Addr} {wr : Nat → Bool} {H H' : Hp} {h : PH} (R : HR K μ wr H h) (hm : ∀ (n : Nat) (a : Addr), μ[n]? = some a → μ'[n]? = some a) (e : ∀ a o, H a = some o → H' a = some o) : Step K μ wr H μ' H' := by
  refine ⟨hm, .of_ext e, fun n a hn hw => ?_⟩
  have hl : n < h.length := by
    have := (List.getElem?_eq_some_iff.mp hn).1
    rw [R.len] at this; exact this
  obtain ⟨u, _, q⟩ := R.obj n a h[n] hn (List.getElem?_eq_getElem hl)
  rcases q with q | ⟨_, _, ob, q⟩
  · rw [e _ _ q, q]
  · rw [e _ _ q, q]
/-- the heap grows by what is not in the small one -/
theorem HR.ext {K : Frg} {μ : List Addr} {wr : Nat → Bool} {H H' : Hp} {h : PH} (R : HR K μ wr H h) (e : ∀ a o, H a = some o → H' a = some o) : HR K μ wr H' h := by
  refine ⟨R.len, R.inj, fun n a o hn ho => ?_⟩
  obtain ⟨u, r, q⟩ := R.obj n a o hn ho
  refine ⟨u, r.mono (fun _ _ z => z) (.of_ext e), ?_⟩
  rcases q with q | ⟨w, k, ob, q⟩
  · exact .inl (e _ _ q)
  · exact .inr ⟨w, k, ob, e _ _ q⟩
theorem HR.lt {K : Frg} {μ : List Addr} {wr : Nat → Bool} {H : Hp} {h : PH} (R : HR K μ wr H h) {n : Nat} {a : Addr} (e : μ[n]? = some a) : n < h.length := by
  have := (List.getElem?_eq_some_iff.mp e).1
  rw [R.len] at this; exact this
theorem HR.some {K : Frg} {μ : List Addr} {wr : Nat → Bool} {H : Hp} {h : PH} (R : HR K μ wr H h) {n : Nat} {o : PO} (e : h[n]? = .some o) : ∃ a, μ[n]? = .some a := by
  have := (List.getElem?_eq_some_iff.mp e).1
  rw [← R.len] at this
  exact ⟨μ[n], List.getElem?_eq_getElem this⟩
theorem HR.used {K : Frg} {μ : List Addr} {wr : Nat → Bool} {H : Hp} {h : PH} (R : HR K μ wr H h) {n : Nat} {a : Addr} (e : μ[n]? = .some a) : H a ≠ none := by
  obtain ⟨u, _, q⟩ := R.obj n a (h[n]'(R.lt e)) e (List.getElem?_eq_getElem (R.lt e))
  rcases q with q | ⟨_, _, ob, q⟩ <;> (rw [q]; simp)
/-- a new object, at the small heap's end -/
theorem HR.push {K : Frg} {μ : List Addr} {wr : Nat → Bool} {H : Hp} {h : PH} (R : HR K μ wr H h) {p : Addr} {o : PO} {u : HO} (hp : H p = none) (r : OR K μ H o u) :
    HR K (μ ++ [p]) wr (upd H p u) (h ++ [o]) := by
  have hm : ∀ (n : Nat) (a : Addr), μ[n]? = .some a → (μ ++ [p])[n]? = .some a := fun n a e => by rw [List.getElem?_append_left (List.getElem?_eq_some_iff.mp e).1]; exact e
  have hk : Keep K H (upd H p u) := .of_ext (ext_upd hp)
  have cases_ : ∀ (n : Nat) (a : Addr), (μ ++ [p])[n]? = .some a → μ[n]? = .some a ∨ (n = μ.length ∧ a = p) := fun n a e => by
    by_cases hn : n < μ.length
    · rw [List.getElem?_append_left hn] at e; exact .inl e
    · have h2 : n = μ.length := by
        have := (List.getElem?_eq_some_iff.mp e).1
        simp at this; omega
      subst h2
      rw [List.getElem?_append_right (Nat.le_refl _)] at e
      simp at e
      exact .inr ⟨rfl, e.symm⟩
  refine ⟨by simp [R.len], fun i j a hi hj => ?_, fun n a o' hn ho => ?_⟩
  · rcases cases_ i a hi with h1 | ⟨h1, h1'⟩ <;> rcases cases_ j a hj with h2 | ⟨h2, h2'⟩
    · exact R.inj i j a h1 h2
    · subst h2'; exact absurd hp (R.used h1)
    · subst h1'; exact absurd hp (R.used h2)
    · rw [h1, h2]
  · rcases cases_ n a hn with h1 | ⟨h1, h1'⟩
    · rw [List.getElem?_append_left (R.lt h1)] at ho
      obtain ⟨w, r', q⟩ := R.obj n a o' h1 ho
      refine ⟨w, r'.mono hm hk, ?_⟩
      rcases q with q | ⟨z, k, ob, q⟩
      · exact .inl (ext_upd hp _ _ q)
      · exact .inr ⟨z, k, ob, ext_upd hp _ _ q⟩
    · subst h1'
      subst h1
      rw [R.len, List.getElem?_append_right (Nat.le_refl _)] at ho
      simp at ho
      subst ho
      exact ⟨u, r.mono hm hk, .inl upd_same⟩
theorem Step.push {K : Frg} {μ : List Addr} {wr : Nat → Bool} {H : Hp} {h : PH} (R : HR K μ wr H h) {p : Addr} {u : HO} (hp : H p = none) : Step K μ wr H (μ ++ [p]) (upd H p u) :=
  .ext R (fun n a e => by rw [List.getElem?_append_left (List.getElem?_eq_some_iff.mp e).1]; exact e) (ext_upd hp)
/-- an object changes -/
theorem Keep.write {K : Frg} {H : Hp} {a : Addr} {u u' : HO} (ha : H a = some u) (mu : Mut (some u)) : Keep K H (upd H a u') := by
  have ne : ∀ b w, H b = some w → ¬ Mut (some w) → b ≠ a := fun b w e n z => by subst z; rw [ha] at e; cases e; exact n mu
  refine ⟨fun b vs h => ?_, fun b vs h => ?_⟩
  · rcases h with (h | ⟨o, h⟩) | h
    · exact .inl (.inl (by rw [upd_ne (ne b _ h fun z => z)]; exact h))
    · exact .inl (.inr ⟨o, by rw [upd_ne (ne b _ h fun z => z)]; exact h⟩)
    · exact .inr h
  · rcases h with ⟨o, h⟩ | h
    · exact .inl ⟨o, by rw [upd_ne (ne b _ h fun z => z)]; exact h⟩
    · exact .inr h
theorem HR.write {K : Frg} {μ : List Addr} {wr : Nat → Bool} {H : Hp} {h : PH} (R : HR K μ wr H h) {n : Nat} {a : Addr} {u u' : HO} {o' : PO} (hn : μ[n]? = .some a) (ha : H a = .some u) (mu : Mut (.some u)) (r : OR K μ H o' u') :
    HR K μ wr (upd H a u') (h.set n o') := by
  have hk : Keep K H (upd H a u') := .write ha mu
  refine ⟨by rw [List.length_set]; exact R.len, R.inj, fun m b o hm ho => ?_⟩
  by_cases e : n = m
  · subst e
    rw [hn] at hm; cases hm
    rw [List.getElem?_set_self (R.lt hn)] at ho
    cases ho
    exact ⟨u', r.mono (fun _ _ z => z) hk, .inl upd_same⟩
  · rw [List.getElem?_set_ne e] at ho
    obtain ⟨w, r', q⟩ := R.obj m b o hm ho
    have hb : b ≠ a := fun z => by subst z; exact e (R.inj n m b hn hm)
    refine ⟨w, r'.mono (fun _ _ z => z) hk, ?_⟩
    rcases q with q | ⟨z, k, ob, q⟩
    · exact .inl (by rw [upd_ne hb]; exact q)
    · exact .inr ⟨z, k, ob, by rw [upd_ne hb]; exact q⟩
theorem Step.write {K : Frg} {μ : List Addr} {wr : Nat → Bool} {H : Hp} {h : PH} (R : HR K μ wr H h) {n : Nat} {a : Addr} {u u' : HO} (hn : μ[n]? = .some a) (ha : H a = .some u) (mu : Mut (.some u)) (hw : wr n = true) : Step K μ wr H μ (upd H a u') := by
  refine ⟨fun _ _ e => e, .write ha mu, fun m b hm w => ?_⟩
  have hb : b ≠ a := fun z => by
    subst z
    rw [R.inj n m b hn hm] at hw
    rw [hw] at w; cases w
  rw [upd_ne hb]
/-- fewer places may be written -/
theorem HR.less {K : Frg} {μ : List Addr} {wr wr' : Nat → Bool} {H : Hp} {h : PH} (R : HR K μ wr H h) (l : ∀ n, wr n = false → wr' n = false) : HR K μ wr' H h :=
  ⟨R.len, R.inj, fun n a o hn ho => let ⟨u, r, q⟩ := R.obj n a o hn ho; ⟨u, r, q.elim .inl fun ⟨w, z⟩ => .inr ⟨l n w, z⟩⟩⟩
theorem Step.more {K : Frg} {μ μ' : List Addr} {wr wr' : Nat → Bool} {H H' : Hp} (s : Step K μ wr' H μ' H') (l : ∀ n, wr n = false → wr' n = false) : Step K μ wr H μ' H' :=
  ⟨s.mu, s.keep, fun n a e w => s.frame n a e (l n w)⟩
section
variable {K : Frg} {μ : List Addr} {wr : Nat → Bool} {H : Hp} {h : PH} {n : Nat} {a : Addr}
theorem HR.lst (R : HR K μ wr H h) {xs : List PV} (hn : μ[n]? = .some a) (ho : h[n]? = .some (.lst xs)) : ∃ vs, H a = .some (.lst vs) ∧ RVs K μ H xs vs := by
  obtain ⟨u, r, q⟩ := R.obj n a _ hn ho
  obtain ⟨vs, e, r⟩ := r
  subst e
  rcases q with q | ⟨_, ⟨_, k⟩, _⟩
  · exact ⟨vs, q, r⟩
  · cases k
theorem HR.ins (R : HR K μ wr H h) {c : Str} {fs : List (Str × PV)} (hn : μ[n]? = .some a) (ho : h[n]? = .some (.ins c fs)) : ∃ dx fs', H a = .some (.ins (He.ga K c) dx fs') ∧ fs'.map (·.1) = fs.map (·.1) ∧ RVs K μ H (fs.map (·.2)) (fs'.map (·.2)) := by
  obtain ⟨u, r, q⟩ := R.obj n a _ hn ho
  obtain ⟨dx, fs', e, r1, r⟩ := r
  subst e
  rcases q with q | ⟨_, ⟨_, k⟩, _⟩
  · exact ⟨dx, fs', q, r1, r⟩
  · cases k
theorem HR.dic (R : HR K μ wr H h) {kvs : List (Key × PV)} (hn : μ[n]? = .some a) (ho : h[n]? = .some (.dic kvs)) : ∃ kv', Rd H a (.dK kv') ∧ (wr n = true → H a = .some (.dK kv')) ∧ kv'.map (·.1) = kvs.map (·.1) ∧ RVs K μ H (kvs.map (·.2)) (kv'.map (·.2)) := by
  obtain ⟨u, r, q⟩ := R.obj n a _ hn ho
  obtain ⟨kv', e, r1, r⟩ := r
  subst e
  rcases q with q | ⟨w, _, ob, q⟩
  · exact ⟨kv', .inl q, fun _ => q, r1, r⟩
  · exact ⟨kv', .inr ⟨ob, q⟩, fun z => absurd (w.symm.trans z) (by decide), r1, r⟩
end
end KP
set_option Elab.async false
set_option linter.all false
set_option maxRecDepth 100000
/-! KP 2: readings by the evaluator; operators. -/
namespace KP
open PySem PySem.Spec PyProof.Rows L2

/-- one thing after another -/
def bnd {α β : Type} (r : Option (α × PH)) (k : α → PH → Option β) : Option β := match r with
  | some (a, h) => k a h
  | none => none
theorem bnd_some {α β : Type} (a : α) (h : PH) (k : α → PH → Option β) : bnd (some (a, h)) k = k a h := rfl
theorem bnd_none {α β : Type} (k : α → PH → Option β) : bnd (none : Option (α × PH)) k = none := rfl
theorem of_bnd {α β : Type} {r : Option (α × PH)} {k : α → PH → Option β} {b : β} (e : bnd r k = some b) : ∃ a h, r = some (a, h) ∧ k a h = some b := by
  cases r with
  | none => cases e
  | some p => exact ⟨p.1, p.2, rfl, e⟩

abbrev EF := Env → PH → Option (PV × PH)
/-- what follows a value -/
def Go (K : Frg) (μ : List Addr) (wr : Nat → Bool) (H : Hp) (p : PV) (h : PH) (Q : VK) : Prop :=
  ∀ (μ' : List Addr) (H' : Hp) (v : V), HR K μ' wr H' h → Step K μ wr H μ' H' → RV K μ' H' p v → Q v H'
def rdE (K : Frg) (wr : Nat → Bool) (f : EF) : TE := fun σ H Q => ∃ μ env h p h', ER K μ H env σ ∧ HR K μ wr H h ∧ f env h = some (p, h') ∧ Go K μ wr H p h' Q
def GoT (K : Frg) (μ : List Addr) (wr : Nat → Bool) (H : Hp) (b : Bool) (h : PH) (Q : Bool → Hp → Prop) : Prop :=
  ∀ (μ' : List Addr) (H' : Hp), HR K μ' wr H' h → Step K μ wr H μ' H' → Q b H'
abbrev TF := Env → PH → Option (Bool × PH)
def rdT (K : Frg) (wr : Nat → Bool) (f : TF) : TT := fun σ H Q => ∃ μ env h b h', ER K μ H env σ ∧ HR K μ wr H h ∧ f env h = some (b, h') ∧ GoT K μ wr H b h' Q
def GoA (K : Frg) (μ : List Addr) (wr : Nat → Bool) (H : Hp) (ps : List PV) (h : PH) (Q : List V → Hp → Prop) : Prop :=
  ∀ (μ' : List Addr) (H' : Hp) (vs : List V), HR K μ' wr H' h → Step K μ wr H μ' H' → RVs K μ' H' ps vs → Q vs H'
abbrev AF := Env → PH → Option (List PV × PH)
def rdA (K : Frg) (wr : Nat → Bool) (f : AF) : TA := fun σ H Q => ∃ μ env h ps h', ER K μ H env σ ∧ HR K μ wr H h ∧ f env h = some (ps, h') ∧ GoA K μ wr H ps h' Q

/-- a binary operation by values -/
abbrev F2 := PV → PV → PH → Option (PV × PH)
def rd2 (K : Frg) (wr : Nat → Bool) (g : F2) : R2 := fun x y H Q => ∃ μ h px py p h', HR K μ wr H h ∧ RV K μ H px x ∧ RV K μ H py y ∧ g px py h = some (p, h') ∧ Go K μ wr H p h' Q
abbrev F1 := PV → PH → Option (PV × PH)
def rd1 (K : Frg) (wr : Nat → Bool) (g : F1) : V → Hp → VK → Prop := fun x H Q => ∃ μ h px p h', HR K μ wr H h ∧ RV K μ H px x ∧ g px h = some (p, h') ∧ Go K μ wr H p h' Q
abbrev FN := List PV → PH → Option (PV × PH)
def rdN (K : Frg) (wr : Nat → Bool) (g : FN) : List V → Hp → VK → Prop := fun xs H Q => ∃ μ h ps p h', HR K μ wr H h ∧ RVs K μ H ps xs ∧ g ps h = some (p, h') ∧ Go K μ wr H p h' Q
abbrev FM := PV → List PV → PH → Option (PV × PH)
def rdM (K : Frg) (wr : Nat → Bool) (g : FM) : V → List V → Hp → VK → Prop := fun x xs H Q => ∃ μ h px ps p h', HR K μ wr H h ∧ RV K μ H px x ∧ RVs K μ H ps xs ∧ g px ps h = some (p, h') ∧ Go K μ wr H p h' Q

section
variable {K : Frg} {μ : List Addr} {wr : Nat → Bool} {H : Hp} {h : PH} {p : PV} {v : V} {Q : VK}
theorem Go.same (g : Go K μ wr H p h Q) (R : HR K μ wr H h) (r : RV K μ H p v) : Q v H := g μ H v R .refl r
theorem Go.new {n : Nat} {o : PO} {u : HO} {a : Addr} (g : Go K μ wr H (.loc n) (h ++ [o]) Q) (R : HR K μ wr H h) (hn : n = h.length) (ha : H a = none) (r : OR K μ H o u) : Q (.ref a) (upd H a u) := by
  subst hn
  exact g (μ ++ [a]) (upd H a u) (.ref a) (R.push ha r) (.push R ha) ⟨a, by rw [← R.len]; simp, rfl⟩
theorem Go.tup {xs : List PV} {vs : List V} {a : Addr} (g : Go K μ wr H (.tup xs) h Q) (R : HR K μ wr H h) (ha : H a = none) (r : RVs K μ H xs vs) : Q (.ref a) (upd H a (.tup vs)) := by
  have s : Step K μ wr H μ (upd H a (.tup vs)) := .ext R (fun _ _ e => e) (ext_upd ha)
  exact g μ _ _ (R.ext (ext_upd ha)) s ⟨a, vs, rfl, .of upd_same, r.step s⟩
theorem Go.write {n : Nat} {a : Addr} {u u' : HO} {o' : PO} (g : Go K μ wr H p (h.set n o') Q) (R : HR K μ wr H h) (hn : μ[n]? = some a) (ha : H a = some u) (mu : Mut (some u)) (hw : wr n = true) (r : OR K μ H o' u')
    (rv : RV K μ H p v) : Q v (upd H a u') :=
  g μ _ v (R.write hn ha mu r) (.write R hn ha mu hw) (rv.step (.write R hn ha mu hw))
theorem GoT.same {b : Bool} {Q : Bool → Hp → Prop} (g : GoT K μ wr H b h Q) (R : HR K μ wr H h) : Q b H := g μ H R .refl
theorem Go.after {μ1 : List Addr} {H1 : Hp} (g : Go K μ wr H p h Q) (s : Step K μ wr H μ1 H1) : Go K μ1 wr H1 p h Q := fun μ2 H2 v2 R2 s2 r2 => g μ2 H2 v2 R2 (s.trans s2) r2
theorem GoT.after {μ1 : List Addr} {H1 : Hp} {b : Bool} {Q : Bool → Hp → Prop} (g : GoT K μ wr H b h Q) (s : Step K μ wr H μ1 H1) : GoT K μ1 wr H1 b h Q := fun μ2 H2 R2 s2 => g μ2 H2 R2 (s.trans s2)
theorem GoA.after {μ1 : List Addr} {H1 : Hp} {ps : List PV} {Q : List V → Hp → Prop} (g : GoA K μ wr H ps h Q) (s : Step K μ wr H μ1 H1) : GoA K μ1 wr H1 ps h Q := fun μ2 H2 v2 R2 s2 r2 => g μ2 H2 v2 R2 (s.trans s2) r2
end

/-! ### weaker readings -/
theorem PE_imp {X : Cx} {e : Expr} {t t' : TE} (h : PE X e t) (i : ∀ σ H Q, t' σ H Q → t σ H Q) : PE X e t' := ⟨fun pins s σ H Q I q => h.run pins s σ H Q I (i σ H Q q)⟩
theorem PT_imp {X : Cx} {e : Expr} {t t' : TT} (h : PT X e t) (i : ∀ σ H Q, t' σ H Q → t σ H Q) : PT X e t' := ⟨fun pins s σ H Q I q => h.run pins s σ H Q I (i σ H Q q)⟩
theorem PW_imp {X : Cx} {e : Expr} {t t' : TT} (h : PW X e t) (i : ∀ σ H Q, t' σ H Q → t σ H Q) : PW X e t' := ⟨fun w pins s σ H Q I q => h.run w pins s σ H Q I (i σ H Q q)⟩
theorem PA_imp {X : Cx} {e : List Expr} {t t' : TA} (h : PA X e t) (i : ∀ σ H Q, t' σ H Q → t σ H Q) : PA X e t' := ⟨fun p pins s σ H Q I q => h.run p pins s σ H Q I (i σ H Q q)⟩
theorem PS_imp {X : Cx} {e : Stmt} {t t' : TS} (h : PS X e t) (i : ∀ D σ H, t' D σ H → t D σ H) : PS X e t' := ⟨fun pins s σ H Q I q => h.run pins s σ H Q I (i Q σ H q)⟩
theorem PSs_imp {X : Cx} {e : List Stmt} {t t' : TS} (h : PSs X e t) (i : ∀ D σ H, t' D σ H → t D σ H) : PSs X e t' := ⟨fun pins s σ H Q I q => h.run pins s σ H Q I (i Q σ H q)⟩
theorem PE_or {X : Cx} {e : Expr} {t t' : TE} (h : PE X e t) (h' : PE X e t') : PE X e (fun σ H Q => t σ H Q ∨ t' σ H Q) := ⟨fun pins s σ H Q I q => q.elim (h.run pins s σ H Q I) (h'.run pins s σ H Q I)⟩
theorem OpR_imp {X : Cx} {f : Value → Value → Sem Value} {r r' : R2} (h : OpR X f r) (i : ∀ x y H Q, r' x y H Q → r x y H Q) : OpR X f r' := fun pins s σ H x y v u Q I rx ry q => h pins s σ H x y v u Q I rx ry (i x y H Q q)

/-! ### sequencing -/
section
variable {K : Frg} {wr : Nat → Bool}
/-- a reading in a row -/
theorem rdE_bnd {fa : EF} {k : PV → PH → Option (PV × PH)} {σ : L2.St} {H : Hp} {μ : List Addr} {env : Env} {h : PH} {p : PV} {h' : PH} {Q Q' : VK} (E : ER K μ H env σ) (R : HR K μ wr H h) (e : bnd (fa env h) k = some (p, h')) (g : Go K μ wr H p h' Q)
    (c : ∀ (μ1 : List Addr) (H1 : Hp) (x : PV) (h1 : PH) (v : V), Step K μ wr H μ1 H1 → ER K μ1 H1 env σ → HR K μ1 wr H1 h1 → k x h1 = some (p, h') → RV K μ1 H1 x v → Go K μ1 wr H1 p h' Q → Q' v H1) : rdE K wr fa σ H Q' := by
  obtain ⟨x, h1, e1, e2⟩ := of_bnd e
  exact ⟨μ, env, h, x, h1, E, R, e1, fun μ1 H1 v R1 s1 r1 => c μ1 H1 x h1 v s1 (E.step s1) R1 e2 r1 (g.after s1)⟩
theorem rdA_bnd {fa : AF} {k : List PV → PH → Option (PV × PH)} {σ : L2.St} {H : Hp} {μ : List Addr} {env : Env} {h : PH} {p : PV} {h' : PH} {Q : VK} {Q' : List V → Hp → Prop} (E : ER K μ H env σ) (R : HR K μ wr H h) (e : bnd (fa env h) k = some (p, h')) (g : Go K μ wr H p h' Q)
    (c : ∀ (μ1 : List Addr) (H1 : Hp) (x : List PV) (h1 : PH) (v : List V), Step K μ wr H μ1 H1 → ER K μ1 H1 env σ → HR K μ1 wr H1 h1 → k x h1 = some (p, h') → RVs K μ1 H1 x v → Go K μ1 wr H1 p h' Q → Q' v H1) : rdA K wr fa σ H Q' := by
  obtain ⟨x, h1, e1, e2⟩ := of_bnd e
  exact ⟨μ, env, h, x, h1, E, R, e1, fun μ1 H1 v R1 s1 r1 => c μ1 H1 x h1 v s1 (E.step s1) R1 e2 r1 (g.after s1)⟩
end

/-! ### names, constants -/
def eVar (i : Nat) : EF := fun env h => match env[i]? with
  | some (some p) => some (p, h)
  | _ => none
def eCst (p : PV) : EF := fun _ h => some (p, h)
section
variable {X : Cx} {wr : Nat → Bool} {pos : Pos}
theorem rd_var {i : Nat} {x : Str} (hN : X.N[i]? = some x) (hv : Vis X.env.scope x) (hd : (x == ("__debug__" : Str)) = false) (hcd : (x == ("__classdict__" : Str)) = false) : PE X (.Name x pos) (rdE X.K wr (eVar i)) :=
  PE_imp (pe_var hN hv hd hcd) fun σ H Q ⟨μ, env, h, p, h', E, R, e, g⟩ => by
    unfold eVar at e
    split at e
    · rename_i q hq
      cases e
      obtain ⟨v, h1, h2⟩ := E.val i p hq
      exact ⟨v, h1, g.same R h2⟩
    · cases e
/-- a value known to the text -/
theorem rd_cst {e : Expr} {v : V} {p : PV} (he : PE X e (tC v)) (r : ∀ μ H, RV X.K μ H p v) : PE X e (rdE X.K wr (eCst p)) :=
  PE_imp he fun σ H Q ⟨μ, env, h, q, h', E, R, e, g⟩ => by
    cases e
    exact g.same R (r μ H)
theorem rd_int {i : Int} {j : Nat} : PE X (.Constant (.int i) j pos) (rdE X.K wr (eCst (.int i))) := rd_cst pe_int fun _ _ => rfl
theorem rd_bl {b : Bool} {j : Nat} : PE X (.Constant (.bool b) j pos) (rdE X.K wr (eCst (.bl b))) := rd_cst pe_bl fun _ _ => rfl
theorem rd_str {b : Str} {j : Nat} : PE X (.Constant (.str b) j pos) (rdE X.K wr (eCst (.str b))) := rd_cst pe_str fun _ _ => rfl
theorem rd_non {j : Nat} : PE X (.Constant .none j pos) (rdE X.K wr (eCst .non)) := rd_cst pe_non fun _ _ => rfl
end

/-! ### argument lists -/
def aNil : AF := fun _ h => some ([], h)
def aCons (fa : EF) (fr : AF) : AF := fun env h => bnd (fa env h) fun x h1 => bnd (fr env h1) fun xs h2 => some (x :: xs, h2)
section
variable {X : Cx} {wr : Nat → Bool}
theorem ra_nil : PA X [] (rdA X.K wr aNil) := PA_imp pa_nil fun σ H Q ⟨μ, env, h, ps, h', E, R, e, g⟩ => by
  cases e
  exact g μ H [] R .refl .nil
theorem ra_cons {e : Expr} {es : List Expr} {fa : EF} {fr : AF} (ha : PE X e (rdE X.K wr fa)) (hr : PA X es (rdA X.K wr fr)) (hs : starEach (e :: es) X.env = (false, eval e X.env) :: starEach es X.env) : PA X (e :: es) (rdA X.K wr (aCons fa fr)) :=
  PA_imp (pa_cons ha hr hs) fun σ H Q ⟨μ, env, h, ps, h', E, R, e, g⟩ => by
    obtain ⟨x, h1, e1, e2⟩ := of_bnd e
    obtain ⟨xs, h2, e3, e4⟩ := of_bnd e2
    cases e4
    refine ⟨μ, env, h, x, h1, E, R, e1, fun μ1 H1 v R1 s1 r1 => ?_⟩
    refine ⟨μ1, env, h1, xs, _, E.step s1, R1, e3, fun μ2 H2 vs R2 s2 r2 => ?_⟩
    exact g μ2 H2 (v :: vs) R2 (s1.trans s2) (.cons (r1.step s2) r2)
end

/-! ### operations by values -/
def eOp (g : F2) (fa fb : EF) : EF := fun env h => bnd (fa env h) fun x h1 => bnd (fb env h1) fun y h2 => g x y h2
section
variable {X : Cx} {wr : Nat → Bool} {a b : Expr} {fa fb : EF} {g : F2} {pos : Pos}
theorem imp_op : ∀ σ H Q, rdE X.K wr (eOp g fa fb) σ H Q → tOp (rd2 X.K wr g) (rdE X.K wr fa) (rdE X.K wr fb) σ H Q := fun σ H Q ⟨μ, env, h, p, h', E, R, e, q⟩ =>
  rdE_bnd E R e q fun μ1 H1 x h1 v _ E1 R1 e1 r1 q1 => rdE_bnd E1 R1 e1 q1 fun μ2 H2 y h2 w s2 E2 R2 e2 r2 q2 =>
    ⟨μ2, h2, x, y, p, h', R2, r1.step s2, r2, e2, q2⟩
theorem rd_op {op : Operator} (ho : OpR X (binaryOp op) (rd2 X.K wr g)) (ha : PE X a (rdE X.K wr fa)) (hb : PE X b (rdE X.K wr fb)) : PE X (.BinOp a op b pos) (rdE X.K wr (eOp g fa fb)) := PE_imp (pe_op ho ha hb) imp_op
theorem rd_cmp {op : CmpOp} (ho : OpR X (compareOp op) (rd2 X.K wr g)) (ha : PE X a (rdE X.K wr fa)) (hb : PE X b (rdE X.K wr fb)) (hm : behindInMarks op b = false) : PE X (.Compare a [op] [b] pos) (rdE X.K wr (eOp g fa fb)) := PE_imp (pe_cmpR ho ha hb hm) imp_op
theorem rd_ix (ho : IxR X (rd2 X.K wr g)) (ha : PE X a (rdE X.K wr fa)) (hb : PE X b (rdE X.K wr fb)) (hs : PlainIx b) : PE X (.Subscript a b pos) (rdE X.K wr (eOp g fa fb)) := PE_imp (pe_ix ho ha hb hs) imp_op
end
/-- a test by its value -/
def eT (f : EF) : TF := fun env h => bnd (f env h) fun x h1 => match x with
  | .bl b => some (b, h1)
  | _ => none
section
variable {X : Cx} {wr : Nat → Bool} {a b : Expr} {fa fb : EF} {g : F2} {pos : Pos}
theorem imp_tB : ∀ σ H Q, rdT X.K wr (eT fa) σ H Q → tB (rdE X.K wr fa) σ H Q := fun σ H Q ⟨μ, env, h, b, h', E, R, e, q⟩ => by
  obtain ⟨x, h1, e1, e2⟩ := of_bnd e
  refine ⟨μ, env, h, x, h1, E, R, e1, fun μ1 H1 v R1 s1 r1 => ?_⟩
  cases x with
  | bl c =>
    cases e2
    exact ⟨b, r1, q μ1 H1 R1 s1⟩
  | _ => cases e2
theorem rt_cmp {op : CmpOp} (ho : OpR X (compareOp op) (rd2 X.K wr g)) (ha : PE X a (rdE X.K wr fa)) (hb : PE X b (rdE X.K wr fb)) (hm : behindInMarks op b = false) : PT X (.Compare a [op] [b] pos) (rdT X.K wr (eT (eOp g fa fb))) :=
  PT_imp (pt_cmpR ho ha hb hm) fun σ H Q q => imp_tB (fa := eOp g fa fb) σ H Q q |> fun z => by
    exact (show tTest (tOp (rd2 X.K wr g) (rdE X.K wr fa) (rdE X.K wr fb)) σ H Q from by
      obtain ⟨μ, env, h, b, h', E, R, e, q⟩ := q
      obtain ⟨x, h1, e1, e2⟩ := of_bnd e
      refine imp_op σ H _ ⟨μ, env, h, x, h1, E, R, e1, fun μ1 H1 v R1 s1 r1 => ?_⟩
      cases x with
      | bl c =>
        cases e2
        exact ⟨b, r1, q μ1 H1 R1 s1⟩
      | _ => cases e2)
theorem rt_val {e : Expr} {f : EF} (h : PE X e (rdE X.K wr f)) (he : ∀ whole, isTrue e X.env whole = (do let v ← whole; standAt e.pos; holding [v] (truthy v))) : PT X e (rdT X.K wr (eT f)) := PT_imp (pt_val h he) imp_tB
end
end KP
set_option Elab.async false
set_option linter.all false
set_option maxRecDepth 100000
/-! KP 3: what operators do. -/
namespace KP
open PySem PySem.Spec PyProof.Rows L2

def lineN : Nat := 16777216
theorem lineN_eq : lineN = sizeLine := sizeLine_eq.symm

/-! ### texts alike -/
def natsEq : List Nat → List Nat → Bool
  | [], [] => true
  | x :: xs, y :: ys => Nat.beq x y && natsEq xs ys
  | _, _ => false
theorem natsEq_iff : ∀ {xs ys : List Nat}, natsEq xs ys = true ↔ xs = ys
  | [], [] => by simp [natsEq]
  | [], _ :: _ => by simp [natsEq]
  | _ :: _, [] => by simp [natsEq]
  | x :: xs, y :: ys => by
    rw [natsEq, Bool.and_eq_true, natsEq_iff, List.cons.injEq]
    exact and_congr_left fun _ => ⟨Nat.eq_of_beq_eq_true, fun e => by rw [e]; exact Nat.beq_refl y⟩
def sEq (a b : Str) : Bool := natsEq a.cps.toList b.cps.toList
theorem sEq_iff {a b : Str} : sEq a b = true ↔ a = b := by
  unfold sEq
  rw [natsEq_iff]
  refine ⟨fun e => ?_, fun e => by rw [e]⟩
  obtain ⟨⟨x⟩⟩ := a
  obtain ⟨⟨y⟩⟩ := b
  simp only at e
  rw [e]
theorem sEq_self (a : Str) : sEq a a = true := sEq_iff.mpr rfl
theorem sEq_dec (a b : Str) : sEq a b = decide (a = b) := by
  rw [Bool.eq_iff_iff, sEq_iff, decide_eq_true_iff]
def kEq : Key → Key → Bool
  | .inl a, .inl b => decide (a = b)
  | .inr a, .inr b => sEq a b
  | _, _ => false
theorem kEq_iff {a b : Key} : kEq a b = true ↔ a = b := by
  cases a <;> cases b <;> simp [kEq, sEq_iff]
theorem kEq_dec (a b : Key) : kEq a b = decide (a = b) := by
  rw [Bool.eq_iff_iff, kEq_iff, decide_eq_true_iff]

/-! ### arithmetic -/
def mulOk (i j : Int) : Bool := (decide (-(2 ^ 64) < i) && decide (i < 2 ^ 64)) || (decide (-(2 ^ 64) < j) && decide (j < 2 ^ 64)) || (decide (i.natAbs < 2 ^ 4000) && decide (j.natAbs < 2 ^ 4000))
def fAdd : F2 := fun x y h => match x, y with
  | .int i, .int j => some (.int (i + j), h)
  | .str i, .str j => if i.length + j.length ≤ lineN then some (.str (i ++ j), h) else none
  | .tup xs, .tup ys => if xs.length + ys.length ≤ lineN then some (.tup (xs ++ ys), h) else none
  | .loc a, .loc b => (match h[a]?, h[b]? with
    | some (.lst xs), some (.lst ys) => if xs.length + ys.length ≤ lineN then some (.loc h.length, h ++ [.lst (xs ++ ys)]) else none
    | _, _ => none)
  | _, _ => none
def fSub : F2 := fun x y h => match x, y with
  | .int i, .int j => some (.int (i - j), h)
  | _, _ => none
def fMul : F2 := fun x y h => match x, y with
  | .int i, .int j => if mulOk i j then some (.int (i * j), h) else none
  | .loc a, .int k => (match h[a]? with
    | some (.lst xs) => if decide (k < 10000) && (decide (-10000 < k) && decide (xs.length * k.toNat ≤ lineN)) then some (.loc h.length, h ++ [.lst (List.replicate k.toNat xs).flatten]) else none
    | _ => none)
  | _, _ => none
def fDiv : F2 := fun x y h => match x, y with
  | .int i, .int j => if (decide (j ≠ 0) && decide (j.natAbs < 1073741824)) then some (.int (i.fdiv j), h) else none
  | _, _ => none
def fMod : F2 := fun x y h => match x, y with
  | .int i, .int j => if decide (j ≠ 0) then some (.int (i.fmod j), h) else none
  | _, _ => none
def fPow : F2 := fun x y h => match x, y with
  | .int i, .int j => if decide (0 ≤ j) && (decide (j ≤ 1000000) && decide (i.natAbs < 2 ^ 64)) then some (.int (i ^ j.toNat), h) else none
  | _, _ => none
/-! ### comparisons -/
def cmpI (p : Int → Int → Bool) : F2 := fun x y h => match x, y with
  | .int i, .int j => some (.bl (p i j), h)
  | _, _ => none

/-! lists told whole (as rl) -/
mutual
def dr (f : Nat → Option PV) : PV → Option PV
  | .tup xs => (drs f xs).map .tup
  | .rl xs => (drs f xs).map .rl
  | .loc n => f n
  | .glo _ => none
  | .non => some .non
  | .bl b => some (.bl b)
  | .int i => some (.int i)
  | .str s => some (.str s)
def drs (f : Nat → Option PV) : List PV → Option (List PV)
  | [] => some []
  | x :: xs => match dr f x with
    | some y => (match drs f xs with
      | some ys => some (y :: ys)
      | none => none)
    | none => none
end
def drN (h : PH) : Nat → Nat → Option PV
  | 0, _ => none
  | k + 1, n => match h[n]? with
    | some (.lst xs) => (drs (drN h k) xs).map .rl
    | _ => none
/-! fit for ==, repr: good signs -/
mutual
def pok : PV → Bool
  | .str s => PyData.strOk s
  | .tup xs => poks xs
  | .rl xs => poks xs
  | .loc _ => false
  | .glo _ => false
  | .non => true
  | .bl _ => true
  | .int _ => true
def poks : List PV → Bool
  | [] => true
  | x :: xs => pok x && poks xs
end
mutual
def pdep : PV → Nat
  | .tup xs => pdeps xs + 1
  | .rl xs => pdeps xs + 1
  | _ => 0
def pdeps : List PV → Nat
  | [] => 0
  | x :: xs => Nat.max (pdep x) (pdeps xs)
end
mutual
def eqP : PV → PV → Bool
  | .non, .non => true
  | .bl a, .bl b => a == b
  | .bl a, .int j => decide ((if a then 1 else 0) = j)
  | .int i, .bl b => decide (i = (if b then 1 else 0))
  | .int i, .int j => decide (i = j)
  | .str x, .str y => sEq x y
  | .rl xs, .rl ys => eqPs xs ys
  | .tup xs, .tup ys => eqPs xs ys
  | _, _ => false
def eqPs : List PV → List PV → Bool
  | [], [] => true
  | x :: xs, y :: ys => eqP x y && eqPs xs ys
  | _, _ => false
end
def fEqB (x y : PV) (h : PH) : Option Bool := match dr (drN h 4) x, dr (drN h 4) y with
  | some a, some b => if pok a && (pok b && decide (Nat.min (pdep a) (pdep b) ≤ 190)) then some (eqP a b) else none
  | _, _ => none
def fEqQ (x y : PV) (h : PH) : Option Bool := match x, y with
  | .str a, .str b => some (sEq a b)
  | x, y => fEqB x y h
def fEq : F2 := fun x y h => (fEqQ x y h).map fun b => (.bl b, h)
def fNe : F2 := fun x y h => (fEqQ x y h).map fun b => (.bl (!b), h)
def fIs : F2 := fun x y h => match y with
  | .non => (match x with
    | .non => some (.bl true, h)
    | _ => some (.bl false, h))
  | _ => none
def fIsNot : F2 := fun x y h => match y with
  | .non => (match x with
    | .non => some (.bl false, h)
    | _ => some (.bl true, h))
  | _ => none

/-! ### in -/
def flatP : PV → Bool
  | .non => true
  | .bl _ => true
  | .int _ => true
  | .str _ => true
  | _ => false
def memP (x : PV) : List PV → Bool
  | [] => false
  | y :: ys => eqP y x || memP x ys
def flatPs : List PV → Bool
  | [] => true
  | x :: xs => flatP x && flatPs xs
def natMem (c : Nat) : List Nat → Bool
  | [] => false
  | x :: xs => Nat.beq c x || natMem c xs
theorem natMem_iff {c : Nat} : ∀ {xs : List Nat}, natMem c xs = true ↔ c ∈ xs
  | [] => by simp [natMem]
  | x :: xs => by
    rw [natMem, Bool.or_eq_true, natMem_iff, List.mem_cons]
    exact or_congr_left ⟨Nat.eq_of_beq_eq_true, fun e => by rw [e]; exact Nat.beq_refl x⟩
def pkey : PV → Option Key
  | .int i => some (.inl i)
  | .str s => some (.inr s)
  | _ => none
def getK {α : Type} (k : Key) : List (Key × α) → Option α
  | [] => none
  | (k', v) :: r => if kEq k' k then some v else getK k r
def fInB (x y : PV) (h : PH) : Option Bool := match y with
  | .str z => (match x with
    | .str ⟨⟨[c]⟩⟩ => some (natMem c z.cps.toList)
    | _ => none)
  | .tup ys => if flatP x && flatPs ys then some (memP x ys) else none
  | .rl ys => if flatP x && flatPs ys then some (memP x ys) else none
  | .loc n => (match h[n]? with
    | some (.lst ys) => if flatP x && flatPs ys then some (memP x ys) else none
    | some (.dic kvs) => (match pkey x with
      | some k => some (getK k kvs).isSome
      | none => none)
    | _ => none)
  | _ => none
def fIn : F2 := fun x y h => (fInB x y h).map fun b => (.bl b, h)
def fNotIn : F2 := fun x y h => (fInB x y h).map fun b => (.bl (!b), h)

/-! ### items, cuts -/
def pix (n : Nat) (i : Int) : Option Nat := if 0 ≤ i then (if i < n then some i.toNat else none) else if -(n : Int) ≤ i then some (i + n).toNat else none
def pat {α : Type} (xs : List α) (i : Int) : Option α := match pix xs.length i with
  | some j => xs[j]?
  | none => none
def fIx : F2 := fun x y h => match x with
  | .tup xs => (match y with
    | .int i => (pat xs i).map fun p => (p, h)
    | _ => none)
  | .rl xs => (match y with
    | .int i => (pat xs i).map fun p => (p, h)
    | _ => none)
  | .str z => (match y with
    | .int i => if z.length ≤ lineN then (pat z.cps.toList i).map fun c => (.str ⟨⟨[c]⟩⟩, h) else none
    | _ => none)
  | .loc n => (match h[n]? with
    | some (.lst xs) => (match y with
      | .int i => (pat xs i).map fun p => (p, h)
      | _ => none)
    | some (.dic kvs) => (match pkey y with
      | some k => (getK k kvs).map fun p => (p, h)
      | none => none)
    | _ => none)
  | _ => none
def pend (n d : Nat) : Option Int → Nat
  | none => d
  | some v => if v < 0 then (v + (n : Int)).toNat else min v.toNat n
def cut {α : Type} (xs : List α) (lo hi : Option Int) : List α := (xs.drop (pend xs.length 0 lo)).take (pend xs.length xs.length hi - pend xs.length 0 lo)
def fSl (x : PV) (lo hi : Option Int) (h : PH) : Option (PV × PH) := match x with
  | .tup xs => some (.tup (cut xs lo hi), h)
  | .str z => if z.length ≤ lineN then some (.str ⟨⟨cut z.cps.toList lo hi⟩⟩, h) else none
  | .rl xs => some (.loc h.length, h ++ [.lst (cut xs lo hi)])
  | .loc n => (match h[n]? with
    | some (.lst xs) => some (.loc h.length, h ++ [.lst (cut xs lo hi)])
    | _ => none)
  | _ => none
end KP
set_option Elab.async false
set_option linter.all false
set_option maxRecDepth 100000
/-! KP 4: the operators are sound. -/
namespace KP
open PySem PySem.Spec PyProof.Rows L2

section
variable {X : Cx} {wr : Nat → Bool}
theorem OpR_of {f : Value → Value → Sem Value} {r' : R2} (h : ∀ (pins : List (Addr × Obj)) (s : Shared) (σ : L2.St) (H : Hp) (x y : V) (v u : Value) (Q : VK), Inv X pins σ H s → RelV x v → RelV y u → r' x y H Q → ∃ r : R2, OpR X f r ∧ r x y H Q) : OpR X f r' :=
  fun pins s σ H x y v u Q I rx ry q => let ⟨_, ho, q'⟩ := h pins s σ H x y v u Q I rx ry q; ho pins s σ H x y v u Q I rx ry q'

theorem s_add : OpR X (binaryOp .Add) (rd2 X.K wr fAdd) := OpR_of fun pins s σ H x y v u Q I rx ry ⟨μ, h, px, py, p, h', R, rpx, rpy, e, g⟩ => by
  unfold fAdd at e
  split at e
  · cases e
    exact ⟨_, op_add, _, _, rpx, rpy, g.same R rfl⟩
  · split at e
    · rename_i hl
      cases e
      exact ⟨_, op_add_str, _, _, rpx, rpy, by rw [lineN_eq] at hl; exact hl, g.same R rfl⟩
    · cases e
  · split at e
    · rename_i xs ys hl
      cases e
      obtain ⟨a, vs, ea, sa, ra⟩ := rpx
      obtain ⟨b, ws, eb, sb, rb⟩ := rpy
      refine ⟨_, op_catA, a, b, vs, ws, ea, eb, sa, sb, by rw [ra.length, rb.length, ← lineN_eq]; exact hl, fun e => ?_, fun e1 e2 => ?_, fun e1 e2 p hp => ?_⟩
      · subst e
        have : xs = [] := List.length_eq_zero_iff.mp ra.length.symm
        subst this
        exact g.same R ⟨b, ws, rfl, sb, rb⟩
      · subst e2
        have : ys = [] := List.length_eq_zero_iff.mp rb.length.symm
        subst this
        rw [List.append_nil] at g
        exact g.same R ⟨a, vs, rfl, sa, ra⟩
      · exact g.tup R hp (ra.append rb)
    · cases e
  · split at e
    · rename_i i j _ _ xs ys h1 h2
      split at e
      · rename_i hl
        cases e
        obtain ⟨a, ha, ea⟩ := rpx
        obtain ⟨b, hb, eb⟩ := rpy
        obtain ⟨vs, hva, ra⟩ := R.lst ha h1
        obtain ⟨ws, hvb, rb⟩ := R.lst hb h2
        exact ⟨_, op_cat, a, b, vs, ws, ea, eb, hva, hvb, by rw [ra.length, rb.length, ← lineN_eq]; exact hl, fun p hp => g.new R rfl hp ⟨_, rfl, ra.append rb⟩⟩
      · cases e
    · cases e
  · cases e
theorem s_sub : OpR X (binaryOp .Sub) (rd2 X.K wr fSub) := OpR_of fun pins s σ H x y v u Q I rx ry ⟨μ, h, px, py, p, h', R, rpx, rpy, e, g⟩ => by
  unfold fSub at e
  split at e
  · cases e
    exact ⟨_, op_sub, _, _, rpx, rpy, g.same R rfl⟩
  · cases e
theorem s_mul : OpR X (binaryOp .Mult) (rd2 X.K wr fMul) := OpR_of fun pins s σ H x y v u Q I rx ry ⟨μ, h, px, py, p, h', R, rpx, rpy, e, g⟩ => by
  unfold fMul at e
  split at e
  · split at e
    · rename_i i j hm
      cases e
      unfold mulOk at hm
      simp only [Bool.or_eq_true, Bool.and_eq_true, decide_eq_true_eq] at hm
      rcases hm with (hm | hm) | hm
      · exact ⟨_, op_mul, _, _, rpx, rpy, .inl hm, g.same R rfl⟩
      · exact ⟨_, op_mul, _, _, rpx, rpy, .inr hm, g.same R rfl⟩
      · exact ⟨_, op_mulW, _, _, rpx, rpy, wide_mul hm.1 hm.2 (by decide) (by decide) (by decide), g.same R rfl⟩
    · cases e
  · split at e
    · rename_i _ k _ xs h1
      split at e
      · rename_i hl
        cases e
        simp only [Bool.and_eq_true, decide_eq_true_eq] at hl
        obtain ⟨a, ha, ea⟩ := rpx
        obtain ⟨vs, hva, ra⟩ := R.lst ha h1
        refine ⟨_, op_rep, a, k, vs, ea, rpy, hva, by omega, by omega, by rw [ra.length, ← lineN_eq]; exact hl.2.2, fun p hp => g.new R rfl hp ⟨_, rfl, ?_⟩⟩
        generalize k.toNat = m
        induction m with
        | zero => exact .nil
        | succ m ih => rw [List.replicate_succ, List.replicate_succ, List.flatten_cons, List.flatten_cons]; exact ra.append ih
      · cases e
    · cases e
  · cases e
theorem s_div : OpR X (binaryOp .FloorDiv) (rd2 X.K wr fDiv) := OpR_of fun pins s σ H x y v u Q I rx ry ⟨μ, h, px, py, p, h', R, rpx, rpy, e, g⟩ => by
  unfold fDiv at e
  split at e
  · split at e
    · rename_i hm
      cases e
      simp only [Bool.and_eq_true, decide_eq_true_eq] at hm
      exact ⟨_, op_fdivN, _, _, rpx, rpy, hm, g.same R rfl⟩
    · cases e
  · cases e
theorem s_mod : OpR X (binaryOp .Mod) (rd2 X.K wr fMod) := OpR_of fun pins s σ H x y v u Q I rx ry ⟨μ, h, px, py, p, h', R, rpx, rpy, e, g⟩ => by
  unfold fMod at e
  split at e
  · split at e
    · rename_i hm
      cases e
      exact ⟨_, op_modN, _, _, rpx, rpy, of_decide_eq_true hm, g.same R rfl⟩
    · cases e
  · cases e
theorem s_pow : OpR X (binaryOp .Pow) (rd2 X.K wr fPow) := OpR_of fun pins s σ H x y v u Q I rx ry ⟨μ, h, px, py, p, h', R, rpx, rpy, e, g⟩ => by
  unfold fPow at e
  split at e
  · split at e
    · rename_i hm
      cases e
      simp only [Bool.and_eq_true, decide_eq_true_eq] at hm
      exact ⟨_, op_pow, _, _, rpx, rpy, hm, g.same R rfl⟩
    · cases e
  · cases e
theorem s_cmpI {op : CmpOp} {p : Int → Int → Bool} (ho : OpR X (compareOp op) (rI0 fun i j => .bl (p i j))) : OpR X (compareOp op) (rd2 X.K wr (cmpI p)) := OpR_of fun pins s σ H x y v u Q I rx ry ⟨μ, h, px, py, q, h', R, rpx, rpy, e, g⟩ => by
  unfold cmpI at e
  split at e
  · cases e
    exact ⟨_, ho, _, _, rpx, rpy, g.same R rfl⟩
  · cases e

/-! ### == -/
mutual
def toD : PV → PyData
  | .bl b => .bool b
  | .int i => .int i
  | .str s => .str s
  | .tup xs => .tuple (toDs xs)
  | .rl xs => .list (toDs xs)
  | _ => .none
def toDs : List PV → List PyData
  | [] => []
  | x :: xs => toD x :: toDs xs
end
theorem memo_poks : ∀ {xs : List PV}, poks xs = true → ∀ x ∈ xs, pok x = true := fun {xs} h x hx => by
  induction xs with
  | nil => cases hx
  | cons y ys ih =>
    rw [poks, Bool.and_eq_true] at h
    rcases List.mem_cons.mp hx with e | hx
    · rw [e]; exact h.1
    · exact ih h.2 hx
mutual
theorem toD_lay : ∀ p : PV, pok p = true → (toD p).canLay0 = true
  | .non, _ => by simp [toD, PyData.canLay0]
  | .bl _, _ => by simp [toD, PyData.canLay0]
  | .int _, _ => by simp [toD, PyData.canLay0]
  | .str s, h => by rw [toD, PyData.canLay0]; exact h
  | .tup xs, h => by rw [toD, PyData.canLay0]; exact toDs_lay xs h
  | .rl xs, h => by rw [toD, PyData.canLay0]; exact toDs_lay xs h
  | .loc _, h => by cases h
  | .glo _, h => by cases h
theorem toDs_lay : ∀ ps : List PV, poks ps = true → PyData.canLayAll0 (toDs ps) = true
  | [], _ => by simp [toDs, PyData.canLayAll0]
  | p :: ps, h => by
    rw [poks, Bool.and_eq_true] at h
    rw [toDs, PyData.canLayAll0, toD_lay p h.1, toDs_lay ps h.2]
    rfl
end
mutual
theorem toD_dep : ∀ p : PV, (toD p).depth = pdep p
  | .non => by simp [toD, pdep, PyData.depth]
  | .bl _ => by simp [toD, pdep, PyData.depth]
  | .int _ => by simp [toD, pdep, PyData.depth]
  | .str _ => by simp [toD, pdep, PyData.depth]
  | .tup xs => by rw [toD, pdep, PyData.depth, toDs_dep xs]
  | .rl xs => by rw [toD, pdep, PyData.depth, toDs_dep xs]
  | .loc _ => by simp [toD, pdep, PyData.depth]
  | .glo _ => by simp [toD, pdep, PyData.depth]
theorem toDs_dep : ∀ ps : List PV, PyData.depthAll (toDs ps) = pdeps ps
  | [] => by simp [toDs, pdeps, PyData.depthAll]
  | p :: ps => by
    rw [toDs, pdeps, PyData.depthAll, toD_dep p, toDs_dep ps]
end
mutual
theorem toD_eq : ∀ p q : PV, pok p = true → pok q = true → PyData.eqv (toD p) (toD q) = eqP p q
  | .non, q, _, h => by cases q <;> first | (simp [toD, eqP, PyData.eqv]; done) | cases h
  | .bl a, q, _, h => by cases q <;> first | (simp [toD, eqP, PyData.eqv, Bool.beq_eq_decide_eq]; done) | cases h
  | .int a, q, _, h => by cases q <;> first | (simp [toD, eqP, PyData.eqv, Bool.beq_eq_decide_eq]; done) | cases h
  | .str a, q, _, h => by
    cases q <;> first
      | (simp [toD, eqP, PyData.eqv]; done)
      | cases h
      | (rw [toD, toD, eqP, PyData.eqv, sEq_dec]; exact Bool.beq_eq_decide_eq _ _)
  | .tup xs, .tup ys, h, h' => by rw [toD, toD, eqP, PyData.eqv]; exact toDs_eq xs ys h h'
  | .rl xs, .rl ys, h, h' => by rw [toD, toD, eqP, PyData.eqv]; exact toDs_eq xs ys h h'
  | .tup _, .non, _, _ => by simp [toD, eqP, PyData.eqv]
  | .tup _, .bl _, _, _ => by simp [toD, eqP, PyData.eqv]
  | .tup _, .int _, _, _ => by simp [toD, eqP, PyData.eqv]
  | .tup _, .str _, _, _ => by simp [toD, eqP, PyData.eqv]
  | .tup _, .rl _, _, _ => by simp [toD, eqP, PyData.eqv]
  | .rl _, .non, _, _ => by simp [toD, eqP, PyData.eqv]
  | .rl _, .bl _, _, _ => by simp [toD, eqP, PyData.eqv]
  | .rl _, .int _, _, _ => by simp [toD, eqP, PyData.eqv]
  | .rl _, .str _, _, _ => by simp [toD, eqP, PyData.eqv]
  | .rl _, .tup _, _, _ => by simp [toD, eqP, PyData.eqv]
  | .tup _, .loc _, _, h => by cases h
  | .tup _, .glo _, _, h => by cases h
  | .rl _, .loc _, _, h => by cases h
  | .rl _, .glo _, _, h => by cases h
  | .loc _, _, h, _ => by cases h
  | .glo _, _, h, _ => by cases h
theorem toDs_eq : ∀ ps qs : List PV, poks ps = true → poks qs = true → PyData.eqvAll (toDs ps) (toDs qs) = eqPs ps qs
  | [], [], _, _ => by simp [toDs, eqPs, PyData.eqvAll]
  | [], _ :: _, _, _ => by simp [toDs, eqPs, PyData.eqvAll]
  | _ :: _, [], _, _ => by simp [toDs, eqPs, PyData.eqvAll]
  | p :: ps, q :: qs, h, h' => by
    rw [poks, Bool.and_eq_true] at h h'
    rw [toDs, toDs, eqPs, PyData.eqvAll, toD_eq p q h.1 h'.1, toDs_eq ps qs h.2 h'.2]
end
section
variable {K : Frg} {μ : List Addr} {H : Hp} {h : PH}
/-- what f tells of a place is to be read there -/
def FOk (K : Frg) (μ : List Addr) (H : Hp) (f : Nat → Option PV) : Prop := ∀ (n : Nat) (a : Addr) (d : PV), μ[n]? = some a → f n = some d → Dp K H (.ref a) (toD d)
mutual
theorem dr_dp {f : Nat → Option PV} (F : FOk K μ H f) : ∀ (p d : PV) (v : V), dr f p = some d → RV K μ H p v → Dp K H v (toD d)
  | .non, _, _, e, r => by cases e; rw [show _ = V.non from r]; exact .non
  | .bl b, _, _, e, r => by cases e; rw [show _ = V.bl b from r]; exact .bl b
  | .int b, _, _, e, r => by cases e; rw [show _ = V.int b from r]; exact .int b
  | .str b, _, _, e, r => by cases e; rw [show _ = V.str b from r]; exact .str b
  | .glo _, _, _, e, _ => by cases e
  | .loc n, d, _, e, ⟨a, ha, ev⟩ => by subst ev; exact F n a d ha e
  | .tup xs, d, _, e, ⟨a, vs, ev, s, r⟩ => by
    subst ev
    rw [dr] at e
    cases q : drs f xs with
    | none => rw [q] at e; cases e
    | some ys =>
      rw [q] at e; cases e
      rw [toD]
      exact .tup s (drs_dp F xs ys vs q r)
  | .rl xs, d, _, e, ⟨a, vs, ev, s, r⟩ => by
    subst ev
    rw [dr] at e
    cases q : drs f xs with
    | none => rw [q] at e; cases e
    | some ys =>
      rw [q] at e; cases e
      rw [toD]
      exact .lst s.sq (drs_dp F xs ys vs q r)
theorem drs_dp {f : Nat → Option PV} (F : FOk K μ H f) : ∀ (ps ds : List PV) (vs : List V), drs f ps = some ds → RVs K μ H ps vs → DpAll K H vs (toDs ds)
  | [], _, _, e, r => by cases e; rw [show _ = ([] : List V) from r]; exact .nil
  | p :: ps, _, _, e, ⟨w, ws, ev, r1, r2⟩ => by
    subst ev
    rw [drs] at e
    cases q : dr f p with
    | none => rw [q] at e; cases e
    | some y =>
      rw [q] at e
      cases q2 : drs f ps with
      | none => rw [q2] at e; cases e
      | some ys =>
        rw [q2] at e; cases e
        rw [toDs]
        exact .cons (dr_dp F p y w q r1) (drs_dp F ps ys ws q2 r2)
end
theorem drN_ok {wr : Nat → Bool} (R : HR K μ wr H h) : ∀ k : Nat, FOk K μ H (drN h k)
  | 0 => fun _ _ _ _ e => nomatch e
  | k + 1 => fun n a d hn e => by
    rw [drN] at e
    split at e
    · rename_i xs ho
      cases q : drs (drN h k) xs with
      | none => rw [q] at e; cases e
      | some ys =>
        rw [q] at e; cases e
        obtain ⟨vs, hv, r⟩ := R.lst hn ho
        rw [toD]
        exact .lst (.of hv) (drs_dp (drN_ok R k) xs ys vs q r)
    · cases e
end
theorem fEqB_ok {x y : V} {μ : List Addr} {h : PH} {px py : PV} {b : Bool} {H : Hp} {K : Frg} (R : HR K μ wr H h) (rx : RV K μ H px x) (ry : RV K μ H py y) (e : fEqB px py h = some b) :
    ∃ d d', Dp K H x d ∧ Dp K H y d' ∧ d.canLay0 = true ∧ d'.canLay0 = true ∧ min d.depth d'.depth ≤ 190 ∧ PyData.eqv d d' = b := by
  unfold fEqB at e
  split at e
  · rename_i a c e1 e2
    split at e
    · rename_i hc
      simp only [Bool.and_eq_true, decide_eq_true_eq] at hc
      cases e
      refine ⟨toD a, toD c, dr_dp (drN_ok R 4) _ _ _ e1 rx, dr_dp (drN_ok R 4) _ _ _ e2 ry, toD_lay a hc.1, toD_lay c hc.2.1, ?_, toD_eq a c hc.1 hc.2.1⟩
      rw [toD_dep, toD_dep]
      exact hc.2.2
    · cases e
  · cases e
theorem s_eq (hr : Room 0 X.A) : OpR X (compareOp .Eq) (rd2 X.K wr fEq) := by
  intro pins s σ H x y v u Q I rx ry ⟨μ, h, px, py, p, h', R, rpx, rpy, e, g⟩
  unfold fEq at e
  cases q : fEqQ px py h with
  | none => rw [q] at e; cases e
  | some b =>
    rw [q] at e; cases e
    unfold fEqQ at q
    split at q
    · rename_i a c
      cases q
      obtain rfl : x = .str a := rpx
      obtain rfl : y = .str c := rpy
      refine op_eq pins s σ H _ _ v u Q I rx ry ⟨rfl, ?_⟩
      have ed : decide (V.str a = V.str c) = sEq a c := by
        rw [sEq_dec]
        exact decide_eq_decide.mpr ⟨fun z => by cases z; rfl, fun z => by rw [z]⟩
      rw [ed]
      exact g.same R rfl
    obtain ⟨d, d', h1, h2, h3, h4, h5, h6⟩ := fEqB_ok R rpx rpy q
    obtain ⟨as, r1⟩ := Dp.reads I d x v h1 rx
    obtain ⟨bs, r2⟩ := Dp.reads I d' y u h2 ry
    have hu := hr.un
    exact SeqAt.compareEq_reads r1 r2 h3 h4 (by omega) ⟨.bl _, H, I, rfl, by rw [h6]; exact g.same R rfl⟩
theorem s_ne (hr : Room 0 X.A) : OpR X (compareOp .NotEq) (rd2 X.K wr fNe) := by
  intro pins s σ H x y v u Q I rx ry ⟨μ, h, px, py, p, h', R, rpx, rpy, e, g⟩
  unfold fNe at e
  cases q : fEqQ px py h with
  | none => rw [q] at e; cases e
  | some b =>
    rw [q] at e; cases e
    unfold fEqQ at q
    split at q
    · rename_i a c
      cases q
      obtain rfl : x = .str a := rpx
      obtain rfl : y = .str c := rpy
      refine op_ne pins s σ H _ _ v u Q I rx ry ⟨rfl, ?_⟩
      have ed : decide (V.str a = V.str c) = sEq a c := by
        rw [sEq_dec]
        exact decide_eq_decide.mpr ⟨fun z => by cases z; rfl, fun z => by rw [z]⟩
      rw [ed]
      exact g.same R rfl
    obtain ⟨d, d', h1, h2, h3, h4, h5, h6⟩ := fEqB_ok R rpx rpy q
    obtain ⟨as, r1⟩ := Dp.reads I d x v h1 rx
    obtain ⟨bs, r2⟩ := Dp.reads I d' y u h2 ry
    have hu := hr.un
    exact SeqAt.compareNe_reads r1 r2 h3 h4 (by omega) ⟨.bl _, H, I, rfl, by rw [h6]; exact g.same R rfl⟩
def isNonP : PV → Bool
  | .non => true
  | _ => false
theorem non_iff {K : Frg} {μ : List Addr} {H : Hp} {p : PV} {v : V} (r : RV K μ H p v) : decide (v = .non) = isNonP p := by
  cases p with
  | non => rw [show v = .non from r]; rfl
  | bl b => rw [show v = .bl b from r]; rfl
  | int b => rw [show v = .int b from r]; rfl
  | str b => rw [show v = .str b from r]; rfl
  | tup xs => obtain ⟨a, _, e, _⟩ := r; rw [e]; rfl
  | rl xs => obtain ⟨a, _, e, _⟩ := r; rw [e]; rfl
  | loc n => obtain ⟨a, _, e⟩ := r; rw [e]; rfl
  | glo x => rw [show v = _ from r]; rfl
theorem s_is : OpR X (compareOp .Is) (rd2 X.K wr fIs) := OpR_of fun pins s σ H x y v u Q I rx ry ⟨μ, h, px, py, p, h', R, rpx, rpy, e, g⟩ => by
  unfold fIs at e
  split at e
  · refine ⟨_, op_isN, rpy, ?_⟩
    rw [non_iff rpx]
    split at e
    · cases e; exact g.same R rfl
    · cases e
      rename_i hn
      cases px with
      | non => exact absurd rfl hn
      | _ => exact g.same R rfl
  · cases e
theorem s_isNot : OpR X (compareOp .IsNot) (rd2 X.K wr fIsNot) := OpR_of fun pins s σ H x y v u Q I rx ry ⟨μ, h, px, py, p, h', R, rpx, rpy, e, g⟩ => by
  unfold fIsNot at e
  split at e
  · refine ⟨_, op_notN, rpy, ?_⟩
    rw [non_iff rpx]
    split at e
    · cases e; exact g.same R rfl
    · cases e
      rename_i hn
      cases px with
      | non => exact absurd rfl hn
      | _ => exact g.same R rfl
  · cases e

/-! ### in -/
theorem flat_v {K : Frg} {μ : List Addr} {H : Hp} {p : PV} {v : V} (r : RV K μ H p v) (f : flatP p = true) : flatV v = true := by
  cases p with
  | non => rw [show v = .non from r]; rfl
  | bl b => rw [show v = .bl b from r]; rfl
  | int b => rw [show v = .int b from r]; rfl
  | str b => rw [show v = .str b from r]; rfl
  | _ => cases f
theorem flat_vs {K : Frg} {μ : List Addr} {H : Hp} : ∀ {ps : List PV} {vs : List V}, RVs K μ H ps vs → flatPs ps = true → vs.all flatV = true
  | [], _, r, _ => by rw [show _ = ([] : List V) from r]; rfl
  | p :: ps, _, ⟨w, ws, e, r1, r2⟩, f => by
    rw [flatPs, Bool.and_eq_true] at f
    subst e
    rw [List.all_cons, flat_v r1 f.1, flat_vs r2 f.2]
    rfl
theorem eqP_v {K : Frg} {μ : List Addr} {H : Hp} {p q : PV} {v w : V} (r : RV K μ H p v) (r' : RV K μ H q w) (f : flatP p = true) (f' : flatP q = true) : eqV v w = eqP p q := by
  cases p with
  | non => rw [show v = .non from r]; cases q with
    | non => rw [show w = .non from r']; rfl
    | bl b => rw [show w = .bl b from r']; rfl
    | int b => rw [show w = .int b from r']; rfl
    | str b => rw [show w = .str b from r']; rfl
    | _ => cases f'
  | bl a => rw [show v = .bl a from r]; cases q with
    | non => rw [show w = .non from r']; rfl
    | bl b => rw [show w = .bl b from r']; rfl
    | int b => rw [show w = .int b from r']; simp [eqV, eqP, Bool.beq_eq_decide_eq]
    | str b => rw [show w = .str b from r']; rfl
    | _ => cases f'
  | int a => rw [show v = .int a from r]; cases q with
    | non => rw [show w = .non from r']; rfl
    | bl b => rw [show w = .bl b from r']; simp [eqV, eqP, Bool.beq_eq_decide_eq]
    | int b => rw [show w = .int b from r']; simp [eqV, eqP, Bool.beq_eq_decide_eq]
    | str b => rw [show w = .str b from r']; rfl
    | _ => cases f'
  | str a => rw [show v = .str a from r]; cases q with
    | non => rw [show w = .non from r']; rfl
    | bl b => rw [show w = .bl b from r']; rfl
    | int b => rw [show w = .int b from r']; rfl
    | str b => rw [show w = .str b from r', eqP, sEq_dec]; exact Bool.beq_eq_decide_eq _ _
    | _ => cases f'
  | _ => cases f
theorem memP_v {K : Frg} {μ : List Addr} {H : Hp} {p : PV} {v : V} (r : RV K μ H p v) (f : flatP p = true) : ∀ {ps : List PV} {vs : List V}, RVs K μ H ps vs → flatPs ps = true → inV v vs = memP p ps
  | [], _, q, _ => by rw [show _ = ([] : List V) from q]; rfl
  | p' :: ps, _, ⟨w, ws, e, r1, r2⟩, g => by
    rw [flatPs, Bool.and_eq_true] at g
    subst e
    rw [memP, ← eqP_v r1 r g.1 f, ← memP_v r f r2 g.2]
    rfl
theorem getK_V {K : Frg} {μ : List Addr} {H : Hp} {k : Key} : ∀ {kvs : List (Key × PV)} {kv' : List (Key × V)}, kv'.map (·.1) = kvs.map (·.1) → RVs K μ H (kvs.map (·.2)) (kv'.map (·.2)) →
    (getK k kvs = none ∧ valV kv' k = none) ∨ ∃ p v, getK k kvs = some p ∧ valV kv' k = some v ∧ RV K μ H p v
  | [], [], _, _ => .inl ⟨rfl, rfl⟩
  | [], _ :: _, e, _ => by simp at e
  | _ :: _, [], e, _ => by simp at e
  | (k1, p) :: kvs, (k2, v) :: kv', e, ⟨w, ws, e2, r1, r2⟩ => by
    simp only [List.map_cons, List.cons.injEq] at e e2
    obtain ⟨e1, e⟩ := e
    obtain ⟨e3, e4⟩ := e2
    subst e1 e3 e4
    rw [getK, kEq_dec]
    by_cases hk : k2 = k
    · subst hk
      rw [valV_pos rfl]
      simp only [decide_true, if_true]
      exact .inr ⟨p, v, rfl, rfl, r1⟩
    · rw [valV_neg hk, decide_eq_false hk, if_neg Bool.false_ne_true]
      exact getK_V e r2
theorem pkey_V {K : Frg} {μ : List Addr} {H : Hp} {p : PV} {v : V} {k : Key} (r : RV K μ H p v) (e : pkey p = some k) : v = kV k := by
  cases p with
  | int i => cases e; exact r
  | str i => cases e; exact r
  | _ => cases e
theorem DGet_of {K : Frg} {μ : List Addr} {wr : Nat → Bool} {H : Hp} {h : PH} {n : Nat} {a : Addr} {p : PV} {v : V} {k : Key} {kvs : List (Key × PV)} (R : HR K μ wr H h) (hn : μ[n]? = some a) (ho : h[n]? = some (.dic kvs)) (r : RV K μ H p v) (e : pkey p = some k) :
    (getK k kvs = none ∧ DGet H a v none) ∨ ∃ q w, getK k kvs = some q ∧ DGet H a v (some w) ∧ RV K μ H q w := by
  obtain ⟨kv', h1, _, h2, h3⟩ := R.dic hn ho
  have ev := pkey_V r e
  rcases getK_V (k := k) h2 h3 with ⟨g1, g2⟩ | ⟨q, w, g1, g2, g3⟩
  · exact .inl ⟨g1, .inl ⟨kv', k, h1, ev, g2.symm⟩⟩
  · exact .inr ⟨q, w, g1, .inl ⟨kv', k, h1, ev, g2.symm⟩, g3⟩
theorem fIn_cases {K : Frg} {μ : List Addr} {H : Hp} {h : PH} {px py : PV} {x y : V} {b : Bool} (R : HR K μ wr H h) (rx : RV K μ H px x) (ry : RV K μ H py y) (e : fInB px py h = some b) :
    (∃ (c : Nat) (z : Str), x = .str ⟨#[c]⟩ ∧ y = .str z ∧ decide (c ∈ z.cps.toList) = b) ∨ (∃ p xs, y = .ref p ∧ (SqL K H p xs ∨ SqT K H p xs) ∧ flatV x = true ∧ xs.all flatV = true ∧ inV x xs = b) ∨
      ∃ a o, y = .ref a ∧ DGet H a x o ∧ o.isSome = b := by
  unfold fInB at e
  split at e
  · split at e
    · rename_i c
      cases e
      exact .inl ⟨c, _, rx, ry, by rw [Bool.eq_iff_iff, natMem_iff, decide_eq_true_iff]⟩
    · cases e
  · split at e
    · rename_i ys hf
      cases e
      rw [Bool.and_eq_true] at hf
      obtain ⟨a, vs, ey, s, r⟩ := ry
      exact .inr (.inl ⟨a, vs, ey, .inr s, flat_v rx hf.1, flat_vs r hf.2, memP_v rx hf.1 r hf.2⟩)
    · cases e
  · split at e
    · rename_i ys hf
      cases e
      rw [Bool.and_eq_true] at hf
      obtain ⟨a, vs, ey, s, r⟩ := ry
      exact .inr (.inl ⟨a, vs, ey, .inl s.sq, flat_v rx hf.1, flat_vs r hf.2, memP_v rx hf.1 r hf.2⟩)
    · cases e
  · obtain ⟨a, ha, ey⟩ := ry
    split at e
    · rename_i ys ho
      split at e
      · rename_i hf
        cases e
        rw [Bool.and_eq_true] at hf
        obtain ⟨vs, hv, r⟩ := R.lst ha ho
        exact .inr (.inl ⟨a, vs, ey, .inl (.of hv), flat_v rx hf.1, flat_vs r hf.2, memP_v rx hf.1 r hf.2⟩)
      · cases e
    · rename_i kvs ho
      split at e
      · rename_i k hk
        cases e
        rcases DGet_of R ha ho rx hk with ⟨g1, g2⟩ | ⟨q, w, g1, g2, _⟩
        · exact .inr (.inr ⟨a, none, ey, g2, by rw [g1]; rfl⟩)
        · exact .inr (.inr ⟨a, some w, ey, g2, by rw [g1]; rfl⟩)
      · cases e
    · cases e
  · cases e
theorem op_inD (hr : Room 0 X.A) : OpR X (compareOp .In) (fun x y H Q => ∃ a o, y = .ref a ∧ DGet H a x o ∧ Q (.bl o.isSome) H) := fun pins s σ H x y v u Q I rx ry ⟨a, o, ey, g, q⟩ => by
  subst ey
  obtain rfl : u = Value.ref a := ry
  have := hr.un
  exact d_in (by omega) I g rx fun s' I' => ⟨.bl _, H, I', rfl, q⟩
theorem op_notInD (hr : Room 0 X.A) : OpR X (compareOp .NotIn) (fun x y H Q => ∃ a o, y = .ref a ∧ DGet H a x o ∧ Q (.bl (!o.isSome)) H) := fun pins s σ H x y v u Q I rx ry ⟨a, o, ey, g, q⟩ => by
  subst ey
  obtain rfl : u = Value.ref a := ry
  have := hr.un
  exact d_notIn (by omega) I g rx fun s' I' => ⟨.bl _, H, I', rfl, q⟩
theorem s_in (hr : Room 0 X.A) : OpR X (compareOp .In) (rd2 X.K wr fIn) := OpR_of fun pins s σ H x y v u Q I rx ry ⟨μ, h, px, py, p, h', R, rpx, rpy, e, g⟩ => by
  unfold fIn at e
  cases q : fInB px py h with
  | none => rw [q] at e; cases e
  | some b =>
    rw [q] at e; cases e
    rcases fIn_cases R rpx rpy q with ⟨c, z, e1, e2, e3⟩ | ⟨a, xs, e1, e2, e3, e4, e5⟩ | ⟨a, o, e1, e2, e3⟩
    · exact ⟨_, op_in_sign, c, z, e1, e2, by rw [e3]; exact g.same R rfl⟩
    · exact ⟨_, op_in_seq, a, xs, e1, e2, e3, e4, by rw [e5]; exact g.same R rfl⟩
    · exact ⟨_, op_inD hr, a, o, e1, e2, by rw [e3]; exact g.same R rfl⟩
theorem s_notIn (hr : Room 0 X.A) : OpR X (compareOp .NotIn) (rd2 X.K wr fNotIn) := OpR_of fun pins s σ H x y v u Q I rx ry ⟨μ, h, px, py, p, h', R, rpx, rpy, e, g⟩ => by
  unfold fNotIn at e
  cases q : fInB px py h with
  | none => rw [q] at e; cases e
  | some b =>
    rw [q] at e; cases e
    rcases fIn_cases R rpx rpy q with ⟨c, z, e1, e2, e3⟩ | ⟨a, xs, e1, e2, e3, e4, e5⟩ | ⟨a, o, e1, e2, e3⟩
    · exact ⟨_, op_notIn_sign, c, z, e1, e2, by rw [e3]; exact g.same R rfl⟩
    · exact ⟨_, op_notIn_seq, a, xs, e1, e2, e3, e4, by rw [e5]; exact g.same R rfl⟩
    · exact ⟨_, op_notInD hr, a, o, e1, e2, by rw [e3]; exact g.same R rfl⟩

/-! ### items, cuts -/
theorem pat_atI {α : Type} (xs : List α) (i : Int) : pat xs i = atI xs i := by
  unfold pat atI pix ixN
  split <;> (first | rfl | (rename_i e; rw [e]; rfl))
theorem RVs.atI {K : Frg} {μ : List Addr} {H : Hp} {ps : List PV} {vs : List V} {i : Int} {p : PV} (r : RVs K μ H ps vs) (e : pat ps i = some p) : ∃ v, L2.atI vs i = some v ∧ RV K μ H p v := by
  rw [pat_atI] at e
  unfold L2.atI at e ⊢
  rw [r.length]
  cases q : ixN ps.length i with
  | none => rw [q] at e; cases e
  | some j =>
    rw [q] at e
    exact r.get e
theorem ix_dic (hr : Room 0 X.A) : IxR X (fun x y H Q => ∃ a v, x = .ref a ∧ DGet H a y (some v) ∧ Q v H) := fun value slice pins s σ H x y v u Q I rx ry ⟨a, w, ex, g, q⟩ hs => by
  subst ex
  obtain rfl : v = Value.ref a := rx
  have := hr.un
  have hT := dict_typeIs I g
  unfold subscriptTail
  refine wpAny_bind ?_
  rw [getitemInPython_of_ne hT.not_modules]
  refine wpAny_bind (wpAny_specialOf hT PySem.F.slot_dict_getitem.lookup ?_)
  have fin : wpAny (model X.prog X.w) X.A (subscripted slice false (.ref a) u) (fun r s₃ => wpAny (model X.prog X.w) X.A (letTemporaryGo value (.ref a) r >>= fun _ => pure r) (EP X pins σ Q) X.xe s₃) X.xe s := by
    rw [hs]
    exact wpAny_operating (d_getItem (by omega) I g ry fun w' s' I' rw' => wpAny_bind (wpAny_letTemporaryGo (wpAny_pure ⟨w, H, I', rw', q⟩)))
  first
    | exact wpAny_pure (wpAny_bind fin)
    | exact wpAny_bind (wpAny_pure (wpAny_bind fin))
    | exact wpAny_bind fin
theorem IxR_of {r' : R2} (h : ∀ (H : Hp) (x y : V) (Q : VK), r' x y H Q → ∃ r : R2, IxR X r ∧ r x y H Q) : IxR X r' :=
  fun value slice pins s σ H x y v u Q I rx ry q hs => let ⟨_, ho, q'⟩ := h H x y Q q; ho value slice pins s σ H x y v u Q I rx ry q' hs
theorem s_ix (hr : Room 0 X.A) : IxR X (rd2 X.K wr fIx) := IxR_of fun H x y Q ⟨μ, h, px, py, p, h', R, rpx, rpy, e, g⟩ => by
  unfold fIx at e
  split at e
  · split at e
    · rename_i xs _ i
      cases q : pat xs i with
      | none => rw [q] at e; cases e
      | some z =>
        rw [q] at e; cases e
        obtain ⟨a, vs, ea, sa, ra⟩ := rpx
        obtain ⟨v, h1, h2⟩ := ra.atI q
        exact ⟨_, ix_tup, a, vs, i, v, ea, rpy, sa, h1, g.same R h2⟩
    · cases e
  · split at e
    · rename_i xs _ i
      cases q : pat xs i with
      | none => rw [q] at e; cases e
      | some z =>
        rw [q] at e; cases e
        obtain ⟨a, vs, ea, sa, ra⟩ := rpx
        obtain ⟨v, h1, h2⟩ := ra.atI q
        exact ⟨_, ix_list, a, vs, i, v, ea, rpy, sa.sq, h1, g.same R h2⟩
    · cases e
  · split at e
    · rename_i z _ i
      split at e
      · rename_i hl
        cases q : pat z.cps.toList i with
        | none => rw [q] at e; cases e
        | some c =>
          rw [q] at e; cases e
          rw [pat_atI] at q
          exact ⟨_, ix_str, z, i, c, rpx, rpy, by rw [← lineN_eq]; exact hl, q, g.same R rfl⟩
      · cases e
    · cases e
  · obtain ⟨a, ha, ex⟩ := rpx
    split at e
    · rename_i xs ho
      split at e
      · rename_i i
        cases q : pat xs i with
        | none => rw [q] at e; cases e
        | some z =>
          rw [q] at e; cases e
          obtain ⟨vs, hv, ra⟩ := R.lst ha ho
          obtain ⟨v, h1, h2⟩ := ra.atI q
          exact ⟨_, ix_list, a, vs, i, v, ex, rpy, .of hv, h1, g.same R h2⟩
      · cases e
    · rename_i kvs ho
      split at e
      · rename_i k hk
        rcases DGet_of R ha ho rpy hk with ⟨g1, g2⟩ | ⟨q, w, g1, g2, g3⟩
        · rw [g1] at e; cases e
        · rw [g1] at e; cases e
          exact ⟨_, ix_dic hr, a, w, ex, g2, g.same R g3⟩
      · cases e
    · cases e
  · cases e
theorem pend_sIx (n d : Nat) (o : Option Int) : pend n d o = HT.sIx n d o := by cases o <;> rfl
theorem cut_cutV (xs : List V) (lo hi : Option Int) : cut xs lo hi = cutV xs lo hi := by
  unfold cut cutV
  rw [pend_sIx, pend_sIx]
theorem RVs.cut {K : Frg} {μ : List Addr} {H : Hp} {ps : List PV} {vs : List V} (r : RVs K μ H ps vs) (lo hi : Option Int) : RVs K μ H (KP.cut ps lo hi) (cutV vs lo hi) := by
  rw [← cut_cutV]
  unfold KP.cut
  rw [r.length]
  exact (r.drop _).take _
theorem cut_all {α : Type} (xs : List α) (lo hi : Option Int) (h : HT.sIx xs.length 0 lo = 0 ∧ HT.sIx xs.length xs.length hi = xs.length) : cut xs lo hi = xs := by
  unfold cut
  rw [pend_sIx, pend_sIx, h.1, h.2]
  simp
def rdSl (K : Frg) (wr : Nat → Bool) (g : PV → Option Int → Option Int → PH → Option (PV × PH)) : V → Option Int → Option Int → Hp → VK → Prop := fun x lo hi H Q => ∃ μ h px p h', HR K μ wr H h ∧ RV K μ H px x ∧ g px lo hi h = some (p, h') ∧ Go K μ wr H p h' Q
theorem SlR_of {r' : V → Option Int → Option Int → Hp → VK → Prop} (h : ∀ (H : Hp) (x : V) (lo hi : Option Int) (Q : VK), r' x lo hi H Q → ∃ r, SlR X r ∧ r x lo hi H Q) : SlR X r' :=
  fun pins s σ H x v vl vu lo hi sl Q I rx hs pl pu q => let ⟨_, ho, q'⟩ := h H x lo hi Q q; ho pins s σ H x v vl vu lo hi sl Q I rx hs pl pu q'
theorem s_sl : SlR X (rdSl X.K wr fSl) := SlR_of fun H x lo hi Q ⟨μ, h, px, p, h', R, rpx, e, g⟩ => by
  unfold fSl at e
  split at e
  · rename_i xs
    cases e
    obtain ⟨a, vs, ea, sa, ra⟩ := rpx
    refine ⟨_, sl_tupA, a, vs, ea, sa, fun w => ?_, fun w p hp => g.tup R hp (ra.cut lo hi)⟩
    have e : cut xs lo hi = xs := cut_all xs lo hi (by rw [← ra.length]; exact w)
    rw [e] at g
    exact g.same R ⟨a, vs, rfl, sa, ra⟩
  · split at e
    · rename_i z hl
      cases e
      refine ⟨_, sl_str, z, rpx, by rw [← lineN_eq]; exact hl, ?_⟩
      have e : cutS z lo hi = ⟨⟨cut z.cps.toList lo hi⟩⟩ := by
        unfold cutS cut
        rw [pend_sIx, pend_sIx, Array.length_toList]
        rfl
      rw [e]
      exact g.same R rfl
    · cases e
  · cases e
    obtain ⟨a, vs, ea, sa, ra⟩ := rpx
    exact ⟨_, sl_list, a, vs, ea, sa.sq, fun p hp => g.new R rfl hp ⟨_, rfl, ra.cut lo hi⟩⟩
  · obtain ⟨a, ha, ex⟩ := rpx
    split at e
    · rename_i xs ho
      cases e
      obtain ⟨vs, hv, ra⟩ := R.lst ha ho
      exact ⟨_, sl_list, a, vs, ex, .of hv, fun p hp => g.new R rfl hp ⟨_, rfl, ra.cut lo hi⟩⟩
    · cases e
  · cases e
end
end KP
set_option Elab.async false
set_option linter.all false
set_option maxRecDepth 100000
/-! KP 5: built-in functions and methods. -/
namespace KP
open PySem PySem.Spec PyProof.Rows L2

/-- the items of a list or tuple, of a place too -/
def itemsOf (h : PH) : PV → Option (List PV)
  | .tup xs => some xs
  | .rl xs => some xs
  | .loc n => (match h[n]? with
    | some (.lst xs) => some xs
    | _ => none)
  | _ => none
def listOf (h : PH) : PV → Option (List PV)
  | .rl xs => some xs
  | .loc n => (match h[n]? with
    | some (.lst xs) => some xs
    | _ => none)
  | _ => none
theorem listOf_ok {K : Frg} {μ : List Addr} {wr : Nat → Bool} {H : Hp} {h : PH} {p : PV} {v : V} {xs : List PV} (R : HR K μ wr H h) (r : RV K μ H p v) (e : listOf h p = some xs) : ∃ a vs, v = .ref a ∧ SqL K H a vs ∧ RVs K μ H xs vs := by
  unfold listOf at e
  split at e
  · cases e
    obtain ⟨a, vs, ea, s, q⟩ := r
    exact ⟨a, vs, ea, s.sq, q⟩
  · obtain ⟨a, ha, ea⟩ := r
    split at e
    · rename_i ho
      cases e
      obtain ⟨vs, hv, q⟩ := R.lst ha ho
      exact ⟨a, vs, ea, .of hv, q⟩
    · cases e
  · cases e
theorem itemsOf_ok {K : Frg} {μ : List Addr} {wr : Nat → Bool} {H : Hp} {h : PH} {p : PV} {v : V} {xs : List PV} (R : HR K μ wr H h) (r : RV K μ H p v) (e : itemsOf h p = some xs) : ∃ a vs, v = .ref a ∧ (SqL K H a vs ∨ SqT K H a vs) ∧ RVs K μ H xs vs := by
  unfold itemsOf at e
  split at e
  · cases e
    obtain ⟨a, vs, ea, s, q⟩ := r
    exact ⟨a, vs, ea, .inr s, q⟩
  · cases e
    obtain ⟨a, vs, ea, s, q⟩ := r
    exact ⟨a, vs, ea, .inl s.sq, q⟩
  · obtain ⟨a, ha, ea⟩ := r
    split at e
    · rename_i ho
      cases e
      obtain ⟨vs, hv, q⟩ := R.lst ha ho
      exact ⟨a, vs, ea, .inl (.of hv), q⟩
    · cases e
  · cases e

def gLen : FN := fun ps h => match ps with
  | [.str s] => if s.length ≤ lineN then some (.int s.length, h) else none
  | [.loc n] => (match h[n]? with
    | some (.lst xs) => some (.int xs.length, h)
    | some (.dic kvs) => some (.int kvs.length, h)
    | _ => none)
  | [.tup xs] => some (.int xs.length, h)
  | [.rl xs] => some (.int xs.length, h)
  | _ => none
def bools : List PV → Option (List Bool)
  | [] => some []
  | .bl b :: r => (bools r).map (b :: ·)
  | _ :: _ => none
def gAll : FN := fun ps h => match ps with
  | [p] => (listOf h p).bind fun xs => (bools xs).map fun bs => (.bl (bs.all id), h)
  | _ => none
def gAny : FN := fun ps h => match ps with
  | [p] => (listOf h p).bind fun xs => (bools xs).map fun bs => (.bl (bs.any id), h)
  | _ => none
def gTuple : FN := fun ps h => match ps with
  | [p] => (itemsOf h p).map fun xs => (.tup xs, h)
  | _ => none
def gList : FN := fun ps h => match ps with
  | [.loc n] => (match h[n]? with
    | some (.lst xs) => some (.loc h.length, h ++ [.lst xs])
    | some (.dic kvs) => some (.loc h.length, h ++ [.lst (kvs.map fun kv => match kv.1 with | .inl i => .int i | .inr s => .str s)])
    | _ => none)
  | [.tup xs] => some (.loc h.length, h ++ [.lst xs])
  | [.rl xs] => some (.loc h.length, h ++ [.lst xs])
  | _ => none
def gInt : FN := fun ps h => match ps with
  | [.int i] => some (.int i, h)
  | [.bl b] => some (.int (if b then 1 else 0), h)
  | _ => none
def gBool : FN := fun ps h => match ps with
  | [.int i] => some (.bl (i != 0), h)
  | [.bl b] => some (.bl b, h)
  | _ => none
def gStr : FN := fun ps h => match ps with
  | [.int i] => if i.natAbs < 10 ^ 500 then some (.str (toString i), h) else none
  | [.str s] => some (.str s, h)
  | _ => none
def gMin : FN := fun ps h => match ps with
  | [.int i, .int j] => some (.int (if j < i then j else i), h)
  | _ => none
def gMax : FN := fun ps h => match ps with
  | [.int i, .int j] => some (.int (if j > i then j else i), h)
  | _ => none
def gAbs : FN := fun ps h => match ps with
  | [.int i] => some (.int (if i < 0 then -i else i), h)
  | _ => none
def intsP : List PV → Option (List Int)
  | [] => some []
  | .int b :: r => (intsP r).map (b :: ·)
  | _ :: _ => none
def gSum : FN := fun ps h => match ps with
  | [p] => (listOf h p).bind fun xs => (intsP xs).map fun bs => (.int bs.sum, h)
  | _ => none
def gDict : FN := fun ps h => match ps with
  | [.loc n] => (match h[n]? with
    | some (.dic kvs) => some (.loc h.length, h ++ [.dic kvs])
    | _ => none)
  | _ => none

section
variable {X : Cx} {wr : Nat → Bool}
theorem CallR_of {f : Value} {r' : List V → Hp → VK → Prop} (h : ∀ (H : Hp) (xs : List V) (Q : VK), r' xs H Q → ∃ r, CallR X f r ∧ r xs H Q) : CallR X f r' :=
  fun pins s σ H xs us Q I rx q => let ⟨_, ho, q'⟩ := h H xs Q q; ho pins s σ H xs us Q I rx q'
theorem one_of {K : Frg} {μ : List Addr} {H : Hp} {p : PV} {xs : List V} (r : RVs K μ H [p] xs) : ∃ v, xs = [v] ∧ RV K μ H p v := by
  obtain ⟨w, ws, e, r1, r2⟩ := r
  rw [show ws = [] from r2] at e
  exact ⟨w, e, r1⟩
theorem two_of {K : Frg} {μ : List Addr} {H : Hp} {p q : PV} {xs : List V} (r : RVs K μ H [p, q] xs) : ∃ v w, xs = [v, w] ∧ RV K μ H p v ∧ RV K μ H q w := by
  obtain ⟨w, ws, e, r1, r2⟩ := r
  obtain ⟨v, rfl, r3⟩ := one_of r2
  exact ⟨w, v, e, r1, r3⟩
theorem bools_ok {K : Frg} {μ : List Addr} {H : Hp} : ∀ {ps : List PV} {vs : List V} {bs : List Bool}, RVs K μ H ps vs → bools ps = some bs → vs = bs.map V.bl
  | [], _, _, r, e => by cases e; exact r
  | p :: ps, _, bs, ⟨w, ws, ev, r1, r2⟩, e => by
    cases p with
    | bl b =>
      rw [bools] at e
      cases q : bools ps with
      | none => rw [q] at e; cases e
      | some cs =>
        rw [q] at e; cases e
        rw [ev, show w = .bl b from r1, bools_ok r2 q]
        rfl
    | _ => cases e
theorem intsP_ok {K : Frg} {μ : List Addr} {H : Hp} : ∀ {ps : List PV} {vs : List V} {bs : List Int}, RVs K μ H ps vs → intsP ps = some bs → vs = bs.map V.int
  | [], _, _, r, e => by cases e; exact r
  | p :: ps, _, bs, ⟨w, ws, ev, r1, r2⟩, e => by
    cases p with
    | int b =>
      rw [intsP] at e
      cases q : intsP ps with
      | none => rw [q] at e; cases e
      | some cs =>
        rw [q] at e; cases e
        rw [ev, show w = .int b from r1, intsP_ok r2 q]
        rfl
    | _ => cases e
theorem call_lenRd : CallR X (.builtin "len") (fun xs H Q => ∃ a kvs, xs = [V.ref a] ∧ Rd H a (.dK kvs) ∧ Q (.int kvs.length) H) := by
  intro pins s σ H xs us Q I r h
  obtain ⟨a, kvs, rfl, ha, q⟩ := h
  obtain ⟨u, rfl, ru⟩ := vals1 r
  cases ru
  exact d_len I ha fun t s' I' => ⟨.int kvs.length, H, I', ⟨t, rfl⟩, q⟩
theorem s_len : CallR X (.builtin "len") (rdN X.K wr gLen) := CallR_of fun H xs Q ⟨μ, h, ps, p, h', R, rp, e, g⟩ => by
  unfold gLen at e
  split at e
  · split at e
    · rename_i s hl
      cases e
      obtain ⟨v, rfl, r⟩ := one_of rp
      exact ⟨_, call_len_str, s, by rw [show v = .str s from r], by rw [← lineN_eq]; exact hl, g.same R rfl⟩
    · cases e
  · obtain ⟨v, rfl, a, ha, ev⟩ := one_of rp
    subst ev
    split at e
    · rename_i ys ho
      cases e
      obtain ⟨vs, hv, r⟩ := R.lst ha ho
      exact ⟨_, call_len_seq, a, vs, rfl, .inl (.of hv), by rw [r.length]; exact g.same R rfl⟩
    · rename_i kvs ho
      cases e
      obtain ⟨kv', h1, _, h2, h3⟩ := R.dic ha ho
      have e2 : kv'.length = kvs.length := by have := congrArg List.length h2; simpa using this
      exact ⟨_, call_lenRd, a, kv', rfl, h1, by rw [e2]; exact g.same R rfl⟩
    · cases e
  · cases e
    obtain ⟨v, rfl, a, vs, ev, s, r⟩ := one_of rp
    subst ev
    exact ⟨_, call_len_seq, a, vs, rfl, .inr s, by rw [r.length]; exact g.same R rfl⟩
  · cases e
    obtain ⟨v, rfl, a, vs, ev, s, r⟩ := one_of rp
    subst ev
    exact ⟨_, call_len_seq, a, vs, rfl, .inl s.sq, by rw [r.length]; exact g.same R rfl⟩
  · cases e
theorem s_all (hc : X.calm = true) : CallR X (.builtin "all") (rdN X.K wr gAll) := CallR_of fun H xs Q ⟨μ, h, ps, p, h', R, rp, e, g⟩ => by
  unfold gAll at e
  split at e
  · rename_i p0
    cases q : listOf h p0 with
    | none => rw [q] at e; cases e
    | some ys =>
      rw [q] at e
      cases q2 : bools ys with
      | none => simp only [Option.bind_some, q2] at e; cases e
      | some bs =>
        simp only [Option.bind_some, q2] at e
        cases e
        obtain ⟨v, rfl, r⟩ := one_of rp
        obtain ⟨a, vs, ev, s, rr⟩ := listOf_ok R r q
        subst ev
        exact ⟨_, cr_all hc, a, bs, rfl, by rw [← bools_ok rr q2]; exact s, g.same R rfl⟩
  · cases e
theorem s_any (hc : X.calm = true) : CallR X (.builtin "any") (rdN X.K wr gAny) := CallR_of fun H xs Q ⟨μ, h, ps, p, h', R, rp, e, g⟩ => by
  unfold gAny at e
  split at e
  · rename_i p0
    cases q : listOf h p0 with
    | none => rw [q] at e; cases e
    | some ys =>
      rw [q] at e
      cases q2 : bools ys with
      | none => simp only [Option.bind_some, q2] at e; cases e
      | some bs =>
        simp only [Option.bind_some, q2] at e
        cases e
        obtain ⟨v, rfl, r⟩ := one_of rp
        obtain ⟨a, vs, ev, s, rr⟩ := listOf_ok R r q
        subst ev
        exact ⟨_, cr_any hc, a, bs, rfl, by rw [← bools_ok rr q2]; exact s, g.same R rfl⟩
  · cases e
theorem s_sum (hc : X.calm = true) : CallR X (.builtin "sum") (rdN X.K wr gSum) := CallR_of fun H xs Q ⟨μ, h, ps, p, h', R, rp, e, g⟩ => by
  unfold gSum at e
  split at e
  · rename_i p0
    cases q : listOf h p0 with
    | none => rw [q] at e; cases e
    | some ys =>
      rw [q] at e
      cases q2 : intsP ys with
      | none => simp only [Option.bind_some, q2] at e; cases e
      | some bs =>
        simp only [Option.bind_some, q2] at e
        cases e
        obtain ⟨v, rfl, r⟩ := one_of rp
        obtain ⟨a, vs, ev, s, rr⟩ := listOf_ok R r q
        subst ev
        exact ⟨_, cr_sum hc, a, bs, rfl, by rw [← intsP_ok rr q2]; exact s, g.same R rfl⟩
  · cases e
theorem s_tuple : CallR X (.type "tuple") (rdN X.K wr gTuple) := CallR_of fun H xs Q ⟨μ, h, ps, p, h', R, rp, e, g⟩ => by
  unfold gTuple at e
  split at e
  · rename_i p0
    cases q : itemsOf h p0 with
    | none => rw [q] at e; cases e
    | some ys =>
      rw [q] at e
      cases e
      obtain ⟨v, rfl, r⟩ := one_of rp
      obtain ⟨a, vs, ev, s, rr⟩ := itemsOf_ok R r q
      subst ev
      refine ⟨_, call_tuple_of, a, vs, rfl, ?_⟩
      rcases s with s | s
      · exact .inl ⟨s, fun l hl => g.tup R hl rr⟩
      · exact .inr ⟨s, g.same R ⟨a, vs, rfl, s, rr⟩⟩
  · cases e
theorem s_list (hc : X.calm = true) : CallR X (.type "list") (rdN X.K wr gList) := CallR_of fun H xs Q ⟨μ, h, ps, p, h', R, rp, e, g⟩ => by
  unfold gList at e
  split at e
  · obtain ⟨v, rfl, a, ha, ev⟩ := one_of rp
    subst ev
    split at e
    · rename_i ys ho
      cases e
      obtain ⟨vs, hv, r⟩ := R.lst ha ho
      exact ⟨_, call_list_of, a, vs, rfl, .inl (.of hv), fun l hl => g.new R rfl hl ⟨_, rfl, r⟩⟩
    · rename_i kvs ho
      cases e
      obtain ⟨kv', h1, _, h2, h3⟩ := R.dic ha ho
      refine ⟨_, call_listD hc, a, kv', rfl, h1, fun l hl => g.new R rfl hl ⟨_, rfl, ?_⟩⟩
      have e2 : kv'.map (fun kv => kV kv.1) = (kvs.map (·.1)).map kV := by rw [← h2, List.map_map]; rfl
      rw [e2, List.map_map]
      clear e2 h1 h2 h3 g ho R ha
      induction kvs with
      | nil => exact .nil
      | cons kv r ih =>
        refine .cons ?_ ih
        obtain ⟨k, z⟩ := kv
        cases k <;> rfl
    · cases e
  · cases e
    obtain ⟨v, rfl, a, vs, ev, s, r⟩ := one_of rp
    subst ev
    exact ⟨_, call_list_of, a, vs, rfl, .inr s, fun l hl => g.new R rfl hl ⟨_, rfl, r⟩⟩
  · cases e
    obtain ⟨v, rfl, a, vs, ev, s, r⟩ := one_of rp
    subst ev
    exact ⟨_, call_list_of, a, vs, rfl, .inl s.sq, fun l hl => g.new R rfl hl ⟨_, rfl, r⟩⟩
  · cases e
theorem s_int : CallR X (.type "int") (rdN X.K wr gInt) := CallR_of fun H xs Q ⟨μ, h, ps, p, h', R, rp, e, g⟩ => by
  unfold gInt at e
  split at e
  · cases e
    obtain ⟨v, rfl, r⟩ := one_of rp
    exact ⟨_, call_int1, .inl ⟨_, by rw [show v = .int _ from r], g.same R rfl⟩⟩
  · cases e
    obtain ⟨v, rfl, r⟩ := one_of rp
    exact ⟨_, call_int1, .inr ⟨_, by rw [show v = .bl _ from r], g.same R rfl⟩⟩
  · cases e
theorem s_bool : CallR X (.type "bool") (rdN X.K wr gBool) := CallR_of fun H xs Q ⟨μ, h, ps, p, h', R, rp, e, g⟩ => by
  unfold gBool at e
  split at e
  · cases e
    obtain ⟨v, rfl, r⟩ := one_of rp
    exact ⟨_, call_bool1, .inl ⟨_, by rw [show v = .int _ from r], g.same R rfl⟩⟩
  · cases e
    obtain ⟨v, rfl, r⟩ := one_of rp
    exact ⟨_, call_bool1, .inr ⟨_, by rw [show v = .bl _ from r], g.same R rfl⟩⟩
  · cases e
theorem s_str : CallR X (.type "str") (rdN X.K wr gStr) := CallR_of fun H xs Q ⟨μ, h, ps, p, h', R, rp, e, g⟩ => by
  unfold gStr at e
  split at e
  · split at e
    · rename_i i hl
      cases e
      obtain ⟨v, rfl, r⟩ := one_of rp
      refine ⟨_, call_str_int, i, by rw [show v = .int _ from r], ?_, g.same R rfl⟩
      refine PySem.Flt.log2_lt_of (by decide) (Nat.lt_trans hl (by decide +kernel))
    · cases e
  · cases e
    obtain ⟨v, rfl, r⟩ := one_of rp
    exact ⟨_, SkE.call_str_str, _, by rw [show v = .str _ from r], g.same R rfl⟩
  · cases e
theorem s_min (hc : X.calm = true) : CallR X (.builtin "min") (rdN X.K wr gMin) := CallR_of fun H xs Q ⟨μ, h, ps, p, h', R, rp, e, g⟩ => by
  unfold gMin at e
  split at e
  · cases e
    obtain ⟨v, w, rfl, r1, r2⟩ := two_of rp
    exact ⟨_, call_min2 hc, _, _, by rw [show v = .int _ from r1, show w = .int _ from r2], g.same R rfl⟩
  · cases e
theorem s_max (hc : X.calm = true) : CallR X (.builtin "max") (rdN X.K wr gMax) := CallR_of fun H xs Q ⟨μ, h, ps, p, h', R, rp, e, g⟩ => by
  unfold gMax at e
  split at e
  · cases e
    obtain ⟨v, w, rfl, r1, r2⟩ := two_of rp
    exact ⟨_, call_max2 hc, _, _, by rw [show v = .int _ from r1, show w = .int _ from r2], g.same R rfl⟩
  · cases e
theorem s_abs : CallR X (.builtin "abs") (rdN X.K wr gAbs) := CallR_of fun H xs Q ⟨μ, h, ps, p, h', R, rp, e, g⟩ => by
  unfold gAbs at e
  split at e
  · cases e
    obtain ⟨v, rfl, r⟩ := one_of rp
    exact ⟨_, call_abs, _, by rw [show v = .int _ from r], g.same R rfl⟩
  · cases e
theorem s_dict : CallR X (.type "dict") (rdN X.K wr gDict) := CallR_of fun H xs Q ⟨μ, h, ps, p, h', R, rp, e, g⟩ => by
  unfold gDict at e
  split at e
  · obtain ⟨v, rfl, a, ha, ev⟩ := one_of rp
    subst ev
    split at e
    · rename_i kvs ho
      cases e
      obtain ⟨kv', h1, _, h2, h3⟩ := R.dic ha ho
      exact ⟨_, call_dictD, a, kv', rfl, h1, fun l hl => g.new R rfl hl ⟨_, rfl, h2, h3⟩⟩
    · cases e
  · cases e

/-! ### methods -/
theorem MtR_of {id : String} {r' : V → List V → Hp → VK → Prop} (h : ∀ (H : Hp) (x : V) (xs : List V) (Q : VK), r' x xs H Q → ∃ r, MtR X id r ∧ r x xs H Q) : MtR X id r' :=
  fun pins s σ H x xs v us Q I rx rs q => let ⟨_, ho, q'⟩ := h H x xs Q q; ho pins s σ H x xs v us Q I rx rs q'
theorem extend_tup (l : Addr) (items : Array Value) (n : Nat) (b : Addr) (dd : Option Addr) (sl : Array (Option Value)) (items2 : Array Value) (n2 : Nat) (hs0 : ¬(!items.isEmpty && Builtin.List.listTooLong (items.size + items2.size)) = true) (hs1 : items.size ≤ sizeLine) (hs2 : items.size + items2.size ≤ sizeLine + 1) :
    Meets (Builtin.«list.extend» ⟨[.ref l, .ref b], []⟩) (fun _ R s => s.heap.get? l = some { cls := .type "list", dict := none, data := .seq items n, slots := #[] } ∧ s.heap.get? b = some { cls := .type "tuple", dict := dd, data := .seq items2 n2, slots := sl } ∧ R (.ok (.ret Value.none)) { s with heap := s.heap.update l (Obj.mapSeq fun x => x ++ items2), toks := s.toks }) :=
  .of_wp fun prog w A R s h => by
    obtain ⟨hp, g, d, tk, os⟩ := s; obtain ⟨hl, hb, h⟩ := h; have f1 := AutoSeq1.idx_int; have f2 := AutoSeq1.sub_tuple_tuple; have f3 := AutoSeq1.sub_list_list; have f4 := AutoSeq1.sub_tuple_list; have f5 := AutoSeq1.sub_list_tuple;
    have hz' : (items ++ items2).size ≤ sizeLine + 1 := by rw [Array.size_append]; exact hs2
    wp_walk using (wpAny_updateSeq hl rfl (hz := hs1) (_hz' := hz')), AutoSeq1.wpAny_loadPart' hl, AutoSeq1.wpAny_loadPart' hb; exact ⟨_, rfl, h⟩
theorem mt_extendT : MtR X "list.extend" (fun x vs H Q => ∃ l b xs zs, x = .ref l ∧ vs = [.ref b] ∧ H l = some (.lst xs) ∧ SqT X.K H b zs ∧ xs.length + zs.length ≤ sizeLine ∧ Q .non (upd H l (.lst (xs ++ zs)))) := by
  intro pins s σ H x vs v us Q I rx rv h
  obtain ⟨l, b, xs, zs, rfl, rfl, hH, hB, hz, q⟩ := h
  cases rx
  obtain ⟨u, rfl, ru⟩ := rv.one
  cases ru
  obtain ⟨z, its, n, r, hl, e⟩ := I.lstM hH
  obtain ⟨its2, r2, ⟨⟨oc, od, dt, sl⟩, e2, hc, n2, hd⟩, z2⟩ := I.tuple hB
  simp only at hc hd
  subst hc hd
  have hl2 := r2.length
  have hsz : its.toArray.size + its2.toArray.size ≤ sizeLine := by rw [List.size_toArray, List.size_toArray]; omega
  have hlong : ¬ (!its.toArray.isEmpty && Builtin.List.listTooLong (its.toArray.size + its2.toArray.size)) = true := by
    rw [notLongL hsz, Bool.and_false]
    exact Bool.false_ne_true
  refine call_meets F.slot_list_extend ⟨_, e, rfl⟩ F.entry_list_extend (F.args_list_extend_2 _ _)
    (extend_tup l its.toArray n b od sl its2.toArray n2 hlong (by rw [List.size_toArray]; omega) (by omega)) ⟨e, e2, ?_⟩
  refine ⟨.non, _, I.lset (its' := its ++ its2) hH e (by simp) (r.append r2) ?_, rfl, q⟩
  rw [List.length_append]
  omega

def mAppend (wr : Nat → Bool) : FM := fun x ps h => match x, ps with
  | .loc n, [p] => (match h[n]? with
    | some (.lst xs) => if wr n && decide (xs.length < lineN) then some (.non, h.set n (.lst (xs ++ [p]))) else none
    | _ => none)
  | _, _ => none
def mExtend (wr : Nat → Bool) : FM := fun x ps h => match x, ps with
  | .loc n, [.loc m] => (match h[n]?, h[m]? with
    | some (.lst xs), some (.lst ys) => if wr n && decide (xs.length + ys.length ≤ lineN) then some (.non, h.set n (.lst (xs ++ ys))) else none
    | _, _ => none)
  | .loc n, [.tup ys] => (match h[n]? with
    | some (.lst xs) => if wr n && decide (xs.length + ys.length ≤ lineN) then some (.non, h.set n (.lst (xs ++ ys))) else none
    | _ => none)
  | _, _ => none
def mPop (wr : Nat → Bool) : FM := fun x ps h => match x, ps with
  | .loc n, [] => (match h[n]? with
    | some (.lst xs) => if wr n then (match xs[xs.length - 1]? with
      | some y => some (y, h.set n (.lst xs.dropLast))
      | none => none) else none
    | _ => none)
  | _, _ => none
def strsP : List PV → Option (List Str)
  | [] => some []
  | .str b :: r => (strsP r).map (b :: ·)
  | _ :: _ => none
def sumLen : List Str → Nat
  | [] => 0
  | s :: r => s.length + sumLen r
/-- the signs of texts with a text between -/
def joinL (a : List Nat) : List Str → List Nat
  | [] => []
  | [s] => s.cps.toList
  | s :: r => s.cps.toList ++ a ++ joinL a r
def mJoin : FM := fun x ps h => match x, ps with
  | .str a, [p] => (match itemsOf h p with
    | some xs => (match strsP xs with
      | some ss => if sumLen ss + ss.length * a.length ≤ lineN then some (.str ⟨⟨joinL a.cps.toList ss⟩⟩, h) else none
      | none => none)
    | none => none)
  | _, _ => none
theorem lst_write {μ : List Addr} {H : Hp} {h : PH} {n : Nat} {a : Addr} {xs' : List PV} {p : PV} {v : V} {vs vs' : List V} {Q : VK} (R : HR X.K μ wr H h) (hn : μ[n]? = some a) (hH : H a = some (.lst vs)) (hw : wr n = true)
    (r : RVs X.K μ H xs' vs') (rv : RV X.K μ H p v) (g : Go X.K μ wr H p (h.set n (.lst xs')) Q) : Q v (upd H a (.lst vs')) :=
  g.write R hn hH trivial hw ⟨_, rfl, r⟩ rv
theorem s_append : MtR X "list.append" (rdM X.K wr (mAppend wr)) := MtR_of fun H x xs Q ⟨μ, h, px, ps, p, h', R, rx, rp, e, g⟩ => by
  unfold mAppend at e
  split at e
  · obtain ⟨a, ha, ex⟩ := rx
    split at e
    · rename_i ys ho
      split at e
      · rename_i hc
        cases e
        simp only [Bool.and_eq_true, decide_eq_true_eq] at hc
        obtain ⟨v, rfl, r⟩ := one_of rp
        obtain ⟨vs, hv, r2⟩ := R.lst ha ho
        exact ⟨_, mt_append, a, vs, v, ex, rfl, hv, by rw [r2.length, ← lineN_eq]; exact hc.2, lst_write (p := .non) R ha hv hc.1 (r2.append (.one r)) (by exact rfl) g⟩
      · cases e
    · cases e
  · cases e
theorem s_extend : MtR X "list.extend" (rdM X.K wr (mExtend wr)) := MtR_of fun H x xs Q ⟨μ, h, px, ps, p, h', R, rx, rp, e, g⟩ => by
  unfold mExtend at e
  split at e
  · obtain ⟨a, ha, ex⟩ := rx
    split at e
    · rename_i _ _ ys zs ho1 ho2
      split at e
      · rename_i hc
        cases e
        simp only [Bool.and_eq_true, decide_eq_true_eq] at hc
        obtain ⟨v, rfl, b, hb, ev⟩ := one_of rp
        subst ev
        obtain ⟨vs, hv, r2⟩ := R.lst ha ho1
        obtain ⟨ws, hw, r3⟩ := R.lst hb ho2
        exact ⟨_, mt_extend, a, b, vs, ws, ex, rfl, hv, hw, by rw [r2.length, r3.length, ← lineN_eq]; exact hc.2, lst_write (p := .non) R ha hv hc.1 (r2.append r3) (by exact rfl) g⟩
      · cases e
    · cases e
  · obtain ⟨a, ha, ex⟩ := rx
    split at e
    · rename_i ys ho1
      split at e
      · rename_i hc
        cases e
        simp only [Bool.and_eq_true, decide_eq_true_eq] at hc
        obtain ⟨v, rfl, b, ws, ev, s, r3⟩ := one_of rp
        subst ev
        obtain ⟨vs, hv, r2⟩ := R.lst ha ho1
        exact ⟨_, mt_extendT, a, b, vs, ws, ex, rfl, hv, s, by rw [r2.length, r3.length, ← lineN_eq]; exact hc.2, lst_write (p := .non) R ha hv hc.1 (r2.append r3) (by exact rfl) g⟩
      · cases e
    · cases e
  · cases e
theorem s_pop : MtR X "list.pop" (rdM X.K wr (mPop wr)) := MtR_of fun H x xs Q ⟨μ, h, px, ps, p, h', R, rx, rp, e, g⟩ => by
  unfold mPop at e
  split at e
  · obtain ⟨a, ha, ex⟩ := rx
    split at e
    · rename_i ys ho
      split at e
      · rename_i hw
        split at e
        · rename_i y hy
          cases e
          obtain ⟨vs, hv, r2⟩ := R.lst ha ho
          obtain ⟨w, h1, h2⟩ := r2.get hy
          exact ⟨_, mt_pop, a, vs, w, ex, rp, hv, by rw [r2.length]; exact h1, lst_write R ha hv hw r2.dropLast h2 g⟩
        · cases e
      · cases e
    · cases e
  · cases e
theorem strsP_ok {K : Frg} {μ : List Addr} {H : Hp} : ∀ {ps : List PV} {vs : List V} {bs : List Str}, RVs K μ H ps vs → strsP ps = some bs → vs = bs.map V.str
  | [], _, _, r, e => by cases e; exact r
  | p :: ps, _, bs, ⟨w, ws, ev, r1, r2⟩, e => by
    cases p with
    | str b =>
      rw [strsP] at e
      cases q : strsP ps with
      | none => rw [q] at e; cases e
      | some cs =>
        rw [q] at e; cases e
        rw [ev, show w = .str b from r1, strsP_ok r2 q]
        rfl
    | _ => cases e
theorem sumLen_eq : ∀ ss : List Str, (ss.map (·.length)).sum = sumLen ss
  | [] => rfl
  | s :: r => by rw [List.map_cons, List.sum_cons, sumLen_eq r]; rfl
theorem sJoin (a : Str) : ∀ ss : List Str, Str.join a ss = ⟨⟨joinL a.cps.toList ss⟩⟩
  | [] => rfl
  | [s] => by
    obtain ⟨⟨l⟩⟩ := s
    rfl
  | s :: z :: r => by
    show s ++ a ++ Str.join a (z :: r) = _
    rw [sJoin a (z :: r)]
    obtain ⟨⟨l⟩⟩ := s
    obtain ⟨⟨m⟩⟩ := a
    show (⟨(⟨l⟩ : Array Nat) ++ (⟨m⟩ : Array Nat) ++ (⟨_⟩ : Array Nat)⟩ : Str) = _
    simp [joinL]
theorem s_join : MtR X "str.join" (rdM X.K wr mJoin) := MtR_of fun H x xs Q ⟨μ, h, px, ps, p, h', R, rx, rp, e, g⟩ => by
  unfold mJoin at e
  split at e
  · split at e
    · rename_i ys hy
      split at e
      · rename_i ss hs
        split at e
        · rename_i hl
          cases e
          obtain ⟨v, rfl, r⟩ := one_of rp
          obtain ⟨b, vs, ev, s, rr⟩ := itemsOf_ok R r hy
          subst ev
          have e2 := strsP_ok rr hs
          subst e2
          exact ⟨_, mt_join, _, b, ss, rx, rfl, s, by rw [sumLen_eq]; exact hl, by rw [TL.join_eq, sJoin]; exact g.same R rfl⟩
        · cases e
      · cases e
    · cases e
  · cases e
end
end KP
set_option Elab.async false
set_option linter.all false
set_option maxRecDepth 100000
/-! KP 6: expressions. -/
namespace KP
open PySem PySem.Spec PyProof.Rows L2

/-- an expression, as a value and as a test -/
structure Snd (X : Cx) (wr : Nat → Bool) (e : Expr) (f : EF) : Prop where
  val : PE X e (rdE X.K wr f)
  tst : PT X e (rdT X.K wr (eT f))
section
variable {X : Cx} {wr : Nat → Bool} {a b c : Expr} {fa fb fc : EF} {g g' : F2} {pos : Pos}
theorem Snd.of {e : Expr} {f : EF} (h : PE X e (rdE X.K wr f)) (he : ∀ whole, isTrue e X.env whole = (do let v ← whole; standAt e.pos; holding [v] (truthy v))) : Snd X wr e f := ⟨h, rt_val h he⟩

/-- behind an operation -/
theorem rd2_bnd {K : Frg} {k : PV → PH → Option (PV × PH)} {H : Hp} {μ : List Addr} {h : PH} {px py p : PV} {x y : V} {h' : PH} {Q Q' : VK} (R : HR K μ wr H h) (rx : RV K μ H px x) (ry : RV K μ H py y) (e : bnd (g px py h) k = some (p, h')) (q : Go K μ wr H p h' Q)
    (c : ∀ (μ1 : List Addr) (H1 : Hp) (z : PV) (h1 : PH) (v : V), Step K μ wr H μ1 H1 → HR K μ1 wr H1 h1 → k z h1 = some (p, h') → RV K μ1 H1 z v → Go K μ1 wr H1 p h' Q → Q' v H1) : rd2 K wr g x y H Q' := by
  obtain ⟨z, h1, e1, e2⟩ := of_bnd e
  exact ⟨μ, h, px, py, z, h1, R, rx, ry, e1, fun μ1 H1 v R1 s1 r1 => c μ1 H1 z h1 v s1 R1 e2 r1 (q.after s1)⟩

/-! ### a < b < c -/
def eChain (g g' : F2) (fa fb fc : EF) : EF := fun env h => bnd (fa env h) fun x h1 => bnd (fb env h1) fun y h2 => bnd (g x y h2) fun z h3 => match z with
  | .bl true => bnd (fc env h3) fun w h4 => g' y w h4
  | .bl false => some (.bl false, h3)
  | _ => none
theorem imp_chain : ∀ σ H Q, rdE X.K wr (eChain g g' fa fb fc) σ H Q → tChain (rd2 X.K wr g) (rd2 X.K wr g') (rdE X.K wr fa) (rdE X.K wr fb) (rdE X.K wr fc) σ H Q := fun σ H Q ⟨μ, env, h, p, h', E, R, e, q⟩ =>
  rdE_bnd E R e q fun μ1 H1 x h1 v _ E1 R1 e1 r1 q1 => rdE_bnd E1 R1 e1 q1 fun μ2 H2 y h2 w s2 E2 R2 e2 r2 q2 =>
    rd2_bnd R2 (r1.step s2) r2 e2 q2 fun μ3 H3 z h3 u s3 R3 e3 r3 q3 => by
      cases z with
      | bl k =>
        refine ⟨k, r3, ?_⟩
        cases k with
        | true => exact rdE_bnd (E2.step s3) R3 e3 q3 fun μ4 H4 t h4 u4 s4 E4 R4 e4 r4 q4 => ⟨μ4, h4, y, t, p, h', R4, (r2.step s3).step s4, r4, e4, q4⟩
        | false =>
          rw [if_neg Bool.false_ne_true]
          cases e3
          exact q3.same R3 rfl
      | _ => cases e3
theorem sn_chain {op op' : CmpOp} (ho : OpR X (compareOp op) (rd2 X.K wr g)) (ho' : OpR X (compareOp op') (rd2 X.K wr g')) (ha : Snd X wr a fa) (hb : Snd X wr b fb) (hc : Snd X wr c fc) (hm : lastMarks [op, op'] [b, c] = false) :
    Snd X wr (.Compare a [op, op'] [b, c] pos) (eChain g g' fa fb fc) := by
  refine ⟨PE_imp (pe_chain ho ho' ha.val hb.val hc.val hm) imp_chain, PT_imp (pt_chain ho ho' ha.val hb.val hc.val hm) fun σ H Q ⟨μ, env, h, k, h', E, R, e, q⟩ => ?_⟩
  obtain ⟨x, h1, e1, e2⟩ := of_bnd e
  refine imp_chain σ H _ ⟨μ, env, h, x, h1, E, R, e1, fun μ1 H1 v R1 s1 r1 => ?_⟩
  cases x with
  | bl c =>
    cases e2
    exact ⟨k, r1, q μ1 H1 R1 s1⟩
  | _ => cases e2
theorem sn_cmp {op : CmpOp} (ho : OpR X (compareOp op) (rd2 X.K wr g)) (ha : Snd X wr a fa) (hb : Snd X wr b fb) (hm : behindInMarks op b = false) : Snd X wr (.Compare a [op] [b] pos) (eOp g fa fb) :=
  ⟨rd_cmp ho ha.val hb.val hm, rt_cmp ho ha.val hb.val hm⟩
theorem sn_op {op : Operator} (ho : OpR X (binaryOp op) (rd2 X.K wr g)) (ha : Snd X wr a fa) (hb : Snd X wr b fb) : Snd X wr (.BinOp a op b pos) (eOp g fa fb) := .of (rd_op ho ha.val hb.val) fun _ => rfl
theorem sn_ix (ho : IxR X (rd2 X.K wr g)) (ha : Snd X wr a fa) (hb : Snd X wr b fb) (hs : PlainIx b) : Snd X wr (.Subscript a b pos) (eOp g fa fb) := .of (rd_ix ho ha.val hb.val hs) fun _ => rfl

/-! ### and, or, not, if -/
def eAnd (fa fb : EF) : EF := fun env h => bnd (fa env h) fun x h1 => match x with
  | .bl true => fb env h1
  | .bl false => some (.bl false, h1)
  | _ => none
def eOr (fa fb : EF) : EF := fun env h => bnd (fa env h) fun x h1 => match x with
  | .bl true => some (.bl true, h1)
  | .bl false => fb env h1
  | _ => none
def eNot (fa : EF) : EF := fun env h => bnd (fa env h) fun x h1 => match x with
  | .bl b => some (.bl (!b), h1)
  | _ => none
def eIte (fc fa fb : EF) : EF := fun env h => bnd (fc env h) fun x h1 => match x with
  | .bl true => fa env h1
  | .bl false => fb env h1
  | _ => none
theorem rdT_bnd {K : Frg} {fa : EF} {k : PV → PH → Option (PV × PH)} {σ : L2.St} {H : Hp} {μ : List Addr} {env : Env} {h : PH} {p : PV} {h' : PH} {P : Prop} {Q' : Bool → Hp → Prop} (E : ER K μ H env σ) (R : HR K μ wr H h) (e : bnd (fa env h) k = some (p, h'))
    (hk : ∀ x h1, (∀ b, x ≠ .bl b) → k x h1 = none)
    (c : ∀ (μ1 : List Addr) (H1 : Hp) (b : Bool) (h1 : PH), Step K μ wr H μ1 H1 → ER K μ1 H1 env σ → HR K μ1 wr H1 h1 → k (.bl b) h1 = some (p, h') → Q' b H1) : rdT K wr (eT fa) σ H Q' := by
  obtain ⟨x, h1, e1, e2⟩ := of_bnd e
  cases x with
  | bl b => exact ⟨μ, env, h, b, h1, E, R, by unfold eT; rw [e1]; rfl, fun μ1 H1 R1 s1 => c μ1 H1 b h1 s1 (E.step s1) R1 e2⟩
  | _ => rw [hk _ _ (by intro b z; cases z)] at e2; cases e2
/-- a test's reading, from the value's -/
theorem rdE_of_T {K : Frg} {f : EF} {σ : L2.St} {H : Hp} {Q : Bool → Hp → Prop} (q : rdT K wr (eT f) σ H Q) : rdE K wr f σ H (fun v H' => ∃ b, v = .bl b ∧ Q b H') := by
  obtain ⟨μ, env, h, k, h', E, R, e, q⟩ := q
  obtain ⟨x, h1, e1, e2⟩ := of_bnd e
  refine ⟨μ, env, h, x, h1, E, R, e1, fun μ1 H1 v R1 s1 r1 => ?_⟩
  cases x with
  | bl c =>
    cases e2
    exact ⟨k, r1, q μ1 H1 R1 s1⟩
  | _ => cases e2
theorem rdT_of_E {K : Frg} {f : EF} {σ : L2.St} {H : Hp} {μ : List Addr} {env : Env} {h : PH} {b : Bool} {h' : PH} {Q : Bool → Hp → Prop} (E : ER K μ H env σ) (R : HR K μ wr H h) (e : f env h = some (.bl b, h')) (q : GoT K μ wr H b h' Q) : rdT K wr (eT f) σ H Q :=
  ⟨μ, env, h, b, h', E, R, by unfold eT; rw [e]; rfl, q⟩
theorem eT_some {f : EF} {env : Env} {h : PH} {b : Bool} {h' : PH} (e : eT f env h = some (b, h')) : f env h = some (.bl b, h') := by
  obtain ⟨x, h1, e1, e2⟩ := of_bnd e
  cases x with
  | bl c => cases e2; exact e1
  | _ => cases e2
theorem sn_not (ha : Snd X wr a fa) : Snd X wr (.UnaryOp .Not a pos) (eNot fa) := by
  refine ⟨PE_imp (pe_not ha.val) fun σ H Q ⟨μ, env, h, p, h', E, R, e, q⟩ => ?_, PT_imp (pt_not ha.tst) fun σ H Q ⟨μ, env, h, k, h', E, R, e, q⟩ => ?_⟩
  · refine rdE_bnd E R e q fun μ1 H1 x h1 v s1 E1 R1 e1 r1 q1 => ?_
    cases x with
    | bl b => cases e1; exact ⟨b, r1, q1.same R1 rfl⟩
    | _ => cases e1
  · obtain ⟨x, h1, e1, e2⟩ := of_bnd (eT_some e)
    cases x with
    | bl b =>
      cases e2
      exact rdT_of_E E R e1 fun μ1 H1 R1 s1 => q μ1 H1 R1 s1
    | _ => cases e2
theorem sn_ite (hc : Snd X wr c fc) (ha : Snd X wr a fa) (hb : Snd X wr b fb) : Snd X wr (.IfExp c a b pos) (eIte fc fa fb) := by
  refine ⟨PE_imp (pe_ifExp hc.tst ha.val hb.val) fun σ H Q ⟨μ, env, h, p, h', E, R, e, q⟩ => ?_, ⟨fun pins s σ H Q I ⟨μ, env, h, k, h', E, R, e, q⟩ => ?_⟩⟩
  · obtain ⟨x, h1, e1, e2⟩ := of_bnd e
    cases x with
    | bl d =>
      refine rdT_of_E E R e1 fun μ1 H1 R1 s1 => ?_
      cases d with
      | true => exact ⟨μ1, env, h1, p, h', E.step s1, R1, e2, q.after s1⟩
      | false => rw [if_neg Bool.false_ne_true]; exact ⟨μ1, env, h1, p, h', E.step s1, R1, e2, q.after s1⟩
    | _ => cases e2
  · obtain ⟨x, h1, e1, e2⟩ := of_bnd (eT_some e)
    cases x with
    | bl d =>
      show wpAny _ _ (do if ← isTrue c X.env (eval c X.env) then isTrue a X.env (eval a X.env) else isTrue b X.env (eval b X.env)) _ _ s
      refine wpAny_bind (thn (hc.tst.run pins s σ H (fun t H1 => if t = true then rdT X.K wr (eT fa) σ H1 Q else rdT X.K wr (eT fb) σ H1 Q) I (rdT_of_E E R e1 fun μ1 H1 R1 s1 => ?_)) fun t s1 ⟨H1, I1, q1⟩ => ?_)
      · cases d with
        | true => rw [if_pos rfl]; exact rdT_of_E (E.step s1) R1 e2 (q.after s1)
        | false => rw [if_neg Bool.false_ne_true]; exact rdT_of_E (E.step s1) R1 e2 (q.after s1)
      · cases t with
        | true => exact ha.tst.run pins s1 σ H1 Q I1 q1
        | false => exact hb.tst.run pins s1 σ H1 Q I1 q1
    | _ => cases e2
/-- and, or of several: the value; the test, whatever its whole is -/
structure SndB (X : Cx) (wr : Nat → Bool) (e : Expr) (f : EF) : Prop where
  val : PE X e (rdE X.K wr f)
  tst : PW X e (rdT X.K wr (eT f))
theorem SndB.snd {e : Expr} {f : EF} (h : SndB X wr e f) : Snd X wr e f := ⟨h.val, h.tst.pt⟩
theorem sb_and1 (ha : Snd X wr a fa) : SndB X wr (.BoolOp .And [a] pos) fa := ⟨pe_one ha.val, pw_and1 ha.tst⟩
theorem sb_or1 (ha : Snd X wr a fa) : SndB X wr (.BoolOp .Or [a] pos) fa := ⟨pe_one ha.val, pw_or1 ha.tst⟩
theorem sb_and {rest : List Expr} (ha : Snd X wr a fa) (hb : SndB X wr (.BoolOp .And (b :: rest) pos) fb) : SndB X wr (.BoolOp .And (a :: b :: rest) pos) (eAnd fa fb) := by
  refine ⟨PE_imp (pe_and ha.val hb.val) fun σ H Q ⟨μ, env, h, p, h', E, R, e, q⟩ => ?_, PW_imp (pw_and ha.tst hb.tst) fun σ H Q ⟨μ, env, h, k, h', E, R, e, q⟩ => ?_⟩
  · refine rdE_bnd E R e q fun μ1 H1 x h1 v s1 E1 R1 e1 r1 q1 => ?_
    cases x with
    | bl d =>
      refine ⟨d, r1, ?_⟩
      cases d with
      | true => exact ⟨μ1, env, h1, p, h', E1, R1, e1, q1⟩
      | false => rw [if_neg Bool.false_ne_true]; cases e1; exact q1.same R1 rfl
    | _ => cases e1
  · obtain ⟨x, h1, e1, e2⟩ := of_bnd (eT_some e)
    cases x with
    | bl d =>
      refine rdT_of_E E R e1 fun μ1 H1 R1 s1 => ?_
      cases d with
      | true => exact rdT_of_E (E.step s1) R1 e2 (q.after s1)
      | false => rw [if_neg Bool.false_ne_true]; cases e2; exact q μ1 H1 R1 s1
    | _ => cases e2
theorem sb_or {rest : List Expr} (ha : Snd X wr a fa) (hb : SndB X wr (.BoolOp .Or (b :: rest) pos) fb) : SndB X wr (.BoolOp .Or (a :: b :: rest) pos) (eOr fa fb) := by
  refine ⟨PE_imp (pe_or ha.val hb.val) fun σ H Q ⟨μ, env, h, p, h', E, R, e, q⟩ => ?_, PW_imp (pw_or ha.tst hb.tst) fun σ H Q ⟨μ, env, h, k, h', E, R, e, q⟩ => ?_⟩
  · refine rdE_bnd E R e q fun μ1 H1 x h1 v s1 E1 R1 e1 r1 q1 => ?_
    cases x with
    | bl d =>
      refine ⟨d, r1, ?_⟩
      cases d with
      | false => rw [if_neg Bool.false_ne_true]; exact ⟨μ1, env, h1, p, h', E1, R1, e1, q1⟩
      | true => cases e1; exact q1.same R1 rfl
    | _ => cases e1
  · obtain ⟨x, h1, e1, e2⟩ := of_bnd (eT_some e)
    cases x with
    | bl d =>
      refine rdT_of_E E R e1 fun μ1 H1 R1 s1 => ?_
      cases d with
      | false => rw [if_neg Bool.false_ne_true]; exact rdT_of_E (E.step s1) R1 e2 (q.after s1)
      | true => cases e2; exact q μ1 H1 R1 s1
    | _ => cases e2

/-! ### -a -/
def eNeg (fa : EF) : EF := fun env h => bnd (fa env h) fun x h1 => match x with
  | .int i => some (.int (-i), h1)
  | _ => none
theorem sn_neg (ha : Snd X wr a fa) : Snd X wr (.UnaryOp .USub a pos) (eNeg fa) :=
  .of (PE_imp (pe_un un_neg ha.val) fun σ H Q ⟨μ, env, h, p, h', E, R, e, q⟩ => rdE_bnd E R e q fun μ1 H1 x h1 v s1 E1 R1 e1 r1 q1 => by
    cases x with
    | int i => cases e1; exact ⟨i, r1, q1.same R1 rfl⟩
    | _ => cases e1) fun _ => rfl

/-! ### displays -/
def eTup (f : AF) : EF := fun env h => bnd (f env h) fun ps h1 => if ps.length ≤ lineN then some (.tup ps, h1) else none
def eLst (f : AF) : EF := fun env h => bnd (f env h) fun ps h1 => if ps.length ≤ lineN then some (.loc h1.length, h1 ++ [.lst ps]) else none
theorem sn_tup {es : List Expr} {f : AF} {k : Nat} (h : PA X es (rdA X.K wr f)) : Snd X wr (.Tuple es k pos) (eTup f) :=
  .of (PE_imp (pe_tup h) fun σ H Q ⟨μ, env, h, p, h', E, R, e, q⟩ => rdA_bnd E R e q fun μ1 H1 ps h1 vs s1 E1 R1 e1 r1 q1 => by
    split at e1
    · rename_i hl
      cases e1
      exact ⟨by rw [r1.length, ← lineN_eq]; exact hl, fun p hp => q1.tup R1 hp r1⟩
    · cases e1) fun _ => rfl
theorem sn_lst {es : List Expr} {f : AF} (h : PA X es (rdA X.K wr f)) : Snd X wr (.List es pos) (eLst f) :=
  .of (PE_imp (pe_lst h) fun σ H Q ⟨μ, env, h, p, h', E, R, e, q⟩ => rdA_bnd E R e q fun μ1 H1 ps h1 vs s1 E1 R1 e1 r1 q1 => by
    split at e1
    · rename_i hl
      cases e1
      exact ⟨by rw [r1.length, ← lineN_eq]; exact hl, fun p hp => q1.new R1 rfl hp ⟨vs, rfl, r1⟩⟩
    · cases e1) fun _ => rfl
def eDic0 : EF := fun _ h => some (.loc h.length, h ++ [.dic []])
theorem sn_dic0 : Snd X wr (.Dict [] [] pos) eDic0 :=
  .of (PE_imp pe_dnewK fun σ H Q ⟨μ, env, h, p, h', E, R, e, q⟩ => by
    cases e
    exact fun d hd => q.new R rfl hd ⟨[], rfl, rfl, rfl⟩) fun _ => rfl

/-! ### cuts -/
abbrev PF := Env → PH → Option (Option Int × PH)
def pNone : PF := fun _ h => some (none, h)
def pSome (f : EF) : PF := fun env h => bnd (f env h) fun x h1 => match x with
  | .int i => some (some i, h1)
  | _ => none
def rdP (K : Frg) (wr : Nat → Bool) (f : PF) : TO := fun σ H Q => ∃ μ env h o h', ER K μ H env σ ∧ HR K μ wr H h ∧ f env h = some (o, h') ∧ ∀ (μ' : List Addr) (H' : Hp), HR K μ' wr H' h' → Step K μ wr H μ' H' → Q o H'
theorem po_imp {o : Option Expr} {t t' : TO} (h : L2.PO X o t) (i : ∀ σ H Q, t' σ H Q → t σ H Q) : L2.PO X o t' := ⟨fun pins s σ H Q I q => h.run pins s σ H Q I (i σ H Q q)⟩
theorem rp_none : L2.PO X none (rdP X.K wr pNone) := po_imp po_none fun σ H Q ⟨μ, env, h, o, h', E, R, e, q⟩ => by
  cases e
  exact q μ H R .refl
theorem rp_some (ha : Snd X wr a fa) : L2.PO X (some a) (rdP X.K wr (pSome fa)) := po_imp (po_some ha.val) fun σ H Q ⟨μ, env, h, o, h', E, R, e, q⟩ => by
  obtain ⟨x, h1, e1, e2⟩ := of_bnd e
  refine ⟨μ, env, h, x, h1, E, R, e1, fun μ1 H1 v R1 s1 r1 => ?_⟩
  cases x with
  | int i =>
    cases e2
    exact ⟨i, r1, q μ1 H1 R1 s1⟩
  | _ => cases e2
def eSl (g : PV → Option Int → Option Int → PH → Option (PV × PH)) (fa : EF) (fl fh : PF) : EF := fun env h => bnd (fa env h) fun x h1 => bnd (fl env h1) fun l h2 => bnd (fh env h2) fun u h3 => g x l u h3
theorem sn_sl {g : PV → Option Int → Option Int → PH → Option (PV × PH)} {lo hi : Option Expr} {fl fh : PF} {p2 : Pos} (hg : SlR X (rdSl X.K wr g)) (ha : Snd X wr a fa) (hl : L2.PO X lo (rdP X.K wr fl)) (hh : L2.PO X hi (rdP X.K wr fh)) :
    Snd X wr (.Subscript a (.Slice lo hi none p2) pos) (eSl g fa fl fh) :=
  .of (PE_imp (pe_slice hg ha.val hl hh) fun σ H Q ⟨μ, env, h, p, h', E, R, e, q⟩ => rdE_bnd E R e q fun μ1 H1 x h1 v s1 E1 R1 e1 r1 q1 => by
    obtain ⟨l, h2, e2, e3⟩ := of_bnd e1
    refine ⟨μ1, env, h1, l, h2, E1, R1, e2, fun μ2 H2 R2 s2 => ?_⟩
    obtain ⟨u, h3, e4, e5⟩ := of_bnd e3
    exact ⟨μ2, env, h2, u, h3, E1.step s2, R2, e4, fun μ3 H3 R3 s3 => ⟨μ3, h3, x, p, h', R3, (r1.step s2).step s3, e5, (q1.after s2).after s3⟩⟩) fun _ => rfl

/-! ### built-in functions, methods -/
def eCall (g : FN) (f : AF) : EF := fun env h => bnd (f env h) fun ps h1 => g ps h1
theorem imp_call {f : AF} {g : FN} : ∀ σ H Q, rdE X.K wr (eCall g f) σ H Q → tCB (rdN X.K wr g) (rdA X.K wr f) σ H Q := fun σ H Q ⟨μ, env, h, p, h', E, R, e, q⟩ =>
  rdA_bnd E R e q fun μ1 H1 ps h1 vs s1 E1 R1 e1 r1 q1 => ⟨μ1, h1, ps, p, h', R1, r1, e1, q1⟩
def tyP (h : PH) (T : String) : PV → Bool
  | .str _ => T == "str"
  | .loc n => (match h[n]? with
    | some (.lst _) => T == "list"
    | _ => false)
  | _ => false
theorem tyP_ok {K : Frg} {μ : List Addr} {H : Hp} {h : PH} {p : PV} {v : V} {T : String} (R : HR K μ wr H h) (r : RV K μ H p v) (e : tyP h T p = true) : tyV K T v H := by
  cases p with
  | str s => rw [show v = .str s from r]; exact beq_iff_eq.mp e
  | loc n =>
    obtain ⟨a, ha, ev⟩ := r
    subst ev
    unfold tyP at e
    simp only at e
    split at e
    · rename_i xs ho
      obtain ⟨vs, hv, _⟩ := R.lst ha ho
      exact .inl ⟨beq_iff_eq.mp e, vs, .of hv⟩
    · cases e
  | _ => cases e
def eMeth (T : String) (g : FM) (fo : EF) (f : AF) : EF := fun env h => bnd (fo env h) fun x h1 => if tyP h1 T x then bnd (f env h1) fun ps h2 => g x ps h2 else none
theorem imp_meth {T : String} {f : AF} {g : FM} : ∀ σ H Q, rdE X.K wr (eMeth T g fa f) σ H Q → tBM X.K T (rdM X.K wr g) (rdE X.K wr fa) (rdA X.K wr f) σ H Q := fun σ H Q ⟨μ, env, h, p, h', E, R, e, q⟩ =>
  rdE_bnd E R e q fun μ1 H1 x h1 v s1 E1 R1 e1 r1 q1 => by
    split at e1
    · rename_i ht
      exact ⟨tyP_ok R1 r1 ht, rdA_bnd E1 R1 e1 q1 fun μ2 H2 ps h2 vs s2 E2 R2 e2 r2 q2 => ⟨μ2, h2, x, ps, p, h', R2, r1.step s2, r2, e2, q2⟩⟩
    · cases e1
theorem imp_meth0 {T : String} {g : FM} : ∀ σ H Q, rdE X.K wr (eMeth T g fa aNil) σ H Q → tBM0 X.K T (rdM X.K wr g) (rdE X.K wr fa) σ H Q := fun σ H Q ⟨μ, env, h, p, h', E, R, e, q⟩ =>
  rdE_bnd E R e q fun μ1 H1 x h1 v s1 E1 R1 e1 r1 q1 => by
    split at e1
    · rename_i ht
      exact ⟨tyP_ok R1 r1 ht, μ1, h1, x, [], p, h', R1, r1, .nil, e1, q1⟩
    · cases e1
end
end KP
set_option Elab.async false
set_option linter.all false
set_option maxRecDepth 100000
/-! KP 7: the module's names, classes, calls. -/
namespace KP
open PySem PySem.Spec PyProof.Rows L2

abbrev FKey := Str × Option Str
/-- what of a def the evaluator asks: its parameters (keyword-only ones behind), the values of the last ones that may lack, its slots, whether it only reads what stood before -/
structure FnI where
  ps : List Str
  dfl : List PV
  slots : Nat
  pure : Bool
  kwn : List Nat := []
/-- the module, as the evaluator sees it -/
structure Tab where
  con : Str → Option PV
  kdic : Str → Option (List (Str × PV))
  free : Str → Bool
  fn : FKey → Option FnI
  fld : Str → Str → Bool
  meth : Str → Str → Bool
  mks : Str → Bool
  isi : Str → Bool
def lookS {α : Type} (k : Str) : List (Str × α) → Option α
  | [] => none
  | (x, v) :: r => if sEq x k then some v else lookS k r

/-- kinds of values -/
inductive TyN where
  | bt (n : String) | cl (c : Str)
def TyN.val (K : Frg) : TyN → Value
  | .bt n => .type n
  | .cl c => .ref (He.ga K c)
def tyN (h : PH) : PV → Option TyN
  | .non => some (.bt "NoneType")
  | .bl _ => some (.bt "bool")
  | .int _ => some (.bt "int")
  | .str _ => some (.bt "str")
  | .tup _ => some (.bt "tuple")
  | .rl _ => some (.bt "list")
  | .loc n => (match h[n]? with
    | some (.lst _) => some (.bt "list")
    | some (.dic _) => some (.bt "dict")
    | some (.ins c _) => some (.cl c)
    | none => none)
  | .glo _ => none
def sevenB : List String := ["NoneType", "bool", "int", "str", "tuple", "list", "dict"]
def askB : List String := ["bool", "int", "str", "tuple", "list", "dict"]
def isB (a b : String) : Bool := a == b || (a == "bool" && b == "int")
theorem isB_ok : ∀ a ∈ sevenB, ∀ b ∈ askB, kitB a b = some (isB a b) := by decide +kernel

/-- a default's, a constant's value: closed -/
def Closed (K : Frg) (p : PV) (v : V) : Prop := ∀ μ H, RV K μ H p v
structure TabOk (T : Tab) (K : Frg) (mg : Str → Option Value) (w : World) : Prop where
  con : ∀ x p, T.con x = some p → ∃ u v, mg x = some u ∧ RelV v u ∧ Closed K p v
  kdic : ∀ x l, T.kdic x = some l → (∃ es n, KDict K w (He.ga K x) es n) ∧ ∀ k, match lookS k l with
    | some p => ∃ u v, PySem.W.nsIn K (He.ga K x) k = some (some u) ∧ RelV v u ∧ Closed K p v
    | none => PySem.W.nsIn K (He.ga K x) k = some none
  free : ∀ x, T.free x = true → mg x = none
  fn : ∀ x I, T.fn (x, none) = some I → mg x = some (.ref (He.fAd K (x, none))) ∧ PySem.W.keepIn K (.ref (He.fAd K (x, none))) = true
  fld : ∀ c f, T.fld c f = true → Cls K (He.ga K c) ∧ NoAttr K (He.ga K c) f
  meth : ∀ c m, T.meth c m = true → Cls K (He.ga K c) ∧ Meth K (He.ga K c) m (He.fAd K (c, some m))
  mks : ∀ c, T.mks c = true → mg c = some (.ref (He.ga K c)) ∧ Mk K (He.ga K c) (He.fAd K (c, some "__init__"))
  isi : ∀ c, T.isi c = true → mg c = some (.ref (He.ga K c)) ∧ (∀ a ∈ sevenB, PySem.W.kitOne K (.type a) (.ref (He.ga K c)) = some false) ∧ (∀ b ∈ askB, PySem.W.kitOne K (.ref (He.ga K c)) (.type b) = some false) ∧
    (∀ d, T.isi d = true → PySem.W.kitOne K (.ref (He.ga K c)) (.ref (He.ga K d)) = some (sEq c d)) ∧ Cls K (He.ga K c) ∧ PySem.W.findIn K (.ref (He.ga K c)) "__class__" = some (some (.builtin "object.__class__")) ∧
    PySem.W.specialIn K (.builtin "object.__class__") "__get__" = some (some (.builtin "getset_descriptor.__get__")) ∧ PySem.W.takesIn K (.builtin "object.__class__") = some true ∧ PySem.W.mroIn K (He.ga K c) (.type "object") = some true

/-! ### a module's constant -/
def eGlo (T : Tab) (x : Str) : EF := fun _ h => (T.con x).map fun p => (p, h)
section
variable {X : Cx} {wr : Nat → Bool} {T : Tab} {a b c : Expr} {fa fb fc : EF} {pos : Pos}
theorem sn_glo {x : Str} (t : TabOk T X.K X.mg X.w) (hg : Gl X x) (hd : (x == ("__debug__" : Str)) = false) : Snd X wr (.Name x pos) (eGlo T x) := by
  cases e : T.con x with
  | none =>
    exact .of ⟨fun pins s σ H Q I ⟨μ, env, h, p, h', E, R, e2, q⟩ => by unfold eGlo at e2; rw [e] at e2; cases e2⟩ fun _ => rfl
  | some p =>
    obtain ⟨u, v, h1, h2, h3⟩ := t.con x p e
    exact .of (PE_imp (pe_glob hg h1 h2 hd) fun σ H Q ⟨μ, env, h, p', h', E, R, e2, q⟩ => by
      unfold eGlo at e2; rw [e] at e2; cases e2
      exact q.same R (h3 μ H)) fun _ => rfl
theorem sn_var {i : Nat} {x : Str} (hN : X.N[i]? = some x) (hv : Vis X.env.scope x) (hd : (x == ("__debug__" : Str)) = false) (hcd : (x == ("__classdict__" : Str)) = false) : Snd X wr (.Name x pos) (eVar i) := .of (rd_var hN hv hd hcd) fun _ => rfl

/-! ### a written dict -/
def fIxT (T : Tab) : F2 := fun x y h => match x with
  | .glo g => (match y with
    | .str s => (match T.kdic g with
      | some l => (lookS s l).map fun p => (p, h)
      | none => none)
    | _ => none)
  | x => fIx x y h
theorem s_ixT (t : TabOk T X.K X.mg X.w) (hr : Room 0 X.A) : IxR X (rd2 X.K wr (fIxT T)) := IxR_of fun H x y Q ⟨μ, h, px, py, p, h', R, rpx, rpy, e, g⟩ => by
  cases px with
  | glo n =>
    cases py with
    | str s =>
      unfold fIxT at e
      simp only at e
      split at e
      · rename_i l hl
        obtain ⟨⟨es, m, D⟩, k⟩ := t.kdic n l hl
        have k := k s
        cases q : lookS s l with
        | none => rw [q] at e; cases e
        | some z =>
          rw [q] at e k; cases e
          obtain ⟨u, v, h1, h2, h3⟩ := k
          exact ⟨_, ix_kdict, _, s, v, rpx, rpy, ⟨es, m, u, D.at_, D.lit, h1, h2⟩, g.same R (h3 μ H)⟩
      · cases e
    | _ => cases e
  | _ => exact ⟨_, s_ix hr, μ, h, _, py, p, h', R, rpx, rpy, e, g⟩
def fInTB (T : Tab) (x y : PV) (h : PH) : Option Bool := match y with
  | .glo g => (match x with
    | .str s => (match T.kdic g with
      | some l => some (lookS s l).isSome
      | none => none)
    | _ => none)
  | y => fInB x y h
def fInT (T : Tab) : F2 := fun x y h => (fInTB T x y h).map fun b => (.bl b, h)
def fNotInT (T : Tab) : F2 := fun x y h => (fInTB T x y h).map fun b => (.bl (!b), h)
theorem fInTB_glo {n : Str} {px : PV} {h : PH} {b : Bool} (t : TabOk T X.K X.mg X.w) (e : fInTB T px (.glo n) h = some b) : ∃ s es m r, px = .str s ∧ KDict X.K X.w (He.ga X.K n) es m ∧ PySem.W.nsIn X.K (He.ga X.K n) s = some r ∧ r.isSome = b := by
  cases px with
  | str s =>
    unfold fInTB at e
    simp only at e
    split at e
    · rename_i l hl
      obtain ⟨⟨es, m, D⟩, k⟩ := t.kdic n l hl
      have k := k s
      cases e
      cases q : lookS s l with
      | none => rw [q] at k; exact ⟨s, es, m, none, rfl, D, k, rfl⟩
      | some z => rw [q] at k; obtain ⟨u, v, h1, _⟩ := k; exact ⟨s, es, m, some u, rfl, D, h1, rfl⟩
    · cases e
  | _ => cases e
theorem fIn_of {px py : PV} {h : PH} {b : Bool} (q : fInB px py h = some b) : fIn px py h = some (.bl b, h) := by unfold fIn; rw [q]; rfl
theorem fNotIn_of {px py : PV} {h : PH} {b : Bool} (q : fInB px py h = some b) : fNotIn px py h = some (.bl (!b), h) := by unfold fNotIn; rw [q]; rfl
theorem s_inT (t : TabOk T X.K X.mg X.w) (hr : Room 0 X.A) : OpR X (compareOp .In) (rd2 X.K wr (fInT T)) := OpR_of fun pins s σ H x y v u Q I rx ry ⟨μ, h, px, py, p, h', R, rpx, rpy, e, g⟩ => by
  unfold fInT at e
  cases q : fInTB T px py h with
  | none => rw [q] at e; cases e
  | some b =>
    rw [q] at e; cases e
    cases py with
    | glo n =>
      obtain ⟨z, es, m, r, e1, D, e2, e3⟩ := fInTB_glo t q
      subst e1
      exact ⟨_, op_in_kd D, z, r, rpx, rpy, e2, by rw [e3]; exact g.same R rfl⟩
    | _ => exact ⟨_, s_in hr, μ, h, px, _, .bl b, h, R, rpx, rpy, fIn_of q, g⟩
theorem s_notInT (t : TabOk T X.K X.mg X.w) (hr : Room 0 X.A) : OpR X (compareOp .NotIn) (rd2 X.K wr (fNotInT T)) := OpR_of fun pins s σ H x y v u Q I rx ry ⟨μ, h, px, py, p, h', R, rpx, rpy, e, g⟩ => by
  unfold fNotInT at e
  cases q : fInTB T px py h with
  | none => rw [q] at e; cases e
  | some b =>
    rw [q] at e; cases e
    cases py with
    | glo n =>
      obtain ⟨z, es, m, r, e1, D, e2, e3⟩ := fInTB_glo t q
      subst e1
      exact ⟨_, op_notIn_kd D, z, r, rpx, rpy, e2, by rw [e3]; exact g.same R rfl⟩
    | _ => exact ⟨_, s_notIn hr, μ, h, px, _, .bl (!b), h, R, rpx, rpy, fNotIn_of q, g⟩

/-! ### fields -/
def eFld (T : Tab) (f : Str) (fa : EF) : EF := fun env h => bnd (fa env h) fun x h1 => match x with
  | .loc n => (match h1[n]? with
    | some (.ins c fs) => if T.fld c f then (lookS f fs).map fun p => (p, h1) else none
    | _ => none)
  | _ => none
theorem lookS_V {K : Frg} {μ : List Addr} {H : Hp} {k : Str} {p : PV} : ∀ {fs : List (Str × PV)} {fs' : List (Str × V)}, fs'.map (·.1) = fs.map (·.1) → RVs K μ H (fs.map (·.2)) (fs'.map (·.2)) → lookS k fs = some p → ∃ v, fs'.lookup k = some v ∧ RV K μ H p v
  | [], _, _, _, e => by cases e
  | _ :: _, [], e, _, _ => by simp at e
  | (k1, p1) :: fs, (k2, v) :: fs', e, ⟨w, ws, e2, r1, r2⟩, e0 => by
    simp only [List.map_cons, List.cons.injEq] at e e2
    obtain ⟨e1, e⟩ := e
    obtain ⟨e3, e4⟩ := e2
    subst e1 e3 e4
    rw [lookS] at e0
    by_cases hk : k2 = k
    · subst hk
      rw [sEq_self, if_pos rfl] at e0
      cases e0
      exact ⟨v, by rw [List.lookup_cons, beq_self_eq_true], r1⟩
    · have : sEq k2 k = false := by rw [sEq_dec]; exact decide_eq_false hk
      rw [this, if_neg Bool.false_ne_true] at e0
      obtain ⟨w, h1, h2⟩ := lookS_V e r2 e0
      exact ⟨w, by rw [List.lookup_cons, beq_false_of_ne (fun z => hk z.symm)]; exact h1, h2⟩
theorem lookS_none {k : Str} {α β : Type} : ∀ {fs : List (Str × α)} {fs' : List (Str × β)}, fs'.map (·.1) = fs.map (·.1) → lookS k fs = none → fs'.lookup k = none
  | [], [], _, _ => rfl
  | [], _ :: _, e, _ => by simp at e
  | _ :: _, [], e, _ => by simp at e
  | (k1, p1) :: fs, (k2, v) :: fs', e, e0 => by
    simp only [List.map_cons, List.cons.injEq] at e
    obtain ⟨e1, e⟩ := e
    subst e1
    rw [lookS] at e0
    by_cases hk : k2 = k
    · subst hk
      rw [sEq_self, if_pos rfl] at e0; cases e0
    · have : sEq k2 k = false := by rw [sEq_dec]; exact decide_eq_false hk
      rw [this, if_neg Bool.false_ne_true] at e0
      rw [List.lookup_cons, beq_false_of_ne (fun z => hk z.symm)]
      exact lookS_none e e0
theorem sn_fld {f : Str} (t : TabOk T X.K X.mg X.w) (ha : Snd X wr a fa) (hb : attributeBase a f X.env (eval a X.env) = eval a X.env) : Snd X wr (.Attribute a f pos) (eFld T f fa) :=
  .of (PE_imp (pe_fld ha.val hb) fun σ H Q ⟨μ, env, h, p, h', E, R, e, q⟩ => rdE_bnd E R e q fun μ1 H1 x h1 v s1 E1 R1 e1 r1 q1 => by
    cases x with
    | loc n =>
      obtain ⟨ad, had, ev⟩ := r1
      subst ev
      simp only at e1
      split at e1
      · rename_i c fs ho
        split at e1
        · rename_i hf
          cases l : lookS f fs with
          | none => rw [l] at e1; cases e1
          | some z =>
            rw [l] at e1; cases e1
            obtain ⟨dx, fs', hH, h2, h3⟩ := R1.ins had ho
            obtain ⟨v, h4, h5⟩ := lookS_V h2 h3 l
            exact ⟨ad, _, dx, fs', v, rfl, hH, (t.fld c f hf).1, (t.fld c f hf).2, h4, q1.same R1 h5⟩
        · cases e1
      · cases e1
    | _ => cases e1) fun _ => rfl

/-! ### isinstance -/
def eIsi (T : Tab) (ty : TyN) (fa : EF) : EF := fun env h => bnd (fa env h) fun x h1 => match tyN h1 x with
  | some (.bt n) => (match ty with
    | .bt m => some (.bl (isB n m), h1)
    | .cl _ => some (.bl false, h1))
  | some (.cl d) => if T.isi d then (match ty with
    | .bt _ => some (.bl false, h1)
    | .cl c => some (.bl (sEq d c), h1)) else none
  | none => none
theorem tyN_base {K : Frg} {μ : List Addr} {H : Hp} {h : PH} {p : PV} {v : V} {n : String} (R : HR K μ wr H h) (r : RV K μ H p v) (e : tyN h p = some (.bt n)) : TyX K H v (.type n) ∧ n ∈ sevenB := by
  cases p with
  | non => cases e; rw [show v = .non from r]; exact ⟨.base .non, by decide⟩
  | bl b => cases e; rw [show v = .bl b from r]; exact ⟨.base (.bl b), by decide⟩
  | int b => cases e; rw [show v = .int b from r]; exact ⟨.base (.int b), by decide⟩
  | str b => cases e; rw [show v = .str b from r]; exact ⟨.base (.str b), by decide⟩
  | tup xs =>
    cases e
    obtain ⟨a, vs, ev, s, _⟩ := r
    subst ev
    refine ⟨?_, by decide⟩
    rcases s with (s | ⟨o, s⟩) | ⟨o, its, n, s, hc, _⟩
    · exact .base (.tup s)
    · exact .fTuple s
    · exact .kTuple s hc
  | rl xs =>
    cases e
    obtain ⟨a, vs, ev, s, _⟩ := r
    subst ev
    refine ⟨?_, by decide⟩
    rcases s with ⟨o, s⟩ | ⟨o, its, n, s, hc, _⟩
    · exact .base (.frz s)
    · exact .kList s hc
  | loc m =>
    obtain ⟨a, ha, ev⟩ := r
    subst ev
    unfold tyN at e
    simp only at e
    split at e
    · rename_i ho
      cases e
      obtain ⟨vs, hv, _⟩ := R.lst ha ho
      exact ⟨.base (.lst hv), by decide⟩
    · rename_i ho
      cases e
      obtain ⟨kv', hk, _⟩ := R.dic ha ho
      rcases hk with hk | ⟨o, hk⟩
      · exact ⟨.base (.dK hk), by decide⟩
      · exact ⟨.fDict hk, by decide⟩
    · cases e
    · cases e
  | glo x => cases e
theorem tyN_cls {K : Frg} {μ : List Addr} {H : Hp} {h : PH} {p : PV} {v : V} {c : Str} {mg : Str → Option Value} {w : World} (t : TabOk T K mg w) (hc : T.isi c = true) (R : HR K μ wr H h) (r : RV K μ H p v) (e : tyN h p = some (.cl c)) : TyX K H v (.ref (He.ga K c)) := by
  cases p with
  | loc m =>
    obtain ⟨a, ha, ev⟩ := r
    subst ev
    unfold tyN at e
    simp only at e
    split at e
    · cases e
    · cases e
    · rename_i ho
      cases e
      obtain ⟨dx, fs', hH, _⟩ := R.ins ha ho
      obtain ⟨_, _, _, _, h1, h2, h3, h4, h5⟩ := t.isi c hc
      exact .base (.ins hH h1 h2 h3 h4 h5)
    · cases e
  | _ => cases e
theorem sn_isi {ty : TyN} {z : Str} {pa pb : Pos} (t : TabOk T X.K X.mg X.w) (ha : Snd X wr a fa) (hst : starEach [a, .Name z pa] X.env = (false, eval a X.env) :: starEach [.Name z pa] X.env) (hg : Gl X z) (hgi : Gl X "isinstance") (hfi : T.free "isinstance" = true) (hd : (z == ("__debug__" : Str)) = false)
    (hty : match ty with
      | .bt m => m ∈ askB ∧ T.free z = true ∧ bootBuiltins z = some (.type m) ∧ z ≠ "__name__"
      | .cl c => z = c ∧ T.isi c = true) : Snd X wr (.Call (.Name "isinstance" pb) [a, .Name z pa] [] pos) (eIsi T ty fa) := by
  have key : ∃ v, PE X (.Name z pa) (tC v) ∧ ClsV v (ty.val X.K) := by
    cases ty with
    | bt m => exact ⟨.ty m, pe_bltn hg (t.free z hty.2.1) hty.2.2.1 rfl hty.2.2.2 hd, .ty m⟩
    | cl c =>
      obtain ⟨e, h⟩ := hty
      subst e
      exact ⟨.ref (He.ga X.K z), pe_glob hg (t.isi z h).1 rfl hd, .own _⟩
  obtain ⟨v, hv, hk⟩ := key
  refine .of (PE_imp (pe_callB call_isi hgi (t.free _ hfi) (by decide +kernel) (pa_cons ha.val (pa_cons hv pa_nil) hst) (he := hst)) fun σ H Q ⟨μ, env, h, p, h', E, R, e, q⟩ => rdE_bnd E R e q fun μ1 H1 x h1 w s1 E1 R1 e1 r1 q1 => ?_) fun _ => rfl
  refine ⟨w, v, ?_⟩
  split at e1
  · rename_i n hn
    obtain ⟨ty1, mem⟩ := tyN_base R1 r1 hn
    cases ty with
    | bt m =>
      cases e1
      exact ⟨_, _, _, rfl, hk, ty1, kit_ty (isB_ok n mem m hty.1), q1.same R1 rfl⟩
    | cl c =>
      cases e1
      exact ⟨_, _, _, rfl, hk, ty1, (t.isi c hty.2).2.1 n mem, q1.same R1 rfl⟩
  · rename_i d hd2
    split at e1
    · rename_i hi
      have ty1 := tyN_cls t hi R1 r1 hd2
      cases ty with
      | bt m =>
        cases e1
        exact ⟨_, _, _, rfl, hk, ty1, (t.isi d hi).2.2.1 m hty.1, q1.same R1 rfl⟩
      | cl c =>
        cases e1
        exact ⟨_, _, _, rfl, hk, ty1, (t.isi d hi).2.2.2.1 c hty.2, q1.same R1 rfl⟩
    · cases e1
  · cases e1
end
end KP
set_option Elab.async false
set_option linter.all false
set_option maxRecDepth 100000
/-! KP 8: calls of defs, methods, classes. -/
namespace KP
open PySem PySem.Spec PyProof.Rows L2

/-- how a def is called: (what may be written) def, values -/
abbrev CallF := (Nat → Bool) → FKey → FN
/-- the promise of a def, by the evaluator -/
def spOf (K : Frg) (call : CallF) (key : FKey) : Sp := fun vs H Q _ => ∃ μ wr h ps p h', HR K μ wr H h ∧ RVs K μ H ps vs ∧ call wr key ps h = some (p, h') ∧ Go K μ wr H p h' Q
/-- a def's promise where no repr is under way -/
structure FnG (P : Program) (w : World) (K : Frg) (mg : Str → Option Value) (base : Heap) (k : Nat) (f : Addr) (fd : FuncData) (n : Nat) (ps : List Str) (sp : Sp) : Prop where
  len : ∀ vs H Q, sp vs H Q E0 → vs.length = n
  num : ps.length = n
  run : ∀ (A : Around) (outer : List PySem.Env) (s : Shared) (H : Hp) (args : Args) (us : List Value) (vs : List V) (Q : VK), A.guards = some [] → Room k A → Env0 P w K mg base A outer s H → BindsTo s fd args (ps.zip us) → Vals vs us → sp vs H Q E0 →
    codeAny (model P w) A (.call (.ref f) args) (CR CX0 outer P w H s Q E0) s
/-- room in a body: calls at level k, one frame more, or two units more -/
structure RoomB (k : Nat) (A : Around) : Prop where
  hd : A.handled = none
  dp : A.depth + 3 * k + 7 < recursionLimit
  un : A.units + 16 * k + 213 < cLine
theorem RoomB.of {k : Nat} {A : Around} (r : Room (k + 1) A) (env : PySem.Env) : RoomB k (A.deeper env) :=
  ⟨r.hd, by have := r.dp; show A.depth + 1 + 3 * k + 7 < _; omega, by have := r.un; show A.units + 3 + 16 * k + 213 < _; omega⟩
theorem RoomB.room {k : Nat} {A : Around} (r : RoomB k A) : Room k A := ⟨r.hd, by have := r.dp; omega, by have := r.un; omega⟩
theorem RoomB.room0 {k : Nat} {A : Around} (r : RoomB k A) : Room 0 A := ⟨r.hd, by have := r.dp; omega, by have := r.un; omega⟩
theorem RoomB.make {k : Nat} {A : Around} (r : RoomB k A) (C : Addr) (us : List Value) (kw : List (Str × Value)) : Room k (A.under (.builtin "type.__call__" ⟨.ref C :: us, kw⟩)) :=
  ⟨r.hd, by have := r.dp; rw [make_depth]; omega, by have := r.un; rw [make_units]; omega⟩
theorem RoomB.in2 {k : Nat} {A : Around} (r : RoomB k A) : Room k A.in1.in1 := ⟨r.hd, by have := r.dp; show A.depth + 3 * k + 5 < _; omega, by have := r.un; show A.units + 1 + 1 + 16 * k + 200 < _; omega⟩
/-- by its body -/
theorem FnG.of {P : Program} {w : World} {K : Frg} {mg : Str → Option Value} {base : Heap} {nm qual : Str} {params : Arguments} {body : List Stmt} {scope : Scope} {dvs : List V} {kws : List (Str × V)} {f : Addr} {fd : FuncData} {N ps : List Str} {k : Nat} {sp : Sp}
    (F : FunD K nm qual params body scope dvs kws f fd) (S : FnScope N ps scope) (len : ∀ vs H Q, sp vs H Q E0 → vs.length = ps.length)
    (hbody : ∀ (cdv : Value) (A : Around) (outer : List PySem.Env) (s : Shared) (H : Hp) (vs : List V) (Q : VK), A.guards = some [] → RoomB k (A.deeper (envOfC qual scope s.heap.objs.size f cdv)) → sp vs H Q E0 →
      ∃ t, PSs (cxOf CX0 P w K mg base N qual scope f cdv A outer s H E0) body t ∧ t { nx := fun _ H' => Q .non H', rt := Q } (start N vs) H) : FnG P w K mg base (k + 1) f fd ps.length ps sp := by
  obtain ⟨oc, od, dV, kV, doc, pm, an, cdv, ct, osl, rfl, lk, hcd, _, _⟩ := F.ex
  refine ⟨len, rfl, fun A outer s H args us vs Q hA hr e0 hb r hsp => ?_⟩
  have old : ∀ b o, base.get? b = some o → s.heap.get? b = some o := fun b o e => (e0.bs b o e).1
  have KX : K.In s.heap := e0.mod.kin.keeps old
  refine codeAny_call_function hr.depth (KX _ _ lk) rfl S.co S.gen rfl (PySem.W.codeRec_of KX hcd) (hb _ _ _ _ (wpAny_newFunctionEnv_cells S.kind (fun y hy => ?_) fun env he s1 x => ?_))
  · rcases S.par y.1 (List.of_mem_zip hy).1 with q | q
    · exact .inl q
    · exact .inr ⟨q, PySem.W.cellsFrom_some _ _ _ (.inl q)⟩
  · subst he
    refine ⟨(e0.mod.nolimit.keeps old).keeps x.toInCall.keep, codeAny_func ?_⟩
    obtain ⟨t, ht, hq⟩ := hbody cdv A outer s H vs Q hA (.of hr _) hsp
    refine wpAny_mono (ht.run [] s1 (start N vs) H _ (inv_start S hr.hd e0 (len _ _ _ hsp) r x) hq) (fun fl s' hs => ?_) fun e s' hs => hs
    cases fl with
    | ret u =>
      obtain ⟨v, σ', H', J, rv, q⟩ := hs
      exact ⟨v, H', J.os, J.bare, J.base, J.hok, rv, q⟩
    | next =>
      obtain ⟨σ', H', J, q⟩ := hs
      exact ⟨V.non, H', J.os, J.bare, J.base, J.hok, rfl, q⟩
    | brk =>
      obtain ⟨_, _, _, q⟩ := hs
      exact q.elim
    | cont =>
      obtain ⟨_, _, _, q⟩ := hs
      exact q.elim

/-- the values that lack -/
def fillN (I : FnI) (n : Nat) : List PV := I.dfl.drop (n + I.dfl.length - I.ps.length)
def fill (I : FnI) (ps : List PV) : Option (List PV) := if Nat.beq (ps ++ fillN I ps.length).length I.ps.length then some (ps ++ fillN I ps.length) else none
structure BindsOk (K : Frg) (fd : FuncData) (I : FnI) : Prop where
  fit : ∀ n, n + (fillN I n).length = I.ps.length → ∃ dvs ds, Vals dvs ds ∧ Binds K fd I.ps ds ∧ (∀ μ H, RVs K μ H (fillN I n) dvs)
  kw : ∀ (n : Nat) (s : Shared) (us ws : List Value), n ∈ I.kwn → K.In s.heap → us.length = n → ws.length = (I.ps.drop n).length → BindsTo s fd ⟨us, (I.ps.drop n).zip ws⟩ (I.ps.zip (us ++ ws))
/-- the defs keep their promises at level k -/
structure CallsOk (P : Program) (w : World) (K : Frg) (mg : Str → Option Value) (base : Heap) (T : Tab) (k : Nat) (call : CallF) : Prop where
  ok : ∀ key I, T.fn key = some I → ∃ fd, FnG P w K mg base k (He.fAd K key) fd I.ps.length I.ps (spOf K call key) ∧ BindsOk K fd I

def callT (T : Tab) (call : CallF) (wr : Nat → Bool) (key : FKey) (ps : List PV) (h : PH) : Option (PV × PH) := match T.fn key with
  | some I => (match fill I ps with
    | some qs => call wr key qs h
    | none => none)
  | none => none
def eFn (T : Tab) (call : CallF) (wr : Nat → Bool) (x : Str) (f : AF) : EF := fun env h => bnd (f env h) fun ps h1 => callT T call wr (x, none) ps h1
theorem callT_some {T : Tab} {call : CallF} {wr : Nat → Bool} {key : FKey} {ps : List PV} {h : PH} {r : PV × PH} (e : callT T call wr key ps h = some r) : ∃ I, T.fn key = some I ∧ (ps ++ fillN I ps.length).length = I.ps.length ∧ call wr key (ps ++ fillN I ps.length) h = some r := by
  unfold callT at e
  split at e
  · rename_i I hI
    unfold fill at e
    split at e
    · rename_i qs hq
      split at hq
      · rename_i hl
        cases hq
        exact ⟨I, hI, Nat.eq_of_beq_eq_true hl, e⟩
      · cases hq
    · cases e
  · cases e

section
variable {X : Cx} {wr : Nat → Bool} {T : Tab} {k n : Nat} {call : CallF} {a e : Expr} {es : List Expr} {fa : EF} {f : AF} {pos p apos : Pos} {x m c : Str} {fd : FuncData} {fad C : Addr} {ps : List Str} {sp : Sp}
theorem PE_ex {ι : Type} {e : Expr} {t : ι → TE} (h : ∀ i, PE X e (t i)) : PE X e (fun σ H Q => ∃ i, t i σ H Q) := ⟨fun pins s σ H Q I ⟨i, q⟩ => (h i).run pins s σ H Q I q⟩
/-- what comes back -/
theorem fnG_back {pins : List (Addr × Obj)} {σ : L2.St} {H : Hp} {s s' : Shared} {Q : VK} {r : Result} (I : Inv X pins σ H s) (h : CR CX0 X.stack X.prog X.w H s Q E0 r s') : ∃ u, r = .ok (.ret u) ∧ EP X pins σ Q u s' := by
  cases r with
  | error e => exact False.elim h
  | ok fl =>
    cases fl with
    | ret u => exact ⟨u, rfl, I.after h⟩
    | next => exact False.elim h
    | brk => exact False.elim h
    | cont => exact False.elim h
theorem fnG_run {pins : List (Addr × Obj)} {σ : L2.St} {H : Hp} {s : Shared} {Q : VK} {us vals : List Value} {kw : List (Str × Value)} {vs : List V} (F : FnG X.prog X.w X.K X.mg X.base k fad fd n ps sp) (hA : X.A.guards = some []) (hr : Room k X.A) (hb : BindsTo s fd ⟨us, kw⟩ (ps.zip vals))
    (I : Inv X pins σ H s) (r : Vals vs vals) (h : sp vs H Q E0) : wpAny (model X.prog X.w) X.A (PySem.call (.ref fad) us kw) (EP X pins σ Q) X.xe s := by
  refine wpAny_call (codeAny_mono (F.run X.A X.stack s H ⟨us, kw⟩ vals vs Q hA hr I.env0 hb r h) fun r s' hq => ?_)
  obtain ⟨u, rfl, q⟩ := fnG_back I hq
  exact q
theorem fnG_runD {pins : List (Addr × Obj)} {σ : L2.St} {H : Hp} {s : Shared} {Q : VK} {us ds : List Value} {vs dvs : List V} (F : FnG X.prog X.w X.K X.mg X.base k fad fd n ps sp) (hA : X.A.guards = some []) (hr : Room k X.A) (hb : Binds X.K fd ps ds) (hd : Vals dvs ds)
    (I : Inv X pins σ H s) (r : Vals vs us) (h : sp (vs ++ dvs) H Q E0) : wpAny (model X.prog X.w) X.A (PySem.call (.ref fad) us) (EP X pins σ Q) X.xe s := by
  have r2 : Vals (vs ++ dvs) (us ++ ds) := r.append hd
  exact fnG_run F hA hr (hb s us I.kIn (by rw [← r2.length, F.len _ _ _ h, F.num])) I r2 h
theorem guards_make {A : Around} (h : A.guards = some []) (C : Addr) (us : List Value) (kw : List (Str × Value)) : (A.under (.builtin "type.__call__" ⟨.ref C :: us, kw⟩)).guards = some [] := by
  have e : (Code.builtin "type.__call__" ⟨.ref C :: us, kw⟩).guards = [] := by
    have : (Code.builtin "type.__call__" ⟨.ref C :: us, kw⟩).isGuard = false := by
      show guardIds.contains "type.__call__" = false
      decide +kernel
    unfold Code.guards; rw [this]; rfl
  show pushGuards (Code.builtin "type.__call__" ⟨.ref C :: us, kw⟩).guards A.guards = some []
  rw [e, h]; rfl
theorem fnG_make {pins : List (Addr × Obj)} {σ : L2.St} {H : Hp} {s : Shared} {Q : VK} {us vals : List Value} {kw : List (Str × Value)} {vs : List V} (M : Mk X.K C fad) (F : FnG X.prog X.w X.K X.mg X.base k fad fd n ps sp) (hA : X.A.guards = some []) (hr : RoomB k X.A)
    (hb : ∀ (s : Shared) (y : Value), X.K.In s.heap → BindsTo s fd ⟨y :: us, kw⟩ (ps.zip (y :: vals))) (I : Inv X pins σ H s) (r : Vals vs vals)
    (h : ∀ y dx, H y = none → H dx = none → dx ≠ y → sp (.ref y :: vs) (upd (upd H dx (.own y)) y (.ins C dx [])) (fun v H2 => v = .non ∧ Q (.ref y) H2) E0) :
    wpAny (model X.prog X.w) X.A (PySem.call (.ref C) us kw) (EP X pins σ Q) X.xe s := by
  have hq := h (s.heap.objs.size + 1) s.heap.objs.size (I.hok.fresh (Nat.le_succ _)) (I.hok.fresh (Nat.le_refl _)) (Nat.ne_of_lt (Nat.lt_succ_self _))
  have I2 := Inv.made (C := C) I
  refine wpAny_call (make_map (f := fad) I.kIn M.makes M.init (beq_iff_eq.mp M.fn) (codeAny_mono (F.run _ X.stack _ _ ⟨Value.ref (s.heap.objs.size + 1) :: us, kw⟩ (Value.ref (s.heap.objs.size + 1) :: vals) _ _ (guards_make hA C us kw) (hr.make C us kw)
    (I2.env0.make C us kw) (hb _ _ I2.kIn) (.cons (show RelV (V.ref (s.heap.objs.size + 1)) _ from rfl) r) hq) fun r s' hq' => ?_))
  obtain ⟨u, rfl, v, H', I3, rv, ev, q3⟩ := fnG_back I2 hq'
  subst ev
  exact ⟨rv, ⟨V.ref (s.heap.objs.size + 1), H', I3, rfl, q3⟩⟩
/-! calls by a name, of a method, of a class: the readings are the layer's -/
variable {t tk : TA} {ta : TE} {dvs : List V} {ds : List Value} {o : Expr} {kws : List Keyword} {ks : List Str}
theorem pe_callG (F : FnG X.prog X.w X.K X.mg X.base k fad fd n ps sp) (hA : X.A.guards = some []) (hr : Room k X.A) (hg : Gl X x) (hm : X.mg x = some (.ref fad)) (hk : PySem.W.keepIn X.K (.ref fad) = true) (hb : Binds X.K fd ps ds) (hd : Vals dvs ds)
    (ha : PA X (e :: es) t) (hdb : (x == ("__debug__" : Str)) = false) (he : starEach (e :: es) X.env = (false, eval e X.env) :: starEach es X.env) (hpl : (backTo pos (starEach es X.env)).any (·.1) = false) :
    PE X (.Call (.Name x p) (e :: es) [] pos) (tCall sp dvs E0 t) := ⟨fun pins s σ H Q I h =>
  wpAny_Call_Name_kw (ld_glob I hg hm (PySem.W.callWith_K (h₀ := X.base) I.ok.mod.kin hk (thn (ha.run pos pins s σ H _ I h) fun us s1 ⟨vs, H1, I1, r, q⟩ => ⟨I1.kIn, fnG_runD F hA hr hb hd I1 r q⟩) he hpl) hdb)⟩
theorem pe_callG0 (F : FnG X.prog X.w X.K X.mg X.base k fad fd n ps sp) (hA : X.A.guards = some []) (hr : Room k X.A) (hg : Gl X x) (hm : X.mg x = some (.ref fad)) (hk : PySem.W.keepIn X.K (.ref fad) = true) (hb : Binds X.K fd ps ds) (hd : Vals dvs ds)
    (hdb : (x == ("__debug__" : Str)) = false) : PE X (.Call (.Name x p) [] [] pos) (tCall sp dvs E0 tNil) := ⟨fun pins s σ H Q I h =>
  wpAny_Call_Name_kw (ld_glob I hg hm (PySem.W.callWith_K0 I.kIn hk (fnG_runD (us := []) F hA hr hb hd I .nil h)) hdb)⟩
theorem pe_methG {pl : Sem Bool} (he : PE X o ta) (c : Cls X.K C) (hm : Meth X.K C m fad) (F : FnG X.prog X.w X.K X.mg X.base k fad fd n ps sp) (hA : X.A.guards = some []) (hr : Room k X.A) (hb : Binds X.K fd ps ds) (hd : Vals dvs ds) (ha : PA X (e :: es) t)
    (hst : starEach (e :: es) X.env = (false, eval e X.env) :: starEach es X.env) (hpl : (backTo pos (starEach es X.env)).any (·.1) = false)
    (ht : eval (.Call (.Attribute o m apos) (e :: es) [] pos) X.env = (do
      let ov ← eval o X.env
      standAt apos.atName
      let (f, first) ← holding [ov] (getMethod ov m pl)
      callWith pos f first (backTo pos (starEach (e :: es) X.env)) (backToKw pos (keywordEach [] X.env)))) :
    PE X (.Call (.Attribute o m apos) (e :: es) [] pos) (tMeth C m sp dvs E0 ta t) := by
  refine ⟨fun pins s σ H Q I h => PySem.W.methodCall_KW (pl := pl) (thn (he.run pins s σ H _ I h) fun u s1 ⟨x, H1, I1, rx, a, dx, fs, ex, ea, l, q⟩ => ?_) ht⟩
  subst ex
  obtain rfl : u = Value.ref a := rx
  exact getmeth_ok I1 ea c hm l (PySem.W.callWith_K (first := [.ref a]) (h₀ := X.base) I.ok.mod.kin hm.kp (thn (ha.run pos pins s1 σ H1 _ I1 q) fun us s2 ⟨vs, H2, I2, r, q2⟩ => ⟨I2.kIn, fnG_runD (us := .ref a :: us) (vs := .ref a :: vs) F hA hr hb hd I2 (.cons rfl r) q2⟩) hst hpl)
theorem pe_methG0 {pl : Sem Bool} (he : PE X o ta) (c : Cls X.K C) (hm : Meth X.K C m fad) (F : FnG X.prog X.w X.K X.mg X.base k fad fd n ps sp) (hA : X.A.guards = some []) (hr : Room k X.A) (hb : Binds X.K fd ps ds) (hd : Vals dvs ds)
    (ht : eval (.Call (.Attribute o m apos) [] [] pos) X.env = (do
      let ov ← eval o X.env
      standAt apos.atName
      let (f, first) ← holding [ov] (getMethod ov m pl)
      callWith pos f first (backTo pos (starEach [] X.env)) (backToKw pos (keywordEach [] X.env)))) :
    PE X (.Call (.Attribute o m apos) [] [] pos) (tMeth C m sp dvs E0 ta tNil) := by
  refine ⟨fun pins s σ H Q I h => PySem.W.methodCall_KW (pl := pl) (thn (he.run pins s σ H _ I h) fun u s1 ⟨x, H1, I1, rx, a, dx, fs, ex, ea, l, q⟩ => ?_) ht⟩
  subst ex
  obtain rfl : u = Value.ref a := rx
  exact getmeth_ok I1 ea c hm l (PySem.W.callWith_K0 (first := [.ref a]) I1.kIn hm.kp (fnG_runD (us := [.ref a]) (vs := [.ref a]) F hA hr hb hd I1 (.cons rfl .nil) q))
theorem bindsY (hb : Binds X.K fd ps ds) {us : List Value} (hl : (us.length + 1) + ds.length = ps.length) : ∀ (s : Shared) (y : Value), X.K.In s.heap → BindsTo s fd ⟨y :: us, []⟩ (ps.zip (y :: (us ++ ds))) := fun s y KI => hb s (y :: us) KI (by simp; omega)
theorem pe_makeG (M : Mk X.K C fad) (F : FnG X.prog X.w X.K X.mg X.base k fad fd n ps sp) (hA : X.A.guards = some []) (hr : RoomB k X.A) (hg : Gl X x) (hm : X.mg x = some (.ref C)) (hb : Binds X.K fd ps ds) (hd : Vals dvs ds)
    (ha : PA X (e :: es) t) (hdb : (x == ("__debug__" : Str)) = false) (he : starEach (e :: es) X.env = (false, eval e X.env) :: starEach es X.env) (hpl : (backTo pos (starEach es X.env)).any (·.1) = false) :
    PE X (.Call (.Name x p) (e :: es) [] pos) (tMake C sp dvs E0 t) := ⟨fun pins s σ H Q I h =>
  wpAny_Call_Name_kw (ld_glob I hg hm (PySem.W.callWith_K (h₀ := X.base) I.ok.mod.kin M.kp (thn (ha.run pos pins s σ H _ I h) fun us s1 ⟨vs, H1, I1, r, q⟩ => ⟨I1.kIn, by
    have q0 := q (s1.heap.objs.size + 1) s1.heap.objs.size (I1.hok.fresh (Nat.le_succ _)) (I1.hok.fresh (Nat.le_refl _)) (Nat.ne_of_lt (Nat.lt_succ_self _))
    have l := F.len _ _ _ q0
    have l1 := r.length
    have l2 := hd.length
    simp only [List.length_cons, List.length_append] at l
    exact fnG_make (us := us) M F hA hr (bindsY hb (by rw [F.num, ← l]; omega)) I1 (r.append hd) q⟩) he hpl) hdb)⟩
theorem pe_makeG0 (M : Mk X.K C fad) (F : FnG X.prog X.w X.K X.mg X.base k fad fd n ps sp) (hA : X.A.guards = some []) (hr : RoomB k X.A) (hg : Gl X x) (hm : X.mg x = some (.ref C)) (hb : Binds X.K fd ps ds) (hd : Vals dvs ds)
    (hdb : (x == ("__debug__" : Str)) = false) : PE X (.Call (.Name x p) [] [] pos) (tMake C sp dvs E0 tNil) := ⟨fun pins s σ H Q I h =>
  wpAny_Call_Name_kw (ld_glob I hg hm (PySem.W.callWith_K0 I.kIn M.kp (by
    have q0 := h (s.heap.objs.size + 1) s.heap.objs.size (I.hok.fresh (Nat.le_succ _)) (I.hok.fresh (Nat.le_refl _)) (Nat.ne_of_lt (Nat.lt_succ_self _))
    have l := F.len _ _ _ q0
    have l2 := hd.length
    simp only [List.length_cons, List.length_append, List.length_nil] at l
    exact fnG_make (us := []) M F hA hr (bindsY hb (by rw [F.num, ← l]; simp; omega)) I (Vals.append .nil hd) h)) hdb)⟩
/-- with keywords: n values, then the rest by name, in the parameters' order -/
def KwFit (K : Frg) (fd : FuncData) (ps : List Str) (n : Nat) : Prop := ∀ (s : Shared) (us ws : List Value), K.In s.heap → us.length = n → ws.length = (ps.drop n).length → BindsTo s fd ⟨us, (ps.drop n).zip ws⟩ (ps.zip (us ++ ws))
def tCallW (n m : Nat) (sp : Sp) (t tk : TA) : TE := fun σ H Q => t σ H fun vs H1 => tk σ H1 fun zs H2 => vs.length = n ∧ zs.length = m ∧ sp (vs ++ zs) H2 Q E0
variable {j : Nat}
theorem pe_callW (F : FnG X.prog X.w X.K X.mg X.base k fad fd n ps sp) (hA : X.A.guards = some []) (hr : Room k X.A) (hg : Gl X x) (hm : X.mg x = some (.ref fad)) (hk : PySem.W.keepIn X.K (.ref fad) = true) (hb : KwFit X.K fd ps j)
    (ha : PA X (e :: es) t) (hkw : PK X kws tk) (hall : (backToKw pos (keywordEach kws X.env)).all (·.1.isSome) = true) (hks : (backToKw pos (keywordEach kws X.env)).filterMap (·.1) = ps.drop j) (hdb : (x == ("__debug__" : Str)) = false) (he : starEach (e :: es) X.env = (false, eval e X.env) :: starEach es X.env)
    (hpl : ((backTo pos (starEach (e :: es) X.env)).any (·.1) || (backToKw pos (keywordEach kws X.env)).any (·.1.isNone)) = false) :
    PE X (.Call (.Name x p) (e :: es) kws pos) (tCallW j (ps.drop j).length sp t tk) := ⟨fun pins s σ H Q I h => by
  refine wpAny_Call_Name_kw (ld_glob I hg hm (PySem.W.callWith_KW (h₀ := X.base) I.ok.mod.kin hk hall (thn (ha.run pos pins s σ H _ I h) fun us s1 ⟨vs, H1, I1, r, q⟩ => thn (hkw.run pos pins s1 σ H1 _ I1 q) fun ws s2 ⟨zs, H2, I2, rz, l1, l2, q2⟩ => ⟨I2.kIn, ?_⟩) hpl he) hdb)
  rw [hks]
  exact fnG_run F hA hr (hb s2 us ws I2.kIn (by rw [← r.length]; exact l1) (by rw [← rz.length]; exact l2)) I2 (r.append rz) q2⟩
theorem pe_callW0 (F : FnG X.prog X.w X.K X.mg X.base k fad fd n ps sp) (hA : X.A.guards = some []) (hr : Room k X.A) (hg : Gl X x) (hm : X.mg x = some (.ref fad)) (hk : PySem.W.keepIn X.K (.ref fad) = true) (hb : KwFit X.K fd ps 0)
    (hkw : PK X kws tk) (hall : (backToKw pos (keywordEach kws X.env)).all (·.1.isSome) = true) (hks : (backToKw pos (keywordEach kws X.env)).filterMap (·.1) = ps.drop 0) (hdb : (x == ("__debug__" : Str)) = false)
    (hpl : ((backTo pos (starEach [] X.env)).any (·.1) || (backToKw pos (keywordEach kws X.env)).any (·.1.isNone)) = false) :
    PE X (.Call (.Name x p) [] kws pos) (tCallW 0 (ps.drop 0).length sp tNil tk) := ⟨fun pins s σ H Q I h => by
  refine wpAny_Call_Name_kw (ld_glob I hg hm (PySem.W.callWith_KW0 (h₀ := X.base) I.ok.mod.kin hk hall (thn (hkw.run pos pins s σ H _ I h) fun ws s2 ⟨zs, H2, I2, rz, l1, l2, q2⟩ => ⟨I2.kIn, ?_⟩) hpl) hdb)
  rw [hks]
  exact fnG_run (us := []) F hA hr (hb s2 [] ws I2.kIn rfl (by rw [← rz.length]; exact l2)) I2 (Vals.append .nil rz) q2⟩
/-- of a def by its name -/
theorem sn_fn (t : TabOk T X.K X.mg X.w) (C : CallsOk X.prog X.w X.K X.mg X.base T k call) (hA : X.A.guards = some []) (hr : RoomB k X.A) (hg : Gl X x) (hd : (x == ("__debug__" : Str)) = false) (hf : PA X (e :: es) (rdA X.K wr f))
    (he : starEach (e :: es) X.env = (false, eval e X.env) :: starEach es X.env) (hpl : (backTo pos (starEach es X.env)).any (·.1) = false) : Snd X wr (.Call (.Name x p) (e :: es) [] pos) (eFn T call wr x f) := by
  refine .of ⟨fun pins s σ H Q I ⟨μ, env, h, p0, h', E, R, e0, q⟩ => ?_⟩ fun _ => rfl
  obtain ⟨ps, h1, e1, e2⟩ := of_bnd e0
  obtain ⟨J, hJ, hl, e3⟩ := callT_some e2
  obtain ⟨fd, F, B⟩ := C.ok _ J hJ
  obtain ⟨g1, g2⟩ := t.fn x J hJ
  obtain ⟨dvs, ds, r1, r2, r3⟩ := B.fit ps.length (by rw [← List.length_append]; exact hl)
  refine (pe_callG F hA hr.room hg g1 g2 r2 r1 hf hd he hpl).run pins s σ H Q I ⟨μ, env, h, ps, h1, E, R, e1, fun μ1 H1 vs R1 s1 rv => ?_⟩
  exact ⟨μ1, wr, h1, _, p0, h', R1, rv.append (r3 μ1 H1), e3, q.after s1⟩
theorem sn_fn0 (t : TabOk T X.K X.mg X.w) (C : CallsOk X.prog X.w X.K X.mg X.base T k call) (hA : X.A.guards = some []) (hr : RoomB k X.A) (hg : Gl X x) (hd : (x == ("__debug__" : Str)) = false) : Snd X wr (.Call (.Name x p) [] [] pos) (eFn T call wr x aNil) := by
  refine .of ⟨fun pins s σ H Q I ⟨μ, env, h, p0, h', E, R, e0, q⟩ => ?_⟩ fun _ => rfl
  obtain ⟨ps, h1, e1, e2⟩ := of_bnd e0
  cases e1
  obtain ⟨J, hJ, hl, e3⟩ := callT_some e2
  obtain ⟨fd, F, B⟩ := C.ok _ J hJ
  obtain ⟨g1, g2⟩ := t.fn x J hJ
  obtain ⟨dvs, ds, r1, r2, r3⟩ := B.fit 0 (by rw [List.nil_append] at hl; simpa using hl)
  refine (pe_callG0 F hA hr.room hg g1 g2 r2 r1 hd).run pins s σ H Q I ?_
  exact ⟨μ, wr, h, _, p0, h', R, r3 μ H, e3, q⟩

/-! ### methods of own classes -/
def eOwn (T : Tab) (call : CallF) (wr : Nat → Bool) (m : Str) (fo : EF) (f : AF) : EF := fun env h => bnd (fo env h) fun x h1 => match x with
  | .loc n => (match h1[n]? with
    | some (.ins c fs) => if T.meth c m && (lookS m fs).isNone then bnd (f env h1) fun ps h2 => callT T call wr (c, some m) (x :: ps) h2 else none
    | _ => none)
  | _ => none
theorem sn_own {pl : Sem Bool} (t : TabOk T X.K X.mg X.w) (C : CallsOk X.prog X.w X.K X.mg X.base T k call) (hA : X.A.guards = some []) (hr : RoomB k X.A) (ha : Snd X wr a fa) (hf : PA X (e :: es) (rdA X.K wr f))
    (he : starEach (e :: es) X.env = (false, eval e X.env) :: starEach es X.env) (hpl : (backTo pos (starEach es X.env)).any (·.1) = false)
    (ht : eval (.Call (.Attribute a m apos) (e :: es) [] pos) X.env = (do
      let ov ← eval a X.env
      standAt apos.atName
      let (f, first) ← holding [ov] (getMethod ov m pl)
      callWith pos f first (backTo pos (starEach (e :: es) X.env)) (backToKw pos (keywordEach [] X.env)))) :
    Snd X wr (.Call (.Attribute a m apos) (e :: es) [] pos) (eOwn T call wr m fa f) := by
  refine .of ⟨fun pins s σ H Q I ⟨μ, env, h, p0, h', E, R, e0, q⟩ => ?_⟩ fun _ => rfl
  obtain ⟨x, h1, e1, e2⟩ := of_bnd e0
  cases x with
  | loc n =>
    simp only at e2
    split at e2
    · rename_i c fs ho
      split at e2
      · rename_i hc
        rw [Bool.and_eq_true] at hc
        obtain ⟨ps, h2, e3, e4⟩ := of_bnd e2
        obtain ⟨J, hJ, hl, e5⟩ := callT_some e4
        obtain ⟨fd, F, B⟩ := C.ok _ J hJ
        obtain ⟨g1, g2⟩ := t.meth c m hc.1
        obtain ⟨dvs, ds, r1, r2, r3⟩ := B.fit (PV.loc n :: ps).length (by rw [← List.length_append]; exact hl)
        refine (pe_methG ha.val g1 g2 F hA hr.room r2 r1 hf he hpl ht).run pins s σ H Q I ⟨μ, env, h, .loc n, h1, E, R, e1, fun μ1 H1 v R1 s1 rv => ?_⟩
        obtain ⟨ad, had, ev⟩ := rv
        subst ev
        obtain ⟨dx, fs', hH, hn, hv⟩ := R1.ins had ho
        refine ⟨ad, dx, fs', rfl, hH, lookS_none hn (Option.isNone_iff_eq_none.mp hc.2), μ1, env, h1, ps, h2, E.step s1, R1, e3, fun μ2 H2 vs R2 s2 rv => ?_⟩
        exact ⟨μ2, wr, h2, _, p0, h', R2, (RVs.cons (show RV X.K μ2 H2 (.loc n) (.ref ad) from ⟨ad, s2.mu _ _ had, rfl⟩) rv).append (r3 μ2 H2), e5, (q.after s1).after s2⟩
      · cases e2
    · cases e2
  | _ => cases e2
theorem sn_own0 {pl : Sem Bool} (t : TabOk T X.K X.mg X.w) (C : CallsOk X.prog X.w X.K X.mg X.base T k call) (hA : X.A.guards = some []) (hr : RoomB k X.A) (ha : Snd X wr a fa)
    (ht : eval (.Call (.Attribute a m apos) [] [] pos) X.env = (do
      let ov ← eval a X.env
      standAt apos.atName
      let (f, first) ← holding [ov] (getMethod ov m pl)
      callWith pos f first (backTo pos (starEach [] X.env)) (backToKw pos (keywordEach [] X.env)))) :
    Snd X wr (.Call (.Attribute a m apos) [] [] pos) (eOwn T call wr m fa aNil) := by
  refine .of ⟨fun pins s σ H Q I ⟨μ, env, h, p0, h', E, R, e0, q⟩ => ?_⟩ fun _ => rfl
  obtain ⟨x, h1, e1, e2⟩ := of_bnd e0
  cases x with
  | loc n =>
    simp only at e2
    split at e2
    · rename_i c fs ho
      split at e2
      · rename_i hc
        rw [Bool.and_eq_true] at hc
        obtain ⟨ps, h2, e3, e4⟩ := of_bnd e2
        cases e3
        obtain ⟨J, hJ, hl, e5⟩ := callT_some e4
        obtain ⟨fd, F, B⟩ := C.ok _ J hJ
        obtain ⟨g1, g2⟩ := t.meth c m hc.1
        obtain ⟨dvs, ds, r1, r2, r3⟩ := B.fit [PV.loc n].length (by rw [← List.length_append]; exact hl)
        refine (pe_methG0 ha.val g1 g2 F hA hr.room r2 r1 ht).run pins s σ H Q I ⟨μ, env, h, .loc n, h1, E, R, e1, fun μ1 H1 v R1 s1 rv => ?_⟩
        obtain ⟨ad, had, ev⟩ := rv
        subst ev
        obtain ⟨dx, fs', hH, hn, hv⟩ := R1.ins had ho
        refine ⟨ad, dx, fs', rfl, hH, lookS_none hn (Option.isNone_iff_eq_none.mp hc.2), ?_⟩
        exact ⟨μ1, wr, h1, _, p0, h', R1, (RVs.cons (show RV X.K μ1 H1 (.loc n) (.ref ad) from ⟨ad, had, rfl⟩) .nil).append (r3 μ1 H1), e5, q.after s1⟩
      · cases e2
    · cases e2
  | _ => cases e2

/-! ### a class is called -/
def eMk (T : Tab) (call : CallF) (wr : Nat → Bool) (c : Str) (f : AF) : EF := fun env h => bnd (f env h) fun ps h1 => if T.mks c then bnd (callT T call wr (c, some "__init__") (.loc h1.length :: ps) (h1 ++ [.ins c []])) fun r h2 => match r with
  | .non => some (.loc h1.length, h2)
  | _ => none
else none
theorem mk_core {ps : List PV} {vs : List V} {h1 h' : PH} {p0 : PV} {μ1 : List Addr} {H1 : Hp} {Q : VK} {J : FnI} {dvs : List V} (R1 : HR X.K μ1 wr H1 h1) (rv : RVs X.K μ1 H1 ps vs)
    (e5 : bnd (call wr (c, some "__init__") (.loc h1.length :: ps ++ fillN J (PV.loc h1.length :: ps).length) (h1 ++ [.ins c []])) (fun r h2 => match r with | .non => some (PV.loc h1.length, h2) | _ => none) = some (p0, h')) (q : Go X.K μ1 wr H1 p0 h' Q)
    (r3 : ∀ μ H, RVs X.K μ H (fillN J (PV.loc h1.length :: ps).length) dvs) (y dx : Addr) (hx : H1 y = none) (hdx : H1 dx = none) (ne : dx ≠ y) :
    spOf X.K call (c, some "__init__") (.ref y :: (vs ++ dvs)) (upd (upd H1 dx (.own y)) y (.ins (He.ga X.K c) dx [])) (fun v H2 => v = .non ∧ Q (.ref y) H2) E0 := by
  obtain ⟨r, h2, e6, e7⟩ := of_bnd e5
  have R2 : HR X.K μ1 wr (upd H1 dx (.own y)) h1 := R1.ext (ext_upd hdx)
  have hx2 : upd H1 dx (.own y) y = none := by rw [upd_ne ne.symm]; exact hx
  have R3 : HR X.K (μ1 ++ [y]) wr (upd (upd H1 dx (.own y)) y (.ins (He.ga X.K c) dx [])) (h1 ++ [.ins c []]) := R2.push hx2 ⟨dx, [], rfl, rfl, rfl⟩
  have s3 : Step X.K μ1 wr H1 (μ1 ++ [y]) (upd (upd H1 dx (.own y)) y (.ins (He.ga X.K c) dx [])) :=
    .ext R1 (fun n a e => by rw [List.getElem?_append_left (List.getElem?_eq_some_iff.mp e).1]; exact e) fun a u e => ext_upd hx2 _ _ (ext_upd hdx _ _ e)
  have hy : (μ1 ++ [y])[h1.length]? = some y := by rw [← R1.len]; simp
  have rr : RVs X.K (μ1 ++ [y]) (upd (upd H1 dx (.own y)) y (.ins (He.ga X.K c) dx [])) (.loc h1.length :: ps ++ fillN J (PV.loc h1.length :: ps).length) (.ref y :: (vs ++ dvs)) :=
    .cons (show RV X.K _ _ (.loc h1.length) (.ref y) from ⟨y, hy, rfl⟩) ((rv.step s3).append (r3 _ _))
  refine ⟨μ1 ++ [y], wr, _, _, r, h2, R3, rr, e6, fun μ4 H4 v R4 s4 r4 => ?_⟩
  cases r with
  | non =>
    cases e7
    exact ⟨r4, q μ4 H4 (.ref y) R4 (s3.trans s4) ⟨y, s4.mu _ _ hy, rfl⟩⟩
  | _ => cases e7
theorem sn_mk (t : TabOk T X.K X.mg X.w) (C : CallsOk X.prog X.w X.K X.mg X.base T k call) (hA : X.A.guards = some []) (hr : RoomB k X.A) (hg : Gl X c) (hd : (c == ("__debug__" : Str)) = false) (hf : PA X (e :: es) (rdA X.K wr f))
    (he : starEach (e :: es) X.env = (false, eval e X.env) :: starEach es X.env) (hpl : (backTo pos (starEach es X.env)).any (·.1) = false) : Snd X wr (.Call (.Name c p) (e :: es) [] pos) (eMk T call wr c f) := by
  refine .of ⟨fun pins s σ H Q I ⟨μ, env, h, p0, h', E, R, e0, q⟩ => ?_⟩ fun _ => rfl
  obtain ⟨ps, h1, e1, e2⟩ := of_bnd e0
  split at e2
  · rename_i hm
    obtain ⟨g1, g2⟩ := t.mks c hm
    obtain ⟨r, h2, e3, e4⟩ := of_bnd e2
    obtain ⟨J, hJ, hl, e5⟩ := callT_some e3
    obtain ⟨fd, F, B⟩ := C.ok _ J hJ
    obtain ⟨dvs, ds, r1, r2, r3⟩ := B.fit (PV.loc h1.length :: ps).length (by rw [← List.length_append]; exact hl)
    refine (pe_makeG g2 F hA hr hg g1 r2 r1 hf hd he hpl).run pins s σ H Q I ⟨μ, env, h, ps, h1, E, R, e1, fun μ1 H1 vs R1 s1 rv => fun y dx hx hdx ne => ?_⟩
    exact mk_core R1 rv (by rw [e5]; exact e4) (q.after s1) r3 y dx hx hdx ne
  · cases e2
theorem sn_mk0 (t : TabOk T X.K X.mg X.w) (C : CallsOk X.prog X.w X.K X.mg X.base T k call) (hA : X.A.guards = some []) (hr : RoomB k X.A) (hg : Gl X c) (hd : (c == ("__debug__" : Str)) = false) : Snd X wr (.Call (.Name c p) [] [] pos) (eMk T call wr c aNil) := by
  refine .of ⟨fun pins s σ H Q I ⟨μ, env, h, p0, h', E, R, e0, q⟩ => ?_⟩ fun _ => rfl
  obtain ⟨ps, h1, e1, e2⟩ := of_bnd e0
  cases e1
  split at e2
  · rename_i hm
    obtain ⟨g1, g2⟩ := t.mks c hm
    obtain ⟨r, h2, e3, e4⟩ := of_bnd e2
    obtain ⟨J, hJ, hl, e5⟩ := callT_some e3
    obtain ⟨fd, F, B⟩ := C.ok _ J hJ
    obtain ⟨dvs, ds, r1, r2, r3⟩ := B.fit [PV.loc h.length].length (by rw [← List.length_append]; exact hl)
    refine (pe_makeG0 g2 F hA hr hg g1 r2 r1 hd).run pins s σ H Q I fun y dx hx hdx ne => ?_
    exact mk_core R (.nil) (by rw [e5]; exact e4) q r3 y dx hx hdx ne
  · cases e2

/-! ### keywords, in the parameters' order -/
def eFnK (T : Tab) (call : CallF) (wr : Nat → Bool) (x : Str) (j : Nat) (ks : List Str) (f fk : AF) : EF := fun env h => bnd (f env h) fun ps h1 => bnd (fk env h1) fun zs h2 => match T.fn (x, none) with
  | some I => if Nat.beq ps.length j && (Nat.beq (ps.length + zs.length) I.ps.length && (natMem j I.kwn && decide (ks = I.ps.drop j))) then call wr (x, none) (ps ++ zs) h2 else none
  | none => none
def rdK (K : Frg) (wr : Nat → Bool) (f : AF) : TA := rdA K wr f
variable {fk : AF}
theorem sk_nil : PK X [] (rdA X.K wr aNil) := ⟨fun pos pins s σ H Q I ⟨μ, env, h, ps, h', E, R, e, q⟩ => by
  cases e
  exact pk_nil.run pos pins s σ H Q I (q μ H [] R .refl rfl)⟩
theorem sk_cons {nm : Option Str} {kpos : Pos} (ha : Snd X wr a fa) (hk : PK X kws (rdA X.K wr fk)) : PK X (⟨nm, a, kpos⟩ :: kws) (rdA X.K wr (aCons fa fk)) := ⟨fun pos pins s σ H Q I ⟨μ, env, h, ps, h', E, R, e, q⟩ => by
  obtain ⟨x, h1, e1, e2⟩ := of_bnd e
  obtain ⟨xs, h2, e3, e4⟩ := of_bnd e2
  cases e4
  exact (pk_cons ha.val hk).run pos pins s σ H Q I ⟨μ, env, h, x, h1, E, R, e1, fun μ1 H1 v R1 s1 r1 => ⟨μ1, env, h1, xs, _, E.step s1, R1, e3, fun μ2 H2 vs R2 s2 r2 => q μ2 H2 _ R2 (s1.trans s2) (.cons (r1.step s2) r2)⟩⟩⟩
theorem sn_fnK (t : TabOk T X.K X.mg X.w) (C : CallsOk X.prog X.w X.K X.mg X.base T k call) (hA : X.A.guards = some []) (hr : RoomB k X.A) (hg : Gl X x) (hd : (x == ("__debug__" : Str)) = false) (hf : PA X (e :: es) (rdA X.K wr f)) (hkw : PK X kws (rdA X.K wr fk))
    (hall : (backToKw pos (keywordEach kws X.env)).all (·.1.isSome) = true) (hks : (backToKw pos (keywordEach kws X.env)).filterMap (·.1) = ks) (he : starEach (e :: es) X.env = (false, eval e X.env) :: starEach es X.env)
    (hpl : ((backTo pos (starEach (e :: es) X.env)).any (·.1) || (backToKw pos (keywordEach kws X.env)).any (·.1.isNone)) = false) : Snd X wr (.Call (.Name x p) (e :: es) kws pos) (eFnK T call wr x j ks f fk) := by
  refine .of ⟨fun pins s σ H Q I ⟨μ, env, h, p0, h', E, R, e0, q⟩ => ?_⟩ fun _ => rfl
  obtain ⟨ps, h1, e1, e2⟩ := of_bnd e0
  obtain ⟨zs, h2, e3, e4⟩ := of_bnd e2
  split at e4
  · rename_i J hJ
    split at e4
    · rename_i hc
      rw [Bool.and_eq_true, Bool.and_eq_true, Bool.and_eq_true, decide_eq_true_eq] at hc
      obtain ⟨l1, l2, l4, l3⟩ := hc
      have l4 := natMem_iff.mp l4
      have l1 := Nat.eq_of_beq_eq_true l1
      have l2 := Nat.eq_of_beq_eq_true l2
      obtain ⟨fd, F, B⟩ := C.ok _ J hJ
      obtain ⟨g1, g2⟩ := t.fn x J hJ
      refine (pe_callW F hA hr.room hg g1 g2 (B.kw j · · · l4) hf hkw hall (hks.trans l3) hd he hpl).run pins s σ H Q I ⟨μ, env, h, ps, h1, E, R, e1, fun μ1 H1 vs R1 s1 rv => ⟨μ1, env, h1, zs, h2, E.step s1, R1, e3, fun μ2 H2 ws R2 s2 rz => ?_⟩⟩
      refine ⟨by rw [rv.length, l1], by rw [rz.length, List.length_drop]; omega, μ2, wr, h2, _, p0, h', R2, (rv.step s2).append rz, e4, (q.after s1).after s2⟩
    · cases e4
  · cases e4
theorem sn_fnK0 (t : TabOk T X.K X.mg X.w) (C : CallsOk X.prog X.w X.K X.mg X.base T k call) (hA : X.A.guards = some []) (hr : RoomB k X.A) (hg : Gl X x) (hd : (x == ("__debug__" : Str)) = false) (hkw : PK X kws (rdA X.K wr fk))
    (hall : (backToKw pos (keywordEach kws X.env)).all (·.1.isSome) = true) (hks : (backToKw pos (keywordEach kws X.env)).filterMap (·.1) = ks)
    (hpl : ((backTo pos (starEach [] X.env)).any (·.1) || (backToKw pos (keywordEach kws X.env)).any (·.1.isNone)) = false) : Snd X wr (.Call (.Name x p) [] kws pos) (eFnK T call wr x 0 ks aNil fk) := by
  refine .of ⟨fun pins s σ H Q I ⟨μ, env, h, p0, h', E, R, e0, q⟩ => ?_⟩ fun _ => rfl
  obtain ⟨ps, h1, e1, e2⟩ := of_bnd e0
  cases e1
  obtain ⟨zs, h2, e3, e4⟩ := of_bnd e2
  split at e4
  · rename_i J hJ
    split at e4
    · rename_i hc
      rw [Bool.and_eq_true, Bool.and_eq_true, Bool.and_eq_true, decide_eq_true_eq] at hc
      obtain ⟨l1, l2, l4, l3⟩ := hc
      have l4 := natMem_iff.mp l4
      have l2 := Nat.eq_of_beq_eq_true l2
      obtain ⟨fd, F, B⟩ := C.ok _ J hJ
      obtain ⟨g1, g2⟩ := t.fn x J hJ
      refine (pe_callW0 F hA hr.room hg g1 g2 (B.kw 0 · · · l4) hkw hall (hks.trans l3) hd hpl).run pins s σ H Q I ⟨μ, env, h, zs, h2, E, R, e3, fun μ2 H2 ws R2 s2 rz => ?_⟩
      refine ⟨rfl, by rw [rz.length, List.length_drop]; simpa using l2, μ2, wr, h2, _, p0, h', R2, (RVs.nil).append rz, e4, q.after s2⟩
    · cases e4
  · cases e4
end
end KP
set_option Elab.async false
set_option linter.all false
set_option maxRecDepth 100000
/-! KP 9: what is walked. -/
namespace KP
open PySem PySem.Spec PyProof.Rows L2

def lockW (wr : Nat → Bool) (lk : List Nat) : Nat → Bool := match lk with
  | [] => wr
  | n :: r => fun m => wr m && !(natMem m (n :: r))
theorem lockW_le {wr : Nat → Bool} {lk : List Nat} (n : Nat) (h : wr n = false) : lockW wr lk n = false := by
  cases lk with
  | nil => exact h
  | cons m r => show (wr n && !(natMem n (m :: r))) = false; rw [h]; rfl
theorem lockW_at {wr : Nat → Bool} {n : Nat} {lk : List Nat} (h : n ∈ lk) : lockW wr lk n = false := by
  cases lk with
  | nil => cases h
  | cons m r =>
    show (wr n && !(natMem n (m :: r))) = false
    rw [natMem_iff.mpr h]
    simp
/-- what an iterator gives: the items; the place that must stay as it is -/
abbrev IF := Env → PH → Option ((List PV × List Nat) × PH)
structure ItOk (K : Frg) (wr : Nat → Bool) (J : It) (items : List PV) (μ : List Addr) (H : Hp) (G : Hp → Prop) (Y : Nat → Hp → V → Hp → Prop) : Prop where
  walk : Walk J items.length G Y
  good : ∀ μ2 H2, Step K μ wr H μ2 H2 → G H2
  item : ∀ i μ2 H2 x H3, Step K μ wr H μ2 H2 → i < items.length → Y i H2 x H3 → (∀ a o, H2 a = some o → H3 a = some o) ∧ ∃ p, items[i]? = some p ∧ RV K μ2 H3 p x
def GoI (K : Frg) (μ : List Addr) (wr : Nat → Bool) (H : Hp) (items : List PV) (lk : List Nat) (h : PH) (R : It → Hp → Prop) : Prop :=
  ∀ (μ' : List Addr) (H' : Hp) (J : It) (G : Hp → Prop) (Y : Nat → Hp → V → Hp → Prop), HR K μ' wr H' h → Step K μ wr H μ' H' → ItOk K (lockW wr lk) J items μ' H' G Y → R J H'
def rdI (K : Frg) (wr : Nat → Bool) (f : IF) : TI := fun σ H R => ∃ μ env h items lk h', ER K μ H env σ ∧ HR K μ wr H h ∧ f env h = some ((items, lk), h') ∧ GoI K μ wr H items lk h' R
theorem PI_imp {X : Cx} {tg e : Expr} {t t' : TI} (h : PI X tg e t) (i : ∀ σ H Q, t' σ H Q → t σ H Q) : PI X tg e t' := ⟨fun pins s σ H Q I q => h.run pins s σ H Q I (i σ H Q q)⟩

section
variable {K : Frg} {wr : Nat → Bool} {μ : List Addr} {H : Hp}
/-- items that stand in a list that stays -/
theorem ItOk.at {J : It} {items : List PV} {vs : List V} {G : Hp → Prop} (w : Walk J vs.length G (YAt vs)) (r : RVs K μ H items vs) (g : ∀ μ2 H2, Step K μ wr H μ2 H2 → G H2) : ItOk K wr J items μ H G (YAt vs) := by
  refine ⟨by rw [← r.length]; exact w, g, fun i μ2 H2 x H3 s hi y => ?_⟩
  obtain ⟨e, hx⟩ := y
  subst e
  refine ⟨fun _ _ e => e, ?_⟩
  obtain ⟨p, h1, h2⟩ := (r.step s).getV hx
  exact ⟨p, h1, h2⟩
end

/-! ### a list, a tuple, a text -/
def iOf (f : EF) : IF := fun env h => bnd (f env h) fun x h1 => match x with
  | .tup xs => some ((xs, []), h1)
  | .rl xs => some ((xs, []), h1)
  | .str z => some ((z.cps.toList.map fun c => PV.str ⟨⟨[c]⟩⟩, []), h1)
  | .loc n => (match h1[n]? with
    | some (.lst xs) => some ((xs, [n]), h1)
    | _ => none)
  | _ => none
section
variable {X : Cx} {wr : Nat → Bool} {T : Tab} {a b : Expr} {fa fb : EF} {tg : Expr} {pos p : Pos}
theorem si_of (ha : Snd X wr a fa) : PI X tg a (rdI X.K wr (iOf fa)) := by
  refine ⟨fun pins s σ H R I ⟨μ, env, h, items, lk, h', E, R0, e, q⟩ => ?_⟩
  obtain ⟨x, h1, e1, e2⟩ := of_bnd e
  cases x with
  | tup xs =>
    cases e2
    refine (pi_tup ha.val).run pins s σ H R I ⟨μ, env, h, _, _, E, R0, e1, fun μ1 H1 v R1 s1 r1 => ?_⟩
    obtain ⟨ad, vs, ev, sq, rr⟩ := r1
    subst ev
    exact ⟨ad, rfl, ⟨vs, sq⟩, q μ1 H1 _ _ _ R1 s1 (.at walk_tup rr fun μ2 H2 s2 => s2.keep.tup _ _ sq)⟩
  | rl xs =>
    cases e2
    refine (pi_list ha.val).run pins s σ H R I ⟨μ, env, h, _, _, E, R0, e1, fun μ1 H1 v R1 s1 r1 => ?_⟩
    obtain ⟨ad, vs, ev, sq, rr⟩ := r1
    subst ev
    exact ⟨ad, rfl, ⟨vs, sq.sq⟩, q μ1 H1 _ _ _ R1 s1 (.at walk_list rr fun μ2 H2 s2 => (s2.keep.frz _ _ sq).sq)⟩
  | str z =>
    cases e2
    refine (pi_str ha.val).run pins s σ H R I ⟨μ, env, h, _, _, E, R0, e1, fun μ1 H1 v R1 s1 r1 => ?_⟩
    refine ⟨z, r1, q μ1 H1 _ (fun _ => True) (fun i H v H' => H' = H ∧ ∃ c, z.cps[i]? = some c ∧ v = .str ⟨#[c]⟩) R1 s1 ⟨?_, fun _ _ _ => trivial, fun i μ2 H2 y H3 s2 hi yy => ?_⟩⟩
    · rw [List.length_map, Array.length_toList]; exact walk_str
    · obtain ⟨eh, c, hc, ey⟩ := yy
      subst eh ey
      exact ⟨fun _ _ e => e, .str ⟨⟨[c]⟩⟩, by rw [List.getElem?_map, Array.getElem?_toList, hc]; rfl, rfl⟩
  | loc n =>
    simp only at e2
    split at e2
    · rename_i xs ho
      cases e2
      refine (pi_list ha.val).run pins s σ H R I ⟨μ, env, h, _, _, E, R0, e1, fun μ1 H1 v R1 s1 r1 => ?_⟩
      obtain ⟨ad, had, ev⟩ := r1
      subst ev
      obtain ⟨vs, hv, rr⟩ := R1.lst had ho
      exact ⟨ad, rfl, ⟨vs, .of hv⟩, q μ1 H1 _ _ _ R1 s1 (.at walk_list rr fun μ2 H2 s2 => .of ((s2.frame n ad had (lockW_at (by simp))).trans hv))⟩
    · cases e2
  | _ => cases e2

/-! ### range -/
def rngItems (lo : Int) : Nat → List PV
  | 0 => []
  | n + 1 => .int lo :: rngItems (lo + 1) n
theorem rng_len : ∀ (n : Nat) (lo : Int), (rngItems lo n).length = n
  | 0, _ => rfl
  | n + 1, lo => by rw [rngItems, List.length_cons, rng_len n]
theorem rng_get : ∀ (n : Nat) (lo : Int) (i : Nat), i < n → (rngItems lo n)[i]? = some (.int (lo + i))
  | 0, _, _, h => absurd h (Nat.not_lt_zero _)
  | n + 1, lo, 0, _ => by simp [rngItems]
  | n + 1, lo, i + 1, h => by
    rw [rngItems, List.getElem?_cons_succ, rng_get n (lo + 1) i (by omega)]
    congr 2
    push_cast
    omega
def iRange1 (fa : EF) : IF := fun env h => bnd (fa env h) fun x h1 => match x with
  | .int n => if decide (-(2 ^ 62) ≤ n) && decide (n < 2 ^ 62) then some ((rngItems 0 n.toNat, []), h1) else none
  | _ => none
def iRange2 (fa fb : EF) : IF := fun env h => bnd (fa env h) fun x h1 => bnd (fb env h1) fun y h2 => match x, y with
  | .int a, .int b => if (decide (-(2 ^ 62) ≤ a) && decide (a < 2 ^ 62)) && (decide (-(2 ^ 62) ≤ b) && decide (b < 2 ^ 62)) then some ((rngItems a (b - a).toNat, []), h2) else none
  | _, _ => none
theorem rng_ok {K : Frg} {μ : List Addr} {H : Hp} {lo : Int} {n : Nat} : ItOk K wr (Itr lo n) (rngItems lo n) μ H (fun _ => True) (YFn fun i => .int (lo + i)) := by
  refine ⟨by rw [rng_len]; exact walk_range, fun _ _ _ => trivial, fun i μ2 H2 x H3 s hi y => ?_⟩
  obtain ⟨e, ex⟩ := y
  subst e ex
  rw [rng_len] at hi
  exact ⟨fun _ _ e => e, _, rng_get n lo i hi, rfl⟩
theorem si_range1 (hg : Gl X "range") (hm : X.mg "range" = none) (ha : Snd X wr a fa) (hs : starEach [a] X.env = [(false, eval a X.env)]) : PI X tg (.Call (.Name "range" p) [a] [] pos) (rdI X.K wr (iRange1 fa)) := by
  refine PI_imp (pi_range1 hg hm (pa_cons ha.val pa_nil hs) hs) fun σ H R ⟨μ, env, h, items, lk, h', E, R0, e, q⟩ => ?_
  obtain ⟨x, h1, e1, e2⟩ := of_bnd e
  refine ⟨μ, env, h, x, h1, E, R0, e1, fun μ1 H1 v R1 s1 r1 => ?_⟩
  cases x with
  | int n =>
    simp only at e2
    split at e2
    · rename_i hc
      cases e2
      simp only [Bool.and_eq_true, decide_eq_true_eq] at hc
      exact ⟨n, by rw [show v = .int n from r1], hc.1, hc.2, q μ1 H1 _ _ _ R1 s1 rng_ok⟩
    · cases e2
  | _ => cases e2
theorem si_range2 (hg : Gl X "range") (hm : X.mg "range" = none) (ha : Snd X wr a fa) (hb : Snd X wr b fb) (hs : starEach [a, b] X.env = [(false, eval a X.env), (false, eval b X.env)]) (hs2 : starEach [b] X.env = [(false, eval b X.env)]) :
    PI X tg (.Call (.Name "range" p) [a, b] [] pos) (rdI X.K wr (iRange2 fa fb)) := by
  refine PI_imp (pi_range2 hg hm (pa_cons ha.val (pa_cons hb.val pa_nil hs2) (by rw [hs, hs2])) hs hs2) fun σ H R ⟨μ, env, h, items, lk, h', E, R0, e, q⟩ => ?_
  obtain ⟨x, h1, e1, e2⟩ := of_bnd e
  refine ⟨μ, env, h, x, h1, E, R0, e1, fun μ1 H1 v R1 s1 r1 => ?_⟩
  obtain ⟨y, h2, e3, e4⟩ := of_bnd e2
  refine ⟨μ1, env, h1, y, h2, E.step s1, R1, e3, fun μ2 H2 w R2 s2 r2 => ?_⟩
  have r1' := r1.step s2
  split at e4
  · rename_i m n
    split at e4
    · rename_i hc
      cases e4
      simp only [Bool.and_eq_true, decide_eq_true_eq] at hc
      exact ⟨m, n, by rw [show v = .int m from r1', show w = .int n from r2], ⟨hc.1.1, hc.1.2, hc.2.1, hc.2.2⟩, q μ2 H2 _ _ _ R2 (s1.trans s2) rng_ok⟩
    · cases e4
  · cases e4
end
end KP
set_option Elab.async false
set_option linter.all false
set_option maxRecDepth 100000
/-! KP 9z: zip over lists, tuples, texts in any mix; dict items; enumerate. -/
namespace KP
open PySem PySem.Spec PyProof.Rows L2

/-- what zip walks -/
inductive Src where
  | lst (a : Addr) | tup (a : Addr) | str (z : Str) (t : Tok)
def Src.it (it : Addr) (i : Nat) (h : Heap) : Src → Prop
  | .lst a => h.IsListIter it a i
  | .tup a => h.IsTupleIter it a i
  | .str z t => h.IsStrIter it (strIterType z) z t i
def Src.has (K : Frg) (H : Hp) (xs : List V) : Src → Prop
  | .lst a => SqL K H a xs
  | .tup a => SqT K H a xs
  | .str z _ => xs = z.cps.toList.map fun c => V.str ⟨#[c]⟩
def Src.fp (it : Addr) : Src → List Addr
  | .lst a => [it, a]
  | .tup a => [it, a]
  | .str _ _ => [it]
def Src.under : Src → List Addr
  | .lst a => [a]
  | .tup a => [a]
  | .str _ _ => []
def Src.val : Src → Value
  | .lst a => .ref a
  | .tup a => .ref a
  | .str z t => .str z t
def Src.obj : Src → Obj
  | .lst a => { cls := .type "list_iterator", data := .fields #[.ref a, .int 0 0] }
  | .tup a => { cls := .type "tuple_iterator", data := .fields #[.ref a, .int 0 0] }
  | .str z t => { cls := .type (strIterType z), data := .fields #[.str z t, .int 0 0] }
theorem Src.fp_mem {S : Src} {it b : Addr} (h : b ∈ S.fp it) : b = it ∨ b ∈ S.under := by
  cases S with
  | lst a => simpa [Src.fp, Src.under] using h
  | tup a => simpa [Src.fp, Src.under] using h
  | str z t => exact .inl (by simpa [Src.fp] using h)
theorem Vals.getR : ∀ {xs : List V} {us : List Value} {i : Nat} {u : Value}, L2.Vals xs us → us[i]? = some u → ∃ x, xs[i]? = some x ∧ L2.RelV x u
  | _, _, _, _, .nil, e => by simp at e
  | _, _, 0, u, .cons r _, e => by simp at e; subst e; exact ⟨_, rfl, r⟩
  | _, _, i + 1, u, .cons _ t, e => by
    obtain ⟨x, h1, h2⟩ := Vals.getR (i := i) (u := u) t (by simpa using e)
    exact ⟨x, by simpa using h1, h2⟩
section
variable {X : Cx} {pins : List (Addr × Obj)} {σ : L2.St} {H : Hp} {s : Shared}
theorem Src.inj {S : Src} {xs ys : List V} (I : L2.Inv X pins σ H s) (h : S.has X.K H xs) (h' : S.has X.K H ys) : xs = ys := by
  cases S with
  | lst a => exact I.list_inj h h'
  | tup a => exact I.tuple_inj h h'
  | str z t => exact Eq.trans h (Eq.symm h')
theorem Src.draws {S : Src} {xs : List V} {it : Addr} (I : L2.Inv X pins σ H s) (hc : X.A.handled = none) (hq : S.has X.K H xs) (ne : ∀ a ∈ S.under, a ≠ it) (A : Around) (hA : A.handled = none) :
    ∃ (n : Nat) (P : Nat → Value → Prop) (St : Nat → Heap → Prop), Draws X.prog X.w A it (S.fp it) n P St ∧ n = xs.length ∧ (∀ i v, P i v → ∃ x, xs[i]? = some x ∧ RelV x v) ∧ (∀ i, S.it it i s.heap → St i s.heap) ∧ (∀ i h', St i h' → S.it it i h') := by
  cases S with
  | lst a =>
    obtain ⟨its, rv, p, _⟩ := I.list hq
    refine ⟨_, _, _, Draws.list hA it a (ne a (by simp [Src.under])) its.toArray, by simp [rv.length], fun i v hv => ?_, fun i h => ⟨h, p.isList⟩, fun i h' h => h.1⟩
    have hv' : its[i]? = some v := by simpa using hv
    obtain ⟨x, h1, h2⟩ := Vals.getR rv hv'
    exact ⟨x, h1, h2⟩
  | tup a =>
    obtain ⟨its, rv, p, _⟩ := I.tuple hq
    refine ⟨_, _, _, Draws.tuple hA it a (ne a (by simp [Src.under])) its.toArray, by simp [rv.length], fun i v hv => ?_, fun i h => ⟨h, p⟩, fun i h' h => h.1⟩
    have hv' : its[i]? = some v := by simpa using hv
    obtain ⟨x, h1, h2⟩ := Vals.getR rv hv'
    exact ⟨x, h1, h2⟩
  | str z t =>
    have e : xs = z.cps.toList.map fun c => V.str ⟨#[c]⟩ := hq
    subst e
    refine ⟨_, _, _, Draws.text hA it z t, by simp, fun i v hv => ?_, fun i h => h, fun i h' h => h⟩
    obtain ⟨c, u, h1, h2⟩ := hv
    exact ⟨.str ⟨#[c]⟩, by simp [h1], ⟨u, h2⟩⟩
end

def ItzS (K : Frg) (S1 S2 : Src) : It :=
  ⟨fun i H => ∃ xs ys : List V, S1.has K H xs ∧ S2.has K H ys ∧ i < xs.length ∧ i < ys.length,
    fun i H v H' => ∃ T x y, v = .ref T ∧ H T = none ∧ H' = upd H T (.tup [x, y]) ∧ (∀ xs, S1.has K H xs → xs[i]? = some x) ∧ ∀ ys, S2.has K H ys → ys[i]? = some y,
    fun i H => ∃ xs ys : List V, S1.has K H xs ∧ S2.has K H ys ∧ i = min xs.length ys.length⟩
theorem Src.isObj {S : Src} {it : Addr} {i : Nat} {h : Heap} (st : S.it it i h) : ∃ o, h.get? it = some o ∧ ∀ v, o.data ≠ .cell v := by
  cases S with
  | lst a => obtain ⟨o, e, _, d⟩ := st; exact ⟨o, e, fun v q => by rw [d] at q; cases q⟩
  | tup a => obtain ⟨o, e, _, d⟩ := st; exact ⟨o, e, fun v q => by rw [d] at q; cases q⟩
  | str z t => obtain ⟨o, e, _, d⟩ := st; exact ⟨o, e, fun v q => by rw [d] at q; cases q⟩
theorem Src.keep {S : Src} {it : Addr} {i : Nat} {h h' : Heap} (st : S.it it i h) (k : ∀ o, h.get? it = some o → h'.get? it = some o) : S.it it i h' := by
  cases S with
  | lst a => obtain ⟨o, e, c, d⟩ := st; exact ⟨o, k o e, c, d⟩
  | tup a => obtain ⟨o, e, c, d⟩ := st; exact ⟨o, k o e, c, d⟩
  | str z t => obtain ⟨o, e, c, d⟩ := st; exact ⟨o, k o e, c, d⟩
theorem turn_zipS {P : Program} {w : World} {K : Frg} {elts : List Expr} {kk : Nat} {tpos : Pos} {S1 S2 : Src} {N : Nat} (u1 : ∀ a ∈ S1.under, a < N) (u2 : ∀ a ∈ S2.under, a < N) :
    Turn P w K (.Tuple elts kk tpos) (ItzS K S1 S2) [N + 4, N + 2, N + 3, N, N + 1] (N + 4) (fun i h => IsZip h (N + 4) (N + 2) (N + 3) .none ∧ IsTupOf2 h (N + 2) (.ref N) (.ref (N + 1)) ∧ (∃ x y, IsTupOf2 h (N + 3) x y) ∧ S1.it N i h ∧ S2.it (N + 1) i h) := by
  have A1 : ∀ a ∈ S1.under, (a : Nat) < N := u1
  have A2 : ∀ a ∈ S2.under, (a : Nat) < N := u2
  have sep : ZipSep2 (N + 4) (N + 2) (N + 3) N (N + 1) (S1.fp N) (S2.fp (N + 1)) := by
    have f1 : ∀ b ∈ S1.fp N, b = N ∨ (b : Nat) < N := fun b hb => (Src.fp_mem hb).imp id (A1 b)
    have f2 : ∀ b ∈ S2.fp (N + 1), b = N + 1 ∨ (b : Nat) < N := fun b hb => (Src.fp_mem hb).imp id (A2 b)
    refine ⟨show (N + 2 : Nat) ≠ N + 4 by omega, show (N + 3 : Nat) ≠ N + 4 by omega, show (N + 2 : Nat) ≠ N + 3 by omega, show (N + 2 : Nat) ≠ N by omega, by cases S1 <;> simp [Src.fp], fun z => ?_, fun z => ?_, show (N + 2 : Nat) ≠ N + 1 by omega, by cases S2 <;> simp [Src.fp], fun z => ?_, fun z => ?_, fun z => ?_, fun z => ?_⟩
    · rcases f1 _ z with q | q
      · exact absurd (show (N + 4 : Nat) = N from q) (by omega)
      · exact absurd (show (N + 4 : Nat) < N from q) (by omega)
    · rcases f1 _ z with q | q
      · exact absurd (show (N + 3 : Nat) = N from q) (by omega)
      · exact absurd (show (N + 3 : Nat) < N from q) (by omega)
    · rcases f2 _ z with q | q
      · exact absurd (show (N + 4 : Nat) = N + 1 from q) (by omega)
      · exact absurd (show (N + 4 : Nat) < N from q) (by omega)
    · rcases f2 _ z with q | q
      · exact absurd (show (N + 3 : Nat) = N + 1 from q) (by omega)
      · exact absurd (show (N + 3 : Nat) < N from q) (by omega)
    · rcases f2 _ z with q | q
      · exact absurd (show (N : Nat) = N + 1 from q) (by omega)
      · exact absurd (show (N : Nat) < N from q) (by omega)
    · rcases f1 _ z with q | q
      · exact absurd (show (N + 1 : Nat) = N from q) (by omega)
      · exact absurd (show (N + 1 : Nat) < N from q) (by omega)
  have ne1 : ∀ a ∈ S1.under, a ≠ N := fun a h => Nat.ne_of_lt (A1 a h)
  have ne2 : ∀ a ∈ S2.under, a ≠ N + 1 := fun a h => Nat.ne_of_lt (Nat.lt_succ_of_lt (A2 a h))
  refine ⟨by simp, fun i h st c hc => ?_, fun i h h' st k => ?_, ?_, ?_, fun A i s Q E st h => wpAny_pyIter_zip st.1 h⟩
  · obtain ⟨hz, hTI, ⟨x, y, hTO⟩, h1, h2⟩ := st
    have e' : c = N + 4 ∨ c = N + 2 ∨ c = N + 3 ∨ c = N ∨ c = N + 1 := by simpa using hc
    rcases e' with q | q | q | q | q
    · rw [q]; exact ⟨_, hz, fun v q => nomatch q⟩
    · rw [q]; exact ⟨_, hTI, fun v q => nomatch q⟩
    · rw [q]; exact ⟨_, hTO, fun v q => nomatch q⟩
    · rw [q]; exact Src.isObj h1
    · rw [q]; exact Src.isObj h2
  · obtain ⟨hz, hTI, ⟨x, y, hTO⟩, h1, h2⟩ := st
    exact ⟨k _ (by simp) _ hz, k _ (by simp) _ hTI, ⟨x, y, k _ (by simp) _ hTO⟩, Src.keep h1 fun o q => k _ (by simp) o q, Src.keep h2 fun o q => k _ (by simp) o q⟩
  · intro X hP hw hK hc i pins s σ H E I hf st hg
    subst hP hw hK
    obtain ⟨hz, hTI, ⟨x0, y0, hTO⟩, h1, h2⟩ := st
    obtain ⟨xs, ys, hqx, hqy, hx, hy⟩ := hg
    have hh := I.ok.hd hc
    obtain ⟨n1, P1, St1, D1, en1, hP1, to1, from1⟩ := Src.draws I hh hqx ne1 X.A.in1 hh
    obtain ⟨n2, P2, St2, D2, en2, hP2, to2, from2⟩ := Src.draws I hh hqy ne2 X.A.in1 hh
    have hzl : (N + 4 : Nat) < s.heap.objs.size := Heap.lt_size hz
    refine wpAny_pyNext_zipD2_item sep D1 D2 hz hTI hTO (to1 i h1) (to2 i h2) (by rw [en1]; exact hx) (by rw [en2]; exact hy) fun x1 x2 h' tk p1 p2 z' TO' st1' st2' hT hsz hk => ?_
    obtain ⟨a1, ha1, ra1⟩ := hP1 i x1 p1
    obtain ⟨a2, ha2, ra2⟩ := hP2 i x2 p2
    refine ⟨_, rfl, wpAny_letOwnedTupleGo_zip (s := { s with heap := h', toks := tk }) z' fun h'' z'' sb => ?_⟩
    have hT2 : h''.get? s.heap.objs.size = some { cls := .type "tuple", data := .seq #[x1, x2] } := (sb.2 _ (Nat.ne_of_gt hzl)).trans hT
    have new : ObjOk X.prog X.w (upd H s.heap.objs.size (.tup [a1, a2])) h'' s.heap.objs.size (.tup [a1, a2]) :=
      ⟨by show 2 ≤ sizeLine; decide, [x1, x2], .cons ra1 (.cons ra2 .nil), ⟨_, hT2, rfl, _, rfl⟩⟩
    have I1 : L2.Inv X pins σ (upd H s.heap.objs.size (.tup [a1, a2])) { s with heap := h'', toks := tk } :=
      I.turnedNew (t' := tk) (ch := [N + 4, N + 2, N + 3, N, N + 1]) (fun c o hb q => (sb.2 c (fun q' => hb (by simp [q']))).trans (hk c o (fun q' => hb (by simp [q'])) (fun q' => hb (by simp [q'])) (fun q' => hb (by simp [q'])) (fun q' => hb (by simp [q'])) q)) hf (Nat.le_refl _) new
    refine ⟨.ref s.heap.objs.size, _, I1, rfl, ⟨_, a1, a2, rfl, I.hok.fresh (Nat.le_refl _), rfl, fun l hl => by rw [Src.inj I hl hqx]; exact ha1, fun l hl => by rw [Src.inj I hl hqy]; exact ha2⟩, ⟨z'', ?_, ⟨x1, x2, ?_⟩, ?_, ?_⟩, fun c hcm => ?_⟩
    · exact (sb.2 _ (show (N + 2 : Nat) ≠ N + 4 by omega)).trans (hk _ _ (show (N + 2 : Nat) ≠ N + 4 by omega) (show (N + 2 : Nat) ≠ N + 3 by omega) (show (N + 2 : Nat) ≠ N by omega) (show (N + 2 : Nat) ≠ N + 1 by omega) hTI)
    · exact (sb.2 _ (show (N + 3 : Nat) ≠ N + 4 by omega)).trans TO'
    · exact Src.keep (from1 _ _ st1') fun o q => (sb.2 _ (show (N : Nat) ≠ N + 4 by omega)).trans q
    · exact Src.keep (from2 _ _ st2') fun o q => (sb.2 _ (show (N + 1 : Nat) ≠ N + 4 by omega)).trans q
    · have hlt : (c : Nat) < s.heap.objs.size := by
        have e' : c = N + 4 ∨ c = N + 2 ∨ c = N + 3 ∨ c = N ∨ c = N + 1 := by simpa using hcm
        rcases e' with q | q | q | q | q <;> (rw [q]; first | exact (show (N + 4 : Nat) < s.heap.objs.size by omega) | exact (show (N + 2 : Nat) < s.heap.objs.size by omega) | exact (show (N + 3 : Nat) < s.heap.objs.size by omega) | exact (show (N : Nat) < s.heap.objs.size by omega) | exact (show (N + 1 : Nat) < s.heap.objs.size by omega))
      rw [upd_ne (Nat.ne_of_lt hlt)]
      exact (hf c hcm).1
  · intro X hP hw hK hc i pins s σ H E I hf st hg
    subst hP hw hK
    obtain ⟨hz, hTI, ⟨x0, y0, hTO⟩, h1, h2⟩ := st
    obtain ⟨xs, ys, hqx, hqy, hend⟩ := hg
    have hh := I.ok.hd hc
    obtain ⟨n1, P1, St1, D1, en1, hP1, to1, from1⟩ := Src.draws I hh hqx ne1 X.A.in1 hh
    obtain ⟨n2, P2, St2, D2, en2, hP2, to2, from2⟩ := Src.draws I hh hqy ne2 X.A.in1 hh
    exact wpAny_pyNext_zipD2_end sep D1 D2 hz hTI hTO (to1 i h1) (to2 i h2) (by omega) (by omega) (by omega) fun h' tk hk => ⟨rfl, I.turnedL (t' := tk) (ch := [N + 4, N + 2, N + 3, N, N + 1]) (fun c o hb q =>
      hk c o (fun q' => hb (by simp [q'])) (fun q' => hb (by simp [q'])) (fun q' => hb (by simp [q'])) (fun q' => hb (by simp [q'])) q) hf⟩

/-! ### zip in a for, a comprehension -/
/-- what may be zipped: the items; the places that must stay -/
def zsrc (h : PH) : PV → Option (List PV × List Nat)
  | .tup xs => some (xs, [])
  | .rl xs => some (xs, [])
  | .str z => some (z.cps.toList.map fun c => PV.str ⟨⟨[c]⟩⟩, [])
  | .loc n => (match h[n]? with
    | some (.lst xs) => some (xs, [n])
    | _ => none)
  | _ => none
def pairs : List PV → List PV → List PV
  | x :: xs, y :: ys => .tup [x, y] :: pairs xs ys
  | _, _ => []
theorem pairs_len : ∀ xs ys : List PV, (pairs xs ys).length = min xs.length ys.length
  | [], ys => by simp [pairs]
  | x :: xs, [] => by simp [pairs]
  | x :: xs, y :: ys => by rw [pairs, List.length_cons, pairs_len xs ys, List.length_cons, List.length_cons]; omega
theorem pairs_get : ∀ (xs ys : List PV) (i : Nat) (x y : PV), xs[i]? = some x → ys[i]? = some y → (pairs xs ys)[i]? = some (.tup [x, y])
  | [], _, _, _, _, h, _ => by simp at h
  | _ :: _, [], _, _, _, _, h => by simp at h
  | a :: xs, b :: ys, 0, x, y, h1, h2 => by
    simp at h1 h2
    simp [pairs, h1, h2]
  | a :: xs, b :: ys, i + 1, x, y, h1, h2 => by
    rw [pairs, List.getElem?_cons_succ]
    exact pairs_get xs ys i x y (by simpa using h1) (by simpa using h2)

def iZipF (fa fb : EF) : IF := fun env h => bnd (fa env h) fun x h1 => bnd (fb env h1) fun y h2 => match zsrc h2 x, zsrc h2 y with
  | some (xs, l1), some (ys, l2) => some ((pairs xs ys, l1 ++ l2), h2)
  | _, _ => none
section
variable {X : Cx} {wr : Nat → Bool} {a b : Expr} {fa fb : EF} {pos p tpos : Pos} {elts : List Expr} {kk : Nat}
theorem zsrc_ok {K : Frg} {μ : List Addr} {H : Hp} {h : PH} {p : PV} {v : V} {u : Value} {xs : List PV} {lk : List Nat} {wr' : Nat → Bool} (R : HR K μ wr H h) (r : RV K μ H p v) (ru : L2.RelV v u) (e : zsrc h p = some (xs, lk)) (hl : ∀ n ∈ lk, wr' n = false) :
    ∃ (S : Src) (vs : List V), u = S.val ∧ S.has K H vs ∧ RVs K μ H xs vs ∧ ∀ μ2 H2, Step K μ wr' H μ2 H2 → S.has K H2 vs := by
  cases p with
  | tup ys =>
    cases e
    obtain ⟨ad, vs, ev, sq, rr⟩ := r
    subst ev
    exact ⟨.tup ad, vs, ru, sq, rr, fun μ2 H2 s => s.keep.tup _ _ sq⟩
  | rl ys =>
    cases e
    obtain ⟨ad, vs, ev, sq, rr⟩ := r
    subst ev
    exact ⟨.lst ad, vs, ru, sq.sq, rr, fun μ2 H2 s => (s.keep.frz _ _ sq).sq⟩
  | str z =>
    cases e
    rw [show v = .str z from r] at ru
    obtain ⟨t, eu⟩ := ru
    refine ⟨.str z t, z.cps.toList.map fun c => V.str ⟨#[c]⟩, eu, rfl, ?_, fun _ _ _ => rfl⟩
    generalize z.cps.toList = l
    induction l with
    | nil => exact .nil
    | cons c r ih => exact .cons rfl ih
  | loc n =>
    obtain ⟨ad, had, ev⟩ := r
    subst ev
    unfold zsrc at e
    simp only at e
    split at e
    · rename_i ys ho
      cases e
      obtain ⟨vs, hv, rr⟩ := R.lst had ho
      exact ⟨.lst ad, vs, ru, .of hv, rr, fun μ2 H2 s => .of ((s.frame n ad had (hl n (by simp))).trans hv)⟩
    · cases e
  | _ => cases e
theorem Src.begins (S : Src) {K : Frg} {H : Hp} {vs : List V} {Y : Cx} {pins : List (Addr × Obj)} {σ : L2.St} {s : Shared} (I : L2.Inv Y pins σ H s) (h : S.has Y.K H vs) : ∃ Hh : Heap → Prop, Begins S.val S.obj Hh ∧ Hh s.heap ∧ ∀ a ∈ S.under, a < s.heap.objs.size := by
  cases S with
  | lst a =>
    obtain ⟨its, rv, p, _⟩ := I.list h
    exact ⟨_, begins_list a its.toArray, p.isList, fun b hb => (show b = a by simpa [Src.under] using hb) ▸ p.lt⟩
  | tup a =>
    obtain ⟨its, rv, p, _⟩ := I.tuple h
    exact ⟨_, begins_tuple a its.toArray, p, fun b hb => (show b = a by simpa [Src.under] using hb) ▸ p.lt⟩
  | str z t => exact ⟨_, begins_text z t, trivial, fun b hb => by simp [Src.under] at hb⟩
theorem Src.start (S : Src) {h : Heap} {it : Addr} (e : h.get? it = some S.obj) : S.it it 0 h := by
  cases S with
  | lst a => exact ⟨_, e, rfl, rfl⟩
  | tup a => exact ⟨_, e, rfl, rfl⟩
  | str z t => exact ⟨_, e, rfl, rfl⟩
theorem si_zip (hg : Gl X "zip") (hm : X.mg "zip" = none) (ha : Snd X wr a fa) (hb : Snd X wr b fb) (hs : starEach [a, b] X.env = (false, eval a X.env) :: starEach [b] X.env) (hs2 : starEach [b] X.env = (false, eval b X.env) :: starEach [] X.env) (hpl : (backTo pos (starEach [b] X.env)).any (·.1) = false) :
    PI X (.Tuple elts kk tpos) (.Call (.Name "zip" p) [a, b] [] pos) (rdI X.K wr (iZipF fa fb)) := by
  refine ⟨fun pins s σ H R I ⟨μ, env, h, items, lk, h', E, R0, e, q⟩ => ?_⟩
  obtain ⟨x, h1, e1, e2⟩ := of_bnd e
  obtain ⟨y, h2, e3, e4⟩ := of_bnd e2
  split at e4
  · rename_i xs l1 ys l2 z1 z2
    cases e4
    refine Call_ (ld_blt I hg hm PyProof.Rows.boot_zip (PyProof.Rows.callWith_type1 (thn ((pa_cons ha.val (pa_cons hb.val pa_nil hs2) hs).run pos pins s σ H (fun vs H' => ∃ μ', HR X.K μ' wr H' h' ∧ Step X.K μ wr H μ' H' ∧ RVs X.K μ' H' [x, y] vs) I ?_) fun us s1 ⟨vs, H1, I1, r1, μ1, R1, s01, rv⟩ => ?_) hs hpl))
    · refine ⟨μ, env, h, x, h1, E, R0, e1, fun μ1 H1 v R1 s1 r1 => ⟨μ1, env, h1, y, h', E.step s1, R1, e3, fun μ2 H2 w R2 s2 r2 => ?_⟩⟩
      exact ⟨μ2, R2, s1.trans s2, .cons (r1.step s2) (.one r2)⟩
    · obtain ⟨v, w, rfl, rv1, rv2⟩ := two_of rv
      obtain ⟨u1, u2, rfl, ru1, ru2⟩ := L2.Vals.two r1
      have hl1 : ∀ n ∈ l1, lockW wr (l1 ++ l2) n = false := fun n hn => lockW_at (List.mem_append_left _ hn)
      have hl2 : ∀ n ∈ l2, lockW wr (l1 ++ l2) n = false := fun n hn => lockW_at (List.mem_append_right _ hn)
      obtain ⟨S1, vs1, eu1, has1, rr1, st1⟩ := zsrc_ok R1 rv1 ru1 z1 hl1
      obtain ⟨S2, vs2, eu2, has2, rr2, st2⟩ := zsrc_ok R1 rv2 ru2 z2 hl2
      subst eu1 eu2
      obtain ⟨Hh1, B1, b1, lt1⟩ := Src.begins S1 (K := X.K) I1 has1
      obtain ⟨Hh2, B2, b2, lt2⟩ := Src.begins S2 (K := X.K) I1 has2
      refine zip_begins2 B1 B2 b1 b2 fun hh hz hTI hTO ho1 ho2 hsz hk => wpAny_pyIter_zip hz ?_
      have I2 : L2.Inv X pins σ H1 { s1 with heap := hh } := I1.kept (t' := s1.toks) hk
      refine ⟨s1.heap.objs.size + 4, [s1.heap.objs.size + 4, s1.heap.objs.size + 2, s1.heap.objs.size + 3, s1.heap.objs.size, s1.heap.objs.size + 1], _, _, H1, rfl, I2, turn_zipS (S1 := S1) (S2 := S2) lt1 lt2, ⟨hz, hTI, ⟨_, _, hTO⟩, S1.start ho1, S2.start ho2⟩, fun c hcm => ?_, ?_⟩
      · have e' : c = s1.heap.objs.size + 4 ∨ c = s1.heap.objs.size + 2 ∨ c = s1.heap.objs.size + 3 ∨ c = s1.heap.objs.size ∨ c = s1.heap.objs.size + 1 := by simpa using hcm
        have hle : s1.heap.objs.size ≤ c := by
          rcases e' with z | z | z | z | z
          · rw [z]; exact Nat.le_add_right _ _
          · rw [z]; exact Nat.le_add_right _ _
          · rw [z]; exact Nat.le_add_right _ _
          · rw [z]; exact Nat.le_refl _
          · rw [z]; exact Nat.le_add_right _ _
        exact I1.fpOk hle (I1.hok.fresh hle)
      · refine q μ1 H1 _ (fun H2 => S1.has X.K H2 vs1 ∧ S2.has X.K H2 vs2) (YPair (fun i => vs1[i]?) (fun i => vs2[i]?)) R1 s01 ⟨⟨fun i H2 hi g => ?_, fun H2 g => ?_, fun i H2 x2 H3 hi g yy => ?_⟩, fun μ2 H2 s2 => ⟨st1 _ _ s2, st2 _ _ s2⟩, fun i μ2 H2 x2 H3 s2 hi yy => ?_⟩
        · rw [pairs_len, ← rr1.length, ← rr2.length] at hi
          exact ⟨vs1, vs2, g.1, g.2, by omega, by omega⟩
        · exact ⟨vs1, vs2, g.1, g.2, by rw [pairs_len, ← rr1.length, ← rr2.length]⟩
        · obtain ⟨T, x3, y3, h1, h2, h3, h4, h5⟩ := yy
          exact ⟨T, x3, y3, h1, h2, h3, h4 _ g.1, h5 _ g.2⟩
        · obtain ⟨T, x3, y3, h1, h2, h3, h4, h5⟩ := yy
          subst h1 h3
          obtain ⟨p1, g1, k1⟩ := (rr1.step s2).getV h4
          obtain ⟨p2, g2, k2⟩ := (rr2.step s2).getV h5
          refine ⟨ext_upd h2, .tup [p1, p2], pairs_get _ _ _ _ _ g1 g2, ?_⟩
          have ke : Keep X.K H2 (upd H2 T (.tup [x3, y3])) := .of_ext (ext_upd h2)
          exact ⟨T, [x3, y3], rfl, .of upd_same, .cons (k1.mono (fun _ _ e => e) ke) (.one (k2.mono (fun _ _ e => e) ke))⟩
  · cases e4
end
end KP
set_option Elab.async false
set_option linter.all false
set_option maxRecDepth 100000
/-! KP 10: statements. -/
namespace KP
open PySem PySem.Spec PyProof.Rows L2

/-- how a statement ends -/
inductive Fl where
  | nx | ret (p : PV) | brk | cont
abbrev SF := Env → PH → Option (Fl × Env × PH)
def GoS (K : Frg) (μ : List Addr) (wr : Nat → Bool) (H : Hp) (fl : Fl) (env : Env) (h : PH) (D : Ends) : Prop :=
  ∀ (μ' : List Addr) (H' : Hp) (σ' : L2.St), HR K μ' wr H' h → Step K μ wr H μ' H' → ER K μ' H' env σ' → match fl with
    | .nx => D.nx σ' H'
    | .brk => D.bk σ' H'
    | .cont => D.ct σ' H'
    | .ret p => ∀ v, RV K μ' H' p v → D.rt v H'
def rdS (K : Frg) (wr : Nat → Bool) (f : SF) : TS := fun D σ H => ∃ μ env h fl env' h', ER K μ H env σ ∧ HR K μ wr H h ∧ f env h = some (fl, env', h') ∧ GoS K μ wr H fl env' h' D
theorem GoS.after {K : Frg} {μ μ1 : List Addr} {wr : Nat → Bool} {H H1 : Hp} {fl : Fl} {env : Env} {h : PH} {D : Ends} (g : GoS K μ wr H fl env h D) (s : Step K μ wr H μ1 H1) : GoS K μ1 wr H1 fl env h D :=
  fun μ2 H2 σ2 R2 s2 E2 => g μ2 H2 σ2 R2 (s.trans s2) E2

/-! ### one behind the other -/
def sSeq (f g : SF) : SF := fun env h => match f env h with
  | some (.nx, env1, h1) => g env1 h1
  | r => r
def sNext : SF := fun env h => some (.nx, env, h)
def sBrk : SF := fun env h => some (.brk, env, h)
def sCont : SF := fun env h => some (.cont, env, h)
def sStuck : SF := fun _ _ => none
section
variable {X : Cx} {wr : Nat → Bool} {f g : SF} {st : Stmt} {rest : List Stmt} {e a b c : Expr} {fe fa fb fc : EF} {pos : Pos}
theorem ss_nil : PSs X [] (rdS X.K wr sNext) := PSs_imp pss_nil fun D σ H ⟨μ, env, h, fl, env', h', E, R, e, q⟩ => by
  cases e
  exact q μ H σ R .refl E
theorem ss_cons (h1 : PS X st (rdS X.K wr f)) (h2 : PSs X rest (rdS X.K wr g)) : PSs X (st :: rest) (rdS X.K wr (sSeq f g)) := PSs_imp (pss_cons h1 h2) fun D σ H ⟨μ, env, h, fl, env', h', E, R, e, q⟩ => by
  unfold sSeq at e
  cases r : f env h with
  | none => rw [r] at e; cases e
  | some r0 =>
    obtain ⟨fl0, env1, h1⟩ := r0
    rw [r] at e
    refine ⟨μ, env, h, fl0, env1, h1, E, R, r, fun μ1 H1 σ1 R1 s1 E1 => ?_⟩
    cases fl0 with
    | nx => exact ⟨μ1, env1, h1, fl, env', h', E1, R1, e, q.after s1⟩
    | ret p => cases e; exact q μ1 H1 σ1 R1 s1 E1
    | brk => cases e; exact q μ1 H1 σ1 R1 s1 E1
    | cont => cases e; exact q μ1 H1 σ1 R1 s1 E1
theorem sp_pass : PS X (.Pass pos) (rdS X.K wr sNext) := PS_imp ps_pass fun D σ H ⟨μ, env, h, fl, env', h', E, R, e, q⟩ => by
  cases e
  exact q μ H σ R .refl E
theorem sp_brk : PS X (.Break pos) (rdS X.K wr sBrk) := PS_imp ps_break fun D σ H ⟨μ, env, h, fl, env', h', E, R, e, q⟩ => by
  cases e
  exact q μ H σ R .refl E
theorem sp_cont : PS X (.Continue pos) (rdS X.K wr sCont) := PS_imp ps_continue fun D σ H ⟨μ, env, h, fl, env', h', E, R, e, q⟩ => by
  cases e
  exact q μ H σ R .refl E
theorem sp_stuck : PS X st (rdS X.K wr sStuck) := PS_imp ps_never fun D σ H ⟨μ, env, h, fl, env', h', E, R, e, q⟩ => by cases e
theorem sp_doc {x : Str} {j : Nat} {pos' : Pos} : PS X (.Expr (.Constant (.str x) j pos) pos') (rdS X.K wr sNext) := PS_imp ps_doc fun D σ H ⟨μ, env, h, fl, env', h', E, R, e, q⟩ => by
  cases e
  exact q μ H σ R .refl E
/-- an expression whose value is dropped -/
def sDrop (f : EF) : SF := fun env h => bnd (f env h) fun _ h1 => some (.nx, env, h1)
theorem sp_expr (he : Snd X wr e fe) (hs : swapsWith e none pos.line X.env = pure false) : PS X (.Expr e pos) (rdS X.K wr (sDrop fe)) := PS_imp (ps_expr he.val hs) fun D σ H ⟨μ, env, h, fl, env', h', E, R, e, q⟩ => by
  obtain ⟨x, h1, e1, e2⟩ := of_bnd e
  cases e2
  exact ⟨μ, env, h, x, _, E, R, e1, fun μ1 H1 v R1 s1 r1 => q μ1 H1 σ R1 s1 (E.step s1)⟩
def sRet (f : EF) : SF := fun env h => bnd (f env h) fun x h1 => some (.ret x, env, h1)
theorem sp_ret (he : Snd X wr e fe) : PS X (.Return (some e) pos) (rdS X.K wr (sRet fe)) := PS_imp (ps_ret he.val) fun D σ H ⟨μ, env, h, fl, env', h', E, R, e, q⟩ => by
  obtain ⟨x, h1, e1, e2⟩ := of_bnd e
  cases e2
  exact ⟨μ, env, h, x, _, E, R, e1, fun μ1 H1 v R1 s1 r1 => q μ1 H1 σ R1 s1 (E.step s1) v r1⟩
def sRetN : SF := fun env h => some (.ret .non, env, h)
theorem sp_retN : PS X (.Return none pos) (rdS X.K wr sRetN) := PS_imp ps_retN fun D σ H ⟨μ, env, h, fl, env', h', E, R, e, q⟩ => by
  cases e
  exact q μ H σ R .refl E .non rfl
def sIf (c : EF) (f g : SF) : SF := fun env h => bnd (c env h) fun x h1 => match x with
  | .bl true => f env h1
  | .bl false => g env h1
  | _ => none
theorem sp_if {xs ys : List Stmt} (hc : Snd X wr c fc) (ha : PSs X xs (rdS X.K wr f)) (hb : PSs X ys (rdS X.K wr g)) : PS X (.If c xs ys pos) (rdS X.K wr (sIf fc f g)) := PS_imp (ps_if hc.tst ha hb) fun D σ H ⟨μ, env, h, fl, env', h', E, R, e, q⟩ => by
  obtain ⟨x, h1, e1, e2⟩ := of_bnd e
  cases x with
  | bl d =>
    refine rdT_of_E E R e1 fun μ1 H1 R1 s1 => ?_
    cases d with
    | true => exact ⟨μ1, env, h1, fl, env', h', E.step s1, R1, e2, q.after s1⟩
    | false => rw [if_neg Bool.false_ne_true]; exact ⟨μ1, env, h1, fl, env', h', E.step s1, R1, e2, q.after s1⟩
  | _ => cases e2

/-! ### targets: names, tuples of targets -/
/-- what a target does to the slots; the slots that it may set -/
structure GF where
  f : PV → Env → Option Env
  ws : List Nat
def Same (ws : List Nat) (σ' σ : L2.St) : Prop := ∀ vs : List Nat, (∀ i ∈ ws, i ∈ vs) → wipe σ' vs = wipe σ vs
theorem wipe_set_set {σ : L2.St} {i : Nat} {z : Option V} : ∀ vs : List Nat, (wipe (σ.set i z) vs).set i none = (wipe σ vs).set i none
  | [] => by simp [wipe, List.set_set]
  | v :: vs => by
    unfold wipe
    by_cases e : v = i
    · subst e; rw [List.set_set, List.set_set, wipe_set_set vs]
    · rw [List.set_comm _ _ e, List.set_comm _ _ e, wipe_set_set vs]
theorem wipe_set_in {σ : L2.St} {i : Nat} {z : Option V} : ∀ {vs : List Nat}, i ∈ vs → wipe (σ.set i z) vs = wipe σ vs
  | v :: vs, h => by
    unfold wipe
    rcases List.mem_cons.mp h with e | h
    · subst e; exact wipe_set_set vs
    · rw [wipe_set_in h]
theorem Same.set {σ : L2.St} {i : Nat} {z : Option V} : Same [i] (σ.set i z) σ := fun vs h => wipe_set_in (h i (List.mem_cons_self ..))
theorem Same.refl {σ : L2.St} {ws : List Nat} : Same ws σ σ := fun _ _ => rfl
theorem Same.app {σ σ1 σ2 : L2.St} {ws us : List Nat} (a : Same ws σ1 σ) (b : Same us σ2 σ1) : Same (ws ++ us) σ2 σ := fun vs h => (b vs fun i hi => h i (List.mem_append_right _ hi)).trans (a vs fun i hi => h i (List.mem_append_left _ hi))
def rdG (K : Frg) (g : GF) : TG := fun v σ H Q => ∃ μ env p env', ER K μ H env σ ∧ RV K μ H p v ∧ g.f p env = some env' ∧ ∀ σ', ER K μ H env' σ' → Same g.ws σ' σ → Q σ' H
structure GFs where
  f : List PV → Env → Option Env
  ws : List Nat
def rdGs (K : Frg) (g : GFs) : TGs := fun vs σ H Q => ∃ μ env ps env', ER K μ H env σ ∧ RVs K μ H ps vs ∧ g.f ps env = some env' ∧ ∀ σ', ER K μ H env' σ' → Same g.ws σ' σ → Q σ' H
theorem PG_imp {tg : Expr} {t t' : TG} (h : PG X tg t) (i : ∀ v σ H Q, t' v σ H Q → t v σ H Q) : PG X tg t' := ⟨fun pins s σ H v u Q I r q => h.run pins s σ H v u Q I r (i v σ H Q q)⟩
theorem PGs_imp {tg : List Expr} {t t' : TGs} (h : PGs X tg t) (i : ∀ v σ H Q, t' v σ H Q → t v σ H Q) : PGs X tg t' := ⟨fun pins s σ H v u Q I r q => h.run pins s σ H v u Q I r (i v σ H Q q)⟩
def gNm (i : Nat) : GF := ⟨fun p env => some (env.set i (some p)), [i]⟩
def gTp (n : Nat) (g : GFs) : GF := ⟨fun p env => match p with
  | .tup ps => if Nat.beq ps.length n then g.f ps env else none
  | _ => none, g.ws⟩
def gsNil : GFs := ⟨fun ps env => match ps with
  | [] => some env
  | _ => none, []⟩
def gsCons (g : GF) (gs : GFs) : GFs := ⟨fun ps env => match ps with
  | p :: r => (match g.f p env with
    | some env1 => gs.f r env1
    | none => none)
  | [] => none, g.ws ++ gs.ws⟩
theorem sg_nm {i : Nat} {x : Str} (hN : X.N.Nodup) (hi : X.N[i]? = some x) (hx : Loc X.env.scope x) (hf : X.fn x = true ∨ X.env.scope.names.lookup x = some .local) : PG X (.Name x pos) (rdG X.K (gNm i)) := PG_imp (pg_name hN hi hx hf) fun v σ H Q ⟨μ, env, p, env', E, r, e, q⟩ => by
  cases e
  exact q _ (E.set i r) .set
theorem sgs_nil : PGs X [] (rdGs X.K gsNil) := PGs_imp pgs_nil fun v σ H Q ⟨μ, env, ps, env', E, r, e, q⟩ => by
  cases ps with
  | nil => cases e; exact ⟨r, q σ E .refl⟩
  | cons p ps => cases e
theorem sgs_cons {es : List Expr} {g : GF} {gs : GFs} (h1 : PG X e (rdG X.K g)) (h2 : PGs X es (rdGs X.K gs)) (hs : (assignEach (e :: es) X.env).map (·.2) = assign e X.env :: (assignEach es X.env).map (·.2)) : PGs X (e :: es) (rdGs X.K (gsCons g gs)) :=
  PGs_imp (pgs_cons h1 h2 hs) fun vs σ H Q ⟨μ, env, ps, env', E, r, e0, q⟩ => by
    cases ps with
    | nil => cases e0
    | cons p ps =>
      obtain ⟨v, ws, ev, r1, r2⟩ := r
      unfold gsCons at e0
      simp only at e0
      cases k : g.f p env with
      | none => rw [k] at e0; cases e0
      | some env1 =>
        rw [k] at e0
        exact ⟨v, ws, ev, μ, env, p, env1, E, r1, k, fun σ1 E1 S1 => ⟨μ, env1, ps, env', E1, r2, e0, fun σ2 E2 S2 => q σ2 E2 (S1.app S2)⟩⟩
theorem sg_tp {es : List Expr} {k n : Nat} {gs : GFs} (hc : X.calm = true) (h : PGs X es (rdGs X.K gs)) (hn : (assignEach es X.env).length = n) (hst : (assignEach es X.env).findIdx? (·.1) = none) : PG X (.Tuple es k pos) (rdG X.K (gTp n gs)) :=
  PG_imp (pg_tup hc h hn hst) fun v σ H Q ⟨μ, env, p, env', E, r, e0, q⟩ => by
    cases p with
    | tup ps =>
      obtain ⟨ad, vs, ev, sq, rr⟩ := r
      unfold gTp at e0
      simp only at e0
      split at e0
      · rename_i hl
        exact ⟨ad, vs, ev, sq, rr.length.trans (Nat.eq_of_beq_eq_true hl), μ, env, ps, env', E, rr, e0, q⟩
      · cases e0
    | _ => cases e0
/-- target = e -/
def sAsg (fe : EF) (g : GF) : SF := fun env h => bnd (fe env h) fun x h1 => match g.f x env with
  | some env1 => some (.nx, env1, h1)
  | none => none
theorem imp_asg {g : GF} : ∀ D σ H, rdS X.K wr (sAsg fe g) D σ H → tAsg (rdE X.K wr fe) (rdG X.K g) D σ H := fun D σ H ⟨μ, env, h, fl, env', h', E, R, e, q⟩ => by
  obtain ⟨x, h1, e1, e2⟩ := of_bnd e
  refine ⟨μ, env, h, x, h1, E, R, e1, fun μ1 H1 v R1 s1 r1 => ?_⟩
  cases k : g.f x env with
  | none => rw [k] at e2; cases e2
  | some env1 =>
    rw [k] at e2; cases e2
    exact ⟨μ1, env, x, _, E.step s1, r1, k, fun σ2 E2 _ => q μ1 H1 σ2 R1 s1 E2⟩
theorem sp_set {i : Nat} {x : Str} {pos' : Pos} (hN : X.N.Nodup) (hi : X.N[i]? = some x) (hx : Loc X.env.scope x) (he : Snd X wr e fe) (hs : swapsWith e (some (.Name x pos')) pos.line X.env = pure false) (hf : X.fn x = true ∨ X.env.scope.names.lookup x = some .local) :
    PS X (.Assign [.Name x pos'] e pos) (rdS X.K wr (sAsg fe (gNm i))) := PS_imp (ps_set hN hi hx he.val hs hf) fun D σ H q => by
  obtain ⟨μ, env, h, fl, env', h', E, R, e, q⟩ := q
  obtain ⟨x, h1, e1, e2⟩ := of_bnd e
  refine ⟨μ, env, h, x, h1, E, R, e1, fun μ1 H1 v R1 s1 r1 => ?_⟩
  cases e2
  exact q μ1 H1 _ R1 s1 ((E.step s1).set i r1)
theorem sp_asg {tg : Expr} {g : GF} (he : Snd X wr e fe) (hg : PG X tg (rdG X.K g)) (hs : swapsWithSole [tg] e pos.line X.env = pure false) (hw : swappedStores [tg] e X.env = pure none) (h1 : (assignEach [tg] X.env).map (·.2) = [assign tg X.env]) :
    PS X (.Assign [tg] e pos) (rdS X.K wr (sAsg fe g)) := PS_imp (ps_asg he.val hg hs hw h1) imp_asg

/-! ### while -/
def whileF (c : EF) (sb : SF) : Nat → SF
  | 0 => fun _ _ => none
  | n + 1 => fun env h => bnd (c env h) fun x h1 => match x with
    | .bl true => (match sb env h1 with
      | some (.nx, env2, h2) => whileF c sb n env2 h2
      | some (.cont, env2, h2) => whileF c sb n env2 h2
      | some (.brk, env2, h2) => some (.nx, env2, h2)
      | some (.ret p, env2, h2) => some (.ret p, env2, h2)
      | none => none)
    | .bl false => some (.nx, env, h1)
    | _ => none
theorem sp_while {body : List Stmt} {n : Nat} (hp : PassesOwn (model X.prog X.w) X.A X.env X.xe) (hc : Snd X wr c fc) (hb : PSs X body (rdS X.K wr f)) : PS X (.While c body [] pos) (rdS X.K wr (whileF fc f n)) :=
  PS_imp (ps_while hp hc.tst hb) fun D σ H ⟨μ, env, h, fl, env', h', E, R, e, q⟩ => by
    refine ⟨fun m σ1 H1 => ∃ μ1 env1 h1, Step X.K μ wr H μ1 H1 ∧ ER X.K μ1 H1 env1 σ1 ∧ HR X.K μ1 wr H1 h1 ∧ whileF fc f m env1 h1 = some (fl, env', h'), ⟨n, μ, env, h, .refl, E, R, e⟩, ?_⟩
    rintro m σ1 H1 ⟨μ1, env1, h1, s1, E1, R1, e1⟩
    cases m with
    | zero => cases e1
    | succ m =>
      obtain ⟨x, h2, e2, e3⟩ := of_bnd e1
      cases x with
      | bl d =>
        refine rdT_of_E E1 R1 e2 fun μ2 H2 R2 s2 => ?_
        cases d with
        | true =>
          refine ⟨fun σ' H' => ∃ μ3 env3 h3, Step X.K μ wr H μ3 H' ∧ ER X.K μ3 H' env3 σ' ∧ HR X.K μ3 wr H' h3 ∧ whileF fc f m env3 h3 = some (fl, env', h'), fun σ' H' w => ⟨m, Nat.lt_succ_self m, w⟩, ?_⟩
          simp only at e3
          cases k : f env1 h2 with
          | none => rw [k] at e3; cases e3
          | some r =>
            obtain ⟨fl3, env3, h3⟩ := r
            rw [k] at e3
            refine ⟨μ2, env1, h2, fl3, env3, h3, E1.step s2, R2, k, fun μ4 H4 σ4 R4 s4 E4 => ?_⟩
            cases fl3 with
            | nx => exact ⟨μ4, env3, h3, (s1.trans s2).trans s4, E4, R4, e3⟩
            | cont => exact ⟨μ4, env3, h3, (s1.trans s2).trans s4, E4, R4, e3⟩
            | brk => cases e3; exact q μ4 H4 σ4 R4 ((s1.trans s2).trans s4) E4
            | ret p => cases e3; exact q μ4 H4 σ4 R4 ((s1.trans s2).trans s4) E4
        | false =>
          rw [if_neg Bool.false_ne_true]
          cases e3
          exact q μ2 H2 σ1 R2 (s1.trans s2) (E1.step s2)
      | _ => cases e3

/-! ### for -/
def loopF (step : PV → SF) : List PV → SF
  | [] => fun env h => some (.nx, env, h)
  | x :: xs => fun env h => match step x env h with
    | some (.nx, env2, h2) => loopF step xs env2 h2
    | some (.cont, env2, h2) => loopF step xs env2 h2
    | some (.brk, env2, h2) => some (.nx, env2, h2)
    | some (.ret p, env2, h2) => some (.ret p, env2, h2)
    | none => none
def turnF (g : GF) (sb : SF) (x : PV) : SF := fun env h => match g.f x env with
  | some env1 => sb env1 h
  | none => none
def sFor (wr : Nat → Bool) (fi : IF) (g : GF) (sb : (Nat → Bool) → SF) : SF := fun env h => bnd (fi env h) fun il h1 => if il.2.all fun n => decide (n < h1.length) then loopF (turnF g (sb (lockW wr il.2))) il.1 env h1 else none
theorem lockW_old {wr : Nat → Bool} {lk : List Nat} {n : Nat} (h : wr n = true) (h' : lockW wr lk n = false) : n ∈ lk := by
  cases lk with
  | nil => rw [show lockW wr [] n = wr n from rfl, h] at h'; cases h'
  | cons m r =>
    have q : (wr n && !(natMem n (m :: r))) = false := h'
    rw [h, Bool.true_and] at q
    exact natMem_iff.mp (by simpa using q)
/-- the places may be written again -/
theorem HR.back {K : Frg} {μ μ' : List Addr} {wr : Nat → Bool} {lk : List Nat} {H H' : Hp} {h h' : PH} (R : HR K μ wr H h) (hl : ∀ n ∈ lk, n < h.length) (s : Step K μ (lockW wr lk) H μ' H') (R' : HR K μ' (lockW wr lk) H' h') : HR K μ' wr H' h' := by
  refine ⟨R'.len, R'.inj, fun n a o hn ho => ?_⟩
  obtain ⟨u, r, q⟩ := R'.obj n a o hn ho
  refine ⟨u, r, ?_⟩
  rcases q with q | ⟨w, k, ob, q⟩
  · exact .inl q
  · cases hw : wr n with
    | false => exact .inr ⟨rfl, k, ob, q⟩
    | true =>
      have hn2 := hl n (lockW_old hw w)
      have hn3 : n < μ.length := by rw [R.len]; exact hn2
      have e1 : μ[n]? = Option.some μ[n] := List.getElem?_eq_getElem hn3
      have e2 := s.mu n _ e1
      rw [hn] at e2
      cases e2
      obtain ⟨u2, r2, q2⟩ := R.obj n _ h[n] e1 (List.getElem?_eq_getElem hn2)
      have fr := s.frame n _ e1 w
      rcases q2 with q2 | ⟨z, _⟩
      · rw [fr, q2] at q; cases q
        exact absurd r2.mut fun z => z
      · rw [hw] at z; cases z
end
end KP
set_option Elab.async false
set_option linter.all false
set_option maxRecDepth 100000
/-! KP 11: for. -/
namespace KP
open PySem PySem.Spec PyProof.Rows L2

section
variable {X : Cx} {wr : Nat → Bool} {tg a : Expr} {pos : Pos}
theorem PSs_ex {ι : Type} {body : List Stmt} {t : ι → TS} (h : ∀ i, PSs X body (t i)) : PSs X body (fun D σ H => ∃ i, t i D σ H) := ⟨fun pins s σ H D I ⟨i, q⟩ => (h i).run pins s σ H D I q⟩
theorem drop_at {α : Type} {l : List α} {i : Nat} {p : α} (h : l[i]? = some p) : l.drop i = p :: l.drop (i + 1) := by
  obtain ⟨hi, e⟩ := List.getElem?_eq_some_iff.mp h
  rw [List.drop_eq_getElem_cons hi, e]
/-- what follows the iterator -/
theorem for_core {K : Frg} {wr : Nat → Bool} {lk : List Nat} {g : GF} {sb : (Nat → Bool) → SF} {wi : TI} {D : Ends} {σ : L2.St} {H : Hp} {μ : List Addr} {env env' : Env} {h1 h' : PH} {items : List PV} {fl : Fl} (E : ER K μ H env σ) (hl : ∀ n ∈ lk, n < h1.length)
    (hwi : ∀ R : It → Hp → Prop, (∀ (μ1 : List Addr) (H1 : Hp) (J : It) (G : Hp → Prop) (Y : Nat → Hp → V → Hp → Prop), HR K μ1 wr H1 h1 → Step K μ wr H μ1 H1 → ItOk K (lockW wr lk) J items μ1 H1 G Y → R J H1) → wi σ H R)
    (e2 : loopF (turnF g (sb (lockW wr lk))) items env h1 = some (fl, env', h')) (q : GoS K μ wr H fl env' h' D) : tFor wi (rdG K g) (fun D σ H => ∃ wr', rdS K wr' (sb wr') D σ H) D σ H := by
  refine hwi _ fun μ1 H1 J G Y R1 s1 ok => ?_
  refine for_it (D := D) (g := rdG K g) (tb := fun D σ H => ∃ wr', rdS K wr' (sb wr') D σ H) (σ := σ) (H := H1) ok.walk (fun i σ2 H2 => ∃ μ2 env2 h2, Step K μ1 (lockW wr lk) H1 μ2 H2 ∧ ER K μ2 H2 env2 σ2 ∧ HR K μ2 (lockW wr lk) H2 h2 ∧ loopF (turnF g (sb (lockW wr lk))) (items.drop i) env2 h2 = some (fl, env', h')) ?_ ?_ ?_ ?_
  · exact ⟨μ1, env, h1, .refl, E.step s1, R1.less lockW_le, by simpa using e2⟩
  · rintro i σ2 H2 _ ⟨μ2, env2, h2, s2, _⟩
    exact ok.good μ2 H2 s2
  · rintro i x σ2 H2 H3 hi ⟨μ2, env2, h2, s2, E2, R2, e3⟩ y
    obtain ⟨ext, p, hp, rp⟩ := ok.item i μ2 H2 x H3 s2 hi y
    rw [drop_at hp] at e3
    unfold loopF at e3
    have sx : Step K μ2 (lockW wr lk) H2 μ2 H3 := .ext R2 (fun _ _ e => e) ext
    cases k : turnF g (sb (lockW wr lk)) p env2 h2 with
    | none => rw [k] at e3; cases e3
    | some r =>
      obtain ⟨fl3, env3, h3⟩ := r
      rw [k] at e3
      unfold turnF at k
      cases k2 : g.f p env2 with
      | none => rw [k2] at k; cases k
      | some envg =>
        rw [k2] at k
        refine ⟨μ2, env2, p, envg, E2.step sx, rp, k2, fun σ4 E4 _ => ⟨lockW wr lk, μ2, envg, h2, fl3, env3, h3, E4, R2.ext ext, k, fun μ5 H5 σ5 R5 s5 E5 => ?_⟩⟩
        have S := s2.trans (sx.trans s5)
        cases fl3 with
        | nx => exact ⟨μ5, env3, h3, S, E5, R5, e3⟩
        | cont => exact ⟨μ5, env3, h3, S, E5, R5, e3⟩
        | brk => cases e3; exact q μ5 H5 σ5 (R1.back hl S R5) (s1.trans (S.more lockW_le)) E5
        | ret p => cases e3; exact q μ5 H5 σ5 (R1.back hl S R5) (s1.trans (S.more lockW_le)) E5
  · rintro σ2 H2 ⟨μ2, env2, h2, S, E2, R2, e3⟩
    rw [List.drop_length] at e3
    cases e3
    exact q μ2 H2 σ2 (R1.back hl S R2) (s1.trans (S.more lockW_le)) E2
theorem sp_for {fi : IF} {g : GF} {sb : (Nat → Bool) → SF} {body : List Stmt} (hp : PassesOwn (model X.prog X.w) X.A X.env X.xe) (hc : X.calm = true) (hi : PI X tg a (rdI X.K wr fi)) (hg : PG X tg (rdG X.K g)) (hb : ∀ wr', PSs X body (rdS X.K wr' (sb wr')))
    (hs : ∀ x, foldedSetIterable a X.env x = pure x := by intro _; rfl) : PS X (.For tg a body [] pos) (rdS X.K wr (sFor wr fi g sb)) :=
  PS_imp (ps_for hp hc hi hg (PSs_ex hb) hs) fun D σ H ⟨μ, env, h, fl, env', h', E, R, e, q⟩ => by
    obtain ⟨⟨items, lk⟩, h1, e1, e2⟩ := of_bnd e
    simp only at e2
    split at e2
    · rename_i hl0
      exact for_core E (fun n hn => by simpa using List.all_eq_true.mp hl0 n hn) (fun R0 hR => ⟨μ, env, h, items, lk, h1, E, R, e1, hR⟩) e2 q
    · cases e2
end
end KP
set_option Elab.async false
set_option linter.all false
set_option maxRecDepth 100000
/-! KP 12: list comprehensions. -/
namespace KP
open PySem PySem.Spec PyProof.Rows L2

def wipeE (env : Env) : List Nat → Env
  | [] => env
  | v :: vs => (wipeE env vs).set v none
theorem ER.none {K : Frg} {μ : List Addr} {H : Hp} {env : Env} {σ : L2.St} (r : ER K μ H env σ) (i : Nat) : ER K μ H (env.set i .none) (σ.set i .none) := by
  refine ⟨by rw [List.length_set, List.length_set, r.len], fun j p' e => ?_⟩
  by_cases hij : i = j
  · subst hij
    by_cases hl : i < env.length
    · rw [List.getElem?_set_self hl] at e; cases e
    · rw [List.getElem?_eq_none (by simp; omega)] at e; cases e
  · rw [List.getElem?_set_ne hij] at e
    obtain ⟨w, h1, h2⟩ := r.val j p' e
    exact ⟨w, by rw [List.getElem?_set_ne hij]; exact h1, h2⟩
theorem ER.wipe {K : Frg} {μ : List Addr} {H : Hp} {env : Env} {σ : L2.St} (r : ER K μ H env σ) : ∀ vs : List Nat, ER K μ H (wipeE env vs) (L2.wipe σ vs)
  | [] => r
  | v :: vs => (r.wipe vs).none v

def lcF (n : Nat) (g : GF) (tf : TF) (fe : EF) (env0 : Env) : List PV → List PV → PH → Option PH
  | [], _, h => some h
  | x :: xs, acc, h => match g.f x env0 with
    | none => none
    | some env1 => bnd (tf env1 h) fun b h1 => if b then bnd (fe env1 h1) fun y h2 => lcF n g tf fe env0 xs (acc ++ [y]) (h2.set n (.lst (acc ++ [y]))) else lcF n g tf fe env0 xs acc h1
def subN (ws own : List Nat) : Bool := ws.all fun i => natMem i own
theorem subN_iff {ws own : List Nat} : subN ws own = true ↔ ∀ i ∈ ws, i ∈ own := by
  unfold subN
  rw [List.all_eq_true]
  exact ⟨fun h i hi => natMem_iff.mp (h i hi), fun h i hi => natMem_iff.mpr (h i hi)⟩
def lcOk (wr : Nat → Bool) (own : List Nat) (g : GF) (items : List PV) (lk : List Nat) (n : Nat) : Bool :=
  (lk.all fun m => decide (m < n)) && (lockW wr lk n && (Nat.ble items.length lineN && subN g.ws own))
def eLc (wr : Nat → Bool) (own : List Nat) (fi : IF) (g : GF) (tf : (Nat → Bool) → TF) (fe : (Nat → Bool) → EF) : EF := fun env h => bnd (fi env h) fun il h1 =>
  if lcOk wr own g il.1 il.2 h1.length then
    (match lcF h1.length g (tf (lockW (lockW wr il.2) [h1.length])) (fe (lockW (lockW wr il.2) [h1.length])) (wipeE env own) il.1 [] (h1 ++ [.lst []]) with
    | some h' => some (.loc h1.length, h')
    | none => none)
  else none

section
variable {K : Frg} {wr : Nat → Bool}
theorem lc_core' {own : List Nat} {g : GF} {tf : (Nat → Bool) → TF} {fe : (Nat → Bool) → EF} {wi : TI} {σ : L2.St} {H : Hp} {Q : VK} {μ : List Addr} {env : Env} {items : List PV} {lk : List Nat} {h1 h' : PH} (E : ER K μ H env σ)
    (hwi : ∀ R : It → Hp → Prop, (∀ (μ1 : List Addr) (H1 : Hp) (J : It) (G : Hp → Prop) (Y : Nat → Hp → V → Hp → Prop), HR K μ1 wr H1 h1 → Step K μ wr H μ1 H1 → ItOk K (lockW wr lk) J items μ1 H1 G Y → R J H1) → wi σ H R)
    (hok : lcOk wr own g items lk h1.length = true)
    (hF : lcF h1.length g (tf (lockW (lockW wr lk) [h1.length])) (fe (lockW (lockW wr lk) [h1.length])) (wipeE env own) items [] (h1 ++ [.lst []]) = some h') (q : Go K μ wr H (.loc h1.length) h' Q) :
    tLc wi (rdG K g) (fun σ H Q => ∃ wr', rdT K wr' (tf wr') σ H Q) (fun σ H Q => ∃ wr', rdE K wr' (fe wr') σ H Q) own σ H Q := by
  unfold lcOk at hok
  rw [Bool.and_eq_true, Bool.and_eq_true, Bool.and_eq_true] at hok
  obtain ⟨hl0, hw, hz, hsub⟩ := hok
  have hl : ∀ n ∈ lk, n < h1.length := fun n hn => by simpa using List.all_eq_true.mp hl0 n hn
  have hsub := subN_iff.mp hsub
  have hz : items.length ≤ sizeLine := by rw [← lineN_eq]; exact Nat.le_of_ble_eq_true hz
  refine hwi _ fun μ1 H1 J G Y R1 s1 ok => fun D hD => ?_
  -- the new list
  have R2 : HR K (μ1 ++ [D]) (lockW wr lk) (upd H1 D (.lst [])) (h1 ++ [.lst []]) := (R1.less lockW_le).push hD ⟨[], rfl, rfl⟩
  have s2 : Step K μ1 (lockW wr lk) H1 (μ1 ++ [D]) (upd H1 D (.lst [])) := .push (R1.less lockW_le) hD
  have hDn : (μ1 ++ [D])[h1.length]? = some D := by rw [← R1.len]; simp
  have lock : ∀ {μa : List Addr} {Ha : Hp} {μb : List Addr} {Hb : Hp}, Step K μa (lockW (lockW wr lk) [h1.length]) Ha μb Hb → Step K μa (lockW wr lk) Ha μb Hb := fun s => s.more lockW_le
  refine lc_it (g := rdG K g) (tt := fun σ H Q => ∃ wr', rdT K wr' (tf wr') σ H Q) (te := fun σ H Q => ∃ wr', rdE K wr' (fe wr') σ H Q) (vs := own) (σ := σ) (H1 := H1) (D := D) (Qd := Q (.ref D)) ok.walk
    (fun i H2 => ∃ μ2 g2 acc accV, Step K (μ1 ++ [D]) (lockW wr lk) (upd H1 D (.lst [])) μ2 H2 ∧ HR K μ2 (lockW wr lk) H2 g2 ∧ lcF h1.length g (tf (lockW (lockW wr lk) [h1.length])) (fe (lockW (lockW wr lk) [h1.length])) (wipeE env own) (items.drop i) acc g2 = some h' ∧
      H2 D = some (.lst accV) ∧ RVs K μ2 H2 acc accV ∧ acc.length ≤ i) ?_ ?_ ?_ ?_
  · exact ⟨μ1 ++ [D], _, [], [], .refl, R2, by simpa using hF, upd_same, rfl, Nat.le_refl _⟩
  · rintro i H2 _ ⟨μ2, g2, acc, accV, st, _⟩
    exact ok.good μ2 H2 (s2.trans st)
  · rintro i x H2 H3 hi ⟨μ2, g2, acc, accV, st, Rg, e3, hDv, ra, hacc⟩ y
    obtain ⟨ext, p, hp, rp⟩ := ok.item i μ2 H2 x H3 (s2.trans st) hi y
    rw [drop_at hp] at e3
    unfold lcF at e3
    cases k : g.f p (wipeE env own) with
    | none => rw [k] at e3; cases e3
    | some env1 =>
      rw [k] at e3
      have sx : Step K μ2 (lockW wr lk) H2 μ2 H3 := .ext Rg (fun _ _ e => e) ext
      have Eo : ER K μ2 H3 (wipeE env own) (wipe σ own) := (((((E.step s1).step s2).step st).step sx).wipe own)
      refine ⟨μ2, _, p, env1, Eo, rp, k, fun σ4 E4 sm => ⟨?_, ?_⟩⟩
      · rw [sm own hsub]
        -- wiping twice
        have : ∀ (τ : L2.St) (vs : List Nat), wipe (wipe τ vs) vs = wipe τ vs := fun τ vs => by
          refine List.ext_getElem? fun j => ?_
          by_cases hj : j ∈ vs
          · have hin : ∀ (τ : L2.St) (vs : List Nat), j ∈ vs → j < τ.length → (wipe τ vs)[j]? = some none := by
              intro τ vs
              induction vs with
              | nil => intro h; cases h
              | cons v vs ih =>
                intro h hl
                unfold wipe
                by_cases e : v = j
                · subst e; rw [List.getElem?_set_self (by rw [wipe_length]; exact hl)]
                · rw [List.getElem?_set_ne e]
                  rcases List.mem_cons.mp h with h | h
                  · exact absurd h.symm e
                  · exact ih h hl
            by_cases hl : j < τ.length
            · rw [hin _ _ hj (by rw [wipe_length]; exact hl), hin _ _ hj hl]
            · rw [List.getElem?_eq_none (by rw [wipe_length, wipe_length]; omega), List.getElem?_eq_none (by rw [wipe_length]; omega)]
          · rw [wipe_out hj]
        exact this σ own
      · obtain ⟨b, g3, e4, e5⟩ := of_bnd e3
        have Rl : HR K μ2 (lockW (lockW wr lk) [h1.length]) H3 g2 := (Rg.ext ext).less lockW_le
        have hlen : ∀ m ∈ [h1.length], m < g2.length := fun m hm => by
          rw [List.mem_singleton.mp hm]
          exact Rg.lt (st.mu _ _ hDn)
        refine ⟨lockW (lockW wr lk) [h1.length], μ2, env1, g2, b, g3, E4, Rl, e4, fun μ5 H5 R5 s5 => ?_⟩
        have h5 : H5 D = some (.lst accV) := (s5.frame _ D (st.mu _ _ hDn) (lockW_at (by simp))).trans (ext _ _ hDv)
        have ra5 : RVs K μ5 H5 acc accV := (ra.step sx).step s5
        cases b with
        | false =>
          dsimp only
          rw [if_neg Bool.false_ne_true]
          rw [if_neg Bool.false_ne_true] at e5
          exact ⟨μ5, g3, acc, accV, st.trans (sx.trans (lock s5)), (Rg.ext ext).back hlen s5 R5, e5, h5, ra5, Nat.le_succ_of_le hacc⟩
        | true =>
          dsimp only
          rw [if_pos rfl]
          rw [if_pos rfl] at e5
          obtain ⟨y, g4, e6, e7⟩ := of_bnd e5
          refine ⟨lockW (lockW wr lk) [h1.length], μ5, env1, g3, y, g4, E4.step s5, R5, e6, fun μ6 H6 v6 R6 s6 r6 => ?_⟩
          have S := s5.trans s6
          have h6 : H6 D = some (.lst accV) := (s6.frame _ D (s5.mu _ _ (st.mu _ _ hDn)) (lockW_at (by simp))).trans h5
          have Rb : HR K μ6 (lockW wr lk) H6 g4 := (Rg.ext ext).back hlen S R6
          have hn6 : μ6[h1.length]? = some D := S.mu _ _ (st.mu _ _ hDn)
          have ra6 := (ra5.step s6).append (.one r6)
          have sw : Step K μ6 (lockW wr lk) H6 μ6 (upd H6 D (.lst (accV ++ [v6]))) := .write Rb hn6 h6 trivial hw
          refine ⟨accV, h6, by rw [ra6.length |> fun e => show accV.length = acc.length by simpa using e]; omega, μ6, _, acc ++ [y], accV ++ [v6], (st.trans (sx.trans (lock S))).trans sw, Rb.write (o' := .lst (acc ++ [y])) hn6 h6 trivial ⟨_, rfl, ra6⟩, e7, upd_same, ra6.step sw, by simp; omega⟩
  · rintro H2 ⟨μ2, g2, acc, accV, st, Rg, e3, hDv, ra, hacc⟩
    rw [List.drop_length] at e3
    cases e3
    have Rp : HR K (μ1 ++ [D]) wr (upd H1 D (.lst [])) (h1 ++ [.lst []]) := R1.push hD ⟨[], rfl, rfl⟩
    exact q μ2 H2 (.ref D) (Rp.back (fun n hn => by rw [List.length_append]; exact Nat.lt_add_right _ (hl n hn)) st Rg) (s1.trans ((s2.trans st).more lockW_le)) ⟨D, st.mu _ _ hDn, rfl⟩
theorem imp_lc {own : List Nat} {fi : IF} {g : GF} {tf : (Nat → Bool) → TF} {fe : (Nat → Bool) → EF} : ∀ σ H Q, rdE K wr (eLc wr own fi g tf fe) σ H Q →
    tLc (rdI K wr fi) (rdG K g) (fun σ H Q => ∃ wr', rdT K wr' (tf wr') σ H Q) (fun σ H Q => ∃ wr', rdE K wr' (fe wr') σ H Q) own σ H Q := fun σ H Q ⟨μ, env, h, p, h', E, R, e, q⟩ => by
  obtain ⟨⟨items, lk⟩, h1, e1, e2⟩ := of_bnd e
  simp only at e2
  split at e2
  · rename_i hok
    split at e2
    · rename_i h2 hF
      cases e2
      exact lc_core' E (fun R0 hR => ⟨μ, env, h, items, lk, h1, E, R, e1, hR⟩) hok hF q
    · cases e2
  · cases e2
end
section
variable {X : Cx} {wr : Nat → Bool}
/-- without, with one condition -/
def tfY : TF := fun _ h => some (true, h)
theorem PTs_ex {ι : Type} {es : List Expr} {t : ι → TT} (h : ∀ i, PTs X es (t i)) : PTs X es (fun σ H Q => ∃ i, t i σ H Q) := ⟨fun pins s σ H Q I ⟨i, q⟩ => (h i).run pins s σ H Q I q⟩
theorem st_nil : PTs X [] (rdT X.K wr tfY) := ⟨fun pins s σ H Q I ⟨μ, env, h, b, h', E, R, e, q⟩ => by
  cases e
  exact pts_nil.run pins s σ H Q I (q.same R)⟩
theorem st_one {c : Expr} {fc : EF} (h : Snd X wr c fc) : PTs X [c] (rdT X.K wr (eT fc)) := pts_one h.tst
variable {elt tg iter : Expr} {ifs : List Expr} {scope : Scope} {own : List (Str × Nat)} {vs : List Nat} {pos : Pos} {fi : IF} {g : GF} {tf : (Nat → Bool) → TF} {fe : (Nat → Bool) → EF}
theorem sn_lc (hc : X.calm = true) (hN : X.N.Nodup) (hi : PI X tg iter (rdI X.K wr fi)) (ok : BlkOk X.N X.env.scope scope own) (hv : own.map (·.2) = vs)
    (hg : ∀ (s : Shared) (H : Hp) (C : Addr) (cl : List (Str × Addr)) (fp : List Addr), PG (X.blk s H scope (compEnvC scope cl C X.env) fp) tg (rdG X.K g))
    (ht : ∀ (wr : Nat → Bool) (s : Shared) (H : Hp) (C : Addr) (cl : List (Str × Addr)) (fp : List Addr), PTs (X.blk s H scope (compEnvC scope cl C X.env) fp) ifs (rdT X.K wr (tf wr)))
    (he : ∀ (wr : Nat → Bool) (s : Shared) (H : Hp) (C : Addr) (cl : List (Str × Addr)) (fp : List Addr), Snd (X.blk s H scope (compEnvC scope cl C X.env) fp) wr elt (fe wr)) (hs : ∀ x, foldedSetIterable iter X.env x = pure x := by intro _; rfl) :
    Snd X wr (.ListComp elt [⟨tg, iter, ifs, 0⟩] scope pos) (eLc wr vs fi g tf fe) := .of (PE_imp (pe_lc hc hN hi ok hg (fun s H C cl fp => PTs_ex fun wr => ht wr s H C cl fp) (fun s H C cl fp => PE_ex fun wr => (he wr s H C cl fp).val) hs) fun σ H Q h => by
      rw [hv]; exact imp_lc σ H Q h) fun _ => rfl
theorem sp_setLc {i : Nat} {y : Str} {py spos : Pos} (hc : X.calm = true) (hN : X.N.Nodup) (hy : X.N[i]? = some y) (hyl : X.env.scope.names.lookup y = some .local)
    (hsw : swapsWith (.ListComp elt [⟨tg, iter, ifs, 0⟩] scope pos) (some (.Name y py)) spos.line X.env = pure true) (hi : PI X tg iter (rdI X.K wr fi)) (ok : BlkOk X.N X.env.scope scope own) (hv : own.map (·.2) = vs)
    (hg : ∀ (s : Shared) (H : Hp) (C : Addr) (cl : List (Str × Addr)) (fp : List Addr), PG (X.blk s H scope (compEnvC scope cl C X.env) fp) tg (rdG X.K g))
    (ht : ∀ (wr : Nat → Bool) (s : Shared) (H : Hp) (C : Addr) (cl : List (Str × Addr)) (fp : List Addr), PTs (X.blk s H scope (compEnvC scope cl C X.env) fp) ifs (rdT X.K wr (tf wr)))
    (he : ∀ (wr : Nat → Bool) (s : Shared) (H : Hp) (C : Addr) (cl : List (Str × Addr)) (fp : List Addr), Snd (X.blk s H scope (compEnvC scope cl C X.env) fp) wr elt (fe wr)) (hs : ∀ x, foldedSetIterable iter X.env x = pure x := by intro _; rfl) :
    PS X (.Assign [.Name y py] (.ListComp elt [⟨tg, iter, ifs, 0⟩] scope pos) spos) (rdS X.K wr (sAsg (eLc wr vs fi g tf fe) (gNm i))) :=
  PS_imp (ps_setLc hc hN hy hyl hsw hi ok hg (fun s H C cl fp => PTs_ex fun wr => ht wr s H C cl fp) (fun s H C cl fp => PE_ex fun wr => (he wr s H C cl fp).val) hs) fun D σ H ⟨μ, env, h, fl, env', h', E, R, e, q⟩ => by
    obtain ⟨x, h1, e1, e2⟩ := of_bnd e
    cases e2
    show tLc _ _ _ _ _ σ H _
    rw [hv]
    exact imp_lc σ H _ ⟨μ, env, h, x, _, E, R, e1, fun μ1 H1 v R1 s1 r1 => q μ1 H1 _ R1 s1 ((E.step s1).set i r1)⟩
end
end KP
set_option Elab.async false
set_option linter.all false
set_option maxRecDepth 100000
/-! KP 13: other stores. -/
namespace KP
open PySem PySem.Spec PyProof.Rows L2

/-! ### e.f = v -/
def putS {α : Type} (f : Str) (v : α) : List (Str × α) → List (Str × α)
  | [] => [(f, v)]
  | (g, x) :: r => if sEq g f then (g, v) :: r else (g, x) :: putS f v r
theorem putS_V {K : Frg} {μ : List Addr} {H : Hp} {f : Str} {p : PV} {v : V} (rv : RV K μ H p v) : ∀ {fs : List (Str × PV)} {fs' : List (Str × V)}, fs'.map (·.1) = fs.map (·.1) → RVs K μ H (fs.map (·.2)) (fs'.map (·.2)) →
    (putF f v fs').map (·.1) = (putS f p fs).map (·.1) ∧ RVs K μ H ((putS f p fs).map (·.2)) ((putF f v fs').map (·.2))
  | [], [], _, _ => ⟨rfl, .one rv⟩
  | [], _ :: _, e, _ => by simp at e
  | _ :: _, [], e, _ => by simp at e
  | (g, x) :: fs, (g', y) :: fs', e, ⟨w, ws, e2, r1, r2⟩ => by
    simp only [List.map_cons, List.cons.injEq] at e e2
    obtain ⟨e1, e⟩ := e
    obtain ⟨e3, e4⟩ := e2
    subst e1 e3 e4
    unfold putS putF
    by_cases hk : g' = f
    · subst hk
      rw [sEq_self, if_pos rfl, if_pos rfl]
      exact ⟨by simp [e], .cons rv r2⟩
    · have : sEq g' f = false := by rw [sEq_dec]; exact decide_eq_false hk
      rw [this, if_neg Bool.false_ne_true, if_neg hk]
      obtain ⟨h1, h2⟩ := putS_V rv e r2
      exact ⟨by simp [h1], .cons r1 h2⟩
def sFldA (T : Tab) (wr : Nat → Bool) (f : Str) (fo fv : EF) : SF := fun env h => bnd (fv env h) fun y h1 => bnd (fo env h1) fun x h2 => match x with
  | .loc n => (match h2[n]? with
    | some (.ins c fs) => if T.fld c f && (wr n && Nat.ble fs.length 999) then some (.nx, env, h2.set n (.ins c (putS f y fs))) else none
    | _ => none)
  | _ => none
/-! ### o[i] = v -/
def putD (k : Key) (v : PV) : List (Key × PV) → List (Key × PV)
  | [] => [(k, v)]
  | (k', x) :: r => if kEq k' k then (k', v) :: r else (k', x) :: putD k v r
def sSubA (wr : Nat → Bool) (fo fi fv : EF) : SF := fun env h => bnd (fv env h) fun y h1 => bnd (fo env h1) fun x h2 => bnd (fi env h2) fun i h3 => match x with
  | .loc n => if wr n then (match h3[n]? with
    | some (.lst xs) => (match i with
      | .int j => (match pix xs.length j with
        | some m => some (.nx, env, h3.set n (.lst (xs.set m y)))
        | none => none)
      | _ => none)
    | some (.dic kvs) => (match pkey i with
      | some k => if Nat.blt kvs.length lineN && decide ((kvs.map (·.1)).Nodup) then some (.nx, env, h3.set n (.dic (putD k y kvs))) else none
      | none => none)
    | _ => none) else none
  | _ => none
section
variable {X : Cx} {wr : Nat → Bool} {T : Tab} {o i e value : Expr} {fo fi fv fe : EF} {pos pos' tpos : Pos}
theorem sp_fld {f : Str} (t : TabOk T X.K X.mg X.w) (ho : Snd X wr o fo) (hv : Snd X wr value fv) (hs : swapsWith value (some (.Attribute o f pos')) pos.line X.env = pure false) :
    PS X (.Assign [.Attribute o f pos'] value pos) (rdS X.K wr (sFldA T wr f fo fv)) := PS_imp (ps_fld ho.val hv.val hs) fun D σ H ⟨μ, env, h, fl, env', h', E, R, e, q⟩ => by
  obtain ⟨y, h1, e1, e2⟩ := of_bnd e
  obtain ⟨x, h2, e3, e4⟩ := of_bnd e2
  refine ⟨μ, env, h, y, h1, E, R, e1, fun μ1 H1 v R1 s1 r1 => ⟨μ1, env, h1, x, h2, E.step s1, R1, e3, fun μ2 H2 w R2 s2 r2 => ?_⟩⟩
  cases x with
  | loc n =>
    obtain ⟨ad, had, ev⟩ := r2
    subst ev
    simp only at e4
    split at e4
    · rename_i c fs hob
      split at e4
      · rename_i hc
        cases e4
        rw [Bool.and_eq_true, Bool.and_eq_true] at hc
        obtain ⟨hf, hw, hl⟩ := hc
        obtain ⟨dx, fs', hH, h3, h4⟩ := R2.ins had hob
        obtain ⟨h5, h6⟩ := putS_V (f := f) (r1.step s2) h3 h4
        have hlen : fs'.length = fs.length := by have := congrArg List.length h3; simpa using this
        refine ⟨ad, _, dx, fs', rfl, hH, (t.fld c f hf).1, (t.fld c f hf).2, by rw [hlen]; exact Nat.lt_succ_of_le (Nat.le_of_ble_eq_true hl), ?_⟩
        have sw : Step X.K μ2 wr H2 μ2 (upd H2 ad (.ins (He.ga X.K c) dx (putF f v fs'))) := .write R2 had hH trivial hw
        exact q μ2 _ σ (R2.write (o' := .ins c (putS f y fs)) had hH trivial ⟨dx, _, rfl, h5, h6⟩) ((s1.trans s2).trans sw) (((E.step s1).step s2).step sw)
      · cases e4
    · cases e4
  | _ => cases e4

theorem PSet_or {t t' : TSet} (h : PSet X t) (h' : PSet X t') : PSet X (fun o i v H Q => t o i v H Q ∨ t' o i v H Q) := fun pins s σ H o i v ov iv u Q I r1 r2 r3 q => q.elim (h pins s σ H o i v ov iv u Q I r1 r2 r3) (h' pins s σ H o i v ov iv u Q I r1 r2 r3)
theorem any_iff {k : Key} {κ : Type} : ∀ {kvs : List (Key × κ)}, (kvs.any fun kv => decide (kv.1 = k)) = true ↔ k ∈ kvs.map (·.1)
  | [] => by simp
  | (k1, v) :: r => by
    rw [List.any_cons, Bool.or_eq_true, any_iff, List.map_cons, List.mem_cons, decide_eq_true_eq]
    exact or_congr_left eq_comm
theorem putK_out {k : Key} {v : V} : ∀ {kvs : List (Key × V)}, k ∉ kvs.map (·.1) → kvs.map (fun kv => if kv.1 = k then (kv.1, v) else kv) = kvs
  | [], _ => rfl
  | (k1, w) :: r, h => by
    rw [List.map_cons, List.mem_cons, not_or] at h
    rw [List.map_cons, putK_out h.2, if_neg (fun z => h.1 z.symm)]
theorem putD_V {K : Frg} {μ : List Addr} {H : Hp} {k : Key} {p : PV} {v : V} (rv : RV K μ H p v) : ∀ {kvs : List (Key × PV)} {kv' : List (Key × V)}, (kvs.map (·.1)).Nodup → kv'.map (·.1) = kvs.map (·.1) → RVs K μ H (kvs.map (·.2)) (kv'.map (·.2)) →
    (putK kv' k v).map (·.1) = (putD k p kvs).map (·.1) ∧ RVs K μ H ((putD k p kvs).map (·.2)) ((putK kv' k v).map (·.2))
  | [], [], _, _, _ => ⟨rfl, .one rv⟩
  | [], _ :: _, _, e, _ => by simp at e
  | _ :: _, [], _, e, _ => by simp at e
  | (g, x) :: fs, (g', y) :: fs', nd, e, ⟨w, ws, e2, r1, r2⟩ => by
    simp only [List.map_cons, List.cons.injEq] at e e2
    obtain ⟨e1, e⟩ := e
    obtain ⟨e3, e4⟩ := e2
    subst e1 e3 e4
    rw [List.map_cons, List.nodup_cons] at nd
    unfold putD
    by_cases hk : g' = k
    · subst hk
      have h0 : kEq g' g' = true := (kEq_iff).mpr rfl
      rw [h0, if_pos rfl]
      have ha : (((g', y) :: fs').any fun kv => decide (kv.1 = g')) = true := any_iff.mpr (by simp)
      have hb : putK ((g', y) :: fs') g' v = (g', v) :: fs' := by
        unfold putK
        rw [if_pos ha, List.map_cons, if_pos rfl, putK_out (by rw [e]; exact nd.1)]
      rw [hb]
      exact ⟨by simp [e], .cons rv r2⟩
    · have : kEq g' k = false := by
        cases z : kEq g' k with
        | false => rfl
        | true => exact absurd ((kEq_iff).mp z) hk
      rw [this, if_neg Bool.false_ne_true]
      obtain ⟨h1, h2⟩ := putD_V (k := k) rv nd.2 e r2
      have hb : putK ((g', y) :: fs') k v = (g', y) :: putK fs' k v := by
        unfold putK
        rw [List.any_cons, show decide (g' = k) = false from decide_eq_false hk, Bool.false_or]
        split
        · rw [List.map_cons, if_neg hk]
        · rfl
      rw [hb]
      exact ⟨by simp [h1], .cons r1 h2⟩
theorem pix_ixN {n : Nat} {i : Int} {j : Nat} (e : pix n i = some j) : ixN n i = some j := e
theorem sp_sub (hr : Room 0 X.A) (ho : Snd X wr o fo) (hi : Snd X wr i fi) (hv : Snd X wr value fv) (hs : swapsWithSole [.Subscript o i pos'] value pos.line X.env = pure false) (hw : swappedStores [.Subscript o i pos'] value X.env = pure none)
    (ha : ∀ v, assign (.Subscript o i pos') X.env v = (do
      let ov ← holding [v] (eval o X.env)
      let iv ← holding [v, ov] (eval i X.env)
      standAt pos'
      holding [v, ov, iv] (setItem ov iv v)
      release [v, ov, iv] []))
    (h1 : (assignEach [.Subscript o i pos'] X.env).map (·.2) = [assign (.Subscript o i pos') X.env]) :
    PS X (.Assign [.Subscript o i pos'] value pos) (rdS X.K wr (sSubA wr fo fi fv)) := PS_imp (ps_asg hv.val (pg_sub ho.val hi.val (PSet_or set_list (set_dict (by have := hr.units; omega))) ha) hs hw h1) fun D σ H ⟨μ, env, h, fl, env', h', E, R, e, q⟩ => by
  obtain ⟨y, h1, e1, e2⟩ := of_bnd e
  obtain ⟨x, h2, e3, e4⟩ := of_bnd e2
  obtain ⟨j, h3, e5, e6⟩ := of_bnd e4
  refine ⟨μ, env, h, y, h1, E, R, e1, fun μ1 H1 v R1 s1 r1 => ⟨μ1, env, h1, x, h2, E.step s1, R1, e3, fun μ2 H2 w R2 s2 r2 => ⟨μ2, env, h2, j, h3, (E.step s1).step s2, R2, e5, fun μ3 H3 iv R3 s3 r3 => ?_⟩⟩⟩
  cases x with
  | loc n =>
    obtain ⟨ad, had, ev⟩ := r2
    subst ev
    have had := s3.mu _ _ had
    simp only at e6
    split at e6
    · rename_i hwr
      split at e6
      · rename_i xs hob
        split at e6
        · rename_i z
          split at e6
          · rename_i m hm
            cases e6
            obtain ⟨vs, hH, rr⟩ := R3.lst had hob
            have r1' := (r1.step s2).step s3
            have sw : Step X.K μ3 wr H3 μ3 (upd H3 ad (.lst (vs.set m v))) := .write R3 had hH trivial hwr
            refine .inl ⟨ad, vs, z, m, rfl, r3, hH, by rw [rr.length]; exact pix_ixN hm, ?_⟩
            exact q μ3 _ σ (R3.write (o' := .lst (xs.set m y)) had hH trivial ⟨_, rfl, rr.set r1' m⟩) (((s1.trans s2).trans s3).trans sw) ((((E.step s1).step s2).step s3).step sw)
          · cases e6
        · cases e6
      · rename_i kvs hob
        split at e6
        · rename_i k hk
          split at e6
          · rename_i hl
            cases e6
            rw [Bool.and_eq_true, decide_eq_true_eq] at hl
            obtain ⟨hl, nd⟩ := hl
            obtain ⟨kv', _, hH, h4, h5⟩ := R3.dic had hob
            have hH := hH hwr
            have r1' := (r1.step s2).step s3
            obtain ⟨h6, h7⟩ := putD_V (k := k) r1' nd h4 h5
            have hlen : kv'.length = kvs.length := by have := congrArg List.length h4; simpa using this
            have sw : Step X.K μ3 wr H3 μ3 (upd H3 ad (.dK (putK kv' k v))) := .write R3 had hH trivial hwr
            have ek := pkey_V r3 hk
            subst ek
            refine .inr ⟨ad, _, rfl, .k hH (by rw [hlen, ← lineN_eq]; exact Nat.le_of_ble_eq_true hl), ?_⟩
            · exact q μ3 _ σ (R3.write (o' := .dic (putD k y kvs)) had hH trivial ⟨_, rfl, h6, h7⟩) (((s1.trans s2).trans s3).trans sw) ((((E.step s1).step s2).step s3).step sw)
          · cases e6
        · cases e6
      · cases e6
    · cases e6
  | _ => cases e6

/-! ### a, b = x, y -/
def sPar2 (i j : Nat) (f : AF) : SF := fun env h => bnd (f env h) fun ps h1 => match ps with
  | [p, q] => some (.nx, (env.set i (some p)).set j (some q), h1)
  | _ => none
def sPar3 (i j l : Nat) (f : AF) : SF := fun env h => bnd (f env h) fun ps h1 => match ps with
  | [p, q, r] => some (.nx, ((env.set i (some p)).set j (some q)).set l (some r), h1)
  | _ => none
variable {f : AF}
theorem sp_par2 {i j : Nat} {x y : Str} {a b : Expr} {px py pt : Pos} {kt k2 pt2} (hc : X.calm = true) (hN : X.N.Nodup) (hi : X.N[i]? = some x) (hj : X.N[j]? = some y) (hij : i ≠ j)
    (hx : X.env.scope.names.lookup x = some .local) (hy : X.env.scope.names.lookup y = some .local) (ha : PA X [a, b] (rdA X.K wr f))
    (hw : swappedStores [.Tuple [.Name x px, .Name y py] kt pt] (.Tuple [a, b] k2 pt2) X.env = pure (some [x, y]))
    (hs : swapsWithSole [.Tuple [.Name x px, .Name y py] kt pt] (.Tuple [a, b] k2 pt2) pos.line X.env = pure false) :
    PS X (.Assign [.Tuple [.Name x px, .Name y py] kt pt] (.Tuple [a, b] k2 pt2) pos) (rdS X.K wr (sPar2 i j f)) := PS_imp (ps_par hc hN hi hj hij hx hy ha hw hs) fun D σ H ⟨μ, env, h, fl, env', h', E, R, e, q⟩ => by
  obtain ⟨ps, h1, e1, e2⟩ := of_bnd e
  refine ⟨μ, env, h, ps, h1, E, R, e1, fun μ1 H1 vs R1 s1 r1 => ?_⟩
  split at e2
  · cases e2
    obtain ⟨v, _, rfl, ra, w, _, rfl, rb, rfl⟩ := r1
    exact ⟨v, w, rfl, q μ1 H1 _ R1 s1 (((E.step s1).set i ra).set j rb)⟩
  · cases e2
theorem sp_par3 {i j l : Nat} {x y z : Str} {a b c : Expr} {px py pz pt : Pos} {kt k2 pt2} (hc : X.calm = true) (hN : X.N.Nodup) (hi : X.N[i]? = some x) (hj : X.N[j]? = some y) (hl : X.N[l]? = some z) (hij : i ≠ j) (hil : i ≠ l) (hjl : j ≠ l)
    (hx : X.env.scope.names.lookup x = some .local) (hy : X.env.scope.names.lookup y = some .local) (hz : X.env.scope.names.lookup z = some .local) (ha : PA X [a, b, c] (rdA X.K wr f))
    (hw : swappedStores [.Tuple [.Name x px, .Name y py, .Name z pz] kt pt] (.Tuple [a, b, c] k2 pt2) X.env = pure (some [x, y, z]))
    (hs : swapsWithSole [.Tuple [.Name x px, .Name y py, .Name z pz] kt pt] (.Tuple [a, b, c] k2 pt2) pos.line X.env = pure false) :
    PS X (.Assign [.Tuple [.Name x px, .Name y py, .Name z pz] kt pt] (.Tuple [a, b, c] k2 pt2) pos) (rdS X.K wr (sPar3 i j l f)) := PS_imp (ps_par3 hc hN hi hj hl hij hil hjl hx hy hz ha hw hs) fun D σ H ⟨μ, env, h, fl, env', h', E, R, e, q⟩ => by
  obtain ⟨ps, h1, e1, e2⟩ := of_bnd e
  refine ⟨μ, env, h, ps, h1, E, R, e1, fun μ1 H1 vs R1 s1 r1 => ?_⟩
  split at e2
  · cases e2
    obtain ⟨v, _, rfl, ra, w, _, rfl, rb, u, _, rfl, rc, rfl⟩ := r1
    exact ⟨v, w, u, rfl, q μ1 H1 _ R1 s1 ((((E.step s1).set i ra).set j rb).set l rc)⟩
  · cases e2

/-! ### x += e of ints -/
def sAugI (i : Nat) (op : Int → Int → Int) (fe : EF) : SF := fun env h => match env[i]? with
  | some (some (.int a)) => bnd (fe env h) fun y h1 => (match y with
    | .int b => some (.nx, env.set i (some (.int (op a b))), h1)
    | _ => none)
  | _ => none
theorem sp_aug {i : Nat} {x : Str} {op : Operator} {fop : Int → Int → Int} {pos' : Pos} (hN : X.N.Nodup) (hi : X.N[i]? = some x) (hx : Loc X.env.scope x) (he : Snd X wr e fe) (ho : PIp X op (ipI fop)) (hf : X.fn x = true ∨ X.env.scope.names.lookup x = some .local) :
    PS X (.AugAssign (.Name x pos') op e pos) (rdS X.K wr (sAugI i fop fe)) := PS_imp (ps_aug hN hi hx he.val ho hf) fun D σ H ⟨μ, env, h, fl, env', h', E, R, e, q⟩ => by
  unfold sAugI at e
  split at e
  · rename_i a ha
    obtain ⟨y, h1, e1, e2⟩ := of_bnd e
    obtain ⟨v, h2, h3⟩ := E.val _ _ ha
    refine ⟨v, h2, μ, env, h, y, h1, E, R, e1, fun μ1 H1 w R1 s1 r1 => ?_⟩
    split at e2
    · cases e2
      refine ⟨a, _, h3, r1, q μ1 H1 _ R1 s1 ((E.step s1).set i rfl)⟩
    · cases e2
  · cases e
end
end KP
set_option Elab.async false
set_option linter.all false
set_option maxRecDepth 100000
/-! KP 14: dicts walked. -/
namespace KP
open PySem PySem.Spec PyProof.Rows L2

def keyP : Key → PV
  | .inl i => .int i
  | .inr s => .str s
def mK (kv : Key × PV) : PV := keyP kv.1
def mV (kv : Key × PV) : PV := kv.2
def mI (kv : Key × PV) : PV := .tup [keyP kv.1, kv.2]
/-- of a dict: what is walked, the place that stays -/
def iD (m : Key × PV → PV) (fa : EF) : IF := fun env h => match fa env h with
  | some (.loc n, h1) => (match h[n]? with
    | some (.dic _) => (match h1[n]? with
      | some (.dic kvs) => some ((kvs.map m, [n]), h1)
      | _ => none)
    | _ => none)
  | _ => none
theorem iD_some {m : Key × PV → PV} {fa : EF} {env : Env} {h h1 : PH} {items : List PV} {lk : List Nat} (e : iD m fa env h = some ((items, lk), h1)) : ∃ n kvs0 kvs, fa env h = some (.loc n, h1) ∧ h[n]? = some (.dic kvs0) ∧ h1[n]? = some (.dic kvs) ∧ items = kvs.map m ∧ lk = [n] := by
  unfold iD at e
  split at e
  · rename_i n h2 ea
    split at e
    · rename_i kvs0 e0
      split at e
      · rename_i kvs e1
        cases e
        exact ⟨n, kvs0, kvs, ea, e0, e1, rfl, rfl⟩
      · cases e
    · cases e
  · cases e
def rdIz (K : Frg) (wr : Nat → Bool) (f : IF) : TI := fun σ H R => ∃ μ env h items lk h', ER K μ H env σ ∧ HR K μ wr H h ∧ f env h = some ((items, lk), h') ∧ (∀ n ∈ lk, wr n = false ∧ ∃ a o u, μ[n]? = some a ∧ H a = some (.frz o u)) ∧
  ∀ (μ' : List Addr) (H' : Hp) (J : It) (G : Hp → Prop) (Y : Nat → Hp → V → Hp → Prop), HR K μ' wr H' h' → Step K μ wr H μ' H' → ItOk K wr J items μ' H' G Y → R J H'
theorem kv_at {K : Frg} {μ : List Addr} {H : Hp} {kvs : List (Key × PV)} {kv' : List (Key × V)} (e : kv'.map (·.1) = kvs.map (·.1)) (r : RVs K μ H (kvs.map (·.2)) (kv'.map (·.2))) {i : Nat} {k : Key} {v : V} (h : kv'[i]? = some (k, v)) : ∃ p, kvs[i]? = some (k, p) ∧ RV K μ H p v := by
  have h1 : (kvs.map (·.1))[i]? = some k := by rw [← e, List.getElem?_map, h]; rfl
  obtain ⟨p, h2, h3⟩ := r.getV (i := i) (v := v) (by rw [List.getElem?_map, h]; rfl)
  rw [List.getElem?_map] at h1 h2
  cases q : kvs[i]? with
  | none => rw [q] at h1; cases h1
  | some z =>
    rw [q] at h1 h2
    obtain ⟨k', p'⟩ := z
    cases h1; cases h2
    exact ⟨_, rfl, h3⟩
theorem keyP_V {K : Frg} {μ : List Addr} {H : Hp} {k : Key} : RV K μ H (keyP k) (kV k) := by cases k <;> rfl
section
variable {X : Cx} {wr : Nat → Bool} {a b : Expr} {fa : EF} {tg : Expr} {apos cpos : Pos}
/-- the dict, frozen, behind its expression -/
theorem rdIz_of {m : Key × PV → PV} {σ : L2.St} {H : Hp} {R : It → Hp → Prop} {Q : VK} (h : rdIz X.K wr (iD m fa) σ H R)
    (c : ∀ (μ1 : List Addr) (H1 : Hp) (d : Addr) (o : Obj) (kvs : List (Key × PV)) (kv' : List (Key × V)) (n : Nat), wr n = false → μ1[n]? = some d → H1 d = some (.frz o (.dK kv')) → kv'.map (·.1) = kvs.map (·.1) → RVs X.K μ1 H1 (kvs.map (·.2)) (kv'.map (·.2)) →
      (∀ (J : It) (G : Hp → Prop) (Y : Nat → Hp → V → Hp → Prop), ItOk X.K wr J (kvs.map m) μ1 H1 G Y → R J H1) → Q (.ref d) H1) : rdE X.K wr fa σ H Q := by
  obtain ⟨μ, env, h, items, lk, h', E, R0, e, z, q⟩ := h
  obtain ⟨n, kvs0, kvs, ea, e0, e1, rfl, rfl⟩ := iD_some e
  refine ⟨μ, env, h, .loc n, h', E, R0, ea, fun μ1 H1 v R1 s1 r1 => ?_⟩
  obtain ⟨d, hd, ev⟩ := r1
  subst ev
  obtain ⟨hw, a, o, u, ha, hf⟩ := z n (by simp)
  have := s1.mu _ _ ha
  rw [hd] at this; cases this
  have hf1 := (s1.frame _ _ ha hw).trans hf
  obtain ⟨kv', hk, _, h3, h4⟩ := R1.dic hd e1
  rcases hk with hk | ⟨ob, hk⟩
  · rw [hf1] at hk; cases hk
  · exact c μ1 H1 d ob kvs kv' n hw hd hk h3 h4 fun J G Y ok => q μ1 H1 J G Y R1 s1 ok
theorem ItOk.of {K : Frg} {μ : List Addr} {H : Hp} {wr : Nat → Bool} {J : It} {n : Nat} {items : List PV} {G : Hp → Prop} {Y : Nat → Hp → V → Hp → Prop} (w : Walk J n G Y) (hn : n = items.length) (g : ∀ μ2 H2, Step K μ wr H μ2 H2 → G H2)
    (it : ∀ i μ2 H2 x H3, Step K μ wr H μ2 H2 → i < items.length → Y i H2 x H3 → (∀ a o, H2 a = some o → H3 a = some o) ∧ ∃ p, items[i]? = some p ∧ RV K μ2 H3 p x) : ItOk K wr J items μ H G Y := ⟨by rw [← hn]; exact w, g, it⟩
theorem kv_len {kvs : List (Key × PV)} {kv' : List (Key × V)} (e : kv'.map (·.1) = kvs.map (·.1)) {m : Key × PV → PV} : kv'.length = (kvs.map m).length := by have := congrArg List.length e; simpa using this
theorem si_keys (ha : Snd X wr a fa) : PI X tg a (rdIz X.K wr (iD mK fa)) := PI_imp (pi_keys ha.val) fun σ H R h => rdIz_of h fun μ1 H1 d o kvs kv' n hw hd hk h3 h4 q => by
  refine ⟨d, o, rfl, .inl ⟨kv', hk, q _ _ _ (.of walk_keys (kv_len h3) (fun μ2 H2 s => (s.frame n d hd hw).trans hk) fun i μ2 H2 x H3 s hi y => ?_)⟩⟩
  · obtain ⟨eh, k, v, h5, ex⟩ := y
    subst eh ex
    obtain ⟨p, h6, _⟩ := kv_at h3 h4 h5
    exact ⟨fun _ _ e => e, keyP k, by rw [List.getElem?_map, h6]; rfl, keyP_V⟩
theorem si_values (ha : Snd X wr a fa) (hbase : attributeBase a "values" X.env (eval a X.env) = eval a X.env) (hline : (apos.endLine == cpos.line) = true) : PI X tg (.Call (.Attribute a "values" apos) [] [] cpos) (rdIz X.K wr (iD mV fa)) :=
  PI_imp (pi_values ha.val hbase hline) fun σ H R h => rdIz_of h fun μ1 H1 d o kvs kv' n hw hd hk h3 h4 q => by
    refine ⟨d, o, kv', rfl, hk, q _ _ _ (.of walk_values (kv_len h3) (fun μ2 H2 s => (s.frame n d hd hw).trans hk) fun i μ2 H2 x H3 s hi y => ?_)⟩
    · obtain ⟨eh, k, h5⟩ := y
      subst eh
      obtain ⟨p, h6, h7⟩ := kv_at h3 (h4.step s) h5
      exact ⟨fun _ _ e => e, p, by rw [List.getElem?_map, h6]; rfl, h7⟩
theorem si_items {elts : List Expr} {kk : Nat} {tpos : Pos} (ha : Snd X wr a fa) (hbase : attributeBase a "items" X.env (eval a X.env) = eval a X.env) (hline : (apos.endLine == cpos.line) = true) :
    PI X (.Tuple elts kk tpos) (.Call (.Attribute a "items" apos) [] [] cpos) (rdIz X.K wr (iD mI fa)) :=
  PI_imp (pi_items ha.val hbase hline) fun σ H R h => rdIz_of h fun μ1 H1 d o kvs kv' n hw hd hk h3 h4 q => by
    refine ⟨d, o, kv', rfl, hk, q _ _ _ (.of walk_items (kv_len h3) (fun μ2 H2 s => (s.frame n d hd hw).trans hk) fun i μ2 H2 x H3 s hi y => ?_)⟩
    · obtain ⟨T, x1, y1, ex, hT, eH, h5, h6⟩ := y
      subst ex eH
      dsimp only at h5 h6
      cases z : kv'[i]? with
      | none => rw [z] at h5; cases h5
      | some kv =>
        rw [z] at h5 h6
        cases h5; cases h6
        obtain ⟨p, h7, h8⟩ := kv_at h3 (h4.step s) (i := i) (k := kv.1) (v := kv.2) z
        refine ⟨ext_upd hT, .tup [keyP kv.1, p], by rw [List.getElem?_map, h7]; rfl, T, _, rfl, .of upd_same, .cons keyP_V (.one (h8.mono (fun _ _ e => e) (.of_ext (ext_upd hT))))⟩

/-! ### enumerate of a list -/
def enumP : Nat → List PV → List PV
  | _, [] => []
  | i, x :: xs => .tup [.int (i : Nat), x] :: enumP (i + 1) xs
theorem enumP_len : ∀ (xs : List PV) (i : Nat), (enumP i xs).length = xs.length
  | [], _ => rfl
  | x :: xs, i => by rw [enumP, List.length_cons, List.length_cons, enumP_len xs]
theorem enumP_get : ∀ (xs : List PV) (i j : Nat) (p : PV), xs[j]? = some p → (enumP i xs)[j]? = some (.tup [.int ((i + j : Nat) : Int), p])
  | [], _, _, _, h => by simp at h
  | x :: xs, i, 0, p, h => by
    simp at h; subst h
    simp [enumP]
  | x :: xs, i, j + 1, p, h => by
    rw [enumP, List.getElem?_cons_succ, enumP_get xs (i + 1) j p (by simpa using h)]
    rw [show i + 1 + j = i + (j + 1) from by omega]
def iEnumF (f : EF) : IF := fun env h => bnd (f env h) fun x h1 => match x with
  | .rl xs => some ((enumP 0 xs, []), h1)
  | .loc n => (match h1[n]? with
    | some (.lst xs) => some ((enumP 0 xs, [n]), h1)
    | _ => none)
  | _ => none
theorem enum_ok {K : Frg} {μ : List Addr} {H : Hp} {wr : Nat → Bool} {ad : Addr} {xs : List PV} {vs : List V} (rr : RVs K μ H xs vs) (g : ∀ μ2 H2, Step K μ wr H μ2 H2 → SqL K H2 ad vs) : ItOk K wr (Ite K ad) (enumP 0 xs) μ H (fun H => SqL K H ad vs) (YPair (fun i => some (.int (i : Nat))) (fun i => vs[i]?)) := by
  refine ⟨by rw [enumP_len, ← rr.length]; exact walk_enum, g, fun i μ2 H2 x H3 s hi y => ?_⟩
  obtain ⟨T, x1, y1, ex, hT, eH, h5, h6⟩ := y
  subst ex eH
  cases h5
  obtain ⟨p, h7, h8⟩ := (rr.step s).getV h6
  exact ⟨ext_upd hT, .tup [.int ((0 + i : Nat) : Int), p], enumP_get xs 0 i p h7, T, _, rfl, .of upd_same, .cons (show V.int (i : Int) = .int ((0 + i : Nat) : Int) by rw [Nat.zero_add]) (.one (h8.mono (fun _ _ e => e) (.of_ext (ext_upd hT))))⟩
theorem si_enum {elts : List Expr} {kk : Nat} {tpos p pos : Pos} (hg : Gl X "enumerate") (hm : X.mg "enumerate" = none) (ha : Snd X wr a fa) (hs : starEach [a] X.env = [(false, eval a X.env)]) :
    PI X (.Tuple elts kk tpos) (.Call (.Name "enumerate" p) [a] [] pos) (rdI X.K wr (iEnumF fa)) := PI_imp (pi_enum hg hm (pa_cons ha.val pa_nil hs) hs) fun σ H R ⟨μ, env, h, items, lk, h', E, R0, e, q⟩ => by
  obtain ⟨x, h1, e1, e2⟩ := of_bnd e
  refine ⟨μ, env, h, x, h1, E, R0, e1, fun μ1 H1 v R1 s1 r1 => ?_⟩
  cases x with
  | rl xs =>
    cases e2
    obtain ⟨ad, vs, ev, sq, rr⟩ := r1
    subst ev
    exact ⟨ad, vs, rfl, sq.sq, q μ1 H1 _ _ _ R1 s1 (enum_ok rr fun μ2 H2 s2 => (s2.keep.frz _ _ sq).sq)⟩
  | loc n =>
    simp only at e2
    split at e2
    · rename_i xs ho
      cases e2
      obtain ⟨ad, had, ev⟩ := r1
      subst ev
      obtain ⟨vs, hv, rr⟩ := R1.lst had ho
      exact ⟨ad, vs, rfl, .of hv, q μ1 H1 _ _ _ R1 s1 (enum_ok rr fun μ2 H2 s2 => .of ((s2.frame n ad had (lockW_at (by simp))).trans hv))⟩
    · cases e2
  | _ => cases e2
end

/-! ### the lock -/
section
variable {K : Frg} {wr : Nat → Bool} {μ μ2 : List Addr} {H H2 : Hp} {h h2 : PH} {n : Nat} {a : Addr} {kvs : List (Key × PV)} {kv' : List (Key × V)} {od : Obj}
theorem Keep.lock (ha : H a = some (.dK kv')) : Keep K H (upd H a (.frz od (.dK kv'))) := .write ha trivial
theorem Keep.unlock (ha : H a = some (.frz od (.dK kv'))) : Keep K H (upd H a (.dK kv')) := by
  have ne : ∀ b w, H b = some w → w ≠ .frz od (.dK kv') → b ≠ a := fun b w e n z => by subst z; rw [ha] at e; cases e; exact n rfl
  refine ⟨fun b vs h => ?_, fun b vs h => ?_⟩
  · rcases h with (h | ⟨o, h⟩) | h
    · exact .inl (.inl (by rw [upd_ne (ne b _ h nofun)]; exact h))
    · exact .inl (.inr ⟨o, by rw [upd_ne (ne b _ h nofun)]; exact h⟩)
    · exact .inr h
  · rcases h with ⟨o, h⟩ | h
    · exact .inl ⟨o, by rw [upd_ne (ne b _ h nofun)]; exact h⟩
    · exact .inr h
theorem HR.lock (R : HR K μ wr H h) (hn : μ[n]? = .some a) (ho : h[n]? = .some (.dic kvs)) (ha : H a = .some (.dK kv')) : HR K μ (lockW wr [n]) (upd H a (.frz od (.dK kv'))) h := by
  refine ⟨R.len, R.inj, fun m b o hm hb => ?_⟩
  by_cases e : m = n
  · subst e
    rw [hn] at hm; cases hm
    rw [ho] at hb; cases hb
    obtain ⟨u, r, q⟩ := R.obj m a _ hn ho
    have eu : u = .dK kv' := by
      rcases q with q | ⟨_, _, ob, q⟩
      · rw [ha] at q; cases q; rfl
      · rw [ha] at q; cases q
    subst eu
    exact ⟨_, r.mono (fun _ _ e => e) (.lock ha), .inr ⟨lockW_at (by simp), ⟨_, rfl⟩, od, upd_same⟩⟩
  · obtain ⟨u, r, q⟩ := R.obj m b o hm hb
    have hne : b ≠ a := fun z => by subst z; exact e (R.inj m n b hm hn)
    refine ⟨u, r.mono (fun _ _ e => e) (.lock ha), ?_⟩
    rcases q with q | ⟨w, k, ob, q⟩
    · exact .inl (by rw [upd_ne hne]; exact q)
    · exact .inr ⟨lockW_le m w, k, ob, by rw [upd_ne hne]; exact q⟩
theorem unlock_at (R : HR K μ wr H h) (hn : μ[n]? = .some a) (ho : h[n]? = .some (.dic kvs)) (ha : H a = .some (.dK kv')) (R2 : HR K μ2 (lockW wr [n]) H2 h2) (s : Step K μ (lockW wr [n]) (upd H a (.frz od (.dK kv'))) μ2 H2) :
    H2 a = .some (.frz od (.dK kv')) ∧ HR K μ2 wr (upd H2 a (.dK kv')) h2 ∧ Step K μ wr H μ2 (upd H2 a (.dK kv')) ∧ Keep K H2 (upd H2 a (.dK kv')) := by
  have hf : H2 a = .some (.frz od (.dK kv')) := (s.frame n a hn (lockW_at (by simp))).trans upd_same
  have hk : Keep K H2 (upd H2 a (.dK kv')) := .unlock hf
  have hn2 := s.mu _ _ hn
  refine ⟨hf, ⟨R2.len, R2.inj, fun m b o hm hb => ?_⟩, ⟨s.mu, (Keep.lock ha).trans (s.keep.trans hk), fun m b hm w => ?_⟩, hk⟩
  · obtain ⟨u, r, q⟩ := R2.obj m b o hm hb
    by_cases e : b = a
    · subst e
      refine ⟨u, r.mono (fun _ _ e => e) hk, .inl ?_⟩
      rcases q with q | ⟨w, k, ob, q⟩
      · rw [hf] at q; cases q
        exact absurd r.mut fun z => z
      · rw [hf] at q; cases q; exact upd_same
    · refine ⟨u, r.mono (fun _ _ e => e) hk, ?_⟩
      rcases q with q | ⟨w, k, ob, q⟩
      · exact .inl (by rw [upd_ne e]; exact q)
      · cases hw : wr m with
        | false => exact .inr ⟨rfl, k, ob, by rw [upd_ne e]; exact q⟩
        | true =>
          have hmn := lockW_old hw w
          rw [List.mem_singleton] at hmn
          subst hmn
          rw [hn2] at hm; cases hm
          exact absurd rfl e
  · by_cases e : b = a
    · subst e; rw [upd_same, ha]
    · rw [upd_ne e, s.frame m b hm (lockW_le m w), upd_ne e]
end
section
variable {X : Cx} {wr : Nat → Bool} {tg a : Expr} {pos : Pos}
theorem ER.keep {K : Frg} {μ : List Addr} {H H' : Hp} {env : Env} {σ : L2.St} (r : ER K μ H env σ) (k : Keep K H H') : ER K μ H' env σ := ⟨r.len, fun i p e => let ⟨v, h1, h2⟩ := r.val i p e; ⟨v, h1, h2.mono (fun _ _ e => e) k⟩⟩
def sForD (wr : Nat → Bool) (m : Key × PV → PV) (fa : (Nat → Bool) → EF) (g : GF) (sb : (Nat → Bool) → SF) : SF := fun env h => match fa wr env h with
  | some (.loc n, _) => bnd (iD m (fa (lockW wr [n])) env h) fun il h1 => if natsEq il.2 [n] then loopF (turnF g (sb (lockW wr [n]))) il.1 env h1 else none
  | _ => none
theorem PS_or {st : Stmt} {t t' : TS} (h : PS X st t) (h' : PS X st t') : PS X st (fun D σ H => t D σ H ∨ t' D σ H) := ⟨fun pins s σ H D I q => q.elim (h.run pins s σ H D I) (h'.run pins s σ H D I)⟩
theorem PI_ex {ι : Type} {t : ι → TI} (h : ∀ i, PI X tg a (t i)) : PI X tg a (fun σ H R => ∃ i, t i σ H R) := ⟨fun pins s σ H R I ⟨i, q⟩ => (h i).run pins s σ H R I q⟩
theorem sp_forD {m : Key × PV → PV} {fa : (Nat → Bool) → EF} {g : GF} {sb : (Nat → Bool) → SF} {body : List Stmt} (hp : PassesOwn (model X.prog X.w) X.A X.env X.xe) (hc : X.calm = true) (hi : ∀ wr', PI X tg a (rdIz X.K wr' (iD m (fa wr')))) (hg : PG X tg (rdG X.K g)) (hb : ∀ wr', PSs X body (rdS X.K wr' (sb wr')))
    (hs : ∀ x, foldedSetIterable a X.env x = pure x := by intro _; rfl) : PS X (.For tg a body [] pos) (rdS X.K wr (sForD wr m fa g sb)) := by
  have P := ps_for (pos := pos) hp hc (PI_ex hi) hg (PSs_ex hb) hs
  refine PS_imp (PS_or (ps_lock P) P) fun D σ H ⟨μ, env, h, fl, env', h', E, R, e, q⟩ => ?_
  unfold sForD at e
  split at e
  · rename_i n h0 e0
    obtain ⟨⟨items, lk⟩, h1, e1, e2⟩ := of_bnd e
    simp only at e2
    split at e2
    · rename_i hlk
      have hlk : lk = [n] := (natsEq_iff.mp hlk)
      subst hlk
      obtain ⟨n', kvs0, kvs, ea, ho, ho1, ei, en⟩ := iD_some e1
      cases en
      obtain ⟨ad, had⟩ := R.some ho
      obtain ⟨kv', hk, _, h3, h4⟩ := R.dic had ho
      rcases hk with hk | ⟨ob, hk⟩
      · refine .inl ⟨ad, .dK kv', hk, trivial, fun od => ?_⟩
        have R1 : HR X.K μ (lockW wr [n]) (upd H ad (.frz od (.dK kv'))) h := R.lock had ho hk
        refine for_core (lk := []) (wr := lockW wr [n]) (sb := sb) (E.keep (.lock hk)) (by simp) (fun R0 hR => ⟨lockW wr [n], μ, env, h, items, [n], h1, E.keep (.lock hk), R1, e1, fun m hm => ?_, hR⟩) e2 fun μ2 H2 σ2 R2 s2 E2 => ?_
        · rw [List.mem_singleton] at hm
          subst hm
          exact ⟨lockW_at (by simp), ad, od, _, had, upd_same⟩
        · obtain ⟨hf, R3, s3, k3⟩ := unlock_at R had ho hk R2 s2
          have q3 := q μ2 (upd H2 ad (.dK kv')) σ2 R3 s3 (E2.keep k3)
          cases fl with
          | nx => exact ⟨hf, q3⟩
          | brk => exact ⟨hf, q3⟩
          | cont => exact ⟨hf, q3⟩
          | ret p => exact fun v rv => ⟨hf, q3 v (rv.mono (fun _ _ e => e) k3)⟩
      · have hwf : lockW wr [n] n = false := lockW_at (by simp)
        refine .inr (for_core (lk := []) (wr := lockW wr [n]) (sb := sb) E (by simp) (fun R0 hR => ⟨lockW wr [n], μ, env, h, items, [n], h1, E, R.less lockW_le, e1, fun m hm => ?_, hR⟩) e2 fun μ2 H2 σ2 R2 s2 E2 => ?_)
        · rw [List.mem_singleton] at hm
          subst hm
          exact ⟨hwf, ad, ob, _, had, hk⟩
        · exact q μ2 H2 σ2 (R.back (fun m hm => by rw [List.mem_singleton] at hm; subst hm; exact R.lt had) s2 R2) (s2.more lockW_le) E2
    · cases e2
  · cases e

/-! ### comprehensions over a dict -/
def eLcD (wr : Nat → Bool) (own : List Nat) (m : Key × PV → PV) (fa : (Nat → Bool) → EF) (g : GF) (tf : (Nat → Bool) → TF) (fe : (Nat → Bool) → EF) : EF := fun env h => match fa wr env h with
  | some (.loc n, _) => bnd (iD m (fa (lockW wr [n])) env h) fun il h1 => if natsEq il.2 [n] && lcOk (lockW wr [n]) own g il.1 [] h1.length then
      (match lcF h1.length g (tf (lockW (lockW wr [n]) [h1.length])) (fe (lockW (lockW wr [n]) [h1.length])) (wipeE env own) il.1 [] (h1 ++ [.lst []]) with
      | some h' => some (.loc h1.length, h')
      | none => none)
    else none
  | _ => none
variable {elt iter : Expr} {ifs : List Expr} {scope : Scope} {own : List (Str × Nat)} {vs : List Nat} {g : GF} {tf : (Nat → Bool) → TF} {fe : (Nat → Bool) → EF}
theorem imp_lcD {m : Key × PV → PV} {fa : (Nat → Bool) → EF} {K : Frg} : ∀ σ H Q, rdE K wr (eLcD wr vs m fa g tf fe) σ H Q →
    tLockE (tLc (fun σ H R => ∃ wr', rdIz K wr' (iD m (fa wr')) σ H R) (rdG K g) (fun σ H Q => ∃ wr', rdT K wr' (tf wr') σ H Q) (fun σ H Q => ∃ wr', rdE K wr' (fe wr') σ H Q) vs) σ H Q ∨
    tLc (fun σ H R => ∃ wr', rdIz K wr' (iD m (fa wr')) σ H R) (rdG K g) (fun σ H Q => ∃ wr', rdT K wr' (tf wr') σ H Q) (fun σ H Q => ∃ wr', rdE K wr' (fe wr') σ H Q) vs σ H Q := fun σ H Q ⟨μ, env, h, p, h', E, R, e, q⟩ => by
  unfold eLcD at e
  split at e
  · rename_i n h0 e0
    obtain ⟨⟨items, lk⟩, h1, e1, e2⟩ := of_bnd e
    simp only at e2
    split at e2
    · rename_i hok
      rw [Bool.and_eq_true] at hok
      obtain ⟨hlk, hok⟩ := hok
      have hlk : lk = [n] := (natsEq_iff.mp hlk)
      subst hlk
      split at e2
      · rename_i h2 hF
        cases e2
        obtain ⟨n', kvs0, kvs, ea, ho, ho1, ei, en⟩ := iD_some e1
        cases en
        obtain ⟨ad, had⟩ := R.some ho
        obtain ⟨kv', hk, _, h3, h4⟩ := R.dic had ho
        rcases hk with hk | ⟨ob, hk⟩
        · refine .inl ⟨ad, .dK kv', hk, trivial, fun od => ?_⟩
          have R1 : HR K μ (lockW wr [n]) (upd H ad (.frz od (.dK kv'))) h := R.lock had ho hk
          refine lc_core' (lk := []) (wr := lockW wr [n]) (E.keep (.lock hk)) (fun R0 hR => ⟨lockW wr [n], μ, env, h, items, [n], h1, E.keep (.lock hk), R1, e1, fun m hm => ?_, hR⟩) hok hF fun μ2 H2 v R2 s2 r2 => ?_
          · rw [List.mem_singleton] at hm
            subst hm
            exact ⟨lockW_at (by simp), ad, od, _, had, upd_same⟩
          · obtain ⟨hf, R3, s3, k3⟩ := unlock_at R had ho hk R2 s2
            exact ⟨hf, q μ2 (upd H2 ad (.dK kv')) v R3 s3 (r2.mono (fun _ _ e => e) k3)⟩
        · have hwf : lockW wr [n] n = false := lockW_at (by simp)
          refine .inr (lc_core' (lk := []) (wr := lockW wr [n]) E (fun R0 hR => ⟨lockW wr [n], μ, env, h, items, [n], h1, E, R.less lockW_le, e1, fun m hm => ?_, hR⟩) hok hF fun μ2 H2 v R2 s2 r2 => ?_)
          · rw [List.mem_singleton] at hm
            subst hm
            exact ⟨hwf, ad, ob, _, had, hk⟩
          · exact q μ2 H2 v (R.back (fun m hm => by rw [List.mem_singleton] at hm; subst hm; exact R.lt had) s2 R2) (s2.more lockW_le) r2
      · cases e2
    · cases e2
  · cases e
theorem sn_lcD {m : Key × PV → PV} {fa : (Nat → Bool) → EF} (hc : X.calm = true) (hN : X.N.Nodup) (hi : ∀ wr', PI X tg iter (rdIz X.K wr' (iD m (fa wr')))) (ok : BlkOk X.N X.env.scope scope own) (hv : own.map (·.2) = vs)
    (hg : ∀ (s : Shared) (H : Hp) (C : Addr) (cl : List (Str × Addr)) (fp : List Addr), PG (X.blk s H scope (compEnvC scope cl C X.env) fp) tg (rdG X.K g))
    (ht : ∀ (wr : Nat → Bool) (s : Shared) (H : Hp) (C : Addr) (cl : List (Str × Addr)) (fp : List Addr), PTs (X.blk s H scope (compEnvC scope cl C X.env) fp) ifs (rdT X.K wr (tf wr)))
    (he : ∀ (wr : Nat → Bool) (s : Shared) (H : Hp) (C : Addr) (cl : List (Str × Addr)) (fp : List Addr), Snd (X.blk s H scope (compEnvC scope cl C X.env) fp) wr elt (fe wr)) (hs : ∀ x, foldedSetIterable iter X.env x = pure x := by intro _; rfl) :
    Snd X wr (.ListComp elt [⟨tg, iter, ifs, 0⟩] scope pos) (eLcD wr vs m fa g tf fe) := by
  have P := pe_lc (pos := pos) (elt := elt) (ifs := ifs) (tt := fun σ H Q => ∃ wr', rdT X.K wr' (tf wr') σ H Q) (te := fun σ H Q => ∃ wr', rdE X.K wr' (fe wr') σ H Q) hc hN (PI_ex hi) ok hg (fun s H C cl fp => PTs_ex fun wr => ht wr s H C cl fp) (fun s H C cl fp => PE_ex fun wr => (he wr s H C cl fp).val) hs
  exact .of (PE_imp (PE_or (pe_lock P) P) fun σ H Q h => by rw [hv]; exact imp_lcD σ H Q h) fun _ => rfl
theorem sp_setLcD {m : Key × PV → PV} {fa : (Nat → Bool) → EF} {i : Nat} {y : Str} {py spos : Pos} (hc : X.calm = true) (hN : X.N.Nodup) (hy : X.N[i]? = some y) (hyl : X.env.scope.names.lookup y = some .local)
    (hsw : swapsWith (.ListComp elt [⟨tg, iter, ifs, 0⟩] scope pos) (some (.Name y py)) spos.line X.env = pure true) (hi : ∀ wr', PI X tg iter (rdIz X.K wr' (iD m (fa wr')))) (ok : BlkOk X.N X.env.scope scope own) (hv : own.map (·.2) = vs)
    (hg : ∀ (s : Shared) (H : Hp) (C : Addr) (cl : List (Str × Addr)) (fp : List Addr), PG (X.blk s H scope (compEnvC scope cl C X.env) fp) tg (rdG X.K g))
    (ht : ∀ (wr : Nat → Bool) (s : Shared) (H : Hp) (C : Addr) (cl : List (Str × Addr)) (fp : List Addr), PTs (X.blk s H scope (compEnvC scope cl C X.env) fp) ifs (rdT X.K wr (tf wr)))
    (he : ∀ (wr : Nat → Bool) (s : Shared) (H : Hp) (C : Addr) (cl : List (Str × Addr)) (fp : List Addr), Snd (X.blk s H scope (compEnvC scope cl C X.env) fp) wr elt (fe wr)) (hs : ∀ x, foldedSetIterable iter X.env x = pure x := by intro _; rfl) :
    PS X (.Assign [.Name y py] (.ListComp elt [⟨tg, iter, ifs, 0⟩] scope pos) spos) (rdS X.K wr (sAsg (eLcD wr vs m fa g tf fe) (gNm i))) := by
  have P := ps_setLc (pos := pos) (elt := elt) (ifs := ifs) (tt := fun σ H Q => ∃ wr', rdT X.K wr' (tf wr') σ H Q) (te := fun σ H Q => ∃ wr', rdE X.K wr' (fe wr') σ H Q) hc hN hy hyl hsw (PI_ex hi) ok hg (fun s H C cl fp => PTs_ex fun wr => ht wr s H C cl fp) (fun s H C cl fp => PE_ex fun wr => (he wr s H C cl fp).val) hs
  refine PS_imp (PS_or (ps_lock P) P) fun D σ H ⟨μ, env, h, fl, env', h', E, R, e, q⟩ => ?_
  obtain ⟨x, h1, e1, e2⟩ := of_bnd e
  cases e2
  have key := imp_lcD (K := X.K) (vs := vs) (m := m) (fa := fa) (g := g) (tf := tf) (fe := fe) σ H (fun v H1 => D.nx (σ.set i (some v)) H1) ⟨μ, env, h, x, _, E, R, e1, fun μ1 H1 v R1 s1 r1 => q μ1 H1 _ R1 s1 ((E.step s1).set i r1)⟩
  rcases key with ⟨d, u, h1, h2, h3⟩ | key
  · exact .inl ⟨d, u, h1, h2, fun od => by
      show tLc _ _ _ _ _ σ _ _
      rw [hv]; exact h3 od⟩
  · refine .inr ?_
    show tLc _ _ _ _ _ σ _ _
    rw [hv]; exact key
end
end KP
set_option Elab.async false
set_option linter.all false
set_option maxRecDepth 100000
/-! KP 15: repr, str of own things. -/
namespace KP
open PySem PySem.Spec PyProof.Rows L2

mutual
/-- numbers that repr writes -/
def pshow : PV → Bool
  | .int i => decide (i.natAbs < 10 ^ 500)
  | .tup xs => pshows xs
  | .rl xs => pshows xs
  | _ => true
def pshows : List PV → Bool
  | [] => true
  | x :: xs => pshow x && pshows xs
end
mutual
theorem pshow_ok : ∀ p : PV, pshow p = true → (toD p).showable = true
  | .non, _ => by simp [toD, PyData.showable]
  | .bl _, _ => by simp [toD, PyData.showable]
  | .str _, _ => by simp [toD, PyData.showable]
  | .loc _, _ => by simp [toD, PyData.showable]
  | .glo _, _ => by simp [toD, PyData.showable]
  | .int i, h => by
    rw [toD, PyData.showable]
    unfold pshow at h
    have h := of_decide_eq_true h
    exact decide_eq_true (PySem.Flt.log2_lt_of (by decide) (Nat.lt_trans h (by decide +kernel)))
  | .tup xs, h => by rw [toD, PyData.showable]; exact pshows_ok xs h
  | .rl xs, h => by rw [toD, PyData.showable]; exact pshows_ok xs h
theorem pshows_ok : ∀ ps : List PV, pshows ps = true → PyData.showableAll (toDs ps) = true
  | [], _ => by simp [toDs, PyData.showableAll]
  | p :: ps, h => by
    rw [pshows, Bool.and_eq_true] at h
    rw [toDs, PyData.showableAll, pshow_ok p h.1, pshows_ok ps h.2]
    rfl
end
/-- the text that repr writes -/
def reprP (y : PV) : Str := (toD y).shown
def reprOk (y : PV) : Bool := pok y && (pshow y && (Nat.ble (reprP y).length lineN && Nat.ble (pdep y) 150))
def gRepr : FN := fun ps h => match ps with
  | [x] => (match dr (drN h 4) x with
    | some y => if reprOk y then some (.str (reprP y), h) else none
    | none => none)
  | _ => none
section
variable {X : Cx} {wr : Nat → Bool} {T : Tab} {k : Nat} {call : CallF}
theorem dp_scal {K : Frg} {H : Hp} {v : V} {d : PyData} (h : Dp K H v d) : (∃ a, v = .ref a) ∨ (v = .non ∧ d = .none) ∨ (∃ b, v = .bl b ∧ d = .bool b) ∨ (∃ i, v = .int i ∧ d = .int i) ∨ ∃ z, v = .str z ∧ d = .str z := by
  cases h with
  | non => exact .inr (.inl ⟨rfl, rfl⟩)
  | bl b => exact .inr (.inr (.inl ⟨b, rfl, rfl⟩))
  | int b => exact .inr (.inr (.inr (.inl ⟨b, rfl, rfl⟩)))
  | str b => exact .inr (.inr (.inr (.inr ⟨b, rfl, rfl⟩)))
  | lst _ _ => exact .inl ⟨_, rfl⟩
  | tup _ _ => exact .inl ⟨_, rfl⟩
theorem s_repr (hA : X.A.guards = some []) (hr : Room 0 X.A) : CallR X (.builtin "repr") (rdN X.K wr gRepr) := by
  intro pins s σ H xs us Q I rv ⟨μ, h, ps, p, h', R, rp, e, g⟩
  unfold gRepr at e
  split at e
  · rename_i x
    split at e
    · rename_i y hy
      split at e
      · rename_i hok
        cases e
        unfold reprOk at hok
        rw [Bool.and_eq_true, Bool.and_eq_true, Bool.and_eq_true] at hok
        obtain ⟨k1, k2, k3, k4⟩ := hok
        have k3 : (toD y).shown.length ≤ sizeLine := by rw [← lineN_eq]; exact Nat.le_of_ble_eq_true k3
        have k4 := Nat.le_of_ble_eq_true k4
        obtain ⟨v, rfl, rx⟩ := one_of rp
        obtain ⟨u, rfl, ru⟩ := vals1 rv
        have D := dr_dp (drN_ok R 4) _ _ _ hy rx
        have hq : Q (.str (toD y).shown) H := g.same R rfl
        have hs := pshow_ok y k2
        have hu := hr.un
        rcases dp_scal D with ⟨a, rfl⟩ | ⟨rfl, e⟩ | ⟨b, rfl, e⟩ | ⟨i, rfl, e⟩ | ⟨z, rfl, e⟩
        · obtain rfl : u = Value.ref a := ru
          obtain ⟨as, r1⟩ := Dp.reads I (toD y) (.ref a) (.ref a) D rfl
          exact repr_of_reads' r1 hs (PyData.noDict_hsm (PyData.hasDict_of_canLay _ (toD_lay y k1))) hA (by rw [toD_dep]; omega) (fun _ _ e => e) (fun h' u tk hk => ⟨.str (toD y).shown, H, I.kept (t' := tk) hk, ⟨u, rfl⟩, hq⟩) k3
        · obtain rfl : u = Value.none := ru
          rw [e] at hq
          exact P.repr_of_none ⟨.str "None", H, I.tok _, ⟨_, rfl⟩, by simpa [PyData.shown] using hq⟩
        · obtain rfl : u = Value.bool b := ru
          rw [e] at hq
          exact P.repr_of_bool ⟨.str (if b then "True" else "False"), H, I.tok _, ⟨_, rfl⟩, by simpa [PyData.shown] using hq⟩
        · obtain ⟨t, rfl⟩ := (show ∃ t, u = Value.int i t from ru)
          rw [e] at hq hs
          exact P.repr_of_int (by simpa [PyData.showable] using hs) ⟨.str (toString i), H, I.tok _, ⟨_, rfl⟩, by simpa [PyData.shown] using hq⟩
        · obtain ⟨t, rfl⟩ := (show ∃ t, u = Value.str z t from ru)
          rw [e] at hq k3
          exact P.repr_of_str ⟨.str (reprText z), H, I.tok _, ⟨_, rfl⟩, by simpa [PyData.shown] using hq⟩ (by simpa [PyData.shown] using k3)
      · cases e
    · cases e
  · cases e

/-! ### str(own thing) -/
def gStrO (T : Tab) (call : CallF) (wr : Nat → Bool) : FN := fun ps h => match ps with
  | [.loc n] => (match h[n]? with
    | some (.ins c fs) => if T.meth c "__str__" && (lookS "__str__" fs).isNone then (match callT T call wr (c, some "__str__") [.loc n] h with
        | some (.str z, h') => some (.str z, h')
        | _ => none) else none
    | _ => none)
  | ps => gStr ps h
theorem s_strO (t : TabOk T X.K X.mg X.w) (C : CallsOk X.prog X.w X.K X.mg X.base T k call) (hA : X.A.guards = some []) (hr : RoomB k X.A) : CallR X (.type "str") (rdN X.K wr (gStrO T call wr)) := by
  intro pins s σ H xs us Q I rv ⟨μ, h, ps, p, h', R, rp, e, g⟩
  unfold gStrO at e
  split at e
  · rename_i n
    split at e
    · rename_i c fs ho
      split at e
      · rename_i hc
        rw [Bool.and_eq_true] at hc
        split at e
        · rename_i z h1 e5
          cases e
          obtain ⟨J, hJ, hl, e6⟩ := callT_some e5
          obtain ⟨fd, F, B⟩ := C.ok _ J hJ
          obtain ⟨g1, g2⟩ := t.meth c "__str__" hc.1
          obtain ⟨v, rfl, rx⟩ := one_of rp
          obtain ⟨ad, had, rfl⟩ := rx
          obtain ⟨u, rfl, ru⟩ := vals1 rv
          obtain rfl : u = Value.ref ad := ru
          obtain ⟨dx, fs', hH, hn, hv⟩ := R.ins had ho
          obtain ⟨mA, O, r, _, _, _⟩ := ins_get I.hok hH
          obtain ⟨od, IA, _⟩ := O.look
          obtain ⟨dvs, ds, r1, r2, r3⟩ := B.fit [PV.loc n].length (by rw [← List.length_append]; exact hl)
          have hr2 : Room k X.A.in1.in1 := hr.in2
          refine PySem.W.kso_call (by have := hr2.un; omega) I.kIn IA g2.at_ g2.fn ?_
          have r4 : Vals ([V.ref ad] ++ dvs) ([Value.ref ad] ++ ds) := (show Vals [V.ref ad] [Value.ref ad] from .cons rfl .nil).append r1
          have hs : spOf X.K call (c, some "__str__") ([V.ref ad] ++ dvs) H (fun v H' => v = .str z ∧ Q (.str z) H') E0 :=
            ⟨μ, wr, h, _, .str z, h', R, (RVs.cons (show RV X.K μ H (.loc n) (.ref ad) from ⟨ad, had, rfl⟩) .nil).append (r3 μ H), e6, fun μ1 H1 v R1 s1 r1 => ⟨r1, by rw [show v = V.str z from r1] at *; exact g μ1 H1 _ R1 s1 rfl⟩⟩
          refine wpAny_call (codeAny_mono (F.run X.A.in1.in1 X.stack s H ⟨[.ref ad], []⟩ _ _ _ hA hr2 I.env0.in1.in1 (r2 s [.ref ad] I.kIn (by rw [← r4.length, F.len _ _ _ hs, F.num])) r4 hs) fun r s' hq => ?_)
          obtain ⟨u, rfl, v, H', I2, rv2, ⟨ev, q2⟩⟩ := fnG_back I hq
          subst ev
          obtain ⟨t, rfl⟩ := (show ∃ t, u = Value.str z t from rv2)
          exact ⟨.str z, H', I2, ⟨t, rfl⟩, q2⟩
        · cases e
      · cases e
    · cases e
  · exact s_str pins s σ H xs us Q I rv ⟨μ, h, _, p, h', R, rp, e, g⟩
end
end KP
set_option Elab.async false
set_option linter.all false
set_option maxRecDepth 100000
/-! KP 16: bodies, levels, the law's end. -/
namespace KP
open PySem PySem.Spec PyProof.Rows L2

/-! ### a body -/
def startE (I : FnI) (ps : List PV) : Env := ps.map some ++ List.replicate (I.slots - ps.length) none
theorem start_ER {K : Frg} {μ : List Addr} {H : Hp} {I : FnI} {N : List Str} {ps : List PV} {vs : List V} (r : RVs K μ H ps vs) (hN : N.length = I.slots) : ER K μ H (startE I ps) (L2.start N vs) := by
  have hl := r.length
  refine ⟨by unfold startE L2.start; simp [hN, hl], fun i p e => ?_⟩
  unfold startE at e
  unfold L2.start
  by_cases hi : i < ps.length
  · rw [List.getElem?_append_left (by simpa using hi), List.getElem?_map] at e
    rw [List.getElem?_append_left (by simpa [hl] using hi), List.getElem?_map]
    cases q : ps[i]? with
    | none => rw [q] at e; cases e
    | some z =>
      rw [q] at e; cases e
      obtain ⟨v, h1, h2⟩ := r.get q
      exact ⟨v, by rw [h1]; rfl, h2⟩
  · rw [List.getElem?_append_right (by simpa using hi), List.getElem?_replicate] at e
    split at e <;> cases e
def finish : Option (Fl × Env × PH) → Option (PV × PH)
  | some (.nx, _, h) => some (.non, h)
  | some (.ret p, _, h) => some (p, h)
  | _ => none
mutual
/-- nothing of it lies in the small heap -/
def plain : PV → Bool
  | .loc _ => false
  | .tup xs => plains xs
  | .rl xs => plains xs
  | .non => true
  | .bl _ => true
  | .int _ => true
  | .str _ => true
  | .glo _ => true
def plains : List PV → Bool
  | [] => true
  | x :: xs => plain x && plains xs
end
mutual
theorem plain_RV {K : Frg} {μ μ' : List Addr} {H : Hp} : ∀ (p : PV) (v : V), plain p = true → RV K μ' H p v → RV K μ H p v
  | .non, _, _, h => h
  | .bl _, _, _, h => h
  | .int _, _, _, h => h
  | .str _, _, _, h => h
  | .glo _, _, _, h => h
  | .loc _, _, h, _ => by cases h
  | .tup xs, v, h, ⟨a, vs, e, s, r⟩ => ⟨a, vs, e, s, plains_RV xs vs h r⟩
  | .rl xs, v, h, ⟨a, vs, e, s, r⟩ => ⟨a, vs, e, s, plains_RV xs vs h r⟩
theorem plains_RV {K : Frg} {μ μ' : List Addr} {H : Hp} : ∀ (ps : List PV) (vs : List V), plains ps = true → RVs K μ' H ps vs → RVs K μ H ps vs
  | [], _, _, h => h
  | p :: ps, _, h, ⟨w, ws, e, r, q⟩ => by
    rw [plains, Bool.and_eq_true] at h
    exact ⟨w, ws, e, plain_RV p w h.1 r, plains_RV ps ws h.2 q⟩
end
/-- what a def that only reads gives back; what it laid is forgotten -/
def trunc (h : PH) : Option (PV × PH) → Option (PV × PH)
  | some (.loc n, h') => if Nat.ble h.length n then (match h'[n]? with
    | some (.lst xs) => if plains xs then some (.loc h.length, h ++ [.lst xs]) else none
    | _ => none) else none
  | some (p, _) => if plain p then some (p, h) else none
  | none => none
/-- only what is laid anew may be written -/
def freshW (h : PH) : Nat → Bool := fun n => Nat.ble h.length n
abbrev Bodies := FKey → CallF → (Nat → Bool) → SF
def runB (B : Bodies) (T : Tab) (call : CallF) : CallF := fun wr key ps h => match T.fn key with
  | some I => if Nat.beq ps.length I.ps.length then (if I.pure then trunc h (finish (B key call (freshW h) (startE I ps) h)) else finish (B key call wr (startE I ps) h)) else none
  | none => none
def evC (B : Bodies) (T : Tab) : Nat → CallF
  | 0 => fun _ _ _ _ => none
  | k + 1 => runB B T (evC B T k)

def dEnd (Q : VK) : Ends := { nx := fun _ H' => Q .non H', rt := Q }
theorem fin_some {r : Option (Fl × Env × PH)} {p : PV} {h' : PH} (e : finish r = some (p, h')) : ∃ fl env, r = some (fl, env, h') ∧ ((fl = .nx ∧ p = .non) ∨ fl = .ret p) := by
  unfold finish at e
  split at e
  · cases e; exact ⟨_, _, rfl, .inl ⟨rfl, rfl⟩⟩
  · cases e; exact ⟨_, _, rfl, .inr rfl⟩
  · cases e
theorem fin_go {K : Frg} {μ : List Addr} {wr : Nat → Bool} {H : Hp} {fl : Fl} {env : Env} {p : PV} {h' : PH} {Q : VK} (c : (fl = .nx ∧ p = .non) ∨ fl = .ret p)
    (g : Go K μ wr H p h' Q) : GoS K μ wr H fl env h' (dEnd Q) := by
  rcases c with ⟨rfl, rfl⟩ | rfl
  · exact fun μ' H' σ' R s E => g μ' H' .non R s rfl
  · exact fun μ' H' σ' R s E v rv => g μ' H' v R s rv
/-- a body at its parameters -/
theorem body_sp {K : Frg} {μ : List Addr} {wr : Nat → Bool} {H : Hp} {h h' : PH} {ps : List PV} {vs : List V} {p : PV} {Q : VK} {B : Bodies} {T : Tab} {call : CallF} {key : FKey} {I : FnI} {N : List Str} (hI : T.fn key = some I) (hN : N.length = I.slots)
    (R : HR K μ wr H h) (r : RVs K μ H ps vs) (e : runB B T call wr key ps h = some (p, h')) (g : Go K μ wr H p h' Q) : ∃ wr', rdS K wr' (B key call wr') (dEnd Q) (L2.start N vs) H := by
  unfold runB at e
  rw [hI] at e
  simp only at e
  split at e
  case isFalse => cases e
  split at e
  · have old : ∀ {n : Nat} {a : Addr}, μ[n]? = some a → freshW h n = false := fun {n a} hn => by
      have := R.lt hn
      unfold freshW
      cases q : Nat.ble h.length n with
      | false => rfl
      | true => have := Nat.le_of_ble_eq_true q; omega
    have R1 : HR K μ (freshW h) H h := ⟨R.len, R.inj, fun n a o hn ho => let ⟨u, r, q⟩ := R.obj n a o hn ho; ⟨u, r, q.elim .inl fun ⟨w, z⟩ => .inr ⟨old hn, z⟩⟩⟩
    refine ⟨freshW h, ?_⟩
    cases q : finish (B key call (freshW h) (startE I ps) h) with
    | none => rw [q] at e; cases e
    | some z =>
      obtain ⟨p1, h1⟩ := z
      obtain ⟨fl, env, e1, c⟩ := fin_some q
      refine ⟨μ, _, h, fl, env, h1, start_ER r hN, R1, e1, fin_go c fun μ' H' v R' s rv => ?_⟩
      rw [q] at e
      have back : HR K μ wr H' h := ⟨R.len, R.inj, fun n a o hn ho => by
        obtain ⟨u, r, q⟩ := R.obj n a o hn ho
        have fr := s.frame n a hn (old hn)
        refine ⟨u, r.mono (fun _ _ e => e) s.keep, ?_⟩
        rw [fr]
        exact q⟩
      have st : Step K μ wr H μ H' := ⟨fun _ _ e => e, s.keep, fun n a hn _ => s.frame n a hn (old hn)⟩
      have gen : ∀ {p1 : PV}, RV K μ' H' p1 v → plain p1 = true → some (p1, h) = some (p, h') → Q v H' := fun rv hp e => by
        cases e
        exact g μ H' v back st (plain_RV _ v hp rv)
      unfold trunc at e
      split at e
      · rename_i n h2 e0
        cases e0
        split at e
        · rename_i hn
          have hn := Nat.le_of_ble_eq_true hn
          split at e
          · rename_i xs ho
            split at e
            · rename_i hp
              cases e
              obtain ⟨a, ha, ev⟩ := rv
              subst ev
              obtain ⟨ws, hv, rw1⟩ := R'.lst ha ho
              have rw2 := plains_RV (μ := μ ++ [a]) xs ws hp rw1
              have hm : ∀ (n : Nat) (b : Addr), μ[n]? = some b → (μ ++ [a])[n]? = some b := fun n b e => by rw [List.getElem?_append_left (List.getElem?_eq_some_iff.mp e).1]; exact e
              have ca : ∀ (m : Nat) (b : Addr), (μ ++ [a])[m]? = some b → μ[m]? = some b ∨ (m = μ.length ∧ b = a) := fun m b e => by
                by_cases hm : m < μ.length
                · rw [List.getElem?_append_left hm] at e; exact .inl e
                · have h2 : m = μ.length := by
                    have := (List.getElem?_eq_some_iff.mp e).1
                    simp at this; omega
                  subst h2
                  rw [List.getElem?_append_right (Nat.le_refl _)] at e
                  simp at e
                  exact .inr ⟨rfl, e.symm⟩
              have no : ∀ (m : Nat), μ[m]? = some a → False := fun m hm => by
                have := R'.inj m n a (s.mu m a hm) ha
                have := R.lt hm
                omega
              have R3 : HR K (μ ++ [a]) wr H' (h ++ [.lst xs]) := by
                refine ⟨by simp [R.len], fun i j b hi hj => ?_, fun m b o hm' ho' => ?_⟩
                · rcases ca i b hi with h1 | ⟨h1, h1'⟩ <;> rcases ca j b hj with h2 | ⟨h2, h2'⟩
                  · exact R.inj i j b h1 h2
                  · subst h2'; exact (no i h1).elim
                  · subst h1'; exact (no j h2).elim
                  · rw [h1, h2]
                · rcases ca m b hm' with h1 | ⟨h1, h1'⟩
                  · rw [List.getElem?_append_left (R.lt h1)] at ho'
                    obtain ⟨u, r, q⟩ := back.obj m b o h1 ho'
                    exact ⟨u, r.mono hm .refl, q⟩
                  · subst h1'
                    subst h1
                    rw [R.len, List.getElem?_append_right (Nat.le_refl _)] at ho'
                    simp at ho'
                    subst ho'
                    exact ⟨_, ⟨ws, rfl, rw2⟩, .inl hv⟩
              exact g (μ ++ [a]) H' (.ref a) R3 ⟨hm, st.keep, st.frame⟩ ⟨a, by rw [← R.len]; simp, rfl⟩
            · cases e
          · cases e
        · cases e
      · rename_i p2 h2 _ e0
        cases e0
        split at e
        · rename_i hp
          exact gen rv hp e
        · cases e
      · rename_i e0; cases e0
  · obtain ⟨fl, env, e1, c⟩ := fin_some e
    exact ⟨wr, μ, _, h, fl, env, h', start_ER r hN, R, e1, fin_go c g⟩

/-- a def of the text, its body told by the evaluator -/
structure BodOk (P : Program) (w : World) (K : Frg) (mg : Str → Option Value) (base : Heap) (T : Tab) (B : Bodies) (key : FKey) (I : FnI) : Prop where
  ok : ∃ (N : List Str) (nm qual : Str) (params : Arguments) (body : List Stmt) (scope : Scope) (dvs : List V) (kws : List (Str × V)) (fd : FuncData), FunD K nm qual params body scope dvs kws (He.fAd K key) fd ∧ FnScope N I.ps scope ∧ N.length = I.slots ∧ BindsOk K fd I ∧
    ∀ (k : Nat) (call : CallF), CallsOk P w K mg base T k call → ∀ (f : Addr) (cdv : Value) (A : Around) (outer : List PySem.Env) (s : Shared) (H : Hp), A.guards = some [] → RoomB k (A.deeper (envOfC qual scope s.heap.objs.size f cdv)) →
      ∀ wr, PSs (cxOf CX0 P w K mg base N qual scope f cdv A outer s H E0).nox body (rdS K wr (B key call wr))
theorem evC_ok {P : Program} {w : World} {K : Frg} {mg : Str → Option Value} {base : Heap} {T : Tab} {B : Bodies} (h : ∀ key I, T.fn key = some I → BodOk P w K mg base T B key I) : ∀ k : Nat, CallsOk P w K mg base T k (evC B T k)
  | 0 => ⟨fun key I hI => by
    obtain ⟨N, nm, qual, params, body, scope, dvs, kws, fd, F, S, hN, hb, hbody⟩ := (h key I hI).ok
    refine ⟨fd, ⟨fun vs H Q h => ?_, rfl, fun A outer s H args us vs Q hA hr e0 hb r h => ?_⟩, hb⟩
    · obtain ⟨_, _, _, _, _, _, _, _, e, _⟩ := h; cases e
    · obtain ⟨_, _, _, _, _, _, _, _, e, _⟩ := h; cases e⟩
  | k + 1 => ⟨fun key I hI => by
    obtain ⟨N, nm, qual, params, body, scope, dvs, kws, fd, F, S, hN, hb, hbody⟩ := (h key I hI).ok
    refine ⟨fd, FnG.of F S (fun vs H Q h => ?_) fun cdv A outer s H vs Q hA hr ⟨μ, wr, h0, ps, p, h', R, rp, e, g⟩ => ?_, hb⟩
    · obtain ⟨μ, wr, h0, ps, p, h', R, rp, e, g⟩ := h
      rw [rp.length]
      unfold evC runB at e
      rw [hI] at e
      simp only at e
      split at e
      · rename_i hl; exact Nat.eq_of_beq_eq_true hl
      · cases e
    · obtain ⟨wr', q⟩ := body_sp hI hN R rp e g
      exact ⟨_, PSs.nox (hbody k (evC B T k) (evC_ok h k) (He.fAd K key) cdv A outer s H hA hr wr'), q⟩⟩

/-! ### the law's end -/
theorem law_callG {P : Program} {w : World} {K : Frg} {mg mb : Str → Option Value} {k : Nat} {fa a : Addr} {x : Str} {sp : Sp} {s₁ : Shared} {vs : List Value} {ns : List Int}
    (KX : K.In s₁.heap) (hns : s₁.heap.Ns mainGlobals mg) (hb : s₁.heap.Ns builtinsNs mb) (hbb : ∀ x : Str, x ≠ "__name__" → mb x = bootBuiltins x) (hlim : s₁.heap.NoLimit) (hg : s₁.gens = #[])
    (ha : s₁.heap.get? a = some { cls := .type "list", data := .seq vs.toArray }) (hi : IntsAre vs ns) (hl : ns.length ≤ sizeLine) (hr : Room k callerA)
    (F : ∀ base : Heap, K.In base → base.Ns mainGlobals mg → ∃ fd, FnG P w K mg base k fa fd 1 [x] sp ∧ ∀ (s : Shared) (u : Value), K.In s.heap → BindsTo s fd ⟨[u], []⟩ [(x, u)])
    (hsp : ∀ H : Hp, FzL K H a (ns.map V.int) → sp [.ref a] H (fun v _ => v = .bl true) E0) :
    codeAny (model P w) callerA (.call (.ref fa) ⟨[.ref a], []⟩) (fun r s' => r = .ok (.ret (.bool true)) ∧ OldK s₁.heap s'.heap ∧ s'.os = s₁.os ∧ AllBare s'.gens) s₁ := by
  have rv := vals_ints hi
  have lenV := hi.length
  -- nothing is tracked, or the script alone
  obtain ⟨H, hS, hok, hA, hfz⟩ : ∃ H : Hp, FzL K H a (ns.map V.int) ∧ HOk P w H s₁.heap ∧ (∀ b, H b ≠ none → b = a ∧ K.lookup a = none) ∧ ∀ b u, H b = some u → ∃ ob xs, u = .frz ob (.lst xs) := by
    cases hk : K.lookup a with
    | some o =>
      have e := KX a o hk
      rw [ha] at e
      cases e
      exact ⟨fun _ => none, .inr ⟨_, vs.toArray, _, hk, rfl, rfl, rfl, by rw [List.size_toArray, lenV]; exact hl, by simpa using rv⟩, fun b u z => (nomatch (show (none : Option HO) = some u from z)), fun b z => absurd rfl z, fun b u z => (nomatch (show (none : Option HO) = some u from z))⟩
    | none =>
      refine ⟨fun b => if b = a then some (.frz { cls := .type "list", data := .seq vs.toArray } (.lst (ns.map V.int))) else none, .inl ⟨_, if_pos rfl⟩, fun b u z => ?_, fun b z => ?_, fun b u z => ?_⟩
      · by_cases hb : b = a
        · have z' := (if_pos hb).symm.trans z
          cases z'
          subst hb
          exact ⟨ha, by rw [List.length_map]; exact hl, vs, _, rv, ha⟩
        · have z' := (if_neg hb).symm.trans z
          cases z'
      · by_cases hb : b = a
        · exact ⟨hb, trivial |> fun _ => rfl⟩
        · exact absurd (if_neg hb) z
      · by_cases hb : b = a
        · have z' := (if_pos hb).symm.trans z
          cases z'
          exact ⟨_, _, rfl⟩
        · have z' := (if_neg hb).symm.trans z
          cases z'
  have apart : ∀ {b : Addr} {o : Obj}, s₁.heap.get? b = some o → (b = a → False) → H b = none := fun {b o} e n => by
    cases q : H b with
    | none => rfl
    | some u => exact (n (hA b (by rw [q]; simp)).1).elim
  have nsK : ∀ {b : Addr} {m : Str → Option Value}, s₁.heap.Ns b m → (hidT s₁.heap H).Ns b m := fun {b m} ⟨o, es, ep, e, d, r⟩ => ⟨o, es, ep, hidT_get e (apart e fun z => by
    subst z
    rw [ha] at e; cases e
    exact nomatch (show Data.seq vs.toArray _ = Data.dict es ep from d)), d, r⟩
  have hKb : K.In (hidT s₁.heap H) := fun b o e => hidT_get (KX b o e) (by
    cases q : H b with
    | none => rfl
    | some u =>
      obtain ⟨z, hk⟩ := hA b (by rw [q]; simp)
      subst z
      rw [hk] at e; cases e)
  have hM : Mod K mg (hidT s₁.heap H) := ⟨hKb, nsK hns, ⟨mb, nsK hb, hbb⟩, let ⟨mc, h1, h2⟩ := hlim; ⟨mc, nsK h1, h2⟩⟩
  have e0 : Env0 P w K mg (hidT s₁.heap H) callerA [] s₁ H := ⟨rfl, hM, fun b o e => of_hidT e, Nat.le_of_eq (hidT_size _ _), trivial, fun b hb => absurd (show b ∈ ([] : List Addr) from hb) (by simp), hok, .of_eq hg⟩
  obtain ⟨fd, hF, hbind⟩ := F _ hKb (nsK hns)
  refine codeAny_mono (hF.run callerA [] s₁ H ⟨[.ref a], []⟩ [.ref a] [.ref a] _ rfl hr e0 (hbind s₁ (.ref a) KX) (.cons (show RelV (V.ref a) _ from rfl) .nil) (hsp H hS)) fun r s' h => ?_
  cases r with
  | error e => exact False.elim h
  | ok fl =>
    cases fl with
    | next => exact False.elim h
    | brk => exact False.elim h
    | cont => exact False.elim h
    | ret u =>
      obtain ⟨v, H', os, bare, un, hok', r', q⟩ := h
      have q' : v = .bl true := q
      subst q'
      obtain rfl : u = Value.bool true := r'
      refine ⟨rfl, OldK.of_keep fun b o e => ?_, os, bare⟩
      cases q : H b with
      | none => exact un.keep b o e q (by intro z; exact absurd (show b ∈ ([] : List Addr) from z) (by simp)) (by simp)
      | some u =>
        obtain ⟨ob, xs, z⟩ := hfz b u q
        subst z
        obtain ⟨e1, _⟩ := hok b _ q
        obtain ⟨e2, _⟩ := hok' b _ (un.frzs b ob _ q)
        rw [e] at e1; cases e1
        exact e2
/-- a law: F gives the written part, the function object, the promise over every base -/
theorem walk_G {l : PySem.W.OpenLaw} {n k : Nat} {q : Program} {loose : List Str} {XP : (Str → Option Value) → Heap → Prop} {YP : World → Heap → Prop} {d : DefRec} {x : Str}
    (hn : l.most = some n) (hn2 : n ≤ sizeLine) (hdf : d.params.defaults = []) (hr : Room k callerA)
    (F : ∀ (w : World) (mg : Str → Option Value) (fa : Addr) (h : Heap), YP w h → h.Ns mainGlobals mg → mg d.name = some (.ref fa) →
      ∃ (K : Frg) (sp : Sp), K.In h ∧
        (∀ (H : Hp) (a : Addr) (ns : List Int), ns.length ≤ n → (∀ z ∈ ns, Builtin.Int.intBits z ≤ 1048576) → FzL K H a (ns.map V.int) → sp [.ref a] H (fun v _ => v = .bl true) E0) ∧
        ∀ base : Heap, K.In base → base.Ns mainGlobals mg → ∃ fd, FnG l.prog w K mg base k fa fd 1 [x] sp ∧ ∀ (s : Shared) (u : Value), K.In s.heap → BindsTo s fd ⟨[u], []⟩ [(x, u)]) :
    PySem.W.WalkO q loose XP YP l.row.toRowW d [] (fun f vs => PySem.call f vs) := by
  refine Att.attach_callB hn hdf fun w s₀ s₁ mg mb fa o pm cd doc a vs ns G Y ho hd hcd hmg hobj hints hlen hbits hg => ?_
  obtain ⟨K, sp, KX, hsp, hF⟩ := F w mg fa _ Y G.T.g hmg
  exact law_callG KX G.T.g G.T.b G.T.builtins G.T.nolimit hg hobj hints (Nat.le_trans hlen hn2) hr hF fun H hS => hsp H a ns hlen hbits hS
/-- the promise of the law's def -/
theorem law_sp {P : Program} {w : World} {K : Frg} {mg : Str → Option Value} {T : Tab} {B : Bodies} {k : Nat} {nm x : Str} {I : FnI} (hI : T.fn (nm, none) = some I) (hx : I.ps = [x]) (hd : I.dfl = []) (hB : ∀ base, ∀ key I, T.fn key = some I → BodOk P w K mg base T B key I)
    (LT : ∀ ns : List Int, ns.length ≤ 63 → (∀ z ∈ ns, Builtin.Int.intBits z ≤ 1048576) → ∃ h', evC B T k (fun _ => true) (nm, none) [.rl (ns.map PV.int)] [] = some (.bl true, h')) :
    (∀ (H : Hp) (a : Addr) (ns : List Int), ns.length ≤ 63 → (∀ z ∈ ns, Builtin.Int.intBits z ≤ 1048576) → FzL K H a (ns.map V.int) → spOf K (evC B T k) (nm, none) [.ref a] H (fun v _ => v = .bl true) E0) ∧
      ∀ base : Heap, K.In base → base.Ns mainGlobals mg → ∃ fd, FnG P w K mg base k (He.fAd K (nm, none)) fd 1 [x] (spOf K (evC B T k) (nm, none)) ∧ ∀ (s : Shared) (u : Value), K.In s.heap → BindsTo s fd ⟨[u], []⟩ [(x, u)] := by
  refine ⟨fun H a ns hl hb hS => ?_, fun base _ _ => ?_⟩
  · obtain ⟨h', e⟩ := LT ns hl hb
    exact ⟨[], fun _ => true, [], [.rl (ns.map PV.int)], .bl true, h', ⟨rfl, fun i j a h => by simp at h, fun n a o h => by simp at h⟩, ⟨_, _, rfl, ⟨a, _, rfl, hS, RVs.ints.mpr rfl⟩, rfl⟩, e, fun μ' H' v R s r => r⟩
  · obtain ⟨fd, F, hb⟩ := (evC_ok (hB base) k).ok (nm, none) I hI
    obtain ⟨dvs, ds, r1, r2, r3⟩ := hb.fit 1 (by unfold fillN; rw [hd, hx]; rfl)
    have e : fillN I 1 = [] := by unfold fillN; rw [hd]; simp
    have e2 : dvs = [] := by
      have := r3 [] (fun _ => none)
      rw [e] at this
      exact this
    subst e2
    cases r1
    rw [hx] at F r2
    exact ⟨fd, F, fun s u hK => r2 s [u] hK rfl⟩
end KP
set_option Elab.async false
set_option linter.all false
set_option maxRecDepth 100000
/-! KP 17: what the printer of bodies uses. -/
namespace KP
open PySem PySem.Spec PyProof.Rows L2

/-- the body's context -/
structure BX (X : Cx) (N : List Str) (sc : Scope) (cf : Str → Bool) (T : Tab) (k : Nat) (call : CallF) : Prop where
  fn : X.fn = cf
  hN : X.N = N
  nd : N.Nodup
  sc : X.env.scope = sc
  xe : X.xe = fun _ _ => False
  calm : X.calm = true
  room : RoomB k X.A
  gu : X.A.guards = some []
  tab : TabOk T X.K X.mg X.w
  calls : CallsOk X.prog X.w X.K X.mg X.base T k call
def cellF (scope : Scope) : Str → Bool := fun x => scope.names.lookup x == some .cell
def allF : Str → Bool := fun _ => true
def fuelN : Nat := 4294967296
def visC (sc : Scope) (x : Str) : Bool := match sc.names.lookup x with
  | some .local => true
  | some .cell => true
  | some .free => true
  | _ => false
def glC (sc : Scope) (x : Str) : Bool := match sc.names.lookup x with
  | some .globalImplicit => true
  | _ => false
def lcC (sc : Scope) (x : Str) : Bool := match sc.names.lookup x with
  | some .local => true
  | _ => false
def clC (sc : Scope) (x : Str) : Bool := match sc.names.lookup x with
  | some .cell => true
  | _ => false
def okN (x : Str) : Bool := !(x == ("__debug__" : Str)) && !(x == ("__classdict__" : Str))
def varC (N : List Str) (sc : Scope) (x : Str) (i : Nat) : Bool := decide (N[i]? = some x) && (visC sc x && okN x)
def gloC (sc : Scope) (x : Str) : Bool := glC sc x && okN x
def setC (N : List Str) (sc : Scope) (x : Str) (i : Nat) : Bool := decide (N[i]? = some x) && lcC sc x
def setF (N : List Str) (sc : Scope) (x : Str) (i : Nat) : Bool := decide (N[i]? = some x) && clC sc x
theorem okN_dbg {x : Str} (h : okN x = true) : (x == ("__debug__" : Str)) = false ∧ (x == ("__classdict__" : Str)) = false := by
  unfold okN at h
  rw [Bool.and_eq_true, Bool.not_eq_true', Bool.not_eq_true'] at h
  exact h
section
variable {X : Cx} {N : List Str} {sc : Scope} {cf : Str → Bool} {T : Tab} {k : Nat} {call : CallF} {wr : Nat → Bool} {a b c e o i : Expr} {fa fb fc fe fo fi fv : EF} {f fk : AF} {es : List Expr} {pos pos' p apos cpos : Pos} {x y z m : Str}
theorem vis_of (h : visC sc x = true) (hs : X.env.scope = sc) : Vis X.env.scope x := by
  rw [hs]
  unfold visC at h
  unfold Vis
  split at h
  · exact .inl (by assumption)
  · exact .inr (.inl (by assumption))
  · exact .inr (.inr (by assumption))
  · cases h
theorem gl_of (B : BX X N sc cf T k call) (h : gloC sc x = true) : Gl X x ∧ (x == ("__debug__" : Str)) = false := by
  unfold gloC at h
  rw [Bool.and_eq_true] at h
  refine ⟨?_, (okN_dbg h.2).1⟩
  have h := h.1
  unfold glC at h
  show X.env.scope.names.lookup x = _
  rw [B.sc]
  split at h
  · assumption
  · cases h
theorem lc_of (B : BX X N sc cf T k call) (h : lcC sc x = true) : X.env.scope.names.lookup x = some .local := by
  unfold lcC at h
  rw [B.sc]
  split at h
  · assumption
  · cases h
theorem cl_of (B : BX X N sc cf T k call) (h : clC sc x = true) : X.env.scope.names.lookup x = some .cell := by
  unfold clC at h
  rw [B.sc]
  split at h
  · assumption
  · cases h
theorem gl_of2 (hs : X.env.scope = sc) (h : gloC sc x = true) : Gl X x := by
  unfold gloC at h
  rw [Bool.and_eq_true] at h
  have h := h.1
  unfold glC at h
  show X.env.scope.names.lookup x = _
  rw [hs]
  split at h
  · assumption
  · cases h

theorem x_var {j : Nat} (B : BX X N sc cf T k call) (h : varC N sc x j = true := by decide +kernel) : Snd X wr (.Name x pos) (eVar j) := by
  unfold varC at h
  rw [Bool.and_eq_true, Bool.and_eq_true, decide_eq_true_eq] at h
  exact sn_var (by rw [B.hN]; exact h.1) (vis_of h.2.1 B.sc) (okN_dbg h.2.2).1 (okN_dbg h.2.2).2
theorem x_glo (B : BX X N sc cf T k call) (h : gloC sc x = true := by decide +kernel) : Snd X wr (.Name x pos) (eGlo T x) := sn_glo B.tab (gl_of B h).1 (gl_of B h).2
theorem x_int {z : Int} {j : Nat} : Snd X wr (.Constant (.int z) j pos) (eCst (.int z)) := .of rd_int fun _ => rfl
theorem x_bl {z : Bool} {j : Nat} : Snd X wr (.Constant (.bool z) j pos) (eCst (.bl z)) := .of rd_bl fun _ => rfl
theorem x_str {z : Str} {j : Nat} : Snd X wr (.Constant (.str z) j pos) (eCst (.str z)) := .of rd_str fun _ => rfl
theorem x_non {j : Nat} : Snd X wr (.Constant .none j pos) (eCst .non) := .of rd_non fun _ => rfl
theorem xa_cons (ha : Snd X wr e fa) (hr : PA X es (rdA X.K wr f)) (hs : starEach (e :: es) X.env = (false, eval e X.env) :: starEach es X.env := by rfl) : PA X (e :: es) (rdA X.K wr (aCons fa f)) := ra_cons ha.val hr hs
/-! operators -/
variable (B : BX X N sc cf T k call)
include B
theorem x_add (ha : Snd X wr a fa) (hb : Snd X wr b fb) : Snd X wr (.BinOp a .Add b pos) (eOp fAdd fa fb) := sn_op s_add ha hb
theorem x_sub (ha : Snd X wr a fa) (hb : Snd X wr b fb) : Snd X wr (.BinOp a .Sub b pos) (eOp fSub fa fb) := sn_op s_sub ha hb
theorem x_mul (ha : Snd X wr a fa) (hb : Snd X wr b fb) : Snd X wr (.BinOp a .Mult b pos) (eOp fMul fa fb) := sn_op s_mul ha hb
theorem x_div (ha : Snd X wr a fa) (hb : Snd X wr b fb) : Snd X wr (.BinOp a .FloorDiv b pos) (eOp fDiv fa fb) := sn_op s_div ha hb
theorem x_mod (ha : Snd X wr a fa) (hb : Snd X wr b fb) : Snd X wr (.BinOp a .Mod b pos) (eOp fMod fa fb) := sn_op s_mod ha hb
theorem x_pow (ha : Snd X wr a fa) (hb : Snd X wr b fb) : Snd X wr (.BinOp a .Pow b pos) (eOp fPow fa fb) := sn_op s_pow ha hb
theorem o_lt : OpR X (compareOp .Lt) (rd2 X.K wr (cmpI fun i j => decide (i < j))) := s_cmpI op_lt
theorem o_le : OpR X (compareOp .LtE) (rd2 X.K wr (cmpI fun i j => decide (i ≤ j))) := s_cmpI op_le
theorem o_gt : OpR X (compareOp .Gt) (rd2 X.K wr (cmpI fun i j => decide (j < i))) := s_cmpI op_gt
theorem o_ge : OpR X (compareOp .GtE) (rd2 X.K wr (cmpI fun i j => decide (j ≤ i))) := s_cmpI op_ge
theorem o_eq : OpR X (compareOp .Eq) (rd2 X.K wr fEq) := s_eq B.room.room0
theorem o_ne : OpR X (compareOp .NotEq) (rd2 X.K wr fNe) := s_ne B.room.room0
theorem o_is : OpR X (compareOp .Is) (rd2 X.K wr fIs) := s_is
theorem o_isNot : OpR X (compareOp .IsNot) (rd2 X.K wr fIsNot) := s_isNot
theorem o_in : OpR X (compareOp .In) (rd2 X.K wr (fInT T)) := s_inT B.tab B.room.room0
theorem o_notIn : OpR X (compareOp .NotIn) (rd2 X.K wr (fNotInT T)) := s_notInT B.tab B.room.room0
theorem x_ix (ha : Snd X wr a fa) (hb : Snd X wr b fb) (hs : PlainIx b := by intro _ _; rfl) : Snd X wr (.Subscript a b pos) (eOp (fIxT T) fa fb) := sn_ix (s_ixT B.tab B.room.room0) ha hb hs
theorem x_sl {lo hi : Option Expr} {fl fh : PF} {p2 : Pos} (ha : Snd X wr a fa) (hl : L2.PO X lo (rdP X.K wr fl)) (hh : L2.PO X hi (rdP X.K wr fh)) : Snd X wr (.Subscript a (.Slice lo hi none p2) pos) (eSl fSl fa fl fh) := sn_sl s_sl ha hl hh
theorem x_fld (ha : Snd X wr a fa) (hb : attributeBase a x X.env (eval a X.env) = eval a X.env := by rfl) : Snd X wr (.Attribute a x pos) (eFld T x fa) := sn_fld B.tab ha hb
omit B
theorem x_cmp {op : CmpOp} {g : F2} (ho : OpR X (compareOp op) (rd2 X.K wr g)) (ha : Snd X wr a fa) (hb : Snd X wr b fb) (hm : behindInMarks op b = false := by rfl) : Snd X wr (.Compare a [op] [b] pos) (eOp g fa fb) := sn_cmp ho ha hb hm
theorem x_chain {op op' : CmpOp} {g g' : F2} (ho : OpR X (compareOp op) (rd2 X.K wr g)) (ho' : OpR X (compareOp op') (rd2 X.K wr g')) (ha : Snd X wr a fa) (hb : Snd X wr b fb) (hc : Snd X wr c fc) (hm : lastMarks [op, op'] [b, c] = false := by rfl) :
    Snd X wr (.Compare a [op, op'] [b, c] pos) (eChain g g' fa fb fc) := sn_chain ho ho' ha hb hc hm
/-- xs[::-1] of a list -/
def eRevL (fa : EF) : EF := fun env h => bnd (fa env h) fun x h1 => match listOf h1 x with
  | some xs => some (.loc h1.length, h1 ++ [.lst xs.reverse])
  | none => none
theorem x_rev {j : Nat} {p1 p2 p3 : Pos} (ha : Snd X wr a fa) : Snd X wr (.Subscript a (.Slice none none (some (.UnaryOp .USub (.Constant (.int 1) j p1) p2)) p3) pos) (eRevL fa) :=
  .of (PE_imp (pe_revL ha.val) fun σ H Q ⟨μ, env, h, q, h', E, R, e, g⟩ => rdE_bnd E R e g fun μ1 H1 x h1 v s1 E1 R1 e1 r1 q1 => by
    split at e1
    · rename_i xs hx
      cases e1
      obtain ⟨ad, vs, ev, sq, rr⟩ := listOf_ok R1 r1 hx
      exact ⟨ad, vs, ev, sq, fun p hp => q1.new R1 rfl hp ⟨_, rfl, rr.reverse⟩⟩
    · cases e1) fun _ => rfl
/-- len(set(xs)), at most one text -/
def eLenSet (fa : EF) : EF := fun env h => bnd (fa env h) fun x h1 => match itemsOf h1 x with
  | some xs => (match strsP xs with
    | some ss => if Nat.ble ss.length 1 then some (.int ss.length, h1) else none
    | none => none)
  | none => none
theorem x_lenSet {p2 q : Pos} (B : BX X N sc cf T k call) (ha : Snd X wr a fa) (h1 : gloC sc "len" = true := by decide +kernel) (h2 : gloC sc "set" = true := by decide +kernel) (h3 : T.free "len" = true := by decide +kernel) (h4 : T.free "set" = true := by decide +kernel)
    (na : starEach [a] X.env = (false, eval a X.env) :: starEach [] X.env := by rfl) : Snd X wr (.Call (.Name "len" p) [.Call (.Name "set" p2) [a] [] q] [] pos) (eLenSet fa) :=
  .of (PE_imp (pe_lenSet B.calm (gl_of B h1).1 (B.tab.free _ h3) (gl_of B h2).1 (B.tab.free _ h4) ha.val na) fun σ H Q ⟨μ, env, h, q, h', E, R, e, g⟩ => rdE_bnd E R e g fun μ1 H1 x h1 v s1 E1 R1 e1 r1 q1 => by
    split at e1
    · rename_i xs hx
      split at e1
      · rename_i ss hss
        split at e1
        · rename_i hl
          cases e1
          obtain ⟨ad, vs, ev, sq, rr⟩ := itemsOf_ok R1 r1 hx
          have := strsP_ok rr hss
          subst this
          exact ⟨ad, ss, ev, sq, Nat.le_of_ble_eq_true hl, q1.same R1 rfl⟩
        · cases e1
      · cases e1
    · cases e1) fun _ => rfl
/-! built-in functions -/
theorem x_fun {id : String} {g : FN} (B : BX X N sc cf T k call) (hc : CallR X (.builtin id) (rdN X.K wr g)) (hf : PA X (e :: es) (rdA X.K wr f)) (h : gloC sc x = true := by decide +kernel) (hm : T.free x = true := by decide +kernel) (hv : bootBuiltins x = some (.builtin id) := by decide +kernel) (hn : x ≠ "__name__" := by decide)
    (he : starEach (e :: es) X.env = (false, eval e X.env) :: starEach es X.env := by rfl) (hpl : (backTo pos (starEach es X.env)).any (·.1) = false := by rfl) : Snd X wr (.Call (.Name x p) (e :: es) [] pos) (eCall g f) :=
  .of (PE_imp (pe_callB hc (gl_of B h).1 (B.tab.free _ hm) hv hf hn (gl_of B h).2 he hpl) imp_call) fun _ => rfl
theorem x_typ {id : String} {g : FN} (B : BX X N sc cf T k call) (hc : CallR X (.type id) (rdN X.K wr g)) (hf : PA X (e :: es) (rdA X.K wr f)) (h : gloC sc x = true := by decide +kernel) (hm : T.free x = true := by decide +kernel) (hv : bootBuiltins x = some (.type id) := by decide +kernel) (hn : x ≠ "__name__" := by decide)
    (he : starEach (e :: es) X.env = (false, eval e X.env) :: starEach es X.env := by rfl) (hpl : (backTo pos (starEach es X.env)).any (·.1) = false := by rfl) : Snd X wr (.Call (.Name x p) (e :: es) [] pos) (eCall g f) :=
  .of (PE_imp (pe_callTy hc (gl_of B h).1 (B.tab.free _ hm) hv hf hn (gl_of B h).2 he hpl) imp_call) fun _ => rfl
theorem x_isi {pa pb : Pos} (B : BX X N sc cf T k call) (ty : TyN) (ha : Snd X wr a fa)
    (hty : match ty with
      | .bt m => m ∈ askB ∧ T.free z = true ∧ bootBuiltins z = some (.type m) ∧ z ≠ "__name__"
      | .cl c => z = c ∧ T.isi c = true) (h : gloC sc z = true := by decide +kernel) (h2 : gloC sc "isinstance" = true := by decide +kernel) (hf : T.free "isinstance" = true := by decide +kernel)
    (hst : starEach [a, .Name z pa] X.env = (false, eval a X.env) :: starEach [.Name z pa] X.env := by rfl) : Snd X wr (.Call (.Name "isinstance" pb) [a, .Name z pa] [] pos) (eIsi T ty fa) :=
  sn_isi B.tab ha hst (gl_of B h).1 (gl_of B h2).1 hf (gl_of B h).2 hty
/-! methods of built-in things -/
theorem x_meth {id Ty : String} {g : FM} (pa : PlainAttrs Ty) (slot : Slot Ty x id) (hty : typeOf (.builtin id) = pure (.type "method_descriptor")) (hm : MtR X id (rdM X.K wr g)) (ho : Snd X wr o fo) (hf : PA X (e :: es) (rdA X.K wr f))
    (hbase : attributeBase o x X.env (eval o X.env) = eval o X.env := by rfl)
    (hfew : ((backTo cpos (starEach (e :: es) X.env)).all (fun x => !x.1) && (backToKw cpos (keywordEach [] X.env)).all (fun x => x.1.isSome)
      && decide ((e :: es).length + ([] : List Keyword).length + (if ([] : List Keyword).isEmpty then 0 else 1) < 30)) = true := by rfl)
    (hline : (apos.endLine == cpos.line) = true := by rfl) (hs : starEach (e :: es) X.env = (false, eval e X.env) :: starEach es X.env := by rfl) (hplain : (backTo cpos (starEach es X.env)).any (·.1) = false := by rfl) :
    Snd X wr (.Call (.Attribute o x apos) (e :: es) [] cpos) (eMeth Ty g fo f) := .of (PE_imp (pe_bm pa slot hty hm ho.val hf hbase hfew hline hs hplain) imp_meth) fun _ => rfl
theorem x_meth0 {id Ty : String} {g : FM} (pa : PlainAttrs Ty) (slot : Slot Ty x id) (hty : typeOf (.builtin id) = pure (.type "method_descriptor")) (hm : MtR X id (rdM X.K wr g)) (ho : Snd X wr o fo)
    (hbase : attributeBase o x X.env (eval o X.env) = eval o X.env := by rfl) (hline : (apos.endLine == cpos.line) = true := by rfl) :
    Snd X wr (.Call (.Attribute o x apos) [] [] cpos) (eMeth Ty g fo aNil) := .of (PE_imp (pe_bm0 pa slot hty hm ho.val hbase hline) imp_meth0) fun _ => rfl
/-! own defs, methods, classes -/
theorem x_call (B : BX X N sc cf T k call) (hf : PA X (e :: es) (rdA X.K wr f)) (h : gloC sc x = true := by decide +kernel) (he : starEach (e :: es) X.env = (false, eval e X.env) :: starEach es X.env := by rfl) (hpl : (backTo pos (starEach es X.env)).any (·.1) = false := by rfl) :
    Snd X wr (.Call (.Name x p) (e :: es) [] pos) (eFn T call wr x f) := sn_fn B.tab B.calls B.gu B.room (gl_of B h).1 (gl_of B h).2 hf he hpl
theorem x_call0 (B : BX X N sc cf T k call) (h : gloC sc x = true := by decide +kernel) : Snd X wr (.Call (.Name x p) [] [] pos) (eFn T call wr x aNil) := sn_fn0 B.tab B.calls B.gu B.room (gl_of B h).1 (gl_of B h).2
theorem x_own {pl : Sem Bool} (B : BX X N sc cf T k call) (ha : Snd X wr a fa) (hf : PA X (e :: es) (rdA X.K wr f)) (he : starEach (e :: es) X.env = (false, eval e X.env) :: starEach es X.env := by rfl) (hpl : (backTo pos (starEach es X.env)).any (·.1) = false := by rfl)
    (ht : eval (.Call (.Attribute a m apos) (e :: es) [] pos) X.env = (do
      let ov ← eval a X.env
      standAt apos.atName
      let (f, first) ← holding [ov] (getMethod ov m pl)
      callWith pos f first (backTo pos (starEach (e :: es) X.env)) (backToKw pos (keywordEach [] X.env))) := by rfl) :
    Snd X wr (.Call (.Attribute a m apos) (e :: es) [] pos) (eOwn T call wr m fa f) := sn_own B.tab B.calls B.gu B.room ha hf he hpl ht
theorem x_own0 {pl : Sem Bool} (B : BX X N sc cf T k call) (ha : Snd X wr a fa)
    (ht : eval (.Call (.Attribute a m apos) [] [] pos) X.env = (do
      let ov ← eval a X.env
      standAt apos.atName
      let (f, first) ← holding [ov] (getMethod ov m pl)
      callWith pos f first (backTo pos (starEach [] X.env)) (backToKw pos (keywordEach [] X.env))) := by rfl) :
    Snd X wr (.Call (.Attribute a m apos) [] [] pos) (eOwn T call wr m fa aNil) := sn_own0 B.tab B.calls B.gu B.room ha ht
theorem x_mk (B : BX X N sc cf T k call) (hf : PA X (e :: es) (rdA X.K wr f)) (h : gloC sc x = true := by decide +kernel) (he : starEach (e :: es) X.env = (false, eval e X.env) :: starEach es X.env := by rfl) (hpl : (backTo pos (starEach es X.env)).any (·.1) = false := by rfl) :
    Snd X wr (.Call (.Name x p) (e :: es) [] pos) (eMk T call wr x f) := sn_mk B.tab B.calls B.gu B.room (gl_of B h).1 (gl_of B h).2 hf he hpl
theorem x_mk0 (B : BX X N sc cf T k call) (h : gloC sc x = true := by decide +kernel) : Snd X wr (.Call (.Name x p) [] [] pos) (eMk T call wr x aNil) := sn_mk0 B.tab B.calls B.gu B.room (gl_of B h).1 (gl_of B h).2
theorem x_callK0 {kws : List Keyword} {ks : List Str} (B : BX X N sc cf T k call) (hkw : PK X kws (rdA X.K wr fk)) (h : gloC sc x = true := by decide +kernel) (hall : (backToKw pos (keywordEach kws X.env)).all (·.1.isSome) = true := by rfl) (hks : (backToKw pos (keywordEach kws X.env)).filterMap (·.1) = ks := by rfl)
    (hpl : ((backTo pos (starEach [] X.env)).any (·.1) || (backToKw pos (keywordEach kws X.env)).any (·.1.isNone)) = false := by rfl) : Snd X wr (.Call (.Name x p) [] kws pos) (eFnK T call wr x 0 ks aNil fk) := sn_fnK0 B.tab B.calls B.gu B.room (gl_of B h).1 (gl_of B h).2 hkw hall hks hpl
theorem x_callK {j : Nat} {kws : List Keyword} {ks : List Str} (B : BX X N sc cf T k call) (hf : PA X (e :: es) (rdA X.K wr f)) (hkw : PK X kws (rdA X.K wr fk)) (h : gloC sc x = true := by decide +kernel) (hall : (backToKw pos (keywordEach kws X.env)).all (·.1.isSome) = true := by rfl) (hks : (backToKw pos (keywordEach kws X.env)).filterMap (·.1) = ks := by rfl)
    (he : starEach (e :: es) X.env = (false, eval e X.env) :: starEach es X.env := by rfl) (hpl : ((backTo pos (starEach (e :: es) X.env)).any (·.1) || (backToKw pos (keywordEach kws X.env)).any (·.1.isNone)) = false := by rfl) :
    Snd X wr (.Call (.Name x p) (e :: es) kws pos) (eFnK T call wr x j ks f fk) := sn_fnK B.tab B.calls B.gu B.room (gl_of B h).1 (gl_of B h).2 hf hkw hall hks he hpl
/-! targets -/
theorem y_nm {j : Nat} (B : BX X N sc cf T k call) (h : setC N sc x j = true := by decide +kernel) : PG X (.Name x pos) (rdG X.K (gNm j)) := by
  unfold setC at h
  rw [Bool.and_eq_true, decide_eq_true_eq] at h
  exact sg_nm (by rw [B.hN]; exact B.nd) (by rw [B.hN]; exact h.1) (.inl (lc_of B h.2)) (.inr (lc_of B h.2))
/-- a name that an inner block reads -/
theorem y_cl {j : Nat} (B : BX X N sc cf T k call) (h : (setF N sc x j && cf x) = true := by decide +kernel) : PG X (.Name x pos) (rdG X.K (gNm j)) := by
  unfold setF at h
  rw [Bool.and_eq_true, Bool.and_eq_true, decide_eq_true_eq] at h
  exact sg_nm (by rw [B.hN]; exact B.nd) (by rw [B.hN]; exact h.1.1) (.inr (cl_of B h.1.2)) (.inl (by rw [B.fn]; exact h.2))
theorem ys_cons {g : GF} {gs : GFs} (h1 : PG X e (rdG X.K g)) (h2 : PGs X es (rdGs X.K gs)) (hs : (assignEach (e :: es) X.env).map (·.2) = assign e X.env :: (assignEach es X.env).map (·.2) := by rfl) : PGs X (e :: es) (rdGs X.K (gsCons g gs)) := sgs_cons h1 h2 hs
theorem y_tp {j n : Nat} {gs : GFs} (B : BX X N sc cf T k call) (h : PGs X es (rdGs X.K gs)) (hn : (assignEach es X.env).length = n := by rfl) (hst : (assignEach es X.env).findIdx? (·.1) = none := by rfl) : PG X (.Tuple es j pos) (rdG X.K (gTp n gs)) := sg_tp B.calm h hn hst
/-! statements -/
theorem z_expr (he : Snd X wr e fe) (hs : swapsWith e none pos.line X.env = pure false := by rfl) : PS X (.Expr e pos) (rdS X.K wr (sDrop fe)) := sp_expr he hs
theorem z_set {j : Nat} (B : BX X N sc cf T k call) (he : Snd X wr e fe) (hs : swapsWith e (some (.Name x pos')) pos.line X.env = pure false := by rfl) (h : setC N sc x j = true := by decide +kernel) : PS X (.Assign [.Name x pos'] e pos) (rdS X.K wr (sAsg fe (gNm j))) := by
  unfold setC at h
  rw [Bool.and_eq_true, decide_eq_true_eq] at h
  exact sp_set (by rw [B.hN]; exact B.nd) (by rw [B.hN]; exact h.1) (.inl (lc_of B h.2)) he hs (.inr (lc_of B h.2))
theorem z_setc {j : Nat} (B : BX X N sc cf T k call) (he : Snd X wr e fe) (hs : swapsWith e (some (.Name x pos')) pos.line { X.env with scope := sc } = pure false := by rfl) (h : (setF N sc x j && cf x) = true := by decide +kernel) : PS X (.Assign [.Name x pos'] e pos) (rdS X.K wr (sAsg fe (gNm j))) := by
  unfold setF at h
  rw [Bool.and_eq_true, Bool.and_eq_true, decide_eq_true_eq] at h
  exact sp_set (by rw [B.hN]; exact B.nd) (by rw [B.hN]; exact h.1.1) (.inr (cl_of B h.1.2)) he (by have := B.sc; subst this; exact hs) (.inl (by rw [B.fn]; exact h.2))
theorem z_asg {tg : Expr} {g : GF} (he : Snd X wr e fe) (hg : PG X tg (rdG X.K g)) (hs : swapsWithSole [tg] e pos.line X.env = pure false := by rfl) (hw : swappedStores [tg] e X.env = pure none := by rfl) (h1 : (assignEach [tg] X.env).map (·.2) = [assign tg X.env] := by rfl) :
    PS X (.Assign [tg] e pos) (rdS X.K wr (sAsg fe g)) := sp_asg he hg hs hw h1
theorem sws_of {ts : List Expr} {ex : Expr} {r : Sem (Option (List Str))} (B : BX X N sc cf T k call) (h : swappedStores ts ex { X.env with scope := sc } = r) : swappedStores ts ex X.env = r := by
  have := B.sc
  subst this
  exact h
theorem z_par2 {j l : Nat} {px py pt : Pos} {kt k2 : Nat} {pt2 : Pos} (B : BX X N sc cf T k call) (ha : PA X [a, b] (rdA X.K wr f)) (h : (setC N sc x j && (setC N sc y l && decide (j ≠ l))) = true := by decide +kernel)
    (hw : swappedStores [.Tuple [.Name x px, .Name y py] kt pt] (.Tuple [a, b] k2 pt2) { X.env with scope := sc } = pure (some [x, y]) := by rfl) (hs : swapsWithSole [.Tuple [.Name x px, .Name y py] kt pt] (.Tuple [a, b] k2 pt2) pos.line X.env = pure false := by rfl) :
    PS X (.Assign [.Tuple [.Name x px, .Name y py] kt pt] (.Tuple [a, b] k2 pt2) pos) (rdS X.K wr (sPar2 j l f)) := by
  unfold setC at h
  simp only [Bool.and_eq_true, decide_eq_true_eq] at h
  obtain ⟨⟨h1, h2⟩, ⟨h3, h4⟩, h5⟩ := h
  exact sp_par2 B.calm (by rw [B.hN]; exact B.nd) (by rw [B.hN]; exact h1) (by rw [B.hN]; exact h3) h5 (lc_of B h2) (lc_of B h4) ha (sws_of B hw) hs
theorem z_par3 {j l n : Nat} {px py pz pt : Pos} {kt k2 : Nat} {pt2 : Pos} (B : BX X N sc cf T k call) (ha : PA X [a, b, c] (rdA X.K wr f)) (h : (setC N sc x j && (setC N sc y l && (setC N sc z n && (decide (j ≠ l) && (decide (j ≠ n) && decide (l ≠ n)))))) = true := by decide +kernel)
    (hw : swappedStores [.Tuple [.Name x px, .Name y py, .Name z pz] kt pt] (.Tuple [a, b, c] k2 pt2) { X.env with scope := sc } = pure (some [x, y, z]) := by rfl) (hs : swapsWithSole [.Tuple [.Name x px, .Name y py, .Name z pz] kt pt] (.Tuple [a, b, c] k2 pt2) pos.line X.env = pure false := by rfl) :
    PS X (.Assign [.Tuple [.Name x px, .Name y py, .Name z pz] kt pt] (.Tuple [a, b, c] k2 pt2) pos) (rdS X.K wr (sPar3 j l n f)) := by
  unfold setC at h
  simp only [Bool.and_eq_true, decide_eq_true_eq] at h
  obtain ⟨⟨h1, h2⟩, ⟨h3, h4⟩, ⟨h5, h6⟩, h7, h8, h9⟩ := h
  exact sp_par3 B.calm (by rw [B.hN]; exact B.nd) (by rw [B.hN]; exact h1) (by rw [B.hN]; exact h3) (by rw [B.hN]; exact h5) h7 h8 h9 (lc_of B h2) (lc_of B h4) (lc_of B h6) ha (sws_of B hw) hs
theorem z_fld (B : BX X N sc cf T k call) (ho : Snd X wr o fo) (hv : Snd X wr e fv) (hs : swapsWith e (some (.Attribute o x pos')) pos.line X.env = pure false := by rfl) : PS X (.Assign [.Attribute o x pos'] e pos) (rdS X.K wr (sFldA T wr x fo fv)) := sp_fld B.tab ho hv hs
theorem z_sub (B : BX X N sc cf T k call) (ho : Snd X wr o fo) (hi : Snd X wr i fi) (hv : Snd X wr e fv) (hs : swapsWithSole [.Subscript o i pos'] e pos.line X.env = pure false := by rfl) (hw : swappedStores [.Subscript o i pos'] e X.env = pure none := by rfl)
    (ha : ∀ v, assign (.Subscript o i pos') X.env v = (do
      let ov ← holding [v] (eval o X.env)
      let iv ← holding [v, ov] (eval i X.env)
      standAt pos'
      holding [v, ov, iv] (setItem ov iv v)
      release [v, ov, iv] []) := by intro _; rfl)
    (h1 : (assignEach [.Subscript o i pos'] X.env).map (·.2) = [assign (.Subscript o i pos') X.env] := by rfl) : PS X (.Assign [.Subscript o i pos'] e pos) (rdS X.K wr (sSubA wr fo fi fv)) := sp_sub B.room.room0 ho hi hv hs hw ha h1
theorem z_augP {j : Nat} (B : BX X N sc cf T k call) (he : Snd X wr e fe) (h : setC N sc x j = true := by decide +kernel) : PS X (.AugAssign (.Name x pos') .Add e pos) (rdS X.K wr (sAugI j (fun i j => i + j) fe)) := by
  unfold setC at h
  rw [Bool.and_eq_true, decide_eq_true_eq] at h
  exact sp_aug (by rw [B.hN]; exact B.nd) (by rw [B.hN]; exact h.1) (.inl (lc_of B h.2)) he ip_add (.inr (lc_of B h.2))
theorem z_augPc {j : Nat} (B : BX X N sc cf T k call) (he : Snd X wr e fe) (h : (setF N sc x j && cf x) = true := by decide +kernel) : PS X (.AugAssign (.Name x pos') .Add e pos) (rdS X.K wr (sAugI j (fun i j => i + j) fe)) := by
  unfold setF at h
  rw [Bool.and_eq_true, Bool.and_eq_true, decide_eq_true_eq] at h
  exact sp_aug (by rw [B.hN]; exact B.nd) (by rw [B.hN]; exact h.1.1) (.inr (cl_of B h.1.2)) he ip_add (.inl (by rw [B.fn]; exact h.2))
/-- a tuple target, the value a written tuple, stored as a tuple -/
theorem z_asgT {tg : Expr} {g : GF} (B : BX X N sc cf T k call) (he : Snd X wr e fe) (hg : PG X tg (rdG X.K g)) (hs : swapsWithSole [tg] e pos.line X.env = pure false := by rfl) (hw : swappedStores [tg] e { X.env with scope := sc } = pure none := by rfl) (h1 : (assignEach [tg] X.env).map (·.2) = [assign tg X.env] := by rfl) :
    PS X (.Assign [tg] e pos) (rdS X.K wr (sAsg fe g)) := sp_asg he hg hs (sws_of B hw) h1
theorem passes (B : BX X N sc cf T k call) : PassesOwn (model X.prog X.w) X.A X.env X.xe := by
  rw [B.xe]; exact PassesOwn.never
theorem z_while {fw : SF} {body : List Stmt} {n : Nat} (B : BX X N sc cf T k call) (hc : Snd X wr c fc) (hb : PSs X body (rdS X.K wr fw)) : PS X (.While c body [] pos) (rdS X.K wr (whileF fc fw n)) := sp_while (passes B) hc hb
theorem z_for {tg : Expr} {iF : IF} {g : GF} {sb : (Nat → Bool) → SF} {body : List Stmt} (B : BX X N sc cf T k call) (hi : PI X tg a (rdI X.K wr iF)) (hg : PG X tg (rdG X.K g)) (hb : ∀ wr', PSs X body (rdS X.K wr' (sb wr')))
    (hs : ∀ x, foldedSetIterable a X.env x = pure x := by intro _; rfl) : PS X (.For tg a body [] pos) (rdS X.K wr (sFor wr iF g sb)) := sp_for (passes B) B.calm hi hg hb hs
theorem z_forD {tg : Expr} {mm : Key × PV → PV} {fa : (Nat → Bool) → EF} {g : GF} {sb : (Nat → Bool) → SF} {body : List Stmt} (B : BX X N sc cf T k call) (hi : ∀ wr', PI X tg a (rdIz X.K wr' (iD mm (fa wr')))) (hg : PG X tg (rdG X.K g)) (hb : ∀ wr', PSs X body (rdS X.K wr' (sb wr')))
    (hs : ∀ x, foldedSetIterable a X.env x = pure x := by intro _; rfl) : PS X (.For tg a body [] pos) (rdS X.K wr (sForD wr mm fa g sb)) := sp_forD (passes B) B.calm hi hg hb hs
/-! a try that runs through -/
theorem BX.nox (B : BX X N sc cf T k call) : BX X.nox N sc cf T k call := ⟨B.fn, B.hN, B.nd, B.sc, rfl, B.calm, B.room, B.gu, B.tab, B.calls⟩
theorem z_try {fw : SF} {body : List Stmt} {h₀ : ExceptHandler} {hs : List ExceptHandler} (B : BX X N sc cf T k call) (hx : ∀ Y : Cx, BX Y N sc cf T k call → PSs Y body (rdS Y.K wr fw)) : PS X (.Try body (h₀ :: hs) [] [] pos) (rdS X.K wr fw) := ps_try_thru0 (hx _ B.nox)
/-! iterators -/
theorem i_range1 {tg : Expr} (B : BX X N sc cf T k call) (ha : Snd X wr a fa) (h : gloC sc "range" = true := by decide +kernel) (hm : T.free "range" = true := by decide +kernel) (hs : starEach [a] X.env = [(false, eval a X.env)] := by rfl) : PI X tg (.Call (.Name "range" p) [a] [] pos) (rdI X.K wr (iRange1 fa)) := si_range1 (gl_of B h).1 (B.tab.free _ hm) ha hs
theorem i_range2 {tg : Expr} (B : BX X N sc cf T k call) (ha : Snd X wr a fa) (hb : Snd X wr b fb) (h : gloC sc "range" = true := by decide +kernel) (hm : T.free "range" = true := by decide +kernel) (hs : starEach [a, b] X.env = [(false, eval a X.env), (false, eval b X.env)] := by rfl) (hs2 : starEach [b] X.env = [(false, eval b X.env)] := by rfl) :
    PI X tg (.Call (.Name "range" p) [a, b] [] pos) (rdI X.K wr (iRange2 fa fb)) := si_range2 (gl_of B h).1 (B.tab.free _ hm) ha hb hs hs2
theorem i_enum {elts : List Expr} {kk : Nat} {tpos : Pos} (B : BX X N sc cf T k call) (ha : Snd X wr a fa) (h : gloC sc "enumerate" = true := by decide +kernel) (hm : T.free "enumerate" = true := by decide +kernel) (hs : starEach [a] X.env = [(false, eval a X.env)] := by rfl) :
    PI X (.Tuple elts kk tpos) (.Call (.Name "enumerate" p) [a] [] pos) (rdI X.K wr (iEnumF fa)) := si_enum (gl_of B h).1 (B.tab.free _ hm) ha hs
theorem i_zip {elts : List Expr} {kk : Nat} {tpos : Pos} (B : BX X N sc cf T k call) (ha : Snd X wr a fa) (hb : Snd X wr b fb) (h : gloC sc "zip" = true := by decide +kernel) (hm : T.free "zip" = true := by decide +kernel) (hs : starEach [a, b] X.env = (false, eval a X.env) :: starEach [b] X.env := by rfl)
    (hs2 : starEach [b] X.env = (false, eval b X.env) :: starEach [] X.env := by rfl) (hpl : (backTo pos (starEach [b] X.env)).any (·.1) = false := by rfl) : PI X (.Tuple elts kk tpos) (.Call (.Name "zip" p) [a, b] [] pos) (rdI X.K wr (iZipF fa fb)) := si_zip (gl_of B h).1 (B.tab.free _ hm) ha hb hs hs2 hpl
theorem i_items {elts : List Expr} {kk : Nat} {tpos : Pos} (ha : Snd X wr a fa) (hbase : attributeBase a "items" X.env (eval a X.env) = eval a X.env := by rfl) (hline : (apos.endLine == cpos.line) = true := by rfl) :
    PI X (.Tuple elts kk tpos) (.Call (.Attribute a "items" apos) [] [] cpos) (rdIz X.K wr (iD mI fa)) := si_items ha hbase hline
theorem i_values {tg : Expr} (ha : Snd X wr a fa) (hbase : attributeBase a "values" X.env (eval a X.env) = eval a X.env := by rfl) (hline : (apos.endLine == cpos.line) = true := by rfl) : PI X tg (.Call (.Attribute a "values" apos) [] [] cpos) (rdIz X.K wr (iD mV fa)) := si_values ha hbase hline
/-! comprehensions -/
variable {elt tg iter : Expr} {ifs : List Expr} {scope : Scope} {vs : List Nat} {iF : IF} {g : GF} {tf : (Nat → Bool) → TF} {fE : (Nat → Bool) → EF} {mm : Key × PV → PV} {fA : (Nat → Bool) → EF}
/-- the block's names, as the block finds them -/
def rlS (sc scope : Scope) : Scope := { scope with names := scope.names.map fun (n, k) => if (k == NameKind.free && sc.kind == .function && sc.names.lookup n == some .cell) then (n, NameKind.cell) else (n, k) }
theorem rlS_eq {env : PySem.Env} : relabel scope env = rlS env.scope scope := rfl
theorem BX.blk (B : BX X N sc cf T k call) (s : Shared) (H : Hp) (cl : List (Str × Addr)) (C : Addr) (fp : List Addr) : BX (X.blk s H scope (compEnvC scope cl C X.env) fp) N (rlS sc scope) (cellF scope) T k call := ⟨rfl, B.hN, B.nd, by rw [← B.sc]; rfl, rfl, B.calm, B.room, B.gu, B.tab, B.calls⟩
/-- within the block -/
def InBlk (X : Cx) (scope : Scope) (Y : Cx) : Prop := Y.K = X.K ∧ Y.fn = fun x => scope.names.lookup x == some .cell
theorem x_lc (B : BX X N sc cf T k call) (own : List (Str × Nat)) (hi : PI X tg iter (rdI X.K wr iF)) (hg : ∀ Y : Cx, BX Y N (rlS sc scope) (cellF scope) T k call → PG Y tg (rdG Y.K g)) (ht : ∀ (Y : Cx) (wr : Nat → Bool), BX Y N (rlS sc scope) (cellF scope) T k call → PTs Y ifs (rdT Y.K wr (tf wr)))
    (he : ∀ (Y : Cx) (wr : Nat → Bool), BX Y N (rlS sc scope) (cellF scope) T k call → Snd Y wr elt (fE wr)) (ok : blkC N sc scope own = true := by decide +kernel) (hv : own.map (·.2) = vs := by rfl) (hs : ∀ x, foldedSetIterable iter X.env x = pure x := by intro _; rfl) :
    Snd X wr (.ListComp elt [⟨tg, iter, ifs, 0⟩] scope pos) (eLc wr vs iF g tf fE) :=
  sn_lc B.calm (by rw [B.hN]; exact B.nd) hi (by rw [B.hN, B.sc]; exact blkOk_by ok) hv (fun s H C cl fp => hg _ (B.blk s H cl C fp)) (fun wr s H C cl fp => ht _ wr (B.blk s H cl C fp)) (fun wr s H C cl fp => he _ wr (B.blk s H cl C fp)) hs
theorem x_lcD (B : BX X N sc cf T k call) (own : List (Str × Nat)) (hi : ∀ wr', PI X tg iter (rdIz X.K wr' (iD mm (fA wr')))) (hg : ∀ Y : Cx, BX Y N (rlS sc scope) (cellF scope) T k call → PG Y tg (rdG Y.K g)) (ht : ∀ (Y : Cx) (wr : Nat → Bool), BX Y N (rlS sc scope) (cellF scope) T k call → PTs Y ifs (rdT Y.K wr (tf wr)))
    (he : ∀ (Y : Cx) (wr : Nat → Bool), BX Y N (rlS sc scope) (cellF scope) T k call → Snd Y wr elt (fE wr)) (ok : blkC N sc scope own = true := by decide +kernel) (hv : own.map (·.2) = vs := by rfl) (hs : ∀ x, foldedSetIterable iter X.env x = pure x := by intro _; rfl) :
    Snd X wr (.ListComp elt [⟨tg, iter, ifs, 0⟩] scope pos) (eLcD wr vs mm fA g tf fE) :=
  sn_lcD B.calm (by rw [B.hN]; exact B.nd) hi (by rw [B.hN, B.sc]; exact blkOk_by ok) hv (fun s H C cl fp => hg _ (B.blk s H cl C fp)) (fun wr s H C cl fp => ht _ wr (B.blk s H cl C fp)) (fun wr s H C cl fp => he _ wr (B.blk s H cl C fp)) hs
def swC (sc scope : Scope) (y : Str) : Bool := (match sc.kind with | .function => true | _ => false) && (lcC sc y && !(scope.names.any fun (n, k) => n == y && (k == .local || k == .cell)))
theorem sw_of {gs : List Comprehension} {l : Nat} {py : Pos} (B : BX X N sc cf T k call) (h : swC sc scope y = true) (hl : (py.line == pos.line) = true) : swapsWith (.ListComp elt gs scope pos) (some (.Name y py)) l X.env = pure true := by
  unfold swC at h
  rw [Bool.and_eq_true, Bool.and_eq_true, Bool.not_eq_true'] at h
  refine sw_true ?_ (lc_of B h.2.1) hl h.2.2
  rw [B.sc]
  have := h.1
  split at this
  · assumption
  · cases this
theorem z_setLc {j : Nat} {py spos : Pos} (B : BX X N sc cf T k call) (own : List (Str × Nat)) (hi : PI X tg iter (rdI X.K wr iF)) (hg : ∀ Y : Cx, BX Y N (rlS sc scope) (cellF scope) T k call → PG Y tg (rdG Y.K g)) (ht : ∀ (Y : Cx) (wr : Nat → Bool), BX Y N (rlS sc scope) (cellF scope) T k call → PTs Y ifs (rdT Y.K wr (tf wr)))
    (he : ∀ (Y : Cx) (wr : Nat → Bool), BX Y N (rlS sc scope) (cellF scope) T k call → Snd Y wr elt (fE wr)) (ok : blkC N sc scope own = true := by decide +kernel) (hv : own.map (·.2) = vs := by rfl) (hs : ∀ x, foldedSetIterable iter X.env x = pure x := by intro _; rfl) (hy : setC N sc y j = true := by decide +kernel) (hsw : swC sc scope y = true := by decide +kernel) (hl : (py.line == pos.line) = true := by rfl) :
    PS X (.Assign [.Name y py] (.ListComp elt [⟨tg, iter, ifs, 0⟩] scope pos) spos) (rdS X.K wr (sAsg (eLc wr vs iF g tf fE) (gNm j))) := by
  have hy2 := hy
  unfold setC at hy2
  rw [Bool.and_eq_true, decide_eq_true_eq] at hy2
  exact sp_setLc B.calm (by rw [B.hN]; exact B.nd) (by rw [B.hN]; exact hy2.1) (lc_of B hy2.2) (sw_of B hsw hl) hi (by rw [B.hN, B.sc]; exact blkOk_by ok) hv (fun s H C cl fp => hg _ (B.blk s H cl C fp)) (fun wr s H C cl fp => ht _ wr (B.blk s H cl C fp)) (fun wr s H C cl fp => he _ wr (B.blk s H cl C fp)) hs
theorem z_setLcD {j : Nat} {py spos : Pos} (B : BX X N sc cf T k call) (own : List (Str × Nat)) (hi : ∀ wr', PI X tg iter (rdIz X.K wr' (iD mm (fA wr')))) (hg : ∀ Y : Cx, BX Y N (rlS sc scope) (cellF scope) T k call → PG Y tg (rdG Y.K g)) (ht : ∀ (Y : Cx) (wr : Nat → Bool), BX Y N (rlS sc scope) (cellF scope) T k call → PTs Y ifs (rdT Y.K wr (tf wr)))
    (he : ∀ (Y : Cx) (wr : Nat → Bool), BX Y N (rlS sc scope) (cellF scope) T k call → Snd Y wr elt (fE wr)) (ok : blkC N sc scope own = true := by decide +kernel) (hv : own.map (·.2) = vs := by rfl) (hs : ∀ x, foldedSetIterable iter X.env x = pure x := by intro _; rfl) (hy : setC N sc y j = true := by decide +kernel) (hsw : swC sc scope y = true := by decide +kernel) (hl : (py.line == pos.line) = true := by rfl) :
    PS X (.Assign [.Name y py] (.ListComp elt [⟨tg, iter, ifs, 0⟩] scope pos) spos) (rdS X.K wr (sAsg (eLcD wr vs mm fA g tf fE) (gNm j))) := by
  have hy2 := hy
  unfold setC at hy2
  rw [Bool.and_eq_true, decide_eq_true_eq] at hy2
  exact sp_setLcD B.calm (by rw [B.hN]; exact B.nd) (by rw [B.hN]; exact hy2.1) (lc_of B hy2.2) (sw_of B hsw hl) hi (by rw [B.hN, B.sc]; exact blkOk_by ok) hv (fun s H C cl fp => hg _ (B.blk s H cl C fp)) (fun wr s H C cl fp => ht _ wr (B.blk s H cl C fp)) (fun wr s H C cl fp => he _ wr (B.blk s H cl C fp)) hs
end
end KP
set_option Elab.async false
set_option linter.all false
set_option maxRecDepth 100000
/-! KP 18: the module's table, checked. -/
namespace KP
open PySem PySem.Spec PyProof.Rows L2

/-! ### values -/
mutual
def relP (K : Frg) : PV → Value → Bool
  | .non, u => (match u with | .none => true | _ => false)
  | .bl b, u => (match u with | .bool c => b == c | _ => false)
  | .int i, u => (match u with | .int j _ => decide (j = i) | _ => false)
  | .str s, u => (match u with | .str z _ => decide (z = s) | _ => false)
  | .glo x, u => decide (u = .ref (He.ga K x))
  | .tup xs, u => (match u with
    | .ref a => (match K.lookup a with
      | some ⟨.type c, _, .seq its _, _⟩ => decide (c = "tuple") && (Nat.ble its.size lineN && relPs K xs its.toList)
      | _ => false)
    | _ => false)
  | .rl _, _ => false
  | .loc _, _ => false
def relPs (K : Frg) : List PV → List Value → Bool
  | [], us => us.isEmpty
  | x :: xs, us => (match us with
    | u :: r => relP K x u && relPs K xs r
    | [] => false)
end
mutual
theorem relP_ok {K : Frg} : ∀ (p : PV) (u : Value), relP K p u = true → ∃ v, RelV v u ∧ Closed K p v
  | .non, u, h => by
    unfold relP at h
    split at h
    · exact ⟨.non, rfl, fun _ _ => rfl⟩
    · cases h
  | .bl b, u, h => by
    unfold relP at h
    split at h
    · rw [beq_iff_eq] at h; subst h; exact ⟨.bl b, rfl, fun _ _ => rfl⟩
    · cases h
  | .int i, u, h => by
    unfold relP at h
    split at h
    · have h := of_decide_eq_true h; subst h; exact ⟨.int _, ⟨_, rfl⟩, fun _ _ => rfl⟩
    · cases h
  | .str i, u, h => by
    unfold relP at h
    split at h
    · have h := of_decide_eq_true h; subst h; exact ⟨.str _, ⟨_, rfl⟩, fun _ _ => rfl⟩
    · cases h
  | .glo x, u, h => by
    unfold relP at h
    have h := of_decide_eq_true h
    subst h
    exact ⟨.ref _, rfl, fun _ _ => rfl⟩
  | .tup xs, u, h => by
    unfold relP at h
    split at h
    · rename_i a
      split at h
      · rename_i c dd its n sl hk
        rw [Bool.and_eq_true, Bool.and_eq_true] at h
        obtain ⟨h1, h2, h3⟩ := h
        have h1 := of_decide_eq_true h1
        subst h1
        obtain ⟨vs, r, cl⟩ := relPs_ok xs _ h3
        exact ⟨.ref a, rfl, fun μ H => ⟨a, vs, rfl, .inr ⟨_, its, n, hk, rfl, rfl, by rw [← lineN_eq]; exact Nat.le_of_ble_eq_true h2, r⟩, cl μ H⟩⟩
      · cases h
    · cases h
  | .rl _, _, h => by unfold relP at h; cases h
  | .loc _, _, h => by unfold relP at h; cases h
theorem relPs_ok {K : Frg} : ∀ (ps : List PV) (us : List Value), relPs K ps us = true → ∃ vs, Vals vs us ∧ ∀ μ H, RVs K μ H ps vs
  | [], us, h => by
    unfold relPs at h
    rw [List.isEmpty_iff] at h
    subst h
    exact ⟨[], .nil, fun _ _ => rfl⟩
  | p :: ps, us, h => by
    unfold relPs at h
    split at h
    · rw [Bool.and_eq_true] at h
      obtain ⟨v, r, c⟩ := relP_ok p _ h.1
      obtain ⟨vs, rs, cs⟩ := relPs_ok ps _ h.2
      exact ⟨v :: vs, .cons r rs, fun μ H => ⟨v, vs, rfl, c μ H, cs μ H⟩⟩
    · cases h
end

/-! ### the lists that make the table -/
structure TL where
  con : List (Str × PV)
  kd : List (Str × List (Str × PV))
  free : List Str
  fn : List (FKey × FnI)
  fld : List (Str × Str)
  meth : List (Str × Str)
  mks : List Str
  isi : List Str
def memS (x : Str) : List Str → Bool
  | [] => false
  | y :: r => sEq y x || memS x r
theorem memS_iff {x : Str} : ∀ {l : List Str}, memS x l = true → x ∈ l
  | y :: r, h => by
    rw [memS, Bool.or_eq_true] at h
    rcases h with h | h
    · rw [(sEq_iff).mp h]; exact List.mem_cons_self ..
    · exact List.mem_cons_of_mem _ (memS_iff h)
def memP2 (c f : Str) : List (Str × Str) → Bool
  | [] => false
  | y :: r => (sEq y.1 c && sEq y.2 f) || memP2 c f r
theorem memP2_iff {c f : Str} : ∀ {l : List (Str × Str)}, memP2 c f l = true → (c, f) ∈ l
  | y :: r, h => by
    rw [memP2, Bool.or_eq_true, Bool.and_eq_true] at h
    rcases h with h | h
    · rw [← (sEq_iff).mp h.1, ← (sEq_iff).mp h.2]; exact List.mem_cons_self ..
    · exact List.mem_cons_of_mem _ (memP2_iff h)
def fkEq (a b : FKey) : Bool := sEq a.1 b.1 && (match a.2, b.2 with
  | none, none => true
  | some x, some y => sEq x y
  | _, _ => false)
theorem fkEq_iff {a b : FKey} (h : fkEq a b = true) : a = b := by
  obtain ⟨a1, a2⟩ := a
  obtain ⟨b1, b2⟩ := b
  unfold fkEq at h
  rw [Bool.and_eq_true] at h
  obtain ⟨h1, h2⟩ := h
  have h1 := (sEq_iff).mp h1
  cases a2 <;> cases b2 <;> simp only at h2 <;> first | cases h2 | skip
  · simp only at h1; rw [h1]
  · simp only at h1; rw [h1, (sEq_iff).mp h2]
def lookF {α : Type} (k : FKey) : List (FKey × α) → Option α
  | [] => none
  | (x, v) :: r => if fkEq x k then some v else lookF k r
theorem lookF_mem {α : Type} {k : FKey} {v : α} : ∀ {l : List (FKey × α)}, lookF k l = some v → (k, v) ∈ l
  | (x, w) :: r, h => by
    rw [lookF] at h
    split at h
    · rename_i e
      cases h
      rw [fkEq_iff e]; exact List.mem_cons_self ..
    · exact List.mem_cons_of_mem _ (lookF_mem h)
theorem lookS_mem {α : Type} {k : Str} {v : α} : ∀ {l : List (Str × α)}, lookS k l = some v → (k, v) ∈ l
  | (x, w) :: r, h => by
    rw [lookS] at h
    split at h
    · rename_i e
      cases h
      rw [(sEq_iff).mp e]; exact List.mem_cons_self ..
    · exact List.mem_cons_of_mem _ (lookS_mem h)
def TL.tab (L : TL) : Tab := ⟨fun x => lookS x L.con, fun x => lookS x L.kd, fun x => memS x L.free, fun k => lookF k L.fn, fun c f => memP2 c f L.fld, fun c f => memP2 c f L.meth, fun c => memS c L.mks, fun c => memS c L.isi⟩
def strKeys (l : List (Str × PV)) (K : Frg) (a : Addr) : Bool := match K.lookup a with
  | some ⟨_, _, .dict es _, _⟩ => es.toList.all fun e => match e.key with
    | .str z _ => (lookS z l).isSome
    | _ => false
  | _ => false
theorem strKeys_ok {l : List (Str × PV)} {K : Frg} {a : Addr} {k : Str} (h : strKeys l K a = true) (hk : lookS k l = none) : PySem.W.nsIn K a k = some none := by
  unfold strKeys at h
  unfold PySem.W.nsIn
  split at h
  · rename_i es n sl hl
    rw [hl]
    simp only
    have h := List.all_eq_true.mp h
    have e1 : es.toList.find? (fun e => e.key.isStr k) = none := by
      rw [List.find?_eq_none]
      intro e he q
      have := h e he
      split at this
      · rename_i z t hz
        have : z = k := by
          rw [hz] at q
          simpa [Value.isStr] using q
        subst this
        rw [hk] at this
        cases this
      · cases this
    have e2 : es.toList.any (fun e => e.refKey) = false := by
      rw [List.any_eq_false]
      intro e he
      have := h e he
      split at this
      · rename_i z t hz
        simp [DictEntry.refKey, hz]
      · cases this
    rw [e1]
    simp only
    rw [show (es.toList.any fun x => x.refKey) = false from e2]
    rfl
  · cases h
def TL.chk (L : TL) (K : Frg) : Bool :=
  (L.con.all fun q => match PySem.W.nsIn K mainGlobals q.1 with
    | some (some u) => relP K q.2 u
    | _ => false) &&
  ((L.kd.all fun q => strKeys q.2 K (He.ga K q.1) && (q.2.all fun z => match PySem.W.nsIn K (He.ga K q.1) z.1 with
    | some (some u) => relP K z.2 u
    | _ => false)) &&
  ((L.free.all fun x => (He.Fa.free x).ok K) &&
  ((L.fn.all fun q => match q.1 with
    | (x, none) => (He.Fa.glo x).ok K && PySem.W.keepIn K (.ref (He.fAd K (x, none)))
    | _ => true) &&
  ((L.fld.all fun q => (He.Fa.cls q.1).ok K && (He.Fa.noat q.1 q.2).ok K) &&
  ((L.meth.all fun q => (He.Fa.cls q.1).ok K && (He.Fa.meth q.1 q.2).ok K) &&
  ((L.mks.all fun c => (He.Fa.glo c).ok K && (He.Fa.mkr c).ok K) &&
  (L.isi.all fun c => (He.Fa.glo c).ok K && ((sevenB.all fun a => decide (PySem.W.kitOne K (.type a) (.ref (He.ga K c)) = some false)) && ((askB.all fun a => decide (PySem.W.kitOne K (.ref (He.ga K c)) (.type a) = some false)) &&
    ((L.isi.all fun d => decide (PySem.W.kitOne K (.ref (He.ga K c)) (.ref (He.ga K d)) = some (sEq c d))) && ((He.Fa.cls c).ok K && (decide (PySem.W.findIn K (.ref (He.ga K c)) "__class__" = some (some (.builtin "object.__class__"))) &&
    (decide (PySem.W.specialIn K (.builtin "object.__class__") "__get__" = some (some (.builtin "getset_descriptor.__get__"))) && (decide (PySem.W.takesIn K (.builtin "object.__class__") = some true) && decide (PySem.W.mroIn K (He.ga K c) (.type "object") = some true)))))))))))))))
theorem TL.ok {L : TL} {K : Frg} {h : Heap} {mg : Str → Option Value} {w : World} (X : K.In h) (G : h.Ns mainGlobals mg) (c : L.chk K = true) (hd : ∀ q ∈ L.kd, ∃ es n, KDict K w (He.ga K q.1) es n) : TabOk L.tab K mg w := by
  unfold TL.chk at c
  simp only [Bool.and_eq_true, List.all_eq_true] at c
  obtain ⟨c1, c2, c3, c4, c5, c6, c7, c8⟩ := c
  have val : ∀ {a : Addr} {x : Str} {p : PV}, (match PySem.W.nsIn K a x with | some (some u) => relP K p u | _ => false) = true → ∃ u v, PySem.W.nsIn K a x = some (some u) ∧ RelV v u ∧ Closed K p v := fun {a x p} e => by
    split at e
    · rename_i u hu
      obtain ⟨v, r, cl⟩ := relP_ok p u e
      exact ⟨u, v, hu, r, cl⟩
    · cases e
  refine ⟨fun x p e => ?_, fun x l e => ?_, fun x e => He.free_ok X G (c3 x (memS_iff e)), fun x I e => ?_, fun a f e => ?_, fun a m e => ?_, fun a e => ?_, fun a e => ?_⟩
  · obtain ⟨u, v, h1, h2, h3⟩ := val (c1 _ (lookS_mem e))
    exact ⟨u, v, PySem.W.mg_of X G h1, h2, h3⟩
  · obtain ⟨d1, d2⟩ := c2 _ (lookS_mem e)
    refine ⟨hd _ (lookS_mem e), fun k => ?_⟩
    split
    · rename_i p hp
      exact val (d2 _ (lookS_mem hp))
    · rename_i hp
      exact strKeys_ok d1 hp
  · have := c4 _ (lookF_mem e)
    simp only [Bool.and_eq_true] at this
    exact ⟨He.glo_ok X G this.1, this.2⟩
  · have := c5 _ (memP2_iff e)
    exact ⟨He.cls_ok this.1, He.noat_ok this.2⟩
  · have := c6 _ (memP2_iff e)
    exact ⟨He.cls_ok this.1, He.meth_ok this.2⟩
  · have := c7 _ (memS_iff e)
    exact ⟨He.glo_ok X G this.1, He.mkr_ok this.2⟩
  · obtain ⟨e1, e2, e3, e4, e5, e6, e7, e8, e9⟩ := c8 _ (memS_iff e)
    exact ⟨He.glo_ok X G e1, fun b hb => of_decide_eq_true (e2 b hb), fun b hb => of_decide_eq_true (e3 b hb), fun d hd => of_decide_eq_true (e4 d (memS_iff hd)), He.cls_ok e5, of_decide_eq_true e6, of_decide_eq_true e7, of_decide_eq_true e8, of_decide_eq_true e9⟩

/-! ### how the defs bind -/
/-- no defaults -/
theorem binds0 {K : Frg} {x qual : Str} {params : Arguments} {body : List Stmt} {scope : Scope} {f : Addr} {fd : FuncData} {I : FnI} (F : FunD K x qual params body scope [] [] f fd) (hd : I.dfl = [])
    (h : ∀ (kV doc pm : Value) (an : Option Addr) (cdv ct : Value) (us : List Value), us.length = I.ps.length → bindArgs (PySem.W.fnOf x qual params body scope .none kV doc pm an cdv ct) ⟨us, []⟩ = pure (I.ps.zip us))
    (hk : ∀ n ∈ I.kwn, ∀ (kV doc pm : Value) (an : Option Addr) (cdv ct : Value) (us ws : List Value), us.length = n → ws.length = (I.ps.drop n).length → bindArgs (PySem.W.fnOf x qual params body scope .none kV doc pm an cdv ct) ⟨us, (I.ps.drop n).zip ws⟩ = pure (I.ps.zip (us ++ ws))) : BindsOk K fd I := by
  refine ⟨fun n hn => ⟨[], [], .nil, F.bindsN h, fun μ H => ?_⟩, fun n s us ws hn _ h1 h2 => ?_⟩
  · unfold fillN
    rw [hd]
    simp [RVs]
  · obtain ⟨oc, od, dV, kV, doc, pm, an, cdv, ct, osl, rfl, lk, hcd, hD, hK⟩ := F.ex
    rcases hD with ⟨_, rfl⟩ | ⟨e, _⟩
    · exact .of_eq (hk n hn kV doc pm an cdv ct us ws h1 h2)
    · exact absurd rfl e
end KP
set_option Elab.async false
set_option linter.all false
set_option maxRecDepth 100000
/-! L 1: the evaluator, stepped in plain Lean. -/
namespace KP
open PySem PySem.Spec PyProof.Rows L2

section
variable {T : Tab} {call : CallF} {wr : Nat → Bool} {env : Env} {h h1 : PH} {x y z : PV} {f g fa fb fc : EF}
/-! statements, one behind the other -/
theorem l_seq {f g : SF} {e1 : Env} (e : f env h = some (.nx, e1, h1)) : sSeq f g env h = g e1 h1 := by unfold sSeq; rw [e]
theorem l_seqR {f g : SF} {e1 : Env} {p : PV} (e : f env h = some (.ret p, e1, h1)) : sSeq f g env h = some (.ret p, e1, h1) := by unfold sSeq; rw [e]
theorem l_ret (e : f env h = some (x, h1)) : sRet f env h = some (.ret x, env, h1) := by unfold sRet; rw [e]; rfl
theorem l_if {c : EF} {f g : SF} {b : Bool} (e : c env h = some (.bl b, h1)) : sIf c f g env h = (if b then f env h1 else g env h1) := by unfold sIf; rw [e]; cases b <;> rfl
theorem l_drop (e : f env h = some (x, h1)) : sDrop f env h = some (.nx, env, h1) := by unfold sDrop; rw [e]; rfl
theorem l_asg {g : GF} {e1 : Env} (e : f env h = some (x, h1)) (e2 : g.f x env = some e1) : sAsg f g env h = some (.nx, e1, h1) := by unfold sAsg; rw [e]; show (match g.f x env with | some env1 => _ | none => _) = _; rw [e2]
/-! expressions -/
theorem l_op {g : F2} {h2 : PH} (ea : fa env h = some (x, h1)) (eb : fb env h1 = some (y, h2)) : eOp g fa fb env h = g x y h2 := by unfold eOp; rw [ea]; show bnd (fb env h1) _ = _; rw [eb]; rfl
theorem l_or1 (e : fa env h = some (.bl true, h1)) : eOr fa fb env h = some (.bl true, h1) := by unfold eOr; rw [e]; rfl
theorem l_or2 (e : fa env h = some (.bl false, h1)) : eOr fa fb env h = fb env h1 := by unfold eOr; rw [e]; rfl
theorem l_and1 (e : fa env h = some (.bl true, h1)) : eAnd fa fb env h = fb env h1 := by unfold eAnd; rw [e]; rfl
theorem l_and2 (e : fa env h = some (.bl false, h1)) : eAnd fa fb env h = some (.bl false, h1) := by unfold eAnd; rw [e]; rfl
theorem l_not {b : Bool} (e : fa env h = some (.bl b, h1)) : eNot fa env h = some (.bl (!b), h1) := by unfold eNot; rw [e]; rfl
theorem l_a0 : aNil env h = some ([], h) := rfl
theorem l_a1 {fr : AF} {xs : List PV} {h2 : PH} (e : fa env h = some (x, h1)) (e2 : fr env h1 = some (xs, h2)) : aCons fa fr env h = some (x :: xs, h2) := by unfold aCons; rw [e]; show bnd (fr env h1) _ = _; rw [e2]; rfl
theorem l_call {f : AF} {g : FN} {ps : List PV} (e : f env h = some (ps, h1)) : eCall g f env h = g ps h1 := by unfold eCall; rw [e]; rfl
theorem l_fn {f : AF} {n : Str} {ps : List PV} (e : f env h = some (ps, h1)) : eFn T call wr n f env h = callT T call wr (n, none) ps h1 := by unfold eFn; rw [e]; rfl
theorem l_tup {f : AF} {ps : List PV} (e : f env h = some (ps, h1)) (hl : ps.length ≤ lineN) : eTup f env h = some (.tup ps, h1) := by unfold eTup; rw [e]; show (if _ then _ else _) = _; rw [if_pos hl]
theorem l_ite {b : Bool} (e : fc env h = some (.bl b, h1)) : eIte fc fa fb env h = (if b then fa env h1 else fb env h1) := by unfold eIte; rw [e]; cases b <;> rfl
end

/-! ### plain values -/
mutual
theorem pok_dr {f : Nat → Option PV} : ∀ (p : PV), pok p = true → dr f p = some p
  | .non, _ => by simp [dr]
  | .bl _, _ => by simp [dr]
  | .int _, _ => by simp [dr]
  | .str _, _ => by simp [dr]
  | .loc _, h => by simp [pok] at h
  | .glo _, h => by simp [pok] at h
  | .tup xs, h => by rw [pok] at h; rw [dr, poks_drs xs h]; rfl
  | .rl xs, h => by rw [pok] at h; rw [dr, poks_drs xs h]; rfl
theorem poks_drs {f : Nat → Option PV} : ∀ (ps : List PV), poks ps = true → drs f ps = some ps
  | [], _ => by simp [drs]
  | p :: ps, h => by
    rw [poks, Bool.and_eq_true] at h
    rw [drs, pok_dr p h.1, poks_drs ps h.2]
end
mutual
theorem pok_plain : ∀ (p : PV), pok p = true → plain p = true
  | .non, _ => by simp [plain]
  | .bl _, _ => by simp [plain]
  | .int _, _ => by simp [plain]
  | .str _, _ => by simp [plain]
  | .loc _, h => by simp [pok] at h
  | .glo _, h => by simp [pok] at h
  | .tup xs, h => by rw [pok] at h; rw [plain]; exact poks_plains xs h
  | .rl xs, h => by rw [pok] at h; rw [plain]; exact poks_plains xs h
theorem poks_plains : ∀ (ps : List PV), poks ps = true → plains ps = true
  | [], _ => by simp [plains]
  | p :: ps, h => by
    rw [poks, Bool.and_eq_true] at h
    rw [plains, pok_plain p h.1, poks_plains ps h.2]; rfl
end
/-- xs != [] -/
theorem ne_nil {h : PH} {n m : Nat} {ws : List PV} (hn : h[n]? = some (.lst ws)) (hm : h[m]? = some (.lst [])) (hw : poks ws = true) : fNe (.loc n) (.loc m) h = some (.bl (!ws.isEmpty), h) := by
  have e1 : dr (drN h 4) (.loc n) = some (.rl ws) := by
    rw [dr, drN, hn]
    show (drs _ ws).map PV.rl = _
    rw [poks_drs ws hw]; rfl
  have e2 : dr (drN h 4) (.loc m) = some (.rl []) := by
    rw [dr, drN, hm]
    show (drs _ []).map PV.rl = _
    rw [drs]; rfl
  have e3 : fEqB (.loc n) (.loc m) h = some ws.isEmpty := by
    unfold fEqB
    rw [e1, e2]
    show (if (pok (.rl ws) && (pok (.rl []) && decide (Nat.min (pdep (.rl ws)) (pdep (.rl [])) ≤ 190))) = true then _ else _) = _
    have hd : Nat.min (pdep (.rl ws)) (pdep (.rl [])) ≤ 190 := Nat.le_trans (Nat.min_le_right _ _) (by decide)
    rw [if_pos (by rw [pok, hw, decide_eq_true hd]; rfl)]
    cases ws with
    | nil => rfl
    | cons w ws => simp [eqP, eqPs]
  show Option.map _ (fEqB (.loc n) (.loc m) h) = _
  rw [e3]
  rfl
/-! ### loops and comprehensions whose turns leave the heap alone -/
theorem lcF_pure {n : Nat} {g : GF} {fe : EF} {env0 : Env} {Y : PV → PV} : ∀ (items acc : List PV) (h : PH),
    (∀ x ∈ items, ∃ env1, g.f x env0 = some env1 ∧ ∀ h, fe env1 h = some (Y x, h)) → n < h.length → h[n]? = some (.lst acc) →
    lcF n g tfY fe env0 items acc h = some (h.set n (.lst (acc ++ items.map Y)))
  | [], acc, h, _, hn, hh => by
    rw [lcF, List.map_nil, List.append_nil]
    congr 1
    refine (List.ext_getElem? fun j => ?_)
    by_cases e : n = j
    · subst e; rw [List.getElem?_set_self hn, hh]
    · rw [List.getElem?_set_ne e]
  | x :: xs, acc, h, hx, hn, hh => by
    obtain ⟨env1, e1, e2⟩ := hx x (List.mem_cons_self ..)
    rw [lcF, e1]
    show bnd (fe env1 h) (fun y h2 => lcF n g tfY fe env0 xs (acc ++ [y]) (h2.set n (.lst (acc ++ [y])))) = _
    rw [e2]
    show lcF n g tfY fe env0 xs (acc ++ [Y x]) (h.set n (.lst (acc ++ [Y x]))) = _
    rw [lcF_pure xs (acc ++ [Y x]) _ (fun z hz => hx z (List.mem_cons_of_mem _ hz)) (by rw [List.length_set]; exact hn) (by rw [List.getElem?_set_self hn]), List.set_set, List.map_cons, List.append_assoc]
    rfl
theorem eLc_pure {wr : Nat → Bool} {own : List Nat} {fi : IF} {g : GF} {fe : (Nat → Bool) → EF} {env : Env} {h h1 : PH} {items : List PV} {lk : List Nat} (Y : PV → PV) (e : fi env h = some ((items, lk), h1)) (hok : lcOk wr own g items lk h1.length = true)
    (hx : ∀ x ∈ items, ∃ env1, g.f x (wipeE env own) = some env1 ∧ ∀ wr h, fe wr env1 h = some (Y x, h)) : eLc wr own fi g (fun _ => tfY) fe env h = some (.loc h1.length, h1 ++ [.lst (items.map Y)]) := by
  unfold eLc
  rw [e]
  show (if _ then _ else _) = _
  rw [if_pos hok]
  rw [lcF_pure (Y := Y) items [] _ (fun x hx' => by obtain ⟨e1, a, b⟩ := hx x hx'; exact ⟨e1, a, b _⟩) (by simp) (by simp)]
  simp
theorem bools_map {xs : List PV} {f : PV → Bool} : bools (xs.map fun x => .bl (f x)) = some (xs.map f) := by
  induction xs with
  | nil => rfl
  | cons x xs ih => rw [List.map_cons, bools, ih]; rfl
/-- all([..]) -/
theorem all_map {h : PH} {n : Nat} {xs : List PV} {f : PV → Bool} (e : h[n]? = some (.lst (xs.map fun x => .bl (f x)))) : gAll [.loc n] h = some (.bl (xs.all f), h) := by
  unfold gAll listOf
  simp only
  rw [e]
  simp only [Option.bind_some]
  rw [bools_map]
  simp [List.all_map, Function.comp_def]
end KP
namespace KP
open PySem PySem.Spec PyProof.Rows L2
theorem lcOk_of {wr : Nat → Bool} {own : List Nat} {g : GF} {items : List PV} {n : Nat} (h1 : wr n = true) (h2 : items.length ≤ lineN) (h3 : subN g.ws own = true) : lcOk wr own g items [] n = true := by
  unfold lcOk
  rw [show lockW wr [] n = wr n from rfl, h1, h3, Nat.ble_eq_true_of_le h2]
  rfl
theorem lcOk_loc {wr : Nat → Bool} {own : List Nat} {g : GF} {items : List PV} {m n : Nat} (hm : m < n) (h1 : wr n = true) (h2 : items.length ≤ lineN) (h3 : subN g.ws own = true) : lcOk wr own g items [m] n = true := by
  unfold lcOk
  have e : lockW wr [m] n = true := by
    show (wr n && !(natMem n [m])) = true
    rw [h1]
    have : natMem n [m] = false := by
      cases q : natMem n [m] with
      | false => rfl
      | true => have := natMem_iff.mp q; simp at this; omega
    rw [this]; rfl
  rw [e, h3, Nat.ble_eq_true_of_le h2]
  simp [hm]
theorem fresh_ge {h : PH} {n : Nat} (hn : h.length ≤ n) : freshW h n = true := Nat.ble_eq_true_of_le hn
theorem gLen_str {s : Str} {h : PH} (e : s.length ≤ lineN) : gLen [.str s] h = some (.int s.length, h) := by unfold gLen; simp only; rw [if_pos e]
theorem fin_ret {p : PV} {env : Env} {h : PH} : finish (some (.ret p, env, h)) = some (p, h) := rfl
theorem fin_nx {env : Env} {h : PH} : finish (some (.nx, env, h)) = some (.non, h) := rfl
theorem trunc_bl {h h' : PH} {b : Bool} : trunc h (some (.bl b, h')) = some (.bl b, h) := rfl
theorem trunc_pl {h h' : PH} {p : PV} (hp : plain p = true) : trunc h (some (p, h')) = some (p, h) := by
  cases p <;> first | (simp [plain] at hp; done) | (simp only [trunc]; rw [if_pos hp])
theorem trunc_lst {h h' : PH} {n : Nat} {xs : List PV} (hn : h.length ≤ n) (e : h'[n]? = some (.lst xs)) (hp : plains xs = true) : trunc h (some (.loc n, h')) = some (.loc h.length, h ++ [.lst xs]) := by
  simp only [trunc]
  rw [if_pos (Nat.ble_eq_true_of_le hn), e]
  simp only
  rw [if_pos hp]
end KP
namespace KP
open PySem PySem.Spec PyProof.Rows L2
theorem in_tup {T : Tab} {x : PV} {ys : List PV} {h : PH} (f1 : flatP x = true) (f2 : flatPs ys = true) : fInT T x (.tup ys) h = some (.bl (memP x ys), h) := by
  have e : fInTB T x (.tup ys) h = (if (flatP x && flatPs ys) = true then some (memP x ys) else none) := rfl
  unfold fInT
  rw [e, f1, f2]
  rfl
theorem notin_tup {T : Tab} {x : PV} {ys : List PV} {h : PH} (f1 : flatP x = true) (f2 : flatPs ys = true) : fNotInT T x (.tup ys) h = some (.bl (!memP x ys), h) := by
  have e : fInTB T x (.tup ys) h = (if (flatP x && flatPs ys) = true then some (memP x ys) else none) := rfl
  unfold fNotInT
  rw [e, f1, f2]
  rfl
theorem eq_int {a b : Int} {h : PH} : fEq (.int a) (.int b) h = some (.bl (decide (a = b)), h) := by
  have e : fEqQ (.int a) (.int b) h = some (decide (a = b)) := by
    show fEqB (.int a) (.int b) h = _
    unfold fEqB
    simp [dr, pok, pdep, eqP]
  unfold fEq
  rw [e]
  rfl
theorem eq_str {a b : Str} {h : PH} : fEq (.str a) (.str b) h = some (.bl (sEq a b), h) := rfl
theorem ne_str {a b : Str} {h : PH} : fNe (.str a) (.str b) h = some (.bl (!sEq a b), h) := rfl
end KP
namespace KP
open PySem PySem.Spec PyProof.Rows L2
section
variable {wr : Nat → Bool} {env : Env} {h h1 h2 : PH} {n m : Nat} {xs ys : List PV} {p x : PV}
theorem l_meth {Ty : String} {g : FM} {fo : EF} {f : AF} {ps : List PV} (e : fo env h = some (x, h1)) (ht : tyP h1 Ty x = true) (e2 : f env h1 = some (ps, h2)) : eMeth Ty g fo f env h = g x ps h2 := by
  unfold eMeth
  rw [e, bnd_some, if_pos ht, e2, bnd_some]
theorem tyP_lst (e : h[n]? = some (.lst xs)) : tyP h "list" (.loc n) = true := by unfold tyP; simp only; rw [e]; rfl
theorem append_at (e : h[n]? = some (.lst xs)) (w : wr n = true) (l : xs.length < lineN) : mAppend wr (.loc n) [p] h = some (.non, h.set n (.lst (xs ++ [p]))) := by
  unfold mAppend
  simp only
  rw [e]
  simp only
  rw [w, decide_eq_true l]
  rfl
theorem extend_tupA (e : h[n]? = some (.lst xs)) (w : wr n = true) (l : xs.length + ys.length ≤ lineN) : mExtend wr (.loc n) [.tup ys] h = some (.non, h.set n (.lst (xs ++ ys))) := by
  unfold mExtend
  simp only
  rw [e]
  simp only
  rw [w, decide_eq_true l]
  rfl
theorem extend_loc (e : h[n]? = some (.lst xs)) (e2 : h[m]? = some (.lst ys)) (w : wr n = true) (l : xs.length + ys.length ≤ lineN) : mExtend wr (.loc n) [.loc m] h = some (.non, h.set n (.lst (xs ++ ys))) := by
  unfold mExtend
  simp only
  rw [e, e2]
  simp only
  rw [w, decide_eq_true l]
  rfl
theorem pop_at (e : h[n]? = some (.lst (xs ++ [p]))) (w : wr n = true) : mPop wr (.loc n) [] h = some (p, h.set n (.lst xs)) := by
  unfold mPop
  simp only
  rw [e]
  simp only
  rw [if_pos w]
  simp
theorem set_self {o : PO} (e : h[n]? = some o) : h.set n o = h := by
  refine List.ext_getElem? fun j => ?_
  by_cases q : n = j
  · subst q
    rw [List.getElem?_set_self (List.getElem?_eq_some_iff.mp e).1, e]
  · rw [List.getElem?_set_ne q]
end
/-- a while whose fuel is enough -/
theorem while_mono {c : EF} {sb : SF} : ∀ {n m : Nat} {env : Env} {h : PH} {r : Fl × Env × PH}, whileF c sb n env h = some r → n ≤ m → whileF c sb m env h = some r
  | 0, _, _, _, _, e, _ => by cases e
  | n + 1, 0, _, _, _, _, h => absurd h (by omega)
  | n + 1, m + 1, env, h, r, e, hl => by
    unfold whileF at e ⊢
    cases k : c env h with
    | none => rw [k] at e; cases e
    | some z =>
      obtain ⟨x, h1⟩ := z
      rw [k] at e
      rw [bnd_some] at e ⊢
      cases x with
      | bl b =>
        cases b with
        | true =>
          simp only at e ⊢
          cases k2 : sb env h1 with
          | none => rw [k2] at e; cases e
          | some y =>
            obtain ⟨fl, e2, h2⟩ := y
            rw [k2] at e
            cases fl with
            | nx => exact while_mono e (by omega)
            | cont => exact while_mono e (by omega)
            | brk => exact e
            | ret p => exact e
        | false => exact e
      | _ => cases e
end KP
namespace KP
open PySem PySem.Spec PyProof.Rows L2
theorem loop_nx {step : PV → SF} {x : PV} {xs : List PV} {env e1 : Env} {h h1 : PH} (e : step x env h = some (.nx, e1, h1)) : loopF step (x :: xs) env h = loopF step xs e1 h1 := by
  show (match step x env h with
    | some (.nx, env2, h2) => loopF step xs env2 h2
    | some (.cont, env2, h2) => loopF step xs env2 h2
    | some (.brk, env2, h2) => some (.nx, env2, h2)
    | some (.ret p, env2, h2) => some (.ret p, env2, h2)
    | none => none) = _
  rw [e]
theorem while_nx {c : EF} {sb : SF} {n : Nat} {env e1 : Env} {h h1 h2 : PH} (e : c env h = some (.bl true, h1)) (e2 : sb env h1 = some (.nx, e1, h2)) : whileF c sb (n + 1) env h = whileF c sb n e1 h2 := by
  show bnd (c env h) (fun x h1 => match x with
    | .bl true => (match sb env h1 with
      | some (.nx, env2, h2) => whileF c sb n env2 h2
      | some (.cont, env2, h2) => whileF c sb n env2 h2
      | some (.brk, env2, h2) => some (.nx, env2, h2)
      | some (.ret p, env2, h2) => some (.ret p, env2, h2)
      | none => none)
    | .bl false => some (.nx, env, h1)
    | _ => none) = _
  rw [e, bnd_some]
  simp only
  rw [e2]
theorem while_end {c : EF} {sb : SF} {n : Nat} {env : Env} {h h1 : PH} (e : c env h = some (.bl false, h1)) : whileF c sb (n + 1) env h = some (.nx, env, h1) := by
  unfold whileF
  rw [e, bnd_some]
end KP
set_option Elab.async false
set_option linter.all false
set_option maxRecDepth 100000
/-! L b: comprehensions whose turns read the heap; loops by an invariant. -/
namespace KP
open PySem PySem.Spec PyProof.Rows L2
/-- what stood before stands -/
def Ext (h1 h : PH) : Prop := ∀ (j : Nat) (o : PO), h1[j]? = some o → h[j]? = some o
theorem Ext.refl {h : PH} : Ext h h := fun _ _ e => e
theorem Ext.trans {a b c : PH} (x : Ext a b) (y : Ext b c) : Ext a c := fun j o e => y j o (x j o e)
theorem Ext.app {a : PH} (g : PH) : Ext a (a ++ g) := fun j o e => by rw [List.getElem?_append_left (List.getElem?_eq_some_iff.mp e).1]; exact e
theorem Ext.set {a b : PH} (x : Ext a b) {n : Nat} {o : PO} (hn : a.length ≤ n) : Ext a (b.set n o) := fun j p e => by
  have := (List.getElem?_eq_some_iff.mp e).1
  rw [List.getElem?_set_ne (by omega)]; exact x j p e
theorem Ext.len {a b : PH} (x : Ext a b) : a.length ≤ b.length := by
  cases q : a.length with
  | zero => omega
  | succ l =>
    have h : a[l]? = some (a[l]'(by omega)) := List.getElem?_eq_getElem (by omega)
    have := (List.getElem?_eq_some_iff.mp (x l _ h)).1
    omega
theorem lcF_ext {h1 : PH} {n : Nat} {g : GF} {fe : EF} {env0 : Env} {Y : PV → PV} (hn1 : h1.length ≤ n) : ∀ (items acc : List PV) (h : PH),
    (∀ x ∈ items, ∃ env1, g.f x env0 = some env1 ∧ ∀ h, Ext h1 h → fe env1 h = some (Y x, h)) → Ext h1 h → n < h.length → h[n]? = some (.lst acc) →
    lcF n g tfY fe env0 items acc h = some (h.set n (.lst (acc ++ items.map Y)))
  | [], acc, h, _, _, hn, hh => by
    rw [lcF, List.map_nil, List.append_nil, set_self hh]
  | x :: xs, acc, h, hx, he, hn, hh => by
    obtain ⟨env1, e1, e2⟩ := hx x (List.mem_cons_self ..)
    rw [lcF, e1]
    show bnd (fe env1 h) (fun y h2 => lcF n g tfY fe env0 xs (acc ++ [y]) (h2.set n (.lst (acc ++ [y])))) = _
    rw [e2 h he]
    show lcF n g tfY fe env0 xs (acc ++ [Y x]) (h.set n (.lst (acc ++ [Y x]))) = _
    rw [lcF_ext hn1 xs (acc ++ [Y x]) _ (fun z hz => hx z (List.mem_cons_of_mem _ hz)) (he.set hn1) (by rw [List.length_set]; exact hn) (by rw [List.getElem?_set_self hn]), List.set_set, List.map_cons, List.append_assoc]
    rfl
theorem eLc_ext {wr : Nat → Bool} {own : List Nat} {fi : IF} {g : GF} {fe : (Nat → Bool) → EF} {env : Env} {h h1 : PH} {items : List PV} {lk : List Nat} (Y : PV → PV) (e : fi env h = some ((items, lk), h1)) (hok : lcOk wr own g items lk h1.length = true)
    (hx : ∀ x ∈ items, ∃ env1, g.f x (wipeE env own) = some env1 ∧ ∀ wr h, Ext h1 h → fe wr env1 h = some (Y x, h)) : eLc wr own fi g (fun _ => tfY) fe env h = some (.loc h1.length, h1 ++ [.lst (items.map Y)]) := by
  unfold eLc
  rw [e]
  show (if _ then _ else _) = _
  rw [if_pos hok]
  rw [lcF_ext (h1 := h1) (Y := Y) (Nat.le_refl _) items [] _ (fun x hx' => by obtain ⟨e1, a, b⟩ := hx x hx'; exact ⟨e1, a, b _⟩) (Ext.app _) (by simp) (by simp)]
  simp
/-- over a dict -/
theorem eLcD_ext {wr : Nat → Bool} {own : List Nat} {m : Key × PV → PV} {fa : (Nat → Bool) → EF} {g : GF} {fe : (Nat → Bool) → EF} {env : Env} {h h1 : PH} {kvs : List (Key × PV)} {n : Nat} (Y : PV → PV) (e : ∀ wr, fa wr env h = some (.loc n, h1)) (hd : h[n]? = some (.dic kvs)) (hd1 : h1[n]? = some (.dic kvs))
    (hw : wr h1.length = true) (hl : kvs.length ≤ lineN) (hg : subN g.ws own = true)
    (hx : ∀ x ∈ kvs.map m, ∃ env1, g.f x (wipeE env own) = some env1 ∧ ∀ wr h, Ext h1 h → fe wr env1 h = some (Y x, h)) : eLcD wr own m fa g (fun _ => tfY) fe env h = some (.loc h1.length, h1 ++ [.lst ((kvs.map m).map Y)]) := by
  have hlt : n < h1.length := (List.getElem?_eq_some_iff.mp hd1).1
  have ei : ∀ wr, iD m (fa wr) env h = some ((kvs.map m, [n]), h1) := fun wr => by
    unfold iD
    rw [e]
    simp only
    rw [hd]
    simp only
    rw [hd1]
  unfold eLcD
  rw [e]
  simp only
  rw [ei, bnd_some]
  simp only
  have hlk : lockW wr [n] h1.length = true := by
    show (wr h1.length && !(natMem h1.length [n])) = true
    rw [hw]
    have : natMem h1.length [n] = false := by
      cases q : natMem h1.length [n] with
      | false => rfl
      | true => have := natMem_iff.mp q; simp at this; omega
    rw [this]; rfl
  rw [if_pos (by rw [Bool.and_eq_true]; exact ⟨natsEq_iff.mpr rfl, lcOk_of hlk (by rw [List.length_map]; exact hl) hg⟩)]
  rw [lcF_ext (h1 := h1) (Y := Y) (Nat.le_refl _) (kvs.map m) [] _ (fun x hx' => by obtain ⟨e1, a, b⟩ := hx x hx'; exact ⟨e1, a, b _⟩) (Ext.app _) (by simp) (by simp)]
  simp
theorem sForD_at {wr : Nat → Bool} {m : Key × PV → PV} {fa : (Nat → Bool) → EF} {g : GF} {sb : (Nat → Bool) → SF} {env : Env} {h : PH} {kvs : List (Key × PV)} {n : Nat} (e : ∀ wr, fa wr env h = some (.loc n, h)) (hd : h[n]? = some (.dic kvs)) :
    sForD wr m fa g sb env h = loopF (turnF g (sb (lockW wr [n]))) (kvs.map m) env h := by
  unfold sForD
  rw [e]
  simp only
  have ei : ∀ wr, iD m (fa wr) env h = some ((kvs.map m, [n]), h) := fun wr => by
    unfold iD
    rw [e]
    simp only
    rw [hd]
  rw [ei, bnd_some]
  simp only
  rw [if_pos (natsEq_iff.mpr rfl)]
theorem mul_int {i j : Int} {h : PH} (e : mulOk i j = true) : fMul (.int i) (.int j) h = some (.int (i * j), h) := by
  unfold fMul; simp only; rw [if_pos e]
theorem mod_int {i j : Int} {h : PH} (e : j ≠ 0) : fMod (.int i) (.int j) h = some (.int (i.fmod j), h) := by
  unfold fMod; simp only; rw [if_pos (decide_eq_true e)]
theorem div_int {i j : Int} {h : PH} (e : j ≠ 0) (e2 : j.natAbs < 1073741824) : fDiv (.int i) (.int j) h = some (.int (i.fdiv j), h) := by
  unfold fDiv; simp only; rw [if_pos (by rw [decide_eq_true e, decide_eq_true e2]; rfl)]
theorem mulOk_small {i j : Int} (a : -(2 ^ 64) < i) (b : i < 2 ^ 64) : mulOk i j = true := by
  unfold mulOk; rw [decide_eq_true a, decide_eq_true b]; rfl
theorem ix_lst {T : Tab} {c : Nat} {xs : List PV} {h : PH} {i : Int} (e : h[c]? = some (.lst xs)) : fIxT T (.loc c) (.int i) h = (pat xs i).map fun p => (p, h) := by
  show (match h[c]? with
    | some (.lst xs) => (pat xs i).map fun p => (p, h)
    | some (.dic kvs) => (match pkey (.int i) with
      | some k => (getK k kvs).map fun p => (p, h)
      | none => none)
    | _ => none) = _
  rw [e]
theorem pat_in {xs : List PV} {i : Nat} (hi : i < xs.length) : pat xs (i : Int) = xs[i]? := by
  unfold pat pix
  rw [if_pos (by omega), if_pos (by omega)]
  simp
end KP
set_option Elab.async false
set_option linter.all false
set_option maxRecDepth 100000
set_option maxHeartbeats 0
/-! The walk, printed by gen.py. -/
namespace KW
open PySem PySem.Spec PyProof.Rows L2 KP
def top (i : Nat) : Stmt := PySem.Challenge.pw_callways_k50_rest_forms_by_hand.main.body.getD i (.Pass ⟨0, 0, 0, 0⟩)
def clsBody : Stmt → List Stmt
  | .ClassDef (body := b) .. => b
  | _ => []
def clsAt (c : Stmt) (j : Nat) : Stmt := (clsBody c).getD j (.Pass ⟨0, 0, 0, 0⟩)
def conL : List (Str × PV) := [(("ATOMS" : Str), ((.tup [(.str "num"), (.str "name"), (.str "fn")]) : PV)), (("DEEDS" : Str), ((.tup [(.str "add"), (.str "sub"), (.str "mul"), (.str "div"), (.str "less"), (.str "same")]) : PV)), (("FIGURES" : Str), ((.str "0123456789") : PV)), (("FORMS" : Str), (PV.glo "FORMS" : PV)), (("LETTERS" : Str), ((.str "abcdefghijklmnopqrstuvwxyz") : PV)), (("MOST_DEEP" : Str), ((.int 60) : PV)), (("MOST_FUNCTIONS" : Str), ((.int 20) : PV)), (("MOST_NUMBER" : Str), ((.int 1000000000) : PV)), (("MOST_PARAMS" : Str), ((.int 6) : PV)), (("MOST_PARTS" : Str), ((.int 300) : PV)), (("MOST_SIGNS" : Str), ((.int 8) : PV)), (("SAME" : Str), ((.tup [(.str "same")]) : PV))]
def kdL : List (Str × List (Str × PV)) := [("FORMS", [(("num" : Str), ((.str "n") : PV)), (("name" : Str), ((.str "x") : PV)), (("fn" : Str), ((.str "x") : PV)), (("do" : Str), ((.str "dee") : PV)), (("say" : Str), ((.str "e") : PV)), (("let" : Str), ((.str "xee") : PV)), (("if" : Str), ((.str "eee") : PV)), (("call" : Str), ((.str "xs") : PV)), (("ask" : Str), ((.str "es") : PV)), (("raise" : Str), ((.str "x") : PV)), (("try" : Str), ((.str "exe") : PV))])]
def freeL : List Str := ["all", "bool", "enumerate", "int", "isinstance", "len", "list", "min", "range", "repr", "set", "str", "tuple", "zip"]
def fnL : List (FKey × FnI) := [
  ((("law", none) : FKey), (⟨["_law_script"], [], 17, false, []⟩ : FnI)),
  ((("_law_cell", none) : FKey), (⟨["_law_cells", "_law_spot"], [], 8, false, []⟩ : FnI)),
  ((("_law_pairs", none) : FKey), (⟨["_law_f", "_law_x", "_law_w", "_law_n"], [], 16, true, []⟩ : FnI)),
  ((("_law_number", none) : FKey), (⟨["_law_cells", "_law_spot"], [], 3, false, []⟩ : FnI)),
  ((("Program", some "__init__") : FKey), (⟨["self"], [], 1, false, []⟩ : FnI)),
  ((("Program", some "put") : FKey), (⟨["self", "name", "params", "body"], [], 4, false, []⟩ : FnI)),
  ((("Program", some "__str__") : FKey), (⟨["self"], [], 4, true, []⟩ : FnI)),
  ((("rested", none) : FKey), (⟨["program"], [], 2, true, [0]⟩ : FnI)),
  ((("need_function", none) : FKey), (⟨["name", "params", "body"], [], 3, true, []⟩ : FnI)),
  ((("function_text", none) : FKey), (⟨["name", "params", "body"], [], 3, true, []⟩ : FnI)),
  ((("need_normal", none) : FKey), (⟨["thing"], [], 2, true, []⟩ : FnI)),
  ((("Program", some "names") : FKey), (⟨["self"], [], 1, true, []⟩ : FnI)),
  ((("body_in_rests", none) : FKey), (⟨["here"], [], 3, true, []⟩ : FnI)),
  ((("Program", some "body_of") : FKey), (⟨["self", "name"], [], 2, true, []⟩ : FnI)),
  ((("Program", some "params_of") : FKey), (⟨["self", "name"], [], 2, true, []⟩ : FnI)),
  ((("is_name", none) : FKey), (⟨["thing"], [], 2, true, []⟩ : FnI)),
  ((("is_params", none) : FKey), (⟨["thing"], [], 2, true, []⟩ : FnI)),
  ((("is_expression", none) : FKey), (⟨["thing"], [], 6, true, []⟩ : FnI)),
  ((("expression_text", none) : FKey), (⟨["body"], [], 5, true, []⟩ : FnI)),
  ((("need_whole", none) : FKey), (⟨["thing"], [], 5, true, []⟩ : FnI)),
  ((("is_normal_body", none) : FKey), (⟨["body"], [], 6, true, []⟩ : FnI)),
  ((("waits", none) : FKey), (⟨["body"], [], 1, true, []⟩ : FnI)),
  ((("with_rest", none) : FKey), (⟨["value", "rest"], [], 2, true, []⟩ : FnI)),
  ((("Program", some "function_of") : FKey), (⟨["self", "name"], [], 3, true, []⟩ : FnI)),
  ((("is_formed", none) : FKey), (⟨["thing"], [], 4, true, []⟩ : FnI)),
  ((("parts_of", none) : FKey), (⟨["body"], [], 4, true, []⟩ : FnI)),
  ((("need_program", none) : FKey), (⟨["thing"], [], 1, true, []⟩ : FnI)),
  ((("Program", some "first_wrong") : FKey), (⟨["self"], [], 5, true, []⟩ : FnI)),
  ((("must_be_atoms", none) : FKey), (⟨["body"], [], 1, true, []⟩ : FnI)),
  ((("is_plain", none) : FKey), (⟨["sort", "thing"], [], 2, true, []⟩ : FnI)),
  ((("Program", some "wrong_in") : FKey), (⟨["self", "body", "bound"], [], 14, true, []⟩ : FnI)),
  ((("is_number", none) : FKey), (⟨["thing"], [], 1, true, []⟩ : FnI)),
  ((("Program", some "wrong_here") : FKey), (⟨["self", "body", "bound"], [], 4, true, []⟩ : FnI)),
  ((("bound_within", none) : FKey), (⟨["body", "bound"], [], 3, true, []⟩ : FnI)),
  ((("is_whole_number", none) : FKey), (⟨["thing", "least", "most"], [], 3, true, []⟩ : FnI))]
def fldL : List (Str × Str) := [("Program", "functions")]
def methL : List (Str × Str) := [("Program", "__str__"), ("Program", "body_of"), ("Program", "first_wrong"), ("Program", "function_of"), ("Program", "names"), ("Program", "params_of"), ("Program", "put"), ("Program", "wrong_here"), ("Program", "wrong_in")]
def mksL : List Str := ["Program"]
def isiL : List Str := ["Program"]
def tl : TL := ⟨conL, kdL, freeL, fnL, fldL, methL, mksL, isiL⟩
def tab : Tab := tl.tab

/-! law -/
def n_law : List Str := ["_law_script", "_law_cells", "_law_spot", "_law_turn", "_law_f", "_law_x", "_law_w", "_law_pairs_here", "_law_own", "_law_due_body", "_law_made", "_law_shown", "_law_again", "_law_rows", "_law_k", "_law_pair", "_law_who"]
def b_law (call : CallF) (wr : Nat → Bool) : SF :=
    (sSeq (sPar2 1 2 (aCons (eCall gList (aCons (eVar 0) aNil)) (aCons (eLst (aCons (eNeg (eCst (.int 1))) aNil)) aNil)))
    (sSeq (sFor wr (iRange1 (eOp fAdd (eCst (.int 1)) (eCall gMin (aCons (eCst (.int 10)) (aCons (eCall gLen (aCons (eVar 1) aNil)) aNil))))) (gNm 3) (fun wr => (sSeq (sAsg (eOp (fIxT tab) (eLst (aCons (eCst (.str "f")) (aCons (eCst (.str "same")) (aCons (eCst (.str "then")) (aCons (eCst (.str "call")) (aCons (eCst (.str "zz9")) (aCons (eCst (.str "abcdefgh")) aNil))))))) (eOp fMod (eFn tab call wr "_law_cell" (aCons (eVar 1) (aCons (eVar 2) aNil))) (eCst (.int 6)))) (gNm 4))
      (sSeq (sAsg (eOp (fIxT tab) (eLst (aCons (eCst (.str "x")) (aCons (eCst (.str "same")) (aCons (eCst (.str "f")) (aCons (eCst (.str "t0")) (aCons (eCst (.str "catch")) (aCons (eCst (.str "a1234567")) aNil))))))) (eOp fMod (eFn tab call wr "_law_cell" (aCons (eVar 1) (aCons (eVar 2) aNil))) (eCst (.int 6)))) (gNm 5))
      (sSeq (sAsg (eOp (fIxT tab) (eLst (aCons (eCst (.str "w")) (aCons (eCst (.str "kind")) (aCons (eCst (.str "nought")) (aCons (eCst (.str "x")) (aCons (eCst (.str "same")) (aCons (eCst (.str "great")) aNil))))))) (eOp fMod (eFn tab call wr "_law_cell" (aCons (eVar 1) (aCons (eVar 2) aNil))) (eCst (.int 6)))) (gNm 6))
      (sSeq (sAsg (eFn tab call wr "_law_pairs" (aCons (eVar 4) (aCons (eVar 5) (aCons (eVar 6) (aCons (eFn tab call wr "_law_number" (aCons (eVar 1) (aCons (eVar 2) aNil))) aNil))))) (gNm 7))
      (sSeq (sFor wr (iOf (eVar 7)) (gTp 2 (gsCons (gNm 8) (gsCons (gNm 9) gsNil))) (fun wr => (sSeq (sAsg (eMk tab call wr "Program" aNil) (gNm 10))
        (sSeq (sDrop (eOwn tab call wr "put" (eVar 10) (aCons (eVar 4) (aCons (eTup (aCons (eVar 5) aNil)) (aCons (eVar 8) aNil)))))
        (sSeq (sAsg (eCall (gStrO tab call wr) (aCons (eVar 10) aNil)) (gNm 11))
        (sSeq (sFor wr (iRange1 (eCst (.int 2))) (gNm 12) (fun wr => (sSeq (sIf (eOr (eOp fNe (eCall gRepr (aCons (eFn tab call wr "rested" (aCons (eVar 10) aNil)) aNil)) (eCall gRepr (aCons (eTup (aCons (eTup (aCons (eVar 4) (aCons (eTup (aCons (eVar 5) aNil)) (aCons (eVar 9) aNil)))) aNil)) aNil))) (eOp fNe (eCall (gStrO tab call wr) (aCons (eVar 10) aNil)) (eVar 11))) (sSeq (sRet (eCst (.bl false)))
            sNext) sNext)
          sNext)))
        sNext))))))
      (sSeq (sPar2 10 13 (aCons (eMk tab call wr "Program" aNil) (aCons (eLst aNil) aNil)))
      (sSeq (sFor wr (iEnumF (eSl fSl (eVar 7) (pSome (eOp fMod (eFn tab call wr "_law_cell" (aCons (eVar 1) (aCons (eVar 2) aNil))) (eCst (.int 8)))) pNone)) (gTp 2 (gsCons (gNm 14) (gsCons (gNm 15) gsNil))) (fun wr => (sSeq (sAsg (eIte (eOp fEq (eVar 14) (eCst (.int 3))) (eVar 4) (eOp fAdd (eCst (.str "q")) (eOp (fIxT tab) (eCst (.str "abcdefghijklmnopqrst")) (eVar 14)))) (gNm 16))
        (sSeq (sDrop (eOwn tab call wr "put" (eVar 10) (aCons (eVar 16) (aCons (eTup (aCons (eVar 5) aNil)) (aCons (eOp (fIxT tab) (eVar 15) (eCst (.int 0))) aNil)))))
        (sSeq (sDrop (eMeth "list" (mAppend wr) (eVar 13) (aCons (eTup (aCons (eVar 16) (aCons (eTup (aCons (eVar 5) aNil)) (aCons (eOp (fIxT tab) (eVar 15) (eCst (.int 1))) aNil)))) aNil)))
        sNext)))))
      (sSeq (sIf (eOp fNe (eCall gRepr (aCons (eFnK tab call wr "rested" 0 ["program"] aNil (aCons (eVar 10) aNil)) aNil)) (eCall gRepr (aCons (eCall gTuple (aCons (eVar 13) aNil)) aNil))) (sSeq (sRet (eCst (.bl false)))
        sNext) sNext)
      sNext))))))))))
    (sSeq (sRet (eOp fEq (eFn tab call wr "rested" (aCons (eMk tab call wr "Program" aNil) aNil)) (eTup aNil)))
    sNext)))
theorem p_law {X : Cx} {k : Nat} {call : CallF} (B : BX X n_law (defScope (top 51)) allF tab k call) (wr : Nat → Bool) : PSs X (defBody (top 51)) (rdS X.K wr (b_law call wr)) :=
    (ss_cons (z_par2 B (xa_cons (x_typ B (s_list B.calm) (xa_cons (x_var B) ra_nil)) (xa_cons (sn_lst (xa_cons (sn_neg x_int) ra_nil)) ra_nil)))
    (ss_cons (z_for B (i_range1 B (x_add B x_int (x_fun B (s_min B.calm) (xa_cons x_int (xa_cons (x_fun B s_len (xa_cons (x_var B) ra_nil)) ra_nil))))) (y_nm B) (fun wr => (ss_cons (z_set B (x_ix B (sn_lst (xa_cons x_str (xa_cons x_str (xa_cons x_str (xa_cons x_str (xa_cons x_str (xa_cons x_str ra_nil))))))) (x_mod B (x_call B (xa_cons (x_var B) (xa_cons (x_var B) ra_nil))) x_int)))
      (ss_cons (z_set B (x_ix B (sn_lst (xa_cons x_str (xa_cons x_str (xa_cons x_str (xa_cons x_str (xa_cons x_str (xa_cons x_str ra_nil))))))) (x_mod B (x_call B (xa_cons (x_var B) (xa_cons (x_var B) ra_nil))) x_int)))
      (ss_cons (z_set B (x_ix B (sn_lst (xa_cons x_str (xa_cons x_str (xa_cons x_str (xa_cons x_str (xa_cons x_str (xa_cons x_str ra_nil))))))) (x_mod B (x_call B (xa_cons (x_var B) (xa_cons (x_var B) ra_nil))) x_int)))
      (ss_cons (z_set B (x_call B (xa_cons (x_var B) (xa_cons (x_var B) (xa_cons (x_var B) (xa_cons (x_call B (xa_cons (x_var B) (xa_cons (x_var B) ra_nil))) ra_nil))))))
      (ss_cons (z_for B (si_of (x_var B)) (y_tp B (ys_cons (y_nm B) (ys_cons (y_nm B) sgs_nil))) (fun wr => (ss_cons (z_set B (x_mk0 B))
        (ss_cons (z_expr (x_own B (x_var B) (xa_cons (x_var B) (xa_cons (sn_tup (xa_cons (x_var B) ra_nil)) (xa_cons (x_var B) ra_nil)))))
        (ss_cons (z_set B (x_typ B (s_strO B.tab B.calls B.gu B.room) (xa_cons (x_var B) ra_nil)))
        (ss_cons (z_for B (i_range1 B x_int) (y_nm B) (fun wr => (ss_cons (sp_if (sb_or (x_cmp (o_ne B) (x_fun B (s_repr B.gu B.room.room0) (xa_cons (x_call B (xa_cons (x_var B) ra_nil)) ra_nil)) (x_fun B (s_repr B.gu B.room.room0) (xa_cons (sn_tup (xa_cons (sn_tup (xa_cons (x_var B) (xa_cons (sn_tup (xa_cons (x_var B) ra_nil)) (xa_cons (x_var B) ra_nil)))) ra_nil)) ra_nil))) (sb_or1 (x_cmp (o_ne B) (x_typ B (s_strO B.tab B.calls B.gu B.room) (xa_cons (x_var B) ra_nil)) (x_var B)))).snd (ss_cons (sp_ret x_bl)
            ss_nil) ss_nil)
          ss_nil)))
        ss_nil))))))
      (ss_cons (z_par2 B (xa_cons (x_mk0 B) (xa_cons (sn_lst ra_nil) ra_nil)))
      (ss_cons (z_for B (i_enum B (x_sl B (x_var B) (rp_some (x_mod B (x_call B (xa_cons (x_var B) (xa_cons (x_var B) ra_nil))) x_int)) rp_none)) (y_tp B (ys_cons (y_nm B) (ys_cons (y_nm B) sgs_nil))) (fun wr => (ss_cons (z_set B (sn_ite (x_cmp (o_eq B) (x_var B) x_int) (x_var B) (x_add B x_str (x_ix B x_str (x_var B)))))
        (ss_cons (z_expr (x_own B (x_var B) (xa_cons (x_var B) (xa_cons (sn_tup (xa_cons (x_var B) ra_nil)) (xa_cons (x_ix B (x_var B) x_int) ra_nil)))))
        (ss_cons (z_expr (x_meth F.plainAttrs_list F.slot_list_append F.type_list_append s_append (x_var B) (xa_cons (sn_tup (xa_cons (x_var B) (xa_cons (sn_tup (xa_cons (x_var B) ra_nil)) (xa_cons (x_ix B (x_var B) x_int) ra_nil)))) ra_nil)))
        ss_nil)))))
      (ss_cons (sp_if (x_cmp (o_ne B) (x_fun B (s_repr B.gu B.room.room0) (xa_cons (x_callK0 B (sk_cons (x_var B) sk_nil)) ra_nil)) (x_fun B (s_repr B.gu B.room.room0) (xa_cons (x_typ B s_tuple (xa_cons (x_var B) ra_nil)) ra_nil))) (ss_cons (sp_ret x_bl)
        ss_nil) ss_nil)
      ss_nil))))))))))
    (ss_cons (sp_ret (x_cmp (o_eq B) (x_call B (xa_cons (x_mk0 B) ra_nil)) (sn_tup ra_nil)))
    ss_nil)))

/-! _law_cell -/
def n__law_cell : List Str := ["_law_cells", "_law_spot", "_law_k", "_law_cell_here", "_law_own", "_law_turn", "_law_factor", "_law_mixed"]
def b__law_cell (call : CallF) (wr : Nat → Bool) : SF :=
    (sSeq (sSubA wr (eVar 1) (eCst (.int 0)) (eOp fAdd (eOp (fIxT tab) (eVar 1) (eCst (.int 0))) (eCst (.int 1))))
    (sSeq (sAsg (eOp (fIxT tab) (eVar 1) (eCst (.int 0))) (gNm 2))
    (sSeq (sAsg (eIte (eOp fNe (eVar 0) (eLst aNil)) (eOp (fIxT tab) (eVar 0) (eOp fMod (eVar 2) (eCall gLen (aCons (eVar 0) aNil)))) (eCst (.int 0))) (gNm 3))
    (sSeq (sIf (eAnd (eOp (cmpI fun i j => decide (j ≤ i)) (eVar 3) (eOp fPow (eCst (.int 10)) (eCst (.int 18)))) (eOp (cmpI fun i j => decide (i < j)) (eOp fDiv (eVar 2) (eCall gLen (aCons (eVar 0) aNil))) (eCst (.int 20)))) (sSeq (sAsg (eVar 3) (gNm 4))
      (sSeq (sFor wr (iRange1 (eOp fDiv (eVar 2) (eCall gLen (aCons (eVar 0) aNil)))) (gNm 5) (fun wr => (sSeq (sAsg (eOp fDiv (eVar 4) (eCst (.int 1018081))) (gNm 4))
        sNext)))
      (sSeq (sIf (eOp (cmpI fun i j => decide (j < i)) (eVar 4) (eCst (.int 0))) (sSeq (sRet (eOp fMod (eVar 4) (eCst (.int 1018081))))
        sNext) sNext)
      sNext))) sNext)
    (sSeq (sAsg (eOp fAdd (eCst (.int 91520834467120936671528473920164857)) (eOp fMul (eCst (.int 2)) (eVar 2))) (gNm 6))
    (sSeq (sAsg (eOp fMul (eOp fAdd (eOp fAdd (eOp fMod (eVar 3) (eOp fPow (eCst (.int 10)) (eCst (.int 60)))) (eCst (.int 1))) (eOp fMul (eOp fMul (eCst (.int 1009)) (eVar 2)) (eVar 2))) (eVar 6)) (gNm 7))
    (sSeq (sRet (eOp fDiv (eOp fMod (eVar 7) (eCst (.int 170141183460469231731687303715884105727))) (eCst (.int 7))))
    sNext)))))))
theorem p__law_cell {X : Cx} {k : Nat} {call : CallF} (B : BX X n__law_cell (defScope (top 48)) allF tab k call) (wr : Nat → Bool) : PSs X (defBody (top 48)) (rdS X.K wr (b__law_cell call wr)) :=
    (ss_cons (z_sub B (x_var B) x_int (x_add B (x_ix B (x_var B) x_int) x_int))
    (ss_cons (z_set B (x_ix B (x_var B) x_int))
    (ss_cons (z_set B (sn_ite (x_cmp (o_ne B) (x_var B) (sn_lst ra_nil)) (x_ix B (x_var B) (x_mod B (x_var B) (x_fun B s_len (xa_cons (x_var B) ra_nil)))) x_int))
    (ss_cons (sp_if (sb_and (x_cmp (o_ge B) (x_var B) (x_pow B x_int x_int)) (sb_and1 (x_cmp (o_lt B) (x_div B (x_var B) (x_fun B s_len (xa_cons (x_var B) ra_nil))) x_int))).snd (ss_cons (z_set B (x_var B))
      (ss_cons (z_for B (i_range1 B (x_div B (x_var B) (x_fun B s_len (xa_cons (x_var B) ra_nil)))) (y_nm B) (fun wr => (ss_cons (z_set B (x_div B (x_var B) x_int))
        ss_nil)))
      (ss_cons (sp_if (x_cmp (o_gt B) (x_var B) x_int) (ss_cons (sp_ret (x_mod B (x_var B) x_int))
        ss_nil) ss_nil)
      ss_nil))) ss_nil)
    (ss_cons (z_set B (x_add B x_int (x_mul B x_int (x_var B))))
    (ss_cons (z_set B (x_mul B (x_add B (x_add B (x_mod B (x_var B) (x_pow B x_int x_int)) x_int) (x_mul B (x_mul B x_int (x_var B)) (x_var B))) (x_var B)))
    (ss_cons (sp_ret (x_div B (x_mod B (x_var B) x_int) x_int))
    ss_nil)))))))

/-! _law_pairs -/
def n__law_pairs : List Str := ["_law_f", "_law_x", "_law_w", "_law_n", "_law_a", "_law_v", "_law_call", "_law_add", "_law_say", "_law_ask", "_law_back", "_law_same", "_law_gone", "_law_then", "_law_found", "_law_inner"]
def b__law_pairs (call : CallF) (wr : Nat → Bool) : SF :=
    (sSeq (sPar3 4 5 6 (aCons (eTup (aCons (eCst (.str "num")) (aCons (eVar 3) aNil))) (aCons (eTup (aCons (eCst (.str "name")) (aCons (eVar 1) aNil))) (aCons (eTup (aCons (eCst (.str "call")) (aCons (eVar 0) (aCons (eTup (aCons (eTup (aCons (eCst (.str "name")) (aCons (eVar 1) aNil))) aNil)) aNil)))) aNil))))
    (sSeq (sPar3 7 8 9 (aCons (eTup (aCons (eCst (.str "do")) (aCons (eCst (.str "add")) (aCons (eVar 5) (aCons (eVar 4) aNil))))) (aCons (eTup (aCons (eCst (.str "say")) (aCons (eVar 5) aNil))) (aCons (eTup (aCons (eCst (.str "ask")) (aCons (eVar 5) (aCons (eTup (aCons (eVar 4) (aCons (eTup (aCons (eCst (.str "fn")) (aCons (eVar 0) aNil))) aNil))) aNil)))) aNil))))
    (sSeq (sPar3 10 11 12 (aCons (eTup (aCons (eCst (.str "pass")) (aCons (eVar 5) aNil))) (aCons (eTup (aCons (eCst (.str "same")) aNil)) (aCons (eTup (aCons (eCst (.str "raise")) (aCons (eVar 2) aNil))) aNil))))
    (sSeq (sAsg (eTup (aCons (eCst (.str "then")) (aCons (eVar 1) (aCons (eVar 10) aNil)))) (gNm 13))
    (sSeq (sAsg (eLst (aCons (eTup (aCons (eVar 4) (aCons (eTup (aCons (eCst (.str "pass")) (aCons (eVar 4) aNil))) aNil))) (aCons (eTup (aCons (eVar 5) (aCons (eVar 10) aNil))) (aCons (eTup (aCons (eTup (aCons (eCst (.str "fn")) (aCons (eVar 0) aNil))) (aCons (eTup (aCons (eCst (.str "pass")) (aCons (eTup (aCons (eCst (.str "fn")) (aCons (eVar 0) aNil))) aNil))) aNil))) (aCons (eTup (aCons (eVar 12) (aCons (eVar 12) aNil))) aNil))))) (gNm 14))
    (sSeq (sAsg (eOp fAdd (eVar 14) (eLst (aCons (eTup (aCons (eVar 6) (aCons (eOp fAdd (eVar 6) (eTup (aCons (eVar 11) aNil))) aNil))) (aCons (eTup (aCons (eVar 9) (aCons (eOp fAdd (eVar 9) (eTup (aCons (eVar 11) aNil))) aNil))) (aCons (eTup (aCons (eTup (aCons (eCst (.str "let")) (aCons (eVar 1) (aCons (eVar 4) (aCons (eVar 5) aNil))))) (aCons (eTup (aCons (eCst (.str "set")) (aCons (eVar 1) (aCons (eVar 4) (aCons (eVar 10) aNil))))) aNil))) aNil))))) (gNm 14))
    (sSeq (sDrop (eMeth "list" (mAppend wr) (eVar 14) (aCons (eTup (aCons (eTup (aCons (eCst (.str "let")) (aCons (eVar 1) (aCons (eVar 7) (aCons (eVar 5) aNil))))) (aCons (eTup (aCons (eCst (.str "set")) (aCons (eVar 1) (aCons (eVar 7) (aCons (eVar 10) aNil))))) aNil))) aNil)))
    (sSeq (sDrop (eMeth "list" (mAppend wr) (eVar 14) (aCons (eTup (aCons (eTup (aCons (eCst (.str "let")) (aCons (eVar 1) (aCons (eVar 8) (aCons (eVar 6) aNil))))) (aCons (eTup (aCons (eCst (.str "set")) (aCons (eVar 1) (aCons (eVar 8) (aCons (eOp fAdd (eVar 6) (eTup (aCons (eVar 11) aNil))) aNil))))) aNil))) aNil)))
    (sSeq (sAsg (eOp fAdd (eVar 14) (eLst (aCons (eTup (aCons (eTup (aCons (eCst (.str "let")) (aCons (eVar 1) (aCons (eVar 6) (aCons (eVar 5) aNil))))) (aCons (eOp fAdd (eVar 6) (eTup (aCons (eVar 13) aNil))) aNil))) (aCons (eTup (aCons (eTup (aCons (eCst (.str "let")) (aCons (eVar 1) (aCons (eVar 9) (aCons (eVar 5) aNil))))) (aCons (eOp fAdd (eVar 9) (eTup (aCons (eVar 13) aNil))) aNil))) aNil)))) (gNm 14))
    (sSeq (sDrop (eMeth "list" (mAppend wr) (eVar 14) (aCons (eTup (aCons (eTup (aCons (eCst (.str "if")) (aCons (eVar 5) (aCons (eVar 6) (aCons (eVar 12) aNil))))) (aCons (eTup (aCons (eCst (.str "if")) (aCons (eVar 5) (aCons (eOp fAdd (eVar 6) (eTup (aCons (eVar 11) aNil))) (aCons (eVar 12) aNil))))) aNil))) aNil)))
    (sSeq (sDrop (eMeth "list" (mAppend wr) (eVar 14) (aCons (eTup (aCons (eTup (aCons (eCst (.str "try")) (aCons (eVar 6) (aCons (eVar 2) (aCons (eVar 5) aNil))))) (aCons (eOp fAdd (eVar 6) (eTup (aCons (eTup (aCons (eCst (.str "catch")) (aCons (eVar 2) (aCons (eVar 10) aNil)))) aNil))) aNil))) aNil)))
    (sSeq (sDrop (eMeth "list" (mAppend wr) (eVar 14) (aCons (eTup (aCons (eTup (aCons (eCst (.str "try")) (aCons (eVar 5) (aCons (eVar 2) (aCons (eVar 9) aNil))))) (aCons (eTup (aCons (eCst (.str "with")) (aCons (eTup (aCons (eCst (.str "catch")) (aCons (eVar 2) (aCons (eOp fAdd (eVar 9) (eTup (aCons (eVar 11) aNil))) aNil)))) (aCons (eVar 10) aNil)))) aNil))) aNil)))
    (sSeq (sDrop (eMeth "list" (mAppend wr) (eVar 14) (aCons (eTup (aCons (eTup (aCons (eCst (.str "let")) (aCons (eVar 1) (aCons (eVar 12) (aCons (eVar 5) aNil))))) (aCons (eTup (aCons (eCst (.str "with")) (aCons (eVar 13) (aCons (eVar 12) aNil)))) aNil))) aNil)))
    (sSeq (sDrop (eMeth "list" (mAppend wr) (eVar 14) (aCons (eTup (aCons (eTup (aCons (eCst (.str "let")) (aCons (eVar 1) (aCons (eTup (aCons (eCst (.str "if")) (aCons (eVar 5) (aCons (eVar 4) (aCons (eVar 6) aNil))))) (aCons (eVar 5) aNil))))) (aCons (eTup (aCons (eCst (.str "with")) (aCons (eVar 13) (aCons (eTup (aCons (eCst (.str "if")) (aCons (eVar 5) (aCons (eTup (aCons (eCst (.str "pass")) (aCons (eVar 4) aNil))) (aCons (eOp fAdd (eVar 6) (eTup (aCons (eVar 11) aNil))) aNil))))) aNil)))) aNil))) aNil)))
    (sSeq (sDrop (eMeth "list" (mAppend wr) (eVar 14) (aCons (eTup (aCons (eTup (aCons (eCst (.str "let")) (aCons (eVar 1) (aCons (eTup (aCons (eCst (.str "let")) (aCons (eVar 1) (aCons (eVar 6) (aCons (eVar 5) aNil))))) (aCons (eVar 5) aNil))))) (aCons (eTup (aCons (eCst (.str "with")) (aCons (eVar 13) (aCons (eOp fAdd (eVar 6) (eTup (aCons (eVar 13) aNil))) aNil)))) aNil))) aNil)))
    (sSeq (sDrop (eMeth "list" (mAppend wr) (eVar 14) (aCons (eTup (aCons (eTup (aCons (eCst (.str "let")) (aCons (eVar 1) (aCons (eTup (aCons (eCst (.str "let")) (aCons (eVar 1) (aCons (eVar 7) (aCons (eVar 5) aNil))))) (aCons (eVar 5) aNil))))) (aCons (eTup (aCons (eCst (.str "with")) (aCons (eVar 13) (aCons (eTup (aCons (eCst (.str "set")) (aCons (eVar 1) (aCons (eVar 7) (aCons (eVar 10) aNil))))) aNil)))) aNil))) aNil)))
    (sSeq (sAsg (eTup (aCons (eCst (.str "catch")) (aCons (eVar 2) (aCons (eTup (aCons (eCst (.str "pass")) (aCons (eVar 4) aNil))) aNil)))) (gNm 15))
    (sSeq (sDrop (eMeth "list" (mAppend wr) (eVar 14) (aCons (eTup (aCons (eTup (aCons (eCst (.str "try")) (aCons (eTup (aCons (eCst (.str "try")) (aCons (eVar 9) (aCons (eVar 2) (aCons (eVar 4) aNil))))) (aCons (eVar 2) (aCons (eVar 12) aNil))))) (aCons (eTup (aCons (eCst (.str "with")) (aCons (eTup (aCons (eCst (.str "catch")) (aCons (eVar 2) (aCons (eVar 12) aNil)))) (aCons (eOp fAdd (eVar 9) (eTup (aCons (eVar 15) aNil))) aNil)))) aNil))) aNil)))
    (sSeq (sDrop (eMeth "list" (mAppend wr) (eVar 14) (aCons (eTup (aCons (eTup (aCons (eCst (.str "let")) (aCons (eVar 1) (aCons (eTup (aCons (eCst (.str "try")) (aCons (eVar 5) (aCons (eVar 2) (aCons (eVar 4) aNil))))) (aCons (eVar 6) aNil))))) (aCons (eTup (aCons (eCst (.str "with")) (aCons (eTup (aCons (eCst (.str "then")) (aCons (eVar 1) (aCons (eOp fAdd (eVar 6) (eTup (aCons (eVar 11) aNil))) aNil)))) (aCons (eTup (aCons (eCst (.str "with")) (aCons (eVar 15) (aCons (eVar 10) aNil)))) aNil)))) aNil))) aNil)))
    (sSeq (sRet (eVar 14))
    sNext))))))))))))))))))))
theorem p__law_pairs {X : Cx} {k : Nat} {call : CallF} (B : BX X n__law_pairs (defScope (top 50)) allF tab k call) (wr : Nat → Bool) : PSs X (defBody (top 50)) (rdS X.K wr (b__law_pairs call wr)) :=
    (ss_cons (z_par3 B (xa_cons (sn_tup (xa_cons x_str (xa_cons (x_var B) ra_nil))) (xa_cons (sn_tup (xa_cons x_str (xa_cons (x_var B) ra_nil))) (xa_cons (sn_tup (xa_cons x_str (xa_cons (x_var B) (xa_cons (sn_tup (xa_cons (sn_tup (xa_cons x_str (xa_cons (x_var B) ra_nil))) ra_nil)) ra_nil)))) ra_nil))))
    (ss_cons (z_par3 B (xa_cons (sn_tup (xa_cons x_str (xa_cons x_str (xa_cons (x_var B) (xa_cons (x_var B) ra_nil))))) (xa_cons (sn_tup (xa_cons x_str (xa_cons (x_var B) ra_nil))) (xa_cons (sn_tup (xa_cons x_str (xa_cons (x_var B) (xa_cons (sn_tup (xa_cons (x_var B) (xa_cons (sn_tup (xa_cons x_str (xa_cons (x_var B) ra_nil))) ra_nil))) ra_nil)))) ra_nil))))
    (ss_cons (z_par3 B (xa_cons (sn_tup (xa_cons x_str (xa_cons (x_var B) ra_nil))) (xa_cons (sn_tup (xa_cons x_str ra_nil)) (xa_cons (sn_tup (xa_cons x_str (xa_cons (x_var B) ra_nil))) ra_nil))))
    (ss_cons (z_set B (sn_tup (xa_cons x_str (xa_cons (x_var B) (xa_cons (x_var B) ra_nil)))))
    (ss_cons (z_set B (sn_lst (xa_cons (sn_tup (xa_cons (x_var B) (xa_cons (sn_tup (xa_cons x_str (xa_cons (x_var B) ra_nil))) ra_nil))) (xa_cons (sn_tup (xa_cons (x_var B) (xa_cons (x_var B) ra_nil))) (xa_cons (sn_tup (xa_cons (sn_tup (xa_cons x_str (xa_cons (x_var B) ra_nil))) (xa_cons (sn_tup (xa_cons x_str (xa_cons (sn_tup (xa_cons x_str (xa_cons (x_var B) ra_nil))) ra_nil))) ra_nil))) (xa_cons (sn_tup (xa_cons (x_var B) (xa_cons (x_var B) ra_nil))) ra_nil))))))
    (ss_cons (z_set B (x_add B (x_var B) (sn_lst (xa_cons (sn_tup (xa_cons (x_var B) (xa_cons (x_add B (x_var B) (sn_tup (xa_cons (x_var B) ra_nil))) ra_nil))) (xa_cons (sn_tup (xa_cons (x_var B) (xa_cons (x_add B (x_var B) (sn_tup (xa_cons (x_var B) ra_nil))) ra_nil))) (xa_cons (sn_tup (xa_cons (sn_tup (xa_cons x_str (xa_cons (x_var B) (xa_cons (x_var B) (xa_cons (x_var B) ra_nil))))) (xa_cons (sn_tup (xa_cons x_str (xa_cons (x_var B) (xa_cons (x_var B) (xa_cons (x_var B) ra_nil))))) ra_nil))) ra_nil))))))
    (ss_cons (z_expr (x_meth F.plainAttrs_list F.slot_list_append F.type_list_append s_append (x_var B) (xa_cons (sn_tup (xa_cons (sn_tup (xa_cons x_str (xa_cons (x_var B) (xa_cons (x_var B) (xa_cons (x_var B) ra_nil))))) (xa_cons (sn_tup (xa_cons x_str (xa_cons (x_var B) (xa_cons (x_var B) (xa_cons (x_var B) ra_nil))))) ra_nil))) ra_nil)))
    (ss_cons (z_expr (x_meth F.plainAttrs_list F.slot_list_append F.type_list_append s_append (x_var B) (xa_cons (sn_tup (xa_cons (sn_tup (xa_cons x_str (xa_cons (x_var B) (xa_cons (x_var B) (xa_cons (x_var B) ra_nil))))) (xa_cons (sn_tup (xa_cons x_str (xa_cons (x_var B) (xa_cons (x_var B) (xa_cons (x_add B (x_var B) (sn_tup (xa_cons (x_var B) ra_nil))) ra_nil))))) ra_nil))) ra_nil)))
    (ss_cons (z_set B (x_add B (x_var B) (sn_lst (xa_cons (sn_tup (xa_cons (sn_tup (xa_cons x_str (xa_cons (x_var B) (xa_cons (x_var B) (xa_cons (x_var B) ra_nil))))) (xa_cons (x_add B (x_var B) (sn_tup (xa_cons (x_var B) ra_nil))) ra_nil))) (xa_cons (sn_tup (xa_cons (sn_tup (xa_cons x_str (xa_cons (x_var B) (xa_cons (x_var B) (xa_cons (x_var B) ra_nil))))) (xa_cons (x_add B (x_var B) (sn_tup (xa_cons (x_var B) ra_nil))) ra_nil))) ra_nil)))))
    (ss_cons (z_expr (x_meth F.plainAttrs_list F.slot_list_append F.type_list_append s_append (x_var B) (xa_cons (sn_tup (xa_cons (sn_tup (xa_cons x_str (xa_cons (x_var B) (xa_cons (x_var B) (xa_cons (x_var B) ra_nil))))) (xa_cons (sn_tup (xa_cons x_str (xa_cons (x_var B) (xa_cons (x_add B (x_var B) (sn_tup (xa_cons (x_var B) ra_nil))) (xa_cons (x_var B) ra_nil))))) ra_nil))) ra_nil)))
    (ss_cons (z_expr (x_meth F.plainAttrs_list F.slot_list_append F.type_list_append s_append (x_var B) (xa_cons (sn_tup (xa_cons (sn_tup (xa_cons x_str (xa_cons (x_var B) (xa_cons (x_var B) (xa_cons (x_var B) ra_nil))))) (xa_cons (x_add B (x_var B) (sn_tup (xa_cons (sn_tup (xa_cons x_str (xa_cons (x_var B) (xa_cons (x_var B) ra_nil)))) ra_nil))) ra_nil))) ra_nil)))
    (ss_cons (z_expr (x_meth F.plainAttrs_list F.slot_list_append F.type_list_append s_append (x_var B) (xa_cons (sn_tup (xa_cons (sn_tup (xa_cons x_str (xa_cons (x_var B) (xa_cons (x_var B) (xa_cons (x_var B) ra_nil))))) (xa_cons (sn_tup (xa_cons x_str (xa_cons (sn_tup (xa_cons x_str (xa_cons (x_var B) (xa_cons (x_add B (x_var B) (sn_tup (xa_cons (x_var B) ra_nil))) ra_nil)))) (xa_cons (x_var B) ra_nil)))) ra_nil))) ra_nil)))
    (ss_cons (z_expr (x_meth F.plainAttrs_list F.slot_list_append F.type_list_append s_append (x_var B) (xa_cons (sn_tup (xa_cons (sn_tup (xa_cons x_str (xa_cons (x_var B) (xa_cons (x_var B) (xa_cons (x_var B) ra_nil))))) (xa_cons (sn_tup (xa_cons x_str (xa_cons (x_var B) (xa_cons (x_var B) ra_nil)))) ra_nil))) ra_nil)))
    (ss_cons (z_expr (x_meth F.plainAttrs_list F.slot_list_append F.type_list_append s_append (x_var B) (xa_cons (sn_tup (xa_cons (sn_tup (xa_cons x_str (xa_cons (x_var B) (xa_cons (sn_tup (xa_cons x_str (xa_cons (x_var B) (xa_cons (x_var B) (xa_cons (x_var B) ra_nil))))) (xa_cons (x_var B) ra_nil))))) (xa_cons (sn_tup (xa_cons x_str (xa_cons (x_var B) (xa_cons (sn_tup (xa_cons x_str (xa_cons (x_var B) (xa_cons (sn_tup (xa_cons x_str (xa_cons (x_var B) ra_nil))) (xa_cons (x_add B (x_var B) (sn_tup (xa_cons (x_var B) ra_nil))) ra_nil))))) ra_nil)))) ra_nil))) ra_nil)))
    (ss_cons (z_expr (x_meth F.plainAttrs_list F.slot_list_append F.type_list_append s_append (x_var B) (xa_cons (sn_tup (xa_cons (sn_tup (xa_cons x_str (xa_cons (x_var B) (xa_cons (sn_tup (xa_cons x_str (xa_cons (x_var B) (xa_cons (x_var B) (xa_cons (x_var B) ra_nil))))) (xa_cons (x_var B) ra_nil))))) (xa_cons (sn_tup (xa_cons x_str (xa_cons (x_var B) (xa_cons (x_add B (x_var B) (sn_tup (xa_cons (x_var B) ra_nil))) ra_nil)))) ra_nil))) ra_nil)))
    (ss_cons (z_expr (x_meth F.plainAttrs_list F.slot_list_append F.type_list_append s_append (x_var B) (xa_cons (sn_tup (xa_cons (sn_tup (xa_cons x_str (xa_cons (x_var B) (xa_cons (sn_tup (xa_cons x_str (xa_cons (x_var B) (xa_cons (x_var B) (xa_cons (x_var B) ra_nil))))) (xa_cons (x_var B) ra_nil))))) (xa_cons (sn_tup (xa_cons x_str (xa_cons (x_var B) (xa_cons (sn_tup (xa_cons x_str (xa_cons (x_var B) (xa_cons (x_var B) (xa_cons (x_var B) ra_nil))))) ra_nil)))) ra_nil))) ra_nil)))
    (ss_cons (z_set B (sn_tup (xa_cons x_str (xa_cons (x_var B) (xa_cons (sn_tup (xa_cons x_str (xa_cons (x_var B) ra_nil))) ra_nil)))))
    (ss_cons (z_expr (x_meth F.plainAttrs_list F.slot_list_append F.type_list_append s_append (x_var B) (xa_cons (sn_tup (xa_cons (sn_tup (xa_cons x_str (xa_cons (sn_tup (xa_cons x_str (xa_cons (x_var B) (xa_cons (x_var B) (xa_cons (x_var B) ra_nil))))) (xa_cons (x_var B) (xa_cons (x_var B) ra_nil))))) (xa_cons (sn_tup (xa_cons x_str (xa_cons (sn_tup (xa_cons x_str (xa_cons (x_var B) (xa_cons (x_var B) ra_nil)))) (xa_cons (x_add B (x_var B) (sn_tup (xa_cons (x_var B) ra_nil))) ra_nil)))) ra_nil))) ra_nil)))
    (ss_cons (z_expr (x_meth F.plainAttrs_list F.slot_list_append F.type_list_append s_append (x_var B) (xa_cons (sn_tup (xa_cons (sn_tup (xa_cons x_str (xa_cons (x_var B) (xa_cons (sn_tup (xa_cons x_str (xa_cons (x_var B) (xa_cons (x_var B) (xa_cons (x_var B) ra_nil))))) (xa_cons (x_var B) ra_nil))))) (xa_cons (sn_tup (xa_cons x_str (xa_cons (sn_tup (xa_cons x_str (xa_cons (x_var B) (xa_cons (x_add B (x_var B) (sn_tup (xa_cons (x_var B) ra_nil))) ra_nil)))) (xa_cons (sn_tup (xa_cons x_str (xa_cons (x_var B) (xa_cons (x_var B) ra_nil)))) ra_nil)))) ra_nil))) ra_nil)))
    (ss_cons (sp_ret (x_var B))
    ss_nil))))))))))))))))))))

/-! _law_number -/
def n__law_number : List Str := ["_law_cells", "_law_spot", "_law_n"]
def b__law_number (call : CallF) (wr : Nat → Bool) : SF :=
    (sSeq (sAsg (eFn tab call wr "_law_cell" (aCons (eVar 0) (aCons (eVar 1) aNil))) (gNm 2))
    (sSeq (sRet (eOp (fIxT tab) (eLst (aCons (eOp fMod (eOp fDiv (eVar 2) (eCst (.int 8))) (eCst (.int 5))) (aCons (eCst (.int 0)) (aCons (eCst (.int 1)) (aCons (eOp fSub (eOp fMod (eOp fDiv (eVar 2) (eCst (.int 8))) (eCst (.int 201))) (eCst (.int 100))) (aCons (eCst (.int 1000000000)) (aCons (eNeg (eCst (.int 1000000000))) (aCons (eCst (.int 2)) (aCons (eOp fMod (eOp fDiv (eVar 2) (eCst (.int 8))) (eCst (.int 1000001))) aNil))))))))) (eOp fMod (eVar 2) (eCst (.int 8)))))
    sNext))
theorem p__law_number {X : Cx} {k : Nat} {call : CallF} (B : BX X n__law_number (defScope (top 49)) allF tab k call) (wr : Nat → Bool) : PSs X (defBody (top 49)) (rdS X.K wr (b__law_number call wr)) :=
    (ss_cons (z_set B (x_call B (xa_cons (x_var B) (xa_cons (x_var B) ra_nil))))
    (ss_cons (sp_ret (x_ix B (sn_lst (xa_cons (x_mod B (x_div B (x_var B) x_int) x_int) (xa_cons x_int (xa_cons x_int (xa_cons (x_sub B (x_mod B (x_div B (x_var B) x_int) x_int) x_int) (xa_cons x_int (xa_cons (sn_neg x_int) (xa_cons x_int (xa_cons (x_mod B (x_div B (x_var B) x_int) x_int) ra_nil))))))))) (x_mod B (x_var B) x_int)))
    ss_nil))

/-! Program___init__ -/
def n_Program___init__ : List Str := ["self"]
def b_Program___init__ (call : CallF) (wr : Nat → Bool) : SF :=
    (sSeq (sFldA tab wr "functions" (eVar 0) eDic0)
    sNext)
theorem p_Program___init__ {X : Cx} {k : Nat} {call : CallF} (B : BX X n_Program___init__ (defScope (clsAt (top 36) 0)) allF tab k call) (wr : Nat → Bool) : PSs X (defBody (clsAt (top 36) 0)) (rdS X.K wr (b_Program___init__ call wr)) :=
    (ss_cons (z_fld B (x_var B) sn_dic0)
    ss_nil)

/-! Program_put -/
def n_Program_put : List Str := ["self", "name", "params", "body"]
def b_Program_put (call : CallF) (wr : Nat → Bool) : SF :=
    (sSeq (sDrop (eFn tab call wr "need_function" (aCons (eVar 1) (aCons (eVar 2) (aCons (eVar 3) aNil)))))
    (sSeq (sIf (eOp (fInT tab) (eVar 1) (eFld tab "functions" (eVar 0))) (sSeq sStuck
      sNext) sNext)
    (sSeq (sIf (eOp fEq (eCall gLen (aCons (eFld tab "functions" (eVar 0)) aNil)) (eGlo tab "MOST_FUNCTIONS")) (sSeq sStuck
      sNext) sNext)
    (sSeq (sSubA wr (eFld tab "functions" (eVar 0)) (eVar 1) (eTup (aCons (eVar 2) (aCons (eVar 3) aNil))))
    sNext))))
theorem p_Program_put {X : Cx} {k : Nat} {call : CallF} (B : BX X n_Program_put (defScope (clsAt (top 36) 2)) allF tab k call) (wr : Nat → Bool) : PSs X (defBody (clsAt (top 36) 2)) (rdS X.K wr (b_Program_put call wr)) :=
    (ss_cons (z_expr (x_call B (xa_cons (x_var B) (xa_cons (x_var B) (xa_cons (x_var B) ra_nil)))))
    (ss_cons (sp_if (x_cmp (o_in B) (x_var B) (x_fld B (x_var B))) (ss_cons sp_stuck
      ss_nil) ss_nil)
    (ss_cons (sp_if (x_cmp (o_eq B) (x_fun B s_len (xa_cons (x_fld B (x_var B)) ra_nil)) (x_glo B)) (ss_cons sp_stuck
      ss_nil) ss_nil)
    (ss_cons (z_sub B (x_fld B (x_var B)) (x_var B) (sn_tup (xa_cons (x_var B) (xa_cons (x_var B) ra_nil))))
    ss_nil))))

/-! Program___str__ -/
def n_Program___str__ : List Str := ["self", "name", "params", "body"]
def b_Program___str__ (call : CallF) (wr : Nat → Bool) : SF :=
    (sSeq (sRet (eMeth "str" mJoin (eCst (.str "\n")) (aCons (eLcD wr [1, 2, 3] mI (fun wr => (eFld tab "functions" (eVar 0))) (gTp 2 (gsCons (gNm 1) (gsCons (gTp 2 (gsCons (gNm 2) (gsCons (gNm 3) gsNil))) gsNil))) (fun wr => tfY) (fun wr => (eFn tab call wr "function_text" (aCons (eVar 1) (aCons (eVar 2) (aCons (eVar 3) aNil)))))) aNil)))
    sNext)
theorem p_Program___str__ {X : Cx} {k : Nat} {call : CallF} (B : BX X n_Program___str__ (defScope (clsAt (top 36) 14)) allF tab k call) (wr : Nat → Bool) : PSs X (defBody (clsAt (top 36) 14)) (rdS X.K wr (b_Program___str__ call wr)) :=
    (ss_cons (sp_ret (x_meth F.plainAttrs_str F.slot_str_join F.type_str_join s_join x_str (xa_cons (x_lcD B [("name", 1), ("params", 2), ("body", 3)] (fun wr => (i_items (x_fld B (x_var B)))) (fun Y B => (y_tp B (ys_cons (y_nm B) (ys_cons (y_tp B (ys_cons (y_nm B) (ys_cons (y_nm B) sgs_nil))) sgs_nil)))) (fun Y wr B => st_nil) (fun Y wr B => (x_call B (xa_cons (x_var B) (xa_cons (x_var B) (xa_cons (x_var B) ra_nil)))))) ra_nil)))
    ss_nil)

/-! rested -/
def n_rested : List Str := ["program", "name"]
def b_rested (call : CallF) (wr : Nat → Bool) : SF :=
    (sSeq (sDrop (eFn tab call wr "need_normal" (aCons (eVar 0) aNil)))
    (sSeq (sRet (eCall gTuple (aCons (eLc wr [1] (iOf (eOwn tab call wr "names" (eVar 0) aNil)) (gNm 1) (fun wr => tfY) (fun wr => (eTup (aCons (eVar 1) (aCons (eOwn tab call wr "params_of" (eVar 0) (aCons (eVar 1) aNil)) (aCons (eFn tab call wr "body_in_rests" (aCons (eOwn tab call wr "body_of" (eVar 0) (aCons (eVar 1) aNil)) aNil)) aNil)))))) aNil)))
    sNext))
theorem p_rested {X : Cx} {k : Nat} {call : CallF} (B : BX X n_rested (defScope (top 46)) allF tab k call) (wr : Nat → Bool) : PSs X (defBody (top 46)) (rdS X.K wr (b_rested call wr)) :=
    (ss_cons (z_expr (x_call B (xa_cons (x_var B) ra_nil)))
    (ss_cons (sp_ret (x_typ B s_tuple (xa_cons (x_lc B [("name", 1)] (si_of (x_own0 B (x_var B))) (fun Y B => (y_nm B)) (fun Y wr B => st_nil) (fun Y wr B => (sn_tup (xa_cons (x_var B) (xa_cons (x_own B (x_var B) (xa_cons (x_var B) ra_nil)) (xa_cons (x_call B (xa_cons (x_own B (x_var B) (xa_cons (x_var B) ra_nil)) ra_nil)) ra_nil)))))) ra_nil)))
    ss_nil))

/-! need_function -/
def n_need_function : List Str := ["name", "params", "body"]
def b_need_function (call : CallF) (wr : Nat → Bool) : SF :=
    (sSeq (sIf (eNot (eFn tab call wr "is_name" (aCons (eVar 0) aNil))) (sSeq sStuck
      sNext) sNext)
    (sSeq (sIf (eNot (eFn tab call wr "is_params" (aCons (eVar 1) aNil))) (sSeq sStuck
      sNext) sNext)
    (sSeq (sIf (eNot (eFn tab call wr "is_expression" (aCons (eVar 2) aNil))) (sSeq sStuck
      sNext) sNext)
    sNext)))
theorem p_need_function {X : Cx} {k : Nat} {call : CallF} (B : BX X n_need_function (defScope (top 34)) allF tab k call) (wr : Nat → Bool) : PSs X (defBody (top 34)) (rdS X.K wr (b_need_function call wr)) :=
    (ss_cons (sp_if (sn_not (x_call B (xa_cons (x_var B) ra_nil))) (ss_cons sp_stuck
      ss_nil) ss_nil)
    (ss_cons (sp_if (sn_not (x_call B (xa_cons (x_var B) ra_nil))) (ss_cons sp_stuck
      ss_nil) ss_nil)
    (ss_cons (sp_if (sn_not (x_call B (xa_cons (x_var B) ra_nil))) (ss_cons sp_stuck
      ss_nil) ss_nil)
    ss_nil)))

/-! function_text -/
def n_function_text : List Str := ["name", "params", "body"]
def b_function_text (call : CallF) (wr : Nat → Bool) : SF :=
    (sSeq (sRet (eOp fAdd (eOp fAdd (eMeth "str" mJoin (eCst (.str " ")) (aCons (eOp fAdd (eLst (aCons (eVar 0) aNil)) (eCall gList (aCons (eVar 1) aNil))) aNil)) (eCst (.str " = "))) (eFn tab call wr "expression_text" (aCons (eVar 2) aNil))))
    sNext)
theorem p_function_text {X : Cx} {k : Nat} {call : CallF} (B : BX X n_function_text (defScope (top 41)) allF tab k call) (wr : Nat → Bool) : PSs X (defBody (top 41)) (rdS X.K wr (b_function_text call wr)) :=
    (ss_cons (sp_ret (x_add B (x_add B (x_meth F.plainAttrs_str F.slot_str_join F.type_str_join s_join x_str (xa_cons (x_add B (sn_lst (xa_cons (x_var B) ra_nil)) (x_typ B (s_list B.calm) (xa_cons (x_var B) ra_nil))) ra_nil)) x_str) (x_call B (xa_cons (x_var B) ra_nil))))
    ss_nil)

/-! need_normal -/
def n_need_normal : List Str := ["thing", "name"]
def b_need_normal (call : CallF) (wr : Nat → Bool) : SF :=
    (sSeq (sDrop (eFn tab call wr "need_whole" (aCons (eVar 0) aNil)))
    (sSeq (sIf (eNot (eCall gAll (aCons (eLc wr [1] (iOf (eOwn tab call wr "names" (eVar 0) aNil)) (gNm 1) (fun wr => tfY) (fun wr => (eFn tab call wr "is_normal_body" (aCons (eOwn tab call wr "body_of" (eVar 0) (aCons (eVar 1) aNil)) aNil)))) aNil))) (sSeq sStuck
      sNext) sNext)
    sNext))
theorem p_need_normal {X : Cx} {k : Nat} {call : CallF} (B : BX X n_need_normal (defScope (top 39)) allF tab k call) (wr : Nat → Bool) : PSs X (defBody (top 39)) (rdS X.K wr (b_need_normal call wr)) :=
    (ss_cons (z_expr (x_call B (xa_cons (x_var B) ra_nil)))
    (ss_cons (sp_if (sn_not (x_fun B (s_all B.calm) (xa_cons (x_lc B [("name", 1)] (si_of (x_own0 B (x_var B))) (fun Y B => (y_nm B)) (fun Y wr B => st_nil) (fun Y wr B => (x_call B (xa_cons (x_own B (x_var B) (xa_cons (x_var B) ra_nil)) ra_nil)))) ra_nil))) (ss_cons sp_stuck
      ss_nil) ss_nil)
    ss_nil))

/-! Program_names -/
def n_Program_names : List Str := ["self"]
def b_Program_names (call : CallF) (wr : Nat → Bool) : SF :=
    (sSeq (sRet (eCall gList (aCons (eFld tab "functions" (eVar 0)) aNil)))
    sNext)
theorem p_Program_names {X : Cx} {k : Nat} {call : CallF} (B : BX X n_Program_names (defScope (clsAt (top 36) 5)) allF tab k call) (wr : Nat → Bool) : PSs X (defBody (clsAt (top 36) 5)) (rdS X.K wr (b_Program_names call wr)) :=
    (ss_cons (sp_ret (x_typ B (s_list B.calm) (xa_cons (x_fld B (x_var B)) ra_nil)))
    ss_nil)

/-! body_in_rests -/
def n_body_in_rests : List Str := ["here", "word", "later"]
def b_body_in_rests (call : CallF) (wr : Nat → Bool) : SF :=
    (sSeq (sAsg (eOp (fIxT tab) (eVar 0) (eCst (.int 0))) (gNm 1))
    (sSeq (sIf (eOp (fInT tab) (eVar 1) (eGlo tab "ATOMS")) (sSeq (sRet (eTup (aCons (eCst (.str "pass")) (aCons (eVar 0) aNil))))
      sNext) sNext)
    (sSeq (sIf (eOp fEq (eVar 1) (eCst (.str "let"))) (sSeq (sAsg (eFn tab call wr "body_in_rests" (aCons (eOp (fIxT tab) (eVar 0) (eCst (.int 3))) aNil)) (gNm 2))
      (sSeq (sRet (eIte (eFn tab call wr "waits" (aCons (eVar 0) aNil)) (eFn tab call wr "with_rest" (aCons (eOp (fIxT tab) (eVar 0) (eCst (.int 2))) (aCons (eTup (aCons (eCst (.str "then")) (aCons (eOp (fIxT tab) (eVar 0) (eCst (.int 1))) (aCons (eVar 2) aNil)))) aNil))) (eTup (aCons (eCst (.str "set")) (aCons (eOp (fIxT tab) (eVar 0) (eCst (.int 1))) (aCons (eOp (fIxT tab) (eVar 0) (eCst (.int 2))) (aCons (eVar 2) aNil)))))))
      sNext)) sNext)
    (sSeq (sIf (eOp fEq (eVar 1) (eCst (.str "try"))) (sSeq (sRet (eFn tab call wr "with_rest" (aCons (eOp (fIxT tab) (eVar 0) (eCst (.int 1))) (aCons (eTup (aCons (eCst (.str "catch")) (aCons (eOp (fIxT tab) (eVar 0) (eCst (.int 2))) (aCons (eFn tab call wr "body_in_rests" (aCons (eOp (fIxT tab) (eVar 0) (eCst (.int 3))) aNil)) aNil)))) aNil))))
      sNext) sNext)
    (sSeq (sIf (eOp fEq (eVar 1) (eCst (.str "if"))) (sSeq (sRet (eTup (aCons (eCst (.str "if")) (aCons (eOp (fIxT tab) (eVar 0) (eCst (.int 1))) (aCons (eFn tab call wr "body_in_rests" (aCons (eOp (fIxT tab) (eVar 0) (eCst (.int 2))) aNil)) (aCons (eFn tab call wr "body_in_rests" (aCons (eOp (fIxT tab) (eVar 0) (eCst (.int 3))) aNil)) aNil))))))
      sNext) sNext)
    (sSeq (sRet (eIte (eOp fEq (eVar 1) (eCst (.str "raise"))) (eVar 0) (eTup (aCons (eVar 1) (aCons (eOp (fIxT tab) (eVar 0) (eCst (.int 1))) (aCons (eOp (fIxT tab) (eVar 0) (eCst (.int 2))) (aCons (eGlo tab "SAME") aNil)))))))
    sNext))))))
theorem p_body_in_rests {X : Cx} {k : Nat} {call : CallF} (B : BX X n_body_in_rests (defScope (top 45)) allF tab k call) (wr : Nat → Bool) : PSs X (defBody (top 45)) (rdS X.K wr (b_body_in_rests call wr)) :=
    (ss_cons (z_set B (x_ix B (x_var B) x_int))
    (ss_cons (sp_if (x_cmp (o_in B) (x_var B) (x_glo B)) (ss_cons (sp_ret (sn_tup (xa_cons x_str (xa_cons (x_var B) ra_nil))))
      ss_nil) ss_nil)
    (ss_cons (sp_if (x_cmp (o_eq B) (x_var B) x_str) (ss_cons (z_set B (x_call B (xa_cons (x_ix B (x_var B) x_int) ra_nil)))
      (ss_cons (sp_ret (sn_ite (x_call B (xa_cons (x_var B) ra_nil)) (x_call B (xa_cons (x_ix B (x_var B) x_int) (xa_cons (sn_tup (xa_cons x_str (xa_cons (x_ix B (x_var B) x_int) (xa_cons (x_var B) ra_nil)))) ra_nil))) (sn_tup (xa_cons x_str (xa_cons (x_ix B (x_var B) x_int) (xa_cons (x_ix B (x_var B) x_int) (xa_cons (x_var B) ra_nil)))))))
      ss_nil)) ss_nil)
    (ss_cons (sp_if (x_cmp (o_eq B) (x_var B) x_str) (ss_cons (sp_ret (x_call B (xa_cons (x_ix B (x_var B) x_int) (xa_cons (sn_tup (xa_cons x_str (xa_cons (x_ix B (x_var B) x_int) (xa_cons (x_call B (xa_cons (x_ix B (x_var B) x_int) ra_nil)) ra_nil)))) ra_nil))))
      ss_nil) ss_nil)
    (ss_cons (sp_if (x_cmp (o_eq B) (x_var B) x_str) (ss_cons (sp_ret (sn_tup (xa_cons x_str (xa_cons (x_ix B (x_var B) x_int) (xa_cons (x_call B (xa_cons (x_ix B (x_var B) x_int) ra_nil)) (xa_cons (x_call B (xa_cons (x_ix B (x_var B) x_int) ra_nil)) ra_nil))))))
      ss_nil) ss_nil)
    (ss_cons (sp_ret (sn_ite (x_cmp (o_eq B) (x_var B) x_str) (x_var B) (sn_tup (xa_cons (x_var B) (xa_cons (x_ix B (x_var B) x_int) (xa_cons (x_ix B (x_var B) x_int) (xa_cons (x_glo B) ra_nil)))))))
    ss_nil))))))

/-! Program_body_of -/
def n_Program_body_of : List Str := ["self", "name"]
def b_Program_body_of (call : CallF) (wr : Nat → Bool) : SF :=
    (sSeq (sRet (eOp (fIxT tab) (eOwn tab call wr "function_of" (eVar 0) (aCons (eVar 1) aNil)) (eCst (.int 1))))
    sNext)
theorem p_Program_body_of {X : Cx} {k : Nat} {call : CallF} (B : BX X n_Program_body_of (defScope (clsAt (top 36) 7)) allF tab k call) (wr : Nat → Bool) : PSs X (defBody (clsAt (top 36) 7)) (rdS X.K wr (b_Program_body_of call wr)) :=
    (ss_cons (sp_ret (x_ix B (x_own B (x_var B) (xa_cons (x_var B) ra_nil)) x_int))
    ss_nil)

/-! Program_params_of -/
def n_Program_params_of : List Str := ["self", "name"]
def b_Program_params_of (call : CallF) (wr : Nat → Bool) : SF :=
    (sSeq (sRet (eOp (fIxT tab) (eOwn tab call wr "function_of" (eVar 0) (aCons (eVar 1) aNil)) (eCst (.int 0))))
    sNext)
theorem p_Program_params_of {X : Cx} {k : Nat} {call : CallF} (B : BX X n_Program_params_of (defScope (clsAt (top 36) 6)) allF tab k call) (wr : Nat → Bool) : PSs X (defBody (clsAt (top 36) 6)) (rdS X.K wr (b_Program_params_of call wr)) :=
    (ss_cons (sp_ret (x_ix B (x_own B (x_var B) (xa_cons (x_var B) ra_nil)) x_int))
    ss_nil)

/-! is_name -/
def n_is_name : List Str := ["thing", "sign"]
def b_is_name (call : CallF) (wr : Nat → Bool) : SF :=
    (sSeq (sIf (eOr (eNot (eIsi tab (.bt "str") (eVar 0))) (eOr (eNot (eChain (cmpI fun i j => decide (i ≤ j)) (cmpI fun i j => decide (i ≤ j)) (eCst (.int 1)) (eCall gLen (aCons (eVar 0) aNil)) (eGlo tab "MOST_SIGNS"))) (eOp (fNotInT tab) (eOp (fIxT tab) (eVar 0) (eCst (.int 0))) (eGlo tab "LETTERS")))) (sSeq (sRet (eCst (.bl false)))
      sNext) sNext)
    (sSeq (sRet (eCall gAll (aCons (eLc wr [1] (iOf (eVar 0)) (gNm 1) (fun wr => tfY) (fun wr => (eOr (eOp (fInT tab) (eVar 1) (eGlo tab "LETTERS")) (eOp (fInT tab) (eVar 1) (eGlo tab "FIGURES"))))) aNil)))
    sNext))
theorem p_is_name {X : Cx} {k : Nat} {call : CallF} (B : BX X n_is_name (defScope (top 25)) allF tab k call) (wr : Nat → Bool) : PSs X (defBody (top 25)) (rdS X.K wr (b_is_name call wr)) :=
    (ss_cons (sp_if (sb_or (sn_not (x_isi B (.bt "str") (x_var B) ⟨by decide, by decide +kernel, by decide +kernel, by decide⟩)) (sb_or (sn_not (x_chain (o_le B) (o_le B) x_int (x_fun B s_len (xa_cons (x_var B) ra_nil)) (x_glo B))) (sb_or1 (x_cmp (o_notIn B) (x_ix B (x_var B) x_int) (x_glo B))))).snd (ss_cons (sp_ret x_bl)
      ss_nil) ss_nil)
    (ss_cons (sp_ret (x_fun B (s_all B.calm) (xa_cons (x_lc B [("sign", 1)] (si_of (x_var B)) (fun Y B => (y_nm B)) (fun Y wr B => st_nil) (fun Y wr B => (sb_or (x_cmp (o_in B) (x_var B) (x_glo B)) (sb_or1 (x_cmp (o_in B) (x_var B) (x_glo B)))).snd)) ra_nil)))
    ss_nil))

/-! is_params -/
def n_is_params : List Str := ["thing", "name"]
def b_is_params (call : CallF) (wr : Nat → Bool) : SF :=
    (sSeq (sIf (eOr (eNot (eIsi tab (.bt "tuple") (eVar 0))) (eOr (eOp (cmpI fun i j => decide (j < i)) (eCall gLen (aCons (eVar 0) aNil)) (eGlo tab "MOST_PARAMS")) (eNot (eCall gAll (aCons (eLc wr [1] (iOf (eVar 0)) (gNm 1) (fun wr => tfY) (fun wr => (eFn tab call wr "is_name" (aCons (eVar 1) aNil)))) aNil))))) (sSeq (sRet (eCst (.bl false)))
      sNext) sNext)
    (sSeq (sRet (eOp fEq (eLenSet (eVar 0)) (eCall gLen (aCons (eVar 0) aNil))))
    sNext))
theorem p_is_params {X : Cx} {k : Nat} {call : CallF} (B : BX X n_is_params (defScope (top 26)) allF tab k call) (wr : Nat → Bool) : PSs X (defBody (top 26)) (rdS X.K wr (b_is_params call wr)) :=
    (ss_cons (sp_if (sb_or (sn_not (x_isi B (.bt "tuple") (x_var B) ⟨by decide, by decide +kernel, by decide +kernel, by decide⟩)) (sb_or (x_cmp (o_gt B) (x_fun B s_len (xa_cons (x_var B) ra_nil)) (x_glo B)) (sb_or1 (sn_not (x_fun B (s_all B.calm) (xa_cons (x_lc B [("name", 1)] (si_of (x_var B)) (fun Y B => (y_nm B)) (fun Y wr B => st_nil) (fun Y wr B => (x_call B (xa_cons (x_var B) ra_nil)))) ra_nil)))))).snd (ss_cons (sp_ret x_bl)
      ss_nil) ss_nil)
    (ss_cons (sp_ret (x_cmp (o_eq B) (x_lenSet B (x_var B)) (x_fun B s_len (xa_cons (x_var B) ra_nil))))
    ss_nil))

/-! is_expression -/
def n_is_expression : List Str := ["thing", "waiting", "many", "here", "deep", "part"]
def b_is_expression (call : CallF) (wr : Nat → Bool) : SF :=
    (sSeq (sPar2 1 2 (aCons (eLst (aCons (eTup (aCons (eVar 0) (aCons (eCst (.int 1)) aNil))) aNil)) (aCons (eCst (.int 0)) aNil)))
    (sSeq (whileF (eOp fNe (eVar 1) (eLst aNil)) (sSeq (sAsg (eMeth "list" (mPop wr) (eVar 1) aNil) (gTp 2 (gsCons (gNm 3) (gsCons (gNm 4) gsNil))))
      (sSeq (sAugI 2 (fun i j => i + j) (eCst (.int 1)))
      (sSeq (sIf (eOr (eOp (cmpI fun i j => decide (j < i)) (eVar 2) (eGlo tab "MOST_PARTS")) (eOr (eOp (cmpI fun i j => decide (j < i)) (eVar 4) (eGlo tab "MOST_DEEP")) (eNot (eFn tab call wr "is_formed" (aCons (eVar 3) aNil))))) (sSeq (sRet (eCst (.bl false)))
        sNext) sNext)
      (sSeq (sDrop (eMeth "list" (mExtend wr) (eVar 1) (aCons (eLc wr [5] (iOf (eFn tab call wr "parts_of" (aCons (eVar 3) aNil))) (gNm 5) (fun wr => tfY) (fun wr => (eTup (aCons (eVar 5) (aCons (eOp fAdd (eVar 4) (eCst (.int 1))) aNil))))) aNil)))
      sNext)))) fuelN)
    (sSeq (sRet (eCst (.bl true)))
    sNext)))
theorem p_is_expression {X : Cx} {k : Nat} {call : CallF} (B : BX X n_is_expression (defScope (top 30)) allF tab k call) (wr : Nat → Bool) : PSs X (defBody (top 30)) (rdS X.K wr (b_is_expression call wr)) :=
    (ss_cons (z_par2 B (xa_cons (sn_lst (xa_cons (sn_tup (xa_cons (x_var B) (xa_cons x_int ra_nil))) ra_nil)) (xa_cons x_int ra_nil)))
    (ss_cons (z_while B (x_cmp (o_ne B) (x_var B) (sn_lst ra_nil)) (ss_cons (z_asg (x_meth0 F.plainAttrs_list F.slot_list_pop F.type_list_pop s_pop (x_var B)) (y_tp B (ys_cons (y_nm B) (ys_cons (y_cl B) sgs_nil))))
      (ss_cons (z_augP B x_int)
      (ss_cons (sp_if (sb_or (x_cmp (o_gt B) (x_var B) (x_glo B)) (sb_or (x_cmp (o_gt B) (x_var B) (x_glo B)) (sb_or1 (sn_not (x_call B (xa_cons (x_var B) ra_nil)))))).snd (ss_cons (sp_ret x_bl)
        ss_nil) ss_nil)
      (ss_cons (z_expr (x_meth F.plainAttrs_list F.slot_list_extend F.type_list_extend s_extend (x_var B) (xa_cons (x_lc B [("part", 5)] (si_of (x_call B (xa_cons (x_var B) ra_nil))) (fun Y B => (y_nm B)) (fun Y wr B => st_nil) (fun Y wr B => (sn_tup (xa_cons (x_var B) (xa_cons (x_add B (x_var B) x_int) ra_nil))))) ra_nil)))
      ss_nil)))))
    (ss_cons (sp_ret x_bl)
    ss_nil)))

/-! expression_text -/
def n_expression_text : List Str := ["body", "words", "sort", "part", "one"]
def b_expression_text (call : CallF) (wr : Nat → Bool) : SF :=
    (sSeq (sIf (eOp (fInT tab) (eOp (fIxT tab) (eVar 0) (eCst (.int 0))) (eTup (aCons (eCst (.str "num")) (aCons (eCst (.str "name")) aNil)))) (sSeq (sRet (eCall (gStrO tab call wr) (aCons (eOp (fIxT tab) (eVar 0) (eCst (.int 1))) aNil)))
      sNext) sNext)
    (sSeq (sIf (eOp fEq (eOp (fIxT tab) (eVar 0) (eCst (.int 0))) (eCst (.str "fn"))) (sSeq (sRet (eOp fAdd (eCst (.str "'")) (eOp (fIxT tab) (eVar 0) (eCst (.int 1)))))
      sNext) sNext)
    (sSeq (sAsg (eIte (eOp fEq (eOp (fIxT tab) (eVar 0) (eCst (.int 0))) (eCst (.str "do"))) (eLst aNil) (eLst (aCons (eOp (fIxT tab) (eVar 0) (eCst (.int 0))) aNil))) (gNm 1))
    (sSeq (sFor wr (iZipF (eOp (fIxT tab) (eGlo tab "FORMS") (eOp (fIxT tab) (eVar 0) (eCst (.int 0)))) (eSl fSl (eVar 0) (pSome (eCst (.int 1))) pNone)) (gTp 2 (gsCons (gNm 2) (gsCons (gNm 3) gsNil))) (fun wr => (sSeq (sIf (eOp fEq (eVar 2) (eCst (.str "e"))) (sSeq (sDrop (eMeth "list" (mAppend wr) (eVar 1) (aCons (eFn tab call wr "expression_text" (aCons (eVar 3) aNil)) aNil)))
        sNext) (sSeq (sIf (eOp fEq (eVar 2) (eCst (.str "s"))) (sSeq (sDrop (eMeth "list" (mExtend wr) (eVar 1) (aCons (eLc wr [4] (iOf (eVar 3)) (gNm 4) (fun wr => tfY) (fun wr => (eFn tab call wr "expression_text" (aCons (eVar 4) aNil)))) aNil)))
          sNext) (sSeq (sDrop (eMeth "list" (mAppend wr) (eVar 1) (aCons (eCall (gStrO tab call wr) (aCons (eVar 3) aNil)) aNil)))
          sNext))
        sNext))
      sNext)))
    (sSeq (sRet (eOp fAdd (eOp fAdd (eCst (.str "(")) (eMeth "str" mJoin (eCst (.str " ")) (aCons (eVar 1) aNil))) (eCst (.str ")"))))
    sNext)))))
theorem p_expression_text {X : Cx} {k : Nat} {call : CallF} (B : BX X n_expression_text (defScope (top 40)) allF tab k call) (wr : Nat → Bool) : PSs X (defBody (top 40)) (rdS X.K wr (b_expression_text call wr)) :=
    (ss_cons (sp_if (x_cmp (o_in B) (x_ix B (x_var B) x_int) (sn_tup (xa_cons x_str (xa_cons x_str ra_nil)))) (ss_cons (sp_ret (x_typ B (s_strO B.tab B.calls B.gu B.room) (xa_cons (x_ix B (x_var B) x_int) ra_nil)))
      ss_nil) ss_nil)
    (ss_cons (sp_if (x_cmp (o_eq B) (x_ix B (x_var B) x_int) x_str) (ss_cons (sp_ret (x_add B x_str (x_ix B (x_var B) x_int)))
      ss_nil) ss_nil)
    (ss_cons (z_set B (sn_ite (x_cmp (o_eq B) (x_ix B (x_var B) x_int) x_str) (sn_lst ra_nil) (sn_lst (xa_cons (x_ix B (x_var B) x_int) ra_nil))))
    (ss_cons (z_for B (i_zip B (x_ix B (x_glo B) (x_ix B (x_var B) x_int)) (x_sl B (x_var B) (rp_some x_int) rp_none)) (y_tp B (ys_cons (y_nm B) (ys_cons (y_nm B) sgs_nil))) (fun wr => (ss_cons (sp_if (x_cmp (o_eq B) (x_var B) x_str) (ss_cons (z_expr (x_meth F.plainAttrs_list F.slot_list_append F.type_list_append s_append (x_var B) (xa_cons (x_call B (xa_cons (x_var B) ra_nil)) ra_nil)))
        ss_nil) (ss_cons (sp_if (x_cmp (o_eq B) (x_var B) x_str) (ss_cons (z_expr (x_meth F.plainAttrs_list F.slot_list_extend F.type_list_extend s_extend (x_var B) (xa_cons (x_lc B [("one", 4)] (si_of (x_var B)) (fun Y B => (y_nm B)) (fun Y wr B => st_nil) (fun Y wr B => (x_call B (xa_cons (x_var B) ra_nil)))) ra_nil)))
          ss_nil) (ss_cons (z_expr (x_meth F.plainAttrs_list F.slot_list_append F.type_list_append s_append (x_var B) (xa_cons (x_typ B (s_strO B.tab B.calls B.gu B.room) (xa_cons (x_var B) ra_nil)) ra_nil)))
          ss_nil))
        ss_nil))
      ss_nil)))
    (ss_cons (sp_ret (x_add B (x_add B x_str (x_meth F.plainAttrs_str F.slot_str_join F.type_str_join s_join x_str (xa_cons (x_var B) ra_nil))) x_str))
    ss_nil)))))

/-! need_whole -/
def n_need_whole : List Str := ["thing", "found", "name", "place", "word"]
def b_need_whole (call : CallF) (wr : Nat → Bool) : SF :=
    (sSeq (sDrop (eFn tab call wr "need_program" (aCons (eVar 0) aNil)))
    (sSeq (sAsg (eOwn tab call wr "first_wrong" (eVar 0) aNil) (gNm 1))
    (sSeq (sIf (eOp fIsNot (eVar 1) (eCst .non)) (sSeq (sAsg (eVar 1) (gTp 3 (gsCons (gNm 2) (gsCons (gNm 3) (gsCons (gNm 4) gsNil)))))
      (sSeq sStuck
      sNext)) sNext)
    sNext)))
theorem p_need_whole {X : Cx} {k : Nat} {call : CallF} (B : BX X n_need_whole (defScope (top 38)) allF tab k call) (wr : Nat → Bool) : PSs X (defBody (top 38)) (rdS X.K wr (b_need_whole call wr)) :=
    (ss_cons (z_expr (x_call B (xa_cons (x_var B) ra_nil)))
    (ss_cons (z_set B (x_own0 B (x_var B)))
    (ss_cons (sp_if (x_cmp (o_isNot B) (x_var B) x_non) (ss_cons (z_asg (x_var B) (y_tp B (ys_cons (y_nm B) (ys_cons (y_nm B) (ys_cons (y_nm B) sgs_nil)))))
      (ss_cons sp_stuck
      ss_nil)) ss_nil)
    ss_nil)))

/-! is_normal_body -/
def n_is_normal_body : List Str := ["body", "waiting", "here", "is_bound", "place", "part"]
def b_is_normal_body (call : CallF) (wr : Nat → Bool) : SF :=
    (sSeq (sAsg (eLst (aCons (eTup (aCons (eVar 0) (aCons (eCst (.bl false)) aNil))) aNil)) (gNm 1))
    (sSeq (whileF (eOp fNe (eVar 1) (eLst aNil)) (sSeq (sAsg (eMeth "list" (mPop wr) (eVar 1) aNil) (gTp 2 (gsCons (gNm 2) (gsCons (gNm 3) gsNil))))
      (sSeq (sIf (eAnd (eOp (fInT tab) (eOp (fIxT tab) (eVar 2) (eCst (.int 0))) (eTup (aCons (eCst (.str "do")) (aCons (eCst (.str "say")) aNil)))) (eNot (eVar 3))) (sSeq (sRet (eCst (.bl false)))
        sNext) sNext)
      (sSeq (sIf (eNot (eCall gAll (aCons (eLc wr [5] (iOf (eFn tab call wr "must_be_atoms" (aCons (eVar 2) aNil))) (gNm 5) (fun wr => tfY) (fun wr => (eOp (fInT tab) (eOp (fIxT tab) (eVar 5) (eCst (.int 0))) (eGlo tab "ATOMS")))) aNil))) (sSeq (sRet (eCst (.bl false)))
        sNext) sNext)
      (sSeq (sDrop (eMeth "list" (mExtend wr) (eVar 1) (aCons (eLc wr [4, 5] (iEnumF (eFn tab call wr "parts_of" (aCons (eVar 2) aNil))) (gTp 2 (gsCons (gNm 4) (gsCons (gNm 5) gsNil))) (fun wr => tfY) (fun wr => (eTup (aCons (eVar 5) (aCons (eAnd (eOp fEq (eOp (fIxT tab) (eVar 2) (eCst (.int 0))) (eCst (.str "let"))) (eOp fEq (eVar 4) (eCst (.int 0)))) aNil))))) aNil)))
      sNext)))) fuelN)
    (sSeq (sRet (eCst (.bl true)))
    sNext)))
theorem p_is_normal_body {X : Cx} {k : Nat} {call : CallF} (B : BX X n_is_normal_body (defScope (top 32)) allF tab k call) (wr : Nat → Bool) : PSs X (defBody (top 32)) (rdS X.K wr (b_is_normal_body call wr)) :=
    (ss_cons (z_set B (sn_lst (xa_cons (sn_tup (xa_cons (x_var B) (xa_cons x_bl ra_nil))) ra_nil)))
    (ss_cons (z_while B (x_cmp (o_ne B) (x_var B) (sn_lst ra_nil)) (ss_cons (z_asg (x_meth0 F.plainAttrs_list F.slot_list_pop F.type_list_pop s_pop (x_var B)) (y_tp B (ys_cons (y_cl B) (ys_cons (y_nm B) sgs_nil))))
      (ss_cons (sp_if (sb_and (x_cmp (o_in B) (x_ix B (x_var B) x_int) (sn_tup (xa_cons x_str (xa_cons x_str ra_nil)))) (sb_and1 (sn_not (x_var B)))).snd (ss_cons (sp_ret x_bl)
        ss_nil) ss_nil)
      (ss_cons (sp_if (sn_not (x_fun B (s_all B.calm) (xa_cons (x_lc B [("part", 5)] (si_of (x_call B (xa_cons (x_var B) ra_nil))) (fun Y B => (y_nm B)) (fun Y wr B => st_nil) (fun Y wr B => (x_cmp (o_in B) (x_ix B (x_var B) x_int) (x_glo B)))) ra_nil))) (ss_cons (sp_ret x_bl)
        ss_nil) ss_nil)
      (ss_cons (z_expr (x_meth F.plainAttrs_list F.slot_list_extend F.type_list_extend s_extend (x_var B) (xa_cons (x_lc B [("place", 4), ("part", 5)] (i_enum B (x_call B (xa_cons (x_var B) ra_nil))) (fun Y B => (y_tp B (ys_cons (y_nm B) (ys_cons (y_nm B) sgs_nil)))) (fun Y wr B => st_nil) (fun Y wr B => (sn_tup (xa_cons (x_var B) (xa_cons (sb_and (x_cmp (o_eq B) (x_ix B (x_var B) x_int) x_str) (sb_and1 (x_cmp (o_eq B) (x_var B) x_int))).snd ra_nil))))) ra_nil)))
      ss_nil)))))
    (ss_cons (sp_ret x_bl)
    ss_nil)))

/-! waits -/
def n_waits : List Str := ["body"]
def b_waits (call : CallF) (wr : Nat → Bool) : SF :=
    (sSeq (sRet (eAnd (eOp fEq (eOp (fIxT tab) (eVar 0) (eCst (.int 0))) (eCst (.str "let"))) (eOp (fNotInT tab) (eOp (fIxT tab) (eOp (fIxT tab) (eVar 0) (eCst (.int 2))) (eCst (.int 0))) (eTup (aCons (eCst (.str "num")) (aCons (eCst (.str "name")) (aCons (eCst (.str "fn")) (aCons (eCst (.str "do")) (aCons (eCst (.str "say")) aNil)))))))))
    sNext)
theorem p_waits {X : Cx} {k : Nat} {call : CallF} (B : BX X n_waits (defScope (top 33)) allF tab k call) (wr : Nat → Bool) : PSs X (defBody (top 33)) (rdS X.K wr (b_waits call wr)) :=
    (ss_cons (sp_ret (sb_and (x_cmp (o_eq B) (x_ix B (x_var B) x_int) x_str) (sb_and1 (x_cmp (o_notIn B) (x_ix B (x_ix B (x_var B) x_int) x_int) (sn_tup (xa_cons x_str (xa_cons x_str (xa_cons x_str (xa_cons x_str (xa_cons x_str ra_nil))))))))).snd)
    ss_nil)

/-! with_rest -/
def n_with_rest : List Str := ["value", "rest"]
def b_with_rest (call : CallF) (wr : Nat → Bool) : SF :=
    (sSeq (sIf (eOp (fInT tab) (eOp (fIxT tab) (eVar 0) (eCst (.int 0))) (eTup (aCons (eCst (.str "call")) (aCons (eCst (.str "ask")) aNil)))) (sSeq (sRet (eTup (aCons (eOp (fIxT tab) (eVar 0) (eCst (.int 0))) (aCons (eOp (fIxT tab) (eVar 0) (eCst (.int 1))) (aCons (eOp (fIxT tab) (eVar 0) (eCst (.int 2))) (aCons (eVar 1) aNil))))))
      sNext) sNext)
    (sSeq (sRet (eTup (aCons (eCst (.str "with")) (aCons (eVar 1) (aCons (eFn tab call wr "body_in_rests" (aCons (eVar 0) aNil)) aNil)))))
    sNext))
theorem p_with_rest {X : Cx} {k : Nat} {call : CallF} (B : BX X n_with_rest (defScope (top 44)) allF tab k call) (wr : Nat → Bool) : PSs X (defBody (top 44)) (rdS X.K wr (b_with_rest call wr)) :=
    (ss_cons (sp_if (x_cmp (o_in B) (x_ix B (x_var B) x_int) (sn_tup (xa_cons x_str (xa_cons x_str ra_nil)))) (ss_cons (sp_ret (sn_tup (xa_cons (x_ix B (x_var B) x_int) (xa_cons (x_ix B (x_var B) x_int) (xa_cons (x_ix B (x_var B) x_int) (xa_cons (x_var B) ra_nil))))))
      ss_nil) ss_nil)
    (ss_cons (sp_ret (sn_tup (xa_cons x_str (xa_cons (x_var B) (xa_cons (x_call B (xa_cons (x_var B) ra_nil)) ra_nil)))))
    ss_nil))

/-! Program_function_of -/
def n_Program_function_of : List Str := ["self", "name", "error"]
def b_Program_function_of (call : CallF) (wr : Nat → Bool) : SF :=
    (sSeq (sIf (eNot (eFn tab call wr "is_name" (aCons (eVar 1) aNil))) (sSeq sStuck
      sNext) sNext)
    (sSeq (sSeq (sRet (eOp (fIxT tab) (eFld tab "functions" (eVar 0)) (eVar 1)))
      sNext)
    sNext))
theorem p_Program_function_of {X : Cx} {k : Nat} {call : CallF} (B : BX X n_Program_function_of (defScope (clsAt (top 36) 1)) allF tab k call) (wr : Nat → Bool) : PSs X (defBody (clsAt (top 36) 1)) (rdS X.K wr (b_Program_function_of call wr)) :=
    (ss_cons (sp_if (sn_not (x_call B (xa_cons (x_var B) ra_nil))) (ss_cons sp_stuck
      ss_nil) ss_nil)
    (ss_cons (z_try B (fun Y B => (ss_cons (sp_ret (x_ix B (x_fld B (x_var B)) (x_var B)))
      ss_nil)))
    ss_nil))

/-! is_formed -/
def n_is_formed : List Str := ["thing", "form", "sort", "part"]
def b_is_formed (call : CallF) (wr : Nat → Bool) : SF :=
    (sSeq (sIf (eOr (eNot (eIsi tab (.bt "tuple") (eVar 0))) (eOr (eOp fEq (eVar 0) (eTup aNil)) (eOr (eNot (eIsi tab (.bt "str") (eOp (fIxT tab) (eVar 0) (eCst (.int 0))))) (eOp (fNotInT tab) (eOp (fIxT tab) (eVar 0) (eCst (.int 0))) (eGlo tab "FORMS"))))) (sSeq (sRet (eCst (.bl false)))
      sNext) sNext)
    (sSeq (sAsg (eOp (fIxT tab) (eGlo tab "FORMS") (eOp (fIxT tab) (eVar 0) (eCst (.int 0)))) (gNm 1))
    (sSeq (sRet (eAnd (eOp fEq (eCall gLen (aCons (eVar 0) aNil)) (eOp fAdd (eCst (.int 1)) (eCall gLen (aCons (eVar 1) aNil)))) (eCall gAll (aCons (eLc wr [2, 3] (iZipF (eVar 1) (eSl fSl (eVar 0) (pSome (eCst (.int 1))) pNone)) (gTp 2 (gsCons (gNm 2) (gsCons (gNm 3) gsNil))) (fun wr => tfY) (fun wr => (eFn tab call wr "is_plain" (aCons (eVar 2) (aCons (eVar 3) aNil))))) aNil))))
    sNext)))
theorem p_is_formed {X : Cx} {k : Nat} {call : CallF} (B : BX X n_is_formed (defScope (top 28)) allF tab k call) (wr : Nat → Bool) : PSs X (defBody (top 28)) (rdS X.K wr (b_is_formed call wr)) :=
    (ss_cons (sp_if (sb_or (sn_not (x_isi B (.bt "tuple") (x_var B) ⟨by decide, by decide +kernel, by decide +kernel, by decide⟩)) (sb_or (x_cmp (o_eq B) (x_var B) (sn_tup ra_nil)) (sb_or (sn_not (x_isi B (.bt "str") (x_ix B (x_var B) x_int) ⟨by decide, by decide +kernel, by decide +kernel, by decide⟩)) (sb_or1 (x_cmp (o_notIn B) (x_ix B (x_var B) x_int) (x_glo B)))))).snd (ss_cons (sp_ret x_bl)
      ss_nil) ss_nil)
    (ss_cons (z_set B (x_ix B (x_glo B) (x_ix B (x_var B) x_int)))
    (ss_cons (sp_ret (sb_and (x_cmp (o_eq B) (x_fun B s_len (xa_cons (x_var B) ra_nil)) (x_add B x_int (x_fun B s_len (xa_cons (x_var B) ra_nil)))) (sb_and1 (x_fun B (s_all B.calm) (xa_cons (x_lc B [("sort", 2), ("part", 3)] (i_zip B (x_var B) (x_sl B (x_var B) (rp_some x_int) rp_none)) (fun Y B => (y_tp B (ys_cons (y_nm B) (ys_cons (y_nm B) sgs_nil)))) (fun Y wr B => st_nil) (fun Y wr B => (x_call B (xa_cons (x_var B) (xa_cons (x_var B) ra_nil))))) ra_nil)))).snd)
    ss_nil)))

/-! parts_of -/
def n_parts_of : List Str := ["body", "found", "sort", "part"]
def b_parts_of (call : CallF) (wr : Nat → Bool) : SF :=
    (sSeq (sAsg (eLst aNil) (gNm 1))
    (sSeq (sFor wr (iZipF (eOp (fIxT tab) (eGlo tab "FORMS") (eOp (fIxT tab) (eVar 0) (eCst (.int 0)))) (eSl fSl (eVar 0) (pSome (eCst (.int 1))) pNone)) (gTp 2 (gsCons (gNm 2) (gsCons (gNm 3) gsNil))) (fun wr => (sSeq (sIf (eOp fEq (eVar 2) (eCst (.str "e"))) (sSeq (sDrop (eMeth "list" (mAppend wr) (eVar 1) (aCons (eVar 3) aNil)))
        sNext) (sSeq (sIf (eOp fEq (eVar 2) (eCst (.str "s"))) (sSeq (sDrop (eMeth "list" (mExtend wr) (eVar 1) (aCons (eVar 3) aNil)))
          sNext) sNext)
        sNext))
      sNext)))
    (sSeq (sRet (eVar 1))
    sNext)))
theorem p_parts_of {X : Cx} {k : Nat} {call : CallF} (B : BX X n_parts_of (defScope (top 29)) allF tab k call) (wr : Nat → Bool) : PSs X (defBody (top 29)) (rdS X.K wr (b_parts_of call wr)) :=
    (ss_cons (z_set B (sn_lst ra_nil))
    (ss_cons (z_for B (i_zip B (x_ix B (x_glo B) (x_ix B (x_var B) x_int)) (x_sl B (x_var B) (rp_some x_int) rp_none)) (y_tp B (ys_cons (y_nm B) (ys_cons (y_nm B) sgs_nil))) (fun wr => (ss_cons (sp_if (x_cmp (o_eq B) (x_var B) x_str) (ss_cons (z_expr (x_meth F.plainAttrs_list F.slot_list_append F.type_list_append s_append (x_var B) (xa_cons (x_var B) ra_nil)))
        ss_nil) (ss_cons (sp_if (x_cmp (o_eq B) (x_var B) x_str) (ss_cons (z_expr (x_meth F.plainAttrs_list F.slot_list_extend F.type_list_extend s_extend (x_var B) (xa_cons (x_var B) ra_nil)))
          ss_nil) ss_nil)
        ss_nil))
      ss_nil)))
    (ss_cons (sp_ret (x_var B))
    ss_nil)))

/-! need_program -/
def n_need_program : List Str := ["thing"]
def b_need_program (call : CallF) (wr : Nat → Bool) : SF :=
    (sSeq (sIf (eNot (eIsi tab (.cl "Program") (eVar 0))) (sSeq sStuck
      sNext) sNext)
    sNext)
theorem p_need_program {X : Cx} {k : Nat} {call : CallF} (B : BX X n_need_program (defScope (top 37)) allF tab k call) (wr : Nat → Bool) : PSs X (defBody (top 37)) (rdS X.K wr (b_need_program call wr)) :=
    (ss_cons (sp_if (sn_not (x_isi B (.cl "Program") (x_var B) ⟨rfl, by decide +kernel⟩)) (ss_cons sp_stuck
      ss_nil) ss_nil)
    ss_nil)

/-! Program_first_wrong -/
def n_Program_first_wrong : List Str := ["self", "name", "params", "body", "found"]
def b_Program_first_wrong (call : CallF) (wr : Nat → Bool) : SF :=
    (sSeq (sForD wr mI (fun wr => (eFld tab "functions" (eVar 0))) (gTp 2 (gsCons (gNm 1) (gsCons (gTp 2 (gsCons (gNm 2) (gsCons (gNm 3) gsNil))) gsNil))) (fun wr => (sSeq (sAsg (eOwn tab call wr "wrong_in" (eVar 0) (aCons (eVar 3) (aCons (eVar 2) aNil))) (gNm 4))
      (sSeq (sIf (eOp fIsNot (eVar 4) (eCst .non)) (sSeq (sRet (eTup (aCons (eVar 1) (aCons (eOp (fIxT tab) (eVar 4) (eCst (.int 0))) (aCons (eOp (fIxT tab) (eVar 4) (eCst (.int 1))) aNil)))))
        sNext) sNext)
      sNext))))
    (sSeq (sRet (eCst .non))
    sNext))
theorem p_Program_first_wrong {X : Cx} {k : Nat} {call : CallF} (B : BX X n_Program_first_wrong (defScope (clsAt (top 36) 11)) allF tab k call) (wr : Nat → Bool) : PSs X (defBody (clsAt (top 36) 11)) (rdS X.K wr (b_Program_first_wrong call wr)) :=
    (ss_cons (z_forD B (fun wr => (i_items (x_fld B (x_var B)))) (y_tp B (ys_cons (y_nm B) (ys_cons (y_tp B (ys_cons (y_nm B) (ys_cons (y_nm B) sgs_nil))) sgs_nil))) (fun wr => (ss_cons (z_set B (x_own B (x_var B) (xa_cons (x_var B) (xa_cons (x_var B) ra_nil))))
      (ss_cons (sp_if (x_cmp (o_isNot B) (x_var B) x_non) (ss_cons (sp_ret (sn_tup (xa_cons (x_var B) (xa_cons (x_ix B (x_var B) x_int) (xa_cons (x_ix B (x_var B) x_int) ra_nil)))))
        ss_nil) ss_nil)
      ss_nil))))
    (ss_cons (sp_ret x_non)
    ss_nil))

/-! must_be_atoms -/
def n_must_be_atoms : List Str := ["body"]
def b_must_be_atoms (call : CallF) (wr : Nat → Bool) : SF :=
    (sSeq (sIf (eOp (fInT tab) (eOp (fIxT tab) (eVar 0) (eCst (.int 0))) (eTup (aCons (eCst (.str "do")) (aCons (eCst (.str "say")) (aCons (eCst (.str "call")) (aCons (eCst (.str "ask")) aNil)))))) (sSeq (sRet (eFn tab call wr "parts_of" (aCons (eVar 0) aNil)))
      sNext) sNext)
    (sSeq (sRet (eIte (eOp fEq (eOp (fIxT tab) (eVar 0) (eCst (.int 0))) (eCst (.str "if"))) (eLst (aCons (eOp (fIxT tab) (eVar 0) (eCst (.int 1))) aNil)) (eLst aNil)))
    sNext))
theorem p_must_be_atoms {X : Cx} {k : Nat} {call : CallF} (B : BX X n_must_be_atoms (defScope (top 31)) allF tab k call) (wr : Nat → Bool) : PSs X (defBody (top 31)) (rdS X.K wr (b_must_be_atoms call wr)) :=
    (ss_cons (sp_if (x_cmp (o_in B) (x_ix B (x_var B) x_int) (sn_tup (xa_cons x_str (xa_cons x_str (xa_cons x_str (xa_cons x_str ra_nil)))))) (ss_cons (sp_ret (x_call B (xa_cons (x_var B) ra_nil)))
      ss_nil) ss_nil)
    (ss_cons (sp_ret (sn_ite (x_cmp (o_eq B) (x_ix B (x_var B) x_int) x_str) (sn_lst (xa_cons (x_ix B (x_var B) x_int) ra_nil)) (sn_lst ra_nil)))
    ss_nil))

/-! is_plain -/
def n_is_plain : List Str := ["sort", "thing"]
def b_is_plain (call : CallF) (wr : Nat → Bool) : SF :=
    (sSeq (sIf (eOp fEq (eVar 0) (eCst (.str "n"))) (sSeq (sRet (eFn tab call wr "is_number" (aCons (eVar 1) aNil)))
      sNext) sNext)
    (sSeq (sIf (eOp fEq (eVar 0) (eCst (.str "d"))) (sSeq (sRet (eAnd (eIsi tab (.bt "str") (eVar 1)) (eOp (fInT tab) (eVar 1) (eGlo tab "DEEDS"))))
      sNext) sNext)
    (sSeq (sIf (eOp fEq (eVar 0) (eCst (.str "s"))) (sSeq (sRet (eAnd (eIsi tab (.bt "tuple") (eVar 1)) (eOp (cmpI fun i j => decide (i ≤ j)) (eCall gLen (aCons (eVar 1) aNil)) (eGlo tab "MOST_PARAMS"))))
      sNext) sNext)
    (sSeq (sRet (eOr (eOp fEq (eVar 0) (eCst (.str "e"))) (eFn tab call wr "is_name" (aCons (eVar 1) aNil))))
    sNext))))
theorem p_is_plain {X : Cx} {k : Nat} {call : CallF} (B : BX X n_is_plain (defScope (top 27)) allF tab k call) (wr : Nat → Bool) : PSs X (defBody (top 27)) (rdS X.K wr (b_is_plain call wr)) :=
    (ss_cons (sp_if (x_cmp (o_eq B) (x_var B) x_str) (ss_cons (sp_ret (x_call B (xa_cons (x_var B) ra_nil)))
      ss_nil) ss_nil)
    (ss_cons (sp_if (x_cmp (o_eq B) (x_var B) x_str) (ss_cons (sp_ret (sb_and (x_isi B (.bt "str") (x_var B) ⟨by decide, by decide +kernel, by decide +kernel, by decide⟩) (sb_and1 (x_cmp (o_in B) (x_var B) (x_glo B)))).snd)
      ss_nil) ss_nil)
    (ss_cons (sp_if (x_cmp (o_eq B) (x_var B) x_str) (ss_cons (sp_ret (sb_and (x_isi B (.bt "tuple") (x_var B) ⟨by decide, by decide +kernel, by decide +kernel, by decide⟩) (sb_and1 (x_cmp (o_le B) (x_fun B s_len (xa_cons (x_var B) ra_nil)) (x_glo B)))).snd)
      ss_nil) ss_nil)
    (ss_cons (sp_ret (sb_or (x_cmp (o_eq B) (x_var B) x_str) (sb_or1 (x_call B (xa_cons (x_var B) ra_nil)))).snd)
    ss_nil))))

/-! Program_wrong_in -/
def n_Program_wrong_in : List Str := ["self", "body", "bound", "waiting", "place", "here", "around", "word", "rows", "more", "k", "part", "at", "names"]
def b_Program_wrong_in (call : CallF) (wr : Nat → Bool) : SF :=
    (sSeq (sAsg (eLst (aCons (eTup (aCons (eTup aNil) (aCons (eVar 1) (aCons (eVar 2) aNil)))) aNil)) (gNm 3))
    (sSeq (whileF (eOp fNe (eVar 3) (eLst aNil)) (sSeq (sAsg (eMeth "list" (mPop wr) (eVar 3) aNil) (gTp 3 (gsCons (gNm 4) (gsCons (gNm 5) (gsCons (gNm 6) gsNil)))))
      (sSeq (sAsg (eOwn tab call wr "wrong_here" (eVar 0) (aCons (eVar 5) (aCons (eVar 6) aNil))) (gNm 7))
      (sSeq (sIf (eOp fIsNot (eVar 7) (eCst .non)) (sSeq (sRet (eTup (aCons (eVar 4) (aCons (eVar 7) aNil))))
        sNext) sNext)
      (sSeq (sAsg (eLc wr [10, 11] (iEnumF (eFn tab call wr "parts_of" (aCons (eVar 5) aNil))) (gTp 2 (gsCons (gNm 10) (gsCons (gNm 11) gsNil))) (fun wr => tfY) (fun wr => (eTup (aCons (eOp fAdd (eVar 4) (eTup (aCons (eVar 10) aNil))) (aCons (eVar 11) aNil))))) (gNm 8))
      (sSeq (sAsg (eLc wr [12, 11, 13] (iZipF (eVar 8) (eFn tab call wr "bound_within" (aCons (eVar 5) (aCons (eVar 6) aNil)))) (gTp 2 (gsCons (gTp 2 (gsCons (gNm 12) (gsCons (gNm 11) gsNil))) (gsCons (gNm 13) gsNil))) (fun wr => tfY) (fun wr => (eTup (aCons (eVar 12) (aCons (eVar 11) (aCons (eVar 13) aNil)))))) (gNm 9))
      (sSeq (sDrop (eMeth "list" (mExtend wr) (eVar 3) (aCons (eRevL (eVar 9)) aNil)))
      sNext)))))) fuelN)
    (sSeq (sRet (eCst .non))
    sNext)))
theorem p_Program_wrong_in {X : Cx} {k : Nat} {call : CallF} (B : BX X n_Program_wrong_in (defScope (clsAt (top 36) 10)) allF tab k call) (wr : Nat → Bool) : PSs X (defBody (clsAt (top 36) 10)) (rdS X.K wr (b_Program_wrong_in call wr)) :=
    (ss_cons (z_set B (sn_lst (xa_cons (sn_tup (xa_cons (sn_tup ra_nil) (xa_cons (x_var B) (xa_cons (x_var B) ra_nil)))) ra_nil)))
    (ss_cons (z_while B (x_cmp (o_ne B) (x_var B) (sn_lst ra_nil)) (ss_cons (z_asg (x_meth0 F.plainAttrs_list F.slot_list_pop F.type_list_pop s_pop (x_var B)) (y_tp B (ys_cons (y_cl B) (ys_cons (y_nm B) (ys_cons (y_nm B) sgs_nil)))))
      (ss_cons (z_set B (x_own B (x_var B) (xa_cons (x_var B) (xa_cons (x_var B) ra_nil))))
      (ss_cons (sp_if (x_cmp (o_isNot B) (x_var B) x_non) (ss_cons (sp_ret (sn_tup (xa_cons (x_var B) (xa_cons (x_var B) ra_nil))))
        ss_nil) ss_nil)
      (ss_cons (z_setLc B [("k", 10), ("part", 11)] (i_enum B (x_call B (xa_cons (x_var B) ra_nil))) (fun Y B => (y_tp B (ys_cons (y_nm B) (ys_cons (y_nm B) sgs_nil)))) (fun Y wr B => st_nil) (fun Y wr B => (sn_tup (xa_cons (x_add B (x_var B) (sn_tup (xa_cons (x_var B) ra_nil))) (xa_cons (x_var B) ra_nil)))))
      (ss_cons (z_setLc B [("at", 12), ("part", 11), ("names", 13)] (i_zip B (x_var B) (x_call B (xa_cons (x_var B) (xa_cons (x_var B) ra_nil)))) (fun Y B => (y_tp B (ys_cons (y_tp B (ys_cons (y_nm B) (ys_cons (y_nm B) sgs_nil))) (ys_cons (y_nm B) sgs_nil)))) (fun Y wr B => st_nil) (fun Y wr B => (sn_tup (xa_cons (x_var B) (xa_cons (x_var B) (xa_cons (x_var B) ra_nil))))))
      (ss_cons (z_expr (x_meth F.plainAttrs_list F.slot_list_extend F.type_list_extend s_extend (x_var B) (xa_cons (x_rev (x_var B)) ra_nil)))
      ss_nil)))))))
    (ss_cons (sp_ret x_non)
    ss_nil)))

/-! is_number -/
def n_is_number : List Str := ["thing"]
def b_is_number (call : CallF) (wr : Nat → Bool) : SF :=
    (sSeq (sRet (eFn tab call wr "is_whole_number" (aCons (eVar 0) (aCons (eOp fSub (eCst (.int 0)) (eGlo tab "MOST_NUMBER")) (aCons (eGlo tab "MOST_NUMBER") aNil)))))
    sNext)
theorem p_is_number {X : Cx} {k : Nat} {call : CallF} (B : BX X n_is_number (defScope (top 24)) allF tab k call) (wr : Nat → Bool) : PSs X (defBody (top 24)) (rdS X.K wr (b_is_number call wr)) :=
    (ss_cons (sp_ret (x_call B (xa_cons (x_var B) (xa_cons (x_sub B x_int (x_glo B)) (xa_cons (x_glo B) ra_nil)))))
    ss_nil)

/-! Program_wrong_here -/
def n_Program_wrong_here : List Str := ["self", "body", "bound", "is_right"]
def b_Program_wrong_here (call : CallF) (wr : Nat → Bool) : SF :=
    (sSeq (sIf (eOp fEq (eOp (fIxT tab) (eVar 1) (eCst (.int 0))) (eCst (.str "name"))) (sSeq (sRet (eIte (eOp (fInT tab) (eOp (fIxT tab) (eVar 1) (eCst (.int 1))) (eVar 2)) (eCst .non) (eCst (.str "unbound"))))
      sNext) sNext)
    (sSeq (sIf (eOp (fNotInT tab) (eOp (fIxT tab) (eVar 1) (eCst (.int 0))) (eTup (aCons (eCst (.str "fn")) (aCons (eCst (.str "call")) aNil)))) (sSeq (sRet (eCst .non))
      sNext) sNext)
    (sSeq (sIf (eOp (fNotInT tab) (eOp (fIxT tab) (eVar 1) (eCst (.int 1))) (eFld tab "functions" (eVar 0))) (sSeq (sRet (eCst (.str "nofunction")))
      sNext) sNext)
    (sSeq (sAsg (eOr (eOp fEq (eOp (fIxT tab) (eVar 1) (eCst (.int 0))) (eCst (.str "fn"))) (eOp fEq (eCall gLen (aCons (eOp (fIxT tab) (eVar 1) (eCst (.int 2))) aNil)) (eCall gLen (aCons (eOp (fIxT tab) (eOp (fIxT tab) (eFld tab "functions" (eVar 0)) (eOp (fIxT tab) (eVar 1) (eCst (.int 1)))) (eCst (.int 0))) aNil)))) (gNm 3))
    (sSeq (sRet (eIte (eVar 3) (eCst .non) (eCst (.str "count"))))
    sNext)))))
theorem p_Program_wrong_here {X : Cx} {k : Nat} {call : CallF} (B : BX X n_Program_wrong_here (defScope (clsAt (top 36) 9)) allF tab k call) (wr : Nat → Bool) : PSs X (defBody (clsAt (top 36) 9)) (rdS X.K wr (b_Program_wrong_here call wr)) :=
    (ss_cons (sp_if (x_cmp (o_eq B) (x_ix B (x_var B) x_int) x_str) (ss_cons (sp_ret (sn_ite (x_cmp (o_in B) (x_ix B (x_var B) x_int) (x_var B)) x_non x_str))
      ss_nil) ss_nil)
    (ss_cons (sp_if (x_cmp (o_notIn B) (x_ix B (x_var B) x_int) (sn_tup (xa_cons x_str (xa_cons x_str ra_nil)))) (ss_cons (sp_ret x_non)
      ss_nil) ss_nil)
    (ss_cons (sp_if (x_cmp (o_notIn B) (x_ix B (x_var B) x_int) (x_fld B (x_var B))) (ss_cons (sp_ret x_str)
      ss_nil) ss_nil)
    (ss_cons (z_set B (sb_or (x_cmp (o_eq B) (x_ix B (x_var B) x_int) x_str) (sb_or1 (x_cmp (o_eq B) (x_fun B s_len (xa_cons (x_ix B (x_var B) x_int) ra_nil)) (x_fun B s_len (xa_cons (x_ix B (x_ix B (x_fld B (x_var B)) (x_ix B (x_var B) x_int)) x_int) ra_nil))))).snd)
    (ss_cons (sp_ret (sn_ite (x_var B) x_non x_str))
    ss_nil)))))

/-! bound_within -/
def n_bound_within : List Str := ["body", "bound", "part"]
def b_bound_within (call : CallF) (wr : Nat → Bool) : SF :=
    (sSeq (sIf (eOp fEq (eOp (fIxT tab) (eVar 0) (eCst (.int 0))) (eCst (.str "let"))) (sSeq (sRet (eLst (aCons (eVar 1) (aCons (eOp fAdd (eVar 1) (eTup (aCons (eOp (fIxT tab) (eVar 0) (eCst (.int 1))) aNil))) aNil))))
      sNext) sNext)
    (sSeq (sRet (eLc wr [2] (iOf (eFn tab call wr "parts_of" (aCons (eVar 0) aNil))) (gNm 2) (fun wr => tfY) (fun wr => (eVar 1))))
    sNext))
theorem p_bound_within {X : Cx} {k : Nat} {call : CallF} (B : BX X n_bound_within (defScope (top 35)) allF tab k call) (wr : Nat → Bool) : PSs X (defBody (top 35)) (rdS X.K wr (b_bound_within call wr)) :=
    (ss_cons (sp_if (x_cmp (o_eq B) (x_ix B (x_var B) x_int) x_str) (ss_cons (sp_ret (sn_lst (xa_cons (x_var B) (xa_cons (x_add B (x_var B) (sn_tup (xa_cons (x_ix B (x_var B) x_int) ra_nil))) ra_nil))))
      ss_nil) ss_nil)
    (ss_cons (sp_ret (x_lc B [("part", 2)] (si_of (x_call B (xa_cons (x_var B) ra_nil))) (fun Y B => (y_nm B)) (fun Y wr B => st_nil) (fun Y wr B => (x_var B))))
    ss_nil))

/-! is_whole_number -/
def n_is_whole_number : List Str := ["thing", "least", "most"]
def b_is_whole_number (call : CallF) (wr : Nat → Bool) : SF :=
    (sSeq (sRet (eAnd (eIsi tab (.bt "int") (eVar 0)) (eAnd (eNot (eIsi tab (.bt "bool") (eVar 0))) (eChain (cmpI fun i j => decide (i ≤ j)) (cmpI fun i j => decide (i ≤ j)) (eVar 1) (eVar 0) (eVar 2)))))
    sNext)
theorem p_is_whole_number {X : Cx} {k : Nat} {call : CallF} (B : BX X n_is_whole_number (defScope (top 23)) allF tab k call) (wr : Nat → Bool) : PSs X (defBody (top 23)) (rdS X.K wr (b_is_whole_number call wr)) :=
    (ss_cons (sp_ret (sb_and (x_isi B (.bt "int") (x_var B) ⟨by decide, by decide +kernel, by decide +kernel, by decide⟩) (sb_and (sn_not (x_isi B (.bt "bool") (x_var B) ⟨by decide, by decide +kernel, by decide +kernel, by decide⟩)) (sb_and1 (x_chain (o_le B) (o_le B) (x_var B) (x_var B) (x_var B))))).snd)
    ss_nil)

def bodL : List (FKey × (CallF → (Nat → Bool) → SF)) := [
  ((("law", none) : FKey), (b_law : CallF → (Nat → Bool) → SF)),
  ((("_law_cell", none) : FKey), (b__law_cell : CallF → (Nat → Bool) → SF)),
  ((("_law_pairs", none) : FKey), (b__law_pairs : CallF → (Nat → Bool) → SF)),
  ((("_law_number", none) : FKey), (b__law_number : CallF → (Nat → Bool) → SF)),
  ((("Program", some "__init__") : FKey), (b_Program___init__ : CallF → (Nat → Bool) → SF)),
  ((("Program", some "put") : FKey), (b_Program_put : CallF → (Nat → Bool) → SF)),
  ((("Program", some "__str__") : FKey), (b_Program___str__ : CallF → (Nat → Bool) → SF)),
  ((("rested", none) : FKey), (b_rested : CallF → (Nat → Bool) → SF)),
  ((("need_function", none) : FKey), (b_need_function : CallF → (Nat → Bool) → SF)),
  ((("function_text", none) : FKey), (b_function_text : CallF → (Nat → Bool) → SF)),
  ((("need_normal", none) : FKey), (b_need_normal : CallF → (Nat → Bool) → SF)),
  ((("Program", some "names") : FKey), (b_Program_names : CallF → (Nat → Bool) → SF)),
  ((("body_in_rests", none) : FKey), (b_body_in_rests : CallF → (Nat → Bool) → SF)),
  ((("Program", some "body_of") : FKey), (b_Program_body_of : CallF → (Nat → Bool) → SF)),
  ((("Program", some "params_of") : FKey), (b_Program_params_of : CallF → (Nat → Bool) → SF)),
  ((("is_name", none) : FKey), (b_is_name : CallF → (Nat → Bool) → SF)),
  ((("is_params", none) : FKey), (b_is_params : CallF → (Nat → Bool) → SF)),
  ((("is_expression", none) : FKey), (b_is_expression : CallF → (Nat → Bool) → SF)),
  ((("expression_text", none) : FKey), (b_expression_text : CallF → (Nat → Bool) → SF)),
  ((("need_whole", none) : FKey), (b_need_whole : CallF → (Nat → Bool) → SF)),
  ((("is_normal_body", none) : FKey), (b_is_normal_body : CallF → (Nat → Bool) → SF)),
  ((("waits", none) : FKey), (b_waits : CallF → (Nat → Bool) → SF)),
  ((("with_rest", none) : FKey), (b_with_rest : CallF → (Nat → Bool) → SF)),
  ((("Program", some "function_of") : FKey), (b_Program_function_of : CallF → (Nat → Bool) → SF)),
  ((("is_formed", none) : FKey), (b_is_formed : CallF → (Nat → Bool) → SF)),
  ((("parts_of", none) : FKey), (b_parts_of : CallF → (Nat → Bool) → SF)),
  ((("need_program", none) : FKey), (b_need_program : CallF → (Nat → Bool) → SF)),
  ((("Program", some "first_wrong") : FKey), (b_Program_first_wrong : CallF → (Nat → Bool) → SF)),
  ((("must_be_atoms", none) : FKey), (b_must_be_atoms : CallF → (Nat → Bool) → SF)),
  ((("is_plain", none) : FKey), (b_is_plain : CallF → (Nat → Bool) → SF)),
  ((("Program", some "wrong_in") : FKey), (b_Program_wrong_in : CallF → (Nat → Bool) → SF)),
  ((("is_number", none) : FKey), (b_is_number : CallF → (Nat → Bool) → SF)),
  ((("Program", some "wrong_here") : FKey), (b_Program_wrong_here : CallF → (Nat → Bool) → SF)),
  ((("bound_within", none) : FKey), (b_bound_within : CallF → (Nat → Bool) → SF)),
  ((("is_whole_number", none) : FKey), (b_is_whole_number : CallF → (Nat → Bool) → SF))]
def bod : Bodies := fun key call wr => match lookF key bodL with
  | some f => f call wr
  | none => sStuck
def dfL : List He.DefD := [
  (⟨("law", none), "law", "law", defArgs (top 51), defBody (top 51), defScope (top 51), [], []⟩ : He.DefD),
  (⟨("_law_cell", none), "_law_cell", "_law_cell", defArgs (top 48), defBody (top 48), defScope (top 48), [], []⟩ : He.DefD),
  (⟨("_law_pairs", none), "_law_pairs", "_law_pairs", defArgs (top 50), defBody (top 50), defScope (top 50), [], []⟩ : He.DefD),
  (⟨("_law_number", none), "_law_number", "_law_number", defArgs (top 49), defBody (top 49), defScope (top 49), [], []⟩ : He.DefD),
  (⟨("Program", some "__init__"), "__init__", "Program.__init__", defArgs (clsAt (top 36) 0), defBody (clsAt (top 36) 0), defScope (clsAt (top 36) 0), [], []⟩ : He.DefD),
  (⟨("Program", some "put"), "put", "Program.put", defArgs (clsAt (top 36) 2), defBody (clsAt (top 36) 2), defScope (clsAt (top 36) 2), [], []⟩ : He.DefD),
  (⟨("Program", some "__str__"), "__str__", "Program.__str__", defArgs (clsAt (top 36) 14), defBody (clsAt (top 36) 14), defScope (clsAt (top 36) 14), [], []⟩ : He.DefD),
  (⟨("rested", none), "rested", "rested", defArgs (top 46), defBody (top 46), defScope (top 46), [], []⟩ : He.DefD),
  (⟨("need_function", none), "need_function", "need_function", defArgs (top 34), defBody (top 34), defScope (top 34), [], []⟩ : He.DefD),
  (⟨("function_text", none), "function_text", "function_text", defArgs (top 41), defBody (top 41), defScope (top 41), [], []⟩ : He.DefD),
  (⟨("need_normal", none), "need_normal", "need_normal", defArgs (top 39), defBody (top 39), defScope (top 39), [], []⟩ : He.DefD),
  (⟨("Program", some "names"), "names", "Program.names", defArgs (clsAt (top 36) 5), defBody (clsAt (top 36) 5), defScope (clsAt (top 36) 5), [], []⟩ : He.DefD),
  (⟨("body_in_rests", none), "body_in_rests", "body_in_rests", defArgs (top 45), defBody (top 45), defScope (top 45), [], []⟩ : He.DefD),
  (⟨("Program", some "body_of"), "body_of", "Program.body_of", defArgs (clsAt (top 36) 7), defBody (clsAt (top 36) 7), defScope (clsAt (top 36) 7), [], []⟩ : He.DefD),
  (⟨("Program", some "params_of"), "params_of", "Program.params_of", defArgs (clsAt (top 36) 6), defBody (clsAt (top 36) 6), defScope (clsAt (top 36) 6), [], []⟩ : He.DefD),
  (⟨("is_name", none), "is_name", "is_name", defArgs (top 25), defBody (top 25), defScope (top 25), [], []⟩ : He.DefD),
  (⟨("is_params", none), "is_params", "is_params", defArgs (top 26), defBody (top 26), defScope (top 26), [], []⟩ : He.DefD),
  (⟨("is_expression", none), "is_expression", "is_expression", defArgs (top 30), defBody (top 30), defScope (top 30), [], []⟩ : He.DefD),
  (⟨("expression_text", none), "expression_text", "expression_text", defArgs (top 40), defBody (top 40), defScope (top 40), [], []⟩ : He.DefD),
  (⟨("need_whole", none), "need_whole", "need_whole", defArgs (top 38), defBody (top 38), defScope (top 38), [], []⟩ : He.DefD),
  (⟨("is_normal_body", none), "is_normal_body", "is_normal_body", defArgs (top 32), defBody (top 32), defScope (top 32), [], []⟩ : He.DefD),
  (⟨("waits", none), "waits", "waits", defArgs (top 33), defBody (top 33), defScope (top 33), [], []⟩ : He.DefD),
  (⟨("with_rest", none), "with_rest", "with_rest", defArgs (top 44), defBody (top 44), defScope (top 44), [], []⟩ : He.DefD),
  (⟨("Program", some "function_of"), "function_of", "Program.function_of", defArgs (clsAt (top 36) 1), defBody (clsAt (top 36) 1), defScope (clsAt (top 36) 1), [], []⟩ : He.DefD),
  (⟨("is_formed", none), "is_formed", "is_formed", defArgs (top 28), defBody (top 28), defScope (top 28), [], []⟩ : He.DefD),
  (⟨("parts_of", none), "parts_of", "parts_of", defArgs (top 29), defBody (top 29), defScope (top 29), [], []⟩ : He.DefD),
  (⟨("need_program", none), "need_program", "need_program", defArgs (top 37), defBody (top 37), defScope (top 37), [], []⟩ : He.DefD),
  (⟨("Program", some "first_wrong"), "first_wrong", "Program.first_wrong", defArgs (clsAt (top 36) 11), defBody (clsAt (top 36) 11), defScope (clsAt (top 36) 11), [], []⟩ : He.DefD),
  (⟨("must_be_atoms", none), "must_be_atoms", "must_be_atoms", defArgs (top 31), defBody (top 31), defScope (top 31), [], []⟩ : He.DefD),
  (⟨("is_plain", none), "is_plain", "is_plain", defArgs (top 27), defBody (top 27), defScope (top 27), [], []⟩ : He.DefD),
  (⟨("Program", some "wrong_in"), "wrong_in", "Program.wrong_in", defArgs (clsAt (top 36) 10), defBody (clsAt (top 36) 10), defScope (clsAt (top 36) 10), [], []⟩ : He.DefD),
  (⟨("is_number", none), "is_number", "is_number", defArgs (top 24), defBody (top 24), defScope (top 24), [], []⟩ : He.DefD),
  (⟨("Program", some "wrong_here"), "wrong_here", "Program.wrong_here", defArgs (clsAt (top 36) 9), defBody (clsAt (top 36) 9), defScope (clsAt (top 36) 9), [], []⟩ : He.DefD),
  (⟨("bound_within", none), "bound_within", "bound_within", defArgs (top 35), defBody (top 35), defScope (top 35), [], []⟩ : He.DefD),
  (⟨("is_whole_number", none), "is_whole_number", "is_whole_number", defArgs (top 23), defBody (top 23), defScope (top 23), [], []⟩ : He.DefD)]
def tsL : List He.Tab := kdL.map fun q => (fun K => He.ga K q.1, q.2.map (·.1))
section
variable {P : Program} {w : World} {K : Frg} {mg : Str → Option Value} {base : Heap} {h : Heap}
theorem k_law (c : He.SaysD [] dfL K) (t : TabOk tab K mg w) : BodOk P w K mg base tab bod ("law", none) (fnL.getD 0 (("", none), ⟨[], [], 0, false, []⟩)).2 := by
  obtain ⟨fd, F⟩ := c.def_ 0 rfl
  have F : FunD K "law" "law" (defArgs (top 51)) (defBody (top 51)) (defScope (top 51)) [] [] (He.fAd K ("law", none)) fd := F
  exact ⟨n_law, _, _, _, _, _, _, _, fd, F, ⟨rfl, rfl, rfl, by decide +kernel, rfl, by decide +kernel, by decide +kernel⟩, rfl, binds0 F rfl (fun kV doc pm an cdv ct us hl => match us, hl with | [_], _ => rfl) (fun n hn => (nomatch hn)),
    fun k call C f cdv A outer s H hA hr wr => p_law ⟨rfl, rfl, by decide +kernel, rfl, rfl, rfl, hr, hA, t, C⟩ wr⟩
theorem k__law_cell (c : He.SaysD [] dfL K) (t : TabOk tab K mg w) : BodOk P w K mg base tab bod ("_law_cell", none) (fnL.getD 1 (("", none), ⟨[], [], 0, false, []⟩)).2 := by
  obtain ⟨fd, F⟩ := c.def_ 1 rfl
  have F : FunD K "_law_cell" "_law_cell" (defArgs (top 48)) (defBody (top 48)) (defScope (top 48)) [] [] (He.fAd K ("_law_cell", none)) fd := F
  exact ⟨n__law_cell, _, _, _, _, _, _, _, fd, F, ⟨rfl, rfl, rfl, by decide +kernel, rfl, by decide +kernel, by decide +kernel⟩, rfl, binds0 F rfl (fun kV doc pm an cdv ct us hl => match us, hl with | [_, _], _ => rfl) (fun n hn => (nomatch hn)),
    fun k call C f cdv A outer s H hA hr wr => p__law_cell ⟨rfl, rfl, by decide +kernel, rfl, rfl, rfl, hr, hA, t, C⟩ wr⟩
theorem k__law_pairs (c : He.SaysD [] dfL K) (t : TabOk tab K mg w) : BodOk P w K mg base tab bod ("_law_pairs", none) (fnL.getD 2 (("", none), ⟨[], [], 0, false, []⟩)).2 := by
  obtain ⟨fd, F⟩ := c.def_ 2 rfl
  have F : FunD K "_law_pairs" "_law_pairs" (defArgs (top 50)) (defBody (top 50)) (defScope (top 50)) [] [] (He.fAd K ("_law_pairs", none)) fd := F
  exact ⟨n__law_pairs, _, _, _, _, _, _, _, fd, F, ⟨rfl, rfl, rfl, by decide +kernel, rfl, by decide +kernel, by decide +kernel⟩, rfl, binds0 F rfl (fun kV doc pm an cdv ct us hl => match us, hl with | [_, _, _, _], _ => rfl) (fun n hn => (nomatch hn)),
    fun k call C f cdv A outer s H hA hr wr => p__law_pairs ⟨rfl, rfl, by decide +kernel, rfl, rfl, rfl, hr, hA, t, C⟩ wr⟩
theorem k__law_number (c : He.SaysD [] dfL K) (t : TabOk tab K mg w) : BodOk P w K mg base tab bod ("_law_number", none) (fnL.getD 3 (("", none), ⟨[], [], 0, false, []⟩)).2 := by
  obtain ⟨fd, F⟩ := c.def_ 3 rfl
  have F : FunD K "_law_number" "_law_number" (defArgs (top 49)) (defBody (top 49)) (defScope (top 49)) [] [] (He.fAd K ("_law_number", none)) fd := F
  exact ⟨n__law_number, _, _, _, _, _, _, _, fd, F, ⟨rfl, rfl, rfl, by decide +kernel, rfl, by decide +kernel, by decide +kernel⟩, rfl, binds0 F rfl (fun kV doc pm an cdv ct us hl => match us, hl with | [_, _], _ => rfl) (fun n hn => (nomatch hn)),
    fun k call C f cdv A outer s H hA hr wr => p__law_number ⟨rfl, rfl, by decide +kernel, rfl, rfl, rfl, hr, hA, t, C⟩ wr⟩
theorem k_Program___init__ (c : He.SaysD [] dfL K) (t : TabOk tab K mg w) : BodOk P w K mg base tab bod ("Program", some "__init__") (fnL.getD 4 (("", none), ⟨[], [], 0, false, []⟩)).2 := by
  obtain ⟨fd, F⟩ := c.def_ 4 rfl
  have F : FunD K "__init__" "Program.__init__" (defArgs (clsAt (top 36) 0)) (defBody (clsAt (top 36) 0)) (defScope (clsAt (top 36) 0)) [] [] (He.fAd K ("Program", some "__init__")) fd := F
  exact ⟨n_Program___init__, _, _, _, _, _, _, _, fd, F, ⟨rfl, rfl, rfl, by decide +kernel, rfl, by decide +kernel, by decide +kernel⟩, rfl, binds0 F rfl (fun kV doc pm an cdv ct us hl => match us, hl with | [_], _ => rfl) (fun n hn => (nomatch hn)),
    fun k call C f cdv A outer s H hA hr wr => p_Program___init__ ⟨rfl, rfl, by decide +kernel, rfl, rfl, rfl, hr, hA, t, C⟩ wr⟩
theorem k_Program_put (c : He.SaysD [] dfL K) (t : TabOk tab K mg w) : BodOk P w K mg base tab bod ("Program", some "put") (fnL.getD 5 (("", none), ⟨[], [], 0, false, []⟩)).2 := by
  obtain ⟨fd, F⟩ := c.def_ 5 rfl
  have F : FunD K "put" "Program.put" (defArgs (clsAt (top 36) 2)) (defBody (clsAt (top 36) 2)) (defScope (clsAt (top 36) 2)) [] [] (He.fAd K ("Program", some "put")) fd := F
  exact ⟨n_Program_put, _, _, _, _, _, _, _, fd, F, ⟨rfl, rfl, rfl, by decide +kernel, rfl, by decide +kernel, by decide +kernel⟩, rfl, binds0 F rfl (fun kV doc pm an cdv ct us hl => match us, hl with | [_, _, _, _], _ => rfl) (fun n hn => (nomatch hn)),
    fun k call C f cdv A outer s H hA hr wr => p_Program_put ⟨rfl, rfl, by decide +kernel, rfl, rfl, rfl, hr, hA, t, C⟩ wr⟩
theorem k_Program___str__ (c : He.SaysD [] dfL K) (t : TabOk tab K mg w) : BodOk P w K mg base tab bod ("Program", some "__str__") (fnL.getD 6 (("", none), ⟨[], [], 0, false, []⟩)).2 := by
  obtain ⟨fd, F⟩ := c.def_ 6 rfl
  have F : FunD K "__str__" "Program.__str__" (defArgs (clsAt (top 36) 14)) (defBody (clsAt (top 36) 14)) (defScope (clsAt (top 36) 14)) [] [] (He.fAd K ("Program", some "__str__")) fd := F
  exact ⟨n_Program___str__, _, _, _, _, _, _, _, fd, F, ⟨rfl, rfl, rfl, by decide +kernel, rfl, by decide +kernel, by decide +kernel⟩, rfl, binds0 F rfl (fun kV doc pm an cdv ct us hl => match us, hl with | [_], _ => rfl) (fun n hn => (nomatch hn)),
    fun k call C f cdv A outer s H hA hr wr => p_Program___str__ ⟨rfl, rfl, by decide +kernel, rfl, rfl, rfl, hr, hA, t, C⟩ wr⟩
theorem k_rested (c : He.SaysD [] dfL K) (t : TabOk tab K mg w) : BodOk P w K mg base tab bod ("rested", none) (fnL.getD 7 (("", none), ⟨[], [], 0, false, []⟩)).2 := by
  obtain ⟨fd, F⟩ := c.def_ 7 rfl
  have F : FunD K "rested" "rested" (defArgs (top 46)) (defBody (top 46)) (defScope (top 46)) [] [] (He.fAd K ("rested", none)) fd := F
  exact ⟨n_rested, _, _, _, _, _, _, _, fd, F, ⟨rfl, rfl, rfl, by decide +kernel, rfl, by decide +kernel, by decide +kernel⟩, rfl, binds0 F rfl (fun kV doc pm an cdv ct us hl => match us, hl with | [_], _ => rfl) (fun n hn kV doc pm an cdv ct us ws h1 h2 => by
      obtain rfl := List.mem_singleton.mp hn
      exact match us, ws, h1, h2 with | [], [_], _, _ => rfl),
    fun k call C f cdv A outer s H hA hr wr => p_rested ⟨rfl, rfl, by decide +kernel, rfl, rfl, rfl, hr, hA, t, C⟩ wr⟩
theorem k_need_function (c : He.SaysD [] dfL K) (t : TabOk tab K mg w) : BodOk P w K mg base tab bod ("need_function", none) (fnL.getD 8 (("", none), ⟨[], [], 0, false, []⟩)).2 := by
  obtain ⟨fd, F⟩ := c.def_ 8 rfl
  have F : FunD K "need_function" "need_function" (defArgs (top 34)) (defBody (top 34)) (defScope (top 34)) [] [] (He.fAd K ("need_function", none)) fd := F
  exact ⟨n_need_function, _, _, _, _, _, _, _, fd, F, ⟨rfl, rfl, rfl, by decide +kernel, rfl, by decide +kernel, by decide +kernel⟩, rfl, binds0 F rfl (fun kV doc pm an cdv ct us hl => match us, hl with | [_, _, _], _ => rfl) (fun n hn => (nomatch hn)),
    fun k call C f cdv A outer s H hA hr wr => p_need_function ⟨rfl, rfl, by decide +kernel, rfl, rfl, rfl, hr, hA, t, C⟩ wr⟩
theorem k_function_text (c : He.SaysD [] dfL K) (t : TabOk tab K mg w) : BodOk P w K mg base tab bod ("function_text", none) (fnL.getD 9 (("", none), ⟨[], [], 0, false, []⟩)).2 := by
  obtain ⟨fd, F⟩ := c.def_ 9 rfl
  have F : FunD K "function_text" "function_text" (defArgs (top 41)) (defBody (top 41)) (defScope (top 41)) [] [] (He.fAd K ("function_text", none)) fd := F
  exact ⟨n_function_text, _, _, _, _, _, _, _, fd, F, ⟨rfl, rfl, rfl, by decide +kernel, rfl, by decide +kernel, by decide +kernel⟩, rfl, binds0 F rfl (fun kV doc pm an cdv ct us hl => match us, hl with | [_, _, _], _ => rfl) (fun n hn => (nomatch hn)),
    fun k call C f cdv A outer s H hA hr wr => p_function_text ⟨rfl, rfl, by decide +kernel, rfl, rfl, rfl, hr, hA, t, C⟩ wr⟩
theorem k_need_normal (c : He.SaysD [] dfL K) (t : TabOk tab K mg w) : BodOk P w K mg base tab bod ("need_normal", none) (fnL.getD 10 (("", none), ⟨[], [], 0, false, []⟩)).2 := by
  obtain ⟨fd, F⟩ := c.def_ 10 rfl
  have F : FunD K "need_normal" "need_normal" (defArgs (top 39)) (defBody (top 39)) (defScope (top 39)) [] [] (He.fAd K ("need_normal", none)) fd := F
  exact ⟨n_need_normal, _, _, _, _, _, _, _, fd, F, ⟨rfl, rfl, rfl, by decide +kernel, rfl, by decide +kernel, by decide +kernel⟩, rfl, binds0 F rfl (fun kV doc pm an cdv ct us hl => match us, hl with | [_], _ => rfl) (fun n hn => (nomatch hn)),
    fun k call C f cdv A outer s H hA hr wr => p_need_normal ⟨rfl, rfl, by decide +kernel, rfl, rfl, rfl, hr, hA, t, C⟩ wr⟩
theorem k_Program_names (c : He.SaysD [] dfL K) (t : TabOk tab K mg w) : BodOk P w K mg base tab bod ("Program", some "names") (fnL.getD 11 (("", none), ⟨[], [], 0, false, []⟩)).2 := by
  obtain ⟨fd, F⟩ := c.def_ 11 rfl
  have F : FunD K "names" "Program.names" (defArgs (clsAt (top 36) 5)) (defBody (clsAt (top 36) 5)) (defScope (clsAt (top 36) 5)) [] [] (He.fAd K ("Program", some "names")) fd := F
  exact ⟨n_Program_names, _, _, _, _, _, _, _, fd, F, ⟨rfl, rfl, rfl, by decide +kernel, rfl, by decide +kernel, by decide +kernel⟩, rfl, binds0 F rfl (fun kV doc pm an cdv ct us hl => match us, hl with | [_], _ => rfl) (fun n hn => (nomatch hn)),
    fun k call C f cdv A outer s H hA hr wr => p_Program_names ⟨rfl, rfl, by decide +kernel, rfl, rfl, rfl, hr, hA, t, C⟩ wr⟩
theorem k_body_in_rests (c : He.SaysD [] dfL K) (t : TabOk tab K mg w) : BodOk P w K mg base tab bod ("body_in_rests", none) (fnL.getD 12 (("", none), ⟨[], [], 0, false, []⟩)).2 := by
  obtain ⟨fd, F⟩ := c.def_ 12 rfl
  have F : FunD K "body_in_rests" "body_in_rests" (defArgs (top 45)) (defBody (top 45)) (defScope (top 45)) [] [] (He.fAd K ("body_in_rests", none)) fd := F
  exact ⟨n_body_in_rests, _, _, _, _, _, _, _, fd, F, ⟨rfl, rfl, rfl, by decide +kernel, rfl, by decide +kernel, by decide +kernel⟩, rfl, binds0 F rfl (fun kV doc pm an cdv ct us hl => match us, hl with | [_], _ => rfl) (fun n hn => (nomatch hn)),
    fun k call C f cdv A outer s H hA hr wr => p_body_in_rests ⟨rfl, rfl, by decide +kernel, rfl, rfl, rfl, hr, hA, t, C⟩ wr⟩
theorem k_Program_body_of (c : He.SaysD [] dfL K) (t : TabOk tab K mg w) : BodOk P w K mg base tab bod ("Program", some "body_of") (fnL.getD 13 (("", none), ⟨[], [], 0, false, []⟩)).2 := by
  obtain ⟨fd, F⟩ := c.def_ 13 rfl
  have F : FunD K "body_of" "Program.body_of" (defArgs (clsAt (top 36) 7)) (defBody (clsAt (top 36) 7)) (defScope (clsAt (top 36) 7)) [] [] (He.fAd K ("Program", some "body_of")) fd := F
  exact ⟨n_Program_body_of, _, _, _, _, _, _, _, fd, F, ⟨rfl, rfl, rfl, by decide +kernel, rfl, by decide +kernel, by decide +kernel⟩, rfl, binds0 F rfl (fun kV doc pm an cdv ct us hl => match us, hl with | [_, _], _ => rfl) (fun n hn => (nomatch hn)),
    fun k call C f cdv A outer s H hA hr wr => p_Program_body_of ⟨rfl, rfl, by decide +kernel, rfl, rfl, rfl, hr, hA, t, C⟩ wr⟩
theorem k_Program_params_of (c : He.SaysD [] dfL K) (t : TabOk tab K mg w) : BodOk P w K mg base tab bod ("Program", some "params_of") (fnL.getD 14 (("", none), ⟨[], [], 0, false, []⟩)).2 := by
  obtain ⟨fd, F⟩ := c.def_ 14 rfl
  have F : FunD K "params_of" "Program.params_of" (defArgs (clsAt (top 36) 6)) (defBody (clsAt (top 36) 6)) (defScope (clsAt (top 36) 6)) [] [] (He.fAd K ("Program", some "params_of")) fd := F
  exact ⟨n_Program_params_of, _, _, _, _, _, _, _, fd, F, ⟨rfl, rfl, rfl, by decide +kernel, rfl, by decide +kernel, by decide +kernel⟩, rfl, binds0 F rfl (fun kV doc pm an cdv ct us hl => match us, hl with | [_, _], _ => rfl) (fun n hn => (nomatch hn)),
    fun k call C f cdv A outer s H hA hr wr => p_Program_params_of ⟨rfl, rfl, by decide +kernel, rfl, rfl, rfl, hr, hA, t, C⟩ wr⟩
theorem k_is_name (c : He.SaysD [] dfL K) (t : TabOk tab K mg w) : BodOk P w K mg base tab bod ("is_name", none) (fnL.getD 15 (("", none), ⟨[], [], 0, false, []⟩)).2 := by
  obtain ⟨fd, F⟩ := c.def_ 15 rfl
  have F : FunD K "is_name" "is_name" (defArgs (top 25)) (defBody (top 25)) (defScope (top 25)) [] [] (He.fAd K ("is_name", none)) fd := F
  exact ⟨n_is_name, _, _, _, _, _, _, _, fd, F, ⟨rfl, rfl, rfl, by decide +kernel, rfl, by decide +kernel, by decide +kernel⟩, rfl, binds0 F rfl (fun kV doc pm an cdv ct us hl => match us, hl with | [_], _ => rfl) (fun n hn => (nomatch hn)),
    fun k call C f cdv A outer s H hA hr wr => p_is_name ⟨rfl, rfl, by decide +kernel, rfl, rfl, rfl, hr, hA, t, C⟩ wr⟩
theorem k_is_params (c : He.SaysD [] dfL K) (t : TabOk tab K mg w) : BodOk P w K mg base tab bod ("is_params", none) (fnL.getD 16 (("", none), ⟨[], [], 0, false, []⟩)).2 := by
  obtain ⟨fd, F⟩ := c.def_ 16 rfl
  have F : FunD K "is_params" "is_params" (defArgs (top 26)) (defBody (top 26)) (defScope (top 26)) [] [] (He.fAd K ("is_params", none)) fd := F
  exact ⟨n_is_params, _, _, _, _, _, _, _, fd, F, ⟨rfl, rfl, rfl, by decide +kernel, rfl, by decide +kernel, by decide +kernel⟩, rfl, binds0 F rfl (fun kV doc pm an cdv ct us hl => match us, hl with | [_], _ => rfl) (fun n hn => (nomatch hn)),
    fun k call C f cdv A outer s H hA hr wr => p_is_params ⟨rfl, rfl, by decide +kernel, rfl, rfl, rfl, hr, hA, t, C⟩ wr⟩
theorem k_is_expression (c : He.SaysD [] dfL K) (t : TabOk tab K mg w) : BodOk P w K mg base tab bod ("is_expression", none) (fnL.getD 17 (("", none), ⟨[], [], 0, false, []⟩)).2 := by
  obtain ⟨fd, F⟩ := c.def_ 17 rfl
  have F : FunD K "is_expression" "is_expression" (defArgs (top 30)) (defBody (top 30)) (defScope (top 30)) [] [] (He.fAd K ("is_expression", none)) fd := F
  exact ⟨n_is_expression, _, _, _, _, _, _, _, fd, F, ⟨rfl, rfl, rfl, by decide +kernel, rfl, by decide +kernel, by decide +kernel⟩, rfl, binds0 F rfl (fun kV doc pm an cdv ct us hl => match us, hl with | [_], _ => rfl) (fun n hn => (nomatch hn)),
    fun k call C f cdv A outer s H hA hr wr => p_is_expression ⟨rfl, rfl, by decide +kernel, rfl, rfl, rfl, hr, hA, t, C⟩ wr⟩
theorem k_expression_text (c : He.SaysD [] dfL K) (t : TabOk tab K mg w) : BodOk P w K mg base tab bod ("expression_text", none) (fnL.getD 18 (("", none), ⟨[], [], 0, false, []⟩)).2 := by
  obtain ⟨fd, F⟩ := c.def_ 18 rfl
  have F : FunD K "expression_text" "expression_text" (defArgs (top 40)) (defBody (top 40)) (defScope (top 40)) [] [] (He.fAd K ("expression_text", none)) fd := F
  exact ⟨n_expression_text, _, _, _, _, _, _, _, fd, F, ⟨rfl, rfl, rfl, by decide +kernel, rfl, by decide +kernel, by decide +kernel⟩, rfl, binds0 F rfl (fun kV doc pm an cdv ct us hl => match us, hl with | [_], _ => rfl) (fun n hn => (nomatch hn)),
    fun k call C f cdv A outer s H hA hr wr => p_expression_text ⟨rfl, rfl, by decide +kernel, rfl, rfl, rfl, hr, hA, t, C⟩ wr⟩
theorem k_need_whole (c : He.SaysD [] dfL K) (t : TabOk tab K mg w) : BodOk P w K mg base tab bod ("need_whole", none) (fnL.getD 19 (("", none), ⟨[], [], 0, false, []⟩)).2 := by
  obtain ⟨fd, F⟩ := c.def_ 19 rfl
  have F : FunD K "need_whole" "need_whole" (defArgs (top 38)) (defBody (top 38)) (defScope (top 38)) [] [] (He.fAd K ("need_whole", none)) fd := F
  exact ⟨n_need_whole, _, _, _, _, _, _, _, fd, F, ⟨rfl, rfl, rfl, by decide +kernel, rfl, by decide +kernel, by decide +kernel⟩, rfl, binds0 F rfl (fun kV doc pm an cdv ct us hl => match us, hl with | [_], _ => rfl) (fun n hn => (nomatch hn)),
    fun k call C f cdv A outer s H hA hr wr => p_need_whole ⟨rfl, rfl, by decide +kernel, rfl, rfl, rfl, hr, hA, t, C⟩ wr⟩
theorem k_is_normal_body (c : He.SaysD [] dfL K) (t : TabOk tab K mg w) : BodOk P w K mg base tab bod ("is_normal_body", none) (fnL.getD 20 (("", none), ⟨[], [], 0, false, []⟩)).2 := by
  obtain ⟨fd, F⟩ := c.def_ 20 rfl
  have F : FunD K "is_normal_body" "is_normal_body" (defArgs (top 32)) (defBody (top 32)) (defScope (top 32)) [] [] (He.fAd K ("is_normal_body", none)) fd := F
  exact ⟨n_is_normal_body, _, _, _, _, _, _, _, fd, F, ⟨rfl, rfl, rfl, by decide +kernel, rfl, by decide +kernel, by decide +kernel⟩, rfl, binds0 F rfl (fun kV doc pm an cdv ct us hl => match us, hl with | [_], _ => rfl) (fun n hn => (nomatch hn)),
    fun k call C f cdv A outer s H hA hr wr => p_is_normal_body ⟨rfl, rfl, by decide +kernel, rfl, rfl, rfl, hr, hA, t, C⟩ wr⟩
theorem k_waits (c : He.SaysD [] dfL K) (t : TabOk tab K mg w) : BodOk P w K mg base tab bod ("waits", none) (fnL.getD 21 (("", none), ⟨[], [], 0, false, []⟩)).2 := by
  obtain ⟨fd, F⟩ := c.def_ 21 rfl
  have F : FunD K "waits" "waits" (defArgs (top 33)) (defBody (top 33)) (defScope (top 33)) [] [] (He.fAd K ("waits", none)) fd := F
  exact ⟨n_waits, _, _, _, _, _, _, _, fd, F, ⟨rfl, rfl, rfl, by decide +kernel, rfl, by decide +kernel, by decide +kernel⟩, rfl, binds0 F rfl (fun kV doc pm an cdv ct us hl => match us, hl with | [_], _ => rfl) (fun n hn => (nomatch hn)),
    fun k call C f cdv A outer s H hA hr wr => p_waits ⟨rfl, rfl, by decide +kernel, rfl, rfl, rfl, hr, hA, t, C⟩ wr⟩
theorem k_with_rest (c : He.SaysD [] dfL K) (t : TabOk tab K mg w) : BodOk P w K mg base tab bod ("with_rest", none) (fnL.getD 22 (("", none), ⟨[], [], 0, false, []⟩)).2 := by
  obtain ⟨fd, F⟩ := c.def_ 22 rfl
  have F : FunD K "with_rest" "with_rest" (defArgs (top 44)) (defBody (top 44)) (defScope (top 44)) [] [] (He.fAd K ("with_rest", none)) fd := F
  exact ⟨n_with_rest, _, _, _, _, _, _, _, fd, F, ⟨rfl, rfl, rfl, by decide +kernel, rfl, by decide +kernel, by decide +kernel⟩, rfl, binds0 F rfl (fun kV doc pm an cdv ct us hl => match us, hl with | [_, _], _ => rfl) (fun n hn => (nomatch hn)),
    fun k call C f cdv A outer s H hA hr wr => p_with_rest ⟨rfl, rfl, by decide +kernel, rfl, rfl, rfl, hr, hA, t, C⟩ wr⟩
theorem k_Program_function_of (c : He.SaysD [] dfL K) (t : TabOk tab K mg w) : BodOk P w K mg base tab bod ("Program", some "function_of") (fnL.getD 23 (("", none), ⟨[], [], 0, false, []⟩)).2 := by
  obtain ⟨fd, F⟩ := c.def_ 23 rfl
  have F : FunD K "function_of" "Program.function_of" (defArgs (clsAt (top 36) 1)) (defBody (clsAt (top 36) 1)) (defScope (clsAt (top 36) 1)) [] [] (He.fAd K ("Program", some "function_of")) fd := F
  exact ⟨n_Program_function_of, _, _, _, _, _, _, _, fd, F, ⟨rfl, rfl, rfl, by decide +kernel, rfl, by decide +kernel, by decide +kernel⟩, rfl, binds0 F rfl (fun kV doc pm an cdv ct us hl => match us, hl with | [_, _], _ => rfl) (fun n hn => (nomatch hn)),
    fun k call C f cdv A outer s H hA hr wr => p_Program_function_of ⟨rfl, rfl, by decide +kernel, rfl, rfl, rfl, hr, hA, t, C⟩ wr⟩
theorem k_is_formed (c : He.SaysD [] dfL K) (t : TabOk tab K mg w) : BodOk P w K mg base tab bod ("is_formed", none) (fnL.getD 24 (("", none), ⟨[], [], 0, false, []⟩)).2 := by
  obtain ⟨fd, F⟩ := c.def_ 24 rfl
  have F : FunD K "is_formed" "is_formed" (defArgs (top 28)) (defBody (top 28)) (defScope (top 28)) [] [] (He.fAd K ("is_formed", none)) fd := F
  exact ⟨n_is_formed, _, _, _, _, _, _, _, fd, F, ⟨rfl, rfl, rfl, by decide +kernel, rfl, by decide +kernel, by decide +kernel⟩, rfl, binds0 F rfl (fun kV doc pm an cdv ct us hl => match us, hl with | [_], _ => rfl) (fun n hn => (nomatch hn)),
    fun k call C f cdv A outer s H hA hr wr => p_is_formed ⟨rfl, rfl, by decide +kernel, rfl, rfl, rfl, hr, hA, t, C⟩ wr⟩
theorem k_parts_of (c : He.SaysD [] dfL K) (t : TabOk tab K mg w) : BodOk P w K mg base tab bod ("parts_of", none) (fnL.getD 25 (("", none), ⟨[], [], 0, false, []⟩)).2 := by
  obtain ⟨fd, F⟩ := c.def_ 25 rfl
  have F : FunD K "parts_of" "parts_of" (defArgs (top 29)) (defBody (top 29)) (defScope (top 29)) [] [] (He.fAd K ("parts_of", none)) fd := F
  exact ⟨n_parts_of, _, _, _, _, _, _, _, fd, F, ⟨rfl, rfl, rfl, by decide +kernel, rfl, by decide +kernel, by decide +kernel⟩, rfl, binds0 F rfl (fun kV doc pm an cdv ct us hl => match us, hl with | [_], _ => rfl) (fun n hn => (nomatch hn)),
    fun k call C f cdv A outer s H hA hr wr => p_parts_of ⟨rfl, rfl, by decide +kernel, rfl, rfl, rfl, hr, hA, t, C⟩ wr⟩
theorem k_need_program (c : He.SaysD [] dfL K) (t : TabOk tab K mg w) : BodOk P w K mg base tab bod ("need_program", none) (fnL.getD 26 (("", none), ⟨[], [], 0, false, []⟩)).2 := by
  obtain ⟨fd, F⟩ := c.def_ 26 rfl
  have F : FunD K "need_program" "need_program" (defArgs (top 37)) (defBody (top 37)) (defScope (top 37)) [] [] (He.fAd K ("need_program", none)) fd := F
  exact ⟨n_need_program, _, _, _, _, _, _, _, fd, F, ⟨rfl, rfl, rfl, by decide +kernel, rfl, by decide +kernel, by decide +kernel⟩, rfl, binds0 F rfl (fun kV doc pm an cdv ct us hl => match us, hl with | [_], _ => rfl) (fun n hn => (nomatch hn)),
    fun k call C f cdv A outer s H hA hr wr => p_need_program ⟨rfl, rfl, by decide +kernel, rfl, rfl, rfl, hr, hA, t, C⟩ wr⟩
theorem k_Program_first_wrong (c : He.SaysD [] dfL K) (t : TabOk tab K mg w) : BodOk P w K mg base tab bod ("Program", some "first_wrong") (fnL.getD 27 (("", none), ⟨[], [], 0, false, []⟩)).2 := by
  obtain ⟨fd, F⟩ := c.def_ 27 rfl
  have F : FunD K "first_wrong" "Program.first_wrong" (defArgs (clsAt (top 36) 11)) (defBody (clsAt (top 36) 11)) (defScope (clsAt (top 36) 11)) [] [] (He.fAd K ("Program", some "first_wrong")) fd := F
  exact ⟨n_Program_first_wrong, _, _, _, _, _, _, _, fd, F, ⟨rfl, rfl, rfl, by decide +kernel, rfl, by decide +kernel, by decide +kernel⟩, rfl, binds0 F rfl (fun kV doc pm an cdv ct us hl => match us, hl with | [_], _ => rfl) (fun n hn => (nomatch hn)),
    fun k call C f cdv A outer s H hA hr wr => p_Program_first_wrong ⟨rfl, rfl, by decide +kernel, rfl, rfl, rfl, hr, hA, t, C⟩ wr⟩
theorem k_must_be_atoms (c : He.SaysD [] dfL K) (t : TabOk tab K mg w) : BodOk P w K mg base tab bod ("must_be_atoms", none) (fnL.getD 28 (("", none), ⟨[], [], 0, false, []⟩)).2 := by
  obtain ⟨fd, F⟩ := c.def_ 28 rfl
  have F : FunD K "must_be_atoms" "must_be_atoms" (defArgs (top 31)) (defBody (top 31)) (defScope (top 31)) [] [] (He.fAd K ("must_be_atoms", none)) fd := F
  exact ⟨n_must_be_atoms, _, _, _, _, _, _, _, fd, F, ⟨rfl, rfl, rfl, by decide +kernel, rfl, by decide +kernel, by decide +kernel⟩, rfl, binds0 F rfl (fun kV doc pm an cdv ct us hl => match us, hl with | [_], _ => rfl) (fun n hn => (nomatch hn)),
    fun k call C f cdv A outer s H hA hr wr => p_must_be_atoms ⟨rfl, rfl, by decide +kernel, rfl, rfl, rfl, hr, hA, t, C⟩ wr⟩
theorem k_is_plain (c : He.SaysD [] dfL K) (t : TabOk tab K mg w) : BodOk P w K mg base tab bod ("is_plain", none) (fnL.getD 29 (("", none), ⟨[], [], 0, false, []⟩)).2 := by
  obtain ⟨fd, F⟩ := c.def_ 29 rfl
  have F : FunD K "is_plain" "is_plain" (defArgs (top 27)) (defBody (top 27)) (defScope (top 27)) [] [] (He.fAd K ("is_plain", none)) fd := F
  exact ⟨n_is_plain, _, _, _, _, _, _, _, fd, F, ⟨rfl, rfl, rfl, by decide +kernel, rfl, by decide +kernel, by decide +kernel⟩, rfl, binds0 F rfl (fun kV doc pm an cdv ct us hl => match us, hl with | [_, _], _ => rfl) (fun n hn => (nomatch hn)),
    fun k call C f cdv A outer s H hA hr wr => p_is_plain ⟨rfl, rfl, by decide +kernel, rfl, rfl, rfl, hr, hA, t, C⟩ wr⟩
theorem k_Program_wrong_in (c : He.SaysD [] dfL K) (t : TabOk tab K mg w) : BodOk P w K mg base tab bod ("Program", some "wrong_in") (fnL.getD 30 (("", none), ⟨[], [], 0, false, []⟩)).2 := by
  obtain ⟨fd, F⟩ := c.def_ 30 rfl
  have F : FunD K "wrong_in" "Program.wrong_in" (defArgs (clsAt (top 36) 10)) (defBody (clsAt (top 36) 10)) (defScope (clsAt (top 36) 10)) [] [] (He.fAd K ("Program", some "wrong_in")) fd := F
  exact ⟨n_Program_wrong_in, _, _, _, _, _, _, _, fd, F, ⟨rfl, rfl, rfl, by decide +kernel, rfl, by decide +kernel, by decide +kernel⟩, rfl, binds0 F rfl (fun kV doc pm an cdv ct us hl => match us, hl with | [_, _, _], _ => rfl) (fun n hn => (nomatch hn)),
    fun k call C f cdv A outer s H hA hr wr => p_Program_wrong_in ⟨rfl, rfl, by decide +kernel, rfl, rfl, rfl, hr, hA, t, C⟩ wr⟩
theorem k_is_number (c : He.SaysD [] dfL K) (t : TabOk tab K mg w) : BodOk P w K mg base tab bod ("is_number", none) (fnL.getD 31 (("", none), ⟨[], [], 0, false, []⟩)).2 := by
  obtain ⟨fd, F⟩ := c.def_ 31 rfl
  have F : FunD K "is_number" "is_number" (defArgs (top 24)) (defBody (top 24)) (defScope (top 24)) [] [] (He.fAd K ("is_number", none)) fd := F
  exact ⟨n_is_number, _, _, _, _, _, _, _, fd, F, ⟨rfl, rfl, rfl, by decide +kernel, rfl, by decide +kernel, by decide +kernel⟩, rfl, binds0 F rfl (fun kV doc pm an cdv ct us hl => match us, hl with | [_], _ => rfl) (fun n hn => (nomatch hn)),
    fun k call C f cdv A outer s H hA hr wr => p_is_number ⟨rfl, rfl, by decide +kernel, rfl, rfl, rfl, hr, hA, t, C⟩ wr⟩
theorem k_Program_wrong_here (c : He.SaysD [] dfL K) (t : TabOk tab K mg w) : BodOk P w K mg base tab bod ("Program", some "wrong_here") (fnL.getD 32 (("", none), ⟨[], [], 0, false, []⟩)).2 := by
  obtain ⟨fd, F⟩ := c.def_ 32 rfl
  have F : FunD K "wrong_here" "Program.wrong_here" (defArgs (clsAt (top 36) 9)) (defBody (clsAt (top 36) 9)) (defScope (clsAt (top 36) 9)) [] [] (He.fAd K ("Program", some "wrong_here")) fd := F
  exact ⟨n_Program_wrong_here, _, _, _, _, _, _, _, fd, F, ⟨rfl, rfl, rfl, by decide +kernel, rfl, by decide +kernel, by decide +kernel⟩, rfl, binds0 F rfl (fun kV doc pm an cdv ct us hl => match us, hl with | [_, _, _], _ => rfl) (fun n hn => (nomatch hn)),
    fun k call C f cdv A outer s H hA hr wr => p_Program_wrong_here ⟨rfl, rfl, by decide +kernel, rfl, rfl, rfl, hr, hA, t, C⟩ wr⟩
theorem k_bound_within (c : He.SaysD [] dfL K) (t : TabOk tab K mg w) : BodOk P w K mg base tab bod ("bound_within", none) (fnL.getD 33 (("", none), ⟨[], [], 0, false, []⟩)).2 := by
  obtain ⟨fd, F⟩ := c.def_ 33 rfl
  have F : FunD K "bound_within" "bound_within" (defArgs (top 35)) (defBody (top 35)) (defScope (top 35)) [] [] (He.fAd K ("bound_within", none)) fd := F
  exact ⟨n_bound_within, _, _, _, _, _, _, _, fd, F, ⟨rfl, rfl, rfl, by decide +kernel, rfl, by decide +kernel, by decide +kernel⟩, rfl, binds0 F rfl (fun kV doc pm an cdv ct us hl => match us, hl with | [_, _], _ => rfl) (fun n hn => (nomatch hn)),
    fun k call C f cdv A outer s H hA hr wr => p_bound_within ⟨rfl, rfl, by decide +kernel, rfl, rfl, rfl, hr, hA, t, C⟩ wr⟩
theorem k_is_whole_number (c : He.SaysD [] dfL K) (t : TabOk tab K mg w) : BodOk P w K mg base tab bod ("is_whole_number", none) (fnL.getD 34 (("", none), ⟨[], [], 0, false, []⟩)).2 := by
  obtain ⟨fd, F⟩ := c.def_ 34 rfl
  have F : FunD K "is_whole_number" "is_whole_number" (defArgs (top 23)) (defBody (top 23)) (defScope (top 23)) [] [] (He.fAd K ("is_whole_number", none)) fd := F
  exact ⟨n_is_whole_number, _, _, _, _, _, _, _, fd, F, ⟨rfl, rfl, rfl, by decide +kernel, rfl, by decide +kernel, by decide +kernel⟩, rfl, binds0 F rfl (fun kV doc pm an cdv ct us hl => match us, hl with | [_, _, _], _ => rfl) (fun n hn => (nomatch hn)),
    fun k call C f cdv A outer s H hA hr wr => p_is_whole_number ⟨rfl, rfl, by decide +kernel, rfl, rfl, rfl, hr, hA, t, C⟩ wr⟩
theorem k_all (c : He.SaysD [] dfL K) (t : TabOk tab K mg w) : ∀ q ∈ fnL, BodOk P w K mg base tab bod q.1 q.2 :=
  (List.forall_mem_cons.mpr ⟨k_law c t, (List.forall_mem_cons.mpr ⟨k__law_cell c t, (List.forall_mem_cons.mpr ⟨k__law_pairs c t, (List.forall_mem_cons.mpr ⟨k__law_number c t, (List.forall_mem_cons.mpr ⟨k_Program___init__ c t, (List.forall_mem_cons.mpr ⟨k_Program_put c t, (List.forall_mem_cons.mpr ⟨k_Program___str__ c t, (List.forall_mem_cons.mpr ⟨k_rested c t, (List.forall_mem_cons.mpr ⟨k_need_function c t, (List.forall_mem_cons.mpr ⟨k_function_text c t, (List.forall_mem_cons.mpr ⟨k_need_normal c t, (List.forall_mem_cons.mpr ⟨k_Program_names c t, (List.forall_mem_cons.mpr ⟨k_body_in_rests c t, (List.forall_mem_cons.mpr ⟨k_Program_body_of c t, (List.forall_mem_cons.mpr ⟨k_Program_params_of c t, (List.forall_mem_cons.mpr ⟨k_is_name c t, (List.forall_mem_cons.mpr ⟨k_is_params c t, (List.forall_mem_cons.mpr ⟨k_is_expression c t, (List.forall_mem_cons.mpr ⟨k_expression_text c t, (List.forall_mem_cons.mpr ⟨k_need_whole c t, (List.forall_mem_cons.mpr ⟨k_is_normal_body c t, (List.forall_mem_cons.mpr ⟨k_waits c t, (List.forall_mem_cons.mpr ⟨k_with_rest c t, (List.forall_mem_cons.mpr ⟨k_Program_function_of c t, (List.forall_mem_cons.mpr ⟨k_is_formed c t, (List.forall_mem_cons.mpr ⟨k_parts_of c t, (List.forall_mem_cons.mpr ⟨k_need_program c t, (List.forall_mem_cons.mpr ⟨k_Program_first_wrong c t, (List.forall_mem_cons.mpr ⟨k_must_be_atoms c t, (List.forall_mem_cons.mpr ⟨k_is_plain c t, (List.forall_mem_cons.mpr ⟨k_Program_wrong_in c t, (List.forall_mem_cons.mpr ⟨k_is_number c t, (List.forall_mem_cons.mpr ⟨k_Program_wrong_here c t, (List.forall_mem_cons.mpr ⟨k_bound_within c t, (List.forall_mem_cons.mpr ⟨k_is_whole_number c t, (List.forall_mem_nil _)⟩)⟩)⟩)⟩)⟩)⟩)⟩)⟩)⟩)⟩)⟩)⟩)⟩)⟩)⟩)⟩)⟩)⟩)⟩)⟩)⟩)⟩)⟩)⟩)⟩)⟩)⟩)⟩)⟩)⟩)⟩)⟩)⟩)⟩)⟩)
theorem k_ok (c : He.SaysD [] dfL K) (t : TabOk tab K mg w) (key : FKey) (I : FnI) (e : tab.fn key = some I) : BodOk P w K mg base tab bod key I := k_all c t _ (lookF_mem e)
end
end KW
set_option Elab.async false
set_option linter.all false
set_option maxRecDepth 100000
set_option maxHeartbeats 400000
namespace KW
open PySem PySem.Spec PyProof.Rows L2 KP
section
variable {k : Nat} {call : CallF} {wr : Nat → Bool} {h : PH}
theorem con_ATOMS : tab.con "ATOMS" = some (.tup [(.str "num"), (.str "name"), (.str "fn")]) := by kernel_rfl
theorem con_DEEDS : tab.con "DEEDS" = some (.tup [(.str "add"), (.str "sub"), (.str "mul"), (.str "div"), (.str "less"), (.str "same")]) := by kernel_rfl
theorem con_FIGURES : tab.con "FIGURES" = some (.str "0123456789") := by kernel_rfl
theorem con_FORMS : tab.con "FORMS" = some (PV.glo "FORMS") := by kernel_rfl
theorem kd_FORMS_num : fIxT tab (.glo "FORMS") (.str "num") h = some ((.str "n"), h) := by kernel_rfl
theorem ki_FORMS_num : fInTB tab (.str "num") (.glo "FORMS") h = some true := by kernel_rfl
theorem kd_FORMS_name : fIxT tab (.glo "FORMS") (.str "name") h = some ((.str "x"), h) := by kernel_rfl
theorem ki_FORMS_name : fInTB tab (.str "name") (.glo "FORMS") h = some true := by kernel_rfl
theorem kd_FORMS_fn : fIxT tab (.glo "FORMS") (.str "fn") h = some ((.str "x"), h) := by kernel_rfl
theorem ki_FORMS_fn : fInTB tab (.str "fn") (.glo "FORMS") h = some true := by kernel_rfl
theorem kd_FORMS_do : fIxT tab (.glo "FORMS") (.str "do") h = some ((.str "dee"), h) := by kernel_rfl
theorem ki_FORMS_do : fInTB tab (.str "do") (.glo "FORMS") h = some true := by kernel_rfl
theorem kd_FORMS_say : fIxT tab (.glo "FORMS") (.str "say") h = some ((.str "e"), h) := by kernel_rfl
theorem ki_FORMS_say : fInTB tab (.str "say") (.glo "FORMS") h = some true := by kernel_rfl
theorem kd_FORMS_let : fIxT tab (.glo "FORMS") (.str "let") h = some ((.str "xee"), h) := by kernel_rfl
theorem ki_FORMS_let : fInTB tab (.str "let") (.glo "FORMS") h = some true := by kernel_rfl
theorem kd_FORMS_if : fIxT tab (.glo "FORMS") (.str "if") h = some ((.str "eee"), h) := by kernel_rfl
theorem ki_FORMS_if : fInTB tab (.str "if") (.glo "FORMS") h = some true := by kernel_rfl
theorem kd_FORMS_call : fIxT tab (.glo "FORMS") (.str "call") h = some ((.str "xs"), h) := by kernel_rfl
theorem ki_FORMS_call : fInTB tab (.str "call") (.glo "FORMS") h = some true := by kernel_rfl
theorem kd_FORMS_ask : fIxT tab (.glo "FORMS") (.str "ask") h = some ((.str "es"), h) := by kernel_rfl
theorem ki_FORMS_ask : fInTB tab (.str "ask") (.glo "FORMS") h = some true := by kernel_rfl
theorem kd_FORMS_raise : fIxT tab (.glo "FORMS") (.str "raise") h = some ((.str "x"), h) := by kernel_rfl
theorem ki_FORMS_raise : fInTB tab (.str "raise") (.glo "FORMS") h = some true := by kernel_rfl
theorem kd_FORMS_try : fIxT tab (.glo "FORMS") (.str "try") h = some ((.str "exe"), h) := by kernel_rfl
theorem ki_FORMS_try : fInTB tab (.str "try") (.glo "FORMS") h = some true := by kernel_rfl
theorem con_LETTERS : tab.con "LETTERS" = some (.str "abcdefghijklmnopqrstuvwxyz") := by kernel_rfl
theorem con_MOST_DEEP : tab.con "MOST_DEEP" = some (.int 60) := by kernel_rfl
theorem con_MOST_FUNCTIONS : tab.con "MOST_FUNCTIONS" = some (.int 20) := by kernel_rfl
theorem con_MOST_NUMBER : tab.con "MOST_NUMBER" = some (.int 1000000000) := by kernel_rfl
theorem con_MOST_PARAMS : tab.con "MOST_PARAMS" = some (.int 6) := by kernel_rfl
theorem con_MOST_PARTS : tab.con "MOST_PARTS" = some (.int 300) := by kernel_rfl
theorem con_MOST_SIGNS : tab.con "MOST_SIGNS" = some (.int 8) := by kernel_rfl
theorem con_SAME : tab.con "SAME" = some (.tup [(.str "same")]) := by kernel_rfl
theorem ev_law (x0 : PV) : evC bod tab (k + 1) wr ("law", none) [x0] h = finish (b_law (evC bod tab k) wr [some x0, none, none, none, none, none, none, none, none, none, none, none, none, none, none, none, none] h) := by kernel_rfl
theorem ev__law_cell (x0 x1 : PV) : evC bod tab (k + 1) wr ("_law_cell", none) [x0, x1] h = finish (b__law_cell (evC bod tab k) wr [some x0, some x1, none, none, none, none, none, none] h) := by kernel_rfl
theorem ct__law_cell (x0 x1 : PV) : callT tab call wr ("_law_cell", none) [x0, x1] h = call wr ("_law_cell", none) [x0, x1] h := by kernel_rfl
theorem ev__law_pairs (x0 x1 x2 x3 : PV) : evC bod tab (k + 1) wr ("_law_pairs", none) [x0, x1, x2, x3] h = trunc h (finish (b__law_pairs (evC bod tab k) (freshW h) [some x0, some x1, some x2, some x3, none, none, none, none, none, none, none, none, none, none, none, none] h)) := by kernel_rfl
theorem ct__law_pairs (x0 x1 x2 x3 : PV) : callT tab call wr ("_law_pairs", none) [x0, x1, x2, x3] h = call wr ("_law_pairs", none) [x0, x1, x2, x3] h := by kernel_rfl
theorem ev__law_number (x0 x1 : PV) : evC bod tab (k + 1) wr ("_law_number", none) [x0, x1] h = finish (b__law_number (evC bod tab k) wr [some x0, some x1, none] h) := by kernel_rfl
theorem ct__law_number (x0 x1 : PV) : callT tab call wr ("_law_number", none) [x0, x1] h = call wr ("_law_number", none) [x0, x1] h := by kernel_rfl
theorem ev_Program___init__ (x0 : PV) : evC bod tab (k + 1) wr ("Program", some "__init__") [x0] h = finish (b_Program___init__ (evC bod tab k) wr [some x0] h) := by kernel_rfl
theorem ct_Program___init__ (x0 : PV) : callT tab call wr ("Program", some "__init__") [x0] h = call wr ("Program", some "__init__") [x0] h := by kernel_rfl
theorem ev_Program_put (x0 x1 x2 x3 : PV) : evC bod tab (k + 1) wr ("Program", some "put") [x0, x1, x2, x3] h = finish (b_Program_put (evC bod tab k) wr [some x0, some x1, some x2, some x3] h) := by kernel_rfl
theorem ct_Program_put (x0 x1 x2 x3 : PV) : callT tab call wr ("Program", some "put") [x0, x1, x2, x3] h = call wr ("Program", some "put") [x0, x1, x2, x3] h := by kernel_rfl
theorem ev_Program___str__ (x0 : PV) : evC bod tab (k + 1) wr ("Program", some "__str__") [x0] h = trunc h (finish (b_Program___str__ (evC bod tab k) (freshW h) [some x0, none, none, none] h)) := by kernel_rfl
theorem ct_Program___str__ (x0 : PV) : callT tab call wr ("Program", some "__str__") [x0] h = call wr ("Program", some "__str__") [x0] h := by kernel_rfl
theorem ev_rested (x0 : PV) : evC bod tab (k + 1) wr ("rested", none) [x0] h = trunc h (finish (b_rested (evC bod tab k) (freshW h) [some x0, none] h)) := by kernel_rfl
theorem ct_rested (x0 : PV) : callT tab call wr ("rested", none) [x0] h = call wr ("rested", none) [x0] h := by kernel_rfl
theorem ev_need_function (x0 x1 x2 : PV) : evC bod tab (k + 1) wr ("need_function", none) [x0, x1, x2] h = trunc h (finish (b_need_function (evC bod tab k) (freshW h) [some x0, some x1, some x2] h)) := by kernel_rfl
theorem ct_need_function (x0 x1 x2 : PV) : callT tab call wr ("need_function", none) [x0, x1, x2] h = call wr ("need_function", none) [x0, x1, x2] h := by kernel_rfl
theorem ev_function_text (x0 x1 x2 : PV) : evC bod tab (k + 1) wr ("function_text", none) [x0, x1, x2] h = trunc h (finish (b_function_text (evC bod tab k) (freshW h) [some x0, some x1, some x2] h)) := by kernel_rfl
theorem ct_function_text (x0 x1 x2 : PV) : callT tab call wr ("function_text", none) [x0, x1, x2] h = call wr ("function_text", none) [x0, x1, x2] h := by kernel_rfl
theorem ev_need_normal (x0 : PV) : evC bod tab (k + 1) wr ("need_normal", none) [x0] h = trunc h (finish (b_need_normal (evC bod tab k) (freshW h) [some x0, none] h)) := by kernel_rfl
theorem ct_need_normal (x0 : PV) : callT tab call wr ("need_normal", none) [x0] h = call wr ("need_normal", none) [x0] h := by kernel_rfl
theorem ev_Program_names (x0 : PV) : evC bod tab (k + 1) wr ("Program", some "names") [x0] h = trunc h (finish (b_Program_names (evC bod tab k) (freshW h) [some x0] h)) := by kernel_rfl
theorem ct_Program_names (x0 : PV) : callT tab call wr ("Program", some "names") [x0] h = call wr ("Program", some "names") [x0] h := by kernel_rfl
theorem ev_body_in_rests (x0 : PV) : evC bod tab (k + 1) wr ("body_in_rests", none) [x0] h = trunc h (finish (b_body_in_rests (evC bod tab k) (freshW h) [some x0, none, none] h)) := by kernel_rfl
theorem ct_body_in_rests (x0 : PV) : callT tab call wr ("body_in_rests", none) [x0] h = call wr ("body_in_rests", none) [x0] h := by kernel_rfl
theorem ev_Program_body_of (x0 x1 : PV) : evC bod tab (k + 1) wr ("Program", some "body_of") [x0, x1] h = trunc h (finish (b_Program_body_of (evC bod tab k) (freshW h) [some x0, some x1] h)) := by kernel_rfl
theorem ct_Program_body_of (x0 x1 : PV) : callT tab call wr ("Program", some "body_of") [x0, x1] h = call wr ("Program", some "body_of") [x0, x1] h := by kernel_rfl
theorem ev_Program_params_of (x0 x1 : PV) : evC bod tab (k + 1) wr ("Program", some "params_of") [x0, x1] h = trunc h (finish (b_Program_params_of (evC bod tab k) (freshW h) [some x0, some x1] h)) := by kernel_rfl
theorem ct_Program_params_of (x0 x1 : PV) : callT tab call wr ("Program", some "params_of") [x0, x1] h = call wr ("Program", some "params_of") [x0, x1] h := by kernel_rfl
theorem ev_is_name (x0 : PV) : evC bod tab (k + 1) wr ("is_name", none) [x0] h = trunc h (finish (b_is_name (evC bod tab k) (freshW h) [some x0, none] h)) := by kernel_rfl
theorem ct_is_name (x0 : PV) : callT tab call wr ("is_name", none) [x0] h = call wr ("is_name", none) [x0] h := by kernel_rfl
theorem ev_is_params (x0 : PV) : evC bod tab (k + 1) wr ("is_params", none) [x0] h = trunc h (finish (b_is_params (evC bod tab k) (freshW h) [some x0, none] h)) := by kernel_rfl
theorem ct_is_params (x0 : PV) : callT tab call wr ("is_params", none) [x0] h = call wr ("is_params", none) [x0] h := by kernel_rfl
theorem ev_is_expression (x0 : PV) : evC bod tab (k + 1) wr ("is_expression", none) [x0] h = trunc h (finish (b_is_expression (evC bod tab k) (freshW h) [some x0, none, none, none, none, none] h)) := by kernel_rfl
theorem ct_is_expression (x0 : PV) : callT tab call wr ("is_expression", none) [x0] h = call wr ("is_expression", none) [x0] h := by kernel_rfl
theorem ev_expression_text (x0 : PV) : evC bod tab (k + 1) wr ("expression_text", none) [x0] h = trunc h (finish (b_expression_text (evC bod tab k) (freshW h) [some x0, none, none, none, none] h)) := by kernel_rfl
theorem ct_expression_text (x0 : PV) : callT tab call wr ("expression_text", none) [x0] h = call wr ("expression_text", none) [x0] h := by kernel_rfl
theorem ev_need_whole (x0 : PV) : evC bod tab (k + 1) wr ("need_whole", none) [x0] h = trunc h (finish (b_need_whole (evC bod tab k) (freshW h) [some x0, none, none, none, none] h)) := by kernel_rfl
theorem ct_need_whole (x0 : PV) : callT tab call wr ("need_whole", none) [x0] h = call wr ("need_whole", none) [x0] h := by kernel_rfl
theorem ev_is_normal_body (x0 : PV) : evC bod tab (k + 1) wr ("is_normal_body", none) [x0] h = trunc h (finish (b_is_normal_body (evC bod tab k) (freshW h) [some x0, none, none, none, none, none] h)) := by kernel_rfl
theorem ct_is_normal_body (x0 : PV) : callT tab call wr ("is_normal_body", none) [x0] h = call wr ("is_normal_body", none) [x0] h := by kernel_rfl
theorem ev_waits (x0 : PV) : evC bod tab (k + 1) wr ("waits", none) [x0] h = trunc h (finish (b_waits (evC bod tab k) (freshW h) [some x0] h)) := by kernel_rfl
theorem ct_waits (x0 : PV) : callT tab call wr ("waits", none) [x0] h = call wr ("waits", none) [x0] h := by kernel_rfl
theorem ev_with_rest (x0 x1 : PV) : evC bod tab (k + 1) wr ("with_rest", none) [x0, x1] h = trunc h (finish (b_with_rest (evC bod tab k) (freshW h) [some x0, some x1] h)) := by kernel_rfl
theorem ct_with_rest (x0 x1 : PV) : callT tab call wr ("with_rest", none) [x0, x1] h = call wr ("with_rest", none) [x0, x1] h := by kernel_rfl
theorem ev_Program_function_of (x0 x1 : PV) : evC bod tab (k + 1) wr ("Program", some "function_of") [x0, x1] h = trunc h (finish (b_Program_function_of (evC bod tab k) (freshW h) [some x0, some x1, none] h)) := by kernel_rfl
theorem ct_Program_function_of (x0 x1 : PV) : callT tab call wr ("Program", some "function_of") [x0, x1] h = call wr ("Program", some "function_of") [x0, x1] h := by kernel_rfl
theorem ev_is_formed (x0 : PV) : evC bod tab (k + 1) wr ("is_formed", none) [x0] h = trunc h (finish (b_is_formed (evC bod tab k) (freshW h) [some x0, none, none, none] h)) := by kernel_rfl
theorem ct_is_formed (x0 : PV) : callT tab call wr ("is_formed", none) [x0] h = call wr ("is_formed", none) [x0] h := by kernel_rfl
theorem ev_parts_of (x0 : PV) : evC bod tab (k + 1) wr ("parts_of", none) [x0] h = trunc h (finish (b_parts_of (evC bod tab k) (freshW h) [some x0, none, none, none] h)) := by kernel_rfl
theorem ct_parts_of (x0 : PV) : callT tab call wr ("parts_of", none) [x0] h = call wr ("parts_of", none) [x0] h := by kernel_rfl
theorem ev_need_program (x0 : PV) : evC bod tab (k + 1) wr ("need_program", none) [x0] h = trunc h (finish (b_need_program (evC bod tab k) (freshW h) [some x0] h)) := by kernel_rfl
theorem ct_need_program (x0 : PV) : callT tab call wr ("need_program", none) [x0] h = call wr ("need_program", none) [x0] h := by kernel_rfl
theorem ev_Program_first_wrong (x0 : PV) : evC bod tab (k + 1) wr ("Program", some "first_wrong") [x0] h = trunc h (finish (b_Program_first_wrong (evC bod tab k) (freshW h) [some x0, none, none, none, none] h)) := by kernel_rfl
theorem ct_Program_first_wrong (x0 : PV) : callT tab call wr ("Program", some "first_wrong") [x0] h = call wr ("Program", some "first_wrong") [x0] h := by kernel_rfl
theorem ev_must_be_atoms (x0 : PV) : evC bod tab (k + 1) wr ("must_be_atoms", none) [x0] h = trunc h (finish (b_must_be_atoms (evC bod tab k) (freshW h) [some x0] h)) := by kernel_rfl
theorem ct_must_be_atoms (x0 : PV) : callT tab call wr ("must_be_atoms", none) [x0] h = call wr ("must_be_atoms", none) [x0] h := by kernel_rfl
theorem ev_is_plain (x0 x1 : PV) : evC bod tab (k + 1) wr ("is_plain", none) [x0, x1] h = trunc h (finish (b_is_plain (evC bod tab k) (freshW h) [some x0, some x1] h)) := by kernel_rfl
theorem ct_is_plain (x0 x1 : PV) : callT tab call wr ("is_plain", none) [x0, x1] h = call wr ("is_plain", none) [x0, x1] h := by kernel_rfl
theorem ev_Program_wrong_in (x0 x1 x2 : PV) : evC bod tab (k + 1) wr ("Program", some "wrong_in") [x0, x1, x2] h = trunc h (finish (b_Program_wrong_in (evC bod tab k) (freshW h) [some x0, some x1, some x2, none, none, none, none, none, none, none, none, none, none, none] h)) := by kernel_rfl
theorem ct_Program_wrong_in (x0 x1 x2 : PV) : callT tab call wr ("Program", some "wrong_in") [x0, x1, x2] h = call wr ("Program", some "wrong_in") [x0, x1, x2] h := by kernel_rfl
theorem ev_is_number (x0 : PV) : evC bod tab (k + 1) wr ("is_number", none) [x0] h = trunc h (finish (b_is_number (evC bod tab k) (freshW h) [some x0] h)) := by kernel_rfl
theorem ct_is_number (x0 : PV) : callT tab call wr ("is_number", none) [x0] h = call wr ("is_number", none) [x0] h := by kernel_rfl
theorem ev_Program_wrong_here (x0 x1 x2 : PV) : evC bod tab (k + 1) wr ("Program", some "wrong_here") [x0, x1, x2] h = trunc h (finish (b_Program_wrong_here (evC bod tab k) (freshW h) [some x0, some x1, some x2, none] h)) := by kernel_rfl
theorem ct_Program_wrong_here (x0 x1 x2 : PV) : callT tab call wr ("Program", some "wrong_here") [x0, x1, x2] h = call wr ("Program", some "wrong_here") [x0, x1, x2] h := by kernel_rfl
theorem ev_bound_within (x0 x1 : PV) : evC bod tab (k + 1) wr ("bound_within", none) [x0, x1] h = trunc h (finish (b_bound_within (evC bod tab k) (freshW h) [some x0, some x1, none] h)) := by kernel_rfl
theorem ct_bound_within (x0 x1 : PV) : callT tab call wr ("bound_within", none) [x0, x1] h = call wr ("bound_within", none) [x0, x1] h := by kernel_rfl
theorem ev_is_whole_number (x0 x1 x2 : PV) : evC bod tab (k + 1) wr ("is_whole_number", none) [x0, x1, x2] h = trunc h (finish (b_is_whole_number (evC bod tab k) (freshW h) [some x0, some x1, some x2] h)) := by kernel_rfl
theorem ct_is_whole_number (x0 x1 x2 : PV) : callT tab call wr ("is_whole_number", none) [x0, x1, x2] h = call wr ("is_whole_number", none) [x0, x1, x2] h := by kernel_rfl
theorem fld_Program_functions : tab.fld "Program" "functions" = true := by kernel_rfl
theorem meth_Program___str__ : tab.meth "Program" "__str__" = true := by kernel_rfl
theorem meth_Program_body_of : tab.meth "Program" "body_of" = true := by kernel_rfl
theorem meth_Program_first_wrong : tab.meth "Program" "first_wrong" = true := by kernel_rfl
theorem meth_Program_function_of : tab.meth "Program" "function_of" = true := by kernel_rfl
theorem meth_Program_names : tab.meth "Program" "names" = true := by kernel_rfl
theorem meth_Program_params_of : tab.meth "Program" "params_of" = true := by kernel_rfl
theorem meth_Program_put : tab.meth "Program" "put" = true := by kernel_rfl
theorem meth_Program_wrong_here : tab.meth "Program" "wrong_here" = true := by kernel_rfl
theorem meth_Program_wrong_in : tab.meth "Program" "wrong_in" = true := by kernel_rfl
theorem mks_Program : tab.mks "Program" = true := by kernel_rfl
theorem isi_Program : tab.isi "Program" = true := by kernel_rfl
end
end KW
set_option Elab.async false
set_option linter.all false
set_option maxRecDepth 100000
set_option maxHeartbeats 400000
namespace KW
open PySem PySem.Spec PyProof.Rows L2 KP
section
variable {k : Nat} {call : CallF} {wr : Nat → Bool} {h : PH}
theorem s_whole (z l m : Int) (h1 : l ≤ z) (h2 : z ≤ m) : evC bod tab (k + 1) wr ("is_whole_number", none) [.int z, .int l, .int m] h = some (.bl true, h) := by
  rw [ev_is_whole_number]
  have e : b_is_whole_number (evC bod tab k) (freshW h) [some (.int z), some (.int l), some (.int m)] h = some (.ret (.bl true), [some (.int z), some (.int l), some (.int m)], h) := by
    refine l_seqR (l_ret ?_)
    rw [l_and1 (h1 := h) (by kernel_rfl), l_and1 (h1 := h) (by kernel_rfl)]
    simp [eChain, eVar, bnd, cmpI, h1, h2]
  rw [e]; rfl
theorem s_number (z : Int) (h1 : -1000000000 ≤ z) (h2 : z ≤ 1000000000) : evC bod tab (k + 2) wr ("is_number", none) [.int z] h = some (.bl true, h) := by
  rw [ev_is_number]
  have e : b_is_number (evC bod tab (k + 1)) (freshW h) [some (.int z)] h = some (.ret (.bl true), [some (.int z)], h) := by
    refine l_seqR (l_ret ?_)
    rw [l_fn (h1 := h) (ps := [.int z, .int (-1000000000), .int 1000000000]) (by kernel_rfl), ct_is_whole_number, s_whole z _ _ h1 h2]
  rw [e]; rfl
/-! names -/
def letL : List Nat := ("abcdefghijklmnopqrstuvwxyz" : Str).cps.toList
def figL : List Nat := ("0123456789" : Str).cps.toList
def signB (c : Nat) : Bool := natMem c letL || natMem c figL
def signP : PV → Bool
  | .str ⟨⟨[c]⟩⟩ => signB c
  | _ => false
/-- what is_name takes -/
def okName (s : Str) : Bool := match s.cps.toList with
  | [] => false
  | c :: cs => natMem c letL && (Nat.ble cs.length 7 && (c :: cs).all signB)
theorem s_name {s : Str} (hs : okName s = true) : evC bod tab (k + 1) wr ("is_name", none) [.str s] h = some (.bl true, h) := by
  obtain ⟨⟨l⟩⟩ := s
  cases l with
  | nil => cases hs
  | cons c cs =>
    have hs : (natMem c letL && (Nat.ble cs.length 7 && (c :: cs).all signB)) = true := hs
    rw [Bool.and_eq_true, Bool.and_eq_true] at hs
    obtain ⟨h1, h2, h3⟩ := hs
    have h2 := Nat.le_of_ble_eq_true h2
    have hl : (⟨⟨c :: cs⟩⟩ : Str).length = cs.length + 1 := rfl
    have hz : (⟨⟨c :: cs⟩⟩ : Str).length ≤ lineN := by rw [hl]; unfold lineN; omega
    rw [ev_is_name]
    have e : b_is_name (evC bod tab k) (freshW h) [some (.str ⟨⟨c :: cs⟩⟩), none] h = some (.ret (.bl true), [some (.str ⟨⟨c :: cs⟩⟩), none], h ++ [.lst (((c :: cs).map fun c => PV.str ⟨⟨[c]⟩⟩).map fun x => .bl (signP x))]) := by
      refine (l_seq (e1 := [some (.str ⟨⟨c :: cs⟩⟩), none]) (h1 := h) ?_).trans (l_seqR (l_ret ?_))
      · refine (l_if (b := false) (h1 := h) ?_).trans rfl
        rw [l_or2 (h1 := h) (by kernel_rfl), l_or2 (h1 := h) (l_not (b := true) ?_)]
        · rw [l_op (h1 := h) (h2 := h) (x := .str ⟨⟨[c]⟩⟩) (y := .str "abcdefghijklmnopqrstuvwxyz") ?_ (by kernel_rfl)]
          · show Option.map _ (some (natMem c letL)) = _
            rw [h1]; rfl
          · rw [l_op (h1 := h) (h2 := h) (x := .str ⟨⟨c :: cs⟩⟩) (y := .int 0) rfl rfl]
            show (if (⟨⟨c :: cs⟩⟩ : Str).length ≤ lineN then (pat (c :: cs) 0).map (fun c => (PV.str ⟨⟨[c]⟩⟩, h)) else none) = _
            rw [if_pos hz]
            simp [pat, pix]
        · unfold eChain
          rw [show eCst (.int 1) [some (.str ⟨⟨c :: cs⟩⟩), none] h = some (.int 1, h) from rfl]
          show bnd (eCall gLen _ _ h) _ = _
          rw [l_call (ps := [.str ⟨⟨c :: cs⟩⟩]) (h1 := h) rfl, gLen_str hz]
          rw [bnd_some]
          have a1 : (1 : Int) ≤ ((⟨⟨c :: cs⟩⟩ : Str).length : Nat) := by rw [hl]; omega
          have a2 : (((⟨⟨c :: cs⟩⟩ : Str).length : Nat) : Int) ≤ 8 := by rw [hl]; omega
          rw [show cmpI (fun i j => decide (i ≤ j)) (.int 1) (.int ((⟨⟨c :: cs⟩⟩ : Str).length : Nat)) h = some (.bl true, h) from by simp only [cmpI]; rw [decide_eq_true a1]]
          rw [bnd_some]
          show bnd (eGlo tab "MOST_SIGNS" _ h) _ = _
          rw [show eGlo tab "MOST_SIGNS" [some (.str ⟨⟨c :: cs⟩⟩), none] h = some (.int 8, h) from by unfold eGlo; rw [con_MOST_SIGNS]; rfl]
          rw [bnd_some]
          simp only [cmpI]; rw [decide_eq_true a2]
      · rw [l_call (ps := [.loc h.length]) (h1 := h ++ [.lst (((c :: cs).map fun c => PV.str ⟨⟨[c]⟩⟩).map fun x => .bl (signP x))])]
        · rw [all_map (xs := (c :: cs).map fun c => PV.str ⟨⟨[c]⟩⟩) (f := signP) (by simp)]
          congr 3
          rw [List.all_map]
          exact h3
        · refine l_a1 ?_ rfl
          refine eLc_pure (fun x => .bl (signP x)) (h1 := h) (lk := []) rfl (lcOk_of (fresh_ge (Nat.le_refl _)) (by rw [List.length_map]; exact hz) rfl) fun x hx => ?_
          obtain ⟨d, hd, rfl⟩ := List.mem_map.mp hx
          refine ⟨[some (.str ⟨⟨c :: cs⟩⟩), some (.str ⟨⟨[d]⟩⟩)], rfl, fun wr h => ?_⟩
          have i1 : eOp (fInT tab) (eVar 1) (eGlo tab "LETTERS") [some (.str ⟨⟨c :: cs⟩⟩), some (.str ⟨⟨[d]⟩⟩)] h = some (.bl (natMem d letL), h) := by
            rw [l_op (h1 := h) (h2 := h) (x := .str ⟨⟨[d]⟩⟩) (y := .str "abcdefghijklmnopqrstuvwxyz") rfl (by kernel_rfl)]; rfl
          have i2 : eOp (fInT tab) (eVar 1) (eGlo tab "FIGURES") [some (.str ⟨⟨c :: cs⟩⟩), some (.str ⟨⟨[d]⟩⟩)] h = some (.bl (natMem d figL), h) := by
            rw [l_op (h1 := h) (h2 := h) (x := .str ⟨⟨[d]⟩⟩) (y := .str "0123456789") rfl (by kernel_rfl)]; rfl
          cases q : natMem d letL with
          | true => rw [q] at i1; rw [l_or1 i1]; show _ = some (PV.bl (natMem d letL || natMem d figL), h); rw [q]; rfl
          | false => rw [q] at i1; rw [l_or2 i1, i2]; show _ = some (PV.bl (natMem d letL || natMem d figL), h); rw [q]; rfl
    rw [e]; rfl
end
end KW
set_option Elab.async false
set_option linter.all false
set_option maxRecDepth 100000
set_option maxHeartbeats 400000
namespace KW
open PySem PySem.Spec PyProof.Rows L2 KP
section
variable {k : Nat} {call : CallF} {wr : Nat → Bool} {h : PH}
/-! is_plain -/
theorem s_plain_n (z : Int) (h1 : -1000000000 ≤ z) (h2 : z ≤ 1000000000) : evC bod tab (k + 3) wr ("is_plain", none) [.str "n", .int z] h = some (.bl true, h) := by
  rw [ev_is_plain]
  have e : b_is_plain (evC bod tab (k + 2)) (freshW h) [some (.str "n"), some (.int z)] h = some (.ret (.bl true), [some (.str "n"), some (.int z)], h) := by
    refine l_seqR ?_
    refine (l_if (b := true) (h1 := h) (by kernel_rfl)).trans ?_
    rw [if_pos rfl]
    refine l_seqR (l_ret ?_)
    rw [l_fn (h1 := h) (ps := [.int z]) (by kernel_rfl), ct_is_number, s_number z h1 h2]
  rw [e]; rfl
theorem s_plain_d {d : Str} (hd : memP (.str d) [(.str "add"), (.str "sub"), (.str "mul"), (.str "div"), (.str "less"), (.str "same")] = true) : evC bod tab (k + 3) wr ("is_plain", none) [.str "d", .str d] h = some (.bl true, h) := by
  rw [ev_is_plain]
  have e : b_is_plain (evC bod tab (k + 2)) (freshW h) [some (.str "d"), some (.str d)] h = some (.ret (.bl true), [some (.str "d"), some (.str d)], h) := by
    refine (l_seq (e1 := [some (.str "d"), some (.str d)]) (h1 := h) (by kernel_rfl)).trans (l_seqR ?_)
    refine (l_if (b := true) (h1 := h) (by kernel_rfl)).trans ?_
    rw [if_pos rfl]
    refine l_seqR (l_ret ?_)
    rw [l_and1 (h1 := h) (by kernel_rfl), l_op (h1 := h) (h2 := h) (x := .str d) (y := .tup [(.str "add"), (.str "sub"), (.str "mul"), (.str "div"), (.str "less"), (.str "same")]) rfl (by kernel_rfl)]
    rw [in_tup rfl (by kernel_rfl), hd]
  rw [e]; rfl
theorem s_plain_s {ps : List PV} (hl : ps.length ≤ 6) : evC bod tab (k + 3) wr ("is_plain", none) [.str "s", .tup ps] h = some (.bl true, h) := by
  rw [ev_is_plain]
  have e : b_is_plain (evC bod tab (k + 2)) (freshW h) [some (.str "s"), some (.tup ps)] h = some (.ret (.bl true), [some (.str "s"), some (.tup ps)], h) := by
    refine (l_seq (e1 := [some (.str "s"), some (.tup ps)]) (h1 := h) (by kernel_rfl)).trans ((l_seq (e1 := [some (.str "s"), some (.tup ps)]) (h1 := h) (by kernel_rfl)).trans (l_seqR ?_))
    refine (l_if (b := true) (h1 := h) (by kernel_rfl)).trans ?_
    rw [if_pos rfl]
    refine l_seqR (l_ret ?_)
    rw [l_and1 (h1 := h) (by kernel_rfl), l_op (h1 := h) (h2 := h) (x := .int ps.length) (y := .int 6) rfl (by kernel_rfl)]
    simp only [cmpI]
    rw [decide_eq_true (by omega)]
  rw [e]; rfl
theorem s_plain_e {p : PV} : evC bod tab (k + 3) wr ("is_plain", none) [.str "e", p] h = some (.bl true, h) := by
  rw [ev_is_plain]
  have e : b_is_plain (evC bod tab (k + 2)) (freshW h) [some (.str "e"), some p] h = some (.ret (.bl true), [some (.str "e"), some p], h) := by kernel_rfl
  rw [e]; rfl
theorem s_plain_x {s : Str} (hs : okName s = true) : evC bod tab (k + 3) wr ("is_plain", none) [.str "x", .str s] h = some (.bl true, h) := by
  rw [ev_is_plain]
  have e : b_is_plain (evC bod tab (k + 2)) (freshW h) [some (.str "x"), some (.str s)] h = some (.ret (.bl true), [some (.str "x"), some (.str s)], h) := by
    refine (l_seq (e1 := [some (.str "x"), some (.str s)]) (h1 := h) (by kernel_rfl)).trans ((l_seq (e1 := [some (.str "x"), some (.str s)]) (h1 := h) (by kernel_rfl)).trans ((l_seq (e1 := [some (.str "x"), some (.str s)]) (h1 := h) (by kernel_rfl)).trans (l_seqR (l_ret ?_))))
    rw [l_or2 (h1 := h) (by kernel_rfl), l_fn (h1 := h) (ps := [.str s]) (by kernel_rfl), ct_is_name, s_name hs]
  rw [e]; rfl

/-! is_formed, by the word, the sorts, the parts -/
theorem tup_ne {x : PV} {xs : List PV} {h : PH} (hp : pok (.tup (x :: xs)) = true) : fEq (.tup (x :: xs)) (.tup []) h = some (.bl false, h) := by
  have e : fEqB (.tup (x :: xs)) (.tup []) h = some false := by
    unfold fEqB
    rw [pok_dr _ hp, show dr (drN h 4) (.tup []) = some (.tup []) from by rw [dr, drs]; rfl]
    show (if (pok (.tup (x :: xs)) && (pok (.tup []) && decide (Nat.min (pdep (.tup (x :: xs))) (pdep (.tup [])) ≤ 190))) = true then _ else _) = _
    have hd : Nat.min (pdep (.tup (x :: xs))) (pdep (.tup [])) ≤ 190 := Nat.le_trans (Nat.min_le_right _ _) (by decide)
    rw [if_pos (by rw [hp, decide_eq_true hd]; rfl)]
    simp [eqP, eqPs]
  show Option.map _ (fEqB (.tup (x :: xs)) (.tup []) h) = _
  rw [e]; rfl
theorem s_formed {w F : Str} {ps : List PV} (hk : ∀ h, fIxT tab (.glo "FORMS") (.str w) h = some (.str F, h)) (hi : ∀ h, fInTB tab (.str w) (.glo "FORMS") h = some true) (hl : ps.length = F.cps.toList.length) (hF : ps.length ≤ 3)
    (hok : pok (.tup (.str w :: ps)) = true) (hp : ∀ q ∈ pairs (F.cps.toList.map fun c => PV.str ⟨⟨[c]⟩⟩) ps, ∃ s p, q = .tup [s, p] ∧ ∀ wr h, evC bod tab (k + 3) wr ("is_plain", none) [s, p] h = some (.bl true, h)) :
    evC bod tab (k + 4) wr ("is_formed", none) [.tup (.str w :: ps)] h = some (.bl true, h) := by
  rw [ev_is_formed]
  have hx0 : ∀ (e2 e3 e4 : Option PV) (h : PH), eOp (fIxT tab) (eVar 0) (eCst (.int 0)) [some (.tup (.str w :: ps)), e2, e3, e4] h = some (.str w, h) := fun e2 e3 e4 h => by
    rw [l_op (h1 := h) (h2 := h) (x := .tup (.str w :: ps)) (y := .int 0) rfl rfl]
    show Option.map _ (pat (.str w :: ps) 0) = _
    simp [pat, pix]
  have hFl : F.length = ps.length := hl.symm
  have e : b_is_formed (evC bod tab (k + 3)) (freshW h) [some (.tup (.str w :: ps)), none, none, none] h = some (.ret (.bl true), [some (.tup (.str w :: ps)), some (.str F), none, none], h ++ [.lst ((pairs (F.cps.toList.map fun c => PV.str ⟨⟨[c]⟩⟩) ps).map fun x => .bl ((fun _ => true) x))]) := by
    refine (l_seq (e1 := [some (.tup (.str w :: ps)), none, none, none]) (h1 := h) ?_).trans ((l_seq (e1 := [some (.tup (.str w :: ps)), some (.str F), none, none]) (h1 := h) ?_).trans (l_seqR (l_ret ?_)))
    · refine (l_if (b := false) (h1 := h) ?_).trans rfl
      rw [l_or2 (h1 := h) (by kernel_rfl), l_or2 (h1 := h) ?_, l_or2 (h1 := h) (l_not (b := true) ?_)]
      · rw [l_op (h1 := h) (h2 := h) (hx0 none none none h) (y := .glo "FORMS") (by kernel_rfl)]
        show Option.map _ (fInTB tab (.str w) (.glo "FORMS") h) = _
        rw [hi]; rfl
      · unfold eIsi
        rw [hx0]; rfl
      · rw [l_op (h1 := h) (h2 := h) (x := .tup (.str w :: ps)) (y := .tup []) rfl (by kernel_rfl)]
        exact tup_ne hok
    · refine l_asg (h1 := h) (x := .str F) ?_ rfl
      rw [l_op (h1 := h) (h2 := h) (x := .glo "FORMS") (by kernel_rfl) (hx0 none none none h)]
      exact hk h
    · rw [l_and1 (h1 := h) ?_]
      · rw [l_call (ps := [.loc h.length]) (h1 := h ++ [.lst ((pairs (F.cps.toList.map fun c => PV.str ⟨⟨[c]⟩⟩) ps).map fun x => .bl ((fun _ => true) x))])]
        · rw [all_map (xs := pairs (F.cps.toList.map fun c => PV.str ⟨⟨[c]⟩⟩) ps) (f := fun _ => true) (by simp)]
          simp
        · refine l_a1 ?_ rfl
          refine eLc_pure (fun x => .bl ((fun _ => true) x)) (h1 := h) (items := pairs (F.cps.toList.map fun c => PV.str ⟨⟨[c]⟩⟩) ps) (lk := []) ?_ (lcOk_of (fresh_ge (Nat.le_refl _)) (by rw [KP.pairs_len]; exact Nat.le_trans (Nat.min_le_right _ _) (Nat.le_trans hF (by decide))) rfl) fun x hx => ?_
          · unfold iZipF
            rw [show eVar 1 [some (.tup (.str w :: ps)), some (.str F), none, none] h = some (.str F, h) from rfl, bnd_some]
            rw [show eSl fSl (eVar 0) (pSome (eCst (.int 1))) pNone [some (.tup (.str w :: ps)), some (.str F), none, none] h = some (.tup ps, h) from ?_, bnd_some]
            · rfl
            · show fSl (.tup (.str w :: ps)) (some 1) none h = _
              show some (PV.tup (cut (PV.str w :: ps) (some 1) none), h) = _
              have : cut (PV.str w :: ps) (some 1) none = ps := by
                unfold cut
                simp [pend]
              rw [this]
          · obtain ⟨s, p, rfl, hq⟩ := hp x hx
            refine ⟨[some (.tup (.str w :: ps)), some (.str F), some s, some p], rfl, fun wr h => ?_⟩
            rw [l_fn (h1 := h) (ps := [s, p]) rfl, ct_is_plain, hq]
      · rw [l_op (h1 := h) (h2 := h) (x := .int ((.str w :: ps : List PV).length : Nat)) (y := .int (1 + (F.length : Nat))) rfl ?_]
        · have e2 : (((PV.str w :: ps).length : Nat) : Int) = 1 + (F.length : Nat) := by rw [List.length_cons, hFl]; omega
          rw [e2]
          rw [KP.eq_int, decide_eq_true rfl]
        · rw [l_op (h1 := h) (h2 := h) (x := .int 1) (y := .int (F.length : Nat)) rfl ?_]
          · rfl
          · rw [l_call (ps := [.str F]) (h1 := h) rfl, gLen_str (by rw [hFl]; exact Nat.le_trans hF (by decide))]
  rw [e]; rfl
end
end KW
set_option Elab.async false
set_option linter.all false
set_option maxRecDepth 100000
set_option maxHeartbeats 400000
namespace KW
open PySem PySem.Spec PyProof.Rows L2 KP
/-! ### expressions of the small language -/
mutual
inductive Ex where
  | num (n : Int) | name (x : Str) | fn (x : Str) | op (d : Str) (a b : Ex) | say (a : Ex) | lt (x : Str) (a b : Ex) | iff (a b c : Ex)
  | call (f : Str) (as : Exs) | ask (a : Ex) (as : Exs) | rai (w : Str) | tr (a : Ex) (w : Str) (b : Ex)
inductive Exs where
  | nil | cons (a : Ex) (r : Exs)
end
def Exs.list : Exs → List Ex
  | .nil => []
  | .cons a r => a :: r.list
mutual
def enc : Ex → PV
  | .num n => .tup [.str "num", .int n]
  | .name x => .tup [.str "name", .str x]
  | .fn x => .tup [.str "fn", .str x]
  | .op d a b => .tup [.str "do", .str d, enc a, enc b]
  | .say a => .tup [.str "say", enc a]
  | .lt x a b => .tup [.str "let", .str x, enc a, enc b]
  | .iff a b c => .tup [.str "if", enc a, enc b, enc c]
  | .call f as => .tup [.str "call", .str f, .tup (encs as)]
  | .ask a as => .tup [.str "ask", enc a, .tup (encs as)]
  | .rai w => .tup [.str "raise", .str w]
  | .tr a w b => .tup [.str "try", enc a, .str w, enc b]
def encs : Exs → List PV
  | .nil => []
  | .cons a r => enc a :: encs r
end
theorem encs_map : ∀ as : Exs, encs as = as.list.map enc
  | .nil => by rw [encs]; rfl
  | .cons a r => by rw [encs, encs_map r]; rfl
def parts : Ex → List Ex
  | .op _ a b => [a, b]
  | .say a => [a]
  | .lt _ a b => [a, b]
  | .iff a b c => [a, b, c]
  | .call _ as => as.list
  | .ask a as => a :: as.list
  | .tr a _ b => [a, b]
  | _ => []
def deedsL : List PV := [(.str "add"), (.str "sub"), (.str "mul"), (.str "div"), (.str "less"), (.str "same")]
mutual
/-- in bounds, names good -/
def okE : Ex → Prop
  | .num n => -1000000000 ≤ n ∧ n ≤ 1000000000
  | .name x => okName x = true
  | .fn x => okName x = true
  | .op d a b => memP (.str d) deedsL = true ∧ okE a ∧ okE b
  | .say a => okE a
  | .lt x a b => okName x = true ∧ okE a ∧ okE b
  | .iff a b c => okE a ∧ okE b ∧ okE c
  | .call f as => okName f = true ∧ as.list.length ≤ 6 ∧ okEs as
  | .ask a as => okE a ∧ as.list.length ≤ 6 ∧ okEs as
  | .rai w => okName w = true
  | .tr a w b => okE a ∧ okName w = true ∧ okE b
def okEs : Exs → Prop
  | .nil => True
  | .cons a r => okE a ∧ okEs r
end
theorem okEs_mem : ∀ {as : Exs}, okEs as → ∀ e ∈ as.list, okE e
  | .nil, _, e, h => by cases h
  | .cons a r, h, e, he => by
    rw [okEs] at h
    rcases List.mem_cons.mp he with q | q
    · rw [q]; exact h.1
    · exact okEs_mem h.2 e q
theorem okE_parts {e : Ex} (h : okE e) : ∀ c ∈ parts e, okE c := by
  intro c hc
  cases e <;> simp only [parts, okE, List.mem_cons, List.not_mem_nil, or_false] at h hc
  · rcases hc with rfl | rfl
    · exact h.2.1
    · exact h.2.2
  · rw [hc]; exact h
  · rcases hc with rfl | rfl
    · exact h.2.1
    · exact h.2.2
  · rcases hc with rfl | rfl | rfl
    · exact h.1
    · exact h.2.1
    · exact h.2.2
  · exact okEs_mem h.2.2 c hc
  · rcases hc with rfl | hc
    · exact h.1
    · exact okEs_mem h.2.2 c hc
  · rcases hc with rfl | rfl
    · exact h.1
    · exact h.2.2
/-! good signs -/
theorem sign_lt {c : Nat} (h : signB c = true) : c < 0x110000 := by
  have hl : ∀ x ∈ letL ++ figL, x < 0x110000 := by decide +kernel
  unfold signB at h
  rw [Bool.or_eq_true] at h
  rcases h with h | h
  · exact hl c (List.mem_append_left _ (natMem_iff.mp h))
  · exact hl c (List.mem_append_right _ (natMem_iff.mp h))
theorem name_pok {s : Str} (h : okName s = true) : pok (.str s) = true := by
  obtain ⟨⟨l⟩⟩ := s
  rw [pok]
  cases l with
  | nil => cases h
  | cons c cs =>
    have hs : (natMem c letL && (Nat.ble cs.length 7 && (c :: cs).all signB)) = true := h
    rw [Bool.and_eq_true, Bool.and_eq_true] at hs
    unfold PyData.strOk
    rw [Array.all_eq_true_iff_forall_mem]
    intro x hx
    have := List.all_eq_true.mp hs.2.2 x (by simpa using hx)
    simpa using sign_lt this
theorem deed_pok {d : Str} (h : memP (.str d) deedsL = true) : pok (.str d) = true := by
  have : ∀ x ∈ deedsL, pok x = true := by decide +kernel
  have key : ∀ l : List PV, memP (.str d) l = true → ∃ x ∈ l, eqP x (.str d) = true := by
    intro l
    induction l with
    | nil => intro h; cases h
    | cons x xs ih =>
      intro h
      rw [memP, Bool.or_eq_true] at h
      rcases h with h | h
      · exact ⟨x, List.mem_cons_self .., h⟩
      · obtain ⟨y, hy, e⟩ := ih h
        exact ⟨y, List.mem_cons_of_mem _ hy, e⟩
  obtain ⟨x, hx, e⟩ := key _ h
  have hp := this x hx
  cases x with
  | str z =>
    rw [eqP] at e
    rw [← (sEq_iff).mp e]; exact hp
  | _ => rw [eqP] at e <;> first | cases e | (intros; nofun)
mutual
theorem pok_enc : ∀ e : Ex, okE e → pok (enc e) = true
  | .num n, _ => by rw [enc]; kernel_rfl
  | .name x, h => by rw [okE] at h; rw [enc, pok, poks, poks, name_pok h]; kernel_rfl
  | .fn x, h => by rw [okE] at h; rw [enc, pok, poks, poks, name_pok h]; kernel_rfl
  | .op d a b, h => by rw [okE] at h; rw [enc, pok, poks, poks, poks, poks, deed_pok h.1, pok_enc a h.2.1, pok_enc b h.2.2]; kernel_rfl
  | .say a, h => by rw [okE] at h; rw [enc, pok, poks, poks, pok_enc a h]; kernel_rfl
  | .lt x a b, h => by rw [okE] at h; rw [enc, pok, poks, poks, poks, poks, name_pok h.1, pok_enc a h.2.1, pok_enc b h.2.2]; kernel_rfl
  | .iff a b c, h => by rw [okE] at h; rw [enc, pok, poks, poks, poks, poks, pok_enc a h.1, pok_enc b h.2.1, pok_enc c h.2.2]; kernel_rfl
  | .call f as, h => by rw [okE] at h; rw [enc, pok, poks, poks, poks, name_pok h.1, show pok (.tup (encs as)) = true from by rw [pok]; exact poks_encs as h.2.2]; kernel_rfl
  | .ask a as, h => by rw [okE] at h; rw [enc, pok, poks, poks, poks, pok_enc a h.1, show pok (.tup (encs as)) = true from by rw [pok]; exact poks_encs as h.2.2]; kernel_rfl
  | .rai w, h => by rw [okE] at h; rw [enc, pok, poks, poks, name_pok h]; kernel_rfl
  | .tr a w b, h => by rw [okE] at h; rw [enc, pok, poks, poks, poks, poks, pok_enc a h.1, name_pok h.2.1, pok_enc b h.2.2]; kernel_rfl
theorem poks_encs : ∀ as : Exs, okEs as → poks (encs as) = true
  | .nil, _ => by rw [encs]; rfl
  | .cons a r, h => by rw [okEs] at h; rw [encs, poks, pok_enc a h.1, poks_encs r h.2]; rfl
end
section
variable {k : Nat} {call : CallF} {wr : Nat → Bool} {h : PH}
theorem s_formedE {e : Ex} (he : okE e) : evC bod tab (k + 4) wr ("is_formed", none) [enc e] h = some (.bl true, h) := by
  have hp := pok_enc e he
  cases e with
  | num n =>
    rw [okE] at he; rw [enc] at hp ⊢
    refine s_formed (F := "n") (fun h => kd_FORMS_num) (fun h => ki_FORMS_num) rfl (by simp) hp fun q hq => ?_
    obtain rfl := List.mem_singleton.mp hq
    exact ⟨_, _, rfl, fun wr h => s_plain_n n he.1 he.2⟩
  | name x =>
    rw [okE] at he; rw [enc] at hp ⊢
    refine s_formed (F := "x") (fun h => kd_FORMS_name) (fun h => ki_FORMS_name) rfl (by simp) hp fun q hq => ?_
    obtain rfl := List.mem_singleton.mp hq
    exact ⟨_, _, rfl, fun wr h => s_plain_x he⟩
  | fn x =>
    rw [okE] at he; rw [enc] at hp ⊢
    refine s_formed (F := "x") (fun h => kd_FORMS_fn) (fun h => ki_FORMS_fn) rfl (by simp) hp fun q hq => ?_
    obtain rfl := List.mem_singleton.mp hq
    exact ⟨_, _, rfl, fun wr h => s_plain_x he⟩
  | rai x =>
    rw [okE] at he; rw [enc] at hp ⊢
    refine s_formed (F := "x") (fun h => kd_FORMS_raise) (fun h => ki_FORMS_raise) rfl (by simp) hp fun q hq => ?_
    obtain rfl := List.mem_singleton.mp hq
    exact ⟨_, _, rfl, fun wr h => s_plain_x he⟩
  | say a =>
    rw [enc] at hp ⊢
    refine s_formed (F := "e") (fun h => kd_FORMS_say) (fun h => ki_FORMS_say) rfl (by simp) hp fun q hq => ?_
    obtain rfl := List.mem_singleton.mp hq
    exact ⟨_, _, rfl, fun wr h => s_plain_e⟩
  | op d a b =>
    rw [okE] at he; rw [enc] at hp ⊢
    refine s_formed (F := "dee") (fun h => kd_FORMS_do) (fun h => ki_FORMS_do) rfl (by simp) hp fun q hq => ?_
    have hq : q ∈ [PV.tup [.str "d", .str d], .tup [.str "e", enc a], .tup [.str "e", enc b]] := hq
    simp only [List.mem_cons, List.not_mem_nil, or_false] at hq
    rcases hq with rfl | rfl | rfl
    · exact ⟨_, _, rfl, fun wr h => s_plain_d he.1⟩
    · exact ⟨_, _, rfl, fun wr h => s_plain_e⟩
    · exact ⟨_, _, rfl, fun wr h => s_plain_e⟩
  | lt x a b =>
    rw [okE] at he; rw [enc] at hp ⊢
    refine s_formed (F := "xee") (fun h => kd_FORMS_let) (fun h => ki_FORMS_let) rfl (by simp) hp fun q hq => ?_
    have hq : q ∈ [PV.tup [.str "x", .str x], .tup [.str "e", enc a], .tup [.str "e", enc b]] := hq
    simp only [List.mem_cons, List.not_mem_nil, or_false] at hq
    rcases hq with rfl | rfl | rfl
    · exact ⟨_, _, rfl, fun wr h => s_plain_x he.1⟩
    · exact ⟨_, _, rfl, fun wr h => s_plain_e⟩
    · exact ⟨_, _, rfl, fun wr h => s_plain_e⟩
  | iff a b c =>
    rw [enc] at hp ⊢
    refine s_formed (F := "eee") (fun h => kd_FORMS_if) (fun h => ki_FORMS_if) rfl (by simp) hp fun q hq => ?_
    have hq : q ∈ [PV.tup [.str "e", enc a], .tup [.str "e", enc b], .tup [.str "e", enc c]] := hq
    simp only [List.mem_cons, List.not_mem_nil, or_false] at hq
    rcases hq with rfl | rfl | rfl <;> exact ⟨_, _, rfl, fun wr h => s_plain_e⟩
  | call f as =>
    rw [okE] at he; rw [enc] at hp ⊢
    refine s_formed (F := "xs") (fun h => kd_FORMS_call) (fun h => ki_FORMS_call) rfl (by simp) hp fun q hq => ?_
    have hq : q ∈ [PV.tup [.str "x", .str f], .tup [.str "s", .tup (encs as)]] := hq
    simp only [List.mem_cons, List.not_mem_nil, or_false] at hq
    rcases hq with rfl | rfl
    · exact ⟨_, _, rfl, fun wr h => s_plain_x he.1⟩
    · exact ⟨_, _, rfl, fun wr h => s_plain_s (by rw [encs_map, List.length_map]; exact he.2.1)⟩
  | ask a as =>
    rw [okE] at he; rw [enc] at hp ⊢
    refine s_formed (F := "es") (fun h => kd_FORMS_ask) (fun h => ki_FORMS_ask) rfl (by simp) hp fun q hq => ?_
    have hq : q ∈ [PV.tup [.str "e", enc a], .tup [.str "s", .tup (encs as)]] := hq
    simp only [List.mem_cons, List.not_mem_nil, or_false] at hq
    rcases hq with rfl | rfl
    · exact ⟨_, _, rfl, fun wr h => s_plain_e⟩
    · exact ⟨_, _, rfl, fun wr h => s_plain_s (by rw [encs_map, List.length_map]; exact he.2.1)⟩
  | tr a w b =>
    rw [okE] at he; rw [enc] at hp ⊢
    refine s_formed (F := "exe") (fun h => kd_FORMS_try) (fun h => ki_FORMS_try) rfl (by simp) hp fun q hq => ?_
    have hq : q ∈ [PV.tup [.str "e", enc a], .tup [.str "x", .str w], .tup [.str "e", enc b]] := hq
    simp only [List.mem_cons, List.not_mem_nil, or_false] at hq
    rcases hq with rfl | rfl | rfl
    · exact ⟨_, _, rfl, fun wr h => s_plain_e⟩
    · exact ⟨_, _, rfl, fun wr h => s_plain_x he.2.1⟩
    · exact ⟨_, _, rfl, fun wr h => s_plain_e⟩
end
end KW
set_option Elab.async false
set_option linter.all false
set_option maxRecDepth 100000
set_option maxHeartbeats 400000
namespace KW
open PySem PySem.Spec PyProof.Rows L2 KP
/-! parts_of -/
def contrib (s p : PV) : List PV := match s with
  | .str z => if sEq z "e" then [p] else if sEq z "s" then (match p with
    | .tup ps => ps
    | _ => []) else []
  | _ => []
def contribQ : PV → List PV
  | .tup [s, p] => contrib s p
  | _ => []
abbrev gPair : GF := gTp 2 (gsCons (gNm 2) (gsCons (gNm 3) gsNil))
def partsB (wr : Nat → Bool) : SF := (sSeq (sIf (eOp fEq (eVar 2) (eCst (.str "e"))) (sSeq (sDrop (eMeth "list" (mAppend wr) (eVar 1) (aCons (eVar 3) aNil)))
        sNext) (sSeq (sIf (eOp fEq (eVar 2) (eCst (.str "s"))) (sSeq (sDrop (eMeth "list" (mExtend wr) (eVar 1) (aCons (eVar 3) aNil)))
          sNext) sNext)
        sNext))
      sNext)
section
variable {k : Nat} {call : CallF} {wr : Nat → Bool}
theorem parts_turn {h : PH} {n : Nat} {acc : List PV} {z : Str} {p body : PV} {e2 e3 : Option PV} (hn : h[n]? = some (.lst acc)) (hw : wr n = true) (hs : sEq z "s" = true → ∃ ps, p = .tup ps) (hl : acc.length + (contrib (.str z) p).length ≤ lineN) :
    turnF gPair (partsB wr) (.tup [.str z, p]) [some body, some (.loc n), e2, e3] h = some (.nx, [some body, some (.loc n), some (.str z), some p], h.set n (.lst (acc ++ contrib (.str z) p))) := by
  have hlt : n < h.length := (List.getElem?_eq_some_iff.mp hn).1
  show partsB wr [some body, some (.loc n), some (.str z), some p] h = _
  have i1 : eOp fEq (eVar 2) (eCst (.str "e")) [some body, some (.loc n), some (.str z), some p] h = some (.bl (sEq z "e"), h) := rfl
  have i2 : eOp fEq (eVar 2) (eCst (.str "s")) [some body, some (.loc n), some (.str z), some p] h = some (.bl (sEq z "s"), h) := rfl
  unfold contrib at hl ⊢
  simp only at hl ⊢
  unfold partsB
  cases a : sEq z "e" with
  | true =>
    rw [a] at i1
    rw [a] at hl
    rw [if_pos rfl] at hl ⊢
    refine (l_seq ((l_if i1).trans ?_)).trans rfl
    rw [if_pos rfl]
    refine (l_seq (l_drop (x := .non) (h1 := h.set n (.lst (acc ++ [p]))) ?_)).trans rfl
    rw [l_meth (h1 := h) (h2 := h) (x := .loc n) (ps := [p]) rfl (tyP_lst hn) rfl, append_at hn hw (Nat.lt_of_succ_le (by simpa using hl))]
  | false =>
    rw [a] at i1
    rw [a] at hl
    rw [if_neg Bool.false_ne_true] at hl ⊢
    refine (l_seq ((l_if i1).trans ?_)).trans rfl
    rw [if_neg Bool.false_ne_true]
    refine (l_seq ((l_if i2).trans ?_)).trans rfl
    cases b : sEq z "s" with
    | true =>
      obtain ⟨ps, rfl⟩ := hs b
      rw [b] at hl
      rw [if_pos rfl] at hl
      rw [if_pos rfl, if_pos rfl]
      refine (l_seq (l_drop (x := .non) (h1 := h.set n (.lst (acc ++ ps))) ?_)).trans rfl
      rw [l_meth (h1 := h) (h2 := h) (x := .loc n) (ps := [.tup ps]) rfl (tyP_lst hn) rfl, extend_tupA hn hw (by simpa using hl)]
    | false =>
      rw [if_neg Bool.false_ne_true, if_neg Bool.false_ne_true, List.append_nil, set_self hn]
      rfl
theorem parts_loop {n : Nat} {body : PV} : ∀ (items : List PV) (acc : List PV) (h : PH) (e2 e3 : Option PV), h[n]? = some (.lst acc) → wr n = true →
    (∀ q ∈ items, ∃ z p, q = .tup [.str z, p] ∧ (sEq z "s" = true → ∃ ps, p = .tup ps)) → acc.length + (items.flatMap contribQ).length ≤ lineN →
    ∃ e2' e3', loopF (turnF gPair (partsB wr)) items [some body, some (.loc n), e2, e3] h = some (.nx, [some body, some (.loc n), e2', e3'], h.set n (.lst (acc ++ items.flatMap contribQ)))
  | [], acc, h, e2, e3, hn, hw, _, _ => ⟨e2, e3, by
    rw [loopF, List.flatMap_nil, List.append_nil, set_self hn]⟩
  | q :: items, acc, h, e2, e3, hn, hw, hq, hl => by
    obtain ⟨z, p, rfl, hs⟩ := hq q (List.mem_cons_self ..)
    have hlt : n < h.length := (List.getElem?_eq_some_iff.mp hn).1
    rw [List.flatMap_cons, List.length_append] at hl
    have hc : contribQ (.tup [.str z, p]) = contrib (.str z) p := rfl
    rw [hc] at hl
    rw [show loopF (turnF gPair (partsB wr)) (.tup [.str z, p] :: items) [some body, some (.loc n), e2, e3] h = _ from loop_nx (parts_turn hn hw hs (by omega))]
    obtain ⟨e2', e3', e⟩ := parts_loop items (acc ++ contrib (.str z) p) (h.set n (.lst (acc ++ contrib (.str z) p))) (some (.str z)) (some p) (by rw [List.getElem?_set_self hlt]) hw (fun q hq' => hq q (List.mem_cons_of_mem _ hq')) (by rw [List.length_append]; omega)
    exact ⟨e2', e3', by rw [e, List.set_set, List.flatMap_cons, hc, List.append_assoc]⟩
variable {h : PH}
theorem s_parts {w F : Str} {ps : List PV} (hk : ∀ h, fIxT tab (.glo "FORMS") (.str w) h = some (.str F, h)) (hp : pok (.tup (.str w :: ps)) = true)
    (hq : ∀ q ∈ pairs (F.cps.toList.map fun c => PV.str ⟨⟨[c]⟩⟩) ps, ∃ z p, q = .tup [.str z, p] ∧ (sEq z "s" = true → ∃ ps, p = .tup ps)) {xs : List PV} (hx : (pairs (F.cps.toList.map fun c => PV.str ⟨⟨[c]⟩⟩) ps).flatMap contribQ = xs) (hl : xs.length ≤ 7) (hpx : plains xs = true) :
    evC bod tab (k + 1) wr ("parts_of", none) [.tup (.str w :: ps)] h = some (.loc h.length, h ++ [.lst xs]) := by
  subst hx
  rw [ev_parts_of]
  have hx0 : ∀ (e1 e2 e3 : Option PV) (h : PH), eOp (fIxT tab) (eVar 0) (eCst (.int 0)) [some (.tup (.str w :: ps)), e1, e2, e3] h = some (.str w, h) := fun e1 e2 e3 h => by
    rw [l_op (h1 := h) (h2 := h) (x := .tup (.str w :: ps)) (y := .int 0) rfl rfl]
    show Option.map _ (pat (.str w :: ps) 0) = _
    simp [pat, pix]
  have hn : (h ++ [PO.lst []])[h.length]? = some (.lst []) := by simp
  obtain ⟨e2, e3, el⟩ := parts_loop (wr := freshW h) (body := .tup (.str w :: ps)) (pairs (F.cps.toList.map fun c => PV.str ⟨⟨[c]⟩⟩) ps) [] (h ++ [.lst []]) none none hn (fresh_ge (Nat.le_refl _)) hq (by simpa using Nat.le_trans hl (by decide))
  have e : b_parts_of (evC bod tab k) (freshW h) [some (.tup (.str w :: ps)), none, none, none] h = some (.ret (.loc h.length), [some (.tup (.str w :: ps)), some (.loc h.length), e2, e3], h ++ [.lst ((pairs (F.cps.toList.map fun c => PV.str ⟨⟨[c]⟩⟩) ps).flatMap contribQ)]) := by
    refine (l_seq (e1 := [some (.tup (.str w :: ps)), some (.loc h.length), none, none]) (h1 := h ++ [.lst []]) (l_asg (h1 := h ++ [.lst []]) (x := .loc h.length) rfl rfl)).trans ?_
    refine (l_seq (e1 := [some (.tup (.str w :: ps)), some (.loc h.length), e2, e3]) (h1 := h ++ [.lst ((pairs (F.cps.toList.map fun c => PV.str ⟨⟨[c]⟩⟩) ps).flatMap contribQ)]) ?_).trans rfl
    unfold sFor
    have ei : iZipF (eOp (fIxT tab) (eGlo tab "FORMS") (eOp (fIxT tab) (eVar 0) (eCst (.int 0)))) (eSl fSl (eVar 0) (pSome (eCst (.int 1))) pNone) [some (.tup (.str w :: ps)), some (.loc h.length), none, none] (h ++ [.lst []]) = some ((pairs (F.cps.toList.map fun c => PV.str ⟨⟨[c]⟩⟩) ps, []), h ++ [.lst []]) := by
      unfold iZipF
      rw [l_op (h1 := h ++ [.lst []]) (h2 := h ++ [.lst []]) (x := .glo "FORMS") (y := .str w) (by kernel_rfl) (hx0 _ _ _ _), hk, bnd_some]
      rw [show eSl fSl (eVar 0) (pSome (eCst (.int 1))) pNone [some (.tup (.str w :: ps)), some (.loc h.length), none, none] (h ++ [.lst []]) = some (.tup ps, h ++ [.lst []]) from ?_, bnd_some]
      · rfl
      · show some (PV.tup (cut (PV.str w :: ps) (some 1) none), _) = _
        have : cut (PV.str w :: ps) (some 1) none = ps := by
          unfold cut
          simp [pend]
        rw [this]
    rw [ei, bnd_some]
    show loopF (turnF gPair (partsB (freshW h))) _ _ _ = _
    rw [el]
    simp
  rw [e, fin_ret]
  exact trunc_lst (Nat.le_refl _) (by simp) hpx
theorem plains_map {es : List Ex} (h : ∀ e ∈ es, okE e) : plains (es.map enc) = true := by
  induction es with
  | nil => rfl
  | cons e es ih => rw [List.map_cons, plains, pok_plain _ (pok_enc e (h e (List.mem_cons_self ..))), ih fun x hx => h x (List.mem_cons_of_mem _ hx)]; rfl
theorem poks_map {es : List Ex} (h : ∀ e ∈ es, okE e) : poks (es.map enc) = true := by
  induction es with
  | nil => rfl
  | cons e es ih => rw [List.map_cons, poks, pok_enc e (h e (List.mem_cons_self ..)), ih fun x hx => h x (List.mem_cons_of_mem _ hx)]; rfl
theorem s_partsE {e : Ex} (he : okE e) : evC bod tab (k + 1) wr ("parts_of", none) [enc e] h = some (.loc h.length, h ++ [.lst ((parts e).map enc)]) := by
  have hp := pok_enc e he
  have hpl := plains_map (okE_parts he)
  have one : ∀ {z : Str} {p : PV}, sEq z "s" = false → ∃ z' p', PV.tup [.str z, p] = .tup [.str z', p'] ∧ (sEq z' "s" = true → ∃ ps, p' = .tup ps) := fun {z p} h => ⟨z, p, rfl, fun q => by rw [h] at q; cases q⟩
  cases e with
  | num n =>
    rw [enc] at hp ⊢
    refine s_parts (F := "n") (fun h => kd_FORMS_num) hp (fun q hq => ?_) (by kernel_rfl) (by simp [parts]) hpl
    obtain rfl := List.mem_singleton.mp hq
    exact one (by kernel_rfl)
  | name x =>
    rw [enc] at hp ⊢
    refine s_parts (F := "x") (fun h => kd_FORMS_name) hp (fun q hq => ?_) (by kernel_rfl) (by simp [parts]) hpl
    obtain rfl := List.mem_singleton.mp hq
    exact one (by kernel_rfl)
  | fn x =>
    rw [enc] at hp ⊢
    refine s_parts (F := "x") (fun h => kd_FORMS_fn) hp (fun q hq => ?_) (by kernel_rfl) (by simp [parts]) hpl
    obtain rfl := List.mem_singleton.mp hq
    exact one (by kernel_rfl)
  | rai x =>
    rw [enc] at hp ⊢
    refine s_parts (F := "x") (fun h => kd_FORMS_raise) hp (fun q hq => ?_) (by kernel_rfl) (by simp [parts]) hpl
    obtain rfl := List.mem_singleton.mp hq
    exact one (by kernel_rfl)
  | say a =>
    rw [enc] at hp ⊢
    refine s_parts (F := "e") (fun h => kd_FORMS_say) hp (fun q hq => ?_) (by kernel_rfl) (by simp [parts]) hpl
    obtain rfl := List.mem_singleton.mp hq
    exact one (by kernel_rfl)
  | op d a b =>
    rw [enc] at hp ⊢
    refine s_parts (F := "dee") (fun h => kd_FORMS_do) hp (fun q hq => ?_) (by kernel_rfl) (by simp [parts]) hpl
    have hq : q ∈ [PV.tup [.str "d", .str d], .tup [.str "e", enc a], .tup [.str "e", enc b]] := hq
    simp only [List.mem_cons, List.not_mem_nil, or_false] at hq
    rcases hq with rfl | rfl | rfl <;> exact one (by kernel_rfl)
  | lt x a b =>
    rw [enc] at hp ⊢
    refine s_parts (F := "xee") (fun h => kd_FORMS_let) hp (fun q hq => ?_) (by kernel_rfl) (by simp [parts]) hpl
    have hq : q ∈ [PV.tup [.str "x", .str x], .tup [.str "e", enc a], .tup [.str "e", enc b]] := hq
    simp only [List.mem_cons, List.not_mem_nil, or_false] at hq
    rcases hq with rfl | rfl | rfl <;> exact one (by kernel_rfl)
  | iff a b c =>
    rw [enc] at hp ⊢
    refine s_parts (F := "eee") (fun h => kd_FORMS_if) hp (fun q hq => ?_) (by kernel_rfl) (by simp [parts]) hpl
    have hq : q ∈ [PV.tup [.str "e", enc a], .tup [.str "e", enc b], .tup [.str "e", enc c]] := hq
    simp only [List.mem_cons, List.not_mem_nil, or_false] at hq
    rcases hq with rfl | rfl | rfl <;> exact one (by kernel_rfl)
  | call f as =>
    rw [okE] at he
    rw [enc] at hp ⊢
    refine s_parts (F := "xs") (fun h => kd_FORMS_call) hp (fun q hq => ?_) ?_ (by rw [List.length_map]; exact Nat.le_trans he.2.1 (by decide)) hpl
    · have hq : q ∈ [PV.tup [.str "x", .str f], .tup [.str "s", .tup (encs as)]] := hq
      simp only [List.mem_cons, List.not_mem_nil, or_false] at hq
      rcases hq with rfl | rfl
      · exact one (by kernel_rfl)
      · exact ⟨_, _, rfl, fun _ => ⟨_, rfl⟩⟩
    · have : (pairs ((("xs" : Str).cps.toList).map fun c => PV.str ⟨⟨[c]⟩⟩) [PV.str f, .tup (encs as)]).flatMap contribQ = [] ++ (encs as ++ []) := by kernel_rfl
      rw [this, List.nil_append, List.append_nil, encs_map]; rfl
  | ask a as =>
    rw [okE] at he
    rw [enc] at hp ⊢
    refine s_parts (F := "es") (fun h => kd_FORMS_ask) hp (fun q hq => ?_) ?_ (by rw [List.length_map]; show as.list.length + 1 ≤ 7; omega) hpl
    · have hq : q ∈ [PV.tup [.str "e", enc a], .tup [.str "s", .tup (encs as)]] := hq
      simp only [List.mem_cons, List.not_mem_nil, or_false] at hq
      rcases hq with rfl | rfl
      · exact one (by kernel_rfl)
      · exact ⟨_, _, rfl, fun _ => ⟨_, rfl⟩⟩
    · have : (pairs ((("es" : Str).cps.toList).map fun c => PV.str ⟨⟨[c]⟩⟩) [enc a, .tup (encs as)]).flatMap contribQ = [enc a] ++ (encs as ++ []) := by kernel_rfl
      rw [this, List.append_nil, encs_map]; rfl
  | tr a w b =>
    rw [enc] at hp ⊢
    refine s_parts (F := "exe") (fun h => kd_FORMS_try) hp (fun q hq => ?_) (by kernel_rfl) (by simp [parts]) hpl
    have hq : q ∈ [PV.tup [.str "e", enc a], .tup [.str "x", .str w], .tup [.str "e", enc b]] := hq
    simp only [List.mem_cons, List.not_mem_nil, or_false] at hq
    rcases hq with rfl | rfl | rfl <;> exact one (by kernel_rfl)
end
end KW
set_option Elab.async false
set_option linter.all false
set_option maxRecDepth 100000
set_option maxHeartbeats 400000
namespace KW
open PySem PySem.Spec PyProof.Rows L2 KP
mutual
/-- how many parts, how deep -/
def sz : Ex → Nat
  | .op _ a b => sz a + sz b + 1
  | .say a => sz a + 1
  | .lt _ a b => sz a + sz b + 1
  | .iff a b c => sz a + sz b + sz c + 1
  | .call _ as => szs as + 1
  | .ask a as => sz a + szs as + 1
  | .tr a _ b => sz a + sz b + 1
  | .num _ => 1
  | .name _ => 1
  | .fn _ => 1
  | .rai _ => 1
def szs : Exs → Nat
  | .nil => 0
  | .cons a r => sz a + szs r
end
mutual
def dp : Ex → Nat
  | .op _ a b => max (dp a) (dp b) + 1
  | .say a => dp a + 1
  | .lt _ a b => max (dp a) (dp b) + 1
  | .iff a b c => max (dp a) (max (dp b) (dp c)) + 1
  | .call _ as => dps as + 1
  | .ask a as => max (dp a) (dps as) + 1
  | .tr a _ b => max (dp a) (dp b) + 1
  | .num _ => 1
  | .name _ => 1
  | .fn _ => 1
  | .rai _ => 1
def dps : Exs → Nat
  | .nil => 0
  | .cons a r => max (dp a) (dps r)
end
theorem szs_list : ∀ as : Exs, szs as = (as.list.map sz).sum
  | .nil => rfl
  | .cons a r => by rw [szs, szs_list r]; rfl
theorem dps_list : ∀ (as : Exs), ∀ c ∈ as.list, dp c ≤ dps as
  | .nil, c, h => by cases h
  | .cons a r, c, h => by
    rw [dps]
    rcases List.mem_cons.mp h with q | q
    · rw [q]; omega
    · have := dps_list r c q; omega
theorem sz_parts (e : Ex) : sz e = ((parts e).map sz).sum + 1 := by
  cases e <;> simp [sz, parts, szs_list] <;> omega
theorem sz_pos (e : Ex) : 1 ≤ sz e := by rw [sz_parts]; omega
theorem dp_parts {e : Ex} : ∀ c ∈ parts e, dp c + 1 ≤ dp e := by
  intro c hc
  cases e <;> simp only [parts, List.mem_cons, List.not_mem_nil, or_false] at hc
  · rcases hc with rfl | rfl <;> (rw [dp]; omega)
  · subst hc; rw [dp]; omega
  · rcases hc with rfl | rfl <;> (rw [dp]; omega)
  · rcases hc with rfl | rfl | rfl <;> (rw [dp]; omega)
  · rw [dp]; have := dps_list _ c hc; omega
  · rcases hc with rfl | hc
    · rw [dp]; omega
    · rw [dp]; have := dps_list _ c hc; omega
  · rcases hc with rfl | rfl <;> (rw [dp]; omega)
def stP (q : Ex × Nat) : PV := .tup [enc q.1, .int (q.2 : Nat)]
theorem poks_st {st : List (Ex × Nat)} (h : ∀ q ∈ st, okE q.1) : poks (st.map stP) = true := by
  induction st with
  | nil => rfl
  | cons q st ih =>
    rw [List.map_cons, poks, ih fun x hx => h x (List.mem_cons_of_mem _ hx)]
    have : pok (stP q) = true := by
      unfold stP
      rw [pok, poks, pok_enc _ (h q (List.mem_cons_self ..))]
      rfl
    rw [this]; rfl
abbrev gHD : GF := gTp 2 (gsCons (gNm 3) (gsCons (gNm 4) gsNil))
def exprC : EF := eOp fNe (eVar 1) (eLst aNil)
def exprB (call : CallF) (wr : Nat → Bool) : SF := (sSeq (sAsg (eMeth "list" (mPop wr) (eVar 1) aNil) gHD)
      (sSeq (sAugI 2 (fun i j => i + j) (eCst (.int 1)))
      (sSeq (sIf (eOr (eOp (cmpI fun i j => decide (j < i)) (eVar 2) (eGlo tab "MOST_PARTS")) (eOr (eOp (cmpI fun i j => decide (j < i)) (eVar 4) (eGlo tab "MOST_DEEP")) (eNot (eFn tab call wr "is_formed" (aCons (eVar 3) aNil))))) (sSeq (sRet (eCst (.bl false)))
        sNext) sNext)
      (sSeq (sDrop (eMeth "list" (mExtend wr) (eVar 1) (aCons (eLc wr [5] (iOf (eFn tab call wr "parts_of" (aCons (eVar 3) aNil))) (gNm 5) (fun wr => tfY) (fun wr => (eTup (aCons (eVar 5) (aCons (eOp fAdd (eVar 4) (eCst (.int 1))) aNil))))) aNil)))
      sNext))))
section
variable {k : Nat} {wr : Nat → Bool}
theorem expr_cond {h : PH} {n : Nat} {st : List (Ex × Nat)} {p e2 e3 e4 e5 : Option PV} (hn : h[n]? = some (.lst (st.map stP))) (hok : ∀ q ∈ st, okE q.1) : exprC [p, some (.loc n), e2, e3, e4, e5] h = some (.bl (!st.isEmpty), h ++ [.lst []]) := by
  have hlt : n < h.length := (List.getElem?_eq_some_iff.mp hn).1
  unfold exprC
  rw [l_op (h1 := h) (h2 := h ++ [.lst []]) (x := .loc n) (y := .loc h.length) rfl rfl, ne_nil (ws := st.map stP) (by rw [List.getElem?_append_left hlt]; exact hn) (by simp) (poks_st hok)]
  cases st <;> rfl
/-- one turn -/
theorem expr_turn {h : PH} {n d m : Nat} {st : List (Ex × Nat)} {e : Ex} {p : PV} {e3 e4 e5 : Option PV} (hn : h[n]? = some (PO.lst ((st ++ [(e, d)]).map stP))) (hw : ∀ j, n ≤ j → wr j = true) (he : okE e) (hm : m + 1 ≤ 300) (hd : d ≤ 60) (hl : st.length ≤ 300) (hpl : (parts e).length ≤ 7) :
    ∃ h', exprB (evC bod tab (k + 4)) wr [some p, some (.loc n), some (.int (m : Nat)), e3, e4, e5] h = some (.nx, [some p, some (.loc n), some (.int ((m + 1 : Nat) : Int)), some (enc e), some (.int (d : Nat)), e5], h') ∧ h'[n]? = some (PO.lst ((st ++ (parts e).map fun c => (c, d + 1)).map stP)) := by
  have hlt : n < h.length := (List.getElem?_eq_some_iff.mp hn).1
  have h2n : (h.set n (PO.lst (st.map stP)))[n]? = some (PO.lst (st.map stP)) := List.getElem?_set_self hlt
  generalize hh2 : h.set n (PO.lst (st.map stP)) = h2 at h2n
  have hlt2 : n < h2.length := (List.getElem?_eq_some_iff.mp h2n).1
  have hok : (fun c : Ex => stP (c, d + 1)) = fun c => PV.tup [enc c, .int ((d : Nat) + 1)] := by
    funext c; unfold stP; simp
  refine ⟨((h2 ++ [PO.lst ((parts e).map enc)]) ++ [PO.lst (((parts e).map enc).map fun x => PV.tup [x, .int ((d : Nat) + 1)])]).set n (PO.lst (st.map stP ++ ((parts e).map enc).map fun x => PV.tup [x, .int ((d : Nat) + 1)])), ?_, ?_⟩
  · unfold exprB
    refine (l_seq (e1 := [some p, some (.loc n), some (.int (m : Nat)), some (enc e), some (.int (d : Nat)), e5]) (h1 := h2) ?_).trans ?_
    · refine l_asg (x := stP (e, d)) ?_ rfl
      rw [l_meth (h1 := h) (h2 := h) (x := .loc n) (ps := []) rfl (tyP_lst hn) rfl]
      rw [List.map_append, List.map_singleton] at hn
      rw [pop_at hn (hw n (Nat.le_refl _)), hh2]
    refine (l_seq (e1 := [some p, some (.loc n), some (.int ((m + 1 : Nat) : Int)), some (enc e), some (.int (d : Nat)), e5]) (h1 := h2) (by simp [sAugI, eCst, bnd])).trans ?_
    refine (l_seq (e1 := [some p, some (.loc n), some (.int ((m + 1 : Nat) : Int)), some (enc e), some (.int (d : Nat)), e5]) (h1 := h2) ?_).trans ?_
    · refine (l_if (b := false) (h1 := h2) ?_).trans rfl
      rw [l_or2 (h1 := h2) ?_, l_or2 (h1 := h2) ?_, l_not (b := true) (h1 := h2) ?_]
      · rfl
      · rw [l_fn (h1 := h2) (ps := [enc e]) rfl, ct_is_formed, s_formedE he]
      · rw [l_op (h1 := h2) (h2 := h2) (x := .int (d : Nat)) (y := .int 60) rfl (by kernel_rfl)]
        simp only [cmpI]
        rw [decide_eq_false (by omega)]
      · rw [l_op (h1 := h2) (h2 := h2) (x := .int ((m + 1 : Nat) : Int)) (y := .int 300) rfl (by kernel_rfl)]
        simp only [cmpI]
        rw [decide_eq_false (by omega)]
    refine (l_seq (l_drop (x := .non) (h1 := ((h2 ++ [PO.lst ((parts e).map enc)]) ++ [PO.lst (((parts e).map enc).map fun x => PV.tup [x, .int ((d : Nat) + 1)])]).set n (PO.lst (st.map stP ++ ((parts e).map enc).map fun x => PV.tup [x, .int ((d : Nat) + 1)]))) ?_)).trans rfl
    rw [l_meth (h1 := h2) (h2 := (h2 ++ [PO.lst ((parts e).map enc)]) ++ [PO.lst (((parts e).map enc).map fun x => PV.tup [x, .int ((d : Nat) + 1)])]) (x := .loc n) (ps := [.loc (h2 ++ [PO.lst ((parts e).map enc)]).length]) rfl (tyP_lst h2n) ?_]
    · refine extend_loc (ys := ((parts e).map enc).map fun x => PV.tup [x, .int ((d : Nat) + 1)]) ?_ (by simp) (hw n (Nat.le_refl _)) ?_
      · rw [List.append_assoc, List.getElem?_append_left hlt2]; exact h2n
      · rw [List.length_map, List.length_map, List.length_map]
        have : (307 : Nat) ≤ lineN := by decide
        omega
    · refine l_a1 ?_ rfl
      have ei : iOf (eFn tab (evC bod tab (k + 4)) wr "parts_of" (aCons (eVar 3) aNil)) [some p, some (.loc n), some (.int ((m + 1 : Nat) : Int)), some (enc e), some (.int (d : Nat)), e5] h2 = some (((parts e).map enc, [h2.length]), h2 ++ [PO.lst ((parts e).map enc)]) := by
        unfold iOf
        rw [l_fn (h1 := h2) (ps := [enc e]) rfl, ct_parts_of, s_partsE he, bnd_some]
        simp
      refine eLc_pure (fun x => PV.tup [x, .int ((d : Nat) + 1)]) ei (lcOk_loc (by simp) (hw _ (by simp; omega)) (by rw [List.length_map]; exact Nat.le_trans hpl (by decide)) rfl) fun x hx => ?_
      refine ⟨[some p, some (.loc n), some (.int ((m + 1 : Nat) : Int)), some (enc e), some (.int (d : Nat)), some x], rfl, fun wr h => ?_⟩
      rfl
  · rw [List.getElem?_set_self (by simp; omega), List.map_append, List.map_map, List.map_map]
    congr 3 <;> simp [Function.comp_def, hok]
theorem expr_loop {p : PV} {n : Nat} (hw : ∀ j, n ≤ j → wr j = true) : ∀ (S : Nat) (st : List (Ex × Nat)) (h : PH) (m : Nat) (e3 e4 e5 : Option PV), (st.map fun q => sz q.1).sum = S → h[n]? = some (PO.lst (st.map stP)) → (∀ q ∈ st, okE q.1 ∧ q.2 + dp q.1 ≤ 61) → m + S ≤ 300 →
    ∃ env' h', whileF exprC (exprB (evC bod tab (k + 4)) wr) (S + 1) [some p, some (.loc n), some (.int (m : Nat)), e3, e4, e5] h = some (.nx, env', h') ∧ env'[0]? = some (some p)
  | 0, st, h, m, e3, e4, e5, hS, hn, hq, hm => by
    have : st = [] := by
      cases st with
      | nil => rfl
      | cons q st => simp only [List.map_cons, List.sum_cons] at hS; have := sz_pos q.1; omega
    subst this
    exact ⟨_, _, while_end (expr_cond hn (fun q hq => by cases hq)), rfl⟩
  | S + 1, st, h, m, e3, e4, e5, hS, hn, hq, hm => by
    rcases List.eq_nil_or_concat st with rfl | ⟨st', ⟨e, d⟩, rfl⟩
    · simp at hS
    · rw [List.concat_eq_append] at hS hn hq
      have hlt : n < h.length := (List.getElem?_eq_some_iff.mp hn).1
      have hc := expr_cond (p := some p) (e2 := some (.int (m : Nat))) (e3 := e3) (e4 := e4) (e5 := e5) hn fun q hx => (hq q hx).1
      have hb : (!(st' ++ [(e, d)]).isEmpty) = true := by simp
      rw [hb] at hc
      have hlast := hq (e, d) (by simp)
      have hsum : (st'.map fun q => sz q.1).sum + sz e = S + 1 := by simpa using hS
      have hz := sz_parts e
      have hpl : (parts e).length ≤ 7 := by
        have he := hlast.1
        cases e <;> simp only [parts, List.length_cons, List.length_nil, okE] at he ⊢ <;> omega
      have hlen : ∀ l : List (Ex × Nat), l.length ≤ (l.map fun q => sz q.1).sum := by
        intro l
        induction l with
        | nil => simp
        | cons q l ih => simp only [List.length_cons, List.map_cons, List.sum_cons]; have := sz_pos q.1; omega
      have hd1 : 1 ≤ dp e := by cases e <;> (rw [dp]; omega)
      obtain ⟨h', ht, hn'⟩ := expr_turn (k := k) (wr := wr) (h := h ++ [PO.lst []]) (n := n) (d := d) (m := m) (st := st') (e := e) (p := p) (e3 := e3) (e4 := e4) (e5 := e5) (by rw [List.getElem?_append_left hlt]; exact hn) hw hlast.1 (by omega) (by have := hlast.2; simp only at this; omega) (by have := hlen st'; omega) hpl
      obtain ⟨env', h2, e2, e6⟩ := expr_loop hw S (st' ++ (parts e).map fun c => (c, d + 1)) h' (m + 1) (some (enc e)) (some (.int (d : Nat))) e5 (by
        rw [List.map_append, List.sum_append, List.map_map]
        have : ((parts e).map ((fun q : Ex × Nat => sz q.1) ∘ fun c => (c, d + 1))).sum = ((parts e).map sz).sum := rfl
        rw [this]; omega) hn' (fun q hx => by
          rcases List.mem_append.mp hx with hx | hx
          · exact hq q (List.mem_append_left _ hx)
          · obtain ⟨c, hc', rfl⟩ := List.mem_map.mp hx
            have a1 := dp_parts c hc'
            have a2 := hlast.2
            simp only at a2 ⊢
            exact ⟨okE_parts hlast.1 c hc', by omega⟩) (by omega)
      exact ⟨env', h2, (while_nx hc ht).trans e2, e6⟩
variable {h : PH}
theorem s_expr {e : Ex} (he : okE e) (h1 : sz e ≤ 300) (h2 : dp e ≤ 60) : evC bod tab (k + 5) wr ("is_expression", none) [enc e] h = some (.bl true, h) := by
  rw [ev_is_expression]
  obtain ⟨env', h', el, _⟩ := expr_loop (k := k) (wr := freshW h) (p := enc e) (n := h.length) (fun j hj => fresh_ge hj) (sz e) [(e, 1)] (h ++ [PO.lst [stP (e, 1)]]) 0 none none none (by simp) (by simp) (fun q hq => by
    obtain rfl := List.mem_singleton.mp hq
    exact ⟨he, by simp only; omega⟩) (by omega)
  have e : b_is_expression (evC bod tab (k + 4)) (freshW h) [some (enc e), none, none, none, none, none] h = some (.ret (.bl true), env', h') := by
    refine (l_seq (e1 := [some (enc e), some (.loc h.length), some (.int ((0 : Nat) : Int)), none, none, none]) (h1 := h ++ [PO.lst [stP (e, 1)]]) rfl).trans ?_
    refine (l_seq (e1 := env') (h1 := h') ?_).trans rfl
    exact while_mono el (by unfold fuelN; omega)
  rw [e]; rfl
end
end KW
set_option Elab.async false
set_option linter.all false
set_option maxRecDepth 100000
set_option maxHeartbeats 400000
namespace KW
open PySem PySem.Spec PyProof.Rows L2 KP
/-! ### rest forms -/
def isDS : Ex → Bool
  | .op _ _ _ => true
  | .say _ => true
  | _ => false
def isAtom : Ex → Bool
  | .num _ => true
  | .name _ => true
  | .fn _ => true
  | _ => false
def rest : Ex → PV
  | .num n => .tup [.str "pass", enc (.num n)]
  | .name n => .tup [.str "pass", enc (.name n)]
  | .fn n => .tup [.str "pass", enc (.fn n)]
  | .op d a b => enc (.op d a b)
  | .say a => enc (.say a)
  | .lt x a b => if isAtom a || isDS a then .tup [.str "set", .str x, enc a, rest b] else
    (match a with
    | .call f as => .tup [.str "call", .str f, .tup (encs as), .tup [.str "then", .str x, rest b]]
    | .ask c as => .tup [.str "ask", enc c, .tup (encs as), .tup [.str "then", .str x, rest b]]
    | _ => .tup [.str "with", .tup [.str "then", .str x, rest b], rest a])
  | .iff a b c => .tup [.str "if", enc a, rest b, rest c]
  | .call f as => .tup [.str "call", .str f, .tup (encs as), .tup [.str "same"]]
  | .ask a as => .tup [.str "ask", enc a, .tup (encs as), .tup [.str "same"]]
  | .rai w => enc (.rai w)
  | .tr a w b => match a with
    | .call f as => .tup [.str "call", .str f, .tup (encs as), .tup [.str "catch", .str w, rest b]]
    | .ask c as => .tup [.str "ask", enc c, .tup (encs as), .tup [.str "catch", .str w, rest b]]
    | _ => .tup [.str "with", .tup [.str "catch", .str w, rest b], rest a]
/-- what is told in rests -/
def nrm : Ex → Prop
  | .op _ _ _ => False
  | .say _ => False
  | .lt _ a b => (isDS a = true ∨ nrm a) ∧ nrm b
  | .iff _ b c => nrm b ∧ nrm c
  | .tr a _ b => nrm a ∧ nrm b
  | _ => True
section
variable {wr : Nat → Bool} {h : PH}
def restOk (e : Ex) : Prop := ∀ (K : Nat) (wr : Nat → Bool) (h : PH), 2 * dp e + 1 ≤ K → evC bod tab K wr ("body_in_rests", none) [enc e] h = some (rest e, h)
def withP (v : Ex) (r : PV) : PV := match v with
  | .call f as => .tup [.str "call", .str f, .tup (encs as), r]
  | .ask c as => .tup [.str "ask", enc c, .tup (encs as), r]
  | _ => .tup [.str "with", r, rest v]
theorem s_with {v : Ex} {r : PV} {K : Nat} (hv : restOk v) (hr : plain (withP v r) = true) (hK : 2 * dp v + 2 ≤ K) : evC bod tab K wr ("with_rest", none) [enc v, r] h = some (withP v r, h) := by
  obtain ⟨K, rfl⟩ : ∃ j, K = j + 1 := ⟨K - 1, by omega⟩
  rw [ev_with_rest]
  have tail : ∀ w : PV, withP v r = .tup [.str "with", r, rest v] → (∀ h, eOp (fInT tab) (eOp (fIxT tab) (eVar 0) (eCst (.int 0))) (eTup (aCons (eCst (.str "call")) (aCons (eCst (.str "ask")) aNil))) [some (enc v), some r] h = some (.bl false, h)) →
      b_with_rest (evC bod tab K) (freshW h) [some (enc v), some r] h = some (.ret (withP v r), [some (enc v), some r], h) := fun w hw hc => by
    refine (l_seq (e1 := [some (enc v), some r]) (h1 := h) ((l_if (hc h)).trans rfl)).trans (l_seqR (l_ret ?_))
    rw [hw]
    refine l_tup (l_a1 (h1 := h) rfl (l_a1 (h1 := h) rfl (l_a1 (h1 := h) ?_ rfl))) (show 3 ≤ lineN by decide)
    rw [l_fn (h1 := h) (ps := [enc v]) rfl, ct_body_in_rests, hv K _ h (by omega)]
  have e : b_with_rest (evC bod tab K) (freshW h) [some (enc v), some r] h = some (.ret (withP v r), [some (enc v), some r], h) := by
    cases v with
    | call f as => rw [enc]; kernel_rfl
    | ask a as => rw [enc]; kernel_rfl
    | num n => exact tail .non rfl fun h => by rw [enc]; kernel_rfl
    | name n => exact tail .non rfl fun h => by rw [enc]; kernel_rfl
    | fn n => exact tail .non rfl fun h => by rw [enc]; kernel_rfl
    | op d a b => exact tail .non rfl fun h => by rw [enc]; kernel_rfl
    | say a => exact tail .non rfl fun h => by rw [enc]; kernel_rfl
    | lt x a b => exact tail .non rfl fun h => by rw [enc]; kernel_rfl
    | iff a b c => exact tail .non rfl fun h => by rw [enc]; kernel_rfl
    | rai w => exact tail .non rfl fun h => by rw [enc]; kernel_rfl
    | tr a w b => exact tail .non rfl fun h => by rw [enc]; kernel_rfl
  rw [e, fin_ret, trunc_pl hr]
mutual
theorem plain_enc : ∀ e : Ex, plain (enc e) = true
  | .num n => by rw [enc]; rfl
  | .name x => by rw [enc]; rfl
  | .fn x => by rw [enc]; rfl
  | .op d a b => by rw [enc, KP.plain, plains, plains, plains, plains, plain_enc a, plain_enc b]; rfl
  | .say a => by rw [enc, KP.plain, plains, plains, plain_enc a]; rfl
  | .lt x a b => by rw [enc, KP.plain, plains, plains, plains, plains, plain_enc a, plain_enc b]; rfl
  | .iff a b c => by rw [enc, KP.plain, plains, plains, plains, plains, plain_enc a, plain_enc b, plain_enc c]; rfl
  | .call f as => by rw [enc, KP.plain, plains, plains, plains, show plain (.tup (encs as)) = true from by rw [KP.plain]; exact plains_encs as]; rfl
  | .ask a as => by rw [enc, KP.plain, plains, plains, plains, plain_enc a, show plain (.tup (encs as)) = true from by rw [KP.plain]; exact plains_encs as]; rfl
  | .rai w => by rw [enc]; rfl
  | .tr a w b => by rw [enc, KP.plain, plains, plains, plains, plains, plain_enc a, plain_enc b]; rfl
theorem plains_encs : ∀ as : Exs, plains (encs as) = true
  | .nil => by rw [encs]; rfl
  | .cons a r => by rw [encs, plains, plain_enc a, plains_encs r]; rfl
end
theorem plain_tup {xs : List PV} : plain (.tup xs) = plains xs := by rw [KP.plain]
theorem rest_lt {x : Str} {a b : Ex} : rest (.lt x a b) = if (isAtom a || isDS a) = true then .tup [.str "set", .str x, enc a, rest b] else withP a (.tup [.str "then", .str x, rest b]) := by
  cases a <;> simp [rest, withP]
theorem rest_tr {w : Str} {a b : Ex} : rest (.tr a w b) = withP a (.tup [.str "catch", .str w, rest b]) := by
  cases a <;> simp [rest, withP]
theorem plain_withP {v : Ex} {r : PV} (hr : plain r = true) (hv : plain (rest v) = true) : plain (withP v r) = true := by
  have e1 : ∀ as : Exs, plain (.tup (encs as)) = true := fun as => by rw [plain_tup]; exact plains_encs as
  cases v with
  | call f as => show plain (.tup [.str "call", .str f, .tup (encs as), r]) = true; rw [plain_tup, plains, plains, plains, plains, e1, hr]; rfl
  | ask a as => show plain (.tup [.str "ask", enc a, .tup (encs as), r]) = true; rw [plain_tup, plains, plains, plains, plains, plain_enc, e1, hr]; rfl
  | _ => unfold withP; simp only; rw [plain_tup, plains, plains, plains, hr, hv]; rfl
theorem plain_rest : ∀ e : Ex, plain (rest e) = true
  | .num n => by rw [rest, plain_tup, plains, plains, plain_enc]; rfl
  | .name n => by rw [rest, plain_tup, plains, plains, plain_enc]; rfl
  | .fn n => by rw [rest, plain_tup, plains, plains, plain_enc]; rfl
  | .op d a b => by rw [rest]; exact plain_enc _
  | .say a => by rw [rest]; exact plain_enc _
  | .lt x a b => by
    have h2 := plain_rest b
    have h1 := plain_rest a
    rw [rest_lt]
    split
    · rw [plain_tup, plains, plains, plains, plains, plain_enc, h2]; rfl
    · exact plain_withP (by rw [plain_tup, plains, plains, plains, h2]; rfl) h1
  | .iff a b c => by rw [rest, plain_tup, plains, plains, plains, plains, plain_enc, plain_rest b, plain_rest c]; rfl
  | .call f as => by rw [rest, plain_tup, plains, plains, plains, plains, show plain (.tup (encs as)) = true from by rw [plain_tup]; exact plains_encs as]; rfl
  | .ask a as => by rw [rest, plain_tup, plains, plains, plains, plains, plain_enc, show plain (.tup (encs as)) = true from by rw [plain_tup]; exact plains_encs as]; rfl
  | .rai w => by rw [rest]; exact plain_enc _
  | .tr a w b => by
    have h2 := plain_rest b
    have h1 := plain_rest a
    rw [rest_tr]
    exact plain_withP (by rw [plain_tup, plains, plains, plains, h2]; rfl) h1
theorem s_waits {x : Str} {a b : Ex} {k : Nat} : evC bod tab (k + 1) wr ("waits", none) [enc (.lt x a b)] h = some (.bl (!(isAtom a || isDS a)), h) := by
  rw [ev_waits]
  have e : b_waits (evC bod tab k) (freshW h) [some (enc (.lt x a b))] h = some (.ret (.bl (!(isAtom a || isDS a))), [some (enc (.lt x a b))], h) := by
    rw [enc]
    cases a <;> (rw [enc]; kernel_rfl)
  rw [e]; rfl
end
end KW
set_option Elab.async false
set_option linter.all false
set_option maxRecDepth 100000
set_option maxHeartbeats 400000
namespace KW
open PySem PySem.Spec PyProof.Rows L2 KP
section
theorem restOk_of {e : Ex} (h : ∀ (K : Nat) (h : PH), 2 * dp e ≤ K → ∃ env, b_body_in_rests (evC bod tab K) (freshW h) [some (enc e), none, none] h = some (.ret (rest e), env, h)) : restOk e := fun K wr hh hK => by
  obtain ⟨K, rfl⟩ : ∃ j, K = j + 1 := ⟨K - 1, by omega⟩
  rw [ev_body_in_rests]
  obtain ⟨env, e1⟩ := h K hh (by omega)
  rw [e1, fin_ret, trunc_pl (plain_rest e)]
theorem rest_lt_ok {x : Str} {a b : Ex} (ha : isDS a = true ∨ restOk a) (hb : restOk b) : restOk (.lt x a b) := by
  refine restOk_of fun K h hK => ?_
  have hd : dp (.lt x a b) = max (dp a) (dp b) + 1 := by rw [dp]
  have h1 : dp a + 1 ≤ dp (.lt x a b) := by omega
  have h2 : dp b + 1 ≤ dp (.lt x a b) := by omega
  obtain ⟨K, rfl⟩ : ∃ j, K = j + 1 := ⟨K - 1, by omega⟩
  have hE : enc (.lt x a b) = .tup [.str "let", .str x, enc a, enc b] := by rw [enc]
  refine ⟨[some (enc (.lt x a b)), some (.str "let"), some (rest b)], ?_⟩
  have i3 : ∀ (e1 e2 : Option PV) (h : PH), eOp (fIxT tab) (eVar 0) (eCst (.int 3)) [some (enc (.lt x a b)), e1, e2] h = some (enc b, h) := fun e1 e2 h => by rw [hE]; kernel_rfl
  have i2 : ∀ (e1 e2 : Option PV) (h : PH), eOp (fIxT tab) (eVar 0) (eCst (.int 2)) [some (enc (.lt x a b)), e1, e2] h = some (enc a, h) := fun e1 e2 h => by rw [hE]; kernel_rfl
  have i1 : ∀ (e1 e2 : Option PV) (h : PH), eOp (fIxT tab) (eVar 0) (eCst (.int 1)) [some (enc (.lt x a b)), e1, e2] h = some (.str x, h) := fun e1 e2 h => by rw [hE]; kernel_rfl
  refine (l_seq (e1 := [some (enc (.lt x a b)), some (.str "let"), none]) (h1 := h) (by rw [hE]; kernel_rfl)).trans ?_
  refine (l_seq (e1 := [some (enc (.lt x a b)), some (.str "let"), none]) (h1 := h) (by rw [hE]; kernel_rfl)).trans (l_seqR ?_)
  refine (l_if (b := true) (h1 := h) (by rw [hE]; kernel_rfl)).trans ?_
  rw [if_pos rfl]
  refine (l_seq (e1 := [some (enc (.lt x a b)), some (.str "let"), some (rest b)]) (h1 := h) (l_asg (x := rest b) ?_ rfl)).trans (l_seqR (l_ret ?_))
  · rw [l_fn (h1 := h) (ps := [enc b]) (l_a1 (h1 := h) (i3 _ _ _) rfl), ct_body_in_rests, hb _ _ h (by omega)]
  · refine (l_ite (b := !(isAtom a || isDS a)) (h1 := h) (by rw [l_fn (h1 := h) (ps := [enc (.lt x a b)]) rfl, ct_waits, s_waits])).trans ?_
    rw [rest_lt]
    cases q : (isAtom a || isDS a) with
    | true =>
      rw [if_neg (by simp), if_pos rfl]
      exact l_tup (l_a1 (h1 := h) rfl (l_a1 (h1 := h) (i1 _ _ _) (l_a1 (h1 := h) (i2 _ _ _) (l_a1 (h1 := h) rfl rfl)))) (show 4 ≤ lineN by decide)
    | false =>
      rw [if_pos (by simp), if_neg (by simp)]
      have ha : restOk a := by
        rcases ha with z | z
        · rw [z] at q; simp at q
        · exact z
      rw [l_fn (h1 := h) (ps := [enc a, .tup [.str "then", .str x, rest b]]) (l_a1 (h1 := h) (i2 _ _ _) (l_a1 (h1 := h) (l_tup (l_a1 (h1 := h) rfl (l_a1 (h1 := h) (i1 _ _ _) (l_a1 (h1 := h) rfl rfl))) (show 3 ≤ lineN by decide)) rfl)), ct_with_rest,
        s_with ha (plain_withP (by rw [plain_tup, plains, plains, plains, plain_rest b]; rfl) (plain_rest a)) (by omega)]
theorem rest_tr_ok {w : Str} {a b : Ex} (ha : restOk a) (hb : restOk b) : restOk (.tr a w b) := by
  refine restOk_of fun K h hK => ?_
  have hd : dp (.tr a w b) = max (dp a) (dp b) + 1 := by rw [dp]
  have h1 : dp a + 1 ≤ dp (.tr a w b) := by omega
  have h2 : dp b + 1 ≤ dp (.tr a w b) := by omega
  have hE : enc (.tr a w b) = .tup [.str "try", enc a, .str w, enc b] := by rw [enc]
  refine ⟨[some (enc (.tr a w b)), some (.str "try"), none], ?_⟩
  have i3 : ∀ (e1 e2 : Option PV) (h : PH), eOp (fIxT tab) (eVar 0) (eCst (.int 3)) [some (enc (.tr a w b)), e1, e2] h = some (enc b, h) := fun e1 e2 h => by rw [hE]; kernel_rfl
  have i2 : ∀ (e1 e2 : Option PV) (h : PH), eOp (fIxT tab) (eVar 0) (eCst (.int 2)) [some (enc (.tr a w b)), e1, e2] h = some (.str w, h) := fun e1 e2 h => by rw [hE]; kernel_rfl
  have i1 : ∀ (e1 e2 : Option PV) (h : PH), eOp (fIxT tab) (eVar 0) (eCst (.int 1)) [some (enc (.tr a w b)), e1, e2] h = some (enc a, h) := fun e1 e2 h => by rw [hE]; kernel_rfl
  refine (l_seq (e1 := [some (enc (.tr a w b)), some (.str "try"), none]) (h1 := h) (by rw [hE]; kernel_rfl)).trans ?_
  refine (l_seq (e1 := [some (enc (.tr a w b)), some (.str "try"), none]) (h1 := h) (by rw [hE]; kernel_rfl)).trans ?_
  refine (l_seq (e1 := [some (enc (.tr a w b)), some (.str "try"), none]) (h1 := h) (by rw [hE]; kernel_rfl)).trans (l_seqR ?_)
  refine (l_if (b := true) (h1 := h) (by rw [hE]; kernel_rfl)).trans ?_
  rw [if_pos rfl]
  refine l_seqR (l_ret ?_)
  have j3 : eFn tab (evC bod tab K) (freshW h) "body_in_rests" (aCons (eOp (fIxT tab) (eVar 0) (eCst (.int 3))) aNil) [some (enc (.tr a w b)), some (.str "try"), none] h = some (rest b, h) := by
    rw [l_fn (h1 := h) (ps := [enc b]) (l_a1 (h1 := h) (i3 _ _ _) rfl), ct_body_in_rests, hb _ _ h (by omega)]
  rw [l_fn (h1 := h) (ps := [enc a, .tup [.str "catch", .str w, rest b]]) (l_a1 (h1 := h) (i1 _ _ _) (l_a1 (h1 := h) (l_tup (l_a1 (h1 := h) rfl (l_a1 (h1 := h) (i2 _ _ _) (l_a1 (h1 := h) j3 rfl))) (show 3 ≤ lineN by decide)) rfl)), ct_with_rest,
    s_with ha (plain_withP (by rw [plain_tup, plains, plains, plains, plain_rest b]; rfl) (plain_rest a)) (by omega), rest_tr]
theorem rest_iff_ok {a b c : Ex} (hb : restOk b) (hc : restOk c) : restOk (.iff a b c) := by
  refine restOk_of fun K h hK => ?_
  have hd : dp (.iff a b c) = max (dp a) (max (dp b) (dp c)) + 1 := by rw [dp]
  have hE : enc (.iff a b c) = .tup [.str "if", enc a, enc b, enc c] := by rw [enc]
  refine ⟨[some (enc (.iff a b c)), some (.str "if"), none], ?_⟩
  have i3 : ∀ (e1 e2 : Option PV) (h : PH), eOp (fIxT tab) (eVar 0) (eCst (.int 3)) [some (enc (.iff a b c)), e1, e2] h = some (enc c, h) := fun e1 e2 h => by rw [hE]; kernel_rfl
  have i2 : ∀ (e1 e2 : Option PV) (h : PH), eOp (fIxT tab) (eVar 0) (eCst (.int 2)) [some (enc (.iff a b c)), e1, e2] h = some (enc b, h) := fun e1 e2 h => by rw [hE]; kernel_rfl
  have i1 : ∀ (e1 e2 : Option PV) (h : PH), eOp (fIxT tab) (eVar 0) (eCst (.int 1)) [some (enc (.iff a b c)), e1, e2] h = some (enc a, h) := fun e1 e2 h => by rw [hE]; kernel_rfl
  refine (l_seq (e1 := [some (enc (.iff a b c)), some (.str "if"), none]) (h1 := h) (by rw [hE]; kernel_rfl)).trans ?_
  refine (l_seq (e1 := [some (enc (.iff a b c)), some (.str "if"), none]) (h1 := h) (by rw [hE]; kernel_rfl)).trans ?_
  refine (l_seq (e1 := [some (enc (.iff a b c)), some (.str "if"), none]) (h1 := h) (by rw [hE]; kernel_rfl)).trans ?_
  refine (l_seq (e1 := [some (enc (.iff a b c)), some (.str "if"), none]) (h1 := h) (by rw [hE]; kernel_rfl)).trans (l_seqR ?_)
  refine (l_if (b := true) (h1 := h) (by rw [hE]; kernel_rfl)).trans ?_
  rw [if_pos rfl]
  refine l_seqR (l_ret ?_)
  have j3 : eFn tab (evC bod tab K) (freshW h) "body_in_rests" (aCons (eOp (fIxT tab) (eVar 0) (eCst (.int 3))) aNil) [some (enc (.iff a b c)), some (.str "if"), none] h = some (rest c, h) := by
    rw [l_fn (h1 := h) (ps := [enc c]) (l_a1 (h1 := h) (i3 _ _ _) rfl), ct_body_in_rests, hc _ _ h (by omega)]
  have j2 : eFn tab (evC bod tab K) (freshW h) "body_in_rests" (aCons (eOp (fIxT tab) (eVar 0) (eCst (.int 2))) aNil) [some (enc (.iff a b c)), some (.str "if"), none] h = some (rest b, h) := by
    rw [l_fn (h1 := h) (ps := [enc b]) (l_a1 (h1 := h) (i2 _ _ _) rfl), ct_body_in_rests, hb _ _ h (by omega)]
  rw [rest]
  exact l_tup (l_a1 (h1 := h) rfl (l_a1 (h1 := h) (i1 _ _ _) (l_a1 (h1 := h) j2 (l_a1 (h1 := h) j3 rfl)))) (show 4 ≤ lineN by decide)
theorem rest_ok : ∀ e : Ex, nrm e → restOk e
  | .num n, _ => restOk_of fun K h hK => ⟨[some (.tup [.str "num", .int n]), some (.str "num"), none], by rw [rest, enc]; kernel_rfl⟩
  | .name n, _ => restOk_of fun K h hK => ⟨[some (.tup [.str "name", .str n]), some (.str "name"), none], by rw [rest, enc]; kernel_rfl⟩
  | .fn n, _ => restOk_of fun K h hK => ⟨[some (.tup [.str "fn", .str n]), some (.str "fn"), none], by rw [rest, enc]; kernel_rfl⟩
  | .rai n, _ => restOk_of fun K h hK => ⟨[some (.tup [.str "raise", .str n]), some (.str "raise"), none], by rw [rest, enc]; kernel_rfl⟩
  | .call f as, _ => restOk_of fun K h hK => ⟨[some (.tup [.str "call", .str f, .tup (encs as)]), some (.str "call"), none], by rw [rest, enc]; kernel_rfl⟩
  | .ask a as, _ => restOk_of fun K h hK => ⟨[some (.tup [.str "ask", enc a, .tup (encs as)]), some (.str "ask"), none], by rw [rest, enc]; kernel_rfl⟩
  | .op _ _ _, h => by rw [nrm] at h; exact h.elim
  | .say _, h => by rw [nrm] at h; exact h.elim
  | .lt x a b, h => by
    rw [nrm] at h
    exact rest_lt_ok (h.1.imp id (rest_ok a)) (rest_ok b h.2)
  | .iff a b c, h => by
    rw [nrm] at h
    exact rest_iff_ok (rest_ok b h.1) (rest_ok c h.2)
  | .tr a w b, h => by
    rw [nrm] at h
    exact rest_tr_ok (rest_ok a h.1) (rest_ok b h.2)
end
end KW
set_option Elab.async false
set_option linter.all false
set_option maxRecDepth 100000
set_option maxHeartbeats 400000
namespace KW
open PySem PySem.Spec PyProof.Rows L2 KP
/-! ### texts: that there is one, not too long -/
def textB (call : CallF) (wr : Nat → Bool) : SF := (sSeq (sIf (eOp fEq (eVar 2) (eCst (.str "e"))) (sSeq (sDrop (eMeth "list" (mAppend wr) (eVar 1) (aCons (eFn tab call wr "expression_text" (aCons (eVar 3) aNil)) aNil)))
        sNext) (sSeq (sIf (eOp fEq (eVar 2) (eCst (.str "s"))) (sSeq (sDrop (eMeth "list" (mExtend wr) (eVar 1) (aCons (eLc wr [4] (iOf (eVar 3)) (gNm 4) (fun wr => tfY) (fun wr => (eFn tab call wr "expression_text" (aCons (eVar 4) aNil)))) aNil)))
          sNext) (sSeq (sDrop (eMeth "list" (mAppend wr) (eVar 1) (aCons (eCall (gStrO tab call wr) (aCons (eVar 3) aNil)) aNil)))
          sNext))
        sNext))
      sNext)
/-- what an item of the row adds -/
inductive Adds (call : CallF) : Str → PV → List PV → Prop where
  | e {z : Str} {p : PV} {t : Str} : sEq z "e" = true → (∀ wr h, call wr ("expression_text", none) [p] h = some (.str t, h)) → Adds call z p [.str t]
  | s {z : Str} {qs : List PV} {Y : PV → PV} : sEq z "e" = false → sEq z "s" = true → qs.length ≤ 6 → (∀ q ∈ qs, ∀ wr h, call wr ("expression_text", none) [q] h = some (Y q, h)) → Adds call z (.tup qs) (qs.map Y)
  | o {z : Str} {p : PV} {t : Str} : sEq z "e" = false → sEq z "s" = false → (∀ wr h, gStrO tab call wr [p] h = some (.str t, h)) → Adds call z p [.str t]
section
variable {call : CallF} {wr : Nat → Bool}
theorem text_turn {h : PH} {n : Nat} {acc ts : List PV} {z : Str} {p body : PV} {e2 e3 e4 : Option PV} (hn : h[n]? = some (.lst acc)) (hw : ∀ j, n ≤ j → wr j = true) (ha : Adds call z p ts) (hl : acc.length + ts.length ≤ 1000) :
    ∃ h', turnF gPair (textB call wr) (.tup [.str z, p]) [some body, some (.loc n), e2, e3, e4] h = some (.nx, [some body, some (.loc n), some (.str z), some p, e4], h') ∧ h'[n]? = some (.lst (acc ++ ts)) := by
  have hlt : n < h.length := (List.getElem?_eq_some_iff.mp hn).1
  have big : (1000 : Nat) < lineN := by decide
  have i1 : eOp fEq (eVar 2) (eCst (.str "e")) [some body, some (.loc n), some (.str z), some p, e4] h = some (.bl (sEq z "e"), h) := rfl
  have i2 : eOp fEq (eVar 2) (eCst (.str "s")) [some body, some (.loc n), some (.str z), some p, e4] h = some (.bl (sEq z "s"), h) := rfl
  have key : ∀ h', textB call wr [some body, some (.loc n), some (.str z), some p, e4] h = some (.nx, [some body, some (.loc n), some (.str z), some p, e4], h') → turnF gPair (textB call wr) (.tup [.str z, p]) [some body, some (.loc n), e2, e3, e4] h = some (.nx, [some body, some (.loc n), some (.str z), some p, e4], h') := fun h' e => e
  cases ha with
  | e a hc =>
    rename_i t
    rw [a] at i1
    refine ⟨h.set n (.lst (acc ++ [.str t])), key _ ?_, List.getElem?_set_self hlt⟩
    refine (l_seq ((l_if i1).trans ?_)).trans rfl
    rw [if_pos rfl]
    refine (l_seq (l_drop (x := .non) (h1 := h.set n (.lst (acc ++ [.str t]))) ?_)).trans rfl
    rw [l_meth (h1 := h) (h2 := h) (x := .loc n) (ps := [.str t]) rfl (tyP_lst hn) (l_a1 (h1 := h) (by rw [l_fn (h1 := h) (ps := [p]) rfl, ct_expression_text, hc]) rfl), append_at hn (hw n (Nat.le_refl _)) (by simp at hl; omega)]
  | s a b hq hc =>
    rename_i qs Y
    rw [a] at i1
    rw [b] at i2
    refine ⟨(h ++ [PO.lst (qs.map Y)]).set n (.lst (acc ++ qs.map Y)), key _ ?_, List.getElem?_set_self (by simp; omega)⟩
    refine (l_seq ((l_if i1).trans ?_)).trans rfl
    rw [if_neg Bool.false_ne_true]
    refine (l_seq ((l_if i2).trans ?_)).trans rfl
    rw [if_pos rfl]
    refine (l_seq (l_drop (x := .non) (h1 := (h ++ [PO.lst (qs.map Y)]).set n (.lst (acc ++ qs.map Y))) ?_)).trans rfl
    rw [l_meth (h1 := h) (h2 := h ++ [PO.lst (qs.map Y)]) (x := .loc n) (ps := [.loc h.length]) rfl (tyP_lst hn) (l_a1 ?_ rfl)]
    · exact extend_loc (by rw [List.getElem?_append_left hlt]; exact hn) (by simp) (hw n (Nat.le_refl _)) (by omega)
    · refine eLc_pure Y (h1 := h) (items := qs) (lk := []) rfl (lcOk_of (hw _ (by omega)) (by omega) rfl) fun x hx => ⟨[some body, some (.loc n), some (.str z), some (.tup qs), some x], by cases e4 <;> rfl, fun wr h => ?_⟩
      rw [l_fn (h1 := h) (ps := [x]) rfl, ct_expression_text, hc x hx]
  | o a b hc =>
    rename_i t
    rw [a] at i1
    rw [b] at i2
    refine ⟨h.set n (.lst (acc ++ [.str t])), key _ ?_, List.getElem?_set_self hlt⟩
    refine (l_seq ((l_if i1).trans ?_)).trans rfl
    rw [if_neg Bool.false_ne_true]
    refine (l_seq ((l_if i2).trans ?_)).trans rfl
    rw [if_neg Bool.false_ne_true]
    refine (l_seq (l_drop (x := .non) (h1 := h.set n (.lst (acc ++ [.str t]))) ?_)).trans rfl
    rw [l_meth (h1 := h) (h2 := h) (x := .loc n) (ps := [.str t]) rfl (tyP_lst hn) (l_a1 (h1 := h) (by rw [l_call (ps := [p]) (h1 := h) rfl, hc]) rfl), append_at hn (hw n (Nat.le_refl _)) (by simp at hl; omega)]
theorem text_loop {n : Nat} {body : PV} (hw : ∀ j, n ≤ j → wr j = true) : ∀ (items : List (Str × PV × List PV)) (acc : List PV) (h : PH) (e2 e3 e4 : Option PV), h[n]? = some (.lst acc) → (∀ q ∈ items, Adds call q.1 q.2.1 q.2.2) → acc.length + (items.flatMap fun q => q.2.2).length ≤ 1000 →
    ∃ e2' e3' h', loopF (turnF gPair (textB call wr)) (items.map fun q => .tup [.str q.1, q.2.1]) [some body, some (.loc n), e2, e3, e4] h = some (.nx, [some body, some (.loc n), e2', e3', e4], h') ∧ h'[n]? = some (.lst (acc ++ items.flatMap fun q => q.2.2))
  | [], acc, h, e2, e3, e4, hn, _, _ => ⟨e2, e3, h, rfl, by simpa using hn⟩
  | q :: items, acc, h, e2, e3, e4, hn, hq, hl => by
    rw [List.flatMap_cons, List.length_append] at hl
    obtain ⟨h1, t1, n1⟩ := text_turn (e2 := e2) (e3 := e3) (e4 := e4) (body := body) hn hw (hq q (List.mem_cons_self ..)) (by omega)
    obtain ⟨e2', e3', h', t2, n2⟩ := text_loop hw items (acc ++ q.2.2) h1 (some (.str q.1)) (some q.2.1) e4 n1 (fun x hx => hq x (List.mem_cons_of_mem _ hx)) (by rw [List.length_append]; omega)
    exact ⟨e2', e3', h', (loop_nx t1).trans t2, by rw [n2, List.flatMap_cons, List.append_assoc]⟩
end
end KW
set_option Elab.async false
set_option linter.all false
set_option maxRecDepth 100000
set_option maxHeartbeats 400000
namespace KW
open PySem PySem.Spec PyProof.Rows L2 KP
theorem joinL_len {a : List Nat} : ∀ ss : List Str, (joinL a ss).length ≤ sumLen ss + ss.length * a.length
  | [] => by simp [joinL]
  | [s] => by
    have : (joinL a [s]).length = s.length := rfl
    rw [this, sumLen]; omega
  | s :: r :: t => by
    have ih := joinL_len (a := a) (r :: t)
    have e : (joinL a (s :: r :: t)).length = s.length + a.length + (joinL a (r :: t)).length := by
      rw [joinL, List.length_append, List.length_append]
      · rfl
      · intro h; cases h
    rw [e, sumLen, List.length_cons, Nat.succ_mul]
    omega
theorem strsP_map : ∀ ss : List Str, strsP (ss.map PV.str) = some ss
  | [] => rfl
  | s :: r => by rw [List.map_cons, strsP, strsP_map r]; rfl
theorem join_at {a : Str} {ss : List Str} {h : PH} {n : Nat} (hn : h[n]? = some (.lst (ss.map PV.str))) (hl : sumLen ss + ss.length * a.length ≤ lineN) : mJoin (.str a) [.loc n] h = some (.str ⟨⟨joinL a.cps.toList ss⟩⟩, h) := by
  unfold mJoin itemsOf
  simp only
  rw [hn]
  simp only
  rw [strsP_map]
  simp only
  rw [if_pos hl]
def formZ (F : Str) : List Str := F.cps.toList.map fun c => ⟨⟨[c]⟩⟩
def parT (ss : List Str) : Str := ("(" : Str) ++ ⟨⟨joinL (" " : Str).cps.toList ss⟩⟩ ++ (")" : Str)
theorem parT_len (ss : List Str) : (parT ss).length ≤ sumLen ss + ss.length + 2 := by
  have hj := joinL_len (a := (" " : Str).cps.toList) ss
  have e1 : (" " : Str).cps.toList.length = 1 := by decide +kernel
  rw [e1] at hj
  have a1 : ∀ a b : Str, (a ++ b).length = a.length + b.length := fun a b => by
    show (a.cps ++ b.cps).size = _
    rw [Array.size_append]; rfl
  unfold parT
  rw [a1, a1, show ("(" : Str).length = 1 from by decide +kernel, show (")" : Str).length = 1 from by decide +kernel]
  show 1 + (joinL (" " : Str).cps.toList ss).length + 1 ≤ _
  omega
/-- the text of a thing with parts -/
theorem s_text {E : PV} {K : Nat} {L0 : List Str} {items : List (Str × PV × List PV)} {ss : List Str}
    (h1 : ∀ h, eOp (fInT tab) (eOp (fIxT tab) (eVar 0) (eCst (.int 0))) (eTup (aCons (eCst (.str "num")) (aCons (eCst (.str "name")) aNil))) [some E, none, none, none, none] h = some (.bl false, h))
    (h2 : ∀ h, eOp fEq (eOp (fIxT tab) (eVar 0) (eCst (.int 0))) (eCst (.str "fn")) [some E, none, none, none, none] h = some (.bl false, h))
    (h3 : ∀ h, sAsg (eIte (eOp fEq (eOp (fIxT tab) (eVar 0) (eCst (.int 0))) (eCst (.str "do"))) (eLst aNil) (eLst (aCons (eOp (fIxT tab) (eVar 0) (eCst (.int 0))) aNil))) (gNm 1) [some E, none, none, none, none] h = some (.nx, [some E, some (.loc h.length), none, none, none], h ++ [.lst (L0.map PV.str)]))
    (h4 : ∀ (p : Option PV) (h : PH), iZipF (eOp (fIxT tab) (eGlo tab "FORMS") (eOp (fIxT tab) (eVar 0) (eCst (.int 0)))) (eSl fSl (eVar 0) (pSome (eCst (.int 1))) pNone) [some E, p, none, none, none] h = some ((items.map fun q => PV.tup [.str q.1, q.2.1], []), h))
    (ha : ∀ q ∈ items, Adds (evC bod tab K) q.1 q.2.1 q.2.2) (hs : L0.map PV.str ++ items.flatMap (fun q => q.2.2) = ss.map PV.str) (hn : ss.length ≤ 20) (hl : sumLen ss ≤ 100000) :
    ∀ wr h, evC bod tab (K + 1) wr ("expression_text", none) [E] h = some (.str (parT ss), h) := by
  have big : (100100 : Nat) < lineN := by decide
  have hj := joinL_len (a := (" " : Str).cps.toList) ss
  have e1 : (" " : Str).cps.toList.length = 1 := by decide +kernel
  rw [e1] at hj
  have e2 : (" " : Str).length = 1 := by decide +kernel
  have hlen : ss.length = L0.length + (items.flatMap fun q => q.2.2).length := by
    have := congrArg List.length hs
    simpa using this.symm
  intro wr h
  · rw [ev_expression_text]
    obtain ⟨x2, x3, h', el, en⟩ := text_loop (call := evC bod tab K) (wr := freshW h) (body := E) (n := h.length) (fun j hj => fresh_ge hj) items (L0.map PV.str) (h ++ [.lst (L0.map PV.str)]) none none none (by simp) ha (by rw [List.length_map]; omega)
    rw [hs] at en
    have e : b_expression_text (evC bod tab K) (freshW h) [some E, none, none, none, none] h = some (.ret (.str (("(" : Str) ++ ⟨⟨joinL (" " : Str).cps.toList ss⟩⟩ ++ (")" : Str))), [some E, some (.loc h.length), x2, x3, none], h') := by
      refine (l_seq (e1 := [some E, none, none, none, none]) (h1 := h) ((l_if (h1 h)).trans rfl)).trans ?_
      refine (l_seq (e1 := [some E, none, none, none, none]) (h1 := h) ((l_if (h2 h)).trans rfl)).trans ?_
      refine (l_seq (h3 h)).trans ?_
      refine (l_seq (e1 := [some E, some (.loc h.length), x2, x3, none]) (h1 := h') ?_).trans (l_seqR (l_ret ?_))
      · unfold sFor
        rw [h4, bnd_some]
        exact el
      · have a1 : ∀ a b : Str, (a ++ b).length = a.length + b.length := fun a b => by
          show (a.cps ++ b.cps).size = _
          rw [Array.size_append]; rfl
        have jl : (⟨⟨joinL (" " : Str).cps.toList ss⟩⟩ : Str).length = (joinL (" " : Str).cps.toList ss).length := rfl
        rw [l_op (h1 := h') (h2 := h') (x := .str (("(" : Str) ++ ⟨⟨joinL (" " : Str).cps.toList ss⟩⟩)) (y := .str ")") ?_ rfl]
        · show (if _ then _ else _) = _
          rw [if_pos (by rw [a1, jl, show ("(" : Str).length = 1 from by decide +kernel, show (")" : Str).length = 1 from by decide +kernel]; omega)]
        · rw [l_op (h1 := h') (h2 := h') (x := .str "(") (y := .str ⟨⟨joinL (" " : Str).cps.toList ss⟩⟩) rfl ?_]
          · show (if _ then _ else _) = _
            rw [if_pos (by rw [jl, show ("(" : Str).length = 1 from by decide +kernel]; omega)]
          · rw [l_meth (h1 := h') (h2 := h') (x := .str " ") (ps := [.loc h.length]) rfl rfl rfl]
            exact join_at en (by rw [e2]; omega)
    rw [e]; rfl
end KW
set_option Elab.async false
set_option linter.all false
set_option maxRecDepth 100000
set_option maxHeartbeats 400000
namespace KW
open PySem PySem.Spec PyProof.Rows L2 KP
mutual
def ttext : Ex → Str
  | .num n => toString n
  | .name x => x
  | .fn x => ("'" : Str) ++ x
  | .op d a b => parT [d, ttext a, ttext b]
  | .say a => parT ["say", ttext a]
  | .lt x a b => parT ["let", x, ttext a, ttext b]
  | .iff a b c => parT ["if", ttext a, ttext b, ttext c]
  | .call f as => parT ("call" :: f :: ttexts as)
  | .ask a as => parT ("ask" :: ttext a :: ttexts as)
  | .rai w => parT ["raise", w]
  | .tr a w b => parT ["try", ttext a, w, ttext b]
def ttexts : Exs → List Str
  | .nil => []
  | .cons a r => ttext a :: ttexts r
end
theorem ttexts_len : ∀ as : Exs, (ttexts as).length = as.list.length
  | .nil => rfl
  | .cons a r => by rw [ttexts, List.length_cons, ttexts_len r]; rfl
theorem name_len {s : Str} (h : okName s = true) : s.length ≤ 8 := by
  obtain ⟨⟨l⟩⟩ := s
  cases l with
  | nil => cases h
  | cons c cs =>
    have hs : (natMem c letL && (Nat.ble cs.length 7 && (c :: cs).all signB)) = true := h
    rw [Bool.and_eq_true, Bool.and_eq_true] at hs
    have := Nat.le_of_ble_eq_true hs.2.1
    show cs.length + 1 ≤ 8
    omega
theorem deed_len {d : Str} (h : memP (.str d) deedsL = true) : d.length ≤ 8 := by
  have : ∀ x ∈ deedsL, ∀ z, x = PV.str z → z.length ≤ 8 := by
    intro x hx z e
    subst e
    simp only [deedsL, List.mem_cons, List.not_mem_nil, or_false, PV.str.injEq] at hx
    rcases hx with rfl | rfl | rfl | rfl | rfl | rfl <;> decide +kernel
  have key : ∀ l : List PV, memP (.str d) l = true → ∃ x ∈ l, eqP x (.str d) = true := by
    intro l
    induction l with
    | nil => intro h; cases h
    | cons x xs ih =>
      intro h
      rw [memP, Bool.or_eq_true] at h
      rcases h with h | h
      · exact ⟨x, List.mem_cons_self .., h⟩
      · obtain ⟨y, hy, e⟩ := ih h
        exact ⟨y, List.mem_cons_of_mem _ hy, e⟩
  obtain ⟨x, hx, e⟩ := key _ h
  cases x with
  | str z =>
    rw [eqP] at e
    rw [← (sEq_iff).mp e]; exact this _ hx z rfl
  | _ => rw [eqP] at e <;> first | cases e | (intros; nofun)
mutual
theorem ttext_len : ∀ e : Ex, okE e → (ttext e).length ≤ 40 * sz e
  | .num n, h => by
    rw [okE] at h
    rw [ttext, sz]
    have := int_text_length_le10 (a := n) (k := 10) (by decide) (by omega)
    show (Str.ofString (toString n)).length ≤ _
    rw [PySem.ofString_length]; omega
  | .name x, h => by rw [okE] at h; rw [ttext, sz]; have := name_len h; omega
  | .fn x, h => by
    rw [okE] at h; rw [ttext, sz]; have := name_len h
    have a1 : (("'" : Str) ++ x).length = ("'" : Str).length + x.length := by
      show (("'" : Str).cps ++ x.cps).size = _
      rw [Array.size_append]; rfl
    rw [a1, show ("'" : Str).length = 1 from by decide +kernel]; omega
  | .op d a b, h => by
    rw [okE] at h; rw [ttext, sz]
    have := parT_len [d, ttext a, ttext b]
    have := ttext_len a h.2.1; have := ttext_len b h.2.2; have := deed_len h.1
    simp only [sumLen, List.length_cons, List.length_nil] at *; omega
  | .say a, h => by
    rw [okE] at h; rw [ttext, sz]
    have := parT_len ["say", ttext a]
    have := ttext_len a h
    have e : ("say" : Str).length = 3 := by decide +kernel
    simp only [sumLen, List.length_cons, List.length_nil] at *; omega
  | .lt x a b, h => by
    rw [okE] at h; rw [ttext, sz]
    have := parT_len ["let", x, ttext a, ttext b]
    have := ttext_len a h.2.1; have := ttext_len b h.2.2; have := name_len h.1
    have e : ("let" : Str).length = 3 := by decide +kernel
    simp only [sumLen, List.length_cons, List.length_nil] at *; omega
  | .iff a b c, h => by
    rw [okE] at h; rw [ttext, sz]
    have := parT_len ["if", ttext a, ttext b, ttext c]
    have := ttext_len a h.1; have := ttext_len b h.2.1; have := ttext_len c h.2.2
    have e : ("if" : Str).length = 2 := by decide +kernel
    simp only [sumLen, List.length_cons, List.length_nil] at *; omega
  | .call f as, h => by
    rw [okE] at h; rw [ttext, sz]
    have := parT_len ("call" :: f :: ttexts as)
    have := ttexts_sum as h.2.2; have := name_len h.1; have := ttexts_len as
    have e : ("call" : Str).length = 4 := by decide +kernel
    simp only [sumLen, List.length_cons, List.length_nil] at *; omega
  | .ask a as, h => by
    rw [okE] at h; rw [ttext, sz]
    have := parT_len ("ask" :: ttext a :: ttexts as)
    have := ttext_len a h.1; have := ttexts_sum as h.2.2; have := ttexts_len as
    have e : ("ask" : Str).length = 3 := by decide +kernel
    simp only [sumLen, List.length_cons, List.length_nil] at *; omega
  | .rai w, h => by
    rw [okE] at h; rw [ttext, sz]
    have := parT_len ["raise", w]
    have := name_len h
    have e : ("raise" : Str).length = 5 := by decide +kernel
    simp only [sumLen, List.length_cons, List.length_nil] at *; omega
  | .tr a w b, h => by
    rw [okE] at h; rw [ttext, sz]
    have := parT_len ["try", ttext a, w, ttext b]
    have := ttext_len a h.1; have := ttext_len b h.2.2; have := name_len h.2.1
    have e : ("try" : Str).length = 3 := by decide +kernel
    simp only [sumLen, List.length_cons, List.length_nil] at *; omega
theorem ttexts_sum : ∀ as : Exs, okEs as → sumLen (ttexts as) ≤ 40 * szs as
  | .nil, _ => by rw [ttexts, sumLen]; omega
  | .cons a r, h => by
    rw [okEs] at h; rw [ttexts, sumLen, szs]
    have := ttext_len a h.1; have := ttexts_sum r h.2
    omega
end
def textOk (e : Ex) : Prop := ∀ (K : Nat) (wr : Nat → Bool) (h : PH), dp e ≤ K → evC bod tab K wr ("expression_text", none) [enc e] h = some (.str (ttext e), h)
theorem strO_str {s : Str} {call : CallF} : ∀ wr h, gStrO tab call wr [.str s] h = some (.str s, h) := fun _ _ => rfl
def Yt (call : CallF) (q : PV) : PV := match call (fun _ => true) ("expression_text", none) [q] [] with
  | some (p, _) => p
  | none => .non
theorem Yt_map {K : Nat} : ∀ as : Exs, (∀ c ∈ as.list, textOk c) → (∀ c ∈ as.list, dp c ≤ K) → (encs as).map (Yt (evC bod tab K)) = (ttexts as).map PV.str
  | .nil, _, _ => by rw [encs, ttexts]; rfl
  | .cons a r, h, hd => by
    rw [encs, ttexts, List.map_cons, List.map_cons, Yt_map r (fun c hc => h c (List.mem_cons_of_mem _ hc)) (fun c hc => hd c (List.mem_cons_of_mem _ hc))]
    unfold Yt
    rw [h a (List.mem_cons_self ..) K _ _ (hd a (List.mem_cons_self ..))]
end KW
set_option Elab.async false
set_option linter.all false
set_option maxRecDepth 100000
set_option maxHeartbeats 400000
namespace KW
open PySem PySem.Spec PyProof.Rows L2 KP
/-- by K at least 1 -/
theorem textOk_of {e : Ex} (h : ∀ (K : Nat), dp e ≤ K + 1 → ∀ wr h, evC bod tab (K + 1) wr ("expression_text", none) [enc e] h = some (.str (ttext e), h)) : textOk e := fun K wr hh hK => by
  have : 1 ≤ dp e := by cases e <;> (rw [dp]; omega)
  obtain ⟨K, rfl⟩ : ∃ j, K = j + 1 := ⟨K - 1, by omega⟩
  exact h K hK wr hh
theorem add_e {K : Nat} {e : Ex} (h : textOk e) (hK : dp e ≤ K) : Adds (evC bod tab K) "e" (enc e) [.str (ttext e)] := .e (by kernel_rfl) fun wr hh => h K wr hh hK
theorem add_s {K : Nat} {as : Exs} (h : ∀ c ∈ as.list, textOk c) (hd : ∀ c ∈ as.list, dp c ≤ K) (hl : as.list.length ≤ 6) : Adds (evC bod tab K) "s" (.tup (encs as)) ((ttexts as).map PV.str) := by
  rw [← Yt_map as h hd]
  refine .s (by kernel_rfl) (by kernel_rfl) (by rw [encs_map, List.length_map]; exact hl) fun q hq wr hh => ?_
  rw [encs_map] at hq
  obtain ⟨c, hc, rfl⟩ := List.mem_map.mp hq
  unfold Yt
  rw [h c hc K _ _ (hd c hc), h c hc K _ _ (hd c hc)]
theorem add_o {K : Nat} {z s : Str} (h1 : sEq z "e" = false) (h2 : sEq z "s" = false) : Adds (evC bod tab K) z (.str s) [.str s] := .o h1 h2 fun _ _ => rfl
theorem text_ok1 {e : Ex} (he : okE e) (hz : sz e ≤ 300) (ih : ∀ c ∈ parts e, textOk c) : textOk e := by
  refine textOk_of fun K hK => ?_
  have hd : ∀ c ∈ parts e, dp c ≤ K := fun c hc => by have := dp_parts c hc; omega
  have hlen := ttext_len e he
  cases e with
  | num n =>
    rw [okE] at he
    intro wr h
    rw [ev_expression_text]
    have e : b_expression_text (evC bod tab K) (freshW h) [some (enc (.num n)), none, none, none, none] h = some (.ret (.str (toString n)), [some (enc (.num n)), none, none, none, none], h) := by
      rw [enc]
      refine l_seqR ((l_if (b := true) (h1 := h) (by kernel_rfl)).trans ?_)
      rw [if_pos rfl]
      refine l_seqR (l_ret ?_)
      rw [l_call (ps := [.int n]) (h1 := h) (by kernel_rfl)]
      show (if _ then _ else _) = _
      rw [if_pos (by have : (10 : Nat) ^ 10 ≤ 10 ^ 500 := Nat.pow_le_pow_right (by decide) (by decide); omega)]
    rw [e, ttext]; rfl
  | name x => intro wr h; rw [ev_expression_text, enc, ttext]; kernel_rfl
  | fn x =>
    rw [okE] at he
    intro wr h
    rw [ev_expression_text]
    have e : b_expression_text (evC bod tab K) (freshW h) [some (enc (.fn x)), none, none, none, none] h = some (.ret (.str (("'" : Str) ++ x)), [some (enc (.fn x)), none, none, none, none], h) := by
      rw [enc]
      refine (l_seq (e1 := [some (.tup [.str "fn", .str x]), none, none, none, none]) (h1 := h) (by kernel_rfl)).trans (l_seqR ((l_if (b := true) (h1 := h) (by kernel_rfl)).trans ?_))
      rw [if_pos rfl]
      refine l_seqR (l_ret ?_)
      rw [l_op (h1 := h) (h2 := h) (x := .str "'") (y := .str x) rfl (by kernel_rfl)]
      show (if _ then _ else _) = _
      have := name_len he
      have big : (100 : Nat) < lineN := by decide
      rw [if_pos (by rw [show ("'" : Str).length = 1 from by decide +kernel]; omega)]
    rw [e, ttext]; rfl
  | op d a b =>
    rw [okE] at he
    rw [enc, ttext]
    exact s_text (L0 := []) (items := [("d", .str d, [.str d]), ("e", enc a, [.str (ttext a)]), ("e", enc b, [.str (ttext b)])]) (fun h => by kernel_rfl) (fun h => by kernel_rfl) (fun h => by kernel_rfl) (fun p h => by kernel_rfl)
      (fun q hq => by
        simp only [List.mem_cons, List.not_mem_nil, or_false] at hq
        rcases hq with rfl | rfl | rfl
        · exact add_o (by kernel_rfl) (by kernel_rfl)
        · exact add_e (ih a (by simp [parts])) (hd a (by simp [parts]))
        · exact add_e (ih b (by simp [parts])) (hd b (by simp [parts]))) rfl (by simp) (by
        have := ttext_len a he.2.1; have := ttext_len b he.2.2; have := deed_len he.1
        rw [sz] at hz
        simp only [sumLen]; omega)
  | say a =>
    rw [okE] at he
    rw [enc, ttext]
    exact s_text (L0 := ["say"]) (items := [("e", enc a, [.str (ttext a)])]) (fun h => by kernel_rfl) (fun h => by kernel_rfl) (fun h => by kernel_rfl) (fun p h => by kernel_rfl)
      (fun q hq => by
        obtain rfl := List.mem_singleton.mp hq
        exact add_e (ih a (by simp [parts])) (hd a (by simp [parts]))) rfl (by simp) (by
        have := ttext_len a he
        have e : ("say" : Str).length = 3 := by decide +kernel
        rw [sz] at hz
        simp only [sumLen]; omega)
  | lt x a b =>
    rw [okE] at he
    rw [enc, ttext]
    exact s_text (L0 := ["let"]) (items := [("x", .str x, [.str x]), ("e", enc a, [.str (ttext a)]), ("e", enc b, [.str (ttext b)])]) (fun h => by kernel_rfl) (fun h => by kernel_rfl) (fun h => by kernel_rfl) (fun p h => by kernel_rfl)
      (fun q hq => by
        simp only [List.mem_cons, List.not_mem_nil, or_false] at hq
        rcases hq with rfl | rfl | rfl
        · exact add_o (by kernel_rfl) (by kernel_rfl)
        · exact add_e (ih a (by simp [parts])) (hd a (by simp [parts]))
        · exact add_e (ih b (by simp [parts])) (hd b (by simp [parts]))) rfl (by simp) (by
        have := ttext_len a he.2.1; have := ttext_len b he.2.2; have := name_len he.1
        have e : ("let" : Str).length = 3 := by decide +kernel
        rw [sz] at hz
        simp only [sumLen]; omega)
  | iff a b c =>
    rw [okE] at he
    rw [enc, ttext]
    exact s_text (L0 := ["if"]) (items := [("e", enc a, [.str (ttext a)]), ("e", enc b, [.str (ttext b)]), ("e", enc c, [.str (ttext c)])]) (fun h => by kernel_rfl) (fun h => by kernel_rfl) (fun h => by kernel_rfl) (fun p h => by kernel_rfl)
      (fun q hq => by
        simp only [List.mem_cons, List.not_mem_nil, or_false] at hq
        rcases hq with rfl | rfl | rfl
        · exact add_e (ih a (by simp [parts])) (hd a (by simp [parts]))
        · exact add_e (ih b (by simp [parts])) (hd b (by simp [parts]))
        · exact add_e (ih c (by simp [parts])) (hd c (by simp [parts]))) rfl (by simp) (by
        have := ttext_len a he.1; have := ttext_len b he.2.1; have := ttext_len c he.2.2
        have e : ("if" : Str).length = 2 := by decide +kernel
        rw [sz] at hz
        simp only [sumLen]; omega)
  | call f as =>
    rw [okE] at he
    rw [enc, ttext]
    exact s_text (L0 := ["call"]) (items := [("x", .str f, [.str f]), ("s", .tup (encs as), (ttexts as).map PV.str)]) (fun h => by kernel_rfl) (fun h => by kernel_rfl) (fun h => by kernel_rfl) (fun p h => by kernel_rfl)
      (fun q hq => by
        simp only [List.mem_cons, List.not_mem_nil, or_false] at hq
        rcases hq with rfl | rfl
        · exact add_o (by kernel_rfl) (by kernel_rfl)
        · exact add_s (fun c hc => ih c hc) (fun c hc => hd c hc) he.2.1) (by simp) (by have := ttexts_len as; simp only [List.length_cons]; omega) (by
        have := ttexts_sum as he.2.2; have := name_len he.1
        have e : ("call" : Str).length = 4 := by decide +kernel
        rw [sz] at hz
        simp only [sumLen]; omega)
  | ask a as =>
    rw [okE] at he
    rw [enc, ttext]
    exact s_text (L0 := ["ask"]) (items := [("e", enc a, [.str (ttext a)]), ("s", .tup (encs as), (ttexts as).map PV.str)]) (fun h => by kernel_rfl) (fun h => by kernel_rfl) (fun h => by kernel_rfl) (fun p h => by kernel_rfl)
      (fun q hq => by
        simp only [List.mem_cons, List.not_mem_nil, or_false] at hq
        rcases hq with rfl | rfl
        · exact add_e (ih a (by simp [parts])) (hd a (by simp [parts]))
        · exact add_s (fun c hc => ih c (by simp [parts, hc])) (fun c hc => hd c (by simp [parts, hc])) he.2.1) (by simp) (by have := ttexts_len as; simp only [List.length_cons]; omega) (by
        have := ttext_len a he.1; have := ttexts_sum as he.2.2
        have e : ("ask" : Str).length = 3 := by decide +kernel
        rw [sz] at hz
        simp only [sumLen]; omega)
  | rai w =>
    rw [okE] at he
    rw [enc, ttext]
    exact s_text (L0 := ["raise"]) (items := [("x", .str w, [.str w])]) (fun h => by kernel_rfl) (fun h => by kernel_rfl) (fun h => by kernel_rfl) (fun p h => by kernel_rfl)
      (fun q hq => by
        obtain rfl := List.mem_singleton.mp hq
        exact add_o (by kernel_rfl) (by kernel_rfl)) rfl (by simp) (by
        have := name_len he
        have e : ("raise" : Str).length = 5 := by decide +kernel
        simp only [sumLen]; omega)
  | tr a w b =>
    rw [okE] at he
    rw [enc, ttext]
    exact s_text (L0 := ["try"]) (items := [("e", enc a, [.str (ttext a)]), ("x", .str w, [.str w]), ("e", enc b, [.str (ttext b)])]) (fun h => by kernel_rfl) (fun h => by kernel_rfl) (fun h => by kernel_rfl) (fun p h => by kernel_rfl)
      (fun q hq => by
        simp only [List.mem_cons, List.not_mem_nil, or_false] at hq
        rcases hq with rfl | rfl | rfl
        · exact add_e (ih a (by simp [parts])) (hd a (by simp [parts]))
        · exact add_o (by kernel_rfl) (by kernel_rfl)
        · exact add_e (ih b (by simp [parts])) (hd b (by simp [parts]))) rfl (by simp) (by
        have := ttext_len a he.1; have := ttext_len b he.2.2; have := name_len he.2.1
        have e : ("try" : Str).length = 3 := by decide +kernel
        rw [sz] at hz
        simp only [sumLen]; omega)
theorem sz_part {e : Ex} : ∀ c ∈ parts e, sz c < sz e := by
  intro c hc
  rw [sz_parts e]
  have : ∀ l : List Ex, c ∈ l → sz c ≤ (l.map sz).sum := by
    intro l
    induction l with
    | nil => intro h; cases h
    | cons x xs ih =>
      intro h
      rw [List.map_cons, List.sum_cons]
      rcases List.mem_cons.mp h with rfl | h
      · omega
      · have := ih h; omega
  have := this _ hc
  omega
theorem text_ok : ∀ (n : Nat) (e : Ex), sz e ≤ n → okE e → sz e ≤ 300 → textOk e
  | 0, e, h, _, _ => by have := sz_pos e; omega
  | n + 1, e, h, he, hz => text_ok1 he hz fun c hc => text_ok n c (by have := sz_part c hc; omega) (okE_parts he c hc) (by have := sz_part c hc; omega)
end KW
set_option Elab.async false
set_option linter.all false
set_option maxRecDepth 100000
set_option maxHeartbeats 400000
namespace KW
open PySem PySem.Spec PyProof.Rows L2 KP
section
variable {k : Nat} {wr : Nat → Bool} {h : PH}
theorem s_params {x : Str} (hx : okName x = true) : evC bod tab (k + 2) wr ("is_params", none) [.tup [.str x]] h = some (.bl true, h) := by
  rw [ev_is_params]
  have e : b_is_params (evC bod tab (k + 1)) (freshW h) [some (.tup [.str x]), none] h = some (.ret (.bl true), [some (.tup [.str x]), none], h ++ [.lst [.bl true]]) := by
    refine (l_seq (e1 := [some (.tup [.str x]), none]) (h1 := h ++ [.lst [.bl true]]) ?_).trans (l_seqR (by kernel_rfl))
    refine (l_if (b := false) (h1 := h ++ [.lst [.bl true]]) ?_).trans rfl
    rw [l_or2 (h1 := h) (by kernel_rfl), l_or2 (h1 := h) (by kernel_rfl)]
    refine l_not (b := true) ?_
    rw [l_call (ps := [.loc h.length]) (h1 := h ++ [.lst [.bl true]])]
    · rw [all_map (xs := [.str x]) (f := fun _ => true) (by simp)]; rfl
    · refine l_a1 ?_ rfl
      refine eLc_pure (fun _ => .bl true) (h1 := h) (items := [.str x]) (lk := []) rfl (lcOk_of (fresh_ge (Nat.le_refl _)) (show 1 ≤ lineN by decide) rfl) fun y hy => ?_
      obtain rfl := List.mem_singleton.mp hy
      refine ⟨[some (.tup [.str x]), some (.str x)], rfl, fun wr h => ?_⟩
      rw [l_fn (h1 := h) (ps := [.str x]) rfl, ct_is_name, s_name hx]
  rw [e]; rfl
theorem s_needf {f x : Str} {e : Ex} (hf : okName f = true) (hx : okName x = true) (he : okE e) (h1 : sz e ≤ 300) (h2 : dp e ≤ 60) : evC bod tab (k + 6) wr ("need_function", none) [.str f, .tup [.str x], enc e] h = some (.non, h) := by
  rw [ev_need_function]
  have e : b_need_function (evC bod tab (k + 5)) (freshW h) [some (.str f), some (.tup [.str x]), some (enc e)] h = some (.nx, [some (.str f), some (.tup [.str x]), some (enc e)], h) := by
    refine (l_seq (e1 := [some (.str f), some (.tup [.str x]), some (enc e)]) (h1 := h) ((l_if (b := false) (h1 := h) (l_not (b := true) ?_)).trans rfl)).trans ?_
    · rw [l_fn (h1 := h) (ps := [.str f]) rfl, ct_is_name, s_name hf]
    refine (l_seq (e1 := [some (.str f), some (.tup [.str x]), some (enc e)]) (h1 := h) ((l_if (b := false) (h1 := h) (l_not (b := true) ?_)).trans rfl)).trans ?_
    · rw [l_fn (h1 := h) (ps := [.tup [.str x]]) rfl, ct_is_params, s_params hx]
    refine (l_seq (e1 := [some (.str f), some (.tup [.str x]), some (enc e)]) (h1 := h) ((l_if (b := false) (h1 := h) (l_not (b := true) ?_)).trans rfl)).trans rfl
    rw [l_fn (h1 := h) (ps := [enc e]) rfl, ct_is_expression, s_expr he h1 h2]
  rw [e]; rfl
/-! the program object: at n, its dict at m -/
structure Prg (h : PH) (n m : Nat) (kvs : List (Key × PV)) : Prop where
  ins : h[n]? = some (.ins "Program" [("functions", .loc m)])
  dic : h[m]? = some (.dic kvs)
theorem Prg.fld {n m : Nat} {kvs : List (Key × PV)} (P : Prg h n m kvs) {env : KP.Env} (e : env[0]? = some (some (PV.loc n))) : eFld tab "functions" (eVar 0) env h = some (.loc m, h) := by
  unfold eFld
  rw [show eVar 0 env h = some (.loc n, h) from by unfold eVar; rw [e], bnd_some]
  simp only
  rw [P.ins]
  simp only
  rw [fld_Program_functions, if_pos rfl]
  have : lookS "functions" [("functions", PV.loc m)] = some (.loc m) := by kernel_rfl
  rw [this]; rfl
theorem Prg.ext {n m : Nat} {kvs : List (Key × PV)} (P : Prg h n m kvs) (g : PH) : Prg (h ++ g) n m kvs :=
  ⟨by rw [List.getElem?_append_left (List.getElem?_eq_some_iff.mp P.ins).1]; exact P.ins, by rw [List.getElem?_append_left (List.getElem?_eq_some_iff.mp P.dic).1]; exact P.dic⟩
/-- Program() -/
theorem s_init {n : Nat} (hn : h[n]? = some (.ins "Program" [])) (hw : wr n = true) : evC bod tab (k + 1) wr ("Program", some "__init__") [.loc n] h = some (.non, (h ++ [PO.dic []]).set n (PO.ins "Program" [("functions", .loc h.length)])) := by
  have hlt : n < h.length := (List.getElem?_eq_some_iff.mp hn).1
  rw [ev_Program___init__]
  have e : b_Program___init__ (evC bod tab k) wr [some (.loc n)] h = some (.nx, [some (.loc n)], (h ++ [PO.dic []]).set n (PO.ins "Program" [("functions", .loc h.length)])) := by
    refine (l_seq (e1 := [some (.loc n)]) (h1 := (h ++ [PO.dic []]).set n (PO.ins "Program" [("functions", .loc h.length)])) ?_).trans rfl
    unfold sFldA
    rw [show eDic0 [some (.loc n)] h = some (.loc h.length, h ++ [PO.dic []]) from rfl, bnd_some, show eVar 0 [some (.loc n)] (h ++ [PO.dic []]) = some (.loc n, h ++ [PO.dic []]) from rfl, bnd_some]
    simp only
    rw [List.getElem?_append_left hlt, hn]
    simp only
    rw [fld_Program_functions, hw]
    rfl
  rw [e]; rfl
/-- put -/
theorem s_put {n m : Nat} {kvs : List (Key × PV)} {f x : Str} {e : Ex} (P : Prg h n m kvs) (hw : wr m = true) (hf : okName f = true) (hx : okName x = true) (he : okE e) (h1 : sz e ≤ 300) (h2 : dp e ≤ 60)
    (hnew : getK (.inr f) kvs = none) (hlen : kvs.length < 20) (hnd : (kvs.map (·.1)).Nodup) :
    evC bod tab (k + 7) wr ("Program", some "put") [.loc n, .str f, .tup [.str x], enc e] h = some (.non, h.set m (PO.dic (putD (.inr f) (.tup [.tup [.str x], enc e]) kvs))) := by
  rw [ev_Program_put]
  have ee : b_Program_put (evC bod tab (k + 6)) wr [some (.loc n), some (.str f), some (.tup [.str x]), some (enc e)] h = some (.nx, [some (.loc n), some (.str f), some (.tup [.str x]), some (enc e)], h.set m (PO.dic (putD (.inr f) (.tup [.tup [.str x], enc e]) kvs))) := by
    refine (l_seq (l_drop (x := .non) (h1 := h) ?_)).trans ?_
    · rw [l_fn (h1 := h) (ps := [.str f, .tup [.str x], enc e]) rfl, ct_need_function, s_needf hf hx he h1 h2]
    have fld : eFld tab "functions" (eVar 0) [some (.loc n), some (.str f), some (.tup [.str x]), some (enc e)] h = some (.loc m, h) := P.fld rfl
    refine (l_seq (e1 := [some (.loc n), some (.str f), some (.tup [.str x]), some (enc e)]) (h1 := h) ((l_if (b := false) (h1 := h) ?_).trans rfl)).trans ?_
    · rw [l_op (h1 := h) (h2 := h) (x := .str f) (y := .loc m) rfl fld]
      have : fInTB tab (.str f) (.loc m) h = some false := by
        show (match h[m]? with
          | some (.lst ys) => if (flatP (.str f) && flatPs ys) = true then some (memP (.str f) ys) else none
          | some (.dic kvs) => (match pkey (.str f) with
            | some k => some (getK k kvs).isSome
            | none => none)
          | _ => none) = _
        rw [P.dic]
        show some (getK (.inr f) kvs).isSome = _
        rw [hnew]; rfl
      unfold fInT
      rw [this]; rfl
    refine (l_seq (e1 := [some (.loc n), some (.str f), some (.tup [.str x]), some (enc e)]) (h1 := h) ((l_if (b := false) (h1 := h) ?_).trans rfl)).trans ?_
    · rw [l_op (h1 := h) (h2 := h) (x := .int (kvs.length : Nat)) (y := .int 20) ?_ (by kernel_rfl), KP.eq_int, decide_eq_false (by omega)]
      rw [l_call (ps := [.loc m]) (h1 := h) (l_a1 fld rfl)]
      unfold gLen
      simp only
      rw [P.dic]
    refine (l_seq (e1 := [some (.loc n), some (.str f), some (.tup [.str x]), some (enc e)]) (h1 := h.set m (PO.dic (putD (.inr f) (.tup [.tup [.str x], enc e]) kvs))) ?_).trans rfl
    unfold sSubA
    rw [show eTup (aCons (eVar 2) (aCons (eVar 3) aNil)) [some (.loc n), some (.str f), some (.tup [.str x]), some (enc e)] h = some (.tup [.tup [.str x], enc e], h) from rfl, bnd_some, fld, bnd_some]
    rw [show eVar 1 [some (.loc n), some (.str f), some (.tup [.str x]), some (enc e)] h = some (.str f, h) from rfl, bnd_some]
    simp only
    rw [if_pos hw, P.dic]
    simp only [pkey]
    rw [decide_eq_true hnd, Bool.and_true, if_pos]
    exact Nat.ble_eq_true_of_le (Nat.le_trans hlen (by decide))
  rw [ee]; rfl
end
end KW
set_option Elab.async false
set_option linter.all false
set_option maxRecDepth 100000
set_option maxHeartbeats 400000
namespace KW
open PySem PySem.Spec PyProof.Rows L2 KP
section
variable {k : Nat} {wr : Nat → Bool} {h : PH} {n m : Nat} {kvs : List (Key × PV)}
theorem s_funof {f : Str} {pb : List PV} (P : Prg h n m kvs) (hf : okName f = true) (hg : getK (.inr f) kvs = some (.tup pb)) (hp : plain (.tup pb) = true) : evC bod tab (k + 2) wr ("Program", some "function_of") [.loc n, .str f] h = some (.tup pb, h) := by
  rw [ev_Program_function_of]
  have e : b_Program_function_of (evC bod tab (k + 1)) (freshW h) [some (.loc n), some (.str f), none] h = some (.ret (.tup pb), [some (.loc n), some (.str f), none], h) := by
    refine (l_seq (e1 := [some (.loc n), some (.str f), none]) (h1 := h) ((l_if (b := false) (h1 := h) (l_not (b := true) ?_)).trans rfl)).trans (l_seqR (l_seqR (l_ret ?_)))
    · rw [l_fn (h1 := h) (ps := [.str f]) rfl, ct_is_name, s_name hf]
    · rw [l_op (h1 := h) (h2 := h) (x := .loc m) (y := .str f) (P.fld rfl) rfl]
      show (match h[m]? with
        | some (.lst xs) => none
        | some (.dic kvs) => (match pkey (.str f) with
          | some k => (getK k kvs).map fun p => (p, h)
          | none => none)
        | _ => none) = _
      rw [P.dic]
      show (getK (.inr f) kvs).map _ = _
      rw [hg]; rfl
  rw [e, fin_ret, trunc_pl hp]
theorem own_at {f : AF} {mm : Str} {ps : List PV} {env : KP.Env} {wr' : Nat → Bool} {call : CallF} (P : Prg h n m kvs) (e : env[0]? = some (some (PV.loc n))) (hm : tab.meth "Program" mm = true) (hl : lookS mm [(("functions" : Str), PV.loc m)] = none) (hf : f env h = some (ps, h)) : eOwn tab call wr' mm (eVar 0) f env h = callT tab call wr' ("Program", some mm) (.loc n :: ps) h := by
  unfold eOwn
  rw [show eVar 0 env h = some (.loc n, h) from by unfold eVar; rw [e], bnd_some]
  simp only
  rw [P.ins]
  simp only
  rw [hm, hl, hf, bnd_some]
  rfl
theorem s_body {f : Str} {a b : PV} (P : Prg h n m kvs) (hf : okName f = true) (hg : getK (.inr f) kvs = some (.tup [a, b])) (hp : plain (.tup [a, b]) = true) : evC bod tab (k + 3) wr ("Program", some "body_of") [.loc n, .str f] h = some (b, h) := by
  rw [ev_Program_body_of]
  have e : b_Program_body_of (evC bod tab (k + 2)) (freshW h) [some (.loc n), some (.str f)] h = some (.ret b, [some (.loc n), some (.str f)], h) := by
    refine l_seqR (l_ret ?_)
    rw [l_op (h1 := h) (h2 := h) (x := .tup [a, b]) (y := .int 1) (by rw [own_at (ps := [.str f]) P rfl meth_Program_function_of (by kernel_rfl) rfl, ct_Program_function_of, s_funof P hf hg hp]) rfl]
    kernel_rfl
  have hb : plain b = true := by
    rw [plain_tup, plains, plains, Bool.and_eq_true, Bool.and_eq_true] at hp
    exact hp.2.1
  rw [e, fin_ret, trunc_pl hb]
theorem s_prms {f : Str} {a b : PV} (P : Prg h n m kvs) (hf : okName f = true) (hg : getK (.inr f) kvs = some (.tup [a, b])) (hp : plain (.tup [a, b]) = true) : evC bod tab (k + 3) wr ("Program", some "params_of") [.loc n, .str f] h = some (a, h) := by
  rw [ev_Program_params_of]
  have e : b_Program_params_of (evC bod tab (k + 2)) (freshW h) [some (.loc n), some (.str f)] h = some (.ret a, [some (.loc n), some (.str f)], h) := by
    refine l_seqR (l_ret ?_)
    rw [l_op (h1 := h) (h2 := h) (x := .tup [a, b]) (y := .int 0) (by rw [own_at (ps := [.str f]) P rfl meth_Program_function_of (by kernel_rfl) rfl, ct_Program_function_of, s_funof P hf hg hp]) rfl]
    kernel_rfl
  have hb : plain a = true := by
    rw [plain_tup, plains, plains, Bool.and_eq_true, Bool.and_eq_true] at hp
    exact hp.1
  rw [e, fin_ret, trunc_pl hb]
theorem s_names (P : Prg h n m kvs) : evC bod tab (k + 1) wr ("Program", some "names") [.loc n] h = some (.loc h.length, h ++ [.lst (kvs.map fun kv => keyP kv.1)]) := by
  rw [ev_Program_names]
  have e : b_Program_names (evC bod tab k) (freshW h) [some (.loc n)] h = some (.ret (.loc h.length), [some (.loc n)], h ++ [.lst (kvs.map fun kv => keyP kv.1)]) := by
    refine l_seqR (l_ret ?_)
    rw [l_call (ps := [.loc m]) (h1 := h) (l_a1 (P.fld rfl) rfl)]
    unfold gList
    simp only
    rw [P.dic]
    simp only
    congr 4
  rw [e, fin_ret]
  refine trunc_lst (Nat.le_refl _) (by simp) ?_
  have : ∀ l : List (Key × PV), plains (l.map fun kv => keyP kv.1) = true := by
    intro l
    induction l with
    | nil => rfl
    | cons q l ih =>
      rw [List.map_cons, plains, ih]
      have : plain (keyP q.1) = true := by cases q.1 <;> rfl
      rw [this]; rfl
  exact this kvs
theorem s_needp (P : Prg h n m kvs) : evC bod tab (k + 1) wr ("need_program", none) [.loc n] h = some (.non, h) := by
  rw [ev_need_program]
  have e : b_need_program (evC bod tab k) (freshW h) [some (.loc n)] h = some (.nx, [some (.loc n)], h) := by
    refine (l_seq (e1 := [some (.loc n)]) (h1 := h) ((l_if (b := false) (h1 := h) (l_not (b := true) ?_)).trans rfl)).trans rfl
    unfold eIsi
    rw [show eVar 0 [some (.loc n)] h = some (.loc n, h) from rfl, bnd_some]
    unfold tyN
    simp only
    rw [P.ins]
    simp only
    rw [isi_Program, if_pos rfl]
    have : sEq "Program" "Program" = true := by kernel_rfl
    rw [this]
  rw [e]; rfl
end
end KW
set_option Elab.async false
set_option linter.all false
set_option maxRecDepth 100000
set_option maxHeartbeats 400000
namespace KW
open PySem PySem.Spec PyProof.Rows L2 KP
section
variable {k : Nat} {wr : Nat → Bool} {h : PH} {n m : Nat} {kvs : List (Key × PV)}
/-- nothing wrong at the head of e, the names bound -/
def right1 (kvs : List (Key × PV)) (bound : List PV) : Ex → Prop
  | .name x => memP (.str x) bound = true
  | .fn f => ∃ ps b, getK (.inr f) kvs = some (.tup [.tup ps, b])
  | .call f as => ∃ ps b, getK (.inr f) kvs = some (.tup [.tup ps, b]) ∧ as.list.length = ps.length
  | _ => True
theorem in_dic (P : Prg h n m kvs) {f : Str} {p : PV} (hg : getK (.inr f) kvs = some p) : fNotInT tab (.str f) (.loc m) h = some (.bl false, h) := by
  have : fInTB tab (.str f) (.loc m) h = some true := by
    show (match h[m]? with
      | some (.lst ys) => if (flatP (.str f) && flatPs ys) = true then some (memP (.str f) ys) else none
      | some (.dic kvs) => (match pkey (.str f) with
        | some k => some (getK k kvs).isSome
        | none => none)
      | _ => none) = _
    rw [P.dic]
    show some (getK (.inr f) kvs).isSome = _
    rw [hg]; rfl
  unfold fNotInT
  rw [this]; rfl
theorem ix_dic1 (P : Prg h n m kvs) {f : Str} {p : PV} (hg : getK (.inr f) kvs = some p) : fIxT tab (.loc m) (.str f) h = some (p, h) := by
  show (match h[m]? with
    | some (.lst xs) => none
    | some (.dic kvs) => (match pkey (.str f) with
      | some k => (getK k kvs).map fun p => (p, h)
      | none => none)
    | _ => none) = _
  rw [P.dic]
  show (getK (.inr f) kvs).map _ = _
  rw [hg]; rfl
theorem s_whereok {e : Ex} {bound : List PV} (P : Prg h n m kvs) (hr : right1 kvs bound e) (hb : flatPs bound = true) : evC bod tab (k + 1) wr ("Program", some "wrong_here") [.loc n, enc e, .tup bound] h = some (.non, h) := by
  rw [ev_Program_wrong_here]
  have key : ∃ env, b_Program_wrong_here (evC bod tab k) (freshW h) [some (.loc n), some (enc e), some (.tup bound), none] h = some (.ret .non, env, h) := by
    cases e with
    | name x =>
      rw [enc]
      refine ⟨[some (.loc n), some (.tup [.str "name", .str x]), some (.tup bound), none], l_seqR ((l_if (b := true) (h1 := h) (by kernel_rfl)).trans ?_)⟩
      rw [if_pos rfl]
      refine l_seqR (l_ret ((l_ite (b := true) (h1 := h) ?_).trans ?_))
      · rw [l_op (h1 := h) (h2 := h) (x := .str x) (y := .tup bound) (by kernel_rfl) rfl, in_tup rfl hb, show memP (.str x) bound = true from hr]
      · rw [if_pos rfl]; rfl
    | fn f =>
      obtain ⟨ps, b, hg⟩ := hr
      rw [enc]
      refine ⟨[some (.loc n), some (.tup [.str "fn", .str f]), some (.tup bound), some (.bl true)], (l_seq (e1 := [some (.loc n), some (.tup [.str "fn", .str f]), some (.tup bound), none]) (h1 := h) (by kernel_rfl)).trans ((l_seq (e1 := [some (.loc n), some (.tup [.str "fn", .str f]), some (.tup bound), none]) (h1 := h) (by kernel_rfl)).trans ((l_seq (e1 := [some (.loc n), some (.tup [.str "fn", .str f]), some (.tup bound), none]) (h1 := h) ((l_if (b := false) (h1 := h) ?_).trans rfl)).trans ?_))⟩
      · rw [l_op (h1 := h) (h2 := h) (x := .str f) (y := .loc m) (by kernel_rfl) (P.fld rfl), in_dic P hg]
      · refine (l_seq (e1 := [some (.loc n), some (.tup [.str "fn", .str f]), some (.tup bound), some (.bl true)]) (h1 := h) (l_asg (x := .bl true) (l_or1 (by kernel_rfl)) rfl)).trans (l_seqR (l_ret (by kernel_rfl)))
    | call f as =>
      obtain ⟨ps, b, hg, hl⟩ := hr
      rw [enc]
      refine ⟨[some (.loc n), some (.tup [.str "call", .str f, .tup (encs as)]), some (.tup bound), some (.bl true)], (l_seq (e1 := [some (.loc n), some (.tup [.str "call", .str f, .tup (encs as)]), some (.tup bound), none]) (h1 := h) (by kernel_rfl)).trans ((l_seq (e1 := [some (.loc n), some (.tup [.str "call", .str f, .tup (encs as)]), some (.tup bound), none]) (h1 := h) (by kernel_rfl)).trans ((l_seq (e1 := [some (.loc n), some (.tup [.str "call", .str f, .tup (encs as)]), some (.tup bound), none]) (h1 := h) ((l_if (b := false) (h1 := h) ?_).trans rfl)).trans ?_))⟩
      · rw [l_op (h1 := h) (h2 := h) (x := .str f) (y := .loc m) (by kernel_rfl) (P.fld rfl), in_dic P hg]
      · refine (l_seq (e1 := [some (.loc n), some (.tup [.str "call", .str f, .tup (encs as)]), some (.tup bound), some (.bl true)]) (h1 := h) (l_asg (x := .bl true) ((l_or2 (h1 := h) (by kernel_rfl)).trans ?_) rfl)).trans (l_seqR (l_ret (by kernel_rfl)))
        have i1 : eCall gLen (aCons (eOp (fIxT tab) (eVar 1) (eCst (.int 2))) aNil) [some (.loc n), some (.tup [.str "call", .str f, .tup (encs as)]), some (.tup bound), none] h = some (.int (encs as).length, h) := by kernel_rfl
        rw [l_op (h1 := h) (h2 := h) i1 (y := .int ps.length) ?_, KP.eq_int, decide_eq_true (by rw [encs_map, List.length_map, hl])]
        rw [l_call (ps := [.tup ps]) (h1 := h) (l_a1 (h1 := h) ?_ rfl)]
        · rfl
        · rw [l_op (h1 := h) (h2 := h) (x := .tup [.tup ps, b]) (y := .int 0) ?_ rfl]
          · kernel_rfl
          · rw [l_op (h1 := h) (h2 := h) (x := .loc m) (y := .str f) (P.fld rfl) (by kernel_rfl), ix_dic1 P hg]
    | num z => exact ⟨[some (.loc n), some (enc (.num z)), some (.tup bound), none], by rw [enc]; kernel_rfl⟩
    | op d a b => exact ⟨[some (.loc n), some (enc (.op d a b)), some (.tup bound), none], by rw [enc]; kernel_rfl⟩
    | say a => exact ⟨[some (.loc n), some (enc (.say a)), some (.tup bound), none], by rw [enc]; kernel_rfl⟩
    | lt x a b => exact ⟨[some (.loc n), some (enc (.lt x a b)), some (.tup bound), none], by rw [enc]; kernel_rfl⟩
    | iff a b c => exact ⟨[some (.loc n), some (enc (.iff a b c)), some (.tup bound), none], by rw [enc]; kernel_rfl⟩
    | ask a as => exact ⟨[some (.loc n), some (enc (.ask a as)), some (.tup bound), none], by rw [enc]; kernel_rfl⟩
    | rai w => exact ⟨[some (.loc n), some (enc (.rai w)), some (.tup bound), none], by rw [enc]; kernel_rfl⟩
    | tr a w b => exact ⟨[some (.loc n), some (enc (.tr a w b)), some (.tup bound), none], by rw [enc]; kernel_rfl⟩
  obtain ⟨env, e1⟩ := key
  rw [e1]; rfl
end
end KW
set_option Elab.async false
set_option linter.all false
set_option maxRecDepth 100000
set_option maxHeartbeats 400000
namespace KW
open PySem PySem.Spec PyProof.Rows L2 KP
section
variable {k : Nat} {wr : Nat → Bool} {h : PH}
def isLt : Ex → Bool
  | .lt _ _ _ => true
  | _ => false
/-- the names bound in the parts -/
def bnds (bound : List PV) : Ex → List (List PV)
  | .lt x a b => [bound, bound ++ [.str x]]
  | e => (parts e).map fun _ => bound
theorem plains_app {xs ys : List PV} (h1 : plains xs = true) (h2 : plains ys = true) : plains (xs ++ ys) = true := by
  induction xs with
  | nil => exact h2
  | cons x xs ih =>
    rw [plains, Bool.and_eq_true] at h1
    rw [List.cons_append, plains, h1.1, ih h1.2]; rfl
theorem s_bound {e : Ex} {bound : List PV} (he : okE e) (hp : plains bound = true) (hl : bound.length ≤ 1000) : evC bod tab (k + 2) wr ("bound_within", none) [enc e, .tup bound] h = some (.loc h.length, h ++ [.lst ((bnds bound e).map PV.tup)]) ∨
    evC bod tab (k + 2) wr ("bound_within", none) [enc e, .tup bound] h = some (.loc h.length, h ++ [.lst ((bnds bound e).map PV.tup)]) := by
  left
  rw [ev_bound_within]
  have pb : plain (.tup bound) = true := by rw [plain_tup]; exact hp
  by_cases q : isLt e = true
  · cases e with
    | lt x a b =>
      have e1 : b_bound_within (evC bod tab (k + 1)) (freshW h) [some (enc (.lt x a b)), some (.tup bound), none] h = some (.ret (.loc h.length), [some (enc (.lt x a b)), some (.tup bound), none], h ++ [.lst [.tup bound, .tup (bound ++ [.str x])]]) := by
        rw [enc]
        refine l_seqR ((l_if (b := true) (h1 := h) (by kernel_rfl)).trans ?_)
        rw [if_pos rfl]
        refine l_seqR (l_ret ?_)
        have i2 : eOp fAdd (eVar 1) (eTup (aCons (eOp (fIxT tab) (eVar 0) (eCst (.int 1))) aNil)) [some (.tup [.str "let", .str x, enc a, enc b]), some (.tup bound), none] h = some (.tup (bound ++ [.str x]), h) := by
          rw [l_op (h1 := h) (h2 := h) (x := .tup bound) (y := .tup [.str x]) rfl (by kernel_rfl)]
          show (if _ then _ else _) = _
          have big : (1001 : Nat) ≤ lineN := by decide
          rw [if_pos (by simp; omega)]
        unfold eLst
        rw [show aCons (eVar 1) (aCons (eOp fAdd (eVar 1) (eTup (aCons (eOp (fIxT tab) (eVar 0) (eCst (.int 1))) aNil))) aNil) [some (.tup [.str "let", .str x, enc a, enc b]), some (.tup bound), none] h = some ([.tup bound, .tup (bound ++ [.str x])], h) from l_a1 (h1 := h) rfl (l_a1 (h1 := h) i2 rfl), bnd_some]
        rfl
      rw [e1, fin_ret]
      exact trunc_lst (Nat.le_refl _) (by simp [bnds]) (by
        show plains [.tup bound, .tup (bound ++ [.str x])] = true
        rw [plains, plains, pb, plain_tup, plains_app hp rfl]; rfl)
    | _ => cases q
  · have hb : bnds bound e = (parts e).map fun _ => bound := by
      cases e <;> first | rfl | exact absurd rfl q
    have hc : eOp fEq (eOp (fIxT tab) (eVar 0) (eCst (.int 0))) (eCst (.str "let")) [some (enc e), some (.tup bound), none] h = some (.bl false, h) := by
      cases e <;> first | exact absurd rfl q | (rw [enc]; kernel_rfl)
    have e1 : b_bound_within (evC bod tab (k + 1)) (freshW h) [some (enc e), some (.tup bound), none] h = some (.ret (.loc (h ++ [PO.lst ((parts e).map enc)]).length), [some (enc e), some (.tup bound), none], (h ++ [PO.lst ((parts e).map enc)]) ++ [PO.lst (((parts e).map enc).map fun _ => .tup bound)]) := by
      refine (l_seq (e1 := [some (enc e), some (.tup bound), none]) (h1 := h) ((l_if hc).trans rfl)).trans (l_seqR (l_ret ?_))
      have ei : iOf (eFn tab (evC bod tab (k + 1)) (freshW h) "parts_of" (aCons (eVar 0) aNil)) [some (enc e), some (.tup bound), none] h = some (((parts e).map enc, [h.length]), h ++ [.lst ((parts e).map enc)]) := by
        unfold iOf
        rw [l_fn (h1 := h) (ps := [enc e]) rfl, ct_parts_of, s_partsE he, bnd_some]
        simp
      have hpl : (parts e).length ≤ 7 := by
        cases e <;> simp only [parts, List.length_cons, List.length_nil, okE] at he ⊢ <;> omega
      refine eLc_pure (fun _ => .tup bound) ei (lcOk_loc (by simp) (fresh_ge (by simp)) (by rw [List.length_map]; exact Nat.le_trans hpl (by decide)) rfl) fun x hx => ⟨[some (enc e), some (.tup bound), some x], rfl, fun wr h => rfl⟩
    rw [e1, fin_ret, hb]
    refine trunc_lst (by simp) (by simp [Function.comp_def]) ?_
    have : ∀ l : List Ex, plains ((l.map fun _ => bound).map PV.tup) = true := by
      intro l
      induction l with
      | nil => rfl
      | cons x l ih => rw [List.map_cons, List.map_cons, plains, pb, ih]; rfl
    exact this _
end
end KW
set_option Elab.async false
set_option linter.all false
set_option maxRecDepth 100000
set_option maxHeartbeats 400000
namespace KW
open PySem PySem.Spec PyProof.Rows L2 KP
theorem s_boundw {k : Nat} {wr : Nat → Bool} {h : PH} {e : Ex} {bound : List PV} (he : okE e) (hp : plains bound = true) (hl : bound.length ≤ 1000) : evC bod tab (k + 2) wr ("bound_within", none) [enc e, .tup bound] h = some (.loc h.length, h ++ [.lst ((bnds bound e).map PV.tup)]) :=
  (or_self_iff.mp (s_bound he hp hl))
mutual
/-- nothing wrong anywhere in e -/
def scd (kvs : List (Key × PV)) : List PV → Ex → Prop
  | bound, .name x => memP (.str x) bound = true
  | _, .fn f => ∃ ps b, getK (.inr f) kvs = some (.tup [.tup ps, b])
  | bound, .op _ a b => scd kvs bound a ∧ scd kvs bound b
  | bound, .say a => scd kvs bound a
  | bound, .lt x a b => scd kvs bound a ∧ scd kvs (bound ++ [.str x]) b
  | bound, .iff a b c => scd kvs bound a ∧ scd kvs bound b ∧ scd kvs bound c
  | bound, .call f as => (∃ ps b, getK (.inr f) kvs = some (.tup [.tup ps, b]) ∧ as.list.length = ps.length) ∧ scds kvs bound as
  | bound, .ask a as => scd kvs bound a ∧ scds kvs bound as
  | bound, .tr a _ b => scd kvs bound a ∧ scd kvs bound b
  | _, .num _ => True
  | _, .rai _ => True
def scds (kvs : List (Key × PV)) : List PV → Exs → Prop
  | _, .nil => True
  | bound, .cons a r => scd kvs bound a ∧ scds kvs bound r
end
theorem scds_mem {kvs : List (Key × PV)} {bound : List PV} : ∀ {as : Exs}, scds kvs bound as → ∀ c ∈ as.list, scd kvs bound c
  | .nil, _, c, h => by cases h
  | .cons a r, h, c, hc => by
    rw [scds] at h
    rcases List.mem_cons.mp hc with q | q
    · rw [q]; exact h.1
    · exact scds_mem h.2 c q
theorem scd_right {kvs : List (Key × PV)} {bound : List PV} {e : Ex} (h : scd kvs bound e) : right1 kvs bound e := by
  cases e <;> simp only [scd, right1] at h ⊢ <;> first | exact h | exact h.1
theorem zip_same {α β : Type} {l : List α} {b x : β} {c : α} (h : (c, x) ∈ l.zip (l.map fun _ => b)) : c ∈ l ∧ x = b := by
  induction l with
  | nil => cases h
  | cons a l ih =>
    rw [List.map_cons, List.zip_cons_cons] at h
    rcases List.mem_cons.mp h with q | q
    · cases q; exact ⟨List.mem_cons_self .., rfl⟩
    · exact ⟨List.mem_cons_of_mem _ (ih q).1, (ih q).2⟩
theorem scd_parts {kvs : List (Key × PV)} {bound : List PV} {e : Ex} (h : scd kvs bound e) : ∀ q ∈ (parts e).zip (bnds bound e), scd kvs q.2 q.1 := by
  intro q hq
  by_cases l : isLt e = true
  · cases e with
    | lt x a b =>
      rw [scd] at h
      have hq : q ∈ [(a, bound), (b, bound ++ [.str x])] := hq
      simp only [List.mem_cons, List.not_mem_nil, or_false] at hq
      rcases hq with rfl | rfl
      · exact h.1
      · exact h.2
    | _ => cases l
  · have hb : bnds bound e = (parts e).map fun _ => bound := by
      cases e <;> first | rfl | exact absurd rfl l
    rw [hb] at hq
    obtain ⟨hc, hx⟩ := zip_same (c := q.1) (x := q.2) hq
    rw [hx]
    cases e <;> simp only [parts, scd, List.mem_cons, List.not_mem_nil, or_false] at h hc
    · rcases hc with e | e <;> rw [e]
      · exact h.1
      · exact h.2
    · rw [hc]; exact h
    · exact absurd rfl l
    · rcases hc with e | e | e <;> rw [e]
      · exact h.1
      · exact h.2.1
      · exact h.2.2
    · exact scds_mem h.2 _ hc
    · rcases hc with e | e
      · rw [e]; exact h.1
      · exact scds_mem h.2 _ e
    · rcases hc with e | e <;> rw [e]
      · exact h.1
      · exact h.2
end KW
set_option Elab.async false
set_option linter.all false
set_option maxRecDepth 100000
set_option maxHeartbeats 400000
namespace KW
open PySem PySem.Spec PyProof.Rows L2 KP
structure Wt where
  pl : List PV
  e : Ex
  bd : List PV
def Wt.pv (q : Wt) : PV := .tup [.tup q.pl, enc q.e, .tup q.bd]
/-- the rows of the parts -/
def rowP (pl : List PV) : PV → PV
  | .tup [i, p] => .tup [.tup (pl ++ [i]), p]
  | p => p
def rowsFrom (pl : List PV) : Nat → List Ex → List (List PV) → List Wt
  | i, c :: cs, b :: bs => ⟨pl ++ [.int (i : Nat)], c, b⟩ :: rowsFrom pl (i + 1) cs bs
  | _, _, _ => []
def moreP : PV → PV
  | .tup [.tup [a, p], b] => .tup [a, p, b]
  | p => p
theorem rows_eq (pl : List PV) : ∀ (i : Nat) (cs : List Ex) (bs : List (List PV)), (pairs ((enumP i (cs.map enc)).map (rowP pl)) (bs.map PV.tup)).map moreP = (rowsFrom pl i cs bs).map Wt.pv
  | i, [], bs => by simp [enumP, pairs, rowsFrom]
  | i, c :: cs, [] => by simp [enumP, pairs, rowsFrom]
  | i, c :: cs, b :: bs => by
    rw [List.map_cons, enumP, List.map_cons, List.map_cons, pairs, List.map_cons, rows_eq pl (i + 1) cs bs, rowsFrom, List.map_cons]
    rfl
theorem rows_mem {pl : List PV} : ∀ {i : Nat} {cs : List Ex} {bs : List (List PV)} {q : Wt}, q ∈ rowsFrom pl i cs bs → (q.e, q.bd) ∈ cs.zip bs ∧ ∃ j : Nat, q.pl = pl ++ [.int (j : Nat)]
  | i, c :: cs, b :: bs, q, h => by
    rw [rowsFrom] at h
    rcases List.mem_cons.mp h with e | h
    · rw [e]; exact ⟨by rw [List.zip_cons_cons]; exact List.mem_cons_self .., i, rfl⟩
    · obtain ⟨h1, h2⟩ := rows_mem h
      exact ⟨by rw [List.zip_cons_cons]; exact List.mem_cons_of_mem _ h1, h2⟩
  | _, [], _, _, h => by simp [rowsFrom] at h
  | _, _ :: _, [], _, h => by simp [rowsFrom] at h
theorem rows_sz {pl : List PV} : ∀ {i : Nat} {cs : List Ex} {bs : List (List PV)}, cs.length = bs.length → ((rowsFrom pl i cs bs).map fun q => sz q.e).sum = (cs.map sz).sum
  | i, c :: cs, b :: bs, h => by
    rw [rowsFrom, List.map_cons, List.sum_cons, List.map_cons, List.sum_cons, rows_sz (by simpa using h)]
  | _, [], [], _ => rfl
  | _, [], _ :: _, h => by simp at h
  | _, _ :: _, [], h => by simp at h
theorem bnds_len (bound : List PV) (e : Ex) : (bnds bound e).length = (parts e).length := by
  cases e <;> simp [bnds, parts]
end KW
set_option Elab.async false
set_option linter.all false
set_option maxRecDepth 100000
set_option maxHeartbeats 400000
namespace KW
open PySem PySem.Spec PyProof.Rows L2 KP
def wrC : EF := eOp fNe (eVar 3) (eLst aNil)
def wrB (call : CallF) (wr : Nat → Bool) : SF := (sSeq (sAsg (eMeth "list" (mPop wr) (eVar 3) aNil) (gTp 3 (gsCons (gNm 4) (gsCons (gNm 5) (gsCons (gNm 6) gsNil)))))
      (sSeq (sAsg (eOwn tab call wr "wrong_here" (eVar 0) (aCons (eVar 5) (aCons (eVar 6) aNil))) (gNm 7))
      (sSeq (sIf (eOp fIsNot (eVar 7) (eCst .non)) (sSeq (sRet (eTup (aCons (eVar 4) (aCons (eVar 7) aNil))))
        sNext) sNext)
      (sSeq (sAsg (eLc wr [10, 11] (iEnumF (eFn tab call wr "parts_of" (aCons (eVar 5) aNil))) (gTp 2 (gsCons (gNm 10) (gsCons (gNm 11) gsNil))) (fun wr => tfY) (fun wr => (eTup (aCons (eOp fAdd (eVar 4) (eTup (aCons (eVar 10) aNil))) (aCons (eVar 11) aNil))))) (gNm 8))
      (sSeq (sAsg (eLc wr [12, 11, 13] (iZipF (eVar 8) (eFn tab call wr "bound_within" (aCons (eVar 5) (aCons (eVar 6) aNil)))) (gTp 2 (gsCons (gTp 2 (gsCons (gNm 12) (gsCons (gNm 11) gsNil))) (gsCons (gNm 13) gsNil))) (fun wr => tfY) (fun wr => (eTup (aCons (eVar 12) (aCons (eVar 11) (aCons (eVar 13) aNil)))))) (gNm 9))
      (sSeq (sDrop (eMeth "list" (mExtend wr) (eVar 3) (aCons (eRevL (eVar 9)) aNil)))
      sNext))))))
theorem enum_mem : ∀ {xs : List PV} {i : Nat} {x : PV}, x ∈ enumP i xs → ∃ (j : Nat) (p : PV), x = .tup [.int (j : Nat), p]
  | y :: ys, i, x, h => by
    rw [enumP] at h
    rcases List.mem_cons.mp h with e | h
    · exact ⟨i, y, e⟩
    · exact enum_mem h
theorem pairs_mem : ∀ {xs ys : List PV} {q : PV}, q ∈ pairs xs ys → ∃ x y, x ∈ xs ∧ y ∈ ys ∧ q = .tup [x, y]
  | x :: xs, y :: ys, q, h => by
    rw [pairs] at h
    rcases List.mem_cons.mp h with e | h
    · exact ⟨x, y, List.mem_cons_self .., List.mem_cons_self .., e⟩
    · obtain ⟨a, b, h1, h2, h3⟩ := pairs_mem h
      exact ⟨a, b, List.mem_cons_of_mem _ h1, List.mem_cons_of_mem _ h2, h3⟩
  | [], _, _, h => by simp [pairs] at h
  | _ :: _, [], _, h => by simp [pairs] at h
theorem enum_len2 {xs : List PV} {i : Nat} : (enumP i xs).length = xs.length := enumP_len xs i
theorem parts_few {e : Ex} (he : okE e) : (parts e).length ≤ 7 := by
  cases e <;> simp only [parts, List.length_cons, List.length_nil, okE] at he ⊢ <;> omega
end KW
set_option Elab.async false
set_option linter.all false
set_option maxRecDepth 100000
set_option maxHeartbeats 800000
namespace KW
open PySem PySem.Spec PyProof.Rows L2 KP
theorem at_ext {h g : PH} {w : Nat} {o : PO} (e : h[w]? = some o) : (h ++ g)[w]? = some o := by
  rw [List.getElem?_append_left (List.getElem?_eq_some_iff.mp e).1]; exact e
theorem at_end {h : PH} {o : PO} : (h ++ [o])[h.length]? = some o := by simp
theorem lcOk_loc2 {wr : Nat → Bool} {own : List Nat} {g : GF} {items : List PV} {m m' n : Nat} (hm : m < n) (hm' : m' < n) (h1 : wr n = true) (h2 : items.length ≤ lineN) (h3 : subN g.ws own = true) : lcOk wr own g items [m, m'] n = true := by
  unfold lcOk
  have e : lockW wr [m, m'] n = true := by
    show (wr n && !(natMem n [m, m'])) = true
    rw [h1]
    have : natMem n [m, m'] = false := by
      cases q : natMem n [m, m'] with
      | false => rfl
      | true => have := natMem_iff.mp q; simp at this; omega
    rw [this]; rfl
  rw [e, h3, Nat.ble_eq_true_of_le h2]
  simp [hm, hm']
section
variable {k : Nat} {wr : Nat → Bool} {n m : Nat} {kvs : List (Key × PV)}
theorem wr_turn {h : PH} {w : Nat} {st : List Wt} {q : Wt} {e1 e2 e4 e5 e6 e7 e8 e9 e10 e11 e12 e13 : Option PV} (P : Prg h n m kvs) (hn : h[w]? = some (.lst ((st ++ [q]).map Wt.pv))) (hw : ∀ j, w ≤ j → wr j = true) (hwn : w ≠ n) (hwm : w ≠ m)
    (he : okE q.e) (hr : scd kvs q.bd q.e) (hfl : flatPs q.bd = true) (hpb : plains q.bd = true) (hlb : q.bd.length ≤ 400) (hlp : q.pl.length ≤ 400) (hst : st.length ≤ 300) :
    ∃ x8 x9 h', wrB (evC bod tab (k + 2)) wr [some (.loc n), e1, e2, some (.loc w), e4, e5, e6, e7, e8, e9, e10, e11, e12, e13] h = some (.nx, [some (.loc n), e1, e2, some (.loc w), some (.tup q.pl), some (enc q.e), some (.tup q.bd), some .non, x8, x9, e10, e11, e12, e13], h') ∧
      h'[w]? = some (.lst ((st ++ (rowsFrom q.pl 0 (parts q.e) (bnds q.bd q.e)).reverse).map Wt.pv)) ∧ Prg h' n m kvs := by
  have hlt : w < h.length := (List.getElem?_eq_some_iff.mp hn).1
  have P2 : Prg (h.set w (.lst (st.map Wt.pv))) n m kvs := ⟨by rw [List.getElem?_set_ne hwn]; exact P.ins, by rw [List.getElem?_set_ne hwm]; exact P.dic⟩
  have h2n : (h.set w (.lst (st.map Wt.pv)))[w]? = some (.lst (st.map Wt.pv)) := List.getElem?_set_self hlt
  -- the lists that are laid
  have hp7 := parts_few he
  have hbl := bnds_len q.bd q.e
  have eY : (pairs ((enumP 0 ((parts q.e).map enc)).map (rowP q.pl)) ((bnds q.bd q.e).map PV.tup)).map moreP = (rowsFrom q.pl 0 (parts q.e) (bnds q.bd q.e)).map Wt.pv := rows_eq _ _ _ _
  have s1 : (sAsg (eMeth "list" (mPop wr) (eVar 3) aNil) (gTp 3 (gsCons (gNm 4) (gsCons (gNm 5) (gsCons (gNm 6) gsNil))))) [some (.loc n), e1, e2, some (.loc w), e4, e5, e6, e7, e8, e9, e10, e11, e12, e13] h =
      some (.nx, [some (.loc n), e1, e2, some (.loc w), some (.tup q.pl), some (enc q.e), some (.tup q.bd), e7, e8, e9, e10, e11, e12, e13], h.set w (.lst (st.map Wt.pv))) := by
    refine l_asg (x := q.pv) ?_ rfl
    rw [List.map_append] at hn
    rw [l_meth (h1 := h) (h2 := h) (x := .loc w) (ps := []) rfl (tyP_lst hn) rfl, pop_at hn (hw w (Nat.le_refl _))]
  generalize hh2 : h.set w (.lst (st.map Wt.pv)) = h2 at h2n P2 s1
  have hlt2 : w < h2.length := (List.getElem?_eq_some_iff.mp h2n).1
  obtain ⟨h3, e3⟩ : ∃ z, z = h2 ++ [PO.lst ((parts q.e).map enc)] := ⟨_, rfl⟩
  have P3 : Prg h3 n m kvs := e3 ▸ P2.ext _
  have w3 : h3[w]? = some (.lst (st.map Wt.pv)) := e3 ▸ at_ext h2n
  have l3 : h3.length = h2.length + 1 := by rw [e3]; simp
  obtain ⟨h4, e4'⟩ : ∃ z, z = h3 ++ [PO.lst ((enumP 0 ((parts q.e).map enc)).map (rowP q.pl))] := ⟨_, rfl⟩
  have P4 : Prg h4 n m kvs := e4' ▸ P3.ext _
  have w4 : h4[w]? = some (.lst (st.map Wt.pv)) := e4' ▸ at_ext w3
  have r4 : h4[h3.length]? = some (.lst ((enumP 0 ((parts q.e).map enc)).map (rowP q.pl))) := e4' ▸ at_end
  have l4 : h4.length = h3.length + 1 := by rw [e4']; simp
  obtain ⟨h5, e5'⟩ : ∃ z, z = h4 ++ [PO.lst ((bnds q.bd q.e).map PV.tup)] := ⟨_, rfl⟩
  have P5 : Prg h5 n m kvs := e5' ▸ P4.ext _
  have w5 : h5[w]? = some (.lst (st.map Wt.pv)) := e5' ▸ at_ext w4
  have r5 : h5[h3.length]? = some (.lst ((enumP 0 ((parts q.e).map enc)).map (rowP q.pl))) := e5' ▸ at_ext r4
  have b5 : h5[h4.length]? = some (.lst ((bnds q.bd q.e).map PV.tup)) := e5' ▸ at_end
  have l5 : h5.length = h4.length + 1 := by rw [e5']; simp
  obtain ⟨h6, e6'⟩ : ∃ z, z = h5 ++ [PO.lst ((rowsFrom q.pl 0 (parts q.e) (bnds q.bd q.e)).map Wt.pv)] := ⟨_, rfl⟩
  have P6 : Prg h6 n m kvs := e6' ▸ P5.ext _
  have w6 : h6[w]? = some (.lst (st.map Wt.pv)) := e6' ▸ at_ext w5
  have m6 : h6[h5.length]? = some (.lst ((rowsFrom q.pl 0 (parts q.e) (bnds q.bd q.e)).map Wt.pv)) := e6' ▸ at_end
  have l6 : h6.length = h5.length + 1 := by rw [e6']; simp
  obtain ⟨h7, e7'⟩ : ∃ z, z = h6 ++ [PO.lst ((rowsFrom q.pl 0 (parts q.e) (bnds q.bd q.e)).map Wt.pv).reverse] := ⟨_, rfl⟩
  have P7 : Prg h7 n m kvs := e7' ▸ P6.ext _
  have w7 : h7[w]? = some (.lst (st.map Wt.pv)) := e7' ▸ at_ext w6
  have m7 : h7[h6.length]? = some (.lst ((rowsFrom q.pl 0 (parts q.e) (bnds q.bd q.e)).map Wt.pv).reverse) := e7' ▸ at_end
  have big : (1001 : Nat) ≤ lineN := by decide
  refine ⟨some (.loc h3.length), some (.loc h5.length), h7.set w (.lst (st.map Wt.pv ++ ((rowsFrom q.pl 0 (parts q.e) (bnds q.bd q.e)).map Wt.pv).reverse)), ?_, ?_, ?_⟩
  · unfold wrB
    refine (l_seq s1).trans ?_
    refine (l_seq (e1 := [some (.loc n), e1, e2, some (.loc w), some (.tup q.pl), some (enc q.e), some (.tup q.bd), some .non, e8, e9, e10, e11, e12, e13]) (h1 := h2) (l_asg (x := .non) (h1 := h2) ?_ rfl)).trans ?_
    · rw [own_at (ps := [enc q.e, .tup q.bd]) P2 rfl meth_Program_wrong_here (by kernel_rfl) rfl, ct_Program_wrong_here, s_whereok P2 (scd_right hr) hfl]
    refine (l_seq (e1 := [some (.loc n), e1, e2, some (.loc w), some (.tup q.pl), some (enc q.e), some (.tup q.bd), some .non, e8, e9, e10, e11, e12, e13]) (h1 := h2) ((l_if (b := false) (h1 := h2) rfl).trans rfl)).trans ?_
    refine (l_seq (e1 := [some (.loc n), e1, e2, some (.loc w), some (.tup q.pl), some (enc q.e), some (.tup q.bd), some .non, some (.loc h3.length), e9, e10, e11, e12, e13]) (h1 := h4) (l_asg (x := .loc h3.length) (h1 := h4) ?_ rfl)).trans ?_
    · rw [e4']
      refine eLc_pure (rowP q.pl) (h1 := h3) (items := enumP 0 ((parts q.e).map enc)) (lk := [h2.length]) ?_ (lcOk_loc (by omega) (hw _ (by omega)) (by rw [enum_len2, List.length_map]; omega) rfl) fun x hx => ?_
      · unfold iEnumF
        rw [l_fn (h1 := h2) (ps := [enc q.e]) rfl, ct_parts_of, s_partsE he, bnd_some]
        simp only
        rw [at_end, ← e3]
      · obtain ⟨j, p, rfl⟩ := enum_mem hx
        refine ⟨[some (.loc n), e1, e2, some (.loc w), some (.tup q.pl), some (enc q.e), some (.tup q.bd), some .non, e8, e9, some (.int j), some p, e12, e13], rfl, fun wr h => ?_⟩
        refine l_tup (l_a1 (h1 := h) (x := .tup (q.pl ++ [.int j])) ?_ (l_a1 (h1 := h) rfl rfl)) (show 2 ≤ lineN by decide)
        rw [l_op (h1 := h) (h2 := h) (x := .tup q.pl) (y := .tup [.int j]) rfl (by kernel_rfl)]
        show (if _ then _ else _) = _
        rw [if_pos (by simp; omega)]
    refine (l_seq (e1 := [some (.loc n), e1, e2, some (.loc w), some (.tup q.pl), some (enc q.e), some (.tup q.bd), some .non, some (.loc h3.length), some (.loc h5.length), e10, e11, e12, e13]) (h1 := h6) (l_asg (x := .loc h5.length) (h1 := h6) ?_ rfl)).trans ?_
    · rw [e6', ← eY]
      refine eLc_pure moreP (h1 := h5) (items := pairs ((enumP 0 ((parts q.e).map enc)).map (rowP q.pl)) ((bnds q.bd q.e).map PV.tup)) (lk := [h3.length, h4.length]) ?_ (lcOk_loc2 (by omega) (by omega) (hw _ (by omega)) (by rw [KP.pairs_len, List.length_map, List.length_map, enum_len2, List.length_map]; omega) rfl) fun x hx => ?_
      · unfold iZipF
        rw [show eVar 8 [some (.loc n), e1, e2, some (.loc w), some (.tup q.pl), some (enc q.e), some (.tup q.bd), some .non, some (.loc h3.length), e9, e10, e11, e12, e13] h4 = some (.loc h3.length, h4) from rfl, bnd_some]
        rw [l_fn (h1 := h4) (ps := [enc q.e, .tup q.bd]) rfl, ct_bound_within, s_boundw he hpb (by omega), bnd_some, ← e5']
        unfold zsrc
        simp only
        rw [r5, b5]
        rfl
      · obtain ⟨x1, y1, hx1, hy1, rfl⟩ := pairs_mem hx
        obtain ⟨z, hz, rfl⟩ := List.mem_map.mp hx1
        obtain ⟨j, p, rfl⟩ := enum_mem hz
        exact ⟨[some (.loc n), e1, e2, some (.loc w), some (.tup q.pl), some (enc q.e), some (.tup q.bd), some .non, some (.loc h3.length), e9, e10, some p, some (.tup (q.pl ++ [.int j])), some y1], rfl, fun wr h => by kernel_rfl⟩
    refine (l_seq (e1 := [some (.loc n), e1, e2, some (.loc w), some (.tup q.pl), some (enc q.e), some (.tup q.bd), some .non, some (.loc h3.length), some (.loc h5.length), e10, e11, e12, e13]) (h1 := h7.set w (.lst (st.map Wt.pv ++ ((rowsFrom q.pl 0 (parts q.e) (bnds q.bd q.e)).map Wt.pv).reverse))) (l_drop (x := .non) ?_)).trans rfl
    rw [l_meth (h1 := h6) (h2 := h7) (x := .loc w) (ps := [.loc h6.length]) rfl (tyP_lst w6) (l_a1 (h1 := h7) ?_ rfl)]
    · refine extend_loc w7 m7 (hw w (Nat.le_refl _)) ?_
      have : (rowsFrom q.pl 0 (parts q.e) (bnds q.bd q.e)).length ≤ 7 := by
        have := congrArg List.length eY
        rw [List.length_map, List.length_map, KP.pairs_len, List.length_map, List.length_map, enum_len2, List.length_map] at this
        omega
      simp only [List.length_map, List.length_reverse]
      omega
    · unfold eRevL
      rw [show eVar 9 [some (.loc n), e1, e2, some (.loc w), some (.tup q.pl), some (enc q.e), some (.tup q.bd), some .non, some (.loc h3.length), some (.loc h5.length), e10, e11, e12, e13] h6 = some (.loc h5.length, h6) from rfl, bnd_some]
      unfold KP.listOf
      simp only
      rw [m6]
      simp only
      rw [← e7']
  · rw [List.getElem?_set_self (List.getElem?_eq_some_iff.mp w7).1, List.map_append, List.map_reverse]
  · exact ⟨by rw [List.getElem?_set_ne hwn]; exact P7.ins, by rw [List.getElem?_set_ne hwm]; exact P7.dic⟩
end
end KW
set_option Elab.async false
set_option linter.all false
set_option maxRecDepth 100000
set_option maxHeartbeats 800000
namespace KW
open PySem PySem.Spec PyProof.Rows L2 KP
structure WtOk (kvs : List (Key × PV)) (q : Wt) : Prop where
  ok : okE q.e
  sc : scd kvs q.bd q.e
  fl : flatPs q.bd = true
  pk : poks q.bd = true
  bl : q.bd.length + dp q.e ≤ 400
  pp : poks q.pl = true
  pl : q.pl.length + dp q.e ≤ 400
theorem poks_app {xs ys : List PV} (h1 : poks xs = true) (h2 : poks ys = true) : poks (xs ++ ys) = true := by
  induction xs with
  | nil => exact h2
  | cons x xs ih =>
    rw [poks, Bool.and_eq_true] at h1
    rw [List.cons_append, poks, h1.1, ih h1.2]; rfl
theorem flatPs_app {xs ys : List PV} (h1 : flatPs xs = true) (h2 : flatPs ys = true) : flatPs (xs ++ ys) = true := by
  induction xs with
  | nil => exact h2
  | cons x xs ih =>
    rw [flatPs, Bool.and_eq_true] at h1
    rw [List.cons_append, flatPs, h1.1, ih h1.2]; rfl
theorem WtOk.pv {kvs : List (Key × PV)} {q : Wt} (h : WtOk kvs q) : pok q.pv = true := by
  unfold Wt.pv
  rw [pok, poks, poks, poks, pok, pok, h.pk, h.pp, pok_enc _ h.ok]; rfl
theorem poks_wt {kvs : List (Key × PV)} {st : List Wt} (h : ∀ q ∈ st, WtOk kvs q) : poks (st.map Wt.pv) = true := by
  induction st with
  | nil => rfl
  | cons q st ih => rw [List.map_cons, poks, (h q (List.mem_cons_self ..)).pv, ih fun x hx => h x (List.mem_cons_of_mem _ hx)]; rfl
theorem dp_pos (e : Ex) : 1 ≤ dp e := by cases e <;> (rw [dp]; omega)
theorem bnds_of {bd : List PV} {e : Ex} : ∀ q ∈ (parts e).zip (bnds bd e), q.2 = bd ∨ ∃ x a b, e = .lt x a b ∧ q.2 = bd ++ [.str x] := by
  intro q hq
  by_cases l : isLt e = true
  · cases e with
    | lt x a b =>
      have hq : q ∈ [(a, bd), (b, bd ++ [.str x])] := hq
      simp only [List.mem_cons, List.not_mem_nil, or_false] at hq
      rcases hq with rfl | rfl
      · exact .inl rfl
      · exact .inr ⟨x, a, b, rfl, rfl⟩
    | _ => cases l
  · have hb : bnds bd e = (parts e).map fun _ => bd := by
      cases e <;> first | rfl | exact absurd rfl l
    rw [hb] at hq
    exact .inl (zip_same (c := q.1) (x := q.2) hq).2
theorem WtOk.rows {kvs : List (Key × PV)} {q : Wt} (h : WtOk kvs q) : ∀ r ∈ rowsFrom q.pl 0 (parts q.e) (bnds q.bd q.e), WtOk kvs r := by
  intro r hr
  obtain ⟨h1, j, h2⟩ := rows_mem hr
  have hc : r.e ∈ parts q.e := (List.of_mem_zip h1).1
  have hd := dp_parts _ hc
  have hbl := h.bl
  have hpl := h.pl
  have hp : poks r.pl = true ∧ r.pl.length + dp r.e ≤ 400 := by
    rw [h2]
    exact ⟨poks_app h.pp rfl, by simp only [List.length_append, List.length_singleton]; omega⟩
  have hok := okE_parts h.ok _ hc
  have hsc := scd_parts h.sc _ h1
  rcases bnds_of _ h1 with e | ⟨x, a, b, ee, e⟩
  · simp only at e
    exact ⟨hok, hsc, e ▸ h.fl, e ▸ h.pk, by rw [e]; omega, hp.1, hp.2⟩
  · simp only at e
    have hx : okName x = true := by
      have := h.ok
      rw [ee, okE] at this
      exact this.1
    exact ⟨hok, hsc, by rw [e]; exact flatPs_app h.fl rfl, by rw [e]; exact poks_app h.pk (by rw [poks, name_pok hx]; rfl), by rw [e, List.length_append, List.length_singleton]; omega, hp.1, hp.2⟩
section
variable {k : Nat} {wr : Nat → Bool} {n m : Nat} {kvs : List (Key × PV)}
theorem wr_cond {h : PH} {w : Nat} {st : List Wt} {e0 e1 e2 e4 e5 e6 e7 e8 e9 e10 e11 e12 e13 : Option PV} (hn : h[w]? = some (.lst (st.map Wt.pv))) (hok : ∀ q ∈ st, WtOk kvs q) : wrC [e0, e1, e2, some (.loc w), e4, e5, e6, e7, e8, e9, e10, e11, e12, e13] h = some (.bl (!st.isEmpty), h ++ [.lst []]) := by
  unfold wrC
  rw [l_op (h1 := h) (h2 := h ++ [.lst []]) (x := .loc w) (y := .loc h.length) rfl rfl, ne_nil (ws := st.map Wt.pv) (at_ext hn) at_end (poks_wt hok)]
  cases st <;> rfl
theorem wr_len : ∀ l : List Wt, l.length ≤ (l.map fun q => sz q.e).sum := by
  intro l
  induction l with
  | nil => simp
  | cons q l ih => simp only [List.length_cons, List.map_cons, List.sum_cons]; have := sz_pos q.e; omega
theorem wr_loop {w : Nat} (hw : ∀ j, w ≤ j → wr j = true) (hwn : w ≠ n) (hwm : w ≠ m) {e1 e2 : Option PV} : ∀ (S : Nat) (st : List Wt) (h : PH) (e4 e5 e6 e7 e8 e9 e10 e11 e12 e13 : Option PV), (st.map fun q => sz q.e).sum = S → Prg h n m kvs → h[w]? = some (.lst (st.map Wt.pv)) → (∀ q ∈ st, WtOk kvs q) → S ≤ 300 →
    ∃ env' h', whileF wrC (wrB (evC bod tab (k + 2)) wr) (S + 1) [some (.loc n), e1, e2, some (.loc w), e4, e5, e6, e7, e8, e9, e10, e11, e12, e13] h = some (.nx, env', h')
  | 0, st, h, e4, e5, e6, e7, e8, e9, e10, e11, e12, e13, hS, P, hn, hq, hm => by
    have : st = [] := by
      cases st with
      | nil => rfl
      | cons q st => simp only [List.map_cons, List.sum_cons] at hS; have := sz_pos q.e; omega
    subst this
    exact ⟨_, _, while_end (wr_cond hn hq)⟩
  | S + 1, st, h, e4, e5, e6, e7, e8, e9, e10, e11, e12, e13, hS, P, hn, hq, hm => by
    rcases List.eq_nil_or_concat st with rfl | ⟨st', q, rfl⟩
    · simp at hS
    · rw [List.concat_eq_append] at hS hn hq
      have hc := wr_cond (e0 := some (.loc n)) (e1 := e1) (e2 := e2) (e4 := e4) (e5 := e5) (e6 := e6) (e7 := e7) (e8 := e8) (e9 := e9) (e10 := e10) (e11 := e11) (e12 := e12) (e13 := e13) hn hq
      rw [show (!(st' ++ [q]).isEmpty) = true from by simp] at hc
      have hl := hq q (by simp)
      have hsum : (st'.map fun q => sz q.e).sum + sz q.e = S + 1 := by simpa using hS
      have hz := sz_parts q.e
      have hp1 := dp_pos q.e
      have hlb := hl.bl
      have hlp := hl.pl
      have hlen := wr_len st'
      obtain ⟨x8, x9, h', ht, hn', P'⟩ := wr_turn (k := k) (wr := wr) (h := h ++ [PO.lst []]) (w := w) (st := st') (q := q) (e1 := e1) (e2 := e2) (e4 := e4) (e5 := e5) (e6 := e6) (e7 := e7) (e8 := e8) (e9 := e9) (e10 := e10) (e11 := e11) (e12 := e12) (e13 := e13) (P.ext _) (at_ext hn) hw hwn hwm hl.ok hl.sc hl.fl (poks_plains _ hl.pk) (by omega) (by omega) (by omega)
      obtain ⟨env', h2, e3⟩ := wr_loop hw hwn hwm (e1 := e1) (e2 := e2) S (st' ++ (rowsFrom q.pl 0 (parts q.e) (bnds q.bd q.e)).reverse) h' (some (.tup q.pl)) (some (enc q.e)) (some (.tup q.bd)) (some .non) x8 x9 e10 e11 e12 e13 (by
        rw [List.map_append, List.sum_append, List.map_reverse, List.sum_reverse, rows_sz (bnds_len _ _).symm]
        omega) P' hn' (fun r hr => by
          rcases List.mem_append.mp hr with hr | hr
          · exact hq r (List.mem_append_left _ hr)
          · exact hl.rows r (List.mem_reverse.mp hr)) (by omega)
      exact ⟨env', h2, (while_nx hc ht).trans e3⟩
variable {h : PH}
theorem s_wrong_in {e : Ex} {bd : List PV} (P : Prg h n m kvs) (he : okE e) (hz : sz e ≤ 300) (hd : dp e ≤ 60) (hr : scd kvs bd e) (hf : flatPs bd = true) (hp : poks bd = true) (hb : bd.length ≤ 6) : evC bod tab (k + 3) wr ("Program", some "wrong_in") [.loc n, enc e, .tup bd] h = some (.non, h) := by
  rw [ev_Program_wrong_in]
  have hn : n < h.length := (List.getElem?_eq_some_iff.mp P.ins).1
  have hm : m < h.length := (List.getElem?_eq_some_iff.mp P.dic).1
  obtain ⟨env', h', el⟩ := wr_loop (k := k) (wr := freshW h) (n := n) (m := m) (kvs := kvs) (w := h.length) (fun j hj => fresh_ge hj) (by omega) (by omega) (e1 := some (enc e)) (e2 := some (.tup bd)) (sz e) [⟨[], e, bd⟩] (h ++ [PO.lst [Wt.pv ⟨[], e, bd⟩]]) none none none none none none none none none none (by simp) (P.ext _) at_end (fun q hq => by
    obtain rfl := List.mem_singleton.mp hq
    exact ⟨he, hr, hf, hp, by simp only; omega, rfl, by simp only [List.length_nil]; omega⟩) (by omega)
  have e1 : b_Program_wrong_in (evC bod tab (k + 2)) (freshW h) [some (.loc n), some (enc e), some (.tup bd), none, none, none, none, none, none, none, none, none, none, none] h = some (.ret .non, env', h') := by
    refine (l_seq (e1 := [some (.loc n), some (enc e), some (.tup bd), some (.loc h.length), none, none, none, none, none, none, none, none, none, none]) (h1 := h ++ [PO.lst [Wt.pv ⟨[], e, bd⟩]]) rfl).trans ?_
    refine (l_seq (e1 := env') (h1 := h') ?_).trans rfl
    exact while_mono el (by unfold fuelN; omega)
  rw [e1]; rfl
end
end KW
set_option Elab.async false
set_option linter.all false
set_option maxRecDepth 100000
set_option maxHeartbeats 800000
namespace KW
open PySem PySem.Spec PyProof.Rows L2 KP
/-! must_be_atoms, is_normal_body -/
def mba : Ex → List Ex
  | .op _ a b => [a, b]
  | .say a => [a]
  | .call _ as => as.list
  | .ask a as => a :: as.list
  | .iff a _ _ => [a]
  | _ => []
/-- normal, as a let's value or not -/
def nb : Bool → Ex → Prop
  | b, .op _ x y => b = true ∧ isAtom x = true ∧ isAtom y = true
  | b, .say x => b = true ∧ isAtom x = true
  | _, .lt _ a c => nb true a ∧ nb false c
  | _, .iff a c d => isAtom a = true ∧ nb false c ∧ nb false d
  | _, .call _ as => ∀ x ∈ as.list, isAtom x = true
  | _, .ask a as => isAtom a = true ∧ ∀ x ∈ as.list, isAtom x = true
  | _, .tr a _ c => nb false a ∧ nb false c
  | _, .num _ => True
  | _, .name _ => True
  | _, .fn _ => True
  | _, .rai _ => True
theorem nb_atom : ∀ {e : Ex} {b : Bool}, isAtom e = true → nb b e
  | .num _, _, _ => by simp [nb]
  | .name _, _, _ => by simp [nb]
  | .fn _, _, _ => by simp [nb]
  | .op _ _ _, _, h => by cases h
  | .say _, _, h => by cases h
  | .lt _ _ _, _, h => by cases h
  | .iff _ _ _, _, h => by cases h
  | .call _ _, _, h => by cases h
  | .ask _ _, _, h => by cases h
  | .tr _ _ _, _, h => by cases h
  | .rai _, _, h => by cases h
theorem nb_mba {b : Bool} {e : Ex} (h : nb b e) : ∀ c ∈ mba e, isAtom c = true := by
  intro c hc
  cases e <;> simp only [mba, nb, List.mem_cons, List.not_mem_nil, or_false] at h hc
  · rcases hc with rfl | rfl
    · exact h.2.1
    · exact h.2.2
  · rw [hc]; exact h.2
  · rw [hc]; exact h.1
  · exact h c hc
  · rcases hc with rfl | hc
    · exact h.1
    · exact h.2 c hc
def nrows (l : Bool) : Nat → List Ex → List (Ex × Bool)
  | _, [] => []
  | i, c :: cs => (c, l && decide (i = 0)) :: nrows l (i + 1) cs
theorem nrows_atoms {l : Bool} : ∀ {i : Nat} {cs : List Ex} {q : Ex × Bool}, (∀ c ∈ cs, isAtom c = true) → q ∈ nrows l i cs → nb q.2 q.1
  | i, c :: cs, q, h, hq => by
    rw [nrows] at hq
    rcases List.mem_cons.mp hq with e | hq
    · rw [e]; exact nb_atom (h c (List.mem_cons_self ..))
    · exact nrows_atoms (fun c hc => h c (List.mem_cons_of_mem _ hc)) hq
  | _, [], _, _, hq => by cases hq
theorem nb_rows {b : Bool} {e : Ex} (h : nb b e) : ∀ q ∈ nrows (isLt e) 0 (parts e), nb q.2 q.1 := by
  intro q hq
  cases e with
  | op d x y => rw [nb] at h; exact nrows_atoms (fun c hc => by
      simp only [parts, List.mem_cons, List.not_mem_nil, or_false] at hc
      rcases hc with rfl | rfl
      · exact h.2.1
      · exact h.2.2) hq
  | say x => rw [nb] at h; exact nrows_atoms (fun c hc => by
      simp only [parts, List.mem_cons, List.not_mem_nil, or_false] at hc
      rw [hc]; exact h.2) hq
  | call f as => rw [nb] at h; exact nrows_atoms h hq
  | ask a as => rw [nb] at h; exact nrows_atoms (fun c hc => by
      simp only [parts, List.mem_cons] at hc
      rcases hc with rfl | hc
      · exact h.1
      · exact h.2 c hc) hq
  | lt x a c =>
    rw [nb] at h
    simp only [parts, nrows, isLt, List.mem_cons, List.not_mem_nil, or_false] at hq
    rcases hq with rfl | rfl
    · exact h.1
    · exact h.2
  | iff a c d =>
    rw [nb] at h
    simp only [parts, nrows, isLt, List.mem_cons, List.not_mem_nil, or_false] at hq
    rcases hq with rfl | rfl | rfl
    · exact nb_atom h.1
    · exact h.2.1
    · exact h.2.2
  | tr a w c =>
    rw [nb] at h
    simp only [parts, nrows, isLt, List.mem_cons, List.not_mem_nil, or_false] at hq
    rcases hq with rfl | rfl
    · exact h.1
    · exact h.2
  | num n => cases hq
  | name n => cases hq
  | fn n => cases hq
  | rai n => cases hq
theorem nrows_mem {l : Bool} : ∀ {i : Nat} {cs : List Ex} {q : Ex × Bool}, q ∈ nrows l i cs → q.1 ∈ cs
  | i, c :: cs, q, hq => by
    rw [nrows] at hq
    rcases List.mem_cons.mp hq with e | hq
    · rw [e]; exact List.mem_cons_self ..
    · exact List.mem_cons_of_mem _ (nrows_mem hq)
  | _, [], _, hq => by cases hq
theorem nrows_len {l : Bool} : ∀ {i : Nat} {cs : List Ex}, (nrows l i cs).length = cs.length
  | _, [] => rfl
  | i, c :: cs => by rw [nrows, List.length_cons, nrows_len, List.length_cons]
theorem nrows_sz {l : Bool} : ∀ {i : Nat} {cs : List Ex}, ((nrows l i cs).map fun q => sz q.1).sum = (cs.map sz).sum
  | _, [] => rfl
  | i, c :: cs => by rw [nrows, List.map_cons, List.sum_cons, nrows_sz, List.map_cons, List.sum_cons]
def nbP (q : Ex × Bool) : PV := .tup [enc q.1, .bl q.2]
def nbY (l : Bool) : PV → PV
  | .tup [.int i, p] => .tup [p, .bl (l && decide (i = 0))]
  | p => p
theorem nbY_rows {l : Bool} : ∀ (i : Nat) (cs : List Ex), (enumP i (cs.map enc)).map (nbY l) = (nrows l i cs).map nbP
  | _, [] => rfl
  | i, c :: cs => by
    rw [List.map_cons, enumP, List.map_cons, nbY_rows (i + 1) cs, nrows, List.map_cons]
    congr 1
    show PV.tup [enc c, .bl (l && decide (((i : Nat) : Int) = 0))] = .tup [enc c, .bl (l && decide (i = 0))]
    have : decide (((i : Nat) : Int) = 0) = decide (i = 0) := decide_eq_decide.mpr (by omega)
    rw [this]
/-- what is_normal_body asks of a part -/
def atomP : PV → Bool
  | .tup (.str w :: _) => memP (.str w) [(.str "num"), (.str "name"), (.str "fn")]
  | _ => false
theorem atomP_enc (e : Ex) : atomP (enc e) = isAtom e := by
  cases e <;> (rw [enc]; kernel_rfl)
section
variable {k : Nat} {wr : Nat → Bool} {h : PH}
theorem atom_at {e : Ex} {e0 e1 e2 e3 e4 : Option PV} {h : PH} : eOp (fInT tab) (eOp (fIxT tab) (eVar 5) (eCst (.int 0))) (eGlo tab "ATOMS") [e0, e1, e2, e3, e4, some (enc e)] h = some (.bl (atomP (enc e)), h) := by
  cases e <;> (rw [enc]; kernel_rfl)
theorem s_mba {e : Ex} (he : okE e) : evC bod tab (k + 2) wr ("must_be_atoms", none) [enc e] h = some (.loc h.length, h ++ [.lst ((mba e).map enc)]) := by
  rw [ev_must_be_atoms]
  have hpl : ∀ c ∈ mba e, okE c := by
    intro c hc
    cases e <;> simp only [mba, okE, List.mem_cons, List.not_mem_nil, or_false] at he hc
    · rcases hc with rfl | rfl
      · exact he.2.1
      · exact he.2.2
    · rw [hc]; exact he
    · rw [hc]; exact he.1
    · exact okEs_mem he.2.2 c hc
    · rcases hc with rfl | hc
      · exact he.1
      · exact okEs_mem he.2.2 c hc
  have A : (parts e = mba e) → (∀ h, eOp (fInT tab) (eOp (fIxT tab) (eVar 0) (eCst (.int 0))) (eTup (aCons (eCst (.str "do")) (aCons (eCst (.str "say")) (aCons (eCst (.str "call")) (aCons (eCst (.str "ask")) aNil))))) [some (enc e)] h = some (.bl true, h)) →
      ∃ env, b_must_be_atoms (evC bod tab (k + 1)) (freshW h) [some (enc e)] h = some (.ret (.loc h.length), env, h ++ [.lst ((mba e).map enc)]) := fun hp hc => by
    refine ⟨[some (enc e)], l_seqR ((l_if (hc h)).trans ?_)⟩
    rw [if_pos rfl]
    refine l_seqR (l_ret ?_)
    rw [l_fn (h1 := h) (ps := [enc e]) rfl, ct_parts_of, s_partsE he, hp]
  have key : ∃ env, b_must_be_atoms (evC bod tab (k + 1)) (freshW h) [some (enc e)] h = some (.ret (.loc h.length), env, h ++ [.lst ((mba e).map enc)]) := by
    cases e with
    | op d a b => exact A rfl fun h => by rw [enc]; kernel_rfl
    | say a => exact A rfl fun h => by rw [enc]; kernel_rfl
    | call f as => exact A rfl fun h => by rw [enc]; kernel_rfl
    | ask a as => exact A rfl fun h => by rw [enc]; kernel_rfl
    | iff a b c => exact ⟨[some (enc (.iff a b c))], by simp only [mba, List.map_cons, List.map_nil]; rw [enc]; kernel_rfl⟩
    | num n => exact ⟨[some (enc (.num n))], by simp only [mba, List.map_nil]; rw [enc]; kernel_rfl⟩
    | name n => exact ⟨[some (enc (.name n))], by simp only [mba, List.map_nil]; rw [enc]; kernel_rfl⟩
    | fn n => exact ⟨[some (enc (.fn n))], by simp only [mba, List.map_nil]; rw [enc]; kernel_rfl⟩
    | rai n => exact ⟨[some (enc (.rai n))], by simp only [mba, List.map_nil]; rw [enc]; kernel_rfl⟩
    | lt x a b => exact ⟨[some (enc (.lt x a b))], by simp only [mba, List.map_nil]; rw [enc]; kernel_rfl⟩
    | tr a w b => exact ⟨[some (enc (.tr a w b))], by simp only [mba, List.map_nil]; rw [enc]; kernel_rfl⟩
  obtain ⟨env, e1⟩ := key
  rw [e1, fin_ret]
  exact trunc_lst (Nat.le_refl _) at_end (plains_map hpl)
def nbC : EF := eOp fNe (eVar 1) (eLst aNil)
def nbB (call : CallF) (wr : Nat → Bool) : SF := (sSeq (sAsg (eMeth "list" (mPop wr) (eVar 1) aNil) (gTp 2 (gsCons (gNm 2) (gsCons (gNm 3) gsNil))))
      (sSeq (sIf (eAnd (eOp (fInT tab) (eOp (fIxT tab) (eVar 2) (eCst (.int 0))) (eTup (aCons (eCst (.str "do")) (aCons (eCst (.str "say")) aNil)))) (eNot (eVar 3))) (sSeq (sRet (eCst (.bl false)))
        sNext) sNext)
      (sSeq (sIf (eNot (eCall gAll (aCons (eLc wr [5] (iOf (eFn tab call wr "must_be_atoms" (aCons (eVar 2) aNil))) (gNm 5) (fun wr => tfY) (fun wr => (eOp (fInT tab) (eOp (fIxT tab) (eVar 5) (eCst (.int 0))) (eGlo tab "ATOMS")))) aNil))) (sSeq (sRet (eCst (.bl false)))
        sNext) sNext)
      (sSeq (sDrop (eMeth "list" (mExtend wr) (eVar 1) (aCons (eLc wr [4, 5] (iEnumF (eFn tab call wr "parts_of" (aCons (eVar 2) aNil))) (gTp 2 (gsCons (gNm 4) (gsCons (gNm 5) gsNil))) (fun wr => tfY) (fun wr => (eTup (aCons (eVar 5) (aCons (eAnd (eOp fEq (eOp (fIxT tab) (eVar 2) (eCst (.int 0))) (eCst (.str "let"))) (eOp fEq (eVar 4) (eCst (.int 0)))) aNil))))) aNil)))
      sNext))))
theorem isDS_at {e : Ex} {e0 e1 e3 e4 e5 : Option PV} {h : PH} : eOp (fInT tab) (eOp (fIxT tab) (eVar 2) (eCst (.int 0))) (eTup (aCons (eCst (.str "do")) (aCons (eCst (.str "say")) aNil))) [e0, e1, some (enc e), e3, e4, e5] h = some (.bl (isDS e), h) := by
  cases e <;> (rw [enc]; kernel_rfl)
theorem isLt_at {e : Ex} {e0 e1 e3 e4 e5 : Option PV} {h : PH} : eOp fEq (eOp (fIxT tab) (eVar 2) (eCst (.int 0))) (eCst (.str "let")) [e0, e1, some (enc e), e3, e4, e5] h = some (.bl (isLt e), h) := by
  cases e <;> (rw [enc]; kernel_rfl)
theorem mba_few {e : Ex} (he : okE e) : (mba e).length ≤ 7 := by
  cases e <;> simp only [mba, List.length_cons, List.length_nil, okE] at he ⊢ <;> omega
theorem nb_turn {w : Nat} {st : List (Ex × Bool)} {q : Ex × Bool} {e0 e2 e3 e4 e5 : Option PV} (hn : h[w]? = some (.lst ((st ++ [q]).map nbP))) (hw : ∀ j, w ≤ j → wr j = true) (he : okE q.1) (hb : nb q.2 q.1) (hst : st.length ≤ 300) :
    ∃ h', nbB (evC bod tab (k + 2)) wr [e0, some (.loc w), e2, e3, e4, e5] h = some (.nx, [e0, some (.loc w), some (enc q.1), some (.bl q.2), e4, e5], h') ∧ h'[w]? = some (.lst ((st ++ nrows (isLt q.1) 0 (parts q.1)).map nbP)) := by
  have hlt : w < h.length := (List.getElem?_eq_some_iff.mp hn).1
  have hp7 := parts_few he
  have hm7 := mba_few he
  have big : (1001 : Nat) ≤ lineN := by decide
  have s1 : sAsg (eMeth "list" (mPop wr) (eVar 1) aNil) (gTp 2 (gsCons (gNm 2) (gsCons (gNm 3) gsNil))) [e0, some (.loc w), e2, e3, e4, e5] h = some (.nx, [e0, some (.loc w), some (enc q.1), some (.bl q.2), e4, e5], h.set w (.lst (st.map nbP))) := by
    refine l_asg (x := nbP q) ?_ rfl
    rw [List.map_append] at hn
    rw [l_meth (h1 := h) (h2 := h) (x := .loc w) (ps := []) rfl (tyP_lst hn) rfl, pop_at hn (hw w (Nat.le_refl _))]
  have h2n : (h.set w (.lst (st.map nbP)))[w]? = some (.lst (st.map nbP)) := List.getElem?_set_self hlt
  generalize hh2 : h.set w (.lst (st.map nbP)) = h2 at h2n s1
  have hlt2 : w < h2.length := (List.getElem?_eq_some_iff.mp h2n).1
  obtain ⟨h3, e3'⟩ : ∃ z, z = h2 ++ [PO.lst ((mba q.1).map enc)] := ⟨_, rfl⟩
  have w3 : h3[w]? = some (.lst (st.map nbP)) := e3' ▸ at_ext h2n
  have l3 : h3.length = h2.length + 1 := by rw [e3']; simp
  obtain ⟨h4, e4'⟩ : ∃ z, z = h3 ++ [PO.lst (((mba q.1).map enc).map fun x => .bl (atomP x))] := ⟨_, rfl⟩
  have w4 : h4[w]? = some (.lst (st.map nbP)) := e4' ▸ at_ext w3
  have a4 : h4[h3.length]? = some (PO.lst (((mba q.1).map enc).map fun x => .bl (atomP x))) := e4' ▸ at_end
  have l4 : h4.length = h3.length + 1 := by rw [e4']; simp
  obtain ⟨h5, e5'⟩ : ∃ z, z = h4 ++ [PO.lst ((parts q.1).map enc)] := ⟨_, rfl⟩
  have w5 : h5[w]? = some (.lst (st.map nbP)) := e5' ▸ at_ext w4
  have l5 : h5.length = h4.length + 1 := by rw [e5']; simp
  obtain ⟨h6, e6'⟩ : ∃ z, z = h5 ++ [PO.lst ((nrows (isLt q.1) 0 (parts q.1)).map nbP)] := ⟨_, rfl⟩
  have w6 : h6[w]? = some (.lst (st.map nbP)) := e6' ▸ at_ext w5
  have n6 : h6[h5.length]? = some (PO.lst ((nrows (isLt q.1) 0 (parts q.1)).map nbP)) := e6' ▸ at_end
  refine ⟨h6.set w (.lst (st.map nbP ++ (nrows (isLt q.1) 0 (parts q.1)).map nbP)), ?_, ?_⟩
  · unfold nbB
    refine (l_seq s1).trans ?_
    refine (l_seq (e1 := [e0, some (.loc w), some (enc q.1), some (.bl q.2), e4, e5]) (h1 := h2) ((l_if (b := false) (h1 := h2) ?_).trans rfl)).trans ?_
    · have i1 : eOp (fInT tab) (eOp (fIxT tab) (eVar 2) (eCst (.int 0))) (eTup (aCons (eCst (.str "do")) (aCons (eCst (.str "say")) aNil))) [e0, some (.loc w), some (enc q.1), some (.bl q.2), e4, e5] h2 = some (.bl (isDS q.1), h2) := isDS_at
      cases d : isDS q.1 with
      | false => rw [d] at i1; rw [l_and2 i1]
      | true =>
        rw [d] at i1
        rw [l_and1 i1, l_not (b := q.2) rfl]
        have : q.2 = true := by
          obtain ⟨e, b⟩ := q
          cases e <;> first | (cases d; done) | (simp only [nb] at hb; exact hb.1)
        rw [this]; rfl
    refine (l_seq (e1 := [e0, some (.loc w), some (enc q.1), some (.bl q.2), e4, e5]) (h1 := h4) ((l_if (b := false) (h1 := h4) (l_not (b := true) ?_)).trans rfl)).trans ?_
    · rw [l_call (ps := [.loc h3.length]) (h1 := h4) (l_a1 (h1 := h4) ?_ rfl), all_map (xs := (mba q.1).map enc) (f := atomP) a4]
      · congr 3
        rw [List.all_map, List.all_eq_true]
        intro c hc
        show atomP (enc c) = true
        rw [atomP_enc]
        exact nb_mba hb c hc
      · rw [e4']
        refine eLc_pure (fun x => .bl (atomP x)) (h1 := h3) (items := (mba q.1).map enc) (lk := [h2.length]) ?_ (lcOk_loc (by omega) (hw _ (by omega)) (by rw [List.length_map]; omega) rfl) fun x hx => ?_
        · unfold iOf
          rw [l_fn (h1 := h2) (ps := [enc q.1]) rfl, ct_must_be_atoms, s_mba he, bnd_some]
          simp only
          rw [at_end, ← e3']
        · obtain ⟨c, hc, rfl⟩ := List.mem_map.mp hx
          exact ⟨[e0, some (.loc w), some (enc q.1), some (.bl q.2), e4, some (enc c)], rfl, fun wr h => atom_at⟩
    refine (l_seq (e1 := [e0, some (.loc w), some (enc q.1), some (.bl q.2), e4, e5]) (h1 := h6.set w (.lst (st.map nbP ++ (nrows (isLt q.1) 0 (parts q.1)).map nbP))) (l_drop (x := .non) ?_)).trans rfl
    rw [l_meth (h1 := h4) (h2 := h6) (x := .loc w) (ps := [.loc h5.length]) rfl (tyP_lst w4) (l_a1 (h1 := h6) ?_ rfl)]
    · exact extend_loc w6 n6 (hw w (Nat.le_refl _)) (by rw [List.length_map, List.length_map, nrows_len]; omega)
    · rw [e6', ← nbY_rows]
      refine eLc_pure (nbY (isLt q.1)) (h1 := h5) (items := enumP 0 ((parts q.1).map enc)) (lk := [h4.length]) ?_ (lcOk_loc (by omega) (hw _ (by omega)) (by rw [enum_len2, List.length_map]; omega) rfl) fun x hx => ?_
      · unfold iEnumF
        rw [l_fn (h1 := h4) (ps := [enc q.1]) rfl, ct_parts_of, s_partsE he, bnd_some]
        simp only
        rw [at_end, ← e5']
      · obtain ⟨j, p, rfl⟩ := enum_mem hx
        refine ⟨[e0, some (.loc w), some (enc q.1), some (.bl q.2), some (.int j), some p], rfl, fun wr h => ?_⟩
        refine l_tup (l_a1 (h1 := h) rfl (l_a1 (h1 := h) (x := .bl (isLt q.1 && decide ((j : Int) = 0))) ?_ rfl)) (show 2 ≤ lineN by decide)
        have i1 : eOp fEq (eOp (fIxT tab) (eVar 2) (eCst (.int 0))) (eCst (.str "let")) [e0, some (.loc w), some (enc q.1), some (.bl q.2), some (.int j), some p] h = some (.bl (isLt q.1), h) := isLt_at
        cases d : isLt q.1 with
        | false => rw [d] at i1; rw [l_and2 i1]; rfl
        | true =>
          rw [d] at i1
          rw [l_and1 i1, l_op (h1 := h) (h2 := h) (x := .int j) (y := .int 0) rfl rfl, KP.eq_int, Bool.true_and]
  · rw [List.getElem?_set_self (List.getElem?_eq_some_iff.mp w6).1, List.map_append]
theorem poks_nb {st : List (Ex × Bool)} (h : ∀ q ∈ st, okE q.1) : poks (st.map nbP) = true := by
  induction st with
  | nil => rfl
  | cons q st ih =>
    have : pok (nbP q) = true := by
      unfold nbP
      rw [pok, poks, pok_enc _ (h q (List.mem_cons_self ..))]; rfl
    rw [List.map_cons, poks, this, ih fun x hx => h x (List.mem_cons_of_mem _ hx)]; rfl
theorem nb_cond {h : PH} {w : Nat} {st : List (Ex × Bool)} {e0 e2 e3 e4 e5 : Option PV} (hn : h[w]? = some (.lst (st.map nbP))) (hok : ∀ q ∈ st, okE q.1) : nbC [e0, some (.loc w), e2, e3, e4, e5] h = some (.bl (!st.isEmpty), h ++ [.lst []]) := by
  unfold nbC
  rw [l_op (h1 := h) (h2 := h ++ [.lst []]) (x := .loc w) (y := .loc h.length) rfl rfl, ne_nil (ws := st.map nbP) (at_ext hn) at_end (poks_nb hok)]
  cases st <;> rfl
theorem nb_loop {w : Nat} (hw : ∀ j, w ≤ j → wr j = true) {e0 : Option PV} : ∀ (S : Nat) (st : List (Ex × Bool)) (h : PH) (e2 e3 e4 e5 : Option PV), (st.map fun q => sz q.1).sum = S → h[w]? = some (.lst (st.map nbP)) → (∀ q ∈ st, okE q.1 ∧ nb q.2 q.1) → S ≤ 300 →
    ∃ env' h', whileF nbC (nbB (evC bod tab (k + 2)) wr) (S + 1) [e0, some (.loc w), e2, e3, e4, e5] h = some (.nx, env', h')
  | 0, st, h, e2, e3, e4, e5, hS, hn, hq, hm => by
    have : st = [] := by
      cases st with
      | nil => rfl
      | cons q st => simp only [List.map_cons, List.sum_cons] at hS; have := sz_pos q.1; omega
    subst this
    exact ⟨_, _, while_end (nb_cond hn (fun q hq => by cases hq))⟩
  | S + 1, st, h, e2, e3, e4, e5, hS, hn, hq, hm => by
    rcases List.eq_nil_or_concat st with rfl | ⟨st', q, rfl⟩
    · simp at hS
    · rw [List.concat_eq_append] at hS hn hq
      have hc := nb_cond (e0 := e0) (e2 := e2) (e3 := e3) (e4 := e4) (e5 := e5) hn (fun q h => (hq q h).1)
      rw [show (!(st' ++ [q]).isEmpty) = true from by simp] at hc
      have hl := hq q (by simp)
      have hsum : (st'.map fun q => sz q.1).sum + sz q.1 = S + 1 := by simpa using hS
      have hz := sz_parts q.1
      have hlen : ∀ l : List (Ex × Bool), l.length ≤ (l.map fun q => sz q.1).sum := by
        intro l
        induction l with
        | nil => simp
        | cons q l ih => simp only [List.length_cons, List.map_cons, List.sum_cons]; have := sz_pos q.1; omega
      obtain ⟨h', ht, hn'⟩ := nb_turn (k := k) (wr := wr) (h := h ++ [PO.lst []]) (w := w) (st := st') (q := q) (e0 := e0) (e2 := e2) (e3 := e3) (e4 := e4) (e5 := e5) (at_ext hn) hw hl.1 hl.2 (by have := hlen st'; omega)
      obtain ⟨env', h2, e6⟩ := nb_loop hw (e0 := e0) S (st' ++ nrows (isLt q.1) 0 (parts q.1)) h' (some (enc q.1)) (some (.bl q.2)) e4 e5 (by
        rw [List.map_append, List.sum_append, nrows_sz]
        omega) hn' (fun r hr => by
          rcases List.mem_append.mp hr with hr | hr
          · exact hq r (List.mem_append_left _ hr)
          · exact ⟨okE_parts hl.1 _ (nrows_mem hr), nb_rows hl.2 r hr⟩) (by omega)
      exact ⟨env', h2, (while_nx hc ht).trans e6⟩
theorem s_normal {e : Ex} (he : okE e) (hz : sz e ≤ 300) (hb : nb false e) : evC bod tab (k + 3) wr ("is_normal_body", none) [enc e] h = some (.bl true, h) := by
  rw [ev_is_normal_body]
  obtain ⟨env', h', el⟩ := nb_loop (k := k) (wr := freshW h) (w := h.length) (fun j hj => fresh_ge hj) (e0 := some (enc e)) (sz e) [(e, false)] (h ++ [PO.lst [nbP (e, false)]]) none none none none (by simp) at_end (fun q hq => by
    obtain rfl := List.mem_singleton.mp hq
    exact ⟨he, hb⟩) (by omega)
  have e1 : b_is_normal_body (evC bod tab (k + 2)) (freshW h) [some (enc e), none, none, none, none, none] h = some (.ret (.bl true), env', h') := by
    refine (l_seq (e1 := [some (enc e), some (.loc h.length), none, none, none, none]) (h1 := h ++ [PO.lst [nbP (e, false)]]) rfl).trans ?_
    refine (l_seq (e1 := env') (h1 := h') ?_).trans rfl
    exact while_mono el (by unfold fuelN; omega)
  rw [e1]; rfl
end
end KW
set_option Elab.async false
set_option linter.all false
set_option maxRecDepth 100000
set_option maxHeartbeats 800000
namespace KW
open PySem PySem.Spec PyProof.Rows L2 KP
/-! whole normal programs -/
structure Fun where
  nm : Str
  ps : List Str
  bd : Ex
def Fun.pv (f : Fun) : PV := .tup [.tup (f.ps.map PV.str), enc f.bd]
def Fun.kv (f : Fun) : Key × PV := (.inr f.nm, f.pv)
def kvF (fs : List Fun) : List (Key × PV) := fs.map Fun.kv
structure FunOk (f : Fun) : Prop where
  nm : okName f.nm = true
  ps : ∀ x ∈ f.ps, okName x = true
  pl : f.ps.length ≤ 6
  bd : okE f.bd
  sz : sz f.bd ≤ 300
  dp : dp f.bd ≤ 60
  nb : nb false f.bd
/-- all of it whole and normal -/
structure PrgOk (fs : List Fun) : Prop where
  ok : ∀ f ∈ fs, FunOk f
  sc : ∀ f ∈ fs, scd (kvF fs) (f.ps.map PV.str) f.bd
  nd : (fs.map Fun.nm).Nodup
  few : fs.length ≤ 20
theorem plain_fun (f : Fun) : plain f.pv = true := by
  unfold Fun.pv
  have : ∀ l : List Str, plains (l.map PV.str) = true := by
    intro l
    induction l with
    | nil => rfl
    | cons x l ih => rw [List.map_cons, plains, ih]; rfl
  rw [plain_tup, plains, plains, plain_tup, this, plain_enc]; rfl
theorem flat_strs : ∀ l : List Str, flatPs (l.map PV.str) = true
  | [] => rfl
  | x :: l => by rw [List.map_cons, flatPs, flat_strs l]; rfl
theorem poks_strs : ∀ {l : List Str}, (∀ x ∈ l, okName x = true) → poks (l.map PV.str) = true
  | [], _ => rfl
  | x :: l, h => by rw [List.map_cons, poks, name_pok (h x (List.mem_cons_self ..)), poks_strs fun y hy => h y (List.mem_cons_of_mem _ hy)]; rfl
theorem kEq_inr {a b : Str} : kEq (.inr a) (.inr b) = sEq a b := rfl
theorem getK_cons {α : Type} {k k' : Key} {v : α} {r : List (Key × α)} : getK k ((k', v) :: r) = if kEq k' k then some v else getK k r := rfl
theorem get_fun : ∀ {fs : List Fun} {f : Fun}, f ∈ fs → (fs.map Fun.nm).Nodup → getK (.inr f.nm) (kvF fs) = some f.pv
  | g :: fs, f, hf, hn => by
    rw [show kvF (g :: fs) = (.inr g.nm, g.pv) :: kvF fs from rfl, getK_cons]
    rw [List.map_cons, List.nodup_cons] at hn
    rcases List.mem_cons.mp hf with e | hf
    · subst e
      rw [kEq_inr, (sEq_iff).mpr rfl]; rfl
    · have : kEq (.inr g.nm) (.inr f.nm) = false := by
        rw [kEq_inr]
        cases q : sEq g.nm f.nm with
        | false => rfl
        | true => exact absurd (List.mem_map.mpr ⟨f, hf, ((sEq_iff).mp q).symm⟩) hn.1
      rw [this, if_neg Bool.false_ne_true]
      exact get_fun hf hn.2
  | [], f, hf, _ => by cases hf
theorem Prg.to {h h' : PH} {n m : Nat} {kvs : List (Key × PV)} (P : Prg h n m kvs) (e : Ext h h') : Prg h' n m kvs := ⟨e _ _ P.ins, e _ _ P.dic⟩
section
variable {k : Nat} {wr : Nat → Bool} {h : PH} {n m : Nat} {fs : List Fun}
def fwB (call : CallF) (wr : Nat → Bool) : SF := (sSeq (sAsg (eOwn tab call wr "wrong_in" (eVar 0) (aCons (eVar 3) (aCons (eVar 2) aNil))) (gNm 4))
      (sSeq (sIf (eOp fIsNot (eVar 4) (eCst .non)) (sSeq (sRet (eTup (aCons (eVar 1) (aCons (eOp (fIxT tab) (eVar 4) (eCst (.int 0))) (aCons (eOp (fIxT tab) (eVar 4) (eCst (.int 1))) aNil)))))
        sNext) sNext)
      sNext))
abbrev gFw : GF := gTp 2 (gsCons (gNm 1) (gsCons (gTp 2 (gsCons (gNm 2) (gsCons (gNm 3) gsNil))) gsNil))
theorem fw_loop (P : Prg h n m (kvF fs)) : ∀ (gs : List Fun) (e1 e2 e3 e4 : Option PV), (∀ f ∈ gs, FunOk f ∧ scd (kvF fs) (f.ps.map PV.str) f.bd) →
    ∃ env', loopF (turnF gFw (fwB (evC bod tab (k + 3)) wr)) (gs.map fun f => mI f.kv) [some (.loc n), e1, e2, e3, e4] h = some (.nx, env', h)
  | [], e1, e2, e3, e4, _ => ⟨_, rfl⟩
  | f :: gs, e1, e2, e3, e4, hg => by
    obtain ⟨o, sc⟩ := hg f (List.mem_cons_self ..)
    obtain ⟨env', e⟩ := fw_loop P gs (some (.str f.nm)) (some (.tup (f.ps.map PV.str))) (some (enc f.bd)) (some .non) fun g hg' => hg g (List.mem_cons_of_mem _ hg')
    refine ⟨env', (loop_nx (e1 := [some (.loc n), some (.str f.nm), some (.tup (f.ps.map PV.str)), some (enc f.bd), some .non]) (h1 := h) ?_).trans e⟩
    show fwB (evC bod tab (k + 3)) wr [some (.loc n), some (.str f.nm), some (.tup (f.ps.map PV.str)), some (enc f.bd), e4] h = _
    unfold fwB
    refine (l_seq (e1 := [some (.loc n), some (.str f.nm), some (.tup (f.ps.map PV.str)), some (enc f.bd), some .non]) (h1 := h) (l_asg (x := .non) (h1 := h) ?_ rfl)).trans rfl
    rw [own_at (ps := [enc f.bd, .tup (f.ps.map PV.str)]) P rfl meth_Program_wrong_in (by kernel_rfl) rfl, ct_Program_wrong_in, s_wrong_in P o.bd o.sz o.dp sc (flat_strs _) (poks_strs o.ps) (by rw [List.length_map]; exact o.pl)]
theorem s_first (P : Prg h n m (kvF fs)) (ok : PrgOk fs) : evC bod tab (k + 4) wr ("Program", some "first_wrong") [.loc n] h = some (.non, h) := by
  rw [ev_Program_first_wrong]
  obtain ⟨env', e⟩ := fw_loop (k := k) (wr := lockW (freshW h) [m]) P fs none none none none fun f hf => ⟨ok.ok f hf, ok.sc f hf⟩
  have e1 : b_Program_first_wrong (evC bod tab (k + 3)) (freshW h) [some (.loc n), none, none, none, none] h = some (.ret .non, env', h) := by
    refine (l_seq (e1 := env') (h1 := h) ?_).trans rfl
    refine (sForD_at (n := m) (kvs := kvF fs) (fun wr => P.fld rfl) P.dic).trans ?_
    rw [show (kvF fs).map mI = fs.map fun f => mI f.kv from by unfold kvF; rw [List.map_map]; rfl]
    exact e
  rw [e1]; rfl
theorem s_needw (P : Prg h n m (kvF fs)) (ok : PrgOk fs) : evC bod tab (k + 5) wr ("need_whole", none) [.loc n] h = some (.non, h) := by
  rw [ev_need_whole]
  have e1 : b_need_whole (evC bod tab (k + 4)) (freshW h) [some (.loc n), none, none, none, none] h = some (.nx, [some (.loc n), some .non, none, none, none], h) := by
    refine (l_seq (l_drop (x := .non) (h1 := h) ?_)).trans ?_
    · rw [l_fn (h1 := h) (ps := [.loc n]) rfl, ct_need_program, s_needp P]
    refine (l_seq (e1 := [some (.loc n), some .non, none, none, none]) (h1 := h) (l_asg (x := .non) (h1 := h) ?_ rfl)).trans rfl
    rw [own_at (ps := []) P rfl meth_Program_first_wrong (by kernel_rfl) rfl, ct_Program_first_wrong, s_first P ok]
  rw [e1]; rfl
theorem s_needn (P : Prg h n m (kvF fs)) (ok : PrgOk fs) : evC bod tab (k + 6) wr ("need_normal", none) [.loc n] h = some (.non, h) := by
  rw [ev_need_normal]
  have big : (1001 : Nat) ≤ lineN := by decide
  have hf := ok.few
  obtain ⟨h1, e1'⟩ : ∃ z, z = h ++ [PO.lst ((kvF fs).map fun kv => keyP kv.1)] := ⟨_, rfl⟩
  have P1 : Prg h1 n m (kvF fs) := e1' ▸ P.ext _
  have e1 : ∃ h', b_need_normal (evC bod tab (k + 5)) (freshW h) [some (.loc n), none] h = some (.nx, [some (.loc n), none], h') := by
    refine ⟨h1 ++ [.lst (((kvF fs).map fun kv => keyP kv.1).map fun x => .bl ((fun _ => true) x))], ?_⟩
    refine (l_seq (l_drop (x := .non) (h1 := h) ?_)).trans ?_
    · rw [l_fn (h1 := h) (ps := [.loc n]) rfl, ct_need_whole, s_needw P ok]
    refine (l_seq (e1 := [some (.loc n), none]) (h1 := h1 ++ [.lst (((kvF fs).map fun kv => keyP kv.1).map fun x => .bl ((fun _ => true) x))]) ((l_if (b := false) (l_not (b := true) ?_)).trans rfl)).trans rfl
    rw [l_call (ps := [.loc h1.length]) (h1 := h1 ++ [.lst (((kvF fs).map fun kv => keyP kv.1).map fun x => .bl ((fun _ => true) x))]) (l_a1 ?_ rfl), all_map (xs := (kvF fs).map fun kv => keyP kv.1) (f := fun _ => true) at_end]
    · congr 3
      exact List.all_eq_true.mpr fun _ _ => rfl
    · refine eLc_ext (own := [1]) (g := gNm 1) (fun x => .bl ((fun _ => true) x)) (h1 := h1) (items := (kvF fs).map fun kv => keyP kv.1) (lk := [h.length]) ?_ (lcOk_loc (by rw [e1']; simp) (fresh_ge (h := h) (by rw [e1']; simp)) (by rw [List.length_map]; unfold kvF; rw [List.length_map]; omega) (by rfl)) fun x hx => ?_
      · unfold iOf
        rw [own_at (ps := []) P rfl meth_Program_names (by kernel_rfl) rfl, ct_Program_names, s_names P, bnd_some]
        simp only
        rw [at_end, ← e1']
      · obtain ⟨q, hq, rfl⟩ := List.mem_map.mp hx
        obtain ⟨f, hf', rfl⟩ := List.mem_map.mp hq
        refine ⟨[some (.loc n), some (.str f.nm)], rfl, fun wr2 h2 hx2 => ?_⟩
        have o := ok.ok f hf'
        have P2 : Prg h2 n m (kvF fs) := P1.to hx2
        rw [l_fn (h1 := h2) (ps := [enc f.bd]) (l_a1 (h1 := h2) ?_ rfl), ct_is_normal_body, s_normal o.bd o.sz o.nb]
        rw [own_at (ps := [.str f.nm]) P2 rfl meth_Program_body_of (by kernel_rfl) rfl, ct_Program_body_of, s_body P2 o.nm (get_fun hf' ok.nd) (plain_fun f)]
  obtain ⟨h', e1⟩ := e1
  rw [e1]; rfl
end
end KW
set_option Elab.async false
set_option linter.all false
set_option maxRecDepth 100000
set_option maxHeartbeats 800000
namespace KW
open PySem PySem.Spec PyProof.Rows L2 KP
/-! rested, written -/
theorem nb_nrm : ∀ {e : Ex}, nb false e → nrm e
  | .op _ _ _, h => by rw [nb] at h; exact absurd h.1 Bool.false_ne_true
  | .say _, h => by rw [nb] at h; exact absurd h.1 Bool.false_ne_true
  | .lt x a b, h => by
    rw [nb] at h
    rw [nrm]
    refine ⟨?_, nb_nrm h.2⟩
    by_cases d : isDS a = true
    · exact .inl d
    · refine .inr (nb_nrm (e := a) ?_)
      have h1 := h.1
      cases a <;> first | exact absurd rfl d | (simp only [nb] at h1 ⊢; done) | (simp only [nb] at h1 ⊢; first | exact h1 | trivial)
  | .iff a b c, h => by rw [nb] at h; rw [nrm]; exact ⟨nb_nrm h.2.1, nb_nrm h.2.2⟩
  | .tr a w b, h => by rw [nb] at h; rw [nrm]; exact ⟨nb_nrm h.1, nb_nrm h.2⟩
  | .num _, _ => by simp [nrm]
  | .name _, _ => by simp [nrm]
  | .fn _, _ => by simp [nrm]
  | .call _ _, _ => by simp [nrm]
  | .ask _ _, _ => by simp [nrm]
  | .rai _, _ => by simp [nrm]
def Fun.rst (f : Fun) : PV := .tup [.str f.nm, .tup (f.ps.map PV.str), rest f.bd]
/-- what rested tells of a name -/
def rstY (fs : List Fun) : PV → PV
  | .str z => match fs.find? (fun f => sEq f.nm z) with
    | some f => f.rst
    | none => .non
  | _ => .non
theorem rstY_at {fs : List Fun} {f : Fun} (hf : f ∈ fs) (nd : (fs.map Fun.nm).Nodup) : rstY fs (.str f.nm) = f.rst := by
  have : fs.find? (fun g => sEq g.nm f.nm) = some f := by
    induction fs with
    | nil => cases hf
    | cons g fs ih =>
      rw [List.map_cons, List.nodup_cons] at nd
      rw [List.find?_cons]
      rcases List.mem_cons.mp hf with e | hf
      · subst e
        rw [sEq_self]
      · have : sEq g.nm f.nm = false := by
          cases q : sEq g.nm f.nm with
          | false => rfl
          | true => exact absurd (List.mem_map.mpr ⟨f, hf, ((sEq_iff).mp q).symm⟩) nd.1
        rw [this]
        exact ih hf nd.2
  unfold rstY
  simp only
  rw [this]
theorem rstY_map {fs : List Fun} (nd : (fs.map Fun.nm).Nodup) : ((kvF fs).map fun kv => keyP kv.1).map (rstY fs) = fs.map Fun.rst := by
  unfold kvF
  rw [List.map_map, List.map_map]
  refine List.map_congr_left fun f hf => ?_
  exact rstY_at hf nd
section
variable {k : Nat} {wr : Nat → Bool} {h : PH} {n m : Nat} {fs : List Fun}
theorem plains_rst (fs : List Fun) : plains (fs.map Fun.rst) = true := by
  have hs : ∀ l : List Str, plains (l.map PV.str) = true := by
    intro l
    induction l with
    | nil => rfl
    | cons x l ih => rw [List.map_cons, plains, ih]; rfl
  induction fs with
  | nil => rfl
  | cons f fs ih =>
    rw [List.map_cons, plains, ih]
    have : plain f.rst = true := by
      unfold Fun.rst
      rw [plain_tup, plains, plains, plains, plain_tup, hs, plain_rest]; rfl
    rw [this]; rfl
theorem s_rested {K : Nat} (P : Prg h n m (kvF fs)) (ok : PrgOk fs) (hK : 130 ≤ K) : evC bod tab K wr ("rested", none) [.loc n] h = some (.tup (fs.map Fun.rst), h) := by
  obtain ⟨K, rfl⟩ : ∃ j, K = j + 7 := ⟨K - 7, by omega⟩
  rw [ev_rested]
  have big : (1001 : Nat) ≤ lineN := by decide
  have hf := ok.few
  obtain ⟨h1, e1'⟩ : ∃ z, z = h ++ [PO.lst ((kvF fs).map fun kv => keyP kv.1)] := ⟨_, rfl⟩
  have P1 : Prg h1 n m (kvF fs) := e1' ▸ P.ext _
  have e1 : b_rested (evC bod tab (K + 6)) (freshW h) [some (.loc n), none] h = some (.ret (.tup (fs.map Fun.rst)), [some (.loc n), none], h1 ++ [.lst (fs.map Fun.rst)]) := by
    refine (l_seq (l_drop (x := .non) (h1 := h) ?_)).trans (l_seqR (l_ret ?_))
    · rw [l_fn (h1 := h) (ps := [.loc n]) rfl, ct_need_normal, s_needn P ok]
    rw [l_call (ps := [.loc h1.length]) (h1 := h1 ++ [.lst (fs.map Fun.rst)]) (l_a1 ?_ rfl)]
    · unfold gTuple itemsOf
      simp only
      rw [at_end]
      rfl
    · rw [← rstY_map ok.nd]
      refine eLc_ext (own := [1]) (g := gNm 1) (rstY fs) (h1 := h1) (items := (kvF fs).map fun kv => keyP kv.1) (lk := [h.length]) ?_ (lcOk_loc (by rw [e1']; simp) (fresh_ge (h := h) (by rw [e1']; simp)) (by rw [List.length_map]; unfold kvF; rw [List.length_map]; omega) (by rfl)) fun x hx => ?_
      · unfold iOf
        rw [own_at (ps := []) P rfl meth_Program_names (by kernel_rfl) rfl, ct_Program_names, s_names P, bnd_some]
        simp only
        rw [at_end, ← e1']
      · obtain ⟨q, hq, rfl⟩ := List.mem_map.mp hx
        obtain ⟨f, hf', rfl⟩ := List.mem_map.mp hq
        refine ⟨[some (.loc n), some (.str f.nm)], rfl, fun wr2 h2 hx2 => ?_⟩
        have o := ok.ok f hf'
        have P2 : Prg h2 n m (kvF fs) := P1.to hx2
        rw [show keyP f.kv.1 = .str f.nm from rfl, rstY_at hf' ok.nd]
        refine l_tup (l_a1 (h1 := h2) rfl (l_a1 (h1 := h2) (x := .tup (f.ps.map PV.str)) ?_ (l_a1 (h1 := h2) (x := rest f.bd) ?_ rfl))) (show 3 ≤ lineN by decide)
        · rw [own_at (ps := [.str f.nm]) P2 rfl meth_Program_params_of (by kernel_rfl) rfl, ct_Program_params_of, s_prms P2 o.nm (get_fun hf' ok.nd) (plain_fun f)]
        · rw [l_fn (h1 := h2) (ps := [enc f.bd]) (l_a1 (h1 := h2) ?_ rfl), ct_body_in_rests, rest_ok f.bd (nb_nrm o.nb) _ wr2 h2 (by have := o.dp; omega)]
          rw [own_at (ps := [.str f.nm]) P2 rfl meth_Program_body_of (by kernel_rfl) rfl, ct_Program_body_of, s_body P2 o.nm (get_fun hf' ok.nd) (plain_fun f)]
  rw [e1, fin_ret]
  exact trunc_pl (by rw [plain_tup]; exact plains_rst fs)
/-! written -/
def Fun.txt (f : Fun) : Str := ⟨⟨joinL (" " : Str).cps.toList (f.nm :: f.ps)⟩⟩ ++ (" = " : Str) ++ ttext f.bd
theorem sumLen_names : ∀ {l : List Str}, (∀ x ∈ l, okName x = true) → sumLen l ≤ 8 * l.length
  | [], _ => Nat.zero_le _
  | x :: l, h => by
    rw [sumLen, List.length_cons]
    have h1 := name_len (h x (List.mem_cons_self ..))
    have h2 := sumLen_names fun y hy => h y (List.mem_cons_of_mem _ hy)
    omega
theorem str_app_len (a b : Str) : (a ++ b).length = a.length + b.length := by
  show (a.cps ++ b.cps).size = _
  rw [Array.size_append]; rfl
theorem add_str {a b : Str} {h : PH} (hl : a.length + b.length ≤ lineN) : fAdd (.str a) (.str b) h = some (.str (a ++ b), h) := by
  show (if _ then _ else _) = _
  rw [if_pos hl]
theorem txt_len {f : Fun} (o : FunOk f) : f.txt.length ≤ 12100 := by
  unfold Fun.txt
  rw [str_app_len, str_app_len]
  have h1 := joinL_len (a := (" " : Str).cps.toList) (f.nm :: f.ps)
  have h2 := sumLen_names (l := f.nm :: f.ps) (fun x hx => by
    rcases List.mem_cons.mp hx with e | hx
    · rw [e]; exact o.nm
    · exact o.ps x hx)
  have h3 := ttext_len f.bd o.bd
  have h4 : (⟨⟨joinL (" " : Str).cps.toList (f.nm :: f.ps)⟩⟩ : Str).length = (joinL (" " : Str).cps.toList (f.nm :: f.ps)).length := rfl
  have h5 : (" " : Str).cps.toList.length = 1 := rfl
  have h6 : (" = " : Str).length = 3 := rfl
  have := o.pl
  have := o.sz
  rw [List.length_cons] at h1 h2
  rw [h5] at h1
  omega
theorem s_ftext {f : Fun} {K : Nat} (o : FunOk f) (hK : 61 ≤ K) : evC bod tab K wr ("function_text", none) [.str f.nm, .tup (f.ps.map PV.str), enc f.bd] h = some (.str f.txt, h) := by
  obtain ⟨K, rfl⟩ : ∃ j, K = j + 1 := ⟨K - 1, by omega⟩
  rw [ev_function_text]
  have big : (13001 : Nat) ≤ lineN := by decide
  have hl := txt_len o
  unfold Fun.txt at hl
  rw [str_app_len, str_app_len] at hl
  have hpl := o.pl
  have h2 := sumLen_names (l := f.nm :: f.ps) (fun x hx => by
    rcases List.mem_cons.mp hx with e | hx
    · rw [e]; exact o.nm
    · exact o.ps x hx)
  rw [List.length_cons] at h2
  obtain ⟨h1, e1'⟩ : ∃ z, z = ((h ++ [PO.lst [.str f.nm]]) ++ [PO.lst (f.ps.map PV.str)]) ++ [PO.lst ((f.nm :: f.ps).map PV.str)] := ⟨_, rfl⟩
  have e1 : b_function_text (evC bod tab K) (freshW h) [some (.str f.nm), some (.tup (f.ps.map PV.str)), some (enc f.bd)] h = some (.ret (.str f.txt), [some (.str f.nm), some (.tup (f.ps.map PV.str)), some (enc f.bd)], h1) := by
    refine l_seqR (l_ret ?_)
    rw [l_op (h1 := h1) (h2 := h1) (x := .str (⟨⟨joinL (" " : Str).cps.toList (f.nm :: f.ps)⟩⟩ ++ (" = " : Str))) (y := .str (ttext f.bd)) ?_ ?_]
    · exact add_str (by rw [str_app_len]; omega)
    · rw [l_op (h1 := h1) (h2 := h1) (x := .str ⟨⟨joinL (" " : Str).cps.toList (f.nm :: f.ps)⟩⟩) (y := .str " = ") ?_ rfl]
      · exact add_str (by omega)
      · rw [l_meth (h1 := h) (h2 := h1) (x := .str " ") (ps := [.loc ((h ++ [PO.lst [.str f.nm]]) ++ [PO.lst (f.ps.map PV.str)]).length]) rfl rfl (l_a1 (h1 := h1) ?_ rfl)]
        · refine join_at (by rw [e1']; exact at_end) ?_
          have h5 : (" " : Str).length = 1 := rfl
          rw [List.length_cons, h5]
          omega
        · rw [l_op (h1 := h ++ [PO.lst [.str f.nm]]) (h2 := (h ++ [PO.lst [.str f.nm]]) ++ [PO.lst (f.ps.map PV.str)]) (x := .loc h.length) (y := .loc (h ++ [PO.lst [.str f.nm]]).length) (by kernel_rfl) ?_]
          · unfold fAdd
            simp only
            rw [at_ext at_end, at_end]
            simp only
            rw [if_pos (by simp only [List.length_map, List.length_singleton]; omega), e1']
            rfl
          · rw [l_call (ps := [.tup (f.ps.map PV.str)]) (h1 := h ++ [PO.lst [.str f.nm]]) rfl]
            rfl
    · rw [l_fn (h1 := h1) (ps := [enc f.bd]) rfl, ct_expression_text, text_ok (sz f.bd) f.bd (Nat.le_refl _) o.bd o.sz K _ h1 (by have := o.dp; omega)]
  rw [e1, fin_ret, trunc_pl rfl]
/-- the text of a program -/
def ptxt (fs : List Fun) : Str := ⟨⟨joinL ("\n" : Str).cps.toList (fs.map Fun.txt)⟩⟩
def ftY (fs : List Fun) : PV → PV
  | .tup [.str z, _] => match fs.find? (fun f => sEq f.nm z) with
    | some f => .str f.txt
    | none => .non
  | _ => .non
theorem ftY_at {fs : List Fun} {f : Fun} (hf : f ∈ fs) (nd : (fs.map Fun.nm).Nodup) : ftY fs (mI f.kv) = .str f.txt := by
  have : fs.find? (fun g => sEq g.nm f.nm) = some f := by
    induction fs with
    | nil => cases hf
    | cons g fs ih =>
      rw [List.map_cons, List.nodup_cons] at nd
      rw [List.find?_cons]
      rcases List.mem_cons.mp hf with e | hf
      · subst e
        rw [sEq_self]
      · have : sEq g.nm f.nm = false := by
          cases q : sEq g.nm f.nm with
          | false => rfl
          | true => exact absurd (List.mem_map.mpr ⟨f, hf, ((sEq_iff).mp q).symm⟩) nd.1
        rw [this]
        exact ih hf nd.2
  show (match fs.find? (fun g => sEq g.nm f.nm) with
    | some f => PV.str f.txt
    | none => .non) = _
  rw [this]
theorem s_str {K : Nat} (P : Prg h n m (kvF fs)) (ok : ∀ f ∈ fs, FunOk f) (nd : (fs.map Fun.nm).Nodup) (few : fs.length ≤ 20) (hK : 63 ≤ K) : evC bod tab K wr ("Program", some "__str__") [.loc n] h = some (.str (ptxt fs), h) := by
  obtain ⟨K, rfl⟩ : ∃ j, K = j + 1 := ⟨K - 1, by omega⟩
  rw [ev_Program___str__]
  have big : (13001 : Nat) ≤ lineN := by decide
  have bigger : (300000 : Nat) ≤ lineN := by decide
  have hY : ((kvF fs).map mI).map (ftY fs) = (fs.map Fun.txt).map PV.str := by
    unfold kvF
    rw [List.map_map, List.map_map, List.map_map]
    exact List.map_congr_left fun f hf => ftY_at hf nd
  have e1 : b_Program___str__ (evC bod tab K) (freshW h) [some (.loc n), none, none, none] h = some (.ret (.str (ptxt fs)), [some (.loc n), none, none, none], h ++ [.lst ((fs.map Fun.txt).map PV.str)]) := by
    refine l_seqR (l_ret ?_)
    rw [l_meth (h1 := h) (h2 := h ++ [.lst ((fs.map Fun.txt).map PV.str)]) (x := .str "\n") (ps := [.loc h.length]) rfl rfl (l_a1 (h1 := h ++ [.lst ((fs.map Fun.txt).map PV.str)]) ?_ rfl)]
    · refine join_at at_end ?_
      have hs : ∀ l : List Fun, (∀ f ∈ l, FunOk f) → sumLen (l.map Fun.txt) ≤ 12100 * l.length := by
        intro l
        induction l with
        | nil => intro _; exact Nat.le_refl _
        | cons f l ih =>
          intro hl
          rw [List.map_cons, sumLen, List.length_cons]
          have := txt_len (hl f (List.mem_cons_self ..))
          have := ih fun g hg => hl g (List.mem_cons_of_mem _ hg)
          omega
      have := hs fs ok
      have h5 : ("\n" : Str).length = 1 := rfl
      rw [List.length_map, h5]
      omega
    · rw [← hY]
      refine eLcD_ext (own := [1, 2, 3]) (n := m) (kvs := kvF fs) (ftY fs) (fun wr => P.fld rfl) P.dic P.dic (fresh_ge (Nat.le_refl _)) (by unfold kvF; rw [List.length_map]; omega) (by rfl) fun x hx => ?_
      obtain ⟨q, hq, rfl⟩ := List.mem_map.mp hx
      obtain ⟨f, hf', rfl⟩ := List.mem_map.mp hq
      refine ⟨[some (.loc n), some (.str f.nm), some (.tup (f.ps.map PV.str)), some (enc f.bd)], rfl, fun wr2 h2 hx2 => ?_⟩
      rw [ftY_at hf' nd, l_fn (h1 := h2) (ps := [.str f.nm, .tup (f.ps.map PV.str), enc f.bd]) rfl, ct_function_text, s_ftext (ok f hf') (by omega)]
  rw [e1, fin_ret, trunc_pl rfl]
end
end KW
set_option Elab.async false
set_option linter.all false
set_option maxRecDepth 100000
set_option maxHeartbeats 800000
namespace KW
open PySem PySem.Spec PyProof.Rows L2 KP
/-- at s stands o now, all else as before -/
structure Upd (h : PH) (s : Nat) (o : PO) (h' : PH) : Prop where
  at_ : h'[s]? = some o
  els : ∀ (j : Nat) (p : PO), j ≠ s → h[j]? = some p → h'[j]? = some p
theorem Upd.len {h h' : PH} {s : Nat} {o p : PO} (u : Upd h s o h') (hs : h[s]? = some p) : h.length ≤ h'.length := by
  cases q : h.length with
  | zero => omega
  | succ l =>
    have e : h[l]? = some (h[l]'(by omega)) := List.getElem?_eq_getElem (by omega)
    by_cases ls : l = s
    · subst ls; have := (List.getElem?_eq_some_iff.mp u.at_).1; omega
    · have := (List.getElem?_eq_some_iff.mp (u.els l _ ls e)).1; omega
section
variable {k : Nat} {wr : Nat → Bool} {h : PH}
theorem div_loop {e0 e1 e2 e3 e6 e7 : Option PV} {call : CallF} : ∀ (n : Nat) (lo z : Int) (e5 : Option PV) (h : PH), ∃ (z' : Int) (e5' : Option PV), loopF (turnF (gNm 5) (sSeq (sAsg (eOp fDiv (eVar 4) (eCst (.int 1018081))) (gNm 4)) sNext)) (rngItems lo n) [e0, e1, e2, e3, some (.int z), e5, e6, e7] h = some (.nx, [e0, e1, e2, e3, some (.int z'), e5', e6, e7], h)
  | 0, lo, z, e5, h => ⟨z, e5, rfl⟩
  | n + 1, lo, z, e5, h => by
    obtain ⟨z', e5', e⟩ := div_loop (e0 := e0) (e1 := e1) (e2 := e2) (e3 := e3) (e6 := e6) (e7 := e7) (call := call) n (lo + 1) (z.fdiv 1018081) (some (.int lo)) h
    exact ⟨z', e5', (loop_nx (e1 := [e0, e1, e2, e3, some (.int (z.fdiv 1018081)), some (.int lo), e6, e7]) (h1 := h) (by kernel_rfl)).trans e⟩
theorem s_cell {cs : List Int} {c s : Nat} {z : Int} (hc : h[c]? = some (.lst (cs.map PV.int))) (hs : h[s]? = some (.lst [.int z])) (hcs : c ≠ s) (hw : wr s = true) (hcl : cs.length ≤ 63) (hz : -1 ≤ z) (hz2 : z ≤ 100000) :
    ∃ (v : Int) (h' : PH), evC bod tab (k + 1) wr ("_law_cell", none) [.loc c, .loc s] h = some (.int v, h') ∧ Upd h s (.lst [.int (z + 1)]) h' := by
  rw [ev__law_cell]
  have hlt : s < h.length := (List.getElem?_eq_some_iff.mp hs).1
  have big : (1001 : Nat) ≤ lineN := by decide
  have c1 : (h.set s (.lst [.int (z + 1)]))[c]? = some (.lst (cs.map PV.int)) := by rw [List.getElem?_set_ne (Ne.symm hcs)]; exact hc
  have s1 : (h.set s (.lst [.int (z + 1)]))[s]? = some (.lst [.int (z + 1)]) := List.getElem?_set_self hlt
  have u1 : Upd h s (.lst [.int (z + 1)]) (h.set s (.lst [.int (z + 1)])) := ⟨s1, fun j p hj e => by rw [List.getElem?_set_ne (Ne.symm hj)]; exact e⟩
  have st1 : sSubA wr (eVar 1) (eCst (.int 0)) (eOp fAdd (eOp (fIxT tab) (eVar 1) (eCst (.int 0))) (eCst (.int 1))) [some (.loc c), some (.loc s), none, none, none, none, none, none] h = some (.nx, [some (.loc c), some (.loc s), none, none, none, none, none, none], h.set s (.lst [.int (z + 1)])) := by
    unfold sSubA
    rw [l_op (h1 := h) (h2 := h) (x := .int z) (y := .int 1) ?_ rfl]
    · rw [show fAdd (.int z) (.int 1) h = some (.int (z + 1), h) from rfl, bnd_some]
      rw [show eVar 1 [some (.loc c), some (.loc s), none, none, none, none, none, none] h = some (.loc s, h) from rfl, bnd_some, show eCst (.int 0) [some (.loc c), some (.loc s), none, none, none, none, none, none] h = some (.int 0, h) from rfl, bnd_some]
      simp only
      rw [if_pos hw, hs]
      rfl
    · rw [l_op (h1 := h) (h2 := h) (x := .loc s) (y := .int 0) rfl rfl, ix_lst hs]; rfl
  generalize hh1 : h.set s (.lst [.int (z + 1)]) = h1 at c1 s1 u1 st1
  generalize hzz : z + 1 = y at *
  obtain ⟨h2, e2'⟩ : ∃ q, q = h1 ++ [PO.lst []] := ⟨_, rfl⟩
  have c2 : h2[c]? = some (.lst (cs.map PV.int)) := e2' ▸ at_ext c1
  have u2 : Upd h s (.lst [.int y]) h2 := ⟨e2' ▸ at_ext u1.at_, fun j p hj e => e2' ▸ at_ext (u1.els j p hj e)⟩
  have poksI : ∀ l : List Int, poks (l.map PV.int) = true := by
    intro l
    induction l with
    | nil => rfl
    | cons x l ih => rw [List.map_cons, poks, ih]; rfl
  -- the cell
  obtain ⟨w, w0, st3⟩ : ∃ w : Int, (cs = [] → w = 0) ∧ ∀ e2 e4 e5 e6 e7 : Option PV, sAsg (eIte (eOp fNe (eVar 0) (eLst aNil)) (eOp (fIxT tab) (eVar 0) (eOp fMod (eVar 2) (eCall gLen (aCons (eVar 0) aNil)))) (eCst (.int 0))) (gNm 3) [some (.loc c), some (.loc s), some (.int y), none, e4, e5, e6, e7] h1 = some (.nx, [some (.loc c), some (.loc s), some (.int y), some (.int w), e4, e5, e6, e7], h2) := by
    have t : ∀ env : KP.Env, env[0]? = some (some (PV.loc c)) → eOp fNe (eVar 0) (eLst aNil) env h1 = some (.bl (!(cs.map PV.int).isEmpty), h2) := fun env he => by
      rw [l_op (h1 := h1) (h2 := h2) (x := .loc c) (y := .loc h1.length) (by unfold eVar; rw [he]) (by rw [e2']; rfl)]
      exact ne_nil c2 (by rw [e2']; exact at_end) (poksI cs)
    cases cs with
    | nil => exact ⟨0, fun _ => rfl, fun e2 e4 e5 e6 e7 => l_asg ((l_ite (b := false) (t _ rfl)).trans rfl) rfl⟩
    | cons a cs =>
      have hl : (0 : Int) < (((a :: cs).map PV.int).length : Nat) := by simp only [List.length_map, List.length_cons]; omega
      have i0 := Int.fmod_nonneg_of_pos y hl
      have i1 := Int.fmod_lt_of_pos y hl
      obtain ⟨w, hw'⟩ : ∃ w : Int, pat ((a :: cs).map PV.int) (y.fmod (((a :: cs).map PV.int).length : Nat)) = some (.int w) := by
        unfold pat pix
        rw [if_pos i0, if_pos i1]
        simp only
        rw [List.getElem?_map]
        have hlt' : (y.fmod (((a :: cs).map PV.int).length : Nat)).toNat < (a :: cs).length := by
          rw [List.length_map] at i0 i1 ⊢
          omega
        rw [List.getElem?_eq_getElem hlt']
        exact ⟨_, rfl⟩
      refine ⟨w, fun q => (by cases q), fun e2 e4 e5 e6 e7 => l_asg ((l_ite (b := true) (t _ rfl)).trans ?_) rfl⟩
      rw [if_pos rfl]
      rw [l_op (h1 := h2) (h2 := h2) (x := .loc c) (y := .int (y.fmod (((a :: cs).map PV.int).length : Nat))) rfl ?_, ix_lst c2, hw']
      · rfl
      · rw [l_op (h1 := h2) (h2 := h2) (x := .int y) (y := .int (((a :: cs).map PV.int).length : Nat)) rfl ?_]
        · exact mod_int (by omega)
        · rw [l_call (ps := [.loc c]) (h1 := h2) rfl]
          unfold gLen
          simp only
          rw [c2]
  -- behind the cell's own digits
  have tail : ∀ e4 e5 : Option PV, ∃ (v : Int) (env : KP.Env), (sSeq (sAsg (eOp fAdd (eCst (.int 91520834467120936671528473920164857)) (eOp fMul (eCst (.int 2)) (eVar 2))) (gNm 6))
    (sSeq (sAsg (eOp fMul (eOp fAdd (eOp fAdd (eOp fMod (eVar 3) (eOp fPow (eCst (.int 10)) (eCst (.int 60)))) (eCst (.int 1))) (eOp fMul (eOp fMul (eCst (.int 1009)) (eVar 2)) (eVar 2))) (eVar 6)) (gNm 7))
    (sSeq (sRet (eOp fDiv (eOp fMod (eVar 7) (eCst (.int 170141183460469231731687303715884105727))) (eCst (.int 7))))
    sNext))) [some (.loc c), some (.loc s), some (.int y), some (.int w), e4, e5, none, none] h2 = some (.ret (.int v), env, h2) := fun e4 e5 => by
    have y0 : 0 ≤ y := by omega
    have y1 : y ≤ 100001 := by omega
    have m1 : mulOk 2 y = true := mulOk_small (by decide) (by decide)
    have m2 : mulOk 1009 y = true := mulOk_small (by decide) (by decide)
    have m3 : mulOk (1009 * y) y = true := mulOk_small (by omega) (by omega)
    have hM : (0 : Int) < 10 ^ 60 := by decide
    have f0 := Int.fmod_nonneg_of_pos w hM
    have f1 := Int.fmod_lt_of_pos w hM
    have hq : 1009 * y * y ≤ 1009 * 100001 * 100001 := by
      have h1 : 1009 * y ≤ 1009 * 100001 := by omega
      exact Int.le_trans (Int.mul_le_mul_of_nonneg_right h1 y0) (Int.mul_le_mul_of_nonneg_left y1 (by decide))
    have hq0 : 0 ≤ 1009 * y * y := Int.mul_nonneg (Int.mul_nonneg (by decide) y0) y0
    have m4 : mulOk (w.fmod (10 ^ 60) + 1 + 1009 * y * y) (91520834467120936671528473920164857 + 2 * y) = true := by
      have b1 : (w.fmod (10 ^ 60) + 1 + 1009 * y * y).natAbs < 2 ^ 4000 := by
        have : (w.fmod (10 ^ 60) + 1 + 1009 * y * y).natAbs < 2 ^ 300 := by
          have e : (10 : Int) ^ 60 + 1 + 1009 * 100001 * 100001 < 2 ^ 300 := by decide
          omega
        exact Nat.lt_trans this (Nat.pow_lt_pow_right (by decide) (by decide))
      have b2 : (91520834467120936671528473920164857 + 2 * y).natAbs < 2 ^ 4000 := by
        have : (91520834467120936671528473920164857 + 2 * y).natAbs < 2 ^ 200 := by omega
        exact Nat.lt_trans this (Nat.pow_lt_pow_right (by decide) (by decide))
      unfold mulOk
      rw [decide_eq_true b1, decide_eq_true b2]; simp
    refine ⟨(((w.fmod (10 ^ 60) + 1 + 1009 * y * y) * (91520834467120936671528473920164857 + 2 * y)).fmod 170141183460469231731687303715884105727).fdiv 7, [some (.loc c), some (.loc s), some (.int y), some (.int w), e4, e5, some (.int (91520834467120936671528473920164857 + 2 * y)), some (.int ((w.fmod (10 ^ 60) + 1 + 1009 * y * y) * (91520834467120936671528473920164857 + 2 * y)))], ?_⟩
    refine (l_seq (e1 := [some (.loc c), some (.loc s), some (.int y), some (.int w), e4, e5, some (.int (91520834467120936671528473920164857 + 2 * y)), none]) (h1 := h2) (l_asg (x := .int (91520834467120936671528473920164857 + 2 * y)) ?_ rfl)).trans ?_
    · rw [l_op (h1 := h2) (h2 := h2) (x := .int 91520834467120936671528473920164857) (y := .int (2 * y)) rfl ?_]
      · rfl
      · rw [l_op (h1 := h2) (h2 := h2) (x := .int 2) (y := .int y) rfl rfl]
        exact mul_int m1
    refine (l_seq (e1 := [some (.loc c), some (.loc s), some (.int y), some (.int w), e4, e5, some (.int (91520834467120936671528473920164857 + 2 * y)), some (.int ((w.fmod (10 ^ 60) + 1 + 1009 * y * y) * (91520834467120936671528473920164857 + 2 * y)))]) (h1 := h2) (l_asg (x := .int ((w.fmod (10 ^ 60) + 1 + 1009 * y * y) * (91520834467120936671528473920164857 + 2 * y))) ?_ rfl)).trans (l_seqR (l_ret ?_))
    · rw [l_op (h1 := h2) (h2 := h2) (x := .int (w.fmod (10 ^ 60) + 1 + 1009 * y * y)) (y := .int (91520834467120936671528473920164857 + 2 * y)) ?_ rfl]
      · exact mul_int m4
      · rw [l_op (h1 := h2) (h2 := h2) (x := .int (w.fmod (10 ^ 60) + 1)) (y := .int (1009 * y * y)) ?_ ?_]
        · rfl
        · rw [l_op (h1 := h2) (h2 := h2) (x := .int (w.fmod (10 ^ 60))) (y := .int 1) ?_ rfl]
          · rfl
          · rw [l_op (h1 := h2) (h2 := h2) (x := .int w) (y := .int (10 ^ 60)) rfl (by kernel_rfl)]
            exact mod_int (by decide)
        · rw [l_op (h1 := h2) (h2 := h2) (x := .int (1009 * y)) (y := .int y) ?_ rfl]
          · exact mul_int m3
          · rw [l_op (h1 := h2) (h2 := h2) (x := .int 1009) (y := .int y) rfl rfl]
            exact mul_int m2
    · rw [l_op (h1 := h2) (h2 := h2) (x := .int (((w.fmod (10 ^ 60) + 1 + 1009 * y * y) * (91520834467120936671528473920164857 + 2 * y)).fmod 170141183460469231731687303715884105727)) (y := .int 7) ?_ rfl]
      · exact div_int (by decide) (by decide)
      · rw [l_op (h1 := h2) (h2 := h2) (x := .int ((w.fmod (10 ^ 60) + 1 + 1009 * y * y) * (91520834467120936671528473920164857 + 2 * y))) (y := .int 170141183460469231731687303715884105727) rfl rfl]
        exact mod_int (by decide)
  have body : ∃ (v : Int) (env : KP.Env), b__law_cell (evC bod tab k) wr [some (.loc c), some (.loc s), none, none, none, none, none, none] h = some (.ret (.int v), env, h2) := by
    have pre : ∀ r, (sSeq (sIf (eAnd (eOp (cmpI fun i j => decide (j ≤ i)) (eVar 3) (eOp fPow (eCst (.int 10)) (eCst (.int 18)))) (eOp (cmpI fun i j => decide (i < j)) (eOp fDiv (eVar 2) (eCall gLen (aCons (eVar 0) aNil))) (eCst (.int 20)))) (sSeq (sAsg (eVar 3) (gNm 4))
      (sSeq (sFor wr (iRange1 (eOp fDiv (eVar 2) (eCall gLen (aCons (eVar 0) aNil)))) (gNm 5) (fun wr => (sSeq (sAsg (eOp fDiv (eVar 4) (eCst (.int 1018081))) (gNm 4))
        sNext)))
      (sSeq (sIf (eOp (cmpI fun i j => decide (j < i)) (eVar 4) (eCst (.int 0))) (sSeq (sRet (eOp fMod (eVar 4) (eCst (.int 1018081))))
        sNext) sNext)
      sNext))) sNext)
    (sSeq (sAsg (eOp fAdd (eCst (.int 91520834467120936671528473920164857)) (eOp fMul (eCst (.int 2)) (eVar 2))) (gNm 6))
    (sSeq (sAsg (eOp fMul (eOp fAdd (eOp fAdd (eOp fMod (eVar 3) (eOp fPow (eCst (.int 10)) (eCst (.int 60)))) (eCst (.int 1))) (eOp fMul (eOp fMul (eCst (.int 1009)) (eVar 2)) (eVar 2))) (eVar 6)) (gNm 7))
    (sSeq (sRet (eOp fDiv (eOp fMod (eVar 7) (eCst (.int 170141183460469231731687303715884105727))) (eCst (.int 7))))
    sNext)))) [some (.loc c), some (.loc s), some (.int y), some (.int w), none, none, none, none] h2 = r → b__law_cell (evC bod tab k) wr [some (.loc c), some (.loc s), none, none, none, none, none, none] h = r := fun r hr => by
      refine (l_seq st1).trans ((l_seq (e1 := [some (.loc c), some (.loc s), some (.int y), none, none, none, none, none]) (h1 := h1) (l_asg (x := .int y) ?_ rfl)).trans ((l_seq (st3 none none none none none)).trans hr))
      rw [l_op (h1 := h1) (h2 := h1) (x := .loc s) (y := .int 0) rfl rfl, ix_lst s1]; rfl
    have i1 : eOp (cmpI fun i j => decide (j ≤ i)) (eVar 3) (eOp fPow (eCst (.int 10)) (eCst (.int 18))) [some (.loc c), some (.loc s), some (.int y), some (.int w), none, none, none, none] h2 = some (.bl (decide (10 ^ 18 ≤ w)), h2) := by
      rw [l_op (h1 := h2) (h2 := h2) (x := .int w) (y := .int (10 ^ 18)) rfl (by kernel_rfl)]; rfl
    have id2 : ∀ e4 e5 : Option PV, cs ≠ [] → eOp fDiv (eVar 2) (eCall gLen (aCons (eVar 0) aNil)) [some (.loc c), some (.loc s), some (.int y), some (.int w), e4, e5, none, none] h2 = some (.int (y.fdiv ((cs.map PV.int).length : Nat)), h2) := fun e4 e5 hne => by
      rw [l_op (h1 := h2) (h2 := h2) (x := .int y) (y := .int ((cs.map PV.int).length : Nat)) rfl ?_]
      · have : 0 < (cs.map PV.int).length := by rw [List.length_map]; exact List.length_pos_iff.mpr hne
        have h63 : (cs.map PV.int).length ≤ 63 := by rw [List.length_map]; exact hcl
        exact div_int (by omega) (by omega)
      · rw [l_call (ps := [.loc c]) (h1 := h2) rfl]
        unfold gLen
        simp only
        rw [c2]
    have no : ∀ e4 e5 : Option PV, ∃ (v : Int) (env : KP.Env), (sSeq (sAsg (eOp fAdd (eCst (.int 91520834467120936671528473920164857)) (eOp fMul (eCst (.int 2)) (eVar 2))) (gNm 6))
    (sSeq (sAsg (eOp fMul (eOp fAdd (eOp fAdd (eOp fMod (eVar 3) (eOp fPow (eCst (.int 10)) (eCst (.int 60)))) (eCst (.int 1))) (eOp fMul (eOp fMul (eCst (.int 1009)) (eVar 2)) (eVar 2))) (eVar 6)) (gNm 7))
    (sSeq (sRet (eOp fDiv (eOp fMod (eVar 7) (eCst (.int 170141183460469231731687303715884105727))) (eCst (.int 7))))
    sNext))) [some (.loc c), some (.loc s), some (.int y), some (.int w), e4, e5, none, none] h2 = some (.ret (.int v), env, h2) := tail
    by_cases q1 : (10 : Int) ^ 18 ≤ w
    · have hne : cs ≠ [] := fun e => by rw [w0 e] at q1; exact absurd q1 (by decide)
      rw [decide_eq_true q1] at i1
      have i2 : eOp (cmpI fun i j => decide (i < j)) (eOp fDiv (eVar 2) (eCall gLen (aCons (eVar 0) aNil))) (eCst (.int 20)) [some (.loc c), some (.loc s), some (.int y), some (.int w), none, none, none, none] h2 = some (.bl (decide (y.fdiv ((cs.map PV.int).length : Nat) < 20)), h2) := by
        rw [l_op (h1 := h2) (h2 := h2) (x := .int (y.fdiv ((cs.map PV.int).length : Nat))) (y := .int 20) (id2 _ _ hne) rfl]; rfl
      by_cases q2 : y.fdiv ((cs.map PV.int).length : Nat) < 20
      · rw [decide_eq_true q2] at i2
        have hd0 : 0 ≤ y.fdiv ((cs.map PV.int).length : Nat) := Int.fdiv_nonneg (by omega) (by omega)
        obtain ⟨z', e5', el⟩ := div_loop (e0 := some (.loc c)) (e1 := some (.loc s)) (e2 := some (.int y)) (e3 := some (.int w)) (e6 := none) (e7 := none) (call := evC bod tab k) (y.fdiv ((cs.map PV.int).length : Nat)).toNat 0 w none h2
        have f1 : sFor wr (iRange1 (eOp fDiv (eVar 2) (eCall gLen (aCons (eVar 0) aNil)))) (gNm 5) (fun wr => (sSeq (sAsg (eOp fDiv (eVar 4) (eCst (.int 1018081))) (gNm 4)) sNext)) [some (.loc c), some (.loc s), some (.int y), some (.int w), some (.int w), none, none, none] h2 = some (.nx, [some (.loc c), some (.loc s), some (.int y), some (.int w), some (.int z'), e5', none, none], h2) := by
          unfold sFor
          have : iRange1 (eOp fDiv (eVar 2) (eCall gLen (aCons (eVar 0) aNil))) [some (.loc c), some (.loc s), some (.int y), some (.int w), some (.int w), none, none, none] h2 = some ((rngItems 0 (y.fdiv ((cs.map PV.int).length : Nat)).toNat, []), h2) := by
            unfold iRange1
            rw [id2 _ _ hne, bnd_some]
            simp only
            rw [if_pos (by rw [decide_eq_true (show (-(2 ^ 62) : Int) ≤ y.fdiv ((cs.map PV.int).length : Nat) by omega), decide_eq_true (show y.fdiv ((cs.map PV.int).length : Nat) < 2 ^ 62 by omega)]; rfl)]
          rw [this, bnd_some]
          exact el
        by_cases q3 : 0 < z'
        · refine ⟨z'.fmod 1018081, [some (.loc c), some (.loc s), some (.int y), some (.int w), some (.int z'), e5', none, none], pre _ (l_seqR ((l_if (b := true) (h1 := h2) (by rw [l_and1 i1, i2])).trans ?_))⟩
          rw [if_pos rfl]
          refine (l_seq (e1 := [some (.loc c), some (.loc s), some (.int y), some (.int w), some (.int w), none, none, none]) (h1 := h2) rfl).trans ((l_seq f1).trans (l_seqR ?_))
          refine (l_if (b := true) (h1 := h2) ?_).trans ?_
          · rw [l_op (h1 := h2) (h2 := h2) (x := .int z') (y := .int 0) rfl rfl]
            simp only [cmpI]
            rw [decide_eq_true q3]
          · rw [if_pos rfl]
            refine l_seqR (l_ret ?_)
            rw [l_op (h1 := h2) (h2 := h2) (x := .int z') (y := .int 1018081) rfl rfl]
            exact mod_int (by decide)
        · obtain ⟨v, env, et⟩ := tail (some (.int z')) e5'
          refine ⟨v, env, pre _ ((l_seq (e1 := [some (.loc c), some (.loc s), some (.int y), some (.int w), some (.int z'), e5', none, none]) (h1 := h2) ((l_if (b := true) (h1 := h2) (by rw [l_and1 i1, i2])).trans ?_)).trans et)⟩
          rw [if_pos rfl]
          refine (l_seq (e1 := [some (.loc c), some (.loc s), some (.int y), some (.int w), some (.int w), none, none, none]) (h1 := h2) rfl).trans ((l_seq f1).trans ?_)
          refine (l_seq (e1 := [some (.loc c), some (.loc s), some (.int y), some (.int w), some (.int z'), e5', none, none]) (h1 := h2) ((l_if (b := false) (h1 := h2) ?_).trans rfl)).trans rfl
          rw [l_op (h1 := h2) (h2 := h2) (x := .int z') (y := .int 0) rfl rfl]
          simp only [cmpI]
          rw [decide_eq_false q3]
      · rw [decide_eq_false q2] at i2
        obtain ⟨v, env, et⟩ := tail none none
        exact ⟨v, env, pre _ ((l_seq (e1 := [some (.loc c), some (.loc s), some (.int y), some (.int w), none, none, none, none]) (h1 := h2) ((l_if (b := false) (h1 := h2) (by rw [l_and1 i1, i2])).trans rfl)).trans et)⟩
    · rw [decide_eq_false q1] at i1
      obtain ⟨v, env, et⟩ := tail none none
      exact ⟨v, env, pre _ ((l_seq (e1 := [some (.loc c), some (.loc s), some (.int y), some (.int w), none, none, none, none]) (h1 := h2) ((l_if (b := false) (h1 := h2) (l_and2 i1)).trans rfl)).trans et)⟩
  obtain ⟨v, env, e⟩ := body
  exact ⟨v, h2, by rw [e, fin_ret], u2⟩
end
end KW
set_option Elab.async false
set_option linter.all false
set_option maxRecDepth 100000
set_option maxHeartbeats 800000
namespace KW
open PySem PySem.Spec PyProof.Rows L2 KP
section
variable {k : Nat} {wr : Nat → Bool} {h : PH}
theorem Upd.app {h h' g : PH} {s : Nat} {o : PO} (u : Upd h s o h') : Upd h s o (h' ++ g) := ⟨at_ext u.at_, fun j p hj e => at_ext (u.els j p hj e)⟩
theorem fmod_at {v : Int} {n : Nat} (hn : 0 < n) : ∃ i : Nat, i < n ∧ v.fmod (n : Nat) = (i : Int) := by
  have h1 := Int.fmod_nonneg_of_pos v (show (0 : Int) < n by omega)
  have h2 := Int.fmod_lt_of_pos v (show (0 : Int) < n by omega)
  exact ⟨(v.fmod n).toNat, by omega, by omega⟩
theorem s_num {cs : List Int} {c s : Nat} {z : Int} (hc : h[c]? = some (.lst (cs.map PV.int))) (hs : h[s]? = some (.lst [.int z])) (hcs : c ≠ s) (hw : wr s = true) (hcl : cs.length ≤ 63) (hz : -1 ≤ z) (hz2 : z ≤ 100000) :
    ∃ (v : Int) (h' : PH), evC bod tab (k + 2) wr ("_law_number", none) [.loc c, .loc s] h = some (.int v, h') ∧ (-1000000000 ≤ v ∧ v ≤ 1000000000) ∧ Upd h s (.lst [.int (z + 1)]) h' := by
  rw [ev__law_number]
  obtain ⟨v, h1, e, u⟩ := s_cell (k := k) (wr := wr) hc hs hcs hw hcl hz hz2
  have m1 : ∀ j : Int, 0 < j → ∀ env : KP.Env, env[2]? = some (some (.int v)) → ∀ h, eOp fMod (eOp fDiv (eVar 2) (eCst (.int 8))) (eCst (.int j)) env h = some (.int ((v.fdiv 8).fmod j), h) := fun j hj env he h => by
    rw [l_op (h1 := h) (h2 := h) (x := .int (v.fdiv 8)) (y := .int j) ?_ rfl]
    · exact mod_int (by omega)
    · rw [l_op (h1 := h) (h2 := h) (x := .int v) (y := .int 8) (by unfold eVar; rw [he]) rfl]
      exact div_int (by decide) (by decide)
  obtain ⟨i, hi, ei⟩ := fmod_at (v := v) (n := 8) (by decide)
  have b5 := Int.fmod_nonneg_of_pos (v.fdiv 8) (show (0 : Int) < 5 by decide)
  have b5' := Int.fmod_lt_of_pos (v.fdiv 8) (show (0 : Int) < 5 by decide)
  have b2 := Int.fmod_nonneg_of_pos (v.fdiv 8) (show (0 : Int) < 201 by decide)
  have b2' := Int.fmod_lt_of_pos (v.fdiv 8) (show (0 : Int) < 201 by decide)
  have b1 := Int.fmod_nonneg_of_pos (v.fdiv 8) (show (0 : Int) < 1000001 by decide)
  have b1' := Int.fmod_lt_of_pos (v.fdiv 8) (show (0 : Int) < 1000001 by decide)
  let L : List Int := [(v.fdiv 8).fmod 5, 0, 1, (v.fdiv 8).fmod 201 - 100, 1000000000, -1000000000, 2, (v.fdiv 8).fmod 1000001]
  have hL : L.length = 8 := rfl
  refine ⟨L[i], h1 ++ [.lst (L.map PV.int)], ?_, ?_, u.app⟩
  · have e1 : b__law_number (evC bod tab (k + 1)) wr [some (.loc c), some (.loc s), none] h = some (.ret (.int L[i]), [some (.loc c), some (.loc s), some (.int v)], h1 ++ [.lst (L.map PV.int)]) := by
      refine (l_seq (e1 := [some (.loc c), some (.loc s), some (.int v)]) (h1 := h1) (l_asg (x := .int v) ?_ rfl)).trans (l_seqR (l_ret ?_))
      · rw [l_fn (h1 := h) (ps := [.loc c, .loc s]) rfl, ct__law_cell, e]
      · rw [l_op (h1 := h1 ++ [.lst (L.map PV.int)]) (h2 := h1 ++ [.lst (L.map PV.int)]) (x := .loc h1.length) (y := .int (i : Nat)) ?_ ?_, ix_lst at_end, pat_in (by rw [List.length_map]; omega), List.getElem?_map, List.getElem?_eq_getElem (by omega)]
        · rfl
        · unfold eLst
          rw [l_a1 (h1 := h1) (x := .int ((v.fdiv 8).fmod 5)) (m1 5 (by decide) _ rfl h1) (l_a1 (h1 := h1) rfl (l_a1 (h1 := h1) rfl (l_a1 (h1 := h1) (x := .int ((v.fdiv 8).fmod 201 - 100)) ?_ (l_a1 (h1 := h1) rfl (l_a1 (h1 := h1) rfl (l_a1 (h1 := h1) rfl (l_a1 (h1 := h1) (x := .int ((v.fdiv 8).fmod 1000001)) (m1 1000001 (by decide) _ rfl h1) rfl))))))), bnd_some]
          · rfl
          · rw [l_op (h1 := h1) (h2 := h1) (x := .int ((v.fdiv 8).fmod 201)) (y := .int 100) (m1 201 (by decide) _ rfl h1) rfl]
            rfl
        · rw [l_op (h1 := h1 ++ [.lst (L.map PV.int)]) (h2 := h1 ++ [.lst (L.map PV.int)]) (x := .int v) (y := .int 8) rfl rfl, KP.mod_int (by decide)]
          rw [show (8 : Int) = ((8 : Nat) : Int) from rfl, ei]
    rw [e1, fin_ret]
  · have : ∀ x ∈ L, -1000000000 ≤ x ∧ x ≤ 1000000000 := by
      intro x hx
      simp only [L, List.mem_cons, List.not_mem_nil, or_false] at hx
      rcases hx with h | h | h | h | h | h | h | h <;> omega
    exact this _ (List.getElem_mem _)
end
end KW
set_option Elab.async false
set_option linter.all false
set_option maxRecDepth 100000
set_option maxHeartbeats 800000
namespace KW
open PySem PySem.Spec PyProof.Rows L2 KP
/-! what repr writes is not too long -/
structure Shw (p : PV) (N D : Nat) : Prop where
  ok : pok p = true
  sh : pshow p = true
  bk : (toD p).bulk ≤ N
  lv : (toD p).leavesShort 13 = true
  dp : pdep p ≤ D
structure Shws (ps : List PV) (N D : Nat) : Prop where
  ok : poks ps = true
  sh : pshows ps = true
  bk : PyData.bulkAll (toDs ps) ≤ N
  lv : PyData.leavesShortAll 13 (toDs ps) = true
  dp : pdeps ps ≤ D
theorem Shw.mono {p : PV} {N N' D D' : Nat} (h : Shw p N D) (a : N ≤ N') (b : D ≤ D') : Shw p N' D' := ⟨h.ok, h.sh, Nat.le_trans h.bk a, h.lv, Nat.le_trans h.dp b⟩
theorem Shws.mono {p : List PV} {N N' D D' : Nat} (h : Shws p N D) (a : N ≤ N') (b : D ≤ D') : Shws p N' D' := ⟨h.ok, h.sh, Nat.le_trans h.bk a, h.lv, Nat.le_trans h.dp b⟩
theorem Shws.nil {D : Nat} : Shws [] 0 D := ⟨by rw [poks], by rw [pshows], by rw [toDs, PyData.bulkAll]; exact Nat.le_refl _, by rw [toDs, PyData.leavesShortAll], by rw [pdeps]; exact Nat.zero_le _⟩
theorem Shws.cons {p : PV} {ps : List PV} {N M D : Nat} (h : Shw p N D) (r : Shws ps M D) : Shws (p :: ps) (N + 1 + M) D :=
  ⟨by rw [poks, h.ok, r.ok]; rfl, by rw [pshows, h.sh, r.sh]; rfl, by
    rw [toDs, PyData.bulkAll]
    have := h.bk; have := r.bk; omega, by rw [toDs, PyData.leavesShortAll, h.lv, r.lv]; rfl, by
    rw [pdeps]
    exact Nat.max_le.mpr ⟨h.dp, r.dp⟩⟩
theorem Shw.tup {ps : List PV} {N D : Nat} (h : Shws ps N D) : Shw (.tup ps) N (D + 1) :=
  ⟨by rw [pok]; exact h.ok, by rw [pshow]; exact h.sh, by rw [toD, PyData.bulk]; exact h.bk, by rw [toD, PyData.leavesShort]; exact h.lv, by rw [pdep]; have := h.dp; omega⟩
theorem Shw.str {s : Str} {D : Nat} (h : pok (.str s) = true) (h2 : s.length ≤ 8) : Shw (.str s) 8 D :=
  ⟨h, by unfold pshow; rfl, by rw [toD, PyData.bulk]; exact h2, by
    rw [toD, PyData.leavesShort, List.all_eq_true]
    intro c hc
    rw [pok] at h
    unfold PyData.strOk at h
    rw [Array.all_eq_true_iff_forall_mem] at h
    have := h c (by simpa using hc)
    have := of_decide_eq_true this
    exact decide_eq_true (Nat.lt_trans this (by decide)), by simp [pdep]⟩
theorem Shw.name {s : Str} {D : Nat} (h : okName s = true) : Shw (.str s) 8 D := .str (name_pok h) (name_len h)
theorem Shw.int {n : Int} {D : Nat} (h1 : -1000000000 ≤ n) (h2 : n ≤ 1000000000) : Shw (.int n) 0 D :=
  ⟨by rw [pok], by
    unfold pshow
    exact decide_eq_true (Nat.lt_of_lt_of_le (show n.natAbs < 10 ^ 10 by omega) (Nat.pow_le_pow_right (by decide) (by decide))), by rw [toD, PyData.bulk]; exact Nat.le_refl _, by
    rw [toD, PyData.leavesShort]
    have := int_text_length_le10 (a := n) (k := 10) (by decide) (by omega)
    refine decide_eq_true ?_
    show (PyData.shown (.int n)).length ≤ 13
    rw [PyData.shown]
    show (Str.ofString (toString n)).length ≤ _
    rw [PySem.ofString_length]; omega, by simp [pdep]⟩
theorem Shw.word {s : Str} {D : Nat} (h : (PyData.strOk s && Nat.ble s.length 8) = true := by kernel_rfl) : Shw (.str s) 8 D := by
  rw [Bool.and_eq_true] at h
  exact .str (by rw [pok]; exact h.1) (Nat.le_of_ble_eq_true h.2)
mutual
theorem enc_shw : ∀ e : Ex, okE e → Shw (enc e) (60 * sz e - 1) (2 * dp e)
  | .num n, h => by rw [okE] at h; rw [enc, sz, dp]; exact (Shw.tup (D := 1) (.cons .word (.cons (.int h.1 h.2) .nil))).mono (by omega) (by omega)
  | .name x, h => by rw [okE] at h; rw [enc, sz, dp]; exact (Shw.tup (D := 1) (.cons .word (.cons (.name h) .nil))).mono (by omega) (by omega)
  | .fn x, h => by rw [okE] at h; rw [enc, sz, dp]; exact (Shw.tup (D := 1) (.cons .word (.cons (.name h) .nil))).mono (by omega) (by omega)
  | .rai x, h => by rw [okE] at h; rw [enc, sz, dp]; exact (Shw.tup (D := 1) (.cons .word (.cons (.name h) .nil))).mono (by omega) (by omega)
  | .op d a b, h => by
    rw [okE] at h; rw [enc, sz, dp]
    have ha := (enc_shw a h.2.1).mono (Nat.le_refl _) (show 2 * dp a ≤ 2 * max (dp a) (dp b) by omega)
    have hb := (enc_shw b h.2.2).mono (Nat.le_refl _) (show 2 * dp b ≤ 2 * max (dp a) (dp b) by omega)
    have := sz_pos a; have := sz_pos b
    exact (Shw.tup (.cons .word (.cons (.str (deed_pok h.1) (deed_len h.1)) (.cons ha (.cons hb .nil))))).mono (by omega) (by omega)
  | .say a, h => by
    rw [okE] at h; rw [enc, sz, dp]
    have := sz_pos a
    exact (Shw.tup (.cons .word (.cons (enc_shw a h) .nil))).mono (by omega) (by omega)
  | .lt x a b, h => by
    rw [okE] at h; rw [enc, sz, dp]
    have ha := (enc_shw a h.2.1).mono (Nat.le_refl _) (show 2 * dp a ≤ 2 * max (dp a) (dp b) by omega)
    have hb := (enc_shw b h.2.2).mono (Nat.le_refl _) (show 2 * dp b ≤ 2 * max (dp a) (dp b) by omega)
    have := sz_pos a; have := sz_pos b
    exact (Shw.tup (.cons .word (.cons (.name h.1) (.cons ha (.cons hb .nil))))).mono (by omega) (by omega)
  | .iff a b c, h => by
    rw [okE] at h; rw [enc, sz, dp]
    have ha := (enc_shw a h.1).mono (Nat.le_refl _) (show 2 * dp a ≤ 2 * max (dp a) (max (dp b) (dp c)) by omega)
    have hb := (enc_shw b h.2.1).mono (Nat.le_refl _) (show 2 * dp b ≤ 2 * max (dp a) (max (dp b) (dp c)) by omega)
    have hc := (enc_shw c h.2.2).mono (Nat.le_refl _) (show 2 * dp c ≤ 2 * max (dp a) (max (dp b) (dp c)) by omega)
    have := sz_pos a; have := sz_pos b; have := sz_pos c
    exact (Shw.tup (.cons .word (.cons ha (.cons hb (.cons hc .nil))))).mono (by omega) (by omega)
  | .call f as, h => by
    rw [okE] at h; rw [enc, sz, dp]
    have hs := Shw.tup (encs_shw as h.2.2)
    exact (Shw.tup (.cons .word (.cons (.name h.1) (.cons hs .nil)))).mono (by omega) (by omega)
  | .ask a as, h => by
    rw [okE] at h; rw [enc, sz, dp]
    have ha := (enc_shw a h.1).mono (Nat.le_refl _) (show 2 * dp a ≤ 2 * max (dp a) (dps as) + 1 by omega)
    have hs := (Shw.tup (encs_shw as h.2.2)).mono (Nat.le_refl _) (show 2 * dps as + 1 ≤ 2 * max (dp a) (dps as) + 1 by omega)
    have := sz_pos a
    exact (Shw.tup (.cons .word (.cons ha (.cons hs .nil)))).mono (by omega) (by omega)
  | .tr a w b, h => by
    rw [okE] at h; rw [enc, sz, dp]
    have ha := (enc_shw a h.1).mono (Nat.le_refl _) (show 2 * dp a ≤ 2 * max (dp a) (dp b) by omega)
    have hb := (enc_shw b h.2.2).mono (Nat.le_refl _) (show 2 * dp b ≤ 2 * max (dp a) (dp b) by omega)
    have := sz_pos a; have := sz_pos b
    exact (Shw.tup (.cons .word (.cons ha (.cons (.name h.2.1) (.cons hb .nil))))).mono (by omega) (by omega)
theorem encs_shw : ∀ as : Exs, okEs as → Shws (encs as) (60 * szs as) (2 * dps as)
  | .nil, _ => by rw [encs, szs]; exact .nil
  | .cons a r, h => by
    rw [okEs] at h; rw [encs, szs, dps]
    have ha := (enc_shw a h.1).mono (Nat.le_refl _) (show 2 * dp a ≤ 2 * max (dp a) (dps r) by omega)
    have hr := (encs_shw r h.2).mono (Nat.le_refl _) (show 2 * dps r ≤ 2 * max (dp a) (dps r) by omega)
    have := sz_pos a
    exact (Shws.cons ha hr).mono (by omega) (Nat.le_refl _)
end
end KW
set_option Elab.async false
set_option linter.all false
set_option maxRecDepth 100000
set_option maxHeartbeats 800000
namespace KW
open PySem PySem.Spec PyProof.Rows L2 KP
theorem withP_shw {v : Ex} {r : PV} {N D : Nat} (hv : okE v) (rv : Shw (rest v) (200 * sz v - 1) (2 * dp v + 1)) (hr : Shw r N D) : Shw (withP v r) (200 * sz v + N + 10) (max (2 * dp v + 1) D + 1) := by
  have hz := sz_pos v
  have gen : Shw (.tup [.str "with", r, rest v]) (200 * sz v + N + 10) (max (2 * dp v + 1) D + 1) :=
    (Shw.tup (D := max (2 * dp v + 1) D) (.cons .word (.cons (hr.mono (Nat.le_refl _) (by omega)) (.cons (rv.mono (Nat.le_refl _) (by omega)) .nil)))).mono (by omega) (Nat.le_refl _)
  cases v with
  | call f as =>
    rw [okE] at hv
    have hs := Shw.tup (encs_shw as hv.2.2)
    show Shw (.tup [.str "call", .str f, .tup (encs as), r]) _ _
    rw [sz, dp]
    exact (Shw.tup (D := max (2 * (dps as + 1) + 1) D) (.cons .word (.cons (.name hv.1) (.cons (hs.mono (Nat.le_refl _) (by omega)) (.cons (hr.mono (Nat.le_refl _) (by omega)) .nil))))).mono (by omega) (Nat.le_refl _)
  | ask a as =>
    rw [okE] at hv
    have ha := enc_shw a hv.1
    have hs := Shw.tup (encs_shw as hv.2.2)
    have := sz_pos a
    show Shw (.tup [.str "ask", enc a, .tup (encs as), r]) _ _
    rw [sz, dp]
    exact (Shw.tup (D := max (2 * (max (dp a) (dps as) + 1) + 1) D) (.cons .word (.cons (ha.mono (Nat.le_refl _) (by omega)) (.cons (hs.mono (Nat.le_refl _) (by omega)) (.cons (hr.mono (Nat.le_refl _) (by omega)) .nil))))).mono (by omega) (Nat.le_refl _)
  | num _ => exact gen
  | name _ => exact gen
  | fn _ => exact gen
  | op _ _ _ => exact gen
  | say _ => exact gen
  | lt _ _ _ => exact gen
  | iff _ _ _ => exact gen
  | rai _ => exact gen
  | tr _ _ _ => exact gen
theorem rest_shw : ∀ e : Ex, okE e → Shw (rest e) (200 * sz e - 1) (2 * dp e + 1)
  | .num n, h => by rw [rest, sz, dp]; exact (Shw.tup (D := 2) (.cons .word (.cons (enc_shw (.num n) h) .nil))).mono (by rw [sz]; omega) (by omega)
  | .name n, h => by rw [rest, sz, dp]; exact (Shw.tup (D := 2) (.cons .word (.cons (enc_shw (.name n) h) .nil))).mono (by rw [sz]; omega) (by omega)
  | .fn n, h => by rw [rest, sz, dp]; exact (Shw.tup (D := 2) (.cons .word (.cons (enc_shw (.fn n) h) .nil))).mono (by rw [sz]; omega) (by omega)
  | .op d a b, h => by rw [rest]; have := sz_pos (.op d a b); exact (enc_shw _ h).mono (by omega) (by omega)
  | .say a, h => by rw [rest]; have := sz_pos (.say a); exact (enc_shw _ h).mono (by omega) (by omega)
  | .rai a, h => by rw [rest]; have := sz_pos (.rai a); exact (enc_shw _ h).mono (by omega) (by omega)
  | .call f as, h => by
    rw [okE] at h
    rw [rest, sz, dp]
    have hs := Shw.tup (encs_shw as h.2.2)
    exact (Shw.tup (D := 2 * (dps as + 1)) (.cons .word (.cons (.name h.1) (.cons (hs.mono (Nat.le_refl _) (by omega)) (.cons (Shw.tup (D := 2 * dps as + 1) (.cons .word .nil)) .nil))))).mono (by omega) (by omega)
  | .ask a as, h => by
    rw [okE] at h
    rw [rest, sz, dp]
    have ha := enc_shw a h.1
    have hs := Shw.tup (encs_shw as h.2.2)
    have := sz_pos a
    exact (Shw.tup (D := 2 * (max (dp a) (dps as) + 1)) (.cons .word (.cons (ha.mono (Nat.le_refl _) (by omega)) (.cons (hs.mono (Nat.le_refl _) (by omega)) (.cons (Shw.tup (D := 2 * max (dp a) (dps as) + 1) (.cons .word .nil)) .nil))))).mono (by omega) (by omega)
  | .iff a b c, h => by
    rw [okE] at h
    rw [rest, sz, dp]
    have ha := enc_shw a h.1
    have hb := rest_shw b h.2.1
    have hc := rest_shw c h.2.2
    have := sz_pos a; have := sz_pos b; have := sz_pos c
    exact (Shw.tup (D := 2 * max (dp a) (max (dp b) (dp c)) + 1) (.cons .word (.cons (ha.mono (Nat.le_refl _) (by omega)) (.cons (hb.mono (Nat.le_refl _) (by omega)) (.cons (hc.mono (Nat.le_refl _) (by omega)) .nil))))).mono (by omega) (by omega)
  | .lt x a b, h => by
    rw [okE] at h
    have ha := enc_shw a h.2.1
    have hra := rest_shw a h.2.1
    have hb := rest_shw b h.2.2
    have := sz_pos a; have := sz_pos b
    rw [rest_lt, sz, dp]
    split
    · exact (Shw.tup (D := 2 * max (dp a) (dp b) + 1) (.cons .word (.cons (.name h.1) (.cons (ha.mono (Nat.le_refl _) (by omega)) (.cons (hb.mono (Nat.le_refl _) (by omega)) .nil))))).mono (by omega) (by omega)
    · exact (withP_shw h.2.1 hra (Shw.tup (D := 2 * dp b + 1) (.cons .word (.cons (.name h.1) (.cons hb .nil))))).mono (by omega) (by omega)
  | .tr a w b, h => by
    rw [okE] at h
    have hra := rest_shw a h.1
    have hb := rest_shw b h.2.2
    have := sz_pos a; have := sz_pos b
    rw [rest_tr, sz, dp]
    exact (withP_shw h.1 hra (Shw.tup (D := 2 * dp b + 1) (.cons .word (.cons (.name h.2.1) (.cons hb .nil))))).mono (by omega) (by omega)
theorem names_shw {D : Nat} : ∀ {l : List Str}, (∀ x ∈ l, okName x = true) → Shws (l.map PV.str) (9 * l.length) D
  | [], _ => .nil
  | x :: l, h => (Shws.cons (Shw.name (h x (List.mem_cons_self ..))) (names_shw fun y hy => h y (List.mem_cons_of_mem _ hy))).mono (by rw [List.length_cons]; omega) (Nat.le_refl _)
theorem fun_shw {f : Fun} {B : Nat} (o : FunOk f) (hB : sz f.bd ≤ B) : Shw f.rst (200 * B + 100) 122 := by
  have hr := rest_shw f.bd o.bd
  have h2 := o.dp
  have h3 := o.pl
  unfold Fun.rst
  exact (Shw.tup (D := 121) (.cons (.name o.nm) (.cons ((Shw.tup (D := 120) (names_shw o.ps)).mono (Nat.le_refl _) (by omega)) (.cons (hr.mono (Nat.le_refl _) (by omega)) .nil)))).mono (by omega) (by omega)
theorem funs_shw {B : Nat} : ∀ {fs : List Fun}, (∀ f ∈ fs, FunOk f ∧ sz f.bd ≤ B) → Shws (fs.map Fun.rst) ((200 * B + 101) * fs.length) 122
  | [], _ => .nil
  | f :: fs, h => (Shws.cons (fun_shw (h f (List.mem_cons_self ..)).1 (h f (List.mem_cons_self ..)).2) (funs_shw fun y hy => h y (List.mem_cons_of_mem _ hy))).mono (by rw [List.length_cons, Nat.mul_succ]; omega) (Nat.le_refl _)
/-- repr of what is so told -/
theorem repr_shw {p : PV} {h : PH} {N : Nat} (s : Shw p N 150) (hN : 15 * N + 13 ≤ lineN) : gRepr [p] h = some (.str (reprP p), h) := by
  unfold gRepr
  simp only
  rw [pok_dr _ s.ok]
  simp only
  have hl : (reprP p).length ≤ lineN := by
    have := PyData.shown_le_bulk 13 (by decide) _ s.lv
    have := s.bk
    unfold reprP
    omega
  have : reprOk p = true := by
    unfold reprOk
    rw [s.ok, s.sh, Nat.ble_eq_true_of_le hl, Nat.ble_eq_true_of_le s.dp]; rfl
  rw [if_pos this]
end KW
set_option Elab.async false
set_option linter.all false
set_option maxRecDepth 100000
set_option maxHeartbeats 800000
namespace KW
open PySem PySem.Spec PyProof.Rows L2 KP
section
variable {wr : Nat → Bool}
theorem app_ex {i n : Nat} {env : KP.Env} {h : PH} {xs : List PV} (p : PV) {X : EF} {rst : SF} {q : PV} {Q : PH → Prop} (e : env[i]? = some (some (.loc n))) (hn : h[n]? = some (.lst xs)) (w : wr n = true) (hx : X env h = some (p, h)) (l : Nat.ble (xs.length + 1) lineN = true)
    (k : ∀ h', h'[n]? = some (.lst (xs ++ [p])) → h'.length = h.length → ∃ env' h'', rst env h' = some (.ret q, env', h'') ∧ Q h'') :
    ∃ env' h'', sSeq (sDrop (eMeth "list" (mAppend wr) (eVar i) (aCons X aNil))) rst env h = some (.ret q, env', h'') ∧ Q h'' := by
  obtain ⟨env', h'', e1, e2⟩ := k (h.set n (.lst (xs ++ [p]))) (List.getElem?_set_self (List.getElem?_eq_some_iff.mp hn).1) (by rw [List.length_set])
  refine ⟨env', h'', (l_seq (l_drop (x := .non) ?_)).trans e1, e2⟩
  rw [l_meth (h1 := h) (h2 := h) (x := .loc n) (ps := [p]) (by unfold eVar; rw [e]) (tyP_lst hn) (l_a1 hx rfl), append_at hn w (Nat.le_of_ble_eq_true l)]
end
theorem seq_ex {env e1 : KP.Env} {h h1 : PH} {s r : SF} {q : PV} {Q : PH → Prop} (e : s env h = some (.nx, e1, h1)) (k : ∃ env' h'', r e1 h1 = some (.ret q, env', h'') ∧ Q h'') : ∃ env' h'', sSeq s r env h = some (.ret q, env', h'') ∧ Q h'' := by
  obtain ⟨env', h'', a, b⟩ := k
  exact ⟨env', h'', (l_seq e).trans a, b⟩
theorem cat_ex {i n : Nat} {env : KP.Env} {h : PH} {xs ps : List PV} {args : AF} {rst : SF} {q : PV} {Q : PH → Prop} (e : env[i]? = some (some (.loc n))) (hn : h[n]? = some (.lst xs)) (ha : args env h = some (ps, h)) (l : Nat.ble (xs.length + ps.length) lineN = true)
    (k : ∀ h', h'[h.length + 1]? = some (.lst (xs ++ ps)) → h'.length = h.length + 2 → ∃ env' h'', rst (env.set i (some (.loc (h.length + 1)))) h' = some (.ret q, env', h'') ∧ Q h'') :
    ∃ env' h'', sSeq (sAsg (eOp fAdd (eVar i) (eLst args)) (gNm i)) rst env h = some (.ret q, env', h'') ∧ Q h'' := by
  have l := Nat.le_of_ble_eq_true l
  obtain ⟨env', h'', e1, e2⟩ := k ((h ++ [.lst ps]) ++ [.lst (xs ++ ps)]) (by
    have := at_end (h := h ++ [.lst ps]) (o := .lst (xs ++ ps))
    rw [List.length_append] at this
    exact this) (by simp)
  refine ⟨env', h'', (l_seq (e1 := env.set i (some (.loc (h.length + 1)))) (h1 := (h ++ [.lst ps]) ++ [.lst (xs ++ ps)]) (l_asg (x := .loc (h.length + 1)) ?_ rfl)).trans e1, e2⟩
  rw [l_op (h1 := h) (h2 := h ++ [.lst ps]) (x := .loc n) (y := .loc h.length) (by unfold eVar; rw [e]) ?_]
  · unfold fAdd
    simp only
    rw [at_ext hn, at_end]
    simp only
    rw [if_pos l]
    simp
  · unfold eLst
    rw [ha, bnd_some, if_pos (by omega)]
/-! the twenty bodies -/
def pairP (e : Ex) : PV := .tup [enc e, rest e]
section
variable (f x w : Str) (n : Int)
def xA : Ex := .num n
def xV : Ex := .name x
def xCall : Ex := .call f (.cons (xV x) .nil)
def xAdd : Ex := .op "add" (xV x) (xA n)
def xSay : Ex := .say (xV x)
def xAsk : Ex := .ask (xV x) (.cons (xA n) (.cons (.fn f) .nil))
def ex1 : List Ex := [xA n, xV x, .fn f, .rai w]
def ex2 : List Ex := [xCall f x, xAsk f x n, .lt x (xA n) (xV x)]
def ex3 : List Ex := [.lt x (xCall f x) (xV x), .lt x (xAsk f x n) (xV x)]
def exL : List Ex := ex1 f x w n ++ ex2 f x n ++ [.lt x (xAdd x n) (xV x), .lt x (xSay x) (xCall f x)] ++ ex3 f x n ++ [.iff (xV x) (xCall f x) (.rai w), .tr (xCall f x) w (xV x), .tr (xV x) w (xAsk f x n), .lt x (.rai w) (xV x), .lt x (.iff (xV x) (xA n) (xCall f x)) (xV x),
  .lt x (.lt x (xCall f x) (xV x)) (xV x), .lt x (.lt x (xAdd x n) (xV x)) (xV x), .tr (.tr (xAsk f x n) w (xA n)) w (.rai w), .lt x (.tr (xV x) w (xA n)) (xCall f x)]
end
theorem ops_add : memP (.str "add") deedsL = true := by kernel_rfl
structure BodyOk (kvs : List (Key × PV)) (x : Str) (e : Ex) : Prop where
  ok : okE e
  sz : sz e ≤ 20
  dp : dp e ≤ 20
  nb : nb false e
  sc : scd kvs [.str x] e
theorem memP_self {x : Str} {l : List PV} : memP (.str x) (.str x :: l) = true := by
  rw [memP, eqP, sEq_self]; rfl
theorem memP_app {p : PV} : ∀ {l m : List PV}, memP p l = true → memP p (l ++ m) = true
  | q :: l, m, h => by
    rw [memP, Bool.or_eq_true] at h
    rw [List.cons_append, memP, Bool.or_eq_true]
    exact h.imp id memP_app
  | [], _, h => by cases h
theorem bodies_ok {kvs : List (Key × PV)} {f x w : Str} {n : Int} (hf : okName f = true) (hx : okName x = true) (hw : okName w = true) (h1 : -1000000000 ≤ n) (h2 : n ≤ 1000000000) {ps : List PV} {b : PV} (hg : getK (.inr f) kvs = some (.tup [.tup ps, b])) (hp : ps.length = 1) :
    ∀ e ∈ exL f x w n, BodyOk kvs x e := by
  have m1 : ∀ l : List PV, memP (.str x) (.str x :: l) = true := fun l => memP_self
  intro e he
  simp only [exL, ex1, ex2, ex3, List.append_assoc, List.cons_append, List.nil_append, List.mem_cons, List.not_mem_nil, or_false] at he
  have hg1 : ∃ ps b, getK (.inr f) kvs = some (PV.tup [.tup ps, b]) := ⟨_, _, hg⟩
  have hg2 : ∃ ps, (∃ b, getK (.inr f) kvs = some (PV.tup [.tup ps, b])) ∧ 1 = ps.length := ⟨_, ⟨_, hg⟩, hp.symm⟩
  rcases he with h | h | h | h | h | h | h | h | h | h | h | h | h | h | h | h | h | h | h | h <;> subst h <;>
    exact ⟨by simp [okE, okEs, xA, xV, xCall, xAdd, xSay, xAsk, Exs.list, hf, hx, hw, h1, h2, ops_add], by simp [sz, szs, xA, xV, xCall, xAdd, xSay, xAsk], by simp [dp, dps, xA, xV, xCall, xAdd, xSay, xAsk], by simp [nb, isAtom, xA, xV, xCall, xAdd, xSay, xAsk, Exs.list],
      by simp [scd, scds, xA, xV, xCall, xAdd, xSay, xAsk, Exs.list, m1, hg1, hg2]⟩
theorem s_pairs {k : Nat} {wr : Nat → Bool} {h : PH} {f x w : Str} {n : Int} : evC bod tab (k + 1) wr ("_law_pairs", none) [.str f, .str x, .str w, .int n] h = some (.loc h.length, h ++ [.lst ((exL f x w n).map pairP)]) := by
  rw [ev__law_pairs]
  have fr : ∀ {j : Nat}, h.length ≤ j → freshW h j = true := fun h => fresh_ge h
  obtain ⟨q4, q4e⟩ : ∃ z, z = (ex1 f x w n).map pairP := ⟨_, rfl⟩
  have body : ∃ env' h'', b__law_pairs (evC bod tab k) (freshW h) [some (.str f), some (.str x), some (.str w), some (.int n), none, none, none, none, none, none, none, none, none, none, none, none] h = some (.ret (.loc (h.length + 4)), env', h'') ∧ h''[h.length + 4]? = some (.lst ((exL f x w n).map pairP)) := by
    refine seq_ex (e1 := [some (.str f), some (.str x), some (.str w), some (.int n), some (enc (xA n)), some (enc (xV x)), some (enc (xCall f x)), none, none, none, none, none, none, none, none, none]) (h1 := h) (by kernel_rfl) ?_
    refine seq_ex (e1 := [some (.str f), some (.str x), some (.str w), some (.int n), some (enc (xA n)), some (enc (xV x)), some (enc (xCall f x)), some (enc (xAdd x n)), some (enc (xSay x)), some (enc (xAsk f x n)), none, none, none, none, none, none]) (h1 := h) (by kernel_rfl) ?_
    refine seq_ex (e1 := [some (.str f), some (.str x), some (.str w), some (.int n), some (enc (xA n)), some (enc (xV x)), some (enc (xCall f x)), some (enc (xAdd x n)), some (enc (xSay x)), some (enc (xAsk f x n)), some (.tup [.str "pass", enc (xV x)]), some (.tup [.str "same"]), some (enc (.rai w)), none, none, none]) (h1 := h) (by kernel_rfl) ?_
    refine seq_ex (e1 := [some (.str f), some (.str x), some (.str w), some (.int n), some (enc (xA n)), some (enc (xV x)), some (enc (xCall f x)), some (enc (xAdd x n)), some (enc (xSay x)), some (enc (xAsk f x n)), some (.tup [.str "pass", enc (xV x)]), some (.tup [.str "same"]), some (enc (.rai w)), some (.tup [.str "then", .str x, .tup [.str "pass", enc (xV x)]]), none, none]) (h1 := h) (by kernel_rfl) ?_
    refine seq_ex (e1 := [some (.str f), some (.str x), some (.str w), some (.int n), some (enc (xA n)), some (enc (xV x)), some (enc (xCall f x)), some (enc (xAdd x n)), some (enc (xSay x)), some (enc (xAsk f x n)), some (.tup [.str "pass", enc (xV x)]), some (.tup [.str "same"]), some (enc (.rai w)), some (.tup [.str "then", .str x, .tup [.str "pass", enc (xV x)]]), some (.loc h.length), none]) (h1 := h ++ [.lst ((ex1 f x w n).map pairP)]) (by kernel_rfl) ?_
    refine cat_ex (n := h.length) (xs := (ex1 f x w n).map pairP) (ps := (ex2 f x n).map pairP) rfl at_end (by kernel_rfl) (by kernel_rfl) fun ha na la => ?_
    rw [show (h ++ [PO.lst ((ex1 f x w n).map pairP)]).length + 1 = h.length + 2 from by simp] at na ⊢
    rw [show (h ++ [PO.lst ((ex1 f x w n).map pairP)]).length + 2 = h.length + 3 from by simp] at la
    refine app_ex (n := h.length + 2) (pairP (.lt x (xAdd x n) (xV x))) rfl na (fr (by omega)) (by kernel_rfl) (by kernel_rfl) fun h0 n0 l0 => ?_
    refine app_ex (n := h.length + 2) (pairP (.lt x (xSay x) (xCall f x))) rfl n0 (fr (by omega)) (by kernel_rfl) (by kernel_rfl) fun h1 n1 l1 => ?_
    refine cat_ex (n := h.length + 2) (ps := (ex3 f x n).map pairP) rfl n1 (by kernel_rfl) (by kernel_rfl) fun hb nb' lb => ?_
    rw [show h1.length + 1 = h.length + 4 from by omega] at nb' ⊢
    refine app_ex (n := h.length + 4) (pairP (.iff (xV x) (xCall f x) (.rai w))) rfl nb' (fr (by omega)) (by kernel_rfl) (by kernel_rfl) fun h2 n2 l2 => ?_
    refine app_ex (n := h.length + 4) (pairP (.tr (xCall f x) w (xV x))) rfl n2 (fr (by omega)) (by kernel_rfl) (by kernel_rfl) fun h3 n3 l3 => ?_
    refine app_ex (n := h.length + 4) (pairP (.tr (xV x) w (xAsk f x n))) rfl n3 (fr (by omega)) (by kernel_rfl) (by kernel_rfl) fun h4 n4 l4 => ?_
    refine app_ex (n := h.length + 4) (pairP (.lt x (.rai w) (xV x))) rfl n4 (fr (by omega)) (by kernel_rfl) (by kernel_rfl) fun h5 n5 l5 => ?_
    refine app_ex (n := h.length + 4) (pairP (.lt x (.iff (xV x) (xA n) (xCall f x)) (xV x))) rfl n5 (fr (by omega)) (by kernel_rfl) (by kernel_rfl) fun h6 n6 l6 => ?_
    refine app_ex (n := h.length + 4) (pairP (.lt x (.lt x (xCall f x) (xV x)) (xV x))) rfl n6 (fr (by omega)) (by kernel_rfl) (by kernel_rfl) fun h7 n7 l7 => ?_
    refine app_ex (n := h.length + 4) (pairP (.lt x (.lt x (xAdd x n) (xV x)) (xV x))) rfl n7 (fr (by omega)) (by kernel_rfl) (by kernel_rfl) fun h8 n8 l8 => ?_
    refine seq_ex (e1 := [some (.str f), some (.str x), some (.str w), some (.int n), some (enc (xA n)), some (enc (xV x)), some (enc (xCall f x)), some (enc (xAdd x n)), some (enc (xSay x)), some (enc (xAsk f x n)), some (.tup [.str "pass", enc (xV x)]), some (.tup [.str "same"]), some (enc (.rai w)), some (.tup [.str "then", .str x, .tup [.str "pass", enc (xV x)]]), some (.loc (h.length + 4)), some (.tup [.str "catch", .str w, .tup [.str "pass", enc (xA n)]])]) (h1 := h8) (by kernel_rfl) ?_
    refine app_ex (n := h.length + 4) (pairP (.tr (.tr (xAsk f x n) w (xA n)) w (.rai w))) rfl n8 (fr (by omega)) (by kernel_rfl) (by kernel_rfl) fun h9 n9 l9 => ?_
    refine app_ex (n := h.length + 4) (pairP (.lt x (.tr (xV x) w (xA n)) (xCall f x))) rfl n9 (fr (by omega)) (by kernel_rfl) (by kernel_rfl) fun h10 n10 l10 => ?_
    refine ⟨[some (.str f), some (.str x), some (.str w), some (.int n), some (enc (xA n)), some (enc (xV x)), some (enc (xCall f x)), some (enc (xAdd x n)), some (enc (xSay x)), some (enc (xAsk f x n)), some (.tup [.str "pass", enc (xV x)]), some (.tup [.str "same"]), some (enc (.rai w)), some (.tup [.str "then", .str x, .tup [.str "pass", enc (xV x)]]), some (.loc (h.length + 4)), some (.tup [.str "catch", .str w, .tup [.str "pass", enc (xA n)]])], h10, by kernel_rfl, ?_⟩
    rw [n10]
    kernel_rfl
  obtain ⟨env', h'', e1, e2⟩ := body
  rw [e1, fin_ret]
  exact trunc_lst (by omega) e2 (by
    have : ∀ l : List Ex, plains (l.map pairP) = true := by
      intro l
      induction l with
      | nil => rfl
      | cons e l ih =>
        have : plain (pairP e) = true := by
          unfold pairP
          rw [plain_tup, plains, plains, plain_enc, plain_rest]; rfl
        rw [List.map_cons, plains, this, ih]; rfl
    exact this _)
end KW
set_option Elab.async false
set_option linter.all false
set_option maxRecDepth 100000
set_option maxHeartbeats 800000
namespace KW
open PySem PySem.Spec PyProof.Rows L2 KP
section
variable {wr : Nat → Bool} {h : PH} {K : Nat}
theorem s_mk {env : KP.Env} (hw : wr h.length = true) : ∃ h', eMk tab (evC bod tab (K + 1)) wr "Program" aNil env h = some (.loc h.length, h') ∧ Prg h' h.length (h.length + 1) [] ∧ Ext h h' ∧ h'.length = h.length + 2 := by
  have hn : (h ++ [PO.ins "Program" []])[h.length]? = some (.ins "Program" []) := at_end
  refine ⟨((h ++ [PO.ins "Program" []]) ++ [PO.dic []]).set h.length (PO.ins "Program" [("functions", .loc (h ++ [PO.ins "Program" []]).length)]), ?_, ⟨?_, ?_⟩, ?_, by simp⟩
  · unfold eMk
    rw [show aNil env h = some ([], h) from rfl, bnd_some, if_pos mks_Program, ct_Program___init__, s_init hn hw, bnd_some]
  · rw [List.getElem?_set_self (by simp)]
    simp
  · rw [List.getElem?_set_ne (by omega)]
    have := at_end (h := h ++ [PO.ins "Program" []]) (o := PO.dic [])
    rw [List.length_append] at this
    exact this
  · exact ((Ext.app _).trans (Ext.app _)).set (Nat.le_refl _)
/-- a program of one function -/
def onlyF (f x : Str) (e : Ex) : Fun := ⟨f, [x], e⟩
theorem only_ok {f x : Str} {e : Ex} (hf : okName f = true) (hx : okName x = true) (b : BodyOk (kvF [onlyF f x e]) x e) : PrgOk [onlyF f x e] :=
  ⟨fun g hg => by
    obtain rfl := List.mem_singleton.mp hg
    exact ⟨hf, fun y hy => by obtain rfl := List.mem_singleton.mp hy; exact hx, by show 1 ≤ 6; omega, b.ok, Nat.le_trans b.sz (by decide), Nat.le_trans b.dp (by decide), b.nb⟩, fun g hg => by
    obtain rfl := List.mem_singleton.mp hg
    exact b.sc, by simp, by show 1 ≤ 20; omega⟩
theorem strO_prg {n m : Nat} {fs : List Fun} {t : Str} (P : Prg h n m (kvF fs)) (hs : evC bod tab K wr ("Program", some "__str__") [.loc n] h = some (.str t, h)) : gStrO tab (evC bod tab K) wr [.loc n] h = some (.str t, h) := by
  unfold gStrO
  simp only
  rw [P.ins]
  simp only
  rw [meth_Program___str__, show (lookS "__str__" [(("functions" : Str), PV.loc m)]).isNone = true from by kernel_rfl, ct_Program___str__, hs]
  rfl
def t2B (call : CallF) (wr : Nat → Bool) : SF := (sSeq (sIf (eOr (eOp fNe (eCall gRepr (aCons (eFn tab call wr "rested" (aCons (eVar 10) aNil)) aNil)) (eCall gRepr (aCons (eTup (aCons (eTup (aCons (eVar 4) (aCons (eTup (aCons (eVar 5) aNil)) (aCons (eVar 9) aNil)))) aNil)) aNil))) (eOp fNe (eCall (gStrO tab call wr) (aCons (eVar 10) aNil)) (eVar 11))) (sSeq (sRet (eCst (.bl false)))
            sNext) sNext)
          sNext)
def t1B (call : CallF) (wr : Nat → Bool) : SF := (sSeq (sAsg (eMk tab call wr "Program" aNil) (gNm 10))
        (sSeq (sDrop (eOwn tab call wr "put" (eVar 10) (aCons (eVar 4) (aCons (eTup (aCons (eVar 5) aNil)) (aCons (eVar 8) aNil)))))
        (sSeq (sAsg (eCall (gStrO tab call wr) (aCons (eVar 10) aNil)) (gNm 11))
        (sSeq (sFor wr (iRange1 (eCst (.int 2))) (gNm 12) (t2B call))
        sNext))))
theorem own_var {f : AF} {i n m : Nat} {kvs : List (Key × PV)} {mm : Str} {ps : List PV} {env : KP.Env} {wr' : Nat → Bool} {call : CallF} (P : Prg h n m kvs) (e : env[i]? = some (some (PV.loc n))) (hm : tab.meth "Program" mm = true) (hl : lookS mm [(("functions" : Str), PV.loc m)] = none) (hf : f env h = some (ps, h)) : eOwn tab call wr' mm (eVar i) f env h = callT tab call wr' ("Program", some mm) (.loc n :: ps) h := by
  unfold eOwn
  rw [show eVar i env h = some (.loc n, h) from by unfold eVar; rw [e], bnd_some]
  simp only
  rw [P.ins]
  simp only
  rw [hm, hl, hf, bnd_some]
  rfl
theorem t2_turn {n m : Nat} {f x : Str} {e : Ex} {e0 e1 e2 e3 e6 e7 e12 e13 e14 e15 e16 : Option PV} {i : PV} (P : Prg h n m (kvF [onlyF f x e])) (ok : PrgOk [onlyF f x e]) (hz : sz e ≤ 20) (hK : 140 ≤ K) :
    turnF (gNm 12) (t2B (evC bod tab K) wr) i [e0, e1, e2, e3, some (.str f), some (.str x), e6, e7, some (enc e), some (rest e), some (.loc n), some (.str (ptxt [onlyF f x e])), e12, e13, e14, e15, e16] h =
      some (.nx, [e0, e1, e2, e3, some (.str f), some (.str x), e6, e7, some (enc e), some (rest e), some (.loc n), some (.str (ptxt [onlyF f x e])), some i, e13, e14, e15, e16], h) := by
  show t2B (evC bod tab K) wr [e0, e1, e2, e3, some (.str f), some (.str x), e6, e7, some (enc e), some (rest e), some (.loc n), some (.str (ptxt [onlyF f x e])), some i, e13, e14, e15, e16] h = _
  unfold t2B
  have big : (1 : Nat) ≤ lineN := by decide
  have hsh : Shw (.tup ([onlyF f x e].map Fun.rst)) 4101 123 := (Shw.tup (D := 122) (funs_shw (B := 20) (fs := [onlyF f x e]) fun g hg => by
    obtain rfl := List.mem_singleton.mp hg
    exact ⟨ok.ok _ (List.mem_singleton.mpr rfl), hz⟩)).mono (by simp) (by omega)
  have hrep : ∀ h, gRepr [.tup ([onlyF f x e].map Fun.rst)] h = some (.str (reprP (.tup ([onlyF f x e].map Fun.rst))), h) := fun h => repr_shw (hsh.mono (Nat.le_refl _) (by omega)) (by decide)
  refine (l_seq (e1 := [e0, e1, e2, e3, some (.str f), some (.str x), e6, e7, some (enc e), some (rest e), some (.loc n), some (.str (ptxt [onlyF f x e])), some i, e13, e14, e15, e16]) (h1 := h) ((l_if (b := false) (h1 := h) ?_).trans rfl)).trans rfl
  rw [l_or2 (h1 := h) ?_]
  · rw [l_op (h1 := h) (h2 := h) (x := .str (ptxt [onlyF f x e])) (y := .str (ptxt [onlyF f x e])) ?_ rfl, KP.ne_str, sEq_self]
    · rfl
    · rw [l_call (ps := [.loc n]) (h1 := h) rfl, strO_prg P (s_str P ok.ok ok.nd ok.few (by omega))]
  · rw [l_op (h1 := h) (h2 := h) (x := .str (reprP (.tup ([onlyF f x e].map Fun.rst)))) (y := .str (reprP (.tup ([onlyF f x e].map Fun.rst)))) ?_ ?_, KP.ne_str, sEq_self]
    · rfl
    · rw [l_call (ps := [.tup ([onlyF f x e].map Fun.rst)]) (h1 := h) (l_a1 (h1 := h) ?_ rfl), hrep]
      rw [l_fn (h1 := h) (ps := [.loc n]) rfl, ct_rested, s_rested P ok (by omega)]
    · rw [l_call (ps := [.tup ([onlyF f x e].map Fun.rst)]) (h1 := h) (by kernel_rfl), hrep]
theorem t1_turn {f x : Str} {e : Ex} {e0 e1 e2 e3 e6 e7 e8 e9 e10 e11 e12 e13 e14 e15 e16 : Option PV} (hf : okName f = true) (hx : okName x = true) (b : BodyOk (kvF [onlyF f x e]) x e) (hw : ∀ j, h.length ≤ j → wr j = true) (hK : 140 ≤ K) :
    ∃ a10 a11 a12 h', turnF (gTp 2 (gsCons (gNm 8) (gsCons (gNm 9) gsNil))) (t1B (evC bod tab K) wr) (pairP e) [e0, e1, e2, e3, some (.str f), some (.str x), e6, e7, e8, e9, e10, e11, e12, e13, e14, e15, e16] h =
      some (.nx, [e0, e1, e2, e3, some (.str f), some (.str x), e6, e7, some (enc e), some (rest e), a10, a11, a12, e13, e14, e15, e16], h') ∧ Ext h h' := by
  obtain ⟨K, rfl⟩ : ∃ j, K = j + 7 := ⟨K - 7, by omega⟩
  have ok := only_ok hf hx b
  have o := ok.ok _ (List.mem_singleton.mpr rfl)
  obtain ⟨h1, em, P1, x1, l1⟩ := s_mk (wr := wr) (h := h) (K := K + 6) (env := [e0, e1, e2, e3, some (.str f), some (.str x), e6, e7, some (enc e), some (rest e), e10, e11, e12, e13, e14, e15, e16]) (hw _ (Nat.le_refl _))
  have hm1 : h.length + 1 < h1.length := by omega
  obtain ⟨h2, e2'⟩ : ∃ z, z = h1.set (h.length + 1) (PO.dic (kvF [onlyF f x e])) := ⟨_, rfl⟩
  have P2 : Prg h2 h.length (h.length + 1) (kvF [onlyF f x e]) := ⟨by rw [e2', List.getElem?_set_ne (by omega)]; exact P1.ins, by rw [e2', List.getElem?_set_self hm1]⟩
  have x2 : Ext h h2 := by rw [e2']; exact x1.set (by omega)
  refine ⟨some (.loc h.length), some (.str (ptxt [onlyF f x e])), some (.int 1), h2, ?_, x2⟩
  show t1B (evC bod tab (K + 7)) wr [e0, e1, e2, e3, some (.str f), some (.str x), e6, e7, some (enc e), some (rest e), e10, e11, e12, e13, e14, e15, e16] h = _
  unfold t1B
  refine (l_seq (e1 := [e0, e1, e2, e3, some (.str f), some (.str x), e6, e7, some (enc e), some (rest e), some (.loc h.length), e11, e12, e13, e14, e15, e16]) (h1 := h1) (l_asg (x := .loc h.length) em rfl)).trans ?_
  refine (l_seq (e1 := [e0, e1, e2, e3, some (.str f), some (.str x), e6, e7, some (enc e), some (rest e), some (.loc h.length), e11, e12, e13, e14, e15, e16]) (h1 := h2) (l_drop (x := .non) ?_)).trans ?_
  · rw [own_var (i := 10) (ps := [.str f, .tup [.str x], enc e]) P1 rfl meth_Program_put (by kernel_rfl) (by kernel_rfl), ct_Program_put, s_put P1 (hw _ (by omega)) hf hx b.ok o.sz o.dp rfl (by decide) List.nodup_nil, e2']
    rfl
  refine (l_seq (e1 := [e0, e1, e2, e3, some (.str f), some (.str x), e6, e7, some (enc e), some (rest e), some (.loc h.length), some (.str (ptxt [onlyF f x e])), e12, e13, e14, e15, e16]) (h1 := h2) (l_asg (x := .str (ptxt [onlyF f x e])) ?_ rfl)).trans ?_
  · rw [l_call (ps := [.loc h.length]) (h1 := h2) rfl, strO_prg P2 (s_str P2 ok.ok ok.nd ok.few (by omega))]
  refine (l_seq (e1 := [e0, e1, e2, e3, some (.str f), some (.str x), e6, e7, some (enc e), some (rest e), some (.loc h.length), some (.str (ptxt [onlyF f x e])), some (.int 1), e13, e14, e15, e16]) (h1 := h2) ?_).trans rfl
  have el : sFor wr (iRange1 (eCst (.int 2))) (gNm 12) (t2B (evC bod tab (K + 7))) [e0, e1, e2, e3, some (.str f), some (.str x), e6, e7, some (enc e), some (rest e), some (.loc h.length), some (.str (ptxt [onlyF f x e])), e12, e13, e14, e15, e16] h2 = loopF (turnF (gNm 12) (t2B (evC bod tab (K + 7)) wr)) [.int 0, .int 1] [e0, e1, e2, e3, some (.str f), some (.str x), e6, e7, some (enc e), some (rest e), some (.loc h.length), some (.str (ptxt [onlyF f x e])), e12, e13, e14, e15, e16] h2 := by kernel_rfl
  rw [el]
  refine (loop_nx (t2_turn P2 ok b.sz (by omega))).trans ((loop_nx (t2_turn P2 ok b.sz (by omega))).trans rfl)
end
end KW
set_option Elab.async false
set_option linter.all false
set_option maxRecDepth 100000
set_option maxHeartbeats 800000
namespace KW
open PySem PySem.Spec PyProof.Rows L2 KP
def natsNd : List Str → Bool
  | [] => true
  | x :: xs => xs.all (fun y => !sEq x y) && natsNd xs
theorem nd_of : ∀ {xs : List Str}, natsNd xs = true → xs.Nodup
  | [], _ => List.nodup_nil
  | x :: xs, h => by
    rw [natsNd, Bool.and_eq_true] at h
    rw [List.nodup_cons]
    refine ⟨fun hx => ?_, nd_of h.2⟩
    have := List.all_eq_true.mp h.1 x hx
    rw [sEq_self] at this
    cases this
def tL : List Nat := ("abcdefghijklmnopqrst" : Str).cps.toList
def nmQ (f : Str) (k : Nat) : Str := if k = 3 then f else ("q" : Str) ++ ⟨⟨[tL.getD k 0]⟩⟩
def qfuns (f x : Str) : Nat → List Ex → List Fun
  | _, [] => []
  | k, e :: es => ⟨nmQ f k, [x], e⟩ :: qfuns f x (k + 1) es
theorem tL_len : tL.length = 20 := by kernel_rfl
theorem nmQ_ok {f : Str} (hf : okName f = true) {k : Nat} (hk : k < 20) : okName (nmQ f k) = true := by
  unfold nmQ
  split
  · exact hf
  · have h : ((List.range 20).all fun k => okName (("q" : Str) ++ ⟨⟨[tL.getD k 0]⟩⟩)) = true := by kernel_rfl
    exact List.all_eq_true.mp h k (List.mem_range.mpr hk)
theorem qf_len {f x : Str} : ∀ {k : Nat} {es : List Ex}, (qfuns f x k es).length = es.length
  | _, [] => rfl
  | k, e :: es => by rw [qfuns, List.length_cons, qf_len, List.length_cons]
theorem qf_names {f x : Str} : ∀ (k : Nat) (es : List Ex), (qfuns f x k es).map Fun.nm = (List.range' k es.length).map (nmQ f)
  | _, [] => rfl
  | k, e :: es => by rw [qfuns, List.map_cons, qf_names (k + 1) es, List.length_cons, List.range'_succ, List.map_cons]
theorem qf_mem {f x : Str} : ∀ {k : Nat} {es : List Ex} {g : Fun}, g ∈ qfuns f x k es → ∃ j, k ≤ j ∧ j < k + es.length ∧ g.nm = nmQ f j ∧ g.ps = [x] ∧ g.bd ∈ es
  | k, e :: es, g, h => by
    rw [qfuns] at h
    rcases List.mem_cons.mp h with q | h
    · subst q; exact ⟨k, Nat.le_refl _, by rw [List.length_cons]; omega, rfl, rfl, List.mem_cons_self ..⟩
    · obtain ⟨j, h1, h2, h3, h4, h5⟩ := qf_mem h
      exact ⟨j, by omega, by rw [List.length_cons]; omega, h3, h4, List.mem_cons_of_mem _ h5⟩
  | _, [], _, h => by cases h
theorem qf_app {f x : Str} : ∀ {k : Nat} {es : List Ex} {e : Ex}, qfuns f x k (es ++ [e]) = qfuns f x k es ++ [⟨nmQ f (k + es.length), [x], e⟩]
  | k, [], e => rfl
  | k, d :: es, e => by
    rw [List.cons_append, qfuns, qf_app, qfuns, List.cons_append, List.length_cons, show k + 1 + es.length = k + (es.length + 1) from by omega]
theorem getK_none {nm : Str} : ∀ {fs : List Fun}, nm ∉ fs.map Fun.nm → getK (.inr nm) (kvF fs) = none
  | [], _ => rfl
  | g :: fs, h => by
    rw [List.map_cons, List.mem_cons, not_or] at h
    rw [show kvF (g :: fs) = (.inr g.nm, g.pv) :: kvF fs from rfl, getK_cons]
    have : kEq (.inr g.nm) (.inr nm) = false := by
      rw [kEq_inr]
      cases q : sEq g.nm nm with
      | false => rfl
      | true => exact absurd ((sEq_iff).mp q).symm h.1
    rw [this, if_neg Bool.false_ne_true]
    exact getK_none h.2
theorem putD_new {nm : Str} {v : PV} : ∀ {fs : List Fun}, nm ∉ fs.map Fun.nm → putD (.inr nm) v (kvF fs) = kvF fs ++ [(.inr nm, v)]
  | [], _ => rfl
  | g :: fs, h => by
    rw [List.map_cons, List.mem_cons, not_or] at h
    rw [show kvF (g :: fs) = (.inr g.nm, g.pv) :: kvF fs from rfl, putD]
    have : kEq (.inr g.nm) (.inr nm) = false := by
      rw [kEq_inr]
      cases q : sEq g.nm nm with
      | false => rfl
      | true => exact absurd ((sEq_iff).mp q).symm h.1
    rw [this, if_neg Bool.false_ne_true, putD_new h.2]
    rfl
theorem kvF_names (fs : List Fun) : (kvF fs).map (·.1) = (fs.map Fun.nm).map (Sum.inr : Str → Key) := by
  unfold kvF; rw [List.map_map, List.map_map]; rfl
theorem keys_nd {fs : List Fun} (h : (fs.map Fun.nm).Nodup) : ((kvF fs).map (·.1)).Nodup := by
  rw [kvF_names]
  refine List.Pairwise.map _ (fun a b hab e => hab ?_) h
  injection e
theorem kvF_app {fs : List Fun} {g : Fun} : kvF fs ++ [(.inr g.nm, g.pv)] = kvF (fs ++ [g]) := by
  unfold kvF; rw [List.map_append]; rfl
section
variable {wr : Nat → Bool} {h : PH} {K : Nat}
theorem t1_loop {f x : Str} {e0 e1 e2 e3 e6 e7 e13 e14 e15 e16 : Option PV} (hf : okName f = true) (hx : okName x = true) (hK : 140 ≤ K) : ∀ (es : List Ex) (h : PH) (e8 e9 e10 e11 e12 : Option PV), (∀ e ∈ es, BodyOk (kvF [onlyF f x e]) x e) → (∀ j, h.length ≤ j → wr j = true) →
    ∃ a8 a9 a10 a11 a12 h', loopF (turnF (gTp 2 (gsCons (gNm 8) (gsCons (gNm 9) gsNil))) (t1B (evC bod tab K) wr)) (es.map pairP) [e0, e1, e2, e3, some (.str f), some (.str x), e6, e7, e8, e9, e10, e11, e12, e13, e14, e15, e16] h =
      some (.nx, [e0, e1, e2, e3, some (.str f), some (.str x), e6, e7, a8, a9, a10, a11, a12, e13, e14, e15, e16], h') ∧ Ext h h'
  | [], h, e8, e9, e10, e11, e12, _, _ => ⟨e8, e9, e10, e11, e12, h, rfl, .refl⟩
  | e :: es, h, e8, e9, e10, e11, e12, hb, hw => by
    obtain ⟨b10, b11, b12, h1, t, x1⟩ := t1_turn (e0 := e0) (e1 := e1) (e2 := e2) (e3 := e3) (e6 := e6) (e7 := e7) (e8 := e8) (e9 := e9) (e10 := e10) (e11 := e11) (e12 := e12) (e13 := e13) (e14 := e14) (e15 := e15) (e16 := e16) hf hx (hb e (List.mem_cons_self ..)) hw hK
    obtain ⟨a8, a9, a10, a11, a12, h', el, x2⟩ := t1_loop hf hx hK es h1 (some (enc e)) (some (rest e)) b10 b11 b12 (fun g hg => hb g (List.mem_cons_of_mem _ hg)) (fun j hj => hw j (Nat.le_trans x1.len hj))
    exact ⟨a8, a9, a10, a11, a12, h', (loop_nx t).trans el, x1.trans x2⟩
def t3B (call : CallF) (wr : Nat → Bool) : SF := (sSeq (sAsg (eIte (eOp fEq (eVar 14) (eCst (.int 3))) (eVar 4) (eOp fAdd (eCst (.str "q")) (eOp (fIxT tab) (eCst (.str "abcdefghijklmnopqrst")) (eVar 14)))) (gNm 16))
        (sSeq (sDrop (eOwn tab call wr "put" (eVar 10) (aCons (eVar 16) (aCons (eTup (aCons (eVar 5) aNil)) (aCons (eOp (fIxT tab) (eVar 15) (eCst (.int 0))) aNil)))))
        (sSeq (sDrop (eMeth "list" (mAppend wr) (eVar 13) (aCons (eTup (aCons (eVar 16) (aCons (eTup (aCons (eVar 5) aNil)) (aCons (eOp (fIxT tab) (eVar 15) (eCst (.int 1))) aNil)))) aNil)))
        sNext)))
/-- all but m and r stands -/
def But (m r : Nat) (h h' : PH) : Prop := ∀ (j : Nat) (p : PO), j ≠ m → j ≠ r → h[j]? = some p → h'[j]? = some p
theorem t3_turn {f x : Str} {e : Ex} {k n m r : Nat} {pre : List Ex} {e0 e1 e2 e3 e6 e7 e8 e9 e11 e12 e14 e15 e16 : Option PV} (hf : okName f = true) (hx : okName x = true) (P : Prg h n m (kvF (qfuns f x 0 pre))) (hr : h[r]? = some (.lst ((qfuns f x 0 pre).map Fun.rst))) (hk : pre.length = k) (hk2 : k < 20)
    (hnm : n ≠ m) (hnr : n ≠ r) (hmr : m ≠ r) (wm : wr m = true) (wr' : wr r = true) (he : okE e) (h1 : sz e ≤ 300) (h2 : dp e ≤ 60) (nd : ((List.range' 0 20).map (nmQ f)).Nodup) (hK : 140 ≤ K) :
    ∃ a16 h', turnF (gTp 2 (gsCons (gNm 14) (gsCons (gNm 15) gsNil))) (t3B (evC bod tab K) wr) (.tup [.int (k : Nat), pairP e]) [e0, e1, e2, e3, some (.str f), some (.str x), e6, e7, e8, e9, some (.loc n), e11, e12, some (.loc r), e14, e15, e16] h =
      some (.nx, [e0, e1, e2, e3, some (.str f), some (.str x), e6, e7, e8, e9, some (.loc n), e11, e12, some (.loc r), some (.int (k : Nat)), some (pairP e), a16], h') ∧ Prg h' n m (kvF (qfuns f x 0 (pre ++ [e]))) ∧ h'[r]? = some (.lst ((qfuns f x 0 (pre ++ [e])).map Fun.rst)) ∧ But m r h h' := by
  obtain ⟨K, rfl⟩ : ∃ j, K = j + 7 := ⟨K - 7, by omega⟩
  have big : (1001 : Nat) ≤ lineN := by decide
  have hm : m < h.length := (List.getElem?_eq_some_iff.mp P.dic).1
  have hrl : r < h.length := (List.getElem?_eq_some_iff.mp hr).1
  have hqn := qf_names (f := f) (x := x) 0 pre
  have ndk : ((List.range' 0 (k + 1)).map (nmQ f)).Nodup := by
    refine List.Nodup.sublist (List.Sublist.map _ ?_) nd
    exact List.range'_sublist_right.mpr (by omega)
  rw [List.range'_concat, List.map_append, ← hk, ← hqn] at ndk
  simp only [Nat.zero_add, Nat.one_mul, List.map_cons, List.map_nil] at ndk
  have nd1 := (List.nodup_append.mp ndk).1
  have new : nmQ f k ∉ (qfuns f x 0 pre).map Fun.nm := fun hm' => by
    have := (List.nodup_append.mp ndk).2.2 (nmQ f pre.length) (by rw [hk]; exact hm') (nmQ f pre.length) (List.mem_singleton.mpr rfl)
    exact this rfl
  have hq : qfuns f x 0 (pre ++ [e]) = qfuns f x 0 pre ++ [⟨nmQ f k, [x], e⟩] := by rw [qf_app, Nat.zero_add, hk]
  obtain ⟨h3, e3'⟩ : ∃ z, z = h.set m (PO.dic (kvF (qfuns f x 0 (pre ++ [e])))) := ⟨_, rfl⟩
  have r3 : h3[r]? = some (.lst ((qfuns f x 0 pre).map Fun.rst)) := by rw [e3', List.getElem?_set_ne hmr]; exact hr
  have P3 : Prg h3 n m (kvF (qfuns f x 0 (pre ++ [e]))) := ⟨by rw [e3', List.getElem?_set_ne (Ne.symm hnm)]; exact P.ins, by rw [e3', List.getElem?_set_self hm]⟩
  refine ⟨some (.str (nmQ f k)), h3.set r (.lst ((qfuns f x 0 (pre ++ [e])).map Fun.rst)), ?_, ⟨by rw [List.getElem?_set_ne (Ne.symm hnr)]; exact P3.ins, by rw [List.getElem?_set_ne (Ne.symm hmr)]; exact P3.dic⟩, by rw [List.getElem?_set_self (List.getElem?_eq_some_iff.mp r3).1], fun j p j1 j2 ej => by rw [List.getElem?_set_ne (Ne.symm j2), e3', List.getElem?_set_ne (Ne.symm j1)]; exact ej⟩
  show t3B (evC bod tab (K + 7)) wr [e0, e1, e2, e3, some (.str f), some (.str x), e6, e7, e8, e9, some (.loc n), e11, e12, some (.loc r), some (.int (k : Nat)), some (pairP e), e16] h = _
  unfold t3B
  refine (l_seq (e1 := [e0, e1, e2, e3, some (.str f), some (.str x), e6, e7, e8, e9, some (.loc n), e11, e12, some (.loc r), some (.int (k : Nat)), some (pairP e), some (.str (nmQ f k))]) (h1 := h) (l_asg (x := .str (nmQ f k)) ?_ rfl)).trans ?_
  · refine (l_ite (b := decide ((k : Int) = 3)) (h1 := h) ?_).trans ?_
    · rw [l_op (h1 := h) (h2 := h) (x := .int (k : Nat)) (y := .int 3) rfl rfl, KP.eq_int]
    · unfold nmQ
      by_cases q : k = 3
      · rw [if_pos (by rw [q]; rfl), if_pos q]; rfl
      · rw [if_neg (by intro z; exact q (by have := of_decide_eq_true z; omega)), if_neg q]
        rw [l_op (h1 := h) (h2 := h) (x := .str "q") (y := .str ⟨⟨[tL.getD k 0]⟩⟩) rfl ?_]
        · exact add_str (show 1 + 1 ≤ lineN by decide)
        · rw [l_op (h1 := h) (h2 := h) (x := .str "abcdefghijklmnopqrst") (y := .int (k : Nat)) rfl rfl]
          show (if (tL.length ≤ lineN) then (pat tL (k : Int)).map (fun c => (PV.str ⟨⟨[c]⟩⟩, h)) else none) = _
          rw [if_pos (by rw [tL_len]; omega)]
          unfold pat pix
          rw [if_pos (by omega), if_pos (by rw [tL_len]; omega)]
          simp only [Int.toNat_natCast]
          rw [List.getD_eq_getElem?_getD, List.getElem?_eq_getElem (by rw [tL_len]; exact hk2)]
          rfl
  refine (l_seq (e1 := [e0, e1, e2, e3, some (.str f), some (.str x), e6, e7, e8, e9, some (.loc n), e11, e12, some (.loc r), some (.int (k : Nat)), some (pairP e), some (.str (nmQ f k))]) (h1 := h3) (l_drop (x := .non) ?_)).trans ?_
  · rw [own_var (i := 10) (ps := [.str (nmQ f k), .tup [.str x], enc e]) P rfl meth_Program_put (by kernel_rfl) (by kernel_rfl), ct_Program_put, s_put P wm (nmQ_ok hf hk2) hx he h1 h2 (getK_none new) (by unfold kvF; rw [List.length_map, qf_len]; omega) (keys_nd nd1), putD_new new, e3', hq, ← kvF_app]
    rfl
  refine (l_seq (e1 := [e0, e1, e2, e3, some (.str f), some (.str x), e6, e7, e8, e9, some (.loc n), e11, e12, some (.loc r), some (.int (k : Nat)), some (pairP e), some (.str (nmQ f k))]) (h1 := h3.set r (.lst ((qfuns f x 0 (pre ++ [e])).map Fun.rst))) (l_drop (x := .non) ?_)).trans rfl
  rw [l_meth (h1 := h3) (h2 := h3) (x := .loc r) (ps := [.tup [.str (nmQ f k), .tup [.str x], rest e]]) rfl (tyP_lst r3) (by kernel_rfl), append_at r3 wr' (by rw [List.length_map, qf_len]; omega), hq, List.map_append]
  rfl
end
end KW
set_option Elab.async false
set_option linter.all false
set_option maxRecDepth 100000
set_option maxHeartbeats 1600000
namespace KW
open PySem PySem.Spec PyProof.Rows L2 KP
def menuF : List Str := [("f" : Str), ("same" : Str), ("then" : Str), ("call" : Str), ("zz9" : Str), ("abcdefgh" : Str)]
def menuX : List Str := [("x" : Str), ("same" : Str), ("f" : Str), ("t0" : Str), ("catch" : Str), ("a1234567" : Str)]
def menuW : List Str := [("w" : Str), ("kind" : Str), ("nought" : Str), ("x" : Str), ("same" : Str), ("great" : Str)]
theorem menuF_ok : ∀ f ∈ menuF, okName f = true ∧ ((List.range' 0 20).map (nmQ f)).Nodup := by
  have h : ∀ f ∈ menuF, okName f = true ∧ (natsNd ((List.range' 0 20).map (nmQ f))) = true := by
    intro f hf
    simp only [menuF, List.mem_cons, List.not_mem_nil, or_false] at hf
    rcases hf with rfl | rfl | rfl | rfl | rfl | rfl <;> exact ⟨by kernel_rfl, by kernel_rfl⟩
  exact fun f hf => ⟨(h f hf).1, nd_of (h f hf).2⟩
theorem menuX_ok : ∀ f ∈ menuX, okName f = true := by
  intro f hf
  simp only [menuX, List.mem_cons, List.not_mem_nil, or_false] at hf
  rcases hf with rfl | rfl | rfl | rfl | rfl | rfl <;> kernel_rfl
theorem menuW_ok : ∀ f ∈ menuW, okName f = true := by
  intro f hf
  simp only [menuW, List.mem_cons, List.not_mem_nil, or_false] at hf
  rcases hf with rfl | rfl | rfl | rfl | rfl | rfl <;> kernel_rfl
section
variable {wr : Nat → Bool} {h : PH} {K : Nat}
theorem t3_loop {f x : Str} {n m r : Nat} {e0 e1 e2 e3 e6 e7 e8 e9 e11 e12 : Option PV} (hf : okName f = true) (hx : okName x = true) (hnm : n ≠ m) (hnr : n ≠ r) (hmr : m ≠ r) (wm : wr m = true) (wr' : wr r = true) (nd : ((List.range' 0 20).map (nmQ f)).Nodup) (hK : 140 ≤ K) :
    ∀ (es pre : List Ex) (h : PH) (e14 e15 e16 : Option PV), pre.length + es.length ≤ 20 → Prg h n m (kvF (qfuns f x 0 pre)) → h[r]? = some (.lst ((qfuns f x 0 pre).map Fun.rst)) → (∀ e ∈ es, okE e ∧ sz e ≤ 300 ∧ dp e ≤ 60) →
    ∃ a14 a15 a16 h', loopF (turnF (gTp 2 (gsCons (gNm 14) (gsCons (gNm 15) gsNil))) (t3B (evC bod tab K) wr)) (enumP pre.length (es.map pairP)) [e0, e1, e2, e3, some (.str f), some (.str x), e6, e7, e8, e9, some (.loc n), e11, e12, some (.loc r), e14, e15, e16] h =
      some (.nx, [e0, e1, e2, e3, some (.str f), some (.str x), e6, e7, e8, e9, some (.loc n), e11, e12, some (.loc r), a14, a15, a16], h') ∧ Prg h' n m (kvF (qfuns f x 0 (pre ++ es))) ∧ h'[r]? = some (.lst ((qfuns f x 0 (pre ++ es)).map Fun.rst)) ∧ But m r h h'
  | [], pre, h, e14, e15, e16, _, P, hr, _ => ⟨e14, e15, e16, h, rfl, by rw [List.append_nil]; exact P, by rw [List.append_nil]; exact hr, fun j p _ _ e => e⟩
  | e :: es, pre, h, e14, e15, e16, hl, P, hr, hb => by
    rw [List.length_cons] at hl
    obtain ⟨o1, o2, o3⟩ := hb e (List.mem_cons_self ..)
    obtain ⟨a16, h1, t, P1, r1, b1⟩ := t3_turn (e0 := e0) (e1 := e1) (e2 := e2) (e3 := e3) (e6 := e6) (e7 := e7) (e8 := e8) (e9 := e9) (e11 := e11) (e12 := e12) (e14 := e14) (e15 := e15) (e16 := e16) hf hx P hr rfl (by omega) hnm hnr hmr wm wr' o1 o2 o3 nd hK
    obtain ⟨a14, a15, a16', h', el, P2, r2, b2⟩ := t3_loop hf hx hnm hnr hmr wm wr' nd hK es (pre ++ [e]) h1 (some (.int (pre.length : Nat))) (some (pairP e)) a16 (by rw [List.length_append, List.length_singleton]; omega) P1 r1 (fun g hg => hb g (List.mem_cons_of_mem _ hg))
    rw [List.append_assoc, List.singleton_append] at P2 r2
    rw [List.length_append, List.length_singleton] at el
    exact ⟨a14, a15, a16', h', (loop_nx t).trans el, P2, r2, fun j p j1 j2 ej => b2 j p j1 j2 (b1 j p j1 j2 ej)⟩
/-- the cells, the spot -/
structure LInv (cs : List Int) (z : Int) (h : PH) : Prop where
  c : h[0]? = some (.lst (cs.map PV.int))
  s : h[1]? = some (.lst [.int z])
theorem LInv.upd {cs : List Int} {z y : Int} {h h' : PH} (I : LInv cs z h) (u : Upd h 1 (.lst [.int y]) h') : LInv cs y h' := ⟨u.els 0 _ (by decide) I.c, u.at_⟩
theorem LInv.ext {cs : List Int} {z : Int} {h h' : PH} (I : LInv cs z h) (u : Ext h h') : LInv cs z h' := ⟨u _ _ I.c, u _ _ I.s⟩
theorem LInv.two {cs : List Int} {z : Int} {h : PH} (I : LInv cs z h) : 2 ≤ h.length := (List.getElem?_eq_some_iff.mp I.s).1
theorem cell_at {cs : List Int} {z : Int} {env : KP.Env} (I : LInv cs z h) (e1 : env[1]? = some (some (.loc 0))) (e2 : env[2]? = some (some (.loc 1))) (hw : wr 1 = true) (hcl : cs.length ≤ 63) (hz : -1 ≤ z) (hz2 : z ≤ 100000) (j : Int) (hj : j ≠ 0) :
    ∃ (v : Int) (h' : PH), eOp fMod (eFn tab (evC bod tab (K + 1)) wr "_law_cell" (aCons (eVar 1) (aCons (eVar 2) aNil))) (eCst (.int j)) env h = some (.int (v.fmod j), h') ∧ Upd h 1 (.lst [.int (z + 1)]) h' := by
  obtain ⟨v, h', e, u⟩ := s_cell (k := K) (wr := wr) I.c I.s (by decide) hw hcl hz hz2
  refine ⟨v, h', ?_, u⟩
  rw [l_op (h1 := h') (h2 := h') (x := .int v) (y := .int j) ?_ rfl, KP.mod_int hj]
  rw [l_fn (h1 := h) (ps := [.loc 0, .loc 1]) (l_a1 (h1 := h) (by unfold eVar; rw [e1]) (l_a1 (h1 := h) (by unfold eVar; rw [e2]) rfl)), ct__law_cell, e]
theorem s_pick {cs : List Int} {z : Int} {env : KP.Env} {args : AF} {menu : List Str} (I : LInv cs z h) (e1 : env[1]? = some (some (.loc 0))) (e2 : env[2]? = some (some (.loc 1))) (hw : wr 1 = true) (hcl : cs.length ≤ 63) (hz : -1 ≤ z) (hz2 : z ≤ 100000) (ha : ∀ h, args env h = some (menu.map PV.str, h)) (hm : menu.length = 6) :
    ∃ p ∈ menu, ∃ h', eOp (fIxT tab) (eLst args) (eOp fMod (eFn tab (evC bod tab (K + 1)) wr "_law_cell" (aCons (eVar 1) (aCons (eVar 2) aNil))) (eCst (.int 6))) env h = some (.str p, h') ∧ LInv cs (z + 1) h' := by
  have I1 : LInv cs z (h ++ [.lst (menu.map PV.str)]) := I.ext (Ext.app _)
  obtain ⟨v, h', e, u⟩ := cell_at (K := K) (wr := wr) I1 e1 e2 hw hcl hz hz2 6 (by decide)
  obtain ⟨i, hi, ei⟩ := fmod_at (v := v) (n := 6) (by decide)
  have h2 := I.two
  have hm' : h'[h.length]? = some (.lst (menu.map PV.str)) := u.els _ _ (by omega) at_end
  refine ⟨menu[i], List.getElem_mem _, h', ?_, I1.upd u⟩
  rw [l_op (h1 := h ++ [.lst (menu.map PV.str)]) (h2 := h') (x := .loc h.length) (y := .int (v.fmod 6)) ?_ e, show (6 : Int) = ((6 : Nat) : Int) from rfl, ei, ix_lst hm', pat_in (by rw [List.length_map]; omega), List.getElem?_map, List.getElem?_eq_getElem (by omega)]
  · rfl
  · unfold eLst
    rw [ha, bnd_some, if_pos (by rw [List.length_map, hm]; decide)]
def lawB (call : CallF) (wr : Nat → Bool) : SF := (sSeq (sAsg (eOp (fIxT tab) (eLst (aCons (eCst (.str "f")) (aCons (eCst (.str "same")) (aCons (eCst (.str "then")) (aCons (eCst (.str "call")) (aCons (eCst (.str "zz9")) (aCons (eCst (.str "abcdefgh")) aNil))))))) (eOp fMod (eFn tab call wr "_law_cell" (aCons (eVar 1) (aCons (eVar 2) aNil))) (eCst (.int 6)))) (gNm 4))
      (sSeq (sAsg (eOp (fIxT tab) (eLst (aCons (eCst (.str "x")) (aCons (eCst (.str "same")) (aCons (eCst (.str "f")) (aCons (eCst (.str "t0")) (aCons (eCst (.str "catch")) (aCons (eCst (.str "a1234567")) aNil))))))) (eOp fMod (eFn tab call wr "_law_cell" (aCons (eVar 1) (aCons (eVar 2) aNil))) (eCst (.int 6)))) (gNm 5))
      (sSeq (sAsg (eOp (fIxT tab) (eLst (aCons (eCst (.str "w")) (aCons (eCst (.str "kind")) (aCons (eCst (.str "nought")) (aCons (eCst (.str "x")) (aCons (eCst (.str "same")) (aCons (eCst (.str "great")) aNil))))))) (eOp fMod (eFn tab call wr "_law_cell" (aCons (eVar 1) (aCons (eVar 2) aNil))) (eCst (.int 6)))) (gNm 6))
      (sSeq (sAsg (eFn tab call wr "_law_pairs" (aCons (eVar 4) (aCons (eVar 5) (aCons (eVar 6) (aCons (eFn tab call wr "_law_number" (aCons (eVar 1) (aCons (eVar 2) aNil))) aNil))))) (gNm 7))
      (sSeq (sFor wr (iOf (eVar 7)) (gTp 2 (gsCons (gNm 8) (gsCons (gNm 9) gsNil))) (t1B call))
      (sSeq (sPar2 10 13 (aCons (eMk tab call wr "Program" aNil) (aCons (eLst aNil) aNil)))
      (sSeq (sFor wr (iEnumF (eSl fSl (eVar 7) (pSome (eOp fMod (eFn tab call wr "_law_cell" (aCons (eVar 1) (aCons (eVar 2) aNil))) (eCst (.int 8)))) pNone)) (gTp 2 (gsCons (gNm 14) (gsCons (gNm 15) gsNil))) (t3B call))
      (sSeq (sIf (eOp fNe (eCall gRepr (aCons (eFnK tab call wr "rested" 0 ["program"] aNil (aCons (eVar 10) aNil)) aNil)) (eCall gRepr (aCons (eCall gTuple (aCons (eVar 13) aNil)) aNil))) (sSeq (sRet (eCst (.bl false)))
        sNext) sNext)
      sNext))))))))
theorem law_turn {cs : List Int} {z : Int} {i : PV} {e0 e3 e4 e5 e6 e7 e8 e9 e10 e11 e12 e13 e14 e15 e16 : Option PV} (I : LInv cs z h) (hw : ∀ j, wr j = true) (hcl : cs.length ≤ 63) (hz : -1 ≤ z) (hz2 : z ≤ 90000) (hK : 145 ≤ K) :
    ∃ a4 a5 a6 a7 a8 a9 a10 a11 a12 a13 a14 a15 a16 h', turnF (gNm 3) (lawB (evC bod tab K) wr) i [e0, some (.loc 0), some (.loc 1), e3, e4, e5, e6, e7, e8, e9, e10, e11, e12, e13, e14, e15, e16] h = some (.nx, [e0, some (.loc 0), some (.loc 1), some i, a4, a5, a6, a7, a8, a9, a10, a11, a12, a13, a14, a15, a16], h') ∧ LInv cs (z + 5) h' := by
  obtain ⟨K, rfl⟩ : ∃ j, K = j + 2 := ⟨K - 2, by omega⟩
  have big : (1001 : Nat) ≤ lineN := by decide
  obtain ⟨f, hf, h1, c1, I1⟩ := s_pick (K := K + 1) (wr := wr) (menu := menuF) (env := [e0, some (.loc 0), some (.loc 1), some i, e4, e5, e6, e7, e8, e9, e10, e11, e12, e13, e14, e15, e16]) (args := (aCons (eCst (.str "f")) (aCons (eCst (.str "same")) (aCons (eCst (.str "then")) (aCons (eCst (.str "call")) (aCons (eCst (.str "zz9")) (aCons (eCst (.str "abcdefgh")) aNil))))))) I rfl rfl (hw 1) hcl hz (by omega) (fun h => rfl) rfl
  obtain ⟨x, hx, h2, c2, I2⟩ := s_pick (K := K + 1) (wr := wr) (menu := menuX) (env := [e0, some (.loc 0), some (.loc 1), some i, some (.str f), e5, e6, e7, e8, e9, e10, e11, e12, e13, e14, e15, e16]) (args := (aCons (eCst (.str "x")) (aCons (eCst (.str "same")) (aCons (eCst (.str "f")) (aCons (eCst (.str "t0")) (aCons (eCst (.str "catch")) (aCons (eCst (.str "a1234567")) aNil))))))) I1 rfl rfl (hw 1) hcl (by omega) (by omega) (fun h => rfl) rfl
  obtain ⟨w, hw', h3, c3, I3⟩ := s_pick (K := K + 1) (wr := wr) (menu := menuW) (env := [e0, some (.loc 0), some (.loc 1), some i, some (.str f), some (.str x), e6, e7, e8, e9, e10, e11, e12, e13, e14, e15, e16]) (args := (aCons (eCst (.str "w")) (aCons (eCst (.str "kind")) (aCons (eCst (.str "nought")) (aCons (eCst (.str "x")) (aCons (eCst (.str "same")) (aCons (eCst (.str "great")) aNil))))))) I2 rfl rfl (hw 1) hcl (by omega) (by omega) (fun h => rfl) rfl
  obtain ⟨of, ndf⟩ := menuF_ok f hf
  have ox := menuX_ok x hx
  have ow := menuW_ok w hw'
  obtain ⟨n, h4, c4, ⟨nb1, nb2⟩, u4⟩ := s_num (k := K) (wr := wr) I3.c I3.s (by decide) (hw 1) hcl (by omega) (by omega)
  have I4 := I3.upd u4
  obtain ⟨h5, e5'⟩ : ∃ q, q = h4 ++ [PO.lst ((exL f x w n).map pairP)] := ⟨_, rfl⟩
  have I5 : LInv cs (z + 1 + 1 + 1 + 1) h5 := e5' ▸ I4.ext (Ext.app _)
  have p5 : h5[h4.length]? = some (PO.lst ((exL f x w n).map pairP)) := e5' ▸ at_end
  have l5 : h5.length = h4.length + 1 := by rw [e5']; simp
  have hb1 : ∀ e ∈ exL f x w n, BodyOk (kvF [onlyF f x e]) x e := fun e he => bodies_ok of ox ow nb1 nb2 (ps := [.str x]) (b := enc e) (get_fun (fs := [onlyF f x e]) (f := onlyF f x e) (List.mem_singleton.mpr rfl) (by simp)) rfl e he
  obtain ⟨a8, a9, a10, a11, a12, h6, c6, x6⟩ := t1_loop (K := K + 2) (wr := lockW wr [h4.length]) (e0 := e0) (e1 := some (.loc 0)) (e2 := some (.loc 1)) (e3 := some i) (e6 := some (.str w)) (e7 := some (.loc h4.length)) (e13 := e13) (e14 := e14) (e15 := e15) (e16 := e16) of ox (by omega) (exL f x w n) h5 e8 e9 e10 e11 e12 hb1 (fun j hj => by
    show (wr j && !(natMem j [h4.length])) = true
    rw [hw]
    have : natMem j [h4.length] = false := by
      cases q : natMem j [h4.length] with
      | false => rfl
      | true => have := natMem_iff.mp q; simp at this; omega
    rw [this]; rfl)
  have I6 := I5.ext x6
  have p6 := x6 _ _ p5
  obtain ⟨h7, c7, P7, x7, l7⟩ := s_mk (wr := wr) (h := h6) (K := K + 1) (env := [e0, some (.loc 0), some (.loc 1), some i, some (.str f), some (.str x), some (.str w), some (.loc h4.length), a8, a9, a10, a11, a12, e13, e14, e15, e16]) (hw _)
  have I7 := I6.ext x7
  have p7 := x7 _ _ p6
  obtain ⟨h8, e8'⟩ : ∃ q, q = h7 ++ [PO.lst []] := ⟨_, rfl⟩
  have I8 : LInv cs (z + 1 + 1 + 1 + 1) h8 := e8' ▸ I7.ext (Ext.app _)
  have P8 : Prg h8 h6.length (h6.length + 1) [] := e8' ▸ P7.ext _
  have p8 : h8[h4.length]? = some (PO.lst ((exL f x w n).map pairP)) := e8' ▸ at_ext p7
  have r8 : h8[h7.length]? = some (PO.lst []) := e8' ▸ at_end
  have l8 : h8.length = h7.length + 1 := by rw [e8']; simp
  have h42 := I4.two
  have l56 := x6.len
  obtain ⟨v, h9, c9, u9⟩ := cell_at (K := K + 1) (wr := wr) (env := [e0, some (.loc 0), some (.loc 1), some i, some (.str f), some (.str x), some (.str w), some (.loc h4.length), a8, a9, some (.loc h6.length), a11, a12, some (.loc h7.length), e14, e15, e16]) I8 rfl rfl (hw 1) hcl (by omega) (by omega) 8 (by decide)
  have I9 := I8.upd u9
  obtain ⟨d, hd, ed⟩ := fmod_at (v := v) (n := 8) (by decide)
  have P9 : Prg h9 h6.length (h6.length + 1) [] := ⟨u9.els _ _ (by omega) P8.ins, u9.els _ _ (by omega) P8.dic⟩
  have p9 := u9.els _ _ (by omega) p8
  have r9 := u9.els _ _ (by omega) r8
  have l9 := u9.len I8.s
  obtain ⟨h10, e10'⟩ : ∃ q, q = h9 ++ [PO.lst (((exL f x w n).drop d).map pairP)] := ⟨_, rfl⟩
  have I10 : LInv cs (z + 1 + 1 + 1 + 1 + 1) h10 := e10' ▸ I9.ext (Ext.app _)
  have P10 : Prg h10 h6.length (h6.length + 1) (kvF (qfuns f x 0 [])) := e10' ▸ P9.ext _
  have r10 : h10[h7.length]? = some (PO.lst ((qfuns f x 0 []).map Fun.rst)) := e10' ▸ at_ext r9
  have s10 : h10[h9.length]? = some (PO.lst (((exL f x w n).drop d).map pairP)) := e10' ▸ at_end
  have xl : (exL f x w n).length = 20 := rfl
  have hb2 : ∀ e ∈ (exL f x w n).drop d, okE e ∧ sz e ≤ 300 ∧ dp e ≤ 60 := fun e he => by
    have b := hb1 e (List.mem_of_mem_drop he)
    exact ⟨b.ok, Nat.le_trans b.sz (by decide), Nat.le_trans b.dp (by decide)⟩
  have lk : ∀ j, j ≠ h9.length → lockW wr [h9.length] j = true := fun j hj => by
    show (wr j && !(natMem j [h9.length])) = true
    rw [hw]
    have : natMem j [h9.length] = false := by
      cases q : natMem j [h9.length] with
      | false => rfl
      | true => have := natMem_iff.mp q; simp at this; omega
    rw [this]; rfl
  obtain ⟨a14, a15, a16, h11, c11, P11, r11, b11⟩ := t3_loop (K := K + 2) (wr := lockW wr [h9.length]) (e0 := e0) (e1 := some (.loc 0)) (e2 := some (.loc 1)) (e3 := some i) (e6 := some (.str w)) (e7 := some (.loc h4.length)) (e8 := a8) (e9 := a9) (e11 := a11) (e12 := a12) of ox (show h6.length ≠ h6.length + 1 by omega) (show h6.length ≠ h7.length by omega) (show h6.length + 1 ≠ h7.length by omega) (lk _ (by omega)) (lk _ (by omega)) ndf (by omega) ((exL f x w n).drop d) [] h10 e14 e15 e16 (by rw [List.length_drop, xl, List.length_nil]; omega) P10 r10 hb2
  rw [List.nil_append] at P11 r11
  have I11 : LInv cs (z + 1 + 1 + 1 + 1 + 1) h11 := ⟨b11 _ _ (by omega) (by omega) I10.c, b11 _ _ (by omega) (by omega) I10.s⟩
  -- the whole program
  have hin : ∃ e3 ∈ (exL f x w n).drop d, (⟨f, [x], e3⟩ : Fun) ∈ qfuns f x 0 ((exL f x w n).drop d) := by
    have h4' : 4 ≤ ((exL f x w n).drop d).length := by rw [List.length_drop, xl]; omega
    match hq : (exL f x w n).drop d, h4' with
    | b0 :: b1 :: b2 :: b3 :: bs, _ => exact ⟨b3, by simp, by simp [qfuns, nmQ]⟩
  obtain ⟨e3', he3, hin⟩ := hin
  have ndq : ((qfuns f x 0 ((exL f x w n).drop d)).map Fun.nm).Nodup := by
    rw [qf_names]
    refine List.Nodup.sublist (List.Sublist.map _ ?_) ndf
    exact List.range'_sublist_right.mpr (by rw [List.length_drop, xl]; omega)
  have hbq : ∀ e ∈ (exL f x w n).drop d, BodyOk (kvF (qfuns f x 0 ((exL f x w n).drop d))) x e := fun e he => bodies_ok of ox ow nb1 nb2 (ps := [.str x]) (b := enc e3') (get_fun hin ndq) rfl e (List.mem_of_mem_drop he)
  have ok : PrgOk (qfuns f x 0 ((exL f x w n).drop d)) := by
    refine ⟨fun g hg => ?_, fun g hg => ?_, ndq, by rw [qf_len, List.length_drop, xl]; omega⟩
    · obtain ⟨j, _, j2, q1, q2, q3⟩ := qf_mem hg
      have b := hbq _ q3
      refine ⟨by rw [q1]; exact nmQ_ok of (by rw [List.length_drop, xl] at j2; omega), fun y hy => ?_, by rw [q2]; show 1 ≤ 6; omega, b.ok, Nat.le_trans b.sz (by decide), Nat.le_trans b.dp (by decide), b.nb⟩
      rw [q2] at hy
      obtain rfl := List.mem_singleton.mp hy
      exact ox
    · obtain ⟨j, _, j2, q1, q2, q3⟩ := qf_mem hg
      rw [q2]
      exact (hbq _ q3).sc
  have hsh : Shw (.tup ((qfuns f x 0 ((exL f x w n).drop d)).map Fun.rst)) 82020 123 := (Shw.tup (D := 122) (funs_shw (B := 20) (fs := qfuns f x 0 ((exL f x w n).drop d)) fun g hg => by
    obtain ⟨j, _, j2, q1, q2, q3⟩ := qf_mem hg
    exact ⟨ok.ok g hg, (hbq _ q3).sz⟩)).mono (by rw [qf_len, List.length_drop, xl]; omega) (by omega)
  have hrep : ∀ h, gRepr [.tup ((qfuns f x 0 ((exL f x w n).drop d)).map Fun.rst)] h = some (.str (reprP (.tup ((qfuns f x 0 ((exL f x w n).drop d)).map Fun.rst))), h) := fun h => repr_shw (hsh.mono (Nat.le_refl _) (by omega)) (by decide)
  refine ⟨some (.str f), some (.str x), some (.str w), some (.loc h4.length), a8, a9, some (.loc h6.length), a11, a12, some (.loc h7.length), a14, a15, a16, h11, ?_, by rw [show z + 5 = z + 1 + 1 + 1 + 1 + 1 from by omega]; exact I11⟩
  show lawB (evC bod tab (K + 2)) wr [e0, some (.loc 0), some (.loc 1), some i, e4, e5, e6, e7, e8, e9, e10, e11, e12, e13, e14, e15, e16] h = _
  unfold lawB
  refine (l_seq (l_asg c1 rfl)).trans ?_
  refine (l_seq (l_asg c2 rfl)).trans ?_
  refine (l_seq (l_asg c3 rfl)).trans ?_
  refine (l_seq (e1 := [e0, some (.loc 0), some (.loc 1), some i, some (.str f), some (.str x), some (.str w), some (.loc h4.length), e8, e9, e10, e11, e12, e13, e14, e15, e16]) (h1 := h5) (l_asg (x := .loc h4.length) ?_ rfl)).trans ?_
  · rw [l_fn (h1 := h4) (ps := [.str f, .str x, .str w, .int n]) (l_a1 (h1 := h3) rfl (l_a1 (h1 := h3) rfl (l_a1 (h1 := h3) rfl (l_a1 (h1 := h4) (x := .int n) ?_ rfl)))), ct__law_pairs, s_pairs, e5']
    rw [l_fn (h1 := h3) (ps := [.loc 0, .loc 1]) rfl, ct__law_number, c4]
  refine (l_seq (e1 := [e0, some (.loc 0), some (.loc 1), some i, some (.str f), some (.str x), some (.str w), some (.loc h4.length), a8, a9, a10, a11, a12, e13, e14, e15, e16]) (h1 := h6) ?_).trans ?_
  · unfold sFor
    rw [show iOf (eVar 7) [e0, some (.loc 0), some (.loc 1), some i, some (.str f), some (.str x), some (.str w), some (.loc h4.length), e8, e9, e10, e11, e12, e13, e14, e15, e16] h5 = some (((exL f x w n).map pairP, [h4.length]), h5) from by
      unfold iOf
      rw [show eVar 7 [e0, some (.loc 0), some (.loc 1), some i, some (.str f), some (.str x), some (.str w), some (.loc h4.length), e8, e9, e10, e11, e12, e13, e14, e15, e16] h5 = some (.loc h4.length, h5) from rfl, bnd_some]
      simp only
      rw [p5], bnd_some]
    rw [if_pos (by simp; omega)]
    exact c6
  refine (l_seq (e1 := [e0, some (.loc 0), some (.loc 1), some i, some (.str f), some (.str x), some (.str w), some (.loc h4.length), a8, a9, some (.loc h6.length), a11, a12, some (.loc h7.length), e14, e15, e16]) (h1 := h8) ?_).trans ?_
  · unfold sPar2
    rw [l_a1 (h1 := h7) c7 (l_a1 (h1 := h8) (x := .loc h7.length) (by rw [e8']; rfl) rfl), bnd_some]
    rfl
  refine (l_seq (e1 := [e0, some (.loc 0), some (.loc 1), some i, some (.str f), some (.str x), some (.str w), some (.loc h4.length), a8, a9, some (.loc h6.length), a11, a12, some (.loc h7.length), a14, a15, a16]) (h1 := h11) ?_).trans ?_
  · unfold sFor
    rw [show iEnumF (eSl fSl (eVar 7) (pSome (eOp fMod (eFn tab (evC bod tab (K + 2)) wr "_law_cell" (aCons (eVar 1) (aCons (eVar 2) aNil))) (eCst (.int 8)))) pNone) [e0, some (.loc 0), some (.loc 1), some i, some (.str f), some (.str x), some (.str w), some (.loc h4.length), a8, a9, some (.loc h6.length), a11, a12, some (.loc h7.length), e14, e15, e16] h8 = some ((enumP 0 (((exL f x w n).drop d).map pairP), [h9.length]), h10) from ?_, bnd_some]
    · rw [if_pos (by rw [e10']; simp)]
      exact c11
    · unfold iEnumF eSl pSome
      rw [show eVar 7 [e0, some (.loc 0), some (.loc 1), some i, some (.str f), some (.str x), some (.str w), some (.loc h4.length), a8, a9, some (.loc h6.length), a11, a12, some (.loc h7.length), e14, e15, e16] h8 = some (.loc h4.length, h8) from rfl, bnd_some, c9, bnd_some]
      simp only
      rw [bnd_some, show pNone [e0, some (.loc 0), some (.loc 1), some i, some (.str f), some (.str x), some (.str w), some (.loc h4.length), a8, a9, some (.loc h6.length), a11, a12, some (.loc h7.length), e14, e15, e16] h9 = some (none, h9) from rfl, bnd_some]
      unfold fSl
      simp only
      rw [p9]
      simp only
      rw [show (8 : Int) = ((8 : Nat) : Int) from rfl, ed, show cut ((exL f x w n).map pairP) (some (d : Int)) none = ((exL f x w n).drop d).map pairP from ?_, ← e10', bnd_some]
      · simp only
        rw [s10]
      · unfold cut
        rw [show pend ((exL f x w n).map pairP).length 0 (some (d : Int)) = d from ?_, show pend ((exL f x w n).map pairP).length ((exL f x w n).map pairP).length none = 20 from rfl, List.map_drop, List.take_of_length_le (by rw [List.length_drop, List.length_map, xl]; omega)]
        unfold pend
        simp only
        rw [List.length_map, xl]
        split <;> omega
  refine (l_seq (e1 := [e0, some (.loc 0), some (.loc 1), some i, some (.str f), some (.str x), some (.str w), some (.loc h4.length), a8, a9, some (.loc h6.length), a11, a12, some (.loc h7.length), a14, a15, a16]) (h1 := h11) ((l_if (b := false) (h1 := h11) ?_).trans rfl)).trans rfl
  rw [l_op (h1 := h11) (h2 := h11) (x := .str (reprP (.tup ((qfuns f x 0 ((exL f x w n).drop d)).map Fun.rst)))) (y := .str (reprP (.tup ((qfuns f x 0 ((exL f x w n).drop d)).map Fun.rst)))) ?_ ?_, KP.ne_str, sEq_self]
  · rfl
  · rw [l_call (ps := [.tup ((qfuns f x 0 ((exL f x w n).drop d)).map Fun.rst)]) (h1 := h11) (l_a1 (h1 := h11) ?_ rfl), hrep]
    have ek : ∀ call : CallF, eFnK tab call wr "rested" 0 ["program"] aNil (aCons (eVar 10) aNil) [e0, some (.loc 0), some (.loc 1), some i, some (.str f), some (.str x), some (.str w), some (.loc h4.length), a8, a9, some (.loc h6.length), a11, a12, some (.loc h7.length), a14, a15, a16] h11 = call wr ("rested", none) [.loc h6.length] h11 := fun call => by kernel_rfl
    rw [ek, s_rested P11 ok (by omega)]
  · rw [l_call (ps := [.tup ((qfuns f x 0 ((exL f x w n).drop d)).map Fun.rst)]) (h1 := h11) (l_a1 (h1 := h11) ?_ rfl), hrep]
    rw [l_call (ps := [.loc h7.length]) (h1 := h11) rfl]
    unfold gTuple itemsOf
    simp only
    rw [r11]
    rfl
end
end KW
set_option Elab.async false
set_option linter.all false
set_option maxRecDepth 100000
set_option maxHeartbeats 1600000
namespace KW
open PySem PySem.Spec PyProof.Rows L2 KP
def lv : Nat := 230
def LawT : Prop := ∀ ns : List Int, ns.length ≤ 63 → (∀ z ∈ ns, Builtin.Int.intBits z ≤ 1048576) → ∃ h', evC bod tab lv (fun _ => true) ("law", none) [.rl (ns.map PV.int)] [] = some (.bl true, h')
theorem law_loop {ns : List Int} (hcl : ns.length ≤ 63) : ∀ (N : Nat) (lo z : Int) (h : PH) (e3 e4 e5 e6 e7 e8 e9 e10 e11 e12 e13 e14 e15 e16 : Option PV), LInv ns z h → -1 ≤ z → z + 5 * N ≤ 90000 →
    ∃ a3 a4 a5 a6 a7 a8 a9 a10 a11 a12 a13 a14 a15 a16 h', loopF (turnF (gNm 3) (lawB (evC bod tab 229) (fun _ => true))) (rngItems lo N) [some (.rl (ns.map PV.int)), some (.loc 0), some (.loc 1), e3, e4, e5, e6, e7, e8, e9, e10, e11, e12, e13, e14, e15, e16] h = some (.nx, [some (.rl (ns.map PV.int)), some (.loc 0), some (.loc 1), a3, a4, a5, a6, a7, a8, a9, a10, a11, a12, a13, a14, a15, a16], h')
  | 0, lo, z, h, e3, e4, e5, e6, e7, e8, e9, e10, e11, e12, e13, e14, e15, e16, I, h1, h2 => ⟨e3, e4, e5, e6, e7, e8, e9, e10, e11, e12, e13, e14, e15, e16, h, rfl⟩
  | N + 1, lo, z, h, e3, e4, e5, e6, e7, e8, e9, e10, e11, e12, e13, e14, e15, e16, I, h1, h2 => by
    obtain ⟨b4, b5, b6, b7, b8, b9, b10, b11, b12, b13, b14, b15, b16, h', t, I'⟩ := law_turn (K := 229) (wr := fun _ => true) (i := .int lo) (e0 := some (.rl (ns.map PV.int))) (e3 := e3) (e4 := e4) (e5 := e5) (e6 := e6) (e7 := e7) (e8 := e8) (e9 := e9) (e10 := e10) (e11 := e11) (e12 := e12) (e13 := e13) (e14 := e14) (e15 := e15) (e16 := e16) I (fun _ => rfl) hcl h1 (by omega) (by decide)
    obtain ⟨a3, a4, a5, a6, a7, a8, a9, a10, a11, a12, a13, a14, a15, a16, h'', el⟩ := law_loop hcl N (lo + 1) (z + 5) h' (some (.int lo)) b4 b5 b6 b7 b8 b9 b10 b11 b12 b13 b14 b15 b16 I' (by omega) (by omega)
    exact ⟨a3, a4, a5, a6, a7, a8, a9, a10, a11, a12, a13, a14, a15, a16, h'', (loop_nx t).trans el⟩
theorem lawT : LawT := fun ns hl _ => by
  have big : (1001 : Nat) ≤ lineN := by decide
  show ∃ h', evC bod tab (229 + 1) (fun _ => true) ("law", none) [.rl (ns.map PV.int)] [] = some (.bl true, h')
  rw [ev_law]
  obtain ⟨h0, h0e⟩ : ∃ q : PH, q = [.lst (ns.map PV.int), .lst [.int (-1)]] := ⟨_, rfl⟩
  have I0 : LInv ns (-1) h0 := ⟨by rw [h0e]; rfl, by rw [h0e]; rfl⟩
  have hmin : (1 + (if ((ns.map PV.int).length : Int) < 10 then ((ns.map PV.int).length : Int) else 10)).toNat ≤ 11 := by split <;> omega
  obtain ⟨a3, a4, a5, a6, a7, a8, a9, a10, a11, a12, a13, a14, a15, a16, h1, el⟩ := law_loop hl (1 + (if ((ns.map PV.int).length : Int) < 10 then ((ns.map PV.int).length : Int) else 10)).toNat 0 (-1) h0 none none none none none none none none none none none none none none I0 (by decide) (by omega)
  obtain ⟨h2, c2, P2, x2, l2⟩ := s_mk (wr := fun _ => true) (h := h1) (K := 228) (env := [some (.rl (ns.map PV.int)), some (.loc 0), some (.loc 1), a3, a4, a5, a6, a7, a8, a9, a10, a11, a12, a13, a14, a15, a16]) rfl
  have ok0 : PrgOk [] := ⟨fun f hf => (by cases hf), fun f hf => (by cases hf), List.nodup_nil, by decide⟩
  have e : b_law (evC bod tab 229) (fun _ => true) [some (.rl (ns.map PV.int)), none, none, none, none, none, none, none, none, none, none, none, none, none, none, none, none] [] = some (.ret (.bl true), [some (.rl (ns.map PV.int)), some (.loc 0), some (.loc 1), a3, a4, a5, a6, a7, a8, a9, a10, a11, a12, a13, a14, a15, a16], h2) := by
    refine (l_seq (e1 := [some (.rl (ns.map PV.int)), some (.loc 0), some (.loc 1), none, none, none, none, none, none, none, none, none, none, none, none, none, none]) (h1 := h0) ?_).trans ?_
    · rw [h0e]
      rfl
    refine (l_seq (e1 := [some (.rl (ns.map PV.int)), some (.loc 0), some (.loc 1), a3, a4, a5, a6, a7, a8, a9, a10, a11, a12, a13, a14, a15, a16]) (h1 := h1) ?_).trans (l_seqR (l_ret ?_))
    · show sFor (fun _ => true) (iRange1 (eOp fAdd (eCst (.int 1)) (eCall gMin (aCons (eCst (.int 10)) (aCons (eCall gLen (aCons (eVar 1) aNil)) aNil))))) (gNm 3) (lawB (evC bod tab 229)) [some (.rl (ns.map PV.int)), some (.loc 0), some (.loc 1), none, none, none, none, none, none, none, none, none, none, none, none, none, none] h0 = _
      unfold sFor
      rw [show iRange1 (eOp fAdd (eCst (.int 1)) (eCall gMin (aCons (eCst (.int 10)) (aCons (eCall gLen (aCons (eVar 1) aNil)) aNil)))) [some (.rl (ns.map PV.int)), some (.loc 0), some (.loc 1), none, none, none, none, none, none, none, none, none, none, none, none, none, none] h0 = some ((rngItems 0 (1 + (if ((ns.map PV.int).length : Int) < 10 then ((ns.map PV.int).length : Int) else 10)).toNat, []), h0) from ?_, bnd_some]
      · exact el
      · unfold iRange1
        rw [l_op (h1 := h0) (h2 := h0) (x := .int 1) (y := .int (if ((ns.map PV.int).length : Int) < 10 then ((ns.map PV.int).length : Int) else 10)) rfl ?_]
        · rw [show fAdd (.int 1) (.int (if ((ns.map PV.int).length : Int) < 10 then ((ns.map PV.int).length : Int) else 10)) h0 = some (.int (1 + (if ((ns.map PV.int).length : Int) < 10 then ((ns.map PV.int).length : Int) else 10)), h0) from rfl, bnd_some]
          simp only
          rw [if_pos]
          rw [Bool.and_eq_true]
          exact ⟨decide_eq_true (by split <;> omega), decide_eq_true (by split <;> omega)⟩
        · rw [l_call (ps := [.int 10, .int ((ns.map PV.int).length : Nat)]) (h1 := h0) (l_a1 (h1 := h0) rfl (l_a1 (h1 := h0) ?_ rfl))]
          · rfl
          · rw [l_call (ps := [.loc 0]) (h1 := h0) rfl]
            unfold gLen
            simp only
            rw [I0.c]
    · rw [l_op (h1 := h2) (h2 := h2) (x := .tup []) (y := .tup []) ?_ rfl]
      · kernel_rfl
      · rw [l_fn (h1 := h2) (ps := [.loc h1.length]) (l_a1 (h1 := h2) c2 rfl), ct_rested, s_rested (fs := []) P2 ok0 (by decide)]
        rfl
  exact ⟨h2, by rw [e, fin_ret]⟩
end KW
set_option Elab.async false
set_option linter.all false
set_option maxRecDepth 100000
set_option maxHeartbeats 0
namespace KW
open PySem PySem.Spec PyProof.Rows L2 KP
abbrev R : PySem.W.OpenRow := PySem.W.OpenLaw.row PySem.Challenge.rw_callways_k50_rest_forms_by_hand
abbrev qv : Program := PySem.W.view R.prog [51]
abbrev hk : PySem.W.Hook := He.hookX 4 [] dfL tsL [] tl.chk
def ob (s : PySem.W.SharedT) : He.AlX := He.obsX 4 [] dfL tsL [] tl.chk (HandSHeadRun.getT s)
theorem ob_eq (s : PySem.W.SharedT) : ob s = hk.obs s.abs := He.obsX_eq (HandSHeadRun.getT_eq s)
def names1 : List PySem.Str := ["_wall", "CallError", "BadName", "BadParams", "BadExpression", "Twice", "TooMany", "NotWhole", "NotNormal", "NoFunction", "LETTERS", "FIGURES", "MOST_SIGNS", "MOST_NUMBER", "MOST_PARAMS", "MOST_DEEP", "MOST_PARTS", "MOST_FUNCTIONS", "DEEDS", "ATOMS", "FORMS"]
def names2 : List PySem.Str := ["is_whole_number", "is_number", "is_name", "is_params", "is_plain", "is_formed", "parts_of", "is_expression", "must_be_atoms", "is_normal_body", "waits", "need_function", "bound_within", "Program", "need_program", "need_whole", "need_normal", "expression_text", "function_text", "SAME", "with_rest", "body_in_rests", "rested", "_law_cell", "_law_number", "_law_pairs"]
def names : List PySem.Str := names1 ++ names2
theorem run0 (w : World) : HandSHeadRun.RunEq R qv hk ob 6000 names (w.withFollow "special-get-raises" false) := by
  intro os
  kernel_rfl
theorem run1 (w : World) : HandSHeadRun.RunEq R qv hk ob 6000 names (w.withFollow "special-get-raises" true) := by
  intro os
  kernel_rfl
theorem run (w : World) : HandSHeadRun.RunEq R qv hk ob 6000 names w := PySem.W.byRow2 "special-get-raises" (P := fun w => HandSHeadRun.RunEq R qv hk ob 6000 names w) run0 run1 w
end KW
set_option Elab.async false
set_option linter.all false
set_option maxRecDepth 100000
set_option maxHeartbeats 0
namespace KW
open PySem PySem.Spec PyProof.Rows L2 KP
theorem tabOk {w : World} {K : Frg} {h : Heap} {mg : Str → Option Value} (X : K.In h) (G : h.Ns mainGlobals mg) (c : He.SaysX [] dfL tsL [] tl.chk w h K) : TabOk tab K mg w := TL.ok X G c.more fun q hq => by
  obtain ⟨i, hi, e⟩ := List.mem_iff_getElem.mp hq
  exact c.t.tab i (t := ((fun K => He.ga K q.1), q.2.map (·.1))) (by
    show (tl.kd.map _)[i]? = _
    rw [List.getElem?_map, List.getElem?_eq_getElem hi, e]
    rfl)
end KW
open PySem PySem.W PySem.Calls PyProof.Rows
theorem KW.holdsR (LT : KW.LawT) : PySem.Challenge.rw_callways_k50_rest_forms_by_hand.Holds := by
  w_on; o_law
  refine HandSHeadRun.head_any (r := OpenLaw.row PySem.Challenge.rw_callways_k50_rest_forms_by_hand) (q := view (OpenLaw.row PySem.Challenge.rw_callways_k50_rest_forms_by_hand).prog [51]) (H := KW.hk) (ob := KW.ob) (M := 6000) (loose := KW.names) (d := HandSHeadRun.topDef (OpenLaw.row PySem.Challenge.rw_callways_k50_rest_forms_by_hand).prog 51) (kwd := []) KW.ob_eq
    (by kernel_rfl) (fun s => by kernel_rfl) KW.run (by kernel_rfl) (by kernel_rfl) (by kernel_rfl) (by rfl) (by first | assumption | decide +kernel) (by decide +kernel) ⟨rfl, rfl, rfl, rfl, rfl, by decide +kernel⟩ ?hw ?hc
  case hw => w_witness2
  case hc =>
    refine KP.walk_G (l := PySem.Challenge.rw_callways_k50_rest_forms_by_hand) (n := 63) (k := KW.lv) (x := "_law_script") rfl (by decide) (by kernel_rfl) ⟨rfl, by decide +kernel, by decide +kernel⟩ ?F
    intro w mg fa h Y G hmg0
    obtain ⟨K, KX, c⟩ := Y
    have hmg : mg ("law" : PySem.Str) = some (.ref fa) := by
      have e : (HandSHeadRun.topDef (OpenLaw.row PySem.Challenge.rw_callways_k50_rest_forms_by_hand).prog 51).name = ("law" : PySem.Str) := by kernel_rfl
      rw [← e]
      exact hmg0
    have T := KW.tabOk KX G c
    have hI : KW.tab.fn ("law", none) = some ⟨["_law_script"], [], 17, false, []⟩ := by rfl
    have e := hmg.symm.trans (T.fn "law" _ hI).1
    cases e
    obtain ⟨h1, h2⟩ := KP.law_sp (P := PySem.Challenge.rw_callways_k50_rest_forms_by_hand.prog) (w := w) (K := K) (mg := mg) (nm := "law") (x := "_law_script") hI rfl rfl (fun base => KW.k_ok c.t.d T) LT
    exact ⟨K, _, KX, h1, h2⟩
theorem PySem.Challenge.cw_callways_k50_rest_forms_by_hand_holds : PySem.Challenge.rw_callways_k50_rest_forms_by_hand.Holds := by
  exact KW.holdsR KW.lawT
