import PyProof.Rows.All
import Wide.All
import OpenK.AllK
import Wide.FinOn
import HandS.ForMost
import HandS.ForExc
import HandS.Wide
import HandS.WideBits
import HandS.TupAny
import HandS.IsInst
import HandS.Deep
import PyProof.StrBlock2
import HandS.Style
import HandS.SortInts
import HandS.Strs
import HandS.SetFor
import HandS.EndBits
import PySem.Challenge.RW_knownholds_k01_heads
set_option Elab.async false
set_option linter.all false
set_option maxRecDepth 100000
set_option maxHeartbeats 8000000
set_option autoImplicit false
/-! VL: a value layer over HandS. Data by value (D), mutable objects in a numbered store (Ms.M) or owned by a local name (Cell.own). -/
namespace VL
open PySem PySem.Spec PyProof.Rows L2

inductive D where
  | non | bl (b : Bool) | int (i : Int) | str (t : List Nat)
  | lst (ds : List D) | tup (ds : List D) | dic (ks vs : List D) | scr (ns : List Int) | ob (n : Nat)
  deriving Inhabited
inductive MO where
  | lst (ds : List D) | dic (ks vs : List D) | ins (c : List Nat) (fn : List (List Nat)) (fv : List D)
  deriving Inhabited
inductive Cell where
  | un | v (d : D) | own (o : MO)
  deriving Inhabited
structure Ms where
  env : List Cell
  M : List MO
/-- an operand: a value, or the object that a local name owns -/
inductive Opd where
  | d (d : D) | cell (i : Nat)
/-- a value, or an object just made that nobody holds yet -/
inductive Nv where
  | d (d : D) | nw (o : MO)
inductive Res (α : Type) where
  | ok (a : α) | ex (x : List Nat)
inductive Fl where
  | nx | rt (d : D) | bk | ct
abbrev C (α : Type) := Ms → Option (Res α × Ms)
abbrev Stm := C Fl
abbrev Fn := List D → List MO → Option (Res D × List MO)

def toS (t : List Nat) : Str := ⟨t.toArray⟩
theorem toS_cps (t : List Nat) : (toS t).cps.toList = t := by simp [toS]
theorem toS_len (t : List Nat) : (toS t).length = t.length := by simp [toS, Str.length]
theorem toS_of (s : Str) : toS s.cps.toList = s := by cases s; simp [toS]
theorem toS_inj {a b : List Nat} (h : toS a = toS b) : a = b := by rw [← toS_cps a, h, toS_cps]
theorem toS_app (a b : List Nat) : toS a ++ toS b = toS (a ++ b) := by
  show Str.append (toS a) (toS b) = toS (a ++ b)
  simp [Str.append, toS]

def keyD : Key → D
  | .inl i => .int i
  | .inr s => .str s.cps.toList

/-! ### a value and its data -/
mutual
inductive RepV (K : PySem.W.Frag) (G : Hp) (R : List Addr) : V → D → Prop
  | non : RepV K G R .non .non
  | bl (b : Bool) : RepV K G R (.bl b) (.bl b)
  | int (i : Int) : RepV K G R (.int i) (.int i)
  | str (t : List Nat) : RepV K G R (.str (toS t)) (.str t)
  | lst {a : Addr} {xs : List V} {ds : List D} : G a = some (.lst xs) → RepA K G R xs ds → RepV K G R (.ref a) (.lst ds)
  | tup {a : Addr} {xs : List V} {ds : List D} : G a = some (.tup xs) → RepA K G R xs ds → RepV K G R (.ref a) (.tup ds)
  | dic {a : Addr} {kvs : List (Key × V)} {ks vs : List D} : G a = some (.dK kvs) → ks = kvs.map (fun p => keyD p.1) → RepA K G R (kvs.map (·.2)) vs → RepV K G R (.ref a) (.dic ks vs)
  | scr {a : Addr} {ns : List Int} : SqL K G a (ns.map V.int) → RepV K G R (.ref a) (.scr ns)
  | ob {a : Addr} {n : Nat} : R[n]? = some a → RepV K G R (.ref a) (.ob n)
inductive RepA (K : PySem.W.Frag) (G : Hp) (R : List Addr) : List V → List D → Prop
  | nil : RepA K G R [] []
  | cons {v : V} {vs : List V} {d : D} {ds : List D} : RepV K G R v d → RepA K G R vs ds → RepA K G R (v :: vs) (d :: ds)
end

def Pre (R R' : List Addr) : Prop := ∃ t, R' = R ++ t
theorem Pre.refl (R : List Addr) : Pre R R := ⟨[], by simp⟩
theorem Pre.trans {A B C : List Addr} (h : Pre A B) (g : Pre B C) : Pre A C := by
  obtain ⟨t, rfl⟩ := h
  obtain ⟨u, rfl⟩ := g
  exact ⟨t ++ u, by simp⟩
theorem Pre.get {A B : List Addr} (h : Pre A B) {n : Nat} {a : Addr} (e : A[n]? = some a) : B[n]? = some a := by
  obtain ⟨t, rfl⟩ := h
  obtain ⟨hn, e'⟩ := List.getElem?_eq_some_iff.mp e
  rw [List.getElem?_append_left hn, e]
theorem Pre.mem {A B : List Addr} (h : Pre A B) {a : Addr} (e : a ∈ A) : a ∈ B := by
  obtain ⟨t, rfl⟩ := h
  exact List.mem_append_left _ e

section
variable {K : PySem.W.Frag} {G G' H H' : Hp} {R R' : List Addr}
mutual
theorem RepV.mono (g : Same G G') (r : Pre R R') : ∀ {v : V} {d : D}, RepV K G R v d → RepV K G' R' v d
  | _, _, .non => .non
  | _, _, .bl b => .bl b
  | _, _, .int i => .int i
  | _, _, .str t => .str t
  | _, _, .lst h a => .lst (g _ _ h) (RepA.mono g r a)
  | _, _, .tup h a => .tup (g _ _ h) (RepA.mono g r a)
  | _, _, .dic h k a => .dic (g _ _ h) k (RepA.mono g r a)
  | _, _, .scr h => .scr (g.seq h)
  | _, _, .ob h => .ob (r.get h)
theorem RepA.mono (g : Same G G') (r : Pre R R') : ∀ {vs : List V} {ds : List D}, RepA K G R vs ds → RepA K G' R' vs ds
  | _, _, .nil => .nil
  | _, _, .cons h t => .cons (RepV.mono g r h) (RepA.mono g r t)
end
theorem RepA.length : ∀ {vs : List V} {ds : List D}, RepA K G R vs ds → vs.length = ds.length
  | _, _, .nil => rfl
  | _, _, .cons _ t => by simp [RepA.length t]
theorem RepA.get : ∀ {vs : List V} {ds : List D} {i : Nat} {d : D}, RepA K G R vs ds → ds[i]? = some d → ∃ v, vs[i]? = some v ∧ RepV K G R v d
  | _, _, _, _, .nil, e => by simp at e
  | _, _, 0, _, .cons h _, e => by simp at e; subst e; exact ⟨_, rfl, h⟩
  | _, _, i + 1, d, .cons _ t, e => by
    obtain ⟨v, h1, h2⟩ := RepA.get (i := i) (d := d) t (by simpa using e)
    exact ⟨v, by simpa using h1, h2⟩
theorem RepA.getV : ∀ {vs : List V} {ds : List D} {i : Nat} {v : V}, RepA K G R vs ds → vs[i]? = some v → ∃ d, ds[i]? = some d ∧ RepV K G R v d
  | _, _, _, _, .nil, e => by simp at e
  | _, _, 0, _, .cons h _, e => by simp at e; subst e; exact ⟨_, rfl, h⟩
  | _, _, i + 1, v, .cons _ t, e => by
    obtain ⟨d, h1, h2⟩ := RepA.getV (i := i) (v := v) t (by simpa using e)
    exact ⟨d, by simpa using h1, h2⟩
theorem RepA.append : ∀ {vs ws : List V} {ds es : List D}, RepA K G R vs ds → RepA K G R ws es → RepA K G R (vs ++ ws) (ds ++ es)
  | _, _, _, _, .nil, s => s
  | _, _, _, _, .cons r t, s => .cons r (RepA.append t s)
theorem RepA.take : ∀ {vs : List V} {ds : List D} (n : Nat), RepA K G R vs ds → RepA K G R (vs.take n) (ds.take n)
  | _, _, 0, _ => .nil
  | _, _, _ + 1, .nil => .nil
  | _, _, n + 1, .cons r t => .cons r (RepA.take n t)
theorem RepA.drop : ∀ {vs : List V} {ds : List D} (n : Nat), RepA K G R vs ds → RepA K G R (vs.drop n) (ds.drop n)
  | _, _, 0, r => r
  | _, _, _ + 1, .nil => .nil
  | _, _, n + 1, .cons _ t => RepA.drop n t
theorem RepA.set {v : V} {d : D} (h : RepV K G R v d) : ∀ {vs : List V} {ds : List D} (i : Nat), RepA K G R vs ds → RepA K G R (vs.set i v) (ds.set i d)
  | _, _, _, .nil => .nil
  | _, _, 0, .cons _ t => .cons h t
  | _, _, i + 1, .cons q t => .cons q (RepA.set h i t)
theorem RepA.reverse {vs : List V} {ds : List D} (h : RepA K G R vs ds) : RepA K G R vs.reverse ds.reverse := by
  induction h using RepA.rec (motive_1 := fun _ _ _ => True) with
  | nil => exact .nil
  | cons r _ _ ih => rw [List.reverse_cons, List.reverse_cons]; exact ih.append (.cons r .nil)
  | _ => trivial
theorem RepA.dropLast {vs : List V} {ds : List D} (h : RepA K G R vs ds) : RepA K G R vs.dropLast ds.dropLast := by
  rw [List.dropLast_eq_take, List.dropLast_eq_take, h.length]
  exact h.take _
theorem RepA.ints : ∀ (ns : List Int), RepA K G R (ns.map V.int) (ns.map D.int)
  | [] => .nil
  | n :: r => .cons (.int n) (RepA.ints r)
theorem RepA.ints_of : ∀ {vs : List V} {ns : List Int}, RepA K G R vs (ns.map D.int) → vs = ns.map V.int
  | _, [], h => by cases h; rfl
  | _, n :: r, h => by
    cases h with
    | cons h t => cases h; rw [RepA.ints_of t]; rfl
theorem RepA.strs_of : ∀ {vs : List V} {ts : List (List Nat)}, RepA K G R vs (ts.map D.str) → vs = ts.map (fun t => V.str (toS t))
  | _, [], h => by cases h; rfl
  | _, n :: r, h => by
    cases h with
    | cons h t => cases h; rw [RepA.strs_of t]; rfl
theorem RepA.bls_of : ∀ {vs : List V} {bs : List Bool}, RepA K G R vs (bs.map D.bl) → vs = bs.map V.bl
  | _, [], h => by cases h; rfl
  | _, n :: r, h => by
    cases h with
    | cons h t => cases h; rw [RepA.bls_of t]; rfl
end

/-! ### the state and the heap -/
/-- what stood at an entry: what is data there, what must stay, the numbered objects -/
structure Base where
  G : Hp
  keep : Hp
  R : List Addr
abbrev CL := List Nat → Option Addr

def RepO (K : PySem.W.Frag) (cl : CL) (G : Hp) (R : List Addr) (H : Hp) (a : Addr) : MO → Prop
  | .lst ds => ∃ xs, H a = some (.lst xs) ∧ RepA K G R xs ds
  | .dic ks vs => ∃ kvs : List (Key × V), H a = some (.dK kvs) ∧ ks = kvs.map (fun p => keyD p.1) ∧ RepA K G R (kvs.map (·.2)) vs
  | .ins c fn fv => ∃ C dx fvs, cl c = some C ∧ H a = some (.ins C dx fvs) ∧ fvs.map (·.1) = fn.map toS ∧ RepA K G R (fvs.map (·.2)) fv

structure RelM (K : PySem.W.Frag) (cl : CL) (B : Base) (M : List MO) (G : Hp) (R : List Addr) (H : Hp) : Prop where
  same : Same G H
  g0 : Same B.G G
  gn : ∀ (a : Addr) (o : HO), G a = some o → B.G a = some o ∨ B.keep a = none
  r0 : Pre B.R R
  rk : ∀ a ∈ R, B.keep a = none
  kp : Same B.keep H
  len : R.length = M.length
  nd : R.Nodup
  sh : ∀ (n : Nat) (o : MO) (a : Addr), M[n]? = some o → R[n]? = some a → G a = none ∧ RepO K cl G R H a o

structure Rel (K : PySem.W.Frag) (cl : CL) (B : Base) (st : Ms) (G : Hp) (R : List Addr) (σ : L2.St) (H : Hp) : Prop where
  m : RelM K cl B st.M G R H
  len : σ.length = st.env.length
  val : ∀ (i : Nat) (d : D), st.env[i]? = some (.v d) → ∃ v, σ[i]? = some (some v) ∧ RepV K G R v d
  own : ∀ (i : Nat) (o : MO), st.env[i]? = some (.own o) → ∃ a : Addr, σ[i]? = some (some (.ref a)) ∧ G a = none ∧ a ∉ R ∧ B.keep a = none ∧ RepO K cl G R H a o
  dis : ∀ (i j : Nat) (o o' : MO) (a : Addr), st.env[i]? = some (.own o) → st.env[j]? = some (.own o') → σ[i]? = some (some (.ref a)) → σ[j]? = some (some (.ref a)) → i = j

section
variable {K : PySem.W.Frag} {cl : CL} {B : Base} {st : Ms} {M : List MO} {G G' H H' : Hp} {R R' : List Addr} {σ : L2.St} {a p : Addr} {o : MO} {ho : HO}
theorem RepO.mono (g : Same G G') (r : Pre R R') (e : H' a = H a) (h : RepO K cl G R H a o) : RepO K cl G' R' H' a o := by
  cases o with
  | lst ds => obtain ⟨xs, h1, h2⟩ := h; exact ⟨xs, by rw [e, h1], h2.mono g r⟩
  | dic ks vs => obtain ⟨kvs, h1, h2, h3⟩ := h; exact ⟨kvs, by rw [e, h1], h2, h3.mono g r⟩
  | ins c fn fv => obtain ⟨C, dx, fvs, h1, h2, h3, h4⟩ := h; exact ⟨C, dx, fvs, h1, by rw [e, h2], h3, h4.mono g r⟩
theorem RepO.there (h : RepO K cl G R H a o) : ∃ ho, H a = some ho := by
  cases o with
  | lst ds => obtain ⟨xs, h1, h2⟩ := h; exact ⟨_, h1⟩
  | dic ks vs => obtain ⟨kvs, h1, h2, h3⟩ := h; exact ⟨_, h1⟩
  | ins c fn fv => obtain ⟨C, dx, fvs, h1, h2, h3, h4⟩ := h; exact ⟨_, h2⟩
/-- an object just made, held by nobody -/
structure Fresh (B : Base) (st : Ms) (G : Hp) (R : List Addr) (σ : L2.St) (a : Addr) : Prop where
  g : G a = none
  r : a ∉ R
  k : B.keep a = none
  e : ∀ (i : Nat) (o : MO), st.env[i]? = some (.own o) → σ[i]? ≠ some (some (.ref a))

theorem RelM.someR (r : RelM K cl B M G R H) (h : a ∈ R) : ∃ ho, H a = some ho := by
  obtain ⟨n, hn, e⟩ := List.mem_iff_getElem.mp h
  have hm : n < M.length := by rw [← r.len]; exact hn
  exact (r.sh n M[n] a (List.getElem?_eq_getElem hm) (by rw [List.getElem?_eq_getElem hn, e])).2.there
theorem RelM.freeR (r : RelM K cl B M G R H) (h : H p = none) : p ∉ R := fun z => by
  obtain ⟨ho, e⟩ := r.someR z
  rw [h] at e; cases e
theorem RelM.freeK (r : RelM K cl B M G R H) (h : H p = none) : B.keep p = none := by
  cases e : B.keep p with
  | none => rfl
  | some o => rw [r.kp _ _ e] at h; cases h
theorem RelM.freeG (r : RelM K cl B M G R H) (h : H p = none) : G p = none := by
  cases e : G p with
  | none => rfl
  | some o => rw [r.same _ _ e] at h; cases h
/-- an object laid where nothing was -/
theorem RelM.put (r : RelM K cl B M G R H) (hG : G p = none) (hK : B.keep p = none) (hR : p ∉ R) : RelM K cl B M G R (upd H p ho) := by
  refine ⟨fun b o e => ?_, r.g0, r.gn, r.r0, r.rk, fun b o e => ?_, r.len, r.nd, fun n o b h1 h2 => ?_⟩
  · rw [upd_ne (ne_of_none e hG)]; exact r.same b o e
  · rw [upd_ne (ne_of_none e hK)]; exact r.kp b o e
  · obtain ⟨h3, h4⟩ := r.sh n o b h1 h2
    refine ⟨h3, h4.mono (fun _ _ q => q) (Pre.refl _) (upd_ne ?_)⟩
    intro z; subst z
    exact hR (List.mem_of_getElem? h2)
theorem RelM.new (r : RelM K cl B M G R H) (h : H p = none) : RelM K cl B M G R (upd H p ho) := r.put (r.freeG h) (r.freeK h) (r.freeR h)
theorem Rel.put (r : Rel K cl B st G R σ H) (f : Fresh B st G R σ p) : Rel K cl B st G R σ (upd H p ho) := by
  refine ⟨r.m.put f.g f.k f.r, r.len, r.val, fun i o h => ?_, r.dis⟩
  obtain ⟨a, h1, h2, h3, h4, h5⟩ := r.own i o h
  refine ⟨a, h1, h2, h3, h4, h5.mono (fun _ _ q => q) (Pre.refl _) (upd_ne ?_)⟩
  intro z; subst z
  exact f.e i o h h1
theorem Rel.fresh (r : Rel K cl B st G R σ H) (h : H p = none) : Fresh B st G R σ p := by
  refine ⟨r.m.freeG h, r.m.freeR h, r.m.freeK h, fun i o e z => ?_⟩
  obtain ⟨a, h1, h2, h3, h4, h5⟩ := r.own i o e
  rw [z] at h1; cases h1
  obtain ⟨ho, q⟩ := h5.there
  rw [h] at q; cases q
theorem Rel.new (r : Rel K cl B st G R σ H) (h : H p = none) : Rel K cl B st G R σ (upd H p ho) := r.put (r.fresh h)
/-- an object becomes data -/
theorem RelM.freeze (r : RelM K cl B M G R H) (hG : G p = none) (hK : B.keep p = none) (hR : p ∉ R) (hp : H p = some ho) : RelM K cl B M (upd G p ho) R H := by
  have g : Same G (upd G p ho) := fun b o e => by rw [upd_ne (ne_of_none e hG)]; exact e
  refine ⟨fun b o e => ?_, fun b o e => g _ _ (r.g0 b o e), fun b o e => ?_, r.r0, r.rk, r.kp, r.len, r.nd, fun n o b h1 h2 => ?_⟩
  · by_cases hb : b = p
    · subst hb; rw [upd_same] at e; cases e; exact hp
    · rw [upd_ne hb] at e; exact r.same b o e
  · by_cases hb : b = p
    · subst hb; exact .inr hK
    · rw [upd_ne hb] at e; exact r.gn b o e
  · obtain ⟨h3, h4⟩ := r.sh n o b h1 h2
    refine ⟨?_, h4.mono g (Pre.refl _) rfl⟩
    rw [upd_ne]
    · exact h3
    · intro z; subst z
      exact hR (List.mem_of_getElem? h2)
theorem same_upd {p : Addr} {ho : HO} (h : G p = none) : Same G (upd G p ho) := fun b o e => by rw [upd_ne (ne_of_none e h)]; exact e
theorem Rel.freeze (r : Rel K cl B st G R σ H) (f : Fresh B st G R σ p) (hp : H p = some ho) : Rel K cl B st (upd G p ho) R σ H := by
  refine ⟨r.m.freeze f.g f.k f.r hp, r.len, fun i d h => ?_, fun i o h => ?_, r.dis⟩
  · obtain ⟨v, h1, h2⟩ := r.val i d h
    exact ⟨v, h1, h2.mono (same_upd f.g) (Pre.refl _)⟩
  · obtain ⟨a, h1, h2, h3, h4, h5⟩ := r.own i o h
    have ne : a ≠ p := fun z => by subst z; exact f.e i o h h1
    exact ⟨a, h1, by rw [upd_ne ne]; exact h2, h3, h4, h5.mono (same_upd f.g) (Pre.refl _) rfl⟩
end

/-! ### runs -/

section
variable (K : PySem.W.Frag) (cl : CL) (W : WX)
/-- what a computation's end asks; Q of what it gives, the state, the data part, the numbered objects, the heap -/
def Run {α : Type} (B : Base) (σ : L2.St) (G : Hp) (R : List Addr) (o : Option (Res α × Ms)) (Q : α → Ms → Hp → List Addr → Hp → Prop) : Prop :=
  match o with
  | some (.ok a, st') => ∀ G' R' H', Same G G' → Pre R R' → Rel K cl B st' G' R' σ H' → Q a st' G' R' H'
  | some (.ex x, st') => ∃ C, cl x = some C ∧ ∀ G' R' H', Same G G' → Pre R R' → Rel K cl B st' G' R' σ H' → W (.ref C) none σ H'
  | none => False
def RunS (B : Base) (G : Hp) (R : List Addr) (o : Option (Res Fl × Ms)) (D : Ends) : Prop :=
  match o with
  | some (.ok .nx, st') => ∀ σ' G' R' H', Same G G' → Pre R R' → Rel K cl B st' G' R' σ' H' → D.nx σ' H'
  | some (.ok .bk, st') => ∀ σ' G' R' H', Same G G' → Pre R R' → Rel K cl B st' G' R' σ' H' → D.bk σ' H'
  | some (.ok .ct, st') => ∀ σ' G' R' H', Same G G' → Pre R R' → Rel K cl B st' G' R' σ' H' → D.ct σ' H'
  | some (.ok (.rt d), st') => ∀ σ' G' R' H' v, Same G G' → Pre R R' → Rel K cl B st' G' R' σ' H' → RepV K G' R' v d → D.rt v H'
  | some (.ex x, st') => ∃ C, cl x = some C ∧ ∀ σ' G' R' H', Same G G' → Pre R R' → Rel K cl B st' G' R' σ' H' → W (.ref C) none σ' H'
  | none => False

def RepOp (G : Hp) (R : List Addr) (σ : L2.St) (v : V) : Opd → Prop
  | .d d => RepV K G R v d
  | .cell i => σ[i]? = some (some v)
def RepN (B : Base) (st : Ms) (G : Hp) (R : List Addr) (σ : L2.St) (H : Hp) (v : V) : Nv → Prop
  | .d d => RepV K G R v d
  | .nw o => ∃ a, v = .ref a ∧ Fresh B st G R σ a ∧ RepO K cl G R H a o

def TU (c : C D) : TE := fun σ H Q => ∃ B st G R, Rel K cl B st G R σ H ∧ Run K cl W B σ G R (c st) fun d _ G' R' H' => ∀ v, RepV K G' R' v d → Q v H'
def TO' (c : C Opd) : TE := fun σ H Q => ∃ B st G R, Rel K cl B st G R σ H ∧ Run K cl W B σ G R (c st) fun d _ G' R' H' => ∀ v, RepOp K G' R' σ v d → Q v H'
def TN (c : C Nv) : TE := fun σ H Q => ∃ B st G R, Rel K cl B st G R σ H ∧ Run K cl W B σ G R (c st) fun d st' G' R' H' => ∀ v, RepN K cl B st' G' R' σ H' v d → Q v H'
def TUT (c : C Bool) : TT := fun σ H Q => ∃ B st G R, Rel K cl B st G R σ H ∧ Run K cl W B σ G R (c st) fun b _ _ _ H' => Q b H'
def TUA (c : C (List D)) : TA := fun σ H Q => ∃ B st G R, Rel K cl B st G R σ H ∧ Run K cl W B σ G R (c st) fun ds _ G' R' H' => ∀ vs, RepA K G' R' vs ds → Q vs H'
def TUS (c : Stm) : TS := fun D σ H => ∃ B st G R, Rel K cl B st G R σ H ∧ RunS K cl W B G R (c st) D
end

/-! ### computations -/
def pureC {α : Type} (a : α) : C α := fun st => some (.ok a, st)
def failC {α : Type} : C α := fun _ => none
def raiseC {α : Type} (x : List Nat) : C α := fun st => some (.ex x, st)
def bndC {α β : Type} (a : C α) (k : α → C β) : C β := fun st =>
  match a st with
  | some (.ok x, st1) => k x st1
  | some (.ex e, st1) => some (.ex e, st1)
  | none => none
def optC {α : Type} (o : Option α) : C α := fun st => match o with
  | some a => some (.ok a, st)
  | none => none

section
variable {K : PySem.W.Frag} {cl : CL} {W : WX} {B : Base} {st : Ms} {G G' H H' : Hp} {R R' : List Addr} {σ : L2.St} {α β : Type}
theorem Run.mono {o : Option (Res α × Ms)} {Q Q' : α → Ms → Hp → List Addr → Hp → Prop} (h : Run K cl W B σ G R o Q)
    (f : ∀ a st' G' R' H', o = some (.ok a, st') → Same G G' → Pre R R' → Rel K cl B st' G' R' σ H' → Q a st' G' R' H' → Q' a st' G' R' H') : Run K cl W B σ G R o Q' := by
  unfold Run at h ⊢
  split
  · rename_i a st'
    intro G' R' H' g r rel
    exact f a st' G' R' H' rfl g r rel (h G' R' H' g r rel)
  · exact h
  · exact h
theorem Run.bind {a : C α} {k : α → C β} {Q : β → Ms → Hp → List Addr → Hp → Prop} (h : Run K cl W B σ G R (bndC a k st) Q) :
    Run K cl W B σ G R (a st) (fun x st1 G1 R1 H1 => Rel K cl B st1 G1 R1 σ H1 ∧ Same G G1 ∧ Pre R R1 ∧ Run K cl W B σ G1 R1 (k x st1) Q) := by
  unfold bndC at h
  cases e : a st with
  | none => rw [e] at h; exact h
  | some p =>
    obtain ⟨r, st1⟩ := p
    cases r with
    | ex x => rw [e] at h; exact h
    | ok x =>
      rw [e] at h
      have h : Run K cl W B σ G R (k x st1) Q := h
      show ∀ G' R' H', Same G G' → Pre R R' → Rel K cl B st1 G' R' σ H' → _
      intro G1 R1 H1 g1 r1 rel
      refine ⟨rel, g1, r1, ?_⟩
      unfold Run at h ⊢
      split
      · rename_i b st2 e2
        rw [e2] at h
        intro G2 R2 H2 g2 r2 rel2
        exact h G2 R2 H2 (g1.trans g2) (r1.trans r2) rel2
      · rename_i b st2 e2
        rw [e2] at h
        obtain ⟨C, hC, h⟩ := h
        exact ⟨C, hC, fun G2 R2 H2 g2 r2 rel2 => h G2 R2 H2 (g1.trans g2) (r1.trans r2) rel2⟩
      · rename_i e2
        rw [e2] at h
        exact h
/-- a computation that is over -/
theorem Run.done {a : α} {Q : α → Ms → Hp → List Addr → Hp → Prop} (h : Run K cl W B σ G R (some (.ok a, st)) Q) (rel : Rel K cl B st G R σ H) : Q a st G R H :=
  h G R H (Same.refl _) (Pre.refl _) rel
end
end VL

namespace VL
open PySem PySem.Spec PyProof.Rows L2

/-! ### names -/
def rawV (i : Nat) : C Opd := fun st => match st.env[i]? with
  | some (.v d) => some (.ok (.d d), st)
  | some (.own _) => some (.ok (.cell i), st)
  | _ => none
def MO.asD : MO → Option D
  | .lst ds => some (.lst ds)
  | .dic ks vs => some (.dic ks vs)
  | .ins _ _ _ => none
def frzO (o : Opd) : C D := match o with
  | .d d => pureC d
  | .cell i => fun st => match st.env[i]? with
    | some (.own o) => match o.asD with
      | some d => some (.ok d, { st with env := st.env.set i (.v d) })
      | none => none
    | some (.v d) => some (.ok d, st)
    | _ => none
def valO (A : C Opd) : C D := bndC A frzO
def varV (i : Nat) : C D := valO (rawV i)
def opdC (A : C D) : C Opd := bndC A fun d => pureC (.d d)
def nvC (A : C D) : C Nv := bndC A fun d => pureC (.d d)
def frzN (n : Nv) : C D := match n with
  | .d d => pureC d
  | .nw o => optC o.asD
def valN (A : C Nv) : C D := bndC A frzN
/-- an object just made, numbered -/
def shrN (A : C Nv) : C D := bndC A fun n => match n with
  | .d d => pureC d
  | .nw o => fun st => some (.ok (.ob st.M.length), { st with M := st.M ++ [o] })

section
variable {X : Cx} {cl : CL} {W : WX} {e : Expr} {B : Base} {st : Ms} {G H : Hp} {R : List Addr} {σ : L2.St}
theorem pe_imp {t t' : TE} (h : PE X e t) (f : ∀ σ H Q, t' σ H Q → t σ H Q) : PE X e t' := ⟨fun pins s σ H Q I q => h.run pins s σ H Q I (f σ H Q q)⟩
theorem pt_imp {t t' : TT} (h : PT X e t) (f : ∀ σ H Q, t' σ H Q → t σ H Q) : PT X e t' := ⟨fun pins s σ H Q I q => h.run pins s σ H Q I (f σ H Q q)⟩
theorem RepOp.mono {K : PySem.W.Frag} {G' : Hp} {R' : List Addr} {v : V} {o : Opd} (g : Same G G') (r : Pre R R') (h : RepOp K G R σ v o) : RepOp K G' R' σ v o := by
  cases o with
  | d d => exact RepV.mono g r h
  | cell i => exact h
/-- what a local name owns becomes data -/
theorem Rel.freezeCell {K : PySem.W.Frag} {i : Nat} {o : MO} {d : D} {v : V} (r : Rel K cl B st G R σ H) (e : st.env[i]? = some (.own o)) (hd : o.asD = some d) (hv : σ[i]? = some (some v)) :
    ∃ G', Same G G' ∧ Rel K cl B { st with env := st.env.set i (.v d) } G' R σ H ∧ RepV K G' R v d := by
  obtain ⟨a, h1, h2, h3, h4, h5⟩ := r.own i o e
  rw [hv] at h1
  cases h1
  have hi : i < st.env.length := (List.getElem?_eq_some_iff.mp e).1
  obtain ⟨ho, hho⟩ := h5.there
  have g := same_upd (ho := ho) h2
  refine ⟨upd G a ho, g, ?_, ?_⟩
  · refine ⟨r.m.freeze h2 h4 h3 hho, ?_, fun j d' h => ?_, fun j o' h => ?_, fun j k o1 o2 b e1 e2 => ?_⟩
    · show σ.length = (st.env.set i (.v d)).length
      rw [List.length_set]; exact r.len
    · have h : (st.env.set i (.v d))[j]? = some (.v d') := h
      by_cases hj : j = i
      · subst hj
        rw [List.getElem?_set_self hi] at h
        cases h
        refine ⟨.ref a, hv, ?_⟩
        cases o with
        | lst ds =>
          cases hd
          obtain ⟨xs, q1, q2⟩ := h5
          rw [q1] at hho; cases hho
          exact .lst upd_same (q2.mono g (Pre.refl _))
        | dic ks vs =>
          cases hd
          obtain ⟨kvs, q1, q2, q3⟩ := h5
          rw [q1] at hho; cases hho
          exact .dic upd_same q2 (q3.mono g (Pre.refl _))
        | ins _ _ _ => cases hd
      · rw [List.getElem?_set_ne (Ne.symm hj)] at h
        obtain ⟨v, q1, q2⟩ := r.val j d' h
        exact ⟨v, q1, q2.mono g (Pre.refl _)⟩
    · have h : (st.env.set i (.v d))[j]? = some (.own o') := h
      have hj : j ≠ i := by
        intro z; subst z
        rw [List.getElem?_set_self hi] at h; cases h
      rw [List.getElem?_set_ne (Ne.symm hj)] at h
      obtain ⟨b, q1, q2, q3, q4, q5⟩ := r.own j o' h
      have ne : b ≠ a := by
        intro z; subst z
        exact hj (r.dis j i o' o b h e q1 hv)
      exact ⟨b, q1, by rw [upd_ne ne]; exact q2, q3, q4, q5.mono g (Pre.refl _) rfl⟩
    · have e1 : (st.env.set i (.v d))[j]? = some (.own o1) := e1
      have e2 : (st.env.set i (.v d))[k]? = some (.own o2) := e2
      have hj : j ≠ i := by
        intro z; subst z
        rw [List.getElem?_set_self hi] at e1; cases e1
      have hk : k ≠ i := by
        intro z; subst z
        rw [List.getElem?_set_self hi] at e2; cases e2
      rw [List.getElem?_set_ne (Ne.symm hj)] at e1
      rw [List.getElem?_set_ne (Ne.symm hk)] at e2
      exact r.dis j k o1 o2 b e1 e2
  · cases o with
    | lst ds =>
      cases hd
      obtain ⟨xs, q1, q2⟩ := h5
      rw [q1] at hho; cases hho
      exact .lst upd_same (q2.mono g (Pre.refl _))
    | dic ks vs =>
      cases hd
      obtain ⟨kvs, q1, q2, q3⟩ := h5
      rw [q1] at hho; cases hho
      exact .dic upd_same q2 (q3.mono g (Pre.refl _))
    | ins _ _ _ => cases hd

theorem se_raw (i : Nat) {x : Str} {pos : Pos} (hN : X.N[i]? = some x := by rfl) (hv : Vis X.env.scope x := by first | exact Or.inl rfl | exact Or.inr (Or.inl rfl) | exact Or.inr (Or.inr rfl)) (hd : (x == ("__debug__" : Str)) = false := by decide)
    (hcd : (x == ("__classdict__" : Str)) = false := by decide) : PE X (.Name x pos) (TO' X.K cl W (rawV i)) := by
  refine pe_imp (pe_var hN hv hd hcd) fun σ H Q h => ?_
  obtain ⟨B, st, G, R, rel, run⟩ := h
  unfold rawV at run
  cases e : st.env[i]? with
  | none => rw [e] at run; exact run.elim
  | some c =>
    rw [e] at run
    cases c with
    | un => exact run.elim
    | v d =>
      obtain ⟨v, h1, h2⟩ := rel.val i d e
      exact ⟨v, h1, run.done rel v h2⟩
    | own o =>
      obtain ⟨a, h1, h2⟩ := rel.own i o e
      exact ⟨.ref a, h1, run.done rel (.ref a) h1⟩
theorem to_val {A : C Opd} (h : PE X e (TO' X.K cl W A)) : PE X e (TU X.K cl W (valO A)) := by
  refine pe_imp h fun σ H Q h => ?_
  obtain ⟨B, st, G, R, rel, run⟩ := h
  refine ⟨B, st, G, R, rel, run.bind.mono fun o st1 G1 R1 H1 _ _ _ _ ⟨rel1, _, _, run1⟩ v rv => ?_⟩
  cases o with
  | d d => exact run1.done rel1 v rv
  | cell i =>
    unfold frzO at run1
    simp only at run1
    cases e : st1.env[i]? with
    | none => rw [e] at run1; exact run1.elim
    | some c =>
      rw [e] at run1
      cases c with
      | un => exact run1.elim
      | v d =>
        obtain ⟨v', h1, h2⟩ := rel1.val i d e
        have rv : σ[i]? = some (some v) := rv
        rw [h1] at rv
        cases rv
        exact run1.done rel1 _ h2
      | own o =>
        simp only at run1
        cases hd : o.asD with
        | none => rw [hd] at run1; exact run1.elim
        | some d =>
          rw [hd] at run1
          obtain ⟨G', g, rel', rd⟩ := rel1.freezeCell e hd rv
          exact run1 G' R1 H1 g (Pre.refl _) rel' v rd
theorem se_var (i : Nat) {x : Str} {pos : Pos} (hN : X.N[i]? = some x := by rfl) (hv : Vis X.env.scope x := by first | exact Or.inl rfl | exact Or.inr (Or.inl rfl) | exact Or.inr (Or.inr rfl)) (hd : (x == ("__debug__" : Str)) = false := by decide)
    (hcd : (x == ("__classdict__" : Str)) = false := by decide) : PE X (.Name x pos) (TU X.K cl W (varV i)) := to_val (se_raw i hN hv hd hcd)
theorem to_opd {A : C D} (h : PE X e (TU X.K cl W A)) : PE X e (TO' X.K cl W (opdC A)) := by
  refine pe_imp h fun σ H Q h => ?_
  obtain ⟨B, st, G, R, rel, run⟩ := h
  exact ⟨B, st, G, R, rel, run.bind.mono fun o st1 G1 R1 H1 _ _ _ _ ⟨rel1, _, _, run1⟩ v rv => run1.done rel1 v rv⟩
theorem to_nv {A : C D} (h : PE X e (TU X.K cl W A)) : PE X e (TN X.K cl W (nvC A)) := by
  refine pe_imp h fun σ H Q h => ?_
  obtain ⟨B, st, G, R, rel, run⟩ := h
  exact ⟨B, st, G, R, rel, run.bind.mono fun o st1 G1 R1 H1 _ _ _ _ ⟨rel1, _, _, run1⟩ v rv => run1.done rel1 v rv⟩
theorem repO_asD {K : PySem.W.Frag} {a : Addr} {o : MO} {d : D} (h : RepO K cl G R H a o) (hd : o.asD = some d) (hG : G a = none) : ∃ ho, H a = some ho ∧ RepV K (upd G a ho) R (.ref a) d := by
  cases o with
  | lst ds =>
    cases hd
    obtain ⟨xs, q1, q2⟩ := h
    exact ⟨_, q1, .lst upd_same (q2.mono (same_upd hG) (Pre.refl _))⟩
  | dic ks vs =>
    cases hd
    obtain ⟨kvs, q1, q2, q3⟩ := h
    exact ⟨_, q1, .dic upd_same q2 (q3.mono (same_upd hG) (Pre.refl _))⟩
  | ins _ _ _ => cases hd
theorem of_nv {A : C Nv} (h : PE X e (TN X.K cl W A)) : PE X e (TU X.K cl W (valN A)) := by
  refine pe_imp h fun σ H Q h => ?_
  obtain ⟨B, st, G, R, rel, run⟩ := h
  refine ⟨B, st, G, R, rel, run.bind.mono fun o st1 G1 R1 H1 _ _ _ _ ⟨rel1, _, _, run1⟩ v rv => ?_⟩
  cases o with
  | d d => exact run1.done rel1 v rv
  | nw o =>
    obtain ⟨a, rfl, f, ro⟩ := rv
    have run1 : Run X.K cl W B σ G1 R1 (optC o.asD st1) _ := run1
    cases hd : o.asD with
    | none => rw [hd] at run1; exact run1.elim
    | some d =>
      rw [hd] at run1
      obtain ⟨ho, hho, rd⟩ := repO_asD ro hd f.g
      exact run1 (upd G1 a ho) R1 H1 (same_upd f.g) (Pre.refl _) (rel1.freeze f hho) _ rd
/-- the object just made gets a number -/
theorem Rel.share {K : PySem.W.Frag} {a : Addr} {o : MO} (r : Rel K cl B st G R σ H) (f : Fresh B st G R σ a) (ro : RepO K cl G R H a o) :
    Rel K cl B { st with M := st.M ++ [o] } G (R ++ [a]) σ H := by
  have p : Pre R (R ++ [a]) := ⟨[a], rfl⟩
  refine ⟨⟨r.m.same, r.m.g0, r.m.gn, r.m.r0.trans p, fun b hb => ?_, r.m.kp, ?_, ?_, fun n o' b h1 h2 => ?_⟩, r.len, fun i d h => ?_, fun i o' h => ?_, r.dis⟩
  · rcases List.mem_append.mp hb with hb | hb
    · exact r.m.rk b hb
    · rw [List.mem_singleton.mp hb]; exact f.k
  · show (R ++ [a]).length = (st.M ++ [o]).length
    rw [List.length_append, List.length_append, r.m.len]; rfl
  · rw [List.nodup_append]
    refine ⟨r.m.nd, by simp, fun b hb c hc z => ?_⟩
    rw [List.mem_singleton.mp hc] at z
    subst z
    exact f.r hb
  · have h1 : (st.M ++ [o])[n]? = some o' := h1
    by_cases hn : n < st.M.length
    · rw [List.getElem?_append_left hn] at h1
      rw [List.getElem?_append_left (by rw [r.m.len]; exact hn)] at h2
      obtain ⟨q1, q2⟩ := r.m.sh n o' b h1 h2
      exact ⟨q1, q2.mono (Same.refl _) p rfl⟩
    · have en : n = st.M.length := by
        have := (List.getElem?_eq_some_iff.mp h1).1
        rw [List.length_append, List.length_singleton] at this
        omega
      subst en
      rw [List.getElem?_append_right (Nat.le_refl _), Nat.sub_self] at h1
      cases h1
      rw [List.getElem?_append_right (by rw [r.m.len]; exact Nat.le_refl _), r.m.len, Nat.sub_self] at h2
      cases h2
      exact ⟨f.g, ro.mono (Same.refl _) p rfl⟩
  · obtain ⟨v, q1, q2⟩ := r.val i d h
    exact ⟨v, q1, q2.mono (Same.refl _) p⟩
  · obtain ⟨b, q1, q2, q3, q4, q5⟩ := r.own i o' h
    refine ⟨b, q1, q2, fun hb => ?_, q4, q5.mono (Same.refl _) p rfl⟩
    rcases List.mem_append.mp hb with hb | hb
    · exact q3 hb
    · rw [List.mem_singleton.mp hb] at q1
      exact f.e i o' h q1
theorem to_shr {A : C Nv} (h : PE X e (TN X.K cl W A)) : PE X e (TU X.K cl W (shrN A)) := by
  refine pe_imp h fun σ H Q h => ?_
  obtain ⟨B, st, G, R, rel, run⟩ := h
  refine ⟨B, st, G, R, rel, run.bind.mono fun o st1 G1 R1 H1 _ _ _ _ ⟨rel1, _, _, run1⟩ v rv => ?_⟩
  cases o with
  | d d => exact run1.done rel1 v rv
  | nw o =>
    obtain ⟨a, rfl, f, ro⟩ := rv
    refine run1 G1 (R1 ++ [a]) H1 (Same.refl _) ⟨[a], rfl⟩ (rel1.share f ro) _ (.ob ?_)
    rw [List.getElem?_append_right (by rw [rel1.m.len]; exact Nat.le_refl _), rel1.m.len, Nat.sub_self]
    rfl

/-! ### constants -/
theorem se_c {v : V} {d : D} (h : PE X e (tC v)) (r : ∀ K G R, RepV K G R v d) : PE X e (TU X.K cl W (pureC d)) := by
  refine pe_imp h fun σ H Q h => ?_
  obtain ⟨B, st, G, R, rel, run⟩ := h
  exact run.done rel v (r _ _ _)
theorem se_int {i : Int} {j pos} : PE X (.Constant (.int i) j pos) (TU X.K cl W (pureC (.int i))) := se_c pe_int fun _ _ _ => .int i
theorem se_bl {b : Bool} {j pos} : PE X (.Constant (.bool b) j pos) (TU X.K cl W (pureC (.bl b))) := se_c pe_bl fun _ _ _ => .bl b
theorem se_non {j pos} : PE X (.Constant .none j pos) (TU X.K cl W (pureC .non)) := se_c pe_non fun _ _ _ => .non
theorem se_str {x : Str} {t : List Nat} {j pos} (h : x = toS t := by decide +kernel) : PE X (.Constant (.str x) j pos) (TU X.K cl W (pureC (.str t))) := by
  subst h
  exact se_c pe_str fun _ _ _ => .str t

/-! ### two operands -/
def rU2 (K : PySem.W.Frag) (cl : CL) (W : WX) (f : Opd → Opd → C Nv) : R2 := fun x y H Q => ∃ B st G R σ dx dy, Rel K cl B st G R σ H ∧ RepOp K G R σ x dx ∧ RepOp K G R σ y dy ∧
  Run K cl W B σ G R (f dx dy st) (fun d st' G' R' H' => ∀ v, RepN K cl B st' G' R' σ H' v d → Q v H')
def bin2 (f : Opd → Opd → C Nv) (A B : C Opd) : C Nv := bndC A fun x => bndC B fun y => f x y
variable {a b : Expr} {A A' : C Opd} {pos : Pos}
theorem op2 {r : R2} {f : Opd → Opd → C Nv} {Q : VK} (hr : ∀ x y H Q, rU2 X.K cl W f x y H Q → r x y H Q) (h : TN X.K cl W (bin2 f A A') σ H Q) : tOp r (TO' X.K cl W A) (TO' X.K cl W A') σ H Q := by
  obtain ⟨B, st, G, R, rel, run⟩ := h
  refine ⟨B, st, G, R, rel, run.bind.mono fun x st1 G1 R1 H1 _ _ _ _ ⟨rel1, _, _, run1⟩ v rv => ?_⟩
  refine ⟨B, st1, G1, R1, rel1, run1.bind.mono fun y st2 G2 R2 H2 _ g r _ ⟨rel2, _, _, run2⟩ w rw => ?_⟩
  exact hr _ _ _ _ ⟨B, st2, G2, R2, σ, x, y, rel2, rv.mono g r, rw, run2⟩
theorem se_bin {op : Operator} {f : Opd → Opd → C Nv} (ho : OpR X (binaryOp op) (rU2 X.K cl W f)) (ha : PE X a (TO' X.K cl W A)) (hb : PE X b (TO' X.K cl W A')) : PE X (.BinOp a op b pos) (TN X.K cl W (bin2 f A A')) :=
  pe_imp (pe_op ho ha hb) fun _ _ _ h => op2 (fun _ _ _ _ q => q) h
/-- numbers -/
def numC (f : Int → Int → Option Int) (A B : C D) : C D := bndC A fun x => bndC B fun y => optC (match x, y with | .int i, .int j => (f i j).map .int | _, _ => none)
def bop2 {α : Type} (A B : C D) (f : D → D → C α) : C α := bndC A fun x => bndC B fun y => f x y
theorem opD2 {r : R2} {E E' : C D} {f : D → D → C D} {Q : VK} (hr : ∀ x y H Q, (∃ B st G R σ dx dy, Rel X.K cl B st G R σ H ∧ RepV X.K G R x dx ∧ RepV X.K G R y dy ∧ Run X.K cl W B σ G R (f dx dy st) (fun d st' G' R' H' => ∀ v, RepV X.K G' R' v d → Q v H')) → r x y H Q)
    (h : TU X.K cl W (bop2 E E' f) σ H Q) : tOp r (TU X.K cl W E) (TU X.K cl W E') σ H Q := by
  obtain ⟨B, st, G, R, rel, run⟩ := h
  refine ⟨B, st, G, R, rel, run.bind.mono fun x st1 G1 R1 H1 _ _ _ _ ⟨rel1, _, _, run1⟩ v rv => ?_⟩
  refine ⟨B, st1, G1, R1, rel1, run1.bind.mono fun y st2 G2 R2 H2 _ g r _ ⟨rel2, _, _, run2⟩ w rw => ?_⟩
  exact hr _ _ _ _ ⟨B, st2, G2, R2, σ, x, y, rel2, rv.mono g r, rw, run2⟩
theorem se_num {op : Operator} {P : Int → Int → Prop} {g : Int → Int → Int} {f : Int → Int → Option Int} {E E' : C D} (ho : OpR X (binaryOp op) (rI P fun i j => .int (g i j))) (hf : ∀ i j k, f i j = some k → P i j ∧ k = g i j)
    (ha : PE X a (TU X.K cl W E)) (hb : PE X b (TU X.K cl W E')) : PE X (.BinOp a op b pos) (TU X.K cl W (numC f E E')) := by
  refine pe_imp (pe_op ho ha hb) fun σ H Q h => opD2 (f := fun x y => optC (match x, y with | .int i, .int j => (f i j).map .int | _, _ => none)) (fun x y H Q q => ?_) h
  obtain ⟨B, st, G, R, σ, dx, dy, rel, rx, ry, run⟩ := q
  cases rx with
  | int i =>
    cases ry with
    | int j =>
      cases e : f i j with
      | none => simp only [e, Option.map_none, optC] at run; exact run.elim
      | some k =>
        obtain ⟨h1, rfl⟩ := hf i j k e
        simp only [e, Option.map_some, optC] at run
        exact ⟨i, j, rfl, rfl, h1, run.done rel _ (.int _)⟩
    | _ => exact run.elim
  | _ => cases ry <;> exact run.elim
def subF (i j : Int) : Option Int := some (i - j)
def modF (i j : Int) : Option Int := if 0 < j then some (i % j) else none
def divF (i j : Int) : Option Int := if 0 < j ∧ j.natAbs.log2 < 9000 then some (i / j) else none
/-- k at most n, read so that the kernel does not count n down -/
def leN (k : Int) (n : Nat) : Bool := Nat.ble k.toNat n
theorem leN_iff (k : Int) (n : Nat) : leN k n = true ↔ k ≤ (n : Int) := by
  unfold leN
  rw [Nat.ble_eq]
  omega
def powF (i j : Int) : Option Int := if 0 ≤ j ∧ leN j 1000000 = true ∧ i.natAbs < 2 ^ 64 then some (i ^ j.toNat) else none
def shlF (i j : Int) : Option Int := if 0 ≤ j ∧ leN ((Builtin.Int.intBits i : Int) + j) 134217728 = true then some (i * 2 ^ j.toNat) else none
def shrF (i j : Int) : Option Int := if 0 ≤ j then some (i / 2 ^ j.toNat) else none
def andF (i j : Int) : Option Int := some (Builtin.bitAnd i j)
def orF (i j : Int) : Option Int := some (Builtin.bitOr i j)
def xorF (i j : Int) : Option Int := some (Builtin.bitXor i j)
theorem opI_of {op : Operator} {g : Int → Int → V} (h : OpR X (binaryOp op) (rI0 g)) : OpR X (binaryOp op) (rI (fun _ _ => True) g) := fun pins s σ H x y v u Q I rx ry ⟨i, j, e1, e2, _, q⟩ => h pins s σ H x y v u Q I rx ry ⟨i, j, e1, e2, q⟩
variable {E E' : C D}
theorem se_sub (ha : PE X a (TU X.K cl W E)) (hb : PE X b (TU X.K cl W E')) : PE X (.BinOp a .Sub b pos) (TU X.K cl W (numC subF E E')) :=
  se_num (opI_of op_sub) (fun i j k h => by cases h; exact ⟨trivial, rfl⟩) ha hb
theorem se_mod (ha : PE X a (TU X.K cl W E)) (hb : PE X b (TU X.K cl W E')) : PE X (.BinOp a .Mod b pos) (TU X.K cl W (numC modF E E')) :=
  se_num op_mod (fun i j k h => by
    unfold modF at h
    split at h
    · cases h; exact ⟨by assumption, rfl⟩
    · cases h) ha hb
theorem se_div (ha : PE X a (TU X.K cl W E)) (hb : PE X b (TU X.K cl W E')) : PE X (.BinOp a .FloorDiv b pos) (TU X.K cl W (numC divF E E')) :=
  se_num op_fdivW (fun i j k h => by
    unfold divF at h
    split at h
    · cases h; exact ⟨by assumption, rfl⟩
    · cases h) ha hb
theorem se_pow (ha : PE X a (TU X.K cl W E)) (hb : PE X b (TU X.K cl W E')) : PE X (.BinOp a .Pow b pos) (TU X.K cl W (numC powF E E')) :=
  se_num op_pow (fun i j k h => by
    unfold powF at h
    split at h
    · rename_i q
      simp only [leN_iff] at q
      cases h; exact ⟨by first | (show 0 ≤ j ∧ j ≤ 1000000 ∧ i.natAbs < 2 ^ 64; exact q) | (show 0 ≤ j ∧ _ ≤ _; exact q), rfl⟩
    · cases h) ha hb
theorem se_shl (ha : PE X a (TU X.K cl W E)) (hb : PE X b (TU X.K cl W E')) : PE X (.BinOp a .LShift b pos) (TU X.K cl W (numC shlF E E')) :=
  se_num op_shlW (fun i j k h => by
    unfold shlF at h
    split at h
    · rename_i q
      simp only [leN_iff] at q
      cases h; exact ⟨by first | (show 0 ≤ j ∧ j ≤ 1000000 ∧ i.natAbs < 2 ^ 64; exact q) | (show 0 ≤ j ∧ _ ≤ _; exact q), rfl⟩
    · cases h) ha hb
theorem se_shr (ha : PE X a (TU X.K cl W E)) (hb : PE X b (TU X.K cl W E')) : PE X (.BinOp a .RShift b pos) (TU X.K cl W (numC shrF E E')) :=
  se_num op_shr (fun i j k h => by
    unfold shrF at h
    split at h
    · cases h; exact ⟨by assumption, rfl⟩
    · cases h) ha hb
theorem se_and' (ha : PE X a (TU X.K cl W E)) (hb : PE X b (TU X.K cl W E')) : PE X (.BinOp a .BitAnd b pos) (TU X.K cl W (numC andF E E')) :=
  se_num (opI_of op_and) (fun i j k h => by cases h; exact ⟨trivial, rfl⟩) ha hb
theorem se_or' (ha : PE X a (TU X.K cl W E)) (hb : PE X b (TU X.K cl W E')) : PE X (.BinOp a .BitOr b pos) (TU X.K cl W (numC orF E E')) :=
  se_num (opI_of op_or) (fun i j k h => by cases h; exact ⟨trivial, rfl⟩) ha hb
theorem se_xor' (ha : PE X a (TU X.K cl W E)) (hb : PE X b (TU X.K cl W E')) : PE X (.BinOp a .BitXor b pos) (TU X.K cl W (numC xorF E E')) :=
  se_num (opI_of op_xor) (fun i j k h => by cases h; exact ⟨trivial, rfl⟩) ha hb
end

/-! ### what an operand shows -/
def seqD (st : Ms) : D → Option (List D)
  | .lst ds => some ds
  | .ob n => match st.M[n]? with
    | some (.lst ds) => some ds
    | _ => none
  | _ => none
def seqL (st : Ms) : Opd → Option (List D)
  | .d d => seqD st d
  | .cell i => match st.env[i]? with
    | some (.own (.lst ds)) => some ds
    | some (.v d) => seqD st d
    | _ => none
def dicD (st : Ms) : D → Option (List D × List D)
  | .dic ks vs => some (ks, vs)
  | .ob n => match st.M[n]? with
    | some (.dic ks vs) => some (ks, vs)
    | _ => none
  | _ => none
def dicL (st : Ms) : Opd → Option (List D × List D)
  | .d d => dicD st d
  | .cell i => match st.env[i]? with
    | some (.own (.dic ks vs)) => some (ks, vs)
    | some (.v d) => dicD st d
    | _ => none
/-- an operand that is a value (what a name holds, too) -/
def dOf (st : Ms) : Opd → Option D
  | .d d => some d
  | .cell i => match st.env[i]? with
    | some (.v d) => some d
    | _ => none
section
variable {K : PySem.W.Frag} {cl : CL} {B : Base} {st : Ms} {G H : Hp} {R : List Addr} {σ : L2.St} {v : V} {od : Opd} {d : D} {ds ks vs : List D}
theorem seqD_ok (r : Rel K cl B st G R σ H) (h : RepV K G R v d) (e : seqD st d = some ds) : ∃ a xs, v = .ref a ∧ H a = some (.lst xs) ∧ RepA K G R xs ds := by
  cases h with
  | lst h1 h2 => cases e; exact ⟨_, _, rfl, r.m.same _ _ h1, h2⟩
  | ob h1 =>
    rename_i a n
    unfold seqD at e
    simp only at e
    split at e
    · rename_i ds' h2
      cases e
      obtain ⟨_, xs, q1, q2⟩ := r.m.sh n _ a h2 h1
      exact ⟨a, xs, rfl, q1, q2⟩
    · cases e
  | _ => cases e
theorem seqL_ok (r : Rel K cl B st G R σ H) (h : RepOp K G R σ v od) (e : seqL st od = some ds) : ∃ a xs, v = .ref a ∧ H a = some (.lst xs) ∧ RepA K G R xs ds := by
  cases od with
  | d d => exact seqD_ok r h e
  | cell i =>
    unfold seqL at e
    simp only at e
    split at e
    · rename_i ds' h2
      cases e
      obtain ⟨a, q1, q2, q3, q4, xs, q5, q6⟩ := r.own i _ h2
      have h : σ[i]? = some (some v) := h
      rw [q1] at h; cases h
      exact ⟨a, xs, rfl, q5, q6⟩
    · rename_i d h2
      obtain ⟨v', q1, q2⟩ := r.val i _ h2
      have h : σ[i]? = some (some v) := h
      rw [q1] at h; cases h
      exact seqD_ok r q2 e
    · cases e
theorem dicD_ok (r : Rel K cl B st G R σ H) (h : RepV K G R v d) (e : dicD st d = some (ks, vs)) : ∃ a kvs, v = .ref a ∧ H a = some (.dK kvs) ∧ ks = kvs.map (fun p => keyD p.1) ∧ RepA K G R (kvs.map (·.2)) vs := by
  cases h with
  | dic h1 h2 h3 => cases e; exact ⟨_, _, rfl, r.m.same _ _ h1, h2, h3⟩
  | ob h1 =>
    rename_i a n
    unfold dicD at e
    simp only at e
    split at e
    · rename_i ks' vs' h2
      cases e
      obtain ⟨_, kvs, q1, q2, q3⟩ := r.m.sh n _ a h2 h1
      exact ⟨a, kvs, rfl, q1, q2, q3⟩
    · cases e
  | _ => cases e
theorem dicL_ok (r : Rel K cl B st G R σ H) (h : RepOp K G R σ v od) (e : dicL st od = some (ks, vs)) : ∃ a kvs, v = .ref a ∧ H a = some (.dK kvs) ∧ ks = kvs.map (fun p => keyD p.1) ∧ RepA K G R (kvs.map (·.2)) vs := by
  cases od with
  | d d => exact dicD_ok r h e
  | cell i =>
    unfold dicL at e
    simp only at e
    split at e
    · rename_i ks' vs' h2
      cases e
      obtain ⟨a, q1, q2, q3, q4, kvs, q5, q6, q7⟩ := r.own i _ h2
      have h : σ[i]? = some (some v) := h
      rw [q1] at h; cases h
      exact ⟨a, kvs, rfl, q5, q6, q7⟩
    · rename_i d h2
      obtain ⟨v', q1, q2⟩ := r.val i _ h2
      have h : σ[i]? = some (some v) := h
      rw [q1] at h; cases h
      exact dicD_ok r q2 e
    · cases e
theorem dOf_ok (r : Rel K cl B st G R σ H) (h : RepOp K G R σ v od) (e : dOf st od = some d) : RepV K G R v d := by
  cases od with
  | d d' => cases e; exact h
  | cell i =>
    unfold dOf at e
    simp only at e
    split at e
    · rename_i d' h2
      cases e
      obtain ⟨v', q1, q2⟩ := r.val i _ h2
      have h : σ[i]? = some (some v) := h
      rw [q1] at h; cases h
      exact q2
    · cases e
end
end VL

namespace VL
open PySem PySem.Spec PyProof.Rows L2

def LIM : Nat := 1000000
theorem lim_le {n : Nat} (h : n ≤ LIM) : n ≤ sizeLine := Nat.le_trans h (by decide)
theorem lim_lt {n : Nat} (h : n < LIM) : n < sizeLine := Nat.lt_of_lt_of_le h (by decide)

/-! ### + and * -/
def addF (x y : Opd) : C Nv := fun st => match dOf st x, dOf st y with
  | some (.int i), some (.int j) => some (.ok (.d (.int (i + j))), st)
  | some (.str s), some (.str t) => if s.length + t.length ≤ LIM then some (.ok (.d (.str (s ++ t))), st) else none
  | some (.tup s), some (.tup t) => if s.length + t.length ≤ LIM then some (.ok (.d (.tup (s ++ t))), st) else none
  | _, _ => match seqL st x, seqL st y with
    | some s, some t => if s.length + t.length ≤ LIM then some (.ok (.nw (.lst (s ++ t))), st) else none
    | _, _ => none
def repT (t : List Nat) (k : Int) : List Nat := (List.replicate k.toNat t).flatten
def mulF (x y : Opd) : C Nv := fun st => match dOf st x, dOf st y with
  | some (.int i), some (.int j) => if i.natAbs.log2 + j.natAbs.log2 < 1000000 then some (.ok (.d (.int (i * j))), st) else none
  | some (.str s), some (.int k) => if leN (-k) 1000000 = true ∧ leN k 1000000 = true ∧ s.length * k.toNat ≤ LIM then some (.ok (.d (.str (repT s k))), st) else none
  | _, some (.int k) => match seqL st x with
    | some s => if leN (-k) 1000000 = true ∧ leN k 1000000 = true ∧ s.length * k.toNat ≤ LIM then some (.ok (.nw (.lst (List.replicate k.toNat s).flatten)), st) else none
    | _ => none
  | _, _ => none
section
variable {X : Cx} {cl : CL} {W : WX} {B : Base} {st : Ms} {G H : Hp} {R : List Addr} {σ : L2.St}
/-- an end by a value, an end by a new object -/
theorem fin_d {α : Type} {Q : VK} {d : D} {v : V} (rel : Rel X.K cl B st G R σ H) (run : Run X.K cl W B σ G R (some (.ok (Nv.d d), st)) (fun d st' G' R' H' => ∀ v, RepN X.K cl B st' G' R' σ H' v d → Q v H')) (r : RepV X.K G R v d) : Q v H := run.done rel v r
theorem fin_tup {Q : VK} {ds : List D} {xs : List V} {p : Addr} (rel : Rel X.K cl B st G R σ H) (run : Run X.K cl W B σ G R (some (.ok (Nv.d (.tup ds)), st)) (fun d st' G' R' H' => ∀ v, RepN X.K cl B st' G' R' σ H' v d → Q v H')) (r : RepA X.K G R xs ds) (hp : H p = none) : Q (.ref p) (upd H p (.tup xs)) := by
  have f := rel.fresh hp
  have g := same_upd (ho := .tup xs) f.g
  exact run (upd G p (.tup xs)) R _ g (Pre.refl _) ((rel.new hp).freeze f upd_same) _ (.tup upd_same (r.mono g (Pre.refl _)))
theorem fin_lst {Q : VK} {ds : List D} {xs : List V} {p : Addr} (rel : Rel X.K cl B st G R σ H) (run : Run X.K cl W B σ G R (some (.ok (Nv.nw (.lst ds)), st)) (fun d st' G' R' H' => ∀ v, RepN X.K cl B st' G' R' σ H' v d → Q v H')) (r : RepA X.K G R xs ds) (hp : H p = none) : Q (.ref p) (upd H p (.lst xs)) := by
  have f := rel.fresh hp
  exact run G R _ (Same.refl _) (Pre.refl _) (rel.new hp) _ ⟨p, rfl, f, xs, upd_same, r⟩
theorem op_addU : OpR X (binaryOp .Add) (rU2 X.K cl W addF) := by
  intro pins s σ0 H x y v u Q I rx ry h
  obtain ⟨B, st, G, R, σ, dx, dy, rel, hx, hy, run⟩ := h
  unfold addF at run
  try simp only at run
  split at run
  · rename_i i j ex ey
    have h1 := dOf_ok rel hx ex
    have h2 := dOf_ok rel hy ey
    cases h1; cases h2
    exact op_add pins s σ0 H _ _ v u Q I rx ry ⟨i, j, rfl, rfl, run.done rel _ (.int _)⟩
  · rename_i a b ex ey
    have h1 := dOf_ok rel hx ex
    have h2 := dOf_ok rel hy ey
    cases h1; cases h2
    split at run
    · rename_i hz
      refine op_add_str pins s σ0 H _ _ v u Q I rx ry ⟨toS a, toS b, rfl, rfl, by rw [toS_len, toS_len]; exact lim_le hz, ?_⟩
      rw [toS_app]
      exact run.done rel _ (.str _)
    · exact run.elim
  · rename_i a b ex ey
    have h1 := dOf_ok rel hx ex
    have h2 := dOf_ok rel hy ey
    cases h1 with
    | tup ga ra =>
    cases h2 with
    | tup gb rb =>
    rename_i pa xs pb ys
    split at run
    · rename_i hz
      refine op_catA pins s σ0 H _ _ v u Q I rx ry ⟨pa, pb, xs, ys, rfl, rfl, SqT.of (rel.m.same _ _ ga), SqT.of (rel.m.same _ _ gb), by rw [ra.length, rb.length]; exact lim_le hz, fun e => ?_, fun e e' => ?_, fun _ _ p hp => fin_tup rel run (ra.append rb) hp⟩
      · subst e
        cases ra
        exact run.done rel _ (.tup gb rb)
      · subst e'
        cases rb
        rw [List.append_nil] at run
        exact run.done rel _ (.tup ga ra)
    · exact run.elim
  · split at run
    · rename_i a b ex ey
      obtain ⟨pa, xs, rfl, qa, ra⟩ := seqL_ok rel hx ex
      obtain ⟨pb, ys, rfl, qb, rb⟩ := seqL_ok rel hy ey
      split at run
      · rename_i hz
        exact op_cat pins s σ0 H _ _ v u Q I rx ry ⟨pa, pb, xs, ys, rfl, rfl, qa, qb, by rw [ra.length, rb.length]; exact lim_le hz, fun p hp => fin_lst rel run (ra.append rb) hp⟩
      · exact run.elim
    · exact run.elim
theorem RepA.rep {K : PySem.W.Frag} {xs : List V} {ds : List D} (h : RepA K G R xs ds) : ∀ k : Nat, RepA K G R (List.replicate k xs).flatten (List.replicate k ds).flatten
  | 0 => .nil
  | k + 1 => by
    rw [List.replicate_succ, List.replicate_succ, List.flatten_cons, List.flatten_cons]
    exact h.append (RepA.rep h k)
theorem mul_txt (s : List Nat) (k : Int) : Txt.mul (toS s) k = toS (repT s k) := by
  unfold Txt.mul repT
  have fold : ∀ (n : Nat) (acc : Array Nat), ((List.replicate n s.toArray).foldl (· ++ ·) acc) = acc ++ (List.replicate n s).flatten.toArray := by
    intro n
    induction n with
    | zero => intro acc; simp
    | succ n ih => intro acc; rw [List.replicate_succ, List.foldl_cons, ih, List.replicate_succ, List.flatten_cons]; simp [Array.append_assoc]
  split
  · rename_i h
    have : k.toNat = 0 := by omega
    rw [this]; rfl
  · split
    · rename_i h1 h2
      rw [Bool.or_eq_true] at h2
      rcases h2 with h2 | h2
      · have : k = 1 := by simpa using h2
        subst this
        show toS s = toS (List.replicate 1 s).flatten
        simp
      · have : s = [] := by
          have h3 : s.length = 0 := by simpa [toS_len] using h2
          exact List.length_eq_zero_iff.mp h3
        subst this
        show toS [] = toS (List.replicate k.toNat []).flatten
        have : ∀ n : Nat, (List.replicate n ([] : List Nat)).flatten = [] := fun n => by
          induction n with
          | zero => rfl
          | succ n ih => rw [List.replicate_succ, List.flatten_cons, ih]; rfl
        rw [this]
    · show (⟨(List.replicate k.toNat (toS s).cps).foldl (· ++ ·) #[]⟩ : Str) = ⟨(List.replicate k.toNat s).flatten.toArray⟩
      have := fold k.toNat #[]
      simp only [toS]
      rw [this]
      simp
theorem mul_ok {s : List Nat} {k : Int} (h1 : -1000000 ≤ k) (h2 : k ≤ 1000000) (h3 : s.length * k.toNat ≤ LIM) : MulOk (toS s) k := by
  refine ⟨by simp; omega, fun h4 h5 => ?_, fun h4 h5 => ?_⟩
  · rw [toS_len]
    intro z
    have hk : 0 < k := by omega
    have this : (9223372036854 : Int) ≤ (2 ^ 63 - 1) / k := Int.le_ediv_of_mul_le hk (by omega)
    have h6 : s.length ≤ LIM := by
      have : s.length * 1 ≤ s.length * k.toNat := Nat.mul_le_mul_left _ (by omega)
      omega
    have h8 : LIM = 1000000 := rfl
    omega
  · rw [toS_len]
    have := lim_le h3
    have e := sizeLine_eq
    simp only [Builtin.Str.tooLong]
    first
      | (apply decide_eq_false; omega)
      | (simp; omega)
theorem op_mulU : OpR X (binaryOp .Mult) (rU2 X.K cl W mulF) := by
  intro pins s σ0 H x y v u Q I rx ry h
  obtain ⟨B, st, G, R, σ, dx, dy, rel, hx, hy, run⟩ := h
  unfold mulF at run
  try simp only at run
  split at run
  · rename_i i j ex ey
    have h1 := dOf_ok rel hx ex
    have h2 := dOf_ok rel hy ey
    cases h1; cases h2
    split at run
    · rename_i hz
      exact op_mulW pins s σ0 H _ _ v u Q I rx ry ⟨i, j, rfl, rfl, hz, run.done rel _ (.int _)⟩
    · exact run.elim
  · rename_i a k ex ey
    have h1 := dOf_ok rel hx ex
    have h2 := dOf_ok rel hy ey
    cases h1; cases h2
    split at run
    · rename_i hz
      obtain ⟨t, rfl⟩ := rx
      obtain ⟨t', rfl⟩ := ry
      have z1 := (leN_iff _ _).mp hz.1
      have z2 := (leN_iff _ _).mp hz.2.1
      refine SB.mul (mul_ok (by omega) (by omega) hz.2.2) fun t2 k2 => ⟨.str (toS (repT a k)), H, I.tok k2, ⟨t2, by rw [mul_txt]⟩, run.done rel _ (.str _)⟩
    · exact run.elim
  · rename_i k ey hn1 hn2
    split at run
    · rename_i a ex
      obtain ⟨pa, xs, rfl, qa, ra⟩ := seqL_ok rel hx ex
      have h2 := dOf_ok rel hy ey
      cases h2
      split at run
      · rename_i hz
        have z1 := (leN_iff _ _).mp hz.1
        have z2 := (leN_iff _ _).mp hz.2.1
        exact op_rep pins s σ0 H _ _ v u Q I rx ry ⟨pa, k, xs, rfl, rfl, qa, by omega, by omega, by rw [ra.length]; exact lim_le hz.2.2, fun p hp => fin_lst rel run (ra.rep _) hp⟩
      · exact run.elim
    · exact run.elim
  · exact run.elim
variable {a b c e : Expr} {A A' : C Opd} {E E' E'' : C D} {pos : Pos}
theorem se_add (ha : PE X a (TO' X.K cl W A)) (hb : PE X b (TO' X.K cl W A')) : PE X (.BinOp a .Add b pos) (TN X.K cl W (bin2 addF A A')) := se_bin op_addU ha hb
theorem se_mul (ha : PE X a (TO' X.K cl W A)) (hb : PE X b (TO' X.K cl W A')) : PE X (.BinOp a .Mult b pos) (TN X.K cl W (bin2 mulF A A')) := se_bin op_mulU ha hb
def negC (E : C D) : C D := bndC E fun d => optC (match d with | .int i => some (.int (-i)) | _ => none)
theorem se_neg (ha : PE X a (TU X.K cl W E)) : PE X (.UnaryOp .USub a pos) (TU X.K cl W (negC E)) := by
  refine pe_imp (pe_un un_neg ha) fun σ H Q h => ?_
  obtain ⟨B, st, G, R, rel, run⟩ := h
  refine ⟨B, st, G, R, rel, run.bind.mono fun d st1 G1 R1 H1 _ _ _ _ ⟨rel1, _, _, run1⟩ v rv => ?_⟩
  cases rv with
  | int i => exact ⟨i, rfl, run1.done rel1 _ (.int _)⟩
  | _ => exact run1.elim

/-! ### comparisons -/
mutual
def toP : D → PyData
  | .non => .none
  | .bl b => .bool b
  | .int i => .int i
  | .str t => .str (toS t)
  | .lst ds => .list (toPA ds)
  | .tup ds => .tuple (toPA ds)
  | .dic _ _ => .dict []
  | .scr _ => .dict []
  | .ob _ => .dict []
def toPA : List D → List PyData
  | [] => []
  | d :: ds => toP d :: toPA ds
end
mutual
theorem dp_of {K : PySem.W.Frag} (g : Same G H) : ∀ {v : V} {d : D}, RepV K G R v d → (toP d).canLay0 = true → Dp K H v (toP d)
  | _, _, .non, _ => .non
  | _, _, .bl b, _ => .bl b
  | _, _, .int i, _ => .int i
  | _, _, .str t, _ => .str _
  | _, _, .lst h r, k => by
    rw [toP] at k ⊢
    exact .lst (SqL.of (g _ _ h)) (dpa_of g r (by simpa [PyData.canLay0] using k))
  | _, _, .tup h r, k => by
    rw [toP] at k ⊢
    exact .tup (SqT.of (g _ _ h)) (dpa_of g r (by simpa [PyData.canLay0] using k))
  | _, _, .dic _ _ _, k => by simp [toP, PyData.canLay0] at k
  | _, _, .scr _, k => by simp [toP, PyData.canLay0] at k
  | _, _, .ob _, k => by simp [toP, PyData.canLay0] at k
theorem dpa_of {K : PySem.W.Frag} (g : Same G H) : ∀ {vs : List V} {ds : List D}, RepA K G R vs ds → PyData.canLayAll0 (toPA ds) = true → DpAll K H vs (toPA ds)
  | _, _, .nil, _ => .nil
  | _, _, .cons h t, k => by
    rw [toPA] at k ⊢
    rw [PyData.canLayAll0, Bool.and_eq_true] at k
    exact .cons (dp_of g h k.1) (dpa_of g t k.2)
end
/-- an operand as data that == reads -/
def pyO (st : Ms) (x : Opd) : Option PyData := match seqL st x with
  | some ds => some (.list (toPA ds))
  | none => match dOf st x with
    | some d => some (toP d)
    | none => none
theorem pyO_ok {K : PySem.W.Frag} {v : V} {od : Opd} {p : PyData} (r : Rel K cl B st G R σ H) (h : RepOp K G R σ v od) (e : pyO st od = some p) (s : SeqAt.shaped p = true) : Dp K H v p := by
  have k := SeqAt.canLay_of_shaped s
  unfold pyO at e
  split at e
  · rename_i ds e1
    obtain ⟨a, xs, rfl, q, ra⟩ := seqL_ok r h e1
    cases e
    exact .lst (SqL.of q) (dpa_of r.m.same ra (by simpa [PyData.canLay0] using k))
  · split at e
    · rename_i d e1
      cases e
      exact dp_of r.m.same (dOf_ok r h e1) k
    · cases e
def sEq : D → D → Option Bool
  | .int i, .int j => some (decide (i = j))
  | .str s, .str t => some (decide (s = t))
  | .bl s, .bl t => some (decide (s = t))
  | .non, .non => some true
  | .non, .int _ => some false
  | .int _, .non => some false
  | .non, .bl _ => some false
  | .bl _, .non => some false
  | .non, .str _ => some false
  | .str _, .non => some false
  | .int _, .str _ => some false
  | .str _, .int _ => some false
  | .bl _, .str _ => some false
  | .str _, .bl _ => some false
  | _, _ => none
theorem sEq_ok {K : PySem.W.Frag} {x y : V} {d e : D} {k : Bool} (hx : RepV K G R x d) (hy : RepV K G R y e) (h : sEq d e = some k) : scal x y = true ∧ decide (x = y) = k := by
  cases hx <;> cases hy <;> first
    | (cases h; fail)
    | (simp only [sEq, Option.some.injEq] at h; subst h; refine ⟨rfl, ?_⟩; simp; done)
    | (simp only [sEq, Option.some.injEq] at h; subst h; refine ⟨rfl, ?_⟩; rw [decide_eq_decide]; simp; exact ⟨toS_inj, fun e => by rw [e]⟩)
    | (simp [sEq] at h; done)
    | (simp only [sEq, Option.some.injEq] at h; subst h; refine ⟨rfl, ?_⟩; rw [decide_eq_decide]; exact ⟨fun e => toS_inj (V.str.inj e), fun e => by rw [e]⟩)
def deepF (st : Ms) (x y : Opd) : Option Bool := match pyO st x, pyO st y with
  | some p, some q => if SeqAt.shaped p = true ∧ SeqAt.shaped q = true then some (PyData.eqv p q) else none
  | _, _ => none
def eqF (st : Ms) (x y : Opd) : Option Bool := match dOf st x, dOf st y with
  | some d, some e => match sEq d e with
    | some k => some k
    | none => deepF st x y
  | _, _ => deepF st x y
def neF (st : Ms) (x y : Opd) : Option Bool := (eqF st x y).map (!·)
def rC2 (K : PySem.W.Frag) (cl : CL) (f : Ms → Opd → Opd → Option Bool) : R2 := fun x y H Q => ∃ B st G R σ dx dy k, Rel K cl B st G R σ H ∧ RepOp K G R σ x dx ∧ RepOp K G R σ y dy ∧ f st dx dy = some k ∧ Q (.bl k) H
theorem eqF_cases {st : Ms} {x y : Opd} {k : Bool} (h : eqF st x y = some k) : (∃ d e, dOf st x = some d ∧ dOf st y = some e ∧ sEq d e = some k) ∨ ∃ p q, pyO st x = some p ∧ pyO st y = some q ∧ SeqAt.shaped p = true ∧ SeqAt.shaped q = true ∧ PyData.eqv p q = k := by
  have deep : deepF st x y = some k → ∃ p q, pyO st x = some p ∧ pyO st y = some q ∧ SeqAt.shaped p = true ∧ SeqAt.shaped q = true ∧ PyData.eqv p q = k := fun h => by
    unfold deepF at h
    split at h
    · rename_i p q e1 e2
      split at h
      · rename_i s
        exact ⟨p, q, e1, e2, s.1, s.2, Option.some.inj h⟩
      · cases h
    · cases h
  unfold eqF at h
  split at h
  · rename_i d e e1 e2
    split at h
    · rename_i k' e3
      cases h
      exact .inl ⟨d, e, e1, e2, e3⟩
    · exact .inr (deep h)
  · exact .inr (deep h)
theorem op_eqU (hu : X.A.units + 64 < cLine) : OpR X (compareOp .Eq) (rC2 X.K cl eqF) := by
  intro pins s σ0 H x y v u Q I rx ry h
  obtain ⟨B, st, G, R, σ, dx, dy, k, rel, hx, hy, e, q⟩ := h
  rcases eqF_cases e with ⟨d, e', e1, e2, e3⟩ | ⟨p, p', e1, e2, s1, s2, e3⟩
  · obtain ⟨h1, h2⟩ := sEq_ok (dOf_ok rel hx e1) (dOf_ok rel hy e2) e3
    exact op_eq pins s σ0 H x y v u Q I rx ry ⟨h1, by rw [h2]; exact q⟩
  · exact op_eqD hu pins s σ0 H x y v u Q I rx ry ⟨p, p', pyO_ok rel hx e1 s1, pyO_ok rel hy e2 s2, s1, s2, by rw [e3]; exact q⟩
theorem op_neU (hu : X.A.units + 64 < cLine) : OpR X (compareOp .NotEq) (rC2 X.K cl neF) := by
  intro pins s σ0 H x y v u Q I rx ry h
  obtain ⟨B, st, G, R, σ, dx, dy, k, rel, hx, hy, e, q⟩ := h
  unfold neF at e
  obtain ⟨k', e0, rfl⟩ := Option.map_eq_some_iff.mp e
  rcases eqF_cases e0 with ⟨d, e', e1, e2, e3⟩ | ⟨p, p', e1, e2, s1, s2, e3⟩
  · obtain ⟨h1, h2⟩ := sEq_ok (dOf_ok rel hx e1) (dOf_ok rel hy e2) e3
    exact op_ne pins s σ0 H x y v u Q I rx ry ⟨h1, by rw [h2]; exact q⟩
  · exact op_neD hu pins s σ0 H x y v u Q I rx ry ⟨p, p', pyO_ok rel hx e1 s1, pyO_ok rel hy e2 s2, s1, s2, by rw [e3]; exact q⟩
/-- orders of ints -/
def ordF (f : Int → Int → Bool) (st : Ms) (x y : Opd) : Option Bool := match dOf st x, dOf st y with
  | some (.int i), some (.int j) => some (f i j)
  | _, _ => none
def ltF : Ms → Opd → Opd → Option Bool := ordF fun i j => decide (i < j)
def leF : Ms → Opd → Opd → Option Bool := ordF fun i j => decide (i ≤ j)
def gtF : Ms → Opd → Opd → Option Bool := ordF fun i j => decide (j < i)
def geF : Ms → Opd → Opd → Option Bool := ordF fun i j => decide (j ≤ i)
theorem op_ordU {op : CmpOp} {f : Int → Int → Bool} (ho : OpR X (compareOp op) (rI0 fun i j => .bl (f i j))) : OpR X (compareOp op) (rC2 X.K cl (ordF f)) := by
  intro pins s σ0 H x y v u Q I rx ry h
  obtain ⟨B, st, G, R, σ, dx, dy, k, rel, hx, hy, e, q⟩ := h
  unfold ordF at e
  split at e
  · rename_i i j e1 e2
    cases e
    have h1 := dOf_ok rel hx e1
    have h2 := dOf_ok rel hy e2
    cases h1; cases h2
    exact ho pins s σ0 H _ _ v u Q I rx ry ⟨i, j, rfl, rfl, q⟩
  · cases e
theorem op_ltU : OpR X (compareOp .Lt) (rC2 X.K cl ltF) := op_ordU op_lt
theorem op_leU : OpR X (compareOp .LtE) (rC2 X.K cl leF) := op_ordU op_le
theorem op_gtU : OpR X (compareOp .Gt) (rC2 X.K cl gtF) := op_ordU op_gt
theorem op_geU : OpR X (compareOp .GtE) (rC2 X.K cl geF) := op_ordU op_ge
/-- x is None -/
def isNoneO (st : Ms) : Opd → Option Bool
  | .d .non => some true
  | .d _ => some false
  | .cell i => match st.env[i]? with
    | some (.own _) => some false
    | some (.v .non) => some true
    | some (.v _) => some false
    | _ => none
def isF (st : Ms) (x y : Opd) : Option Bool := match y with
  | .d .non => isNoneO st x
  | _ => none
def isntF (st : Ms) (x y : Opd) : Option Bool := (isF st x y).map (!·)
theorem rep_non {K : PySem.W.Frag} {v : V} {d : D} (h : RepV K G R v d) : decide (v = .non) = (match d with | .non => true | _ => false) := by
  cases h <;> simp
theorem isF_ok {K : PySem.W.Frag} {v w : V} {x y : Opd} {k : Bool} (r : Rel K cl B st G R σ H) (hx : RepOp K G R σ v x) (hy : RepOp K G R σ w y) (e : isF st x y = some k) : w = .non ∧ decide (v = .non) = k := by
  unfold isF at e
  split at e
  · have hy : RepV K G R w .non := hy
    cases hy
    refine ⟨rfl, ?_⟩
    unfold isNoneO at e
    split at e
    · rename_i d
      have hx : RepV K G R v .non := hx
      cases hx; cases e; rfl
    · rename_i d hd
      have hx : RepV K G R v d := hx
      cases e
      rw [rep_non hx]
      cases d <;> first | rfl | exact absurd rfl (hd)
    · rename_i i
      have hx : σ[i]? = some (some v) := hx
      split at e
      · rename_i o h
        cases e
        obtain ⟨a, q, _⟩ := r.own i o h
        rw [hx] at q; cases q
        simp
      · rename_i h
        cases e
        obtain ⟨v', q, q2⟩ := r.val i _ h
        rw [hx] at q; cases q
        cases q2; rfl
      · rename_i d h hd
        cases e
        obtain ⟨v', q, q2⟩ := r.val i _ hd
        rw [hx] at q; cases q
        rw [rep_non q2]
        cases d <;> first | rfl | exact absurd rfl (h)
      · cases e
  · cases e
theorem op_isU : OpR X (compareOp .Is) (rC2 X.K cl isF) := by
  intro pins s σ0 H x y v u Q I rx ry h
  obtain ⟨B, st, G, R, σ, dx, dy, k, rel, hx, hy, e, q⟩ := h
  obtain ⟨h1, h2⟩ := isF_ok rel hx hy e
  exact op_isN pins s σ0 H x y v u Q I rx ry ⟨h1, by rw [h2]; exact q⟩
theorem op_isntU : OpR X (compareOp .IsNot) (rC2 X.K cl isntF) := by
  intro pins s σ0 H x y v u Q I rx ry h
  obtain ⟨B, st, G, R, σ, dx, dy, k, rel, hx, hy, e, q⟩ := h
  unfold isntF at e
  obtain ⟨k', e0, rfl⟩ := Option.map_eq_some_iff.mp e
  obtain ⟨h1, h2⟩ := isF_ok rel hx hy e0
  exact op_notN pins s σ0 H x y v u Q I rx ry ⟨h1, by rw [h2]; exact q⟩
/-- a comparison's computation -/
def cmp2 (f : Ms → Opd → Opd → Option Bool) (A B : C Opd) : C Bool := bndC A fun x => bndC B fun y => fun st => match f st x y with
  | some k => some (.ok k, st)
  | none => none
def boolE (c : C Bool) : C D := bndC c fun b => pureC (.bl b)
def tstE (E : C D) : C Bool := bndC E fun d => match d with
  | .bl b => pureC b
  | _ => failC
theorem cmp_read {f : Ms → Opd → Opd → Option Bool} {Q : Bool → Hp → Prop} (h : TUT X.K cl W (cmp2 f A A') σ H Q) : tOp (rC2 X.K cl f) (TO' X.K cl W A) (TO' X.K cl W A') σ H (fun x H' => ∃ k, x = .bl k ∧ Q k H') := by
  obtain ⟨B, st, G, R, rel, run⟩ := h
  refine ⟨B, st, G, R, rel, run.bind.mono fun x st1 G1 R1 H1 _ _ _ _ ⟨rel1, _, _, run1⟩ v rv => ?_⟩
  refine ⟨B, st1, G1, R1, rel1, run1.bind.mono fun y st2 G2 R2 H2 _ g r _ ⟨rel2, _, _, run2⟩ w rw => ?_⟩
  try simp only at run2
  split at run2
  · rename_i k e
    exact ⟨B, st2, G2, R2, σ, x, y, k, rel2, rv.mono g r, rw, e, k, rfl, run2.done rel2⟩
  · exact run2.elim
theorem st_cmp {op : CmpOp} {f : Ms → Opd → Opd → Option Bool} (ho : OpR X (compareOp op) (rC2 X.K cl f)) (ha : PE X a (TO' X.K cl W A)) (hb : PE X b (TO' X.K cl W A')) (hm : behindInMarks op b = false) : PT X (.Compare a [op] [b] pos) (TUT X.K cl W (cmp2 f A A')) :=
  pt_imp (pt_cmpR ho ha hb hm) fun _ _ _ h => cmp_read h
theorem se_cmp {op : CmpOp} {f : Ms → Opd → Opd → Option Bool} (ho : OpR X (compareOp op) (rC2 X.K cl f)) (ha : PE X a (TO' X.K cl W A)) (hb : PE X b (TO' X.K cl W A')) (hm : behindInMarks op b = false) : PE X (.Compare a [op] [b] pos) (TU X.K cl W (boolE (cmp2 f A A'))) := by
  refine pe_imp (pe_cmpR ho ha hb hm) fun σ H Q h => ?_
  have h2 : TUT X.K cl W (cmp2 f A A') σ H (fun k H' => Q (.bl k) H') := by
    obtain ⟨B, st, G, R, rel, run⟩ := h
    exact ⟨B, st, G, R, rel, run.bind.mono fun k st1 G1 R1 H1 _ _ _ _ ⟨rel1, _, _, run1⟩ => run1.done rel1 _ (.bl _)⟩
  have h3 := cmp_read h2
  obtain ⟨B, st, G, R, rel, run⟩ := h3
  refine ⟨B, st, G, R, rel, run.mono fun x st1 G1 R1 H1 _ _ _ _ f v rv => ?_⟩
  obtain ⟨B', st', G', R', rel', run'⟩ := f v rv
  refine ⟨B', st', G', R', rel', run'.mono fun y st2 G2 R2 H2 _ _ _ _ f2 w rw => ?_⟩
  obtain ⟨B, st, G, R, σ, dx, dy, k, r1, r2, r3, r4, k', ek, q⟩ := f2 w rw
  cases ek
  exact ⟨B, st, G, R, σ, dx, dy, _, r1, r2, r3, r4, q⟩

/-! ### tests -/
variable {c1 c2 : C Bool} {rest : List Expr}
theorem st_val (h : PE X e (TU X.K cl W E)) (he : ∀ whole, isTrue e X.env whole = (do let v ← whole; standAt e.pos; holding [v] (truthy v)) := by intro _; rfl) : PT X e (TUT X.K cl W (tstE E)) := by
  refine pt_imp (pt_val h he) fun σ H Q h => ?_
  obtain ⟨B, st, G, R, rel, run⟩ := h
  refine ⟨B, st, G, R, rel, run.bind.mono fun d st1 G1 R1 H1 _ _ _ _ ⟨rel1, _, _, run1⟩ v rv => ?_⟩
  cases rv with
  | bl b => exact ⟨b, rfl, run1.done rel1⟩
  | _ => exact run1.elim
def andC (c1 c2 : C Bool) : C Bool := bndC c1 fun b => match b with
  | true => c2
  | false => pureC false
def orC (c1 c2 : C Bool) : C Bool := bndC c1 fun b => match b with
  | true => pureC true
  | false => c2
def notC (c : C Bool) : C Bool := bndC c fun b => pureC (!b)
theorem pw_imp {t t' : TT} (h : PW X e t) (f : ∀ σ H Q, t' σ H Q → t σ H Q) : PW X e t' := ⟨fun wh pins s σ H Q I q => h.run wh pins s σ H Q I (f σ H Q q)⟩
theorem sw_and1 (h : PT X a (TUT X.K cl W c1)) : PW X (.BoolOp .And [a] pos) (TUT X.K cl W c1) := pw_and1 h
theorem sw_or1 (h : PT X a (TUT X.K cl W c1)) : PW X (.BoolOp .Or [a] pos) (TUT X.K cl W c1) := pw_or1 h
theorem sw_and (ha : PT X a (TUT X.K cl W c1)) (hb : PW X (.BoolOp .And (b :: rest) pos) (TUT X.K cl W c2)) : PW X (.BoolOp .And (a :: b :: rest) pos) (TUT X.K cl W (andC c1 c2)) := by
  refine pw_imp (pw_and ha hb) fun σ H Q h => ?_
  obtain ⟨B, st, G, R, rel, run⟩ := h
  refine ⟨B, st, G, R, rel, run.bind.mono fun k st1 G1 R1 H1 _ _ _ _ ⟨rel1, _, _, run1⟩ => ?_⟩
  cases k with
  | true => exact iteT ⟨B, st1, G1, R1, rel1, run1⟩
  | false => exact iteF (run1.done rel1)
theorem sw_or (ha : PT X a (TUT X.K cl W c1)) (hb : PW X (.BoolOp .Or (b :: rest) pos) (TUT X.K cl W c2)) : PW X (.BoolOp .Or (a :: b :: rest) pos) (TUT X.K cl W (orC c1 c2)) := by
  refine pw_imp (pw_or ha hb) fun σ H Q h => ?_
  obtain ⟨B, st, G, R, rel, run⟩ := h
  refine ⟨B, st, G, R, rel, run.bind.mono fun k st1 G1 R1 H1 _ _ _ _ ⟨rel1, _, _, run1⟩ => ?_⟩
  cases k with
  | true => exact iteT (run1.done rel1)
  | false => exact iteF ⟨B, st1, G1, R1, rel1, run1⟩
theorem st_not (h : PT X a (TUT X.K cl W c1)) : PT X (.UnaryOp .Not a pos) (TUT X.K cl W (notC c1)) := by
  refine pt_imp (pt_not h) fun σ H Q h => ?_
  obtain ⟨B, st, G, R, rel, run⟩ := h
  exact ⟨B, st, G, R, rel, run.bind.mono fun k st1 G1 R1 H1 _ _ _ _ ⟨rel1, _, _, run1⟩ => run1.done rel1⟩
/-- .. as values -/
def andE (A B : C D) : C D := bndC A fun d => match d with
  | .bl true => B
  | .bl false => pureC (.bl false)
  | _ => failC
def orE (A B : C D) : C D := bndC A fun d => match d with
  | .bl true => pureC (.bl true)
  | .bl false => B
  | _ => failC
def notE (A : C D) : C D := bndC A fun d => match d with
  | .bl b => pureC (.bl (!b))
  | _ => failC
theorem se_one {op} (h : PE X a (TU X.K cl W E)) : PE X (.BoolOp op [a] pos) (TU X.K cl W E) := pe_one h
theorem se_and (ha : PE X a (TU X.K cl W E)) (hb : PE X (.BoolOp .And (b :: rest) pos) (TU X.K cl W E')) : PE X (.BoolOp .And (a :: b :: rest) pos) (TU X.K cl W (andE E E')) := by
  refine pe_imp (pe_and ha hb) fun σ H Q h => ?_
  obtain ⟨B, st, G, R, rel, run⟩ := h
  refine ⟨B, st, G, R, rel, run.bind.mono fun d st1 G1 R1 H1 _ _ _ _ ⟨rel1, _, _, run1⟩ v rv => ?_⟩
  cases rv with
  | bl k =>
    refine ⟨k, rfl, ?_⟩
    cases k with
    | true => exact iteT ⟨B, st1, G1, R1, rel1, run1⟩
    | false => exact iteF (run1.done rel1 _ (.bl _))
  | _ => exact run1.elim
theorem se_or (ha : PE X a (TU X.K cl W E)) (hb : PE X (.BoolOp .Or (b :: rest) pos) (TU X.K cl W E')) : PE X (.BoolOp .Or (a :: b :: rest) pos) (TU X.K cl W (orE E E')) := by
  refine pe_imp (pe_or ha hb) fun σ H Q h => ?_
  obtain ⟨B, st, G, R, rel, run⟩ := h
  refine ⟨B, st, G, R, rel, run.bind.mono fun d st1 G1 R1 H1 _ _ _ _ ⟨rel1, _, _, run1⟩ v rv => ?_⟩
  cases rv with
  | bl k =>
    refine ⟨k, rfl, ?_⟩
    cases k with
    | true => exact iteT (run1.done rel1 _ (.bl _))
    | false => exact iteF ⟨B, st1, G1, R1, rel1, run1⟩
  | _ => exact run1.elim
theorem se_not (ha : PE X a (TU X.K cl W E)) : PE X (.UnaryOp .Not a pos) (TU X.K cl W (notE E)) := by
  refine pe_imp (pe_not ha) fun σ H Q h => ?_
  obtain ⟨B, st, G, R, rel, run⟩ := h
  refine ⟨B, st, G, R, rel, run.bind.mono fun d st1 G1 R1 H1 _ _ _ _ ⟨rel1, _, _, run1⟩ v rv => ?_⟩
  cases rv with
  | bl k => exact ⟨k, rfl, run1.done rel1 _ (.bl _)⟩
  | _ => exact run1.elim
def ifE {α : Type} (c : C Bool) (A B : C α) : C α := bndC c fun b => match b with
  | true => A
  | false => B
theorem se_if (hc : PT X c (TUT X.K cl W c1)) (ha : PE X a (TU X.K cl W E)) (hb : PE X b (TU X.K cl W E')) : PE X (.IfExp c a b pos) (TU X.K cl W (ifE c1 E E')) := by
  refine pe_imp (pe_ifExp hc ha hb) fun σ H Q h => ?_
  obtain ⟨B, st, G, R, rel, run⟩ := h
  refine ⟨B, st, G, R, rel, run.bind.mono fun k st1 G1 R1 H1 _ _ _ _ ⟨rel1, _, _, run1⟩ => ?_⟩
  cases k with
  | true => exact iteT ⟨B, st1, G1, R1, rel1, run1⟩
  | false => exact iteF ⟨B, st1, G1, R1, rel1, run1⟩
/-- a < b < c -/
def chainC (f g : Ms → Opd → Opd → Option Bool) (A B E : C Opd) : C Bool := bndC A fun x => bndC B fun y => fun st => match f st x y with
  | some true => bndC E (fun z => fun st => match g st y z with
    | some k => some (.ok k, st)
    | none => none) st
  | some false => some (.ok false, st)
  | none => none
theorem chain_read {f g : Ms → Opd → Opd → Option Bool} {A1 A2 A3 : C Opd} {Q : VK} (h : TU X.K cl W (boolE (chainC f g A1 A2 A3)) σ H Q) : tChain (rC2 X.K cl f) (rC2 X.K cl g) (TO' X.K cl W A1) (TO' X.K cl W A2) (TO' X.K cl W A3) σ H Q := by
  obtain ⟨B, st, G, R, rel, run⟩ := h
  have run := run.bind
  refine ⟨B, st, G, R, rel, run.bind.mono fun x st1 G1 R1 H1 _ _ _ _ ⟨rel1, _, _, run1⟩ v rv => ?_⟩
  refine ⟨B, st1, G1, R1, rel1, run1.bind.mono fun y st2 G2 R2 H2 _ g r _ ⟨rel2, _, _, run2⟩ w rw => ?_⟩
  try simp only at run2
  split at run2
  · rename_i e
    refine ⟨B, st2, G2, R2, σ, x, y, true, rel2, rv.mono g r, rw, e, true, rfl, iteT ?_⟩
    refine ⟨B, st2, G2, R2, rel2, run2.bind.mono fun z st3 G3 R3 H3 _ g3 r3 _ ⟨rel3, _, _, run3⟩ u ru => ?_⟩
    try simp only at run3
    split at run3
    · rename_i k e3
      obtain ⟨_, _, _, q⟩ := run3.done rel3
      exact ⟨B, st3, G3, R3, σ, y, z, k, rel3, rw.mono g3 r3, ru, e3, q.done rel3 _ (.bl _)⟩
    · exact run3.elim
  · rename_i e
    refine ⟨B, st2, G2, R2, σ, x, y, false, rel2, rv.mono g r, rw, e, false, rfl, iteF ?_⟩
    obtain ⟨_, _, _, q⟩ := run2.done rel2
    exact q.done rel2 _ (.bl _)
  · exact run2.elim
theorem se_chain {op op' : CmpOp} {f g : Ms → Opd → Opd → Option Bool} {A1 A2 A3 : C Opd} (ho : OpR X (compareOp op) (rC2 X.K cl f)) (ho' : OpR X (compareOp op') (rC2 X.K cl g)) (ha : PE X a (TO' X.K cl W A1)) (hb : PE X b (TO' X.K cl W A2)) (hc : PE X c (TO' X.K cl W A3))
    (hm : lastMarks [op, op'] [b, c] = false := by with_unfolding_all rfl) : PE X (.Compare a [op, op'] [b, c] pos) (TU X.K cl W (boolE (chainC f g A1 A2 A3))) :=
  pe_imp (pe_chain ho ho' ha hb hc hm) fun _ _ _ h => chain_read h
theorem st_chain {op op' : CmpOp} {f g : Ms → Opd → Opd → Option Bool} {A1 A2 A3 : C Opd} (ho : OpR X (compareOp op) (rC2 X.K cl f)) (ho' : OpR X (compareOp op') (rC2 X.K cl g)) (ha : PE X a (TO' X.K cl W A1)) (hb : PE X b (TO' X.K cl W A2)) (hc : PE X c (TO' X.K cl W A3))
    (hm : lastMarks [op, op'] [b, c] = false := by with_unfolding_all rfl) : PT X (.Compare a [op, op'] [b, c] pos) (TUT X.K cl W (chainC f g A1 A2 A3)) := by
  refine pt_imp (pt_chain ho ho' ha hb hc hm) fun σ H Q h => ?_
  refine chain_read ?_
  obtain ⟨B, st, G, R, rel, run⟩ := h
  refine ⟨B, st, G, R, rel, ?_⟩
  unfold boolE bndC
  unfold Run at run ⊢
  split at run
  · rename_i k st1 e
    show ∀ G' R' H', _ → _ → _ → _
    intro G' R' H' g r rel' v rv
    cases rv
    exact ⟨k, rfl, run G' R' H' g r rel'⟩
  · exact run
  · exact run.elim

/-! ### argument lists, displays -/
variable {es : List Expr} {Es : C (List D)}
def nilA : C (List D) := pureC []
def consA (E : C D) (Es : C (List D)) : C (List D) := bndC E fun d => bndC Es fun ds => pureC (d :: ds)
theorem pa_imp {t t' : TA} (h : PA X es t) (f : ∀ σ H Q, t' σ H Q → t σ H Q) : PA X es t' := ⟨fun pos pins s σ H Q I q => h.run pos pins s σ H Q I (f σ H Q q)⟩
theorem sa_nil : PA X [] (TUA X.K cl W nilA) := pa_imp pa_nil fun σ H Q h => by
  obtain ⟨B, st, G, R, rel, run⟩ := h
  exact run.done rel _ .nil
theorem sa_cons (h : PE X e (TU X.K cl W E)) (hr : PA X es (TUA X.K cl W Es)) (hs : starEach (e :: es) X.env = (false, eval e X.env) :: starEach es X.env := by rfl) : PA X (e :: es) (TUA X.K cl W (consA E Es)) :=
  pa_imp (pa_cons h hr hs) fun σ H Q h => by
    obtain ⟨B, st, G, R, rel, run⟩ := h
    refine ⟨B, st, G, R, rel, run.bind.mono fun d st1 G1 R1 H1 _ _ _ _ ⟨rel1, _, _, run1⟩ v rv => ?_⟩
    refine ⟨B, st1, G1, R1, rel1, run1.bind.mono fun ds st2 G2 R2 H2 _ g r _ ⟨rel2, _, _, run2⟩ vs rs => ?_⟩
    exact run2.done rel2 _ (.cons (rv.mono g r) rs)
def tupE (Es : C (List D)) : C D := bndC Es fun ds => if ds.length ≤ LIM then pureC (.tup ds) else failC
def lstE (Es : C (List D)) : C Nv := bndC Es fun ds => if ds.length ≤ LIM then pureC (.nw (.lst ds)) else failC
theorem se_tup {k : Nat} (h : PA X es (TUA X.K cl W Es)) : PE X (.Tuple es k pos) (TU X.K cl W (tupE Es)) := by
  refine pe_imp (pe_tup h) fun σ H Q h => ?_
  obtain ⟨B, st, G, R, rel, run⟩ := h
  refine ⟨B, st, G, R, rel, run.bind.mono fun ds st1 G1 R1 H1 _ _ _ _ ⟨rel1, _, _, run1⟩ vs rs => ?_⟩
  split at run1
  · rename_i hz
    refine ⟨by rw [rs.length]; exact lim_le hz, fun p hp => ?_⟩
    have f := rel1.fresh hp
    have g := same_upd (ho := .tup vs) f.g
    exact run1 (upd G1 p (.tup vs)) R1 _ g (Pre.refl _) ((rel1.new hp).freeze f upd_same) _ (.tup upd_same (rs.mono g (Pre.refl _)))
  · exact run1.elim
theorem se_lst (h : PA X es (TUA X.K cl W Es)) : PE X (.List es pos) (TN X.K cl W (lstE Es)) := by
  refine pe_imp (pe_lst h) fun σ H Q h => ?_
  obtain ⟨B, st, G, R, rel, run⟩ := h
  refine ⟨B, st, G, R, rel, run.bind.mono fun ds st1 G1 R1 H1 _ _ _ _ ⟨rel1, _, _, run1⟩ vs rs => ?_⟩
  split at run1
  · rename_i hz
    exact ⟨by rw [rs.length]; exact lim_le hz, fun p hp => fin_lst rel1 run1 rs hp⟩
  · exact run1.elim
end
end VL

namespace VL
open PySem PySem.Spec PyProof.Rows L2

/-! ### subscripts, slices -/
def ixF (st : Ms) (x : Opd) (y : D) : Option D := match y with
  | .int i => match seqL st x with
    | some ds => atI ds i
    | none => match dOf st x with
      | some (.tup ds) => atI ds i
      | some (.str t) => if t.length ≤ LIM then (atI t i).map (fun c => .str [c]) else none
      | some (.scr ns) => (atI ns i).map .int
      | _ => none
  | _ => none
def ixE (A : C Opd) (E : C D) : C D := bndC A fun x => bndC E fun y => fun st => match ixF st x y with
  | some d => some (.ok d, st)
  | none => none
def cutL {α : Type} (xs : List α) (lo hi : Option Int) : List α := (xs.drop (HT.sIx xs.length 0 lo)).take (HT.sIx xs.length xs.length hi - HT.sIx xs.length 0 lo)
def slF (st : Ms) (x : Opd) (lo hi : Option Int) : Option Nv := match seqL st x with
  | some ds => some (.nw (.lst (cutL ds lo hi)))
  | none => match dOf st x with
    | some (.tup ds) => some (.d (.tup (cutL ds lo hi)))
    | some (.str t) => if t.length ≤ LIM then some (.d (.str (cutL t lo hi))) else none
    | some (.scr ns) => some (.nw (.lst ((cutL ns lo hi).map .int)))
    | _ => none
def partN : C (Option Int) := pureC none
def partS (E : C D) : C (Option Int) := bndC E fun d => match d with
  | .int i => pureC (some i)
  | _ => failC
def slE (A : C Opd) (lo hi : C (Option Int)) : C Nv := bndC A fun x => bndC lo fun l => bndC hi fun h => fun st => match slF st x l h with
  | some n => some (.ok n, st)
  | none => none
section
variable {X : Cx} {cl : CL} {W : WX} {B : Base} {st : Ms} {G H : Hp} {R : List Addr} {σ : L2.St}
variable {a b c e : Expr} {A A' : C Opd} {E E' E'' : C D} {pos p2 : Pos}
theorem atI_rep {K : PySem.W.Frag} {xs : List V} {ds : List D} {i : Int} {d : D} (r : RepA K G R xs ds) (h : atI ds i = some d) : ∃ v, atI xs i = some v ∧ RepV K G R v d := by
  unfold atI at h ⊢
  rw [← r.length] at h
  obtain ⟨j, h1, h2⟩ := Option.bind_eq_some_iff.mp h
  obtain ⟨v, h3, h4⟩ := r.get h2
  exact ⟨v, by rw [h1]; exact h3, h4⟩
def rIxU (K : PySem.W.Frag) (cl : CL) : R2 := fun x y H Q => ∃ B st G R σ dx dy d, Rel K cl B st G R σ H ∧ RepOp K G R σ x dx ∧ RepV K G R y dy ∧ ixF st dx dy = some d ∧ ∀ v, RepV K G R v d → Q v H
theorem ix_U : IxR X (rIxU X.K cl) := by
  intro value slice pins s σ0 H x y v u Q I rx ry h hs
  obtain ⟨B, st, G, R, σ, dx, dy, d, rel, hx, hy, e, q⟩ := h
  unfold ixF at e
  split at e
  · rename_i i
    cases hy
    split at e
    · rename_i ds e1
      obtain ⟨p, xs, rfl, h1, h2⟩ := seqL_ok rel hx e1
      obtain ⟨w, h3, h4⟩ := atI_rep h2 e
      exact ix_list value slice pins s σ0 H _ _ v u Q I rx ry ⟨p, xs, i, w, rfl, rfl, SqL.of h1, h3, q _ h4⟩ hs
    · split at e
      · rename_i ds e1
        have h := dOf_ok rel hx e1
        cases h with
        | tup ha hr =>
          rename_i p xs
          obtain ⟨w, h3, h4⟩ := atI_rep hr e
          exact ix_tup value slice pins s σ0 H _ _ v u Q I rx ry ⟨p, xs, i, w, rfl, rfl, SqT.of (rel.m.same _ _ ha), h3, q _ h4⟩ hs
      · rename_i t e1
        have h := dOf_ok rel hx e1
        cases h
        split at e
        · rename_i hz
          obtain ⟨c, h3, rfl⟩ := Option.map_eq_some_iff.mp e
          exact ix_str value slice pins s σ0 H _ _ v u Q I rx ry ⟨toS t, i, c, rfl, rfl, by rw [toS_len]; exact lim_le hz, by rw [toS_cps]; exact h3, q _ (.str [c])⟩ hs
        · cases e
      · rename_i ns e1
        have h := dOf_ok rel hx e1
        cases h with
        | scr ha =>
          rename_i p
          obtain ⟨k, h3, rfl⟩ := Option.map_eq_some_iff.mp e
          refine ix_list value slice pins s σ0 H _ _ v u Q I rx ry ⟨p, _, i, .int k, rfl, rfl, rel.m.same.seq ha, ?_, q _ (.int k)⟩ hs
          unfold atI at h3 ⊢
          rw [List.length_map]
          obtain ⟨j, h4, h5⟩ := Option.bind_eq_some_iff.mp h3
          rw [h4]
          show (ns.map V.int)[j]? = _
          rw [List.getElem?_map, h5]; rfl
      · cases e
  · cases e
theorem se_ix (ha : PE X a (TO' X.K cl W A)) (hb : PE X b (TU X.K cl W E)) (hs : PlainIx b := by exact fun _ _ => rfl) : PE X (.Subscript a b pos) (TU X.K cl W (ixE A E)) := by
  refine pe_imp (pe_ix (ix_U (cl := cl)) ha hb hs) fun σ H Q h => ?_
  obtain ⟨B, st, G, R, rel, run⟩ := h
  refine ⟨B, st, G, R, rel, run.bind.mono fun x st1 G1 R1 H1 _ _ _ _ ⟨rel1, _, _, run1⟩ v rv => ?_⟩
  refine ⟨B, st1, G1, R1, rel1, run1.bind.mono fun y st2 G2 R2 H2 _ g r _ ⟨rel2, _, _, run2⟩ w rw => ?_⟩
  try simp only at run2
  split at run2
  · rename_i d e
    exact ⟨B, st2, G2, R2, σ, x, y, d, rel2, rv.mono g r, rw, e, run2.done rel2⟩
  · exact run2.elim
theorem RepA.cut {K : PySem.W.Frag} {xs : List V} {ds : List D} (r : RepA K G R xs ds) (lo hi : Option Int) : RepA K G R (cutV xs lo hi) (cutL ds lo hi) := by
  unfold cutV cutL
  rw [r.length]
  exact (r.drop _).take _
theorem cut_map {α β : Type} (f : α → β) (xs : List α) (lo hi : Option Int) : cutL (xs.map f) lo hi = (cutL xs lo hi).map f := by
  unfold cutL
  rw [List.length_map, List.map_take, List.map_drop]
theorem cut_ints (ns : List Int) (lo hi : Option Int) : cutV (ns.map V.int) lo hi = (cutL ns lo hi).map V.int := cut_map V.int ns lo hi
def rSlU (K : PySem.W.Frag) (cl : CL) (W : WX) : V → Option Int → Option Int → Hp → VK → Prop := fun x lo hi H Q => ∃ B st G R σ dx n, Rel K cl B st G R σ H ∧ RepOp K G R σ x dx ∧ slF st dx lo hi = some n ∧
  Run K cl W B σ G R (some (.ok n, st)) (fun d st' G' R' H' => ∀ v, RepN K cl B st' G' R' σ H' v d → Q v H')
theorem sl_U : SlR X (rSlU X.K cl W) := by
  intro pins s σ0 H x v vl vu lo hi sl Q I rx hs pl pu h
  obtain ⟨B, st, G, R, σ, dx, n, rel, hx, e, run⟩ := h
  unfold slF at e
  split at e
  · rename_i ds e1
    obtain ⟨p, xs, rfl, h1, h2⟩ := seqL_ok rel hx e1
    cases e
    exact sl_list pins s σ0 H _ v vl vu lo hi sl Q I rx hs pl pu ⟨p, xs, rfl, SqL.of h1, fun q hq => fin_lst rel run (h2.cut lo hi) hq⟩
  · split at e
    · rename_i ds e1
      cases e
      have h := dOf_ok rel hx e1
      cases h with
      | tup ha hr =>
        rename_i p xs
        refine sl_tupA pins s σ0 H _ v vl vu lo hi sl Q I rx hs pl pu ⟨p, xs, rfl, SqT.of (rel.m.same _ _ ha), fun hw => ?_, fun _ q hq => fin_tup rel run (hr.cut lo hi) hq⟩
        have ec : cutL ds lo hi = ds := by
          unfold cutL
          rw [← hr.length, hw.1, hw.2, hr.length]
          simp
        rw [ec] at run
        exact run.done rel _ (.tup ha hr)
    · rename_i t e1
      have h := dOf_ok rel hx e1
      cases h
      split at e
      · rename_i hz
        cases e
        refine sl_str pins s σ0 H _ v vl vu lo hi sl Q I rx hs pl pu ⟨toS t, rfl, by rw [toS_len]; exact lim_le hz, ?_⟩
        have ec : cutS (toS t) lo hi = toS (cutL t lo hi) := by
          unfold cutS cutL
          rw [toS_cps, toS_len]; rfl
        rw [ec]
        exact run.done rel _ (.str _)
      · cases e
    · rename_i ns e1
      cases e
      have h := dOf_ok rel hx e1
      cases h with
      | scr ha =>
        rename_i p
        refine sl_list pins s σ0 H _ v vl vu lo hi sl Q I rx hs pl pu ⟨p, _, rfl, rel.m.same.seq ha, fun q hq => ?_⟩
        rw [cut_ints]
        exact fin_lst rel run (RepA.ints _) hq
    · cases e
def TUP (K : PySem.W.Frag) (cl : CL) (W : WX) (c : C (Option Int)) : TO := fun σ H Q => ∃ B st G R, Rel K cl B st G R σ H ∧ Run K cl W B σ G R (c st) fun o _ _ _ H' => Q o H'
theorem po_imp {eo : Option Expr} {t t' : TO} (h : PO X eo t) (f : ∀ σ H Q, t' σ H Q → t σ H Q) : PO X eo t' := ⟨fun pins s σ H Q I q => h.run pins s σ H Q I (f σ H Q q)⟩
theorem so_none : PO X none (TUP X.K cl W partN) := po_imp po_none fun σ H Q h => by
  obtain ⟨B, st, G, R, rel, run⟩ := h
  exact run.done rel
theorem so_some (h : PE X e (TU X.K cl W E)) : PO X (some e) (TUP X.K cl W (partS E)) := po_imp (po_some h) fun σ H Q h => by
  obtain ⟨B, st, G, R, rel, run⟩ := h
  refine ⟨B, st, G, R, rel, run.bind.mono fun d st1 G1 R1 H1 _ _ _ _ ⟨rel1, _, _, run1⟩ v rv => ?_⟩
  cases rv with
  | int i => exact ⟨i, rfl, run1.done rel1⟩
  | _ => exact run1.elim
theorem se_sl {lo hi : Option Expr} {l h : C (Option Int)} (ha : PE X a (TO' X.K cl W A)) (hl : PO X lo (TUP X.K cl W l)) (hh : PO X hi (TUP X.K cl W h)) : PE X (.Subscript a (.Slice lo hi none p2) pos) (TN X.K cl W (slE A l h)) := by
  refine pe_imp (pe_slice (sl_U (cl := cl) (W := W)) ha hl hh) fun σ H Q h => ?_
  obtain ⟨B, st, G, R, rel, run⟩ := h
  refine ⟨B, st, G, R, rel, run.bind.mono fun x st1 G1 R1 H1 _ _ _ _ ⟨rel1, _, _, run1⟩ v rv => ?_⟩
  refine ⟨B, st1, G1, R1, rel1, run1.bind.mono fun lo st2 G2 R2 H2 _ g2 r2 _ ⟨rel2, _, _, run2⟩ => ?_⟩
  refine ⟨B, st2, G2, R2, rel2, run2.bind.mono fun hi st3 G3 R3 H3 _ g3 r3 _ ⟨rel3, _, _, run3⟩ => ?_⟩
  try simp only at run3
  split at run3
  · rename_i n e
    exact ⟨B, st3, G3, R3, σ, x, n, rel3, (rv.mono g2 r2).mono g3 r3, e, run3⟩
  · exact run3.elim

/-! ### built-ins of one argument -/
/-- what a built-in gives: f of the state and the operand -/
def un1 (f : Ms → Opd → Option Nv) (A : C Opd) : C Nv := bndC A fun x => fun st => match f st x with
  | some n => some (.ok n, st)
  | none => none
def rU1 (K : PySem.W.Frag) (cl : CL) (W : WX) (f : Ms → Opd → Option Nv) : List V → Hp → VK → Prop := fun xs H Q => ∃ B st G R σ x dx n, xs = [x] ∧ Rel K cl B st G R σ H ∧ RepOp K G R σ x dx ∧ f st dx = some n ∧
  Run K cl W B σ G R (some (.ok n, st)) (fun d st' G' R' H' => ∀ v, RepN K cl B st' G' R' σ H' v d → Q v H')
theorem un1_read {f : Ms → Opd → Option Nv} {Q : VK} (h : TN X.K cl W (un1 f A) σ H Q) : tCB (rU1 X.K cl W f) (tCons (TO' X.K cl W A) tNil) σ H Q := by
  obtain ⟨B, st, G, R, rel, run⟩ := h
  refine ⟨B, st, G, R, rel, run.bind.mono fun x st1 G1 R1 H1 _ _ _ _ ⟨rel1, _, _, run1⟩ v rv => ?_⟩
  try simp only at run1
  split at run1
  · rename_i n e
    exact ⟨B, st1, G1, R1, σ, v, x, n, rfl, rel1, rv, e, run1⟩
  · exact run1.elim
theorem se_bi {id : String} {x : Str} {p : Pos} {f : Ms → Opd → Option Nv} (hc : CallR X (.builtin id) (rU1 X.K cl W f)) (hg : Gl X x) (hm : X.mg x = none) (hv : bootBuiltins x = some (.builtin id)) (ha : PE X e (TO' X.K cl W A)) (hn : x ≠ "__name__" := by decide) (hdb : (x == ("__debug__" : Str)) = false := by decide)
    (he : starEach [e] X.env = (false, eval e X.env) :: starEach [] X.env := by rfl) (hpl : (backTo pos (starEach [] X.env)).any (·.1) = false := by rfl) : PE X (.Call (.Name x p) [e] [] pos) (TN X.K cl W (un1 f A)) :=
  pe_imp (pe_callB hc hg hm hv (pa_cons ha pa_nil he) hn hdb he hpl) fun _ _ _ h => un1_read h
theorem se_ty {T : String} {x : Str} {p : Pos} {f : Ms → Opd → Option Nv} (hc : CallR X (.type T) (rU1 X.K cl W f)) (hg : Gl X x) (hm : X.mg x = none) (hv : bootBuiltins x = some (.type T)) (ha : PE X e (TO' X.K cl W A)) (hn : x ≠ "__name__" := by decide) (hdb : (x == ("__debug__" : Str)) = false := by decide)
    (he : starEach [e] X.env = (false, eval e X.env) :: starEach [] X.env := by rfl) (hpl : (backTo pos (starEach [] X.env)).any (·.1) = false := by rfl) : PE X (.Call (.Name x p) [e] [] pos) (TN X.K cl W (un1 f A)) :=
  pe_imp (pe_callTy hc hg hm hv (pa_cons ha pa_nil he) hn hdb he hpl) fun _ _ _ h => un1_read h
def lenF (st : Ms) (x : Opd) : Option Nv := match seqL st x with
  | some ds => some (.d (.int ds.length))
  | none => match dOf st x with
    | some (.tup ds) => some (.d (.int ds.length))
    | some (.str t) => if t.length ≤ LIM then some (.d (.int t.length)) else none
    | some (.scr ns) => some (.d (.int ns.length))
    | _ => none
theorem call_lenU : CallR X (.builtin "len") (rU1 X.K cl W lenF) := by
  intro pins s σ0 H xs us Q I r h
  obtain ⟨B, st, G, R, σ, x, dx, n, rfl, rel, hx, e, run⟩ := h
  unfold lenF at e
  split at e
  · rename_i ds e1
    obtain ⟨p, xs, rfl, h1, h2⟩ := seqL_ok rel hx e1
    cases e
    exact call_len_seq pins s σ0 H _ us Q I r ⟨p, xs, rfl, .inl (SqL.of h1), by rw [h2.length]; exact run.done rel _ (.int _)⟩
  · split at e
    · rename_i ds e1
      cases e
      have h := dOf_ok rel hx e1
      cases h with
      | tup ha hr => exact call_len_seq pins s σ0 H _ us Q I r ⟨_, _, rfl, .inr (SqT.of (rel.m.same _ _ ha)), by rw [hr.length]; exact run.done rel _ (.int _)⟩
    · rename_i t e1
      have h := dOf_ok rel hx e1
      cases h
      split at e
      · rename_i hz
        cases e
        exact call_len_str pins s σ0 H _ us Q I r ⟨toS t, rfl, by rw [toS_len]; exact lim_le hz, by rw [toS_len]; exact run.done rel _ (.int _)⟩
      · cases e
    · rename_i ns e1
      cases e
      have h := dOf_ok rel hx e1
      cases h with
      | scr ha => exact call_len_seq pins s σ0 H _ us Q I r ⟨_, _, rfl, .inl (rel.m.same.seq ha), by rw [List.length_map]; exact run.done rel _ (.int _)⟩
    · cases e
def listF (st : Ms) (x : Opd) : Option Nv := match seqL st x with
  | some ds => some (.nw (.lst ds))
  | none => match dOf st x with
    | some (.tup ds) => some (.nw (.lst ds))
    | _ => none
theorem call_listU : CallR X (.type "list") (rU1 X.K cl W listF) := by
  intro pins s σ0 H xs us Q I r h
  obtain ⟨B, st, G, R, σ, x, dx, n, rfl, rel, hx, e, run⟩ := h
  unfold listF at e
  split at e
  · rename_i ds e1
    obtain ⟨p, xs, rfl, h1, h2⟩ := seqL_ok rel hx e1
    cases e
    exact call_list_of pins s σ0 H _ us Q I r ⟨p, xs, rfl, .inl (SqL.of h1), fun l hl => fin_lst rel run h2 hl⟩
  · split at e
    · rename_i ds e1
      cases e
      have h := dOf_ok rel hx e1
      cases h with
      | tup ha hr => exact call_list_of pins s σ0 H _ us Q I r ⟨_, _, rfl, .inr (SqT.of (rel.m.same _ _ ha)), fun l hl => fin_lst rel run hr hl⟩
    · cases e
def tupF (st : Ms) (x : Opd) : Option Nv := match seqL st x with
  | some ds => some (.d (.tup ds))
  | none => match dOf st x with
    | some (.tup ds) => some (.d (.tup ds))
    | _ => none
theorem call_tupU : CallR X (.type "tuple") (rU1 X.K cl W tupF) := by
  intro pins s σ0 H xs us Q I r h
  obtain ⟨B, st, G, R, σ, x, dx, n, rfl, rel, hx, e, run⟩ := h
  unfold tupF at e
  split at e
  · rename_i ds e1
    obtain ⟨p, xs, rfl, h1, h2⟩ := seqL_ok rel hx e1
    cases e
    exact call_tuple_of pins s σ0 H _ us Q I r ⟨p, xs, rfl, .inl ⟨SqL.of h1, fun l hl => fin_tup rel run h2 hl⟩⟩
  · split at e
    · rename_i ds e1
      cases e
      have h := dOf_ok rel hx e1
      cases h with
      | tup ha hr => exact call_tuple_of pins s σ0 H _ us Q I r ⟨_, _, rfl, .inr ⟨SqT.of (rel.m.same _ _ ha), run.done rel _ (.tup ha hr)⟩⟩
    · cases e
def absF (st : Ms) (x : Opd) : Option Nv := match dOf st x with
  | some (.int i) => some (.d (.int (if i < 0 then -i else i)))
  | _ => none
theorem call_absU : CallR X (.builtin "abs") (rU1 X.K cl W absF) := by
  intro pins s σ0 H xs us Q I r h
  obtain ⟨B, st, G, R, σ, x, dx, n, rfl, rel, hx, e, run⟩ := h
  unfold absF at e
  split at e
  · rename_i i e1
    cases e
    have h := dOf_ok rel hx e1
    cases h
    exact call_abs pins s σ0 H _ us Q I r ⟨i, rfl, run.done rel _ (.int _)⟩
  · cases e
def intF (st : Ms) (x : Opd) : Option Nv := match dOf st x with
  | some (.int i) => some (.d (.int i))
  | some (.bl b) => some (.d (.int (if b then 1 else 0)))
  | _ => none
theorem call_intU : CallR X (.type "int") (rU1 X.K cl W intF) := by
  intro pins s σ0 H xs us Q I r h
  obtain ⟨B, st, G, R, σ, x, dx, n, rfl, rel, hx, e, run⟩ := h
  unfold intF at e
  split at e
  · rename_i i e1
    cases e
    have h := dOf_ok rel hx e1
    cases h
    exact call_int1 pins s σ0 H _ us Q I r (.inl ⟨i, rfl, run.done rel _ (.int _)⟩)
  · rename_i i e1
    cases e
    have h := dOf_ok rel hx e1
    cases h
    exact call_int1 pins s σ0 H _ us Q I r (.inr ⟨i, rfl, run.done rel _ (.int _)⟩)
  · cases e

/-! ### isinstance -/
inductive TyN where
  | int | bool | str | list | tuple | dict
  deriving DecidableEq
def TyN.nm : TyN → String
  | .int => "int" | .bool => "bool" | .str => "str" | .list => "list" | .tuple => "tuple" | .dict => "dict"
/-- an operand's type -/
inductive TyD where
  | non | int | bool | str | list | tuple | dict
def TyD.nm : TyD → Value
  | .non => .type "NoneType" | .int => .type "int" | .bool => .type "bool" | .str => .type "str" | .list => .type "list" | .tuple => .type "tuple" | .dict => .type "dict"
def TyD.isa : TyD → TyN → Bool
  | .int, .int => true | .bool, .int => true | .bool, .bool => true | .str, .str => true | .list, .list => true | .tuple, .tuple => true | .dict, .dict => true
  | _, _ => false
def tyO (st : Ms) (x : Opd) : Option TyD := match seqL st x with
  | some _ => some .list
  | none => match dOf st x with
    | some .non => some .non
    | some (.int _) => some .int
    | some (.bl _) => some .bool
    | some (.str _) => some .str
    | some (.tup _) => some .tuple
    | some (.scr _) => some .list
    | _ => match dicL st x with
      | some _ => some .dict
      | none => none
theorem kit_tyD {K : PySem.W.Frag} (t : TyD) (n : TyN) : PySem.W.kitOne K t.nm (.type n.nm) = some (t.isa n) := by
  cases t <;> cases n <;> exact kit_ty (by decide +kernel)
theorem tyX_of_type {K : PySem.W.Frag} {v : V} {od : Opd} {t : TyD} (r : Rel K cl B st G R σ H) (h : RepOp K G R σ v od) (e : tyO st od = some t) : TyX K H v t.nm := by
  unfold tyO at e
  split at e
  · rename_i ds e1
    obtain ⟨p, xs, rfl, h1, h2⟩ := seqL_ok r h e1
    cases e
    exact .base (.lst h1)
  · split at e
    · rename_i e1
      cases e; have h := dOf_ok r h e1; cases h; exact .base .non
    · rename_i e1
      cases e; have h := dOf_ok r h e1; cases h; exact .base (.int _)
    · rename_i e1
      cases e; have h := dOf_ok r h e1; cases h; exact .base (.bl _)
    · rename_i e1
      cases e; have h := dOf_ok r h e1; cases h; exact .base (.str _)
    · rename_i e1
      cases e; have h := dOf_ok r h e1
      cases h with
      | tup ha hr => exact .base (.tup (r.m.same _ _ ha))
    · rename_i e1
      cases e; have h := dOf_ok r h e1
      cases h with
      | scr ha =>
        rcases r.m.same.seq ha with (q | ⟨o, q⟩) | ⟨o, its, n, q1, q2, _⟩
        · exact .base (.lst q)
        · exact .base (.frz q)
        · exact .kList q1 q2
    · split at e
      · rename_i kv e1
        cases e
        obtain ⟨p, kvs, rfl, h1, h2⟩ := dicL_ok (ks := kv.1) (vs := kv.2) r h e1
        exact .base (.dK h1)
      · cases e
def isiF (n : TyN) (st : Ms) (x : Opd) : Option Nv := match tyO st x with
  | some t => some (.d (.bl (t.isa n)))
  | none => none
/-- isinstance(x, T), isinstance(x, (T, ..)) -/
def isiE (ns : List TyN) (A : C Opd) : C D := bndC A fun x => fun st => match tyO st x with
  | some t => some (.ok (.bl (ns.any t.isa)), st)
  | none => none
theorem kit_tyA {K : PySem.W.Frag} (t : TyD) : ∀ ns : List TyN, PySem.W.kitAny K t.nm (ns.map fun n => .type n.nm) = some (ns.any t.isa)
  | [] => rfl
  | n :: ns => by
    rw [List.map_cons, List.any_cons]
    refine kitAny_cons (kit_tyD t n) (fun h => ?_) fun h => ?_
    · rw [h, Bool.false_or]; exact kit_tyA t ns
    · rw [h]; rfl
theorem se_isi {n : TyN} {p p2 : Pos} {nm : Str} (hm : X.mg "isinstance" = none) (hn : X.mg nm = none) (hv : bootBuiltins nm = some (.type n.nm)) (hg : Gl X nm) (hgi : Gl X "isinstance") (ha : PE X e (TO' X.K cl W A)) (hnn : nm ≠ "__name__" := by decide) (hdb : (nm == ("__debug__" : Str)) = false := by decide)
    (he : starEach [e, .Name nm p2] X.env = (false, eval e X.env) :: starEach [.Name nm p2] X.env := by rfl) (hpl : (backTo pos (starEach [.Name nm p2] X.env)).any (·.1) = false := by rfl) (he2 : starEach [.Name nm p2] X.env = (false, eval (.Name nm p2) X.env) :: starEach [] X.env := by rfl) :
    PE X (.Call (.Name "isinstance" p) [e, .Name nm p2] [] pos) (TU X.K cl W (isiE [n] A)) := by
  have hty : PE X (.Name nm p2) (tC (.ty n.nm)) := pe_bltn hg hn hv rfl hnn hdb
  refine pe_imp (pe_callB call_isi hgi hm (by decide +kernel) (pa_cons ha (pa_cons hty pa_nil he2) he) (by decide +kernel) (by decide +kernel) he hpl) fun σ H Q h => ?_
  obtain ⟨B, st, G, R, rel, run⟩ := h
  refine ⟨B, st, G, R, rel, run.bind.mono fun x st1 G1 R1 H1 _ _ _ _ ⟨rel1, _, _, run1⟩ v rv => ?_⟩
  try simp only at run1
  split at run1
  · rename_i t e
    have hk := kit_tyD (K := X.K) t n
    have q := run1.done rel1 (.bl (t.isa n)) (by simpa using RepV.bl _)
    exact ⟨v, .ty n.nm, t.nm, _, t.isa n, rfl, .ty _, tyX_of_type rel1 rv e, hk, q⟩
  · exact run1.elim
theorem se_isi2 {n1 n2 : TyN} {p q1 q2 q3 : Pos} {kt : Nat} {nm1 nm2 : Str} (hm : X.mg "isinstance" = none) (hn1 : X.mg nm1 = none) (hv1 : bootBuiltins nm1 = some (.type n1.nm)) (hg1 : Gl X nm1) (hn2 : X.mg nm2 = none) (hv2 : bootBuiltins nm2 = some (.type n2.nm)) (hg2 : Gl X nm2)
    (hgi : Gl X "isinstance") (ha : PE X e (TO' X.K cl W A)) (hnn1 : nm1 ≠ "__name__" := by decide) (hdb1 : (nm1 == ("__debug__" : Str)) = false := by decide) (hnn2 : nm2 ≠ "__name__" := by decide) (hdb2 : (nm2 == ("__debug__" : Str)) = false := by decide)
    (he : starEach [e, .Tuple [.Name nm1 q1, .Name nm2 q2] kt q3] X.env = (false, eval e X.env) :: starEach [.Tuple [.Name nm1 q1, .Name nm2 q2] kt q3] X.env := by rfl) (hpl : (backTo pos (starEach [.Tuple [.Name nm1 q1, .Name nm2 q2] kt q3] X.env)).any (·.1) = false := by rfl)
    (he2 : starEach [.Tuple [.Name nm1 q1, .Name nm2 q2] kt q3] X.env = (false, eval (.Tuple [.Name nm1 q1, .Name nm2 q2] kt q3) X.env) :: starEach [] X.env := by rfl)
    (he3 : starEach [.Name nm1 q1, .Name nm2 q2] X.env = (false, eval (.Name nm1 q1) X.env) :: starEach [.Name nm2 q2] X.env := by rfl) (he4 : starEach [.Name nm2 q2] X.env = (false, eval (.Name nm2 q2) X.env) :: starEach [] X.env := by rfl) :
    PE X (.Call (.Name "isinstance" p) [e, .Tuple [.Name nm1 q1, .Name nm2 q2] kt q3] [] pos) (TU X.K cl W (isiE [n1, n2] A)) := by
  have h1 : PE X (.Name nm1 q1) (tC (.ty n1.nm)) := pe_bltn hg1 hn1 hv1 rfl hnn1 hdb1
  have h2 : PE X (.Name nm2 q2) (tC (.ty n2.nm)) := pe_bltn hg2 hn2 hv2 rfl hnn2 hdb2
  refine pe_imp (pe_callB call_isiT hgi hm (by decide +kernel) (pa_cons ha (pa_cons (pe_tup (pa_cons h1 (pa_cons h2 pa_nil he4) he3)) pa_nil he2) he) (by decide +kernel) (by decide +kernel) he hpl) fun σ H Q h => ?_
  obtain ⟨B, st, G, R, rel, run⟩ := h
  refine ⟨B, st, G, R, rel, run.bind.mono fun x st1 G1 R1 H1 _ _ _ _ ⟨rel1, _, _, run1⟩ v rv => ?_⟩
  try simp only at run1
  refine ⟨by show 2 ≤ sizeLine; decide, fun tp htp => ?_⟩
  split at run1
  · rename_i t e
    have f := rel1.fresh htp
    have hk := kit_tyA (K := X.K) t [n1, n2]
    have ty : TyX X.K (upd H1 tp (.tup [.ty n1.nm, .ty n2.nm])) v t.nm := by
      have rel2 : Rel X.K cl B st1 G1 R1 σ (upd H1 tp (.tup [.ty n1.nm, .ty n2.nm])) := rel1.new htp
      exact tyX_of_type rel2 rv e
    have q := run1 G1 R1 _ (Same.refl _) (Pre.refl _) (rel1.new (ho := .tup [.ty n1.nm, .ty n2.nm]) htp) _ (.bl _)
    exact ⟨v, tp, _, t.nm, _, _, rfl, upd_same, .cons (.ty _) (.cons (.ty _) .nil), ty, hk, q⟩
  · exact run1.elim
end
end VL

namespace VL
open PySem PySem.Spec PyProof.Rows L2

/-! ### statements -/
def skipS : Stm := pureC .nx
def seqS (a b : Stm) : Stm := bndC a fun f => match f with
  | .nx => b
  | f => pureC f
def putV (i : Nat) (d : D) : Stm := fun st => if i < st.env.length then some (.ok .nx, { st with env := st.env.set i (.v d) }) else none
def asgV (i : Nat) (E : C D) : Stm := bndC E (putV i)
def asgN (i : Nat) (A : C Nv) : Stm := bndC A fun n => match n with
  | .d d => putV i d
  | .nw o => fun st => if i < st.env.length then some (.ok .nx, { st with env := st.env.set i (.own o) }) else none
def exprS (E : C D) : Stm := bndC E fun _ => pureC .nx
def retS (E : C D) : Stm := bndC E fun d => pureC (.rt d)
def retN : Stm := pureC (.rt .non)
def ifS (c : C Bool) (a b : Stm) : Stm := bndC c fun k => match k with
  | true => a
  | false => b
def brkS : Stm := pureC .bk
def cntS : Stm := pureC .ct
def raiseS (x : List Nat) : Stm := raiseC x
def neverS : Stm := failC

section
variable {X : Cx} {cl : CL} {W : WX} {B : Base} {st : Ms} {G G' H : Hp} {R R' : List Addr} {σ : L2.St}
variable {a b c e : Expr} {A A' : C Opd} {N : C Nv} {E E' E'' : C D} {pos p2 : Pos} {s1 s2 : Stmt} {rest : List Stmt} {S1 S2 : Stm} {cb : C Bool}
theorem ps_imp {t t' : TS} (h : PS X s1 t) (f : ∀ D σ H, t' D σ H → t D σ H) : PS X s1 t' := ⟨fun pins s σ H D I q => h.run pins s σ H D I (f D σ H q)⟩
theorem pss_imp {t t' : TS} (h : PSs X rest t) (f : ∀ D σ H, t' D σ H → t D σ H) : PSs X rest t' := ⟨fun pins s σ H D I q => h.run pins s σ H D I (f D σ H q)⟩
theorem RunS.weak {K : PySem.W.Frag} {o : Option (Res Fl × Ms)} {D : Ends} (g : Same G G') (r : Pre R R') (h : RunS K cl W B G R o D) : RunS K cl W B G' R' o D := by
  unfold RunS at h ⊢
  split at h
  · exact fun σ' G2 R2 H2 g2 r2 rel => h σ' G2 R2 H2 (g.trans g2) (r.trans r2) rel
  · exact fun σ' G2 R2 H2 g2 r2 rel => h σ' G2 R2 H2 (g.trans g2) (r.trans r2) rel
  · exact fun σ' G2 R2 H2 g2 r2 rel => h σ' G2 R2 H2 (g.trans g2) (r.trans r2) rel
  · exact fun σ' G2 R2 H2 v g2 r2 rel => h σ' G2 R2 H2 v (g.trans g2) (r.trans r2) rel
  · obtain ⟨C, hC, h⟩ := h
    exact ⟨C, hC, fun σ' G2 R2 H2 g2 r2 rel => h σ' G2 R2 H2 (g.trans g2) (r.trans r2) rel⟩
  · exact h
/-- a statement's run from an expression's -/
theorem RunS.bind {α : Type} {K : PySem.W.Frag} {c : C α} {k : α → Stm} {D : Ends} (h : RunS K cl W B G R (bndC c k st) D) :
    Run K cl W B σ G R (c st) (fun x st1 G1 R1 H1 => Rel K cl B st1 G1 R1 σ H1 ∧ Same G G1 ∧ Pre R R1 ∧ RunS K cl W B G1 R1 (k x st1) D) := by
  unfold bndC at h
  cases e : c st with
  | none => rw [e] at h; exact h
  | some p =>
    obtain ⟨r, st1⟩ := p
    cases r with
    | ex x =>
      rw [e] at h
      obtain ⟨C, hC, h⟩ := h
      exact ⟨C, hC, fun G1 R1 H1 g r rel => h σ G1 R1 H1 g r rel⟩
    | ok x =>
      rw [e] at h
      have h : RunS K cl W B G R (k x st1) D := h
      show ∀ G' R' H', Same G G' → Pre R R' → Rel K cl B st1 G' R' σ H' → _
      intro G1 R1 H1 g1 r1 rel
      exact ⟨rel, g1, r1, h.weak g1 r1⟩
theorem RunS.nx {K : PySem.W.Frag} {D : Ends} {H : Hp} (h : RunS K cl W B G R (some (.ok .nx, st)) D) (rel : Rel K cl B st G R σ H) : D.nx σ H := h σ G R H (Same.refl _) (Pre.refl _) rel
theorem ss_nil : PSs X [] (TUS X.K cl W skipS) := pss_imp pss_nil fun D σ H h => by
  obtain ⟨B, st, G, R, rel, run⟩ := h
  exact run.nx rel
theorem ss_one (h : PS X s1 (TUS X.K cl W S1)) : PSs X [s1] (TUS X.K cl W S1) := pss_one h
theorem ss_cons (h1 : PS X s1 (TUS X.K cl W S1)) (h2 : PSs X rest (TUS X.K cl W S2)) : PSs X (s1 :: rest) (TUS X.K cl W (seqS S1 S2)) := by
  refine pss_imp (pss_cons h1 h2) fun D σ H h => ?_
  obtain ⟨B, st, G, R, rel, run⟩ := h
  refine ⟨B, st, G, R, rel, ?_⟩
  unfold seqS bndC at run
  unfold RunS at run ⊢
  split at run
  · rename_i st' e
    split at e
    · rename_i f st1 e1
      rw [e1]
      cases f with
      | nx =>
        simp only at e
        show ∀ σ' G' R' H', _ → _ → _ → TUS X.K cl W S2 D σ' H'
        intro σ' G1 R1 H1 g1 r1 rel1
        refine ⟨B, st1, G1, R1, rel1, ?_⟩
        rw [e]
        exact fun σ' G2 R2 H2 g2 r2 rel2 => run σ' G2 R2 H2 (g1.trans g2) (r1.trans r2) rel2
      | _ => simp [pureC] at e
    · simp at e
    · cases e
  · rename_i st' e
    split at e
    · rename_i f st1 e1
      rw [e1]
      cases f with
      | nx =>
        simp only at e
        show ∀ σ' G' R' H', _ → _ → _ → TUS X.K cl W S2 D σ' H'
        intro σ' G1 R1 H1 g1 r1 rel1
        refine ⟨B, st1, G1, R1, rel1, ?_⟩
        rw [e]
        exact fun σ' G2 R2 H2 g2 r2 rel2 => run σ' G2 R2 H2 (g1.trans g2) (r1.trans r2) rel2
      | bk => simp only [pureC, Option.some.injEq, Prod.mk.injEq] at e; obtain ⟨_, rfl⟩ := e; exact run
      | _ => simp [pureC] at e
    · simp at e
    · cases e
  · rename_i st' e
    split at e
    · rename_i f st1 e1
      rw [e1]
      cases f with
      | nx =>
        simp only at e
        show ∀ σ' G' R' H', _ → _ → _ → TUS X.K cl W S2 D σ' H'
        intro σ' G1 R1 H1 g1 r1 rel1
        refine ⟨B, st1, G1, R1, rel1, ?_⟩
        rw [e]
        exact fun σ' G2 R2 H2 g2 r2 rel2 => run σ' G2 R2 H2 (g1.trans g2) (r1.trans r2) rel2
      | ct => simp only [pureC, Option.some.injEq, Prod.mk.injEq] at e; obtain ⟨_, rfl⟩ := e; exact run
      | _ => simp [pureC] at e
    · simp at e
    · cases e
  · rename_i d st' e
    split at e
    · rename_i f st1 e1
      rw [e1]
      cases f with
      | nx =>
        simp only at e
        show ∀ σ' G' R' H', _ → _ → _ → TUS X.K cl W S2 D σ' H'
        intro σ' G1 R1 H1 g1 r1 rel1
        refine ⟨B, st1, G1, R1, rel1, ?_⟩
        rw [e]
        exact fun σ' G2 R2 H2 v g2 r2 rel2 => run σ' G2 R2 H2 v (g1.trans g2) (r1.trans r2) rel2
      | rt d' => simp only [pureC, Option.some.injEq, Prod.mk.injEq, Res.ok.injEq, Fl.rt.injEq] at e; obtain ⟨rfl, rfl⟩ := e; exact run
      | _ => simp [pureC] at e
    · simp at e
    · cases e
  · rename_i x st' e
    split at e
    · rename_i f st1 e1
      rw [e1]
      cases f with
      | nx =>
        simp only at e
        show ∀ σ' G' R' H', _ → _ → _ → TUS X.K cl W S2 D σ' H'
        intro σ' G1 R1 H1 g1 r1 rel1
        refine ⟨B, st1, G1, R1, rel1, ?_⟩
        rw [e]
        obtain ⟨C, hC, run⟩ := run
        exact ⟨C, hC, fun σ' G2 R2 H2 g2 r2 rel2 => run σ' G2 R2 H2 (g1.trans g2) (r1.trans r2) rel2⟩
      | _ => simp [pureC] at e
    · rename_i x' st1 e1
      simp only [Option.some.injEq, Prod.mk.injEq, Res.ex.injEq] at e
      obtain ⟨rfl, rfl⟩ := e
      rw [e1]
      exact run
    · cases e
  · exact run.elim
/-- a slot gets a value, an object just made -/
theorem Rel.setV {K : PySem.W.Frag} {i : Nat} {d : D} {v : V} (r : Rel K cl B st G R σ H) (hv : RepV K G R v d) : Rel K cl B { st with env := st.env.set i (.v d) } G R (σ.set i (some v)) H := by
  refine ⟨r.m, ?_, fun j d' h => ?_, fun j o h => ?_, fun j k o o' a e1 e2 s1 s2 => ?_⟩
  · show (σ.set i (some v)).length = (st.env.set i (.v d)).length
    rw [List.length_set, List.length_set]; exact r.len
  · have h : (st.env.set i (.v d))[j]? = some (.v d') := h
    by_cases hj : j = i
    · subst hj
      have hi : j < st.env.length := by
        have := (List.getElem?_eq_some_iff.mp h).1
        rw [List.length_set] at this; exact this
      rw [List.getElem?_set_self hi] at h; cases h
      exact ⟨v, by rw [List.getElem?_set_self (by rw [r.len]; exact hi)], hv⟩
    · rw [List.getElem?_set_ne (Ne.symm hj)] at h
      rw [List.getElem?_set_ne (Ne.symm hj)]
      exact r.val j d' h
  · have h : (st.env.set i (.v d))[j]? = some (.own o) := h
    have hj : j ≠ i := by
      intro z; subst z
      have hi : j < st.env.length := by
        have := (List.getElem?_eq_some_iff.mp h).1
        rw [List.length_set] at this; exact this
      rw [List.getElem?_set_self hi] at h; cases h
    rw [List.getElem?_set_ne (Ne.symm hj)] at h
    rw [List.getElem?_set_ne (Ne.symm hj)]
    exact r.own j o h
  · have nj : ∀ (j : Nat) (o : MO), (st.env.set i (.v d))[j]? = some (.own o) → j ≠ i := fun j o h z => by
      subst z
      have hi : j < st.env.length := by
        have := (List.getElem?_eq_some_iff.mp h).1
        rw [List.length_set] at this; exact this
      rw [List.getElem?_set_self hi] at h; cases h
    have hj := nj j o e1
    have hk := nj k o' e2
    have e1 : (st.env.set i (.v d))[j]? = some (.own o) := e1
    have e2 : (st.env.set i (.v d))[k]? = some (.own o') := e2
    rw [List.getElem?_set_ne (Ne.symm hj)] at e1 s1
    rw [List.getElem?_set_ne (Ne.symm hk)] at e2 s2
    exact r.dis j k o o' a e1 e2 s1 s2
theorem Rel.setOwn {K : PySem.W.Frag} {i : Nat} {o : MO} {p : Addr} (r : Rel K cl B st G R σ H) (f : Fresh B st G R σ p) (ro : RepO K cl G R H p o) (hi : i < st.env.length) : Rel K cl B { st with env := st.env.set i (.own o) } G R (σ.set i (some (.ref p))) H := by
  have hs : i < σ.length := by rw [r.len]; exact hi
  refine ⟨r.m, ?_, fun j d' h => ?_, fun j o' h => ?_, fun j k o1 o2 a e1 e2 s1 s2 => ?_⟩
  · show (σ.set i (some (.ref p))).length = (st.env.set i (.own o)).length
    rw [List.length_set, List.length_set]; exact r.len
  · have h : (st.env.set i (.own o))[j]? = some (.v d') := h
    have hj : j ≠ i := by
      intro z; subst z
      rw [List.getElem?_set_self hi] at h; cases h
    rw [List.getElem?_set_ne (Ne.symm hj)] at h
    rw [List.getElem?_set_ne (Ne.symm hj)]
    exact r.val j d' h
  · have h : (st.env.set i (.own o))[j]? = some (.own o') := h
    by_cases hj : j = i
    · subst hj
      rw [List.getElem?_set_self hi] at h; cases h
      exact ⟨p, by rw [List.getElem?_set_self hs], f.g, f.r, f.k, ro⟩
    · rw [List.getElem?_set_ne (Ne.symm hj)] at h
      rw [List.getElem?_set_ne (Ne.symm hj)]
      exact r.own j o' h
  · have e1 : (st.env.set i (.own o))[j]? = some (.own o1) := e1
    have e2 : (st.env.set i (.own o))[k]? = some (.own o2) := e2
    by_cases hj : j = i
    · subst hj
      by_cases hk : k = j
      · exact hk.symm
      · rw [List.getElem?_set_self hs] at s1
        cases s1
        rw [List.getElem?_set_ne (Ne.symm hk)] at e2 s2
        exact absurd s2 (f.e k o2 e2)
    · rw [List.getElem?_set_ne (Ne.symm hj)] at e1 s1
      by_cases hk : k = i
      · rw [hk, List.getElem?_set_self hs] at s2
        cases s2
        exact absurd s1 (f.e j o1 e1)
      · rw [List.getElem?_set_ne (Ne.symm hk)] at e2 s2
        exact r.dis j k o1 o2 a e1 e2 s1 s2
theorem putV_run {K : PySem.W.Frag} {i : Nat} {d : D} {v : V} {D : Ends} (h : RunS K cl W B G R (putV i d st) D) (rel : Rel K cl B st G R σ H) (hv : RepV K G R v d) : D.nx (σ.set i (some v)) H := by
  unfold putV at h
  split at h
  · exact h _ G R H (Same.refl _) (Pre.refl _) (rel.setV hv)
  · exact h.elim
theorem asgV_read {i : Nat} {D : Ends} (h : TUS X.K cl W (asgV i E) D σ H) : tAsg (TU X.K cl W E) (gName i) D σ H := by
  obtain ⟨B, st, G, R, rel, run⟩ := h
  exact ⟨B, st, G, R, rel, run.bind.mono fun d st1 G1 R1 H1 _ _ _ _ ⟨rel1, _, _, run1⟩ v rv => putV_run run1 rel1 rv⟩
theorem asgN_read {i : Nat} {D : Ends} (h : TUS X.K cl W (asgN i N) D σ H) : tAsg (TN X.K cl W N) (gName i) D σ H := by
  obtain ⟨B, st, G, R, rel, run⟩ := h
  refine ⟨B, st, G, R, rel, run.bind.mono fun n st1 G1 R1 H1 _ _ _ _ ⟨rel1, _, _, run1⟩ v rv => ?_⟩
  cases n with
  | d d => exact putV_run run1 rel1 rv
  | nw o =>
    obtain ⟨p, rfl, f, ro⟩ := rv
    simp only at run1
    split at run1
    · rename_i hi
      exact run1 _ G1 R1 H1 (Same.refl _) (Pre.refl _) (rel1.setOwn f ro hi)
    · exact run1.elim
theorem ss_set {i : Nat} {x : Str} (hN : X.N.Nodup) (hi : X.N[i]? = some x) (hx : Loc X.env.scope x) (he : PE X e (TU X.K cl W E)) (hs : swapsWith e (some (.Name x p2)) pos.line X.env = pure false := by rfl) (hf : X.fn x = true ∨ X.env.scope.names.lookup x = some .local := by first | exact .inl rfl | exact .inr rfl | assumption) :
    PS X (.Assign [.Name x p2] e pos) (TUS X.K cl W (asgV i E)) := ps_imp (ps_set hN hi hx he hs hf) fun D σ H h => asgV_read h
theorem ss_setN {i : Nat} {x : Str} (hN : X.N.Nodup) (hi : X.N[i]? = some x) (hx : Loc X.env.scope x) (he : PE X e (TN X.K cl W N)) (hs : swapsWith e (some (.Name x p2)) pos.line X.env = pure false := by rfl) (hf : X.fn x = true ∨ X.env.scope.names.lookup x = some .local := by first | exact .inl rfl | exact .inr rfl | assumption) :
    PS X (.Assign [.Name x p2] e pos) (TUS X.K cl W (asgN i N)) := ps_imp (ps_set hN hi hx he hs hf) fun D σ H h => asgN_read h
theorem ss_expr (he : PE X e (TU X.K cl W E)) (hs : swapsWith e none pos.line X.env = pure false := by rfl) : PS X (.Expr e pos) (TUS X.K cl W (exprS E)) := ps_imp (ps_expr he hs) fun D σ H h => by
  obtain ⟨B, st, G, R, rel, run⟩ := h
  exact ⟨B, st, G, R, rel, run.bind.mono fun d st1 G1 R1 H1 _ _ _ _ ⟨rel1, _, _, run1⟩ v rv => run1.nx rel1⟩
theorem ss_ret (he : PE X e (TU X.K cl W E)) : PS X (.Return (some e) pos) (TUS X.K cl W (retS E)) := ps_imp (ps_ret he) fun D σ H h => by
  obtain ⟨B, st, G, R, rel, run⟩ := h
  exact ⟨B, st, G, R, rel, run.bind.mono fun d st1 G1 R1 H1 _ _ _ _ ⟨rel1, _, _, run1⟩ v rv => run1 σ G1 R1 H1 v (Same.refl _) (Pre.refl _) rel1 rv⟩
theorem ss_retN : PS X (.Return none pos) (TUS X.K cl W retN) := ps_imp ps_retN fun D σ H h => by
  obtain ⟨B, st, G, R, rel, run⟩ := h
  exact run σ G R H .non (Same.refl _) (Pre.refl _) rel .non
theorem ss_pass : PS X (.Pass pos) (TUS X.K cl W skipS) := ps_imp ps_pass fun D σ H h => by
  obtain ⟨B, st, G, R, rel, run⟩ := h
  exact run.nx rel
theorem ss_brk : PS X (.Break pos) (TUS X.K cl W brkS) := ps_imp ps_break fun D σ H h => by
  obtain ⟨B, st, G, R, rel, run⟩ := h
  exact run σ G R H (Same.refl _) (Pre.refl _) rel
theorem ss_cnt : PS X (.Continue pos) (TUS X.K cl W cntS) := ps_imp ps_continue fun D σ H h => by
  obtain ⟨B, st, G, R, rel, run⟩ := h
  exact run σ G R H (Same.refl _) (Pre.refl _) rel
theorem ss_never : PS X s1 (TUS X.K cl W neverS) := ps_imp ps_never fun D σ H h => by
  obtain ⟨B, st, G, R, rel, run⟩ := h
  exact run
theorem sss_never : PSs X rest (TUS X.K cl W neverS) := pss_imp pss_never fun D σ H h => by
  obtain ⟨B, st, G, R, rel, run⟩ := h
  exact run
theorem ss_if {as bs : List Stmt} (hc : PT X c (TUT X.K cl W cb)) (ha : PSs X as (TUS X.K cl W S1)) (hb : PSs X bs (TUS X.K cl W S2)) : PS X (.If c as bs pos) (TUS X.K cl W (ifS cb S1 S2)) := ps_imp (ps_if hc ha hb) fun D σ H h => by
  obtain ⟨B, st, G, R, rel, run⟩ := h
  refine ⟨B, st, G, R, rel, run.bind.mono fun k st1 G1 R1 H1 _ _ _ _ ⟨rel1, _, _, run1⟩ => ?_⟩
  cases k with
  | true => exact iteT ⟨B, st1, G1, R1, rel1, run1⟩
  | false => exact iteF ⟨B, st1, G1, R1, rel1, run1⟩
theorem ss_raise {x : List Nat} {C : Addr} (hc : X.calm = true) (tk : Takes X W) (hC : cl x = some C) (he : PMk X e (fun _ H Q => Q (.ref C) none H)) : PS X (.Raise (some e) none pos) (TUS X.K cl W (raiseS x)) :=
  ps_imp (ps_raise hc tk he) fun D σ H h => by
    obtain ⟨B, st, G, R, rel, C', hC', run⟩ := h
    rw [hC] at hC'; cases hC'
    exact run σ G R H (Same.refl _) (Pre.refl _) rel

/-! ### targets -/
inductive Tgt where
  | one (i : Nat) | all (is : List Nat)
def setAll : List Nat → List D → List Cell → List Cell
  | i :: is, d :: ds, env => setAll is ds (env.set i (.v d))
  | _, _, env => env
def setT (t : Tgt) (d : D) (env : List Cell) : Option (List Cell) := match t with
  | .one i => some (env.set i (.v d))
  | .all is => match d with
    | .tup ds => if ds.length = is.length then some (setAll is ds env) else none
    | .lst ds => if ds.length = is.length then some (setAll is ds env) else none
    | _ => none
def gNames : List Nat → TGs
  | [] => gNil
  | i :: is => gCons (gName i) (gNames is)
def gT (K : PySem.W.Frag) : Tgt → TG
  | .one i => gName i
  | .all is => fun v σ H Q => ∃ a xs, v = .ref a ∧ (SqT K H a xs ∨ SqL K H a xs) ∧ xs.length = is.length ∧ gNames is xs σ H Q
theorem sg_one {i : Nat} {x : Str} (hN : X.N.Nodup) (hi : X.N[i]? = some x) (hx : Loc X.env.scope x) (hf : X.fn x = true ∨ X.env.scope.names.lookup x = some .local := by first | exact .inl rfl | exact .inr rfl | assumption) : PG X (.Name x pos) (gT X.K (.one i)) := pg_name hN hi hx hf
theorem sg_nil : PGs X [] (gNames []) := pgs_nil
theorem sg_cons {i : Nat} {is : List Nat} {x : Str} {es : List Expr} (hN : X.N.Nodup) (hi : X.N[i]? = some x) (hx : Loc X.env.scope x) (h2 : PGs X es (gNames is)) (hf : X.fn x = true ∨ X.env.scope.names.lookup x = some .local := by first | exact .inl rfl | exact .inr rfl | assumption)
    (hs : (assignEach (.Name x pos :: es) X.env).map (·.2) = assign (.Name x pos) X.env :: (assignEach es X.env).map (·.2) := by rfl) : PGs X (.Name x pos :: es) (gNames (i :: is)) := pgs_cons (pg_name hN hi hx hf) h2 hs
theorem sg_all {is : List Nat} {es : List Expr} {k : Nat} (hc : X.calm = true) (h : PGs X es (gNames is)) (hn : (assignEach es X.env).length = is.length := by rfl) (hst : (assignEach es X.env).findIdx? (·.1) = none := by rfl) : PG X (.Tuple es k pos) (gT X.K (.all is)) := by
  refine ⟨fun pins s σ H v u Q I r hw => ?_⟩
  obtain ⟨a, xs, e, hq, hl, hw⟩ := hw
  rcases hq with hq | hq
  · exact (pg_tup hc h hn hst).run pins s σ H v u Q I r ⟨a, xs, e, hq, hl, hw⟩
  · exact (pg_lst hc h hn hst).run pins s σ H v u Q I r ⟨a, xs, e, hq, hl, hw⟩
theorem setAll_ok {K : PySem.W.Frag} {Q : L2.St → Hp → Prop} : ∀ {is : List Nat} {ds : List D} {xs : List V} {st : Ms} {σ : L2.St}, Rel K cl B st G R σ H → RepA K G R xs ds → ds.length = is.length →
    (∀ σ', Rel K cl B { st with env := setAll is ds st.env } G R σ' H → Q σ' H) → gNames is xs σ H Q
  | [], [], _, st, σ, rel, .nil, _, q => ⟨rfl, q σ rel⟩
  | i :: is, d :: ds, _, st, σ, rel, .cons (v := v) (vs := vs) h t, hl, q => by
    refine ⟨v, vs, rfl, ?_⟩
    exact setAll_ok (is := is) (ds := ds) (rel.setV (i := i) h) t (by simpa using hl) q
  | [], _ :: _, _, _, _, _, _, hl, _ => by simp at hl
  | _ :: _, [], _, _, _, _, _, hl, _ => by simp at hl
theorem setT_ok {K : PySem.W.Frag} {Q : L2.St → Hp → Prop} {t : Tgt} {d : D} {v : V} {env : List Cell} (rel : Rel K cl B st G R σ H) (hv : RepV K G R v d) (e : setT t d st.env = some env) (q : ∀ σ', Rel K cl B { st with env := env } G R σ' H → Q σ' H) : gT K t v σ H Q := by
  cases t with
  | one i =>
    cases e
    exact q _ (rel.setV hv)
  | all is =>
    cases hv with
    | tup ha hr =>
      simp only [setT] at e
      split at e
      · rename_i hl
        cases e
        exact ⟨_, _, rfl, .inl (SqT.of (rel.m.same _ _ ha)), by rw [hr.length]; exact hl, setAll_ok rel hr hl q⟩
      · cases e
    | lst ha hr =>
      simp only [setT] at e
      split at e
      · rename_i hl
        cases e
        exact ⟨_, _, rfl, .inr (SqL.of (rel.m.same _ _ ha)), by rw [hr.length]; exact hl, setAll_ok rel hr hl q⟩
      · cases e
    | _ => cases e
/-- a, b = e -/
def asgT (t : Tgt) (E : C D) : Stm := bndC E fun d => fun st => match setT t d st.env with
  | some env => some (.ok .nx, { st with env := env })
  | none => none
theorem ss_tup {t : Tgt} {tg : Expr} (he : PE X e (TU X.K cl W E)) (hg : PG X tg (gT X.K t)) (hs : swapsWithSole [tg] e pos.line X.env = pure false := by rfl) (hw : swappedStores [tg] e X.env = pure none := by rfl)
    (h1 : (assignEach [tg] X.env).map (·.2) = [assign tg X.env] := by rfl) : PS X (.Assign [tg] e pos) (TUS X.K cl W (asgT t E)) := ps_imp (ps_asg he hg hs hw h1) fun D σ H h => by
  obtain ⟨B, st, G, R, rel, run⟩ := h
  refine ⟨B, st, G, R, rel, run.bind.mono fun d st1 G1 R1 H1 _ _ _ _ ⟨rel1, _, _, run1⟩ v rv => ?_⟩
  try simp only at run1
  split at run1
  · rename_i env e
    exact setT_ok rel1 rv e fun σ' rel' => run1 σ' G1 R1 H1 (Same.refl _) (Pre.refl _) rel'
  · exact run1.elim

/-! ### what is walked -/
structure ItV where
  n : Nat
  get : Ms → Nat → Option (Option D)
/-- J walks what iv tells -/
def JOk (K : PySem.W.Frag) (cl : CL) (G : Hp) (R : List Addr) (iv : ItV) (J : It) : Prop := ∀ (B : Base) (st : Ms) (G' : Hp) (R' : List Addr) (σ : L2.St) (H : Hp) (i : Nat), Same G G' → Pre R R' → Rel K cl B st G' R' σ H →
  (∀ d, iv.get st i = some (some d) → J.go i H ∧ ∀ v H', J.yld i H v H' → ∃ G2, Same G' G2 ∧ Rel K cl B st G2 R' σ H' ∧ RepV K G2 R' v d) ∧ (iv.get st i = some none → J.stop i H)
def TI' (K : PySem.W.Frag) (cl : CL) (W : WX) (c : C ItV) : TI := fun σ H Rr => ∃ B st G R, Rel K cl B st G R σ H ∧ Run K cl W B σ G R (c st) fun iv st' G' R' H' => ∀ J, JOk K cl G' R' iv J → Rr J H'
def forI (get : Ms → Nat → Option (Option D)) (t : Tgt) (body : Stm) : Nat → Nat → Stm
  | 0, _ => failC
  | m + 1, i => fun st => match get st i with
    | some none => some (.ok .nx, st)
    | some (some d) => match setT t d st.env with
      | some env => match body { st with env := env } with
        | some (.ok .nx, st2) => forI get t body m (i + 1) st2
        | some (.ok .ct, st2) => forI get t body m (i + 1) st2
        | some (.ok .bk, st2) => some (.ok .nx, st2)
        | some (.ok (.rt d), st2) => some (.ok (.rt d), st2)
        | some (.ex x, st2) => some (.ex x, st2)
        | none => none
      | none => none
    | none => none
def forS (c : C ItV) (t : Tgt) (body : Stm) : Stm := bndC c fun iv => forI iv.get t body (iv.n + 1) 0
theorem ss_for {iter tg : Expr} {body : List Stmt} {ci : C ItV} {t : Tgt} (hp : PassesOwn (model X.prog X.w) X.A X.env X.xe) (hc : X.calm = true) (hi : PI X tg iter (TI' X.K cl W ci)) (hg : PG X tg (gT X.K t)) (hb : PSs X body (TUS X.K cl W S1))
    (hs : ∀ x, foldedSetIterable iter X.env x = pure x := by intro _; rfl) : PS X (.For tg iter body [] pos) (TUS X.K cl W (forS ci t S1)) := ps_imp (ps_for hp hc hi hg hb hs) fun D σ H h => by
  obtain ⟨B, st, G, R, rel, run⟩ := h
  refine ⟨B, st, G, R, rel, run.bind.mono fun iv st1 G1 R1 H1 _ _ _ _ ⟨rel1, _, _, run1⟩ J hJ => ?_⟩
  refine ⟨fun i m σ H => ∃ st G R, Same G1 G ∧ Pre R1 R ∧ Rel X.K cl B st G R σ H ∧ RunS X.K cl W B G R (forI iv.get t S1 m i st) D, ⟨iv.n + 1, st1, G1, R1, Same.refl _, Pre.refl _, rel1, run1⟩, ?_⟩
  rintro i m σ2 H2 ⟨st2, G2, R2, g2, r2, rel2, run2⟩
  cases m with
  | zero => exact run2.elim
  | succ m =>
    unfold forI at run2
    obtain ⟨j1, j2⟩ := hJ B st2 G2 R2 σ2 H2 i g2 r2 rel2
    split at run2
    · rename_i e
      exact .inl ⟨j2 e, run2.nx rel2⟩
    · rename_i d e
      obtain ⟨go, yl⟩ := j1 d e
      refine .inr ⟨go, fun σ' H' => ∃ st G R, Same G1 G ∧ Pre R1 R ∧ Rel X.K cl B st G R σ' H' ∧ RunS X.K cl W B G R (forI iv.get t S1 m (i + 1) st) D, fun σ' H' ⟨st', G', R', q⟩ => ⟨m, Nat.lt_succ_self _, st', G', R', q⟩, fun v H' hy => ?_⟩
      obtain ⟨G3, g3, rel3, rv⟩ := yl v H' hy
      split at run2
      · rename_i env ee
        refine setT_ok rel3 rv ee fun σ4 rel4 => ⟨B, { st2 with env := env }, G3, R2, rel4, ?_⟩
        have run2 := RunS.weak g3 (Pre.refl R2) run2
        split at run2
        · rename_i st5 e5
          rw [e5]
          exact fun σ6 G6 R6 H6 g6 r6 rel6 => ⟨st5, G6, R6, (g2.trans g3).trans g6, r2.trans r6, rel6, run2.weak g6 r6⟩
        · rename_i st5 e5
          rw [e5]
          exact fun σ6 G6 R6 H6 g6 r6 rel6 => ⟨st5, G6, R6, (g2.trans g3).trans g6, r2.trans r6, rel6, run2.weak g6 r6⟩
        · rename_i st5 e5
          rw [e5]
          exact run2
        · rename_i d st5 e5
          rw [e5]
          exact run2
        · rename_i x st5 e5
          rw [e5]
          exact run2
        · exact run2.elim
      · exact run2.elim
    · exact run2.elim
theorem pi_imp {tg iter : Expr} {t t' : TI} (h : PI X tg iter t) (f : ∀ σ H Q, t' σ H Q → t σ H Q) : PI X tg iter t' := ⟨fun pins s σ H Q I q => h.run pins s σ H Q I (f σ H Q q)⟩
/-- a value walked -/
def getD' (d : D) (st : Ms) (i : Nat) : Option (Option D) := match seqD st d with
  | some ds => some ds[i]?
  | none => match d with
    | .tup ds => some ds[i]?
    | .str t => some (t[i]?.map fun c => .str [c])
    | .scr ns => some (ns[i]?.map .int)
    | _ => none
def itD (E : C D) : C ItV := bndC E fun d => fun st => match seqD st d with
  | some ds => some (.ok ⟨ds.length, getD' d⟩, st)
  | none => match d with
    | .tup ds => some (.ok ⟨ds.length, getD' d⟩, st)
    | .str t => some (.ok ⟨t.length, getD' d⟩, st)
    | .scr ns => some (.ok ⟨ns.length, getD' d⟩, st)
    | _ => none
theorem jok_list {K : PySem.W.Frag} {d : D} {a : Addr} {n : Nat} (hv : RepV K G R (.ref a) d) (hk : ∀ st, (∃ ds, seqD st d = some ds) ∨ (∃ ns, d = .scr ns) ∨ getD' d st = fun _ => none) : JOk K cl G R ⟨n, getD' d⟩ (Itl K a) := by
  intro B st G' R' σ H i g r rel
  have hv := hv.mono g r
  rcases hk st with ⟨ds, e⟩ | ⟨ns, rfl⟩ | e
  · obtain ⟨p, xs, ep, h1, h2⟩ := seqD_ok rel hv e
    cases ep
    unfold getD'
    simp only [e]
    refine ⟨fun d' h => ?_, fun h => ?_⟩
    · have h := Option.some.inj h
      obtain ⟨v, h3, h4⟩ := h2.get h
      refine ⟨⟨xs, v, SqL.of h1, h3⟩, fun w H' hy => ?_⟩
      obtain ⟨rfl, hy⟩ := hy
      have h5 := hy xs (SqL.of h1)
      rw [h3] at h5; cases h5
      exact ⟨G', Same.refl _, rel, h4⟩
    · have h := List.getElem?_eq_none_iff.mp (Option.some.inj h)
      exact ⟨xs, SqL.of h1, by rw [h2.length]; exact h⟩
  · cases hv with
    | scr ha =>
      have ha := rel.m.same.seq ha
      show (∀ d', (some (ns[i]?.map D.int)) = some (some d') → _) ∧ ((some (ns[i]?.map D.int)) = some none → _)
      refine ⟨fun d' h => ?_, fun h => ?_⟩
      · obtain ⟨k, h1, rfl⟩ := Option.map_eq_some_iff.mp (Option.some.inj h)
        have h3 : (ns.map V.int)[i]? = some (.int k) := by rw [List.getElem?_map, h1]; rfl
        refine ⟨⟨_, _, ha, h3⟩, fun w H' hy => ?_⟩
        obtain ⟨rfl, hy⟩ := hy
        have h5 := hy _ ha
        rw [h3] at h5; cases h5
        exact ⟨G', Same.refl _, rel, .int k⟩
      · have h := List.getElem?_eq_none_iff.mp (Option.map_eq_none_iff.mp (Option.some.inj h))
        exact ⟨_, ha, by rw [List.length_map]; exact h⟩
  · show (∀ d', getD' d st i = some (some d') → _) ∧ (getD' d st i = some none → _)
    rw [e]
    exact ⟨(fun _ h => by cases h), (fun h => by cases h)⟩
theorem si_d {tg : Expr} (he : PE X e (TU X.K cl W E)) : PI X tg e (TI' X.K cl W (itD E)) := by
  refine ⟨fun pins s σ H Rr I h => ?_⟩
  obtain ⟨B, st, G, R, rel, run⟩ := h
  have fall : ∀ {wi : TI}, PI X tg e wi → (wi σ H Rr) → wpAny (model X.prog X.w) X.A (eval e X.env) (fun v s1 => wpAny (model X.prog X.w) X.A (pyIter v) (PIE X pins σ tg Rr) X.xe s1) X.xe s := fun hp hq => hp.run pins s σ H Rr I hq
  -- the outcome of the expression
  have run0 := run
  unfold itD bndC at run0
  cases ee : E st with
  | none => rw [ee] at run0; exact run0.elim
  | some pr =>
    obtain ⟨rr, st1⟩ := pr
    cases rr with
    | ex x =>
      rw [ee] at run0
      exact fall (pi_list he) ⟨B, st, G, R, rel, by rw [ee]; exact run0⟩
    | ok d =>
      rw [ee] at run0
      simp only at run0
      cases e1 : seqD st1 d with
      | some ds =>
        rw [e1] at run0
        refine fall (pi_list he) ⟨B, st, G, R, rel, ?_⟩
        rw [ee]
        intro G1 R1 H1 g1 r1 rel1 v rv
        obtain ⟨p, xs, rfl, h1, h2⟩ := seqD_ok rel1 rv e1
        refine ⟨p, rfl, ⟨xs, SqL.of h1⟩, run0 G1 R1 H1 g1 r1 rel1 _ (jok_list rv fun st' => ?_)⟩
        cases d with
        | lst _ => exact .inl ⟨_, rfl⟩
        | ob n =>
          cases h : seqD st' (.ob n) with
          | some ds' => exact .inl ⟨ds', rfl⟩
          | none => refine .inr (.inr ?_); funext i; unfold getD'; rw [h]
        | _ => cases e1
      | none =>
        rw [e1] at run0
        simp only at run0
        cases d with
        | tup ds =>
          refine fall (pi_tup he) ⟨B, st, G, R, rel, ?_⟩
          rw [ee]
          intro G1 R1 H1 g1 r1 rel1 v rv
          cases rv with
          | tup ha hr =>
            rename_i p xs
            refine ⟨p, rfl, ⟨xs, SqT.of (rel1.m.same _ _ ha)⟩, run0 G1 R1 H1 g1 r1 rel1 _ ?_⟩
            intro B' st' G' R' σ' H' i g r rel'
            have ha' := rel'.m.same _ _ (g _ _ ha)
            have hr' := hr.mono g r
            refine ⟨fun d' h => ?_, fun h => ?_⟩
            · have h : ds[i]? = some d' := Option.some.inj h
              obtain ⟨w, h3, h4⟩ := hr'.get h
              refine ⟨⟨xs, w, SqT.of ha', h3⟩, fun u H2 hy => ?_⟩
              obtain ⟨rfl, hy⟩ := hy
              have h5 := hy xs (SqT.of ha')
              rw [h3] at h5; cases h5
              exact ⟨G', Same.refl _, rel', h4⟩
            · have h := List.getElem?_eq_none_iff.mp (Option.some.inj h)
              exact ⟨xs, SqT.of ha', by rw [hr.length]; exact h⟩
        | str t =>
          refine fall (pi_str he) ⟨B, st, G, R, rel, ?_⟩
          rw [ee]
          intro G1 R1 H1 g1 r1 rel1 v rv
          cases rv with
          | str =>
            refine ⟨toS t, rfl, run0 G1 R1 H1 g1 r1 rel1 _ ?_⟩
            intro B' st' G' R' σ' H' i g r rel'
            refine ⟨fun d' h => ?_, fun h => ?_⟩
            · obtain ⟨k, h1, rfl⟩ := Option.map_eq_some_iff.mp (Option.some.inj h)
              have hi := (List.getElem?_eq_some_iff.mp h1).1
              refine ⟨by show i < (toS t).cps.size; simpa [toS] using hi, fun w H2 hy => ?_⟩
              obtain ⟨rfl, c, hc, rfl⟩ := hy
              have : c = k := by
                have h2 : (toS t).cps[i]? = t[i]? := by simp [toS]
                rw [h2, h1] at hc; exact (Option.some.inj hc).symm
              subst this
              exact ⟨G', Same.refl _, rel', .str [c]⟩
            · have h := List.getElem?_eq_none_iff.mp (Option.map_eq_none_iff.mp (Option.some.inj h))
              show (toS t).cps.size ≤ i
              simpa [toS] using h
        | scr ns =>
          refine fall (pi_list he) ⟨B, st, G, R, rel, ?_⟩
          rw [ee]
          intro G1 R1 H1 g1 r1 rel1 v rv
          cases rv with
          | scr ha =>
            rename_i p
            exact ⟨p, rfl, ⟨_, rel1.m.same.seq ha⟩, run0 G1 R1 H1 g1 r1 rel1 _ (jok_list (.scr ha) fun st' => .inr (.inl ⟨ns, rfl⟩))⟩
        | _ => exact run0.elim
/-- range(n), range(a, b) -/
def getR (lo : Int) (n : Nat) (_ : Ms) (i : Nat) : Option (Option D) := some (if i < n then some (.int (lo + i)) else none)
def rngOk (lo hi : Int) : Bool := leN (-lo) 4611686018427387904 && leN lo 4611686018427387903 && leN (-hi) 4611686018427387904 && leN hi 4611686018427387903
def itR1 (E : C D) : C ItV := bndC E fun d => match d with
  | .int n => if rngOk 0 n then pureC ⟨n.toNat, getR 0 n.toNat⟩ else failC
  | _ => failC
def itR2 (E E' : C D) : C ItV := bndC E fun d => bndC E' fun d' => match d, d' with
  | .int lo, .int hi => if rngOk lo hi then pureC ⟨(hi - lo).toNat, getR lo (hi - lo).toNat⟩ else failC
  | _, _ => failC
theorem jok_rng {K : PySem.W.Frag} {lo : Int} {n m : Nat} : JOk K cl G R ⟨m, getR lo n⟩ (Itr lo n) := by
  intro B st G' R' σ H i g r rel
  show (∀ d, some (if i < n then some (D.int (lo + i)) else none) = some (some d) → _) ∧ (some (if i < n then some (D.int (lo + i)) else none) = some none → _)
  by_cases hi : i < n
  · rw [if_pos hi]
    refine ⟨(fun d h => ⟨hi, fun v H' hy => ?_⟩), (fun h => by cases h)⟩
    cases h
    obtain ⟨rfl, rfl⟩ := hy
    exact ⟨G', Same.refl _, rel, .int _⟩
  · rw [if_neg hi]
    exact ⟨(fun d h => by cases h), (fun _ => Nat.le_of_not_lt hi)⟩
theorem rngOk_of {lo hi : Int} (h : rngOk lo hi = true) : -(2 ^ 62) ≤ lo ∧ lo < 2 ^ 62 ∧ -(2 ^ 62) ≤ hi ∧ hi < 2 ^ 62 := by
  unfold rngOk at h
  simp only [Bool.and_eq_true, leN_iff] at h
  obtain ⟨⟨⟨h1, h2⟩, h3⟩, h4⟩ := h
  refine ⟨?_, ?_, ?_, ?_⟩ <;> omega
theorem rngOk_iff {lo hi : Int} : rngOk lo hi = true ↔ -(2 ^ 62) ≤ lo ∧ lo < 2 ^ 62 ∧ -(2 ^ 62) ≤ hi ∧ hi < 2 ^ 62 := by
  refine ⟨rngOk_of, fun h => ?_⟩
  unfold rngOk
  simp only [Bool.and_eq_true, leN_iff]
  refine ⟨⟨⟨?_, ?_⟩, ?_⟩, ?_⟩ <;> omega
theorem si_r1 {tg : Expr} {p : Pos} (hg : Gl X "range") (hm : X.mg "range" = none) (he : PE X e (TU X.K cl W E)) (hs : starEach [e] X.env = [(false, eval e X.env)] := by rfl) (hs' : starEach [e] X.env = (false, eval e X.env) :: starEach [] X.env := by rfl) : PI X tg (.Call (.Name "range" p) [e] [] pos) (TI' X.K cl W (itR1 E)) := by
  refine pi_imp (pi_range1 hg hm (pa_cons he pa_nil hs') hs) fun σ H Rr h => ?_
  obtain ⟨B, st, G, R, rel, run⟩ := h
  refine ⟨B, st, G, R, rel, run.bind.mono fun d st1 G1 R1 H1 _ _ _ _ ⟨rel1, _, _, run1⟩ v rv => ?_⟩
  cases rv with
  | int n =>
    simp only at run1
    split at run1
    · rename_i hz
      obtain ⟨_, _, z1, z2⟩ := rngOk_of hz
      refine ⟨n, rfl, z1, z2, run1.done rel1 _ ?_⟩
      simpa using jok_rng
    · exact run1.elim
  | _ => exact run1.elim
theorem si_r2 {tg : Expr} {p : Pos} (hg : Gl X "range") (hm : X.mg "range" = none) (ha : PE X a (TU X.K cl W E)) (hb : PE X b (TU X.K cl W E')) (hs : starEach [a, b] X.env = [(false, eval a X.env), (false, eval b X.env)] := by rfl) (hs2 : starEach [b] X.env = [(false, eval b X.env)] := by rfl)
    (hs' : starEach [a, b] X.env = (false, eval a X.env) :: starEach [b] X.env := by rfl) (hs3 : starEach [b] X.env = (false, eval b X.env) :: starEach [] X.env := by rfl) : PI X tg (.Call (.Name "range" p) [a, b] [] pos) (TI' X.K cl W (itR2 E E')) := by
  refine pi_imp (pi_range2 hg hm (pa_cons ha (pa_cons hb pa_nil hs3) hs') hs hs2) fun σ H Rr h => ?_
  obtain ⟨B, st, G, R, rel, run⟩ := h
  refine ⟨B, st, G, R, rel, run.bind.mono fun d st1 G1 R1 H1 _ _ _ _ ⟨rel1, _, _, run1⟩ v rv => ?_⟩
  refine ⟨B, st1, G1, R1, rel1, run1.bind.mono fun d' st2 G2 R2 H2 _ _ _ _ ⟨rel2, _, _, run2⟩ w rw => ?_⟩
  cases rv with
  | int lo =>
    cases rw with
    | int hi =>
      simp only at run2
      split at run2
      · rename_i hz
        obtain ⟨z0, z1, z2, z3⟩ := rngOk_of hz
        exact ⟨lo, hi, rfl, ⟨z0, z1, z2, z3⟩, run2.done rel2 _ jok_rng⟩
      · exact run2.elim
    | _ => exact run2.elim
  | _ => cases rw <;> exact run2.elim

/-! ### while -/
def whileI (c : C Bool) (body : Stm) : Nat → Stm
  | 0 => failC
  | m + 1 => bndC c fun k => match k with
    | false => pureC .nx
    | true => fun st => match body st with
      | some (.ok .nx, st2) => whileI c body m st2
      | some (.ok .ct, st2) => whileI c body m st2
      | some (.ok .bk, st2) => some (.ok .nx, st2)
      | some (.ok (.rt d), st2) => some (.ok (.rt d), st2)
      | some (.ex x, st2) => some (.ex x, st2)
      | none => none
def whileS (c : C Bool) (body : Stm) : Stm := whileI c body 1000000
theorem ss_while {body : List Stmt} (hp : PassesOwn (model X.prog X.w) X.A X.env X.xe) (hc : PT X c (TUT X.K cl W cb)) (hb : PSs X body (TUS X.K cl W S1)) : PS X (.While c body [] pos) (TUS X.K cl W (whileS cb S1)) := ps_imp (ps_while hp hc hb) fun D σ H h => by
  obtain ⟨B, st, G, R, rel, run⟩ := h
  refine ⟨fun m σ H => ∃ st G R, Rel X.K cl B st G R σ H ∧ RunS X.K cl W B G R (whileI cb S1 m st) D, ⟨1000000, st, G, R, rel, run⟩, ?_⟩
  rintro m σ2 H2 ⟨st2, G2, R2, rel2, run2⟩
  cases m with
  | zero => exact run2.elim
  | succ m =>
    unfold whileI at run2
    refine ⟨B, st2, G2, R2, rel2, run2.bind.mono fun k st3 G3 R3 H3 _ _ _ _ ⟨rel3, _, _, run3⟩ => ?_⟩
    cases k with
    | false => exact iteF (run3.nx rel3)
    | true =>
      refine iteT ⟨fun σ' H' => ∃ st G R, Rel X.K cl B st G R σ' H' ∧ RunS X.K cl W B G R (whileI cb S1 m st) D, fun σ' H' q => ⟨m, Nat.lt_succ_self _, q⟩, B, st3, G3, R3, rel3, ?_⟩
      simp only at run3
      split at run3
      · rename_i st5 e5
        rw [e5]
        exact fun σ6 G6 R6 H6 g6 r6 rel6 => ⟨st5, G6, R6, rel6, run3.weak g6 r6⟩
      · rename_i st5 e5
        rw [e5]
        exact fun σ6 G6 R6 H6 g6 r6 rel6 => ⟨st5, G6, R6, rel6, run3.weak g6 r6⟩
      · rename_i st5 e5
        rw [e5]
        exact run3
      · rename_i d st5 e5
        rw [e5]
        exact run3
      · rename_i x st5 e5
        rw [e5]
        exact run3
      · exact run3.elim
end
end VL

namespace VL
open PySem PySem.Spec PyProof.Rows L2

section
variable {X : Cx} {cl : CL} {W : WX} {B : Base} {st : Ms} {G G' H : Hp} {R R' : List Addr} {σ : L2.St}
variable {a b c e : Expr} {A A' : C Opd} {N : C Nv} {E E' E'' : C D} {pos p2 : Pos} {s1 s2 : Stmt} {rest : List Stmt} {S1 S2 : Stm} {cb : C Bool}

/-! ### comprehensions -/
/-- an object that must stay as it is -/
def Base.with (B : Base) (p : Addr) (o : HO) : Base := { B with keep := upd B.keep p o }
theorem Rel.prot {K : PySem.W.Frag} {p : Addr} {o : HO} (r : Rel K cl B st G R σ H) (f : Fresh B st G R σ p) (h : H p = some o) : Rel K cl (B.with p o) st G R σ H := by
  have ne : ∀ b : Addr, B.keep b = none → b ≠ p → (B.with p o).keep b = none := fun b h z => by show upd B.keep p o b = none; rw [upd_ne z]; exact h
  refine ⟨⟨r.m.same, r.m.g0, fun b u e => ?_, r.m.r0, fun b hb => ne b (r.m.rk b hb) (fun z => f.r (z ▸ hb)), fun b u e => ?_, r.m.len, r.m.nd, r.m.sh⟩, r.len, r.val, fun i u e => ?_, r.dis⟩
  · rcases r.m.gn b u e with q | q
    · exact .inl q
    · exact .inr (ne b q (fun z => by rw [z, f.g] at e; cases e))
  · have e : upd B.keep p o b = some u := e
    by_cases hb : b = p
    · subst hb; rw [upd_same] at e; cases e; exact h
    · rw [upd_ne hb] at e; exact r.m.kp b u e
  · obtain ⟨a, q1, q2, q3, q4, q5⟩ := r.own i u e
    exact ⟨a, q1, q2, q3, ne a q4 (fun z => f.e i u e (z ▸ q1)), q5⟩
theorem Rel.unprot {K : PySem.W.Frag} {p : Addr} {o : HO} (r : Rel K cl (B.with p o) st G R σ H) (hk : B.keep p = none) (hg : B.G p = none) : Rel K cl B st G R σ H ∧ Fresh B st G R σ p ∧ H p = some o := by
  have kp : (B.with p o).keep p = some o := upd_same
  have back : ∀ b : Addr, (B.with p o).keep b = none → B.keep b = none ∧ b ≠ p := fun b h => by
    have ne : b ≠ p := fun z => by rw [z, kp] at h; cases h
    have h : upd B.keep p o b = none := h
    rw [upd_ne ne] at h
    exact ⟨h, ne⟩
  refine ⟨⟨⟨r.m.same, r.m.g0, fun b u e => ?_, r.m.r0, fun b hb => (back b (r.m.rk b hb)).1, fun b u e => ?_, r.m.len, r.m.nd, r.m.sh⟩, r.len, r.val, fun i u e => ?_, r.dis⟩, ⟨?_, fun hb => (back p (r.m.rk p hb)).2 rfl, hk, fun i u e z => ?_⟩, r.m.kp p o kp⟩
  · rcases r.m.gn b u e with q | q
    · exact .inl q
    · exact .inr (back b q).1
  · have ne : b ≠ p := fun z => by rw [z, hk] at e; cases e
    exact r.m.kp b u (by show upd B.keep p o b = _; rw [upd_ne ne]; exact e)
  · obtain ⟨a, q1, q2, q3, q4, q5⟩ := r.own i u e
    exact ⟨a, q1, q2, q3, (back a q4).1, q5⟩
  · cases e : G p with
    | none => rfl
    | some u =>
      rcases r.m.gn p u e with q | q
      · have q : B.G p = some u := q
        rw [hg] at q; cases q
      · rw [kp] at q; cases q
  · obtain ⟨a, q1, q2, q3, q4, q5⟩ := r.own i u e
    rw [z] at q1; cases q1
    rw [kp] at q4; cases q4
theorem Rel.setProt {K : PySem.W.Frag} {p : Addr} {o o' : HO} (r : Rel K cl (B.with p o) st G R σ H) (hk : B.keep p = none) (hg : B.G p = none) : Rel K cl (B.with p o') st G R σ (upd H p o') := by
  obtain ⟨r1, f, _⟩ := r.unprot hk hg
  exact (r1.put f).prot f upd_same
/-- the slots of a block's own names forgotten -/
def wipeE (env : List Cell) : List Nat → List Cell
  | [] => env
  | v :: vs => (wipeE env vs).set v .un
def okV (env : List Cell) (i : Nat) : Bool := match env[i]? with
  | some (.own _) => false
  | _ => true
theorem wipe_len (env : List Cell) : ∀ vs : List Nat, (wipeE env vs).length = env.length
  | [] => rfl
  | v :: vs => by rw [wipeE, List.length_set, wipe_len env vs]
theorem wipe_get {env : List Cell} {i : Nat} : ∀ {vs : List Nat}, i ∉ vs → (wipeE env vs)[i]? = env[i]?
  | [], _ => rfl
  | v :: vs, h => by
    rw [wipeE, List.getElem?_set_ne (fun z => h (by simp [z]))]
    exact wipe_get (fun z => h (by simp [z]))
theorem wipe_hit {env : List Cell} {i : Nat} : ∀ {vs : List Nat}, i ∈ vs → i < env.length → (wipeE env vs)[i]? = some .un
  | v :: vs, h, hi => by
    rw [wipeE]
    by_cases e : v = i
    · subst e; rw [List.getElem?_set_self (by rw [wipe_len]; exact hi)]
    · rw [List.getElem?_set_ne e]
      exact wipe_hit (by simpa [Ne.symm e] using h) hi
theorem wipeS_get {σ : L2.St} {i : Nat} : ∀ {vs : List Nat}, i ∉ vs → (wipe σ vs)[i]? = σ[i]?
  | [], _ => rfl
  | v :: vs, h => by
    rw [wipe, List.getElem?_set_ne (fun z => h (by simp [z]))]
    exact wipeS_get (fun z => h (by simp [z]))
theorem Rel.wipe {K : PySem.W.Frag} {vs : List Nat} (r : Rel K cl B st G R σ H) : Rel K cl B { st with env := wipeE st.env vs } G R (L2.wipe σ vs) H := by
  have cases_ : ∀ (i : Nat) (c : Cell), (wipeE st.env vs)[i]? = some c → c = .un ∨ (i ∉ vs ∧ st.env[i]? = some c) := fun i c h => by
    by_cases hi : i ∈ vs
    · have hl : i < st.env.length := by have := (List.getElem?_eq_some_iff.mp h).1; rw [wipe_len] at this; exact this
      rw [wipe_hit hi hl] at h; cases h; exact .inl rfl
    · rw [wipe_get hi] at h; exact .inr ⟨hi, h⟩
  refine ⟨r.m, by show (L2.wipe σ vs).length = _; rw [wipe_length]; show σ.length = (wipeE st.env vs).length; rw [wipe_len]; exact r.len, fun i d h => ?_, fun i o h => ?_, fun i j o o' a h1 h2 h3 h4 => ?_⟩
  · rcases cases_ i _ h with q | ⟨q1, q2⟩
    · cases q
    · rw [wipeS_get q1]; exact r.val i d q2
  · rcases cases_ i _ h with q | ⟨q1, q2⟩
    · cases q
    · rw [wipeS_get q1]; exact r.own i o q2
  · rcases cases_ i _ h1 with q | ⟨q1, q2⟩
    · cases q
    · rcases cases_ j _ h2 with q | ⟨q3, q4⟩
      · cases q
      · rw [wipeS_get q1] at h3
        rw [wipeS_get q3] at h4
        exact r.dis i j o o' a q2 q4 h3 h4
/-- the slots vs as they stood in old -/
def unwipe (env old : List Cell) : List Nat → List Cell
  | [] => env
  | v :: vs => (unwipe env old vs).set v (old.getD v .un)
theorem unwipe_len (env old : List Cell) : ∀ vs : List Nat, (unwipe env old vs).length = env.length
  | [] => rfl
  | v :: vs => by rw [unwipe, List.length_set, unwipe_len env old vs]
theorem unwipe_get {env old : List Cell} {i : Nat} : ∀ {vs : List Nat}, i ∉ vs → (unwipe env old vs)[i]? = env[i]?
  | [], _ => rfl
  | v :: vs, h => by
    rw [unwipe, List.getElem?_set_ne (fun z => h (by simp [z]))]
    exact unwipe_get (fun z => h (by simp [z]))
theorem unwipe_hit {env old : List Cell} {i : Nat} : ∀ {vs : List Nat}, i ∈ vs → i < env.length → (unwipe env old vs)[i]? = some (old.getD i .un)
  | v :: vs, h, hi => by
    rw [unwipe]
    by_cases e : v = i
    · subst e; rw [List.getElem?_set_self (by rw [unwipe_len]; exact hi)]
    · rw [List.getElem?_set_ne e]
      exact unwipe_hit (by simpa [Ne.symm e] using h) hi
/-- what a block leaves: the other slots as in the block's end, its own as at its start -/
theorem Rel.unwipe {K : PySem.W.Frag} {vs : List Nat} {st0 : Ms} {σ0 σ' : L2.St} {G0 : Hp} {R0 : List Addr} {H0 : Hp} (r0 : Rel K cl B st0 G0 R0 σ0 H0) (g : Same G0 G) (p : Pre R0 R) (hv : ∀ i ∈ vs, okV st0.env i = true)
    (r : Rel K cl B st G R σ' H) (hσ : L2.wipe σ' vs = L2.wipe σ0 vs) (hl : st.env.length = st0.env.length) : Rel K cl B { st with env := VL.unwipe st.env st0.env vs } G R σ0 H := by
  have same : ∀ i, i ∉ vs → σ'[i]? = σ0[i]? := fun i hi => by rw [← wipeS_get hi, hσ, wipeS_get hi]
  have cases_ : ∀ (i : Nat) (c : Cell), (VL.unwipe st.env st0.env vs)[i]? = some c → (i ∈ vs ∧ i < st.env.length ∧ c = st0.env.getD i .un) ∨ (i ∉ vs ∧ st.env[i]? = some c) := fun i c h => by
    have hl' : i < st.env.length := by have := (List.getElem?_eq_some_iff.mp h).1; rw [unwipe_len] at this; exact this
    by_cases hi : i ∈ vs
    · rw [unwipe_hit hi hl'] at h; cases h; exact .inl ⟨hi, hl', rfl⟩
    · rw [unwipe_get hi] at h; exact .inr ⟨hi, h⟩
  have noown : ∀ (i : Nat) (o : MO), i ∈ vs → i < st.env.length → Cell.own o ≠ st0.env.getD i .un := fun i o hi hl' z => by
    have q := hv i hi
    unfold okV at q
    rw [List.getD_eq_getElem?_getD, List.getElem?_eq_getElem (by rw [← hl]; exact hl')] at z
    rw [List.getElem?_eq_getElem (by rw [← hl]; exact hl')] at q
    simp only [Option.getD_some] at z
    rw [← z] at q
    cases q
  have len0 : σ0.length = st0.env.length := r0.len
  refine ⟨r.m, by show σ0.length = (VL.unwipe st.env st0.env vs).length; rw [unwipe_len, hl]; exact len0, fun i d h => ?_, fun i o h => ?_, fun i j o o' a h1 h2 h3 h4 => ?_⟩
  · rcases cases_ i _ h with ⟨q1, q2, q3⟩ | ⟨q1, q2⟩
    · rw [List.getD_eq_getElem?_getD, List.getElem?_eq_getElem (by rw [← hl]; exact q2), Option.getD_some] at q3
      obtain ⟨v, e1, e2⟩ := r0.val i d (by rw [List.getElem?_eq_getElem (by rw [← hl]; exact q2), q3])
      exact ⟨v, e1, e2.mono g p⟩
    · rw [← same i q1]; exact r.val i d q2
  · rcases cases_ i _ h with ⟨q1, q2, q3⟩ | ⟨q1, q2⟩
    · exact absurd q3 (noown i o q1 q2)
    · rw [← same i q1]; exact r.own i o q2
  · rcases cases_ i _ h1 with ⟨q1, q2, q3⟩ | ⟨q1, q2⟩
    · exact absurd q3 (noown i o q1 q2)
    · rcases cases_ j _ h2 with ⟨q3, q4, q5⟩ | ⟨q3, q4⟩
      · exact absurd q5 (noown j o' q3 q4)
      · rw [← same i q1] at h3
        rw [← same j q3] at h4
        exact r.dis i j o o' a q2 q4 h3 h4
def tgtIn (vs : List Nat) : Tgt → Bool
  | .one i => vs.contains i
  | .all is => is.all fun i => vs.contains i
def lcI (get : Ms → Nat → Option (Option D)) (t : Tgt) (vs : List Nat) (cond : C Bool) (elt : C D) : Nat → Nat → List D → C (List D)
  | 0, _, _ => failC
  | m + 1, i, acc => fun st => match get st i with
    | some none => some (.ok acc, st)
    | some (some d) => match setT t d (wipeE st.env vs) with
      | some env => match cond { st with env := env } with
        | some (.ok true, st2) => match elt st2 with
          | some (.ok y, st3) => if acc.length < LIM then lcI get t vs cond elt m (i + 1) (acc ++ [y]) st3 else none
          | _ => none
        | some (.ok false, st2) => lcI get t vs cond elt m (i + 1) acc st2
        | _ => none
      | none => none
    | none => none
def lcE (c : C ItV) (t : Tgt) (vs : List Nat) (cond : C Bool) (elt : C D) : C Nv := bndC c fun iv => fun st =>
  if vs.all (okV st.env) && tgtIn vs t then
    match lcI iv.get t vs cond elt (iv.n + 1) 0 [] { st with env := wipeE st.env vs } with
    | some (.ok ds, st') => if st'.env.length = st.env.length then some (.ok (.nw (.lst ds)), { st' with env := unwipe st'.env st.env vs }) else none
    | _ => none
  else none
def yesC : C Bool := pureC true
abbrev W0 : WX := fun _ _ _ _ => False
theorem set_wipe : ∀ {vs : List Nat} {σ : L2.St} {i : Nat} {x : Option V}, i ∈ vs → L2.wipe (σ.set i x) vs = L2.wipe σ vs
  | v :: vs, σ, i, x, h => by
    by_cases hi : i ∈ vs
    · rw [L2.wipe, L2.wipe, set_wipe hi]
    · have e : v = i := by
        rcases List.mem_cons.mp h with e | e
        · exact e.symm
        · exact absurd e hi
      subst e
      have comm : ∀ (us : List Nat), v ∉ us → L2.wipe (σ.set v x) us = (L2.wipe σ us).set v x := by
        intro us
        induction us with
        | nil => intro _; rfl
        | cons u us ih =>
          intro hu
          rw [L2.wipe, L2.wipe, ih (fun z => hu (by simp [z])), List.set_comm _ _ (fun z => hu (by simp [z]))]
      rw [L2.wipe, L2.wipe, comm vs hi, List.set_set]
theorem wipe_wipe : ∀ {vs us : List Nat} {σ : L2.St}, (∀ i ∈ vs, i ∈ us) → L2.wipe (L2.wipe σ vs) us = L2.wipe σ us
  | [], _, _, _ => rfl
  | v :: vs, us, σ, h => by
    rw [L2.wipe, set_wipe (h v (by simp)), wipe_wipe (fun i hi => h i (by simp [hi]))]
theorem setAllS_ok {Q : L2.St → Hp → Prop} {vs : List Nat} : ∀ {is : List Nat} {xs : List V} {σ : L2.St}, is.all (fun i => vs.contains i) = true → gNames is xs σ H (fun σ' H' => L2.wipe σ' vs = L2.wipe σ vs → Q σ' H') → gNames is xs σ H Q
  | [], _, σ, _, h => ⟨h.1, h.2 rfl⟩
  | i :: is, _, σ, hv, h => by
    obtain ⟨v, r, e, h⟩ := h
    rw [List.all_cons, Bool.and_eq_true] at hv
    have hi : i ∈ vs := by simpa using hv.1
    refine ⟨v, r, e, ?_⟩
    have h : gNames is r (σ.set i (some v)) H (fun σ' H' => L2.wipe σ' vs = L2.wipe σ vs → Q σ' H') := h
    show gNames is r (σ.set i (some v)) H Q
    refine setAllS_ok (vs := vs) hv.2 ?_
    rw [set_wipe hi]
    exact h
theorem gT_wipe {K : PySem.W.Frag} {Q : L2.St → Hp → Prop} {vs : List Nat} {t : Tgt} {v : V} {σ : L2.St} (hv : tgtIn vs t = true) (h : gT K t v σ H (fun σ' H' => L2.wipe σ' vs = L2.wipe σ vs → Q σ' H')) : gT K t v σ H Q := by
  cases t with
  | one i => exact h (set_wipe (by simpa [tgtIn] using hv))
  | all is =>
    obtain ⟨a, xs, e, q1, q2, q3⟩ := h
    exact ⟨a, xs, e, q1, q2, setAllS_ok hv q3⟩
theorem lc_read {ci : C ItV} {t : Tgt} {vs : List Nat} {cond : C Bool} {elt : C D} {Q : VK} (h : TN X.K cl W (lcE ci t vs cond elt) σ H Q) : tLc (TI' X.K cl W ci) (gT X.K t) (TUT X.K cl W0 cond) (TU X.K cl W0 elt) vs σ H Q := by
  obtain ⟨B, st, G, R, rel, run⟩ := h
  refine ⟨B, st, G, R, rel, run.bind.mono fun iv st1 G1 R1 H1 _ _ _ _ ⟨rel1, _, _, run1⟩ J hJ => ?_⟩
  intro D hD
  try simp only at run1
  split at run1
  · rename_i hvs
    rw [Bool.and_eq_true, List.all_eq_true] at hvs
    obtain ⟨hv, ht⟩ := hvs
    have fD := rel1.fresh hD
    have hBk := rel1.m.freeK hD
    have hBg : B.G D = none := by
      cases e : B.G D with
      | none => rfl
      | some o => rw [rel1.m.same _ _ (rel1.m.g0 _ _ e)] at hD; cases hD
    -- the run of the loop, from a turn on
    refine ⟨fun i m H => ∃ st2 G2 R2 acc, ∃ xs : List V, Same G1 G2 ∧ Pre R1 R2 ∧ (∃ σ2, L2.wipe σ2 vs = L2.wipe σ vs ∧ Rel X.K cl (B.with D (.lst xs)) st2 G2 R2 σ2 H) ∧ RepA X.K G2 R2 xs acc ∧
      (match lcI iv.get t vs cond elt m i acc st2 with
        | some (.ok ds, st') => if st'.env.length = st1.env.length then Run X.K cl W B σ G2 R2 (some (.ok (Nv.nw (.lst ds)), { st' with env := VL.unwipe st'.env st1.env vs })) (fun d st' G' R' H' => ∀ v, RepN X.K cl B st' G' R' σ H' v d → Q v H') else False
        | _ => False), ⟨iv.n + 1, { st1 with env := wipeE st1.env vs }, G1, R1, [], [], Same.refl _, Pre.refl _, ⟨L2.wipe σ vs, wipe_wipe (fun _ h => h), ?_⟩, .nil, ?_⟩, ?_⟩
    · exact Rel.wipe ((rel1.new hD).prot fD upd_same)
    · cases e : lcI iv.get t vs cond elt (iv.n + 1) 0 [] { st1 with env := wipeE st1.env vs } with
      | none => rw [e] at run1; exact run1.elim
      | some p =>
        obtain ⟨r, st'⟩ := p
        cases r with
        | ex x => rw [e] at run1; exact run1.elim
        | ok ds =>
          rw [e] at run1
          simp only at run1 ⊢
          split at run1
          · rename_i hz; rw [if_pos hz]; exact run1
          · exact run1.elim
    · rintro i m H2 ⟨st2, G2, R2, acc, xs, g2, r2, ⟨σ2, hσ2, rel2⟩, ra, run2⟩
      cases m with
      | zero => exact run2.elim
      | succ m =>
        unfold lcI at run2
        obtain ⟨j1, j2⟩ := hJ (B.with D (.lst xs)) st2 G2 R2 σ2 H2 i g2 r2 rel2
        cases e : iv.get st2 i with
        | none => simp only [e] at run2
        | some od =>
          cases od with
          | none =>
            simp only [e] at run2
            refine .inl ⟨j2 e, ?_⟩
            split at run2
            · rename_i hz
              obtain ⟨relu, fu, hDu⟩ := rel2.unprot hBk hBg
              have hw := Rel.unwipe rel1 g2 r2 hv relu hσ2 hz
              refine run2.done hw (.ref D) ⟨D, rfl, ⟨fu.g, fu.r, fu.k, fun j o ho z => ?_⟩, xs, hDu, ra⟩
              obtain ⟨a, q1, q2, q3, q4, q5⟩ := hw.own j o ho
              rw [z] at q1; cases q1
              have ho : (VL.unwipe st2.env st1.env vs)[j]? = some (.own o) := ho
              by_cases hj : j ∈ vs
              · have hl' : j < st2.env.length := by have := (List.getElem?_eq_some_iff.mp ho).1; rw [unwipe_len] at this; exact this
                rw [unwipe_hit hj hl'] at ho
                have q := hv j hj
                unfold okV at q
                have hl1 : j < st1.env.length := by rw [← hz]; exact hl'
                rw [List.getD_eq_getElem?_getD, List.getElem?_eq_getElem hl1] at ho
                rw [List.getElem?_eq_getElem hl1] at q
                have ho := Option.some.inj ho
                simp only [Option.getD_some] at ho
                rw [ho] at q; cases q
              · rw [unwipe_get hj] at ho
                have s1 : σ2[j]? = σ[j]? := by rw [← wipeS_get hj, hσ2, wipeS_get hj]
                exact fu.e j o ho (by rw [s1]; exact z)
            · exact run2.elim
          | some d =>
            simp only [e] at run2
            obtain ⟨go, yl⟩ := j1 d e
            refine .inr ⟨go, fun H' => ∃ st2 G2 R2 acc, ∃ xs : List V, Same G1 G2 ∧ Pre R1 R2 ∧ (∃ σ2, L2.wipe σ2 vs = L2.wipe σ vs ∧ Rel X.K cl (B.with D (.lst xs)) st2 G2 R2 σ2 H') ∧ RepA X.K G2 R2 xs acc ∧
              (match lcI iv.get t vs cond elt m (i + 1) acc st2 with
                | some (.ok ds, st') => if st'.env.length = st1.env.length then Run X.K cl W B σ G2 R2 (some (.ok (Nv.nw (.lst ds)), { st' with env := VL.unwipe st'.env st1.env vs })) (fun d st' G' R' H' => ∀ v, RepN X.K cl B st' G' R' σ H' v d → Q v H') else False
                | _ => False), fun H' q => ⟨m, Nat.lt_succ_self _, q⟩, fun v H' hy => ?_⟩
            obtain ⟨G3, g3, rel3, rv⟩ := yl v H' hy
            cases es : setT t d (wipeE st2.env vs) with
            | none => simp only [es] at run2
            | some env =>
              simp only [es] at run2
              -- the block starts with its own slots forgotten
              have relw := Rel.wipe (vs := vs) rel3
              rw [hσ2] at relw
              refine gT_wipe ht ?_
              refine setT_ok relw rv es fun σ4 rel4 hσ4 => ?_
              have hσ4' : L2.wipe σ4 vs = L2.wipe σ vs := by rw [hσ4, wipe_wipe (fun _ h => h)]
              refine ⟨hσ4', ⟨_, { st2 with env := env }, G3, R2, rel4, ?_⟩⟩
              cases ec : cond { st2 with env := env } with
              | none => simp only [ec] at run2
              | some p =>
                obtain ⟨rc, st5⟩ := p
                cases rc with
                | ex x => simp only [ec] at run2
                | ok k =>
                  intro G5 R5 H5 g5 r5 rel5
                  cases k with
                  | false =>
                    simp only [ec] at run2
                    refine iteF ⟨st5, G5, R5, acc, xs, (g2.trans g3).trans g5, r2.trans r5, ⟨σ4, hσ4', rel5⟩, ra.mono (g3.trans g5) r5, ?_⟩
                    revert run2
                    cases lcI iv.get t vs cond elt m (i + 1) acc st5 with
                    | none => exact fun h => h
                    | some p =>
                      obtain ⟨rr, st6⟩ := p
                      cases rr with
                      | ex x => exact fun h => h
                      | ok ds =>
                        intro run2
                        simp only at run2 ⊢
                        split at run2
                        · rename_i hz
                          rw [if_pos hz]
                          exact fun G7 R7 H7 g7 r7 rel7 => run2 G7 R7 H7 ((g3.trans g5).trans g7) (r5.trans r7) rel7
                        · exact run2.elim
                  | true =>
                    simp only [ec] at run2
                    refine iteT ⟨_, st5, G5, R5, rel5, ?_⟩
                    cases ee : elt st5 with
                    | none => simp only [ee] at run2
                    | some p =>
                      obtain ⟨re, st6⟩ := p
                      cases re with
                      | ex x => simp only [ee] at run2
                      | ok y =>
                        simp only [ee] at run2
                        intro G6 R6 H6 g6 r6 rel6 vy ry
                        obtain ⟨_, _, hD6⟩ := rel6.unprot hBk hBg
                        by_cases hlen : acc.length < LIM
                        · rw [if_pos hlen] at run2
                          refine ⟨xs, hD6, by rw [ra.length]; exact lim_lt hlen, ?_⟩
                          refine ⟨st6, G6, R6, acc ++ [y], xs ++ [vy], ((g2.trans g3).trans g5).trans g6, (r2.trans r5).trans r6, ⟨σ4, hσ4', rel6.setProt hBk hBg⟩, (ra.mono ((g3.trans g5).trans g6) (r5.trans r6)).append (.cons ry .nil), ?_⟩
                          revert run2
                          cases lcI iv.get t vs cond elt m (i + 1) (acc ++ [y]) st6 with
                          | none => exact fun h => h
                          | some p =>
                            obtain ⟨rr, st7⟩ := p
                            cases rr with
                            | ex x => exact fun h => h
                            | ok ds =>
                              intro run2
                              simp only at run2 ⊢
                              split at run2
                              · rename_i hz
                                rw [if_pos hz]
                                exact fun G7 R7 H7 g7 r7 rel7 => run2 G7 R7 H7 (((g3.trans g5).trans g6).trans g7) ((r5.trans r6).trans r7) rel7
                              · exact run2.elim
                        · rw [if_neg hlen] at run2; exact run2.elim
  · exact run1.elim
theorem sts_nil {Y : Cx} : PTs Y [] (TUT Y.K cl W0 yesC) := ⟨fun pins s σ H Q I h => pts_nil.run pins s σ H Q I (by
  obtain ⟨B, st, G, R, rel, run⟩ := h
  exact run.done rel)⟩
theorem sts_one {Y : Cx} {c : Expr} {cb : C Bool} (h : PT Y c (TUT Y.K cl W0 cb)) : PTs Y [c] (TUT Y.K cl W0 cb) := pts_one h
theorem se_lc {elt tg iter : Expr} {ifs : List Expr} {scope : Scope} {own : List (Str × Nat)} {ci : C ItV} {t : Tgt} {cond : C Bool} {eltC : C D} (hc : X.calm = true) (hN : X.N.Nodup) (hi : PI X tg iter (TI' X.K cl W ci)) (ok : BlkOk X.N X.env.scope scope own)
    (hg : ∀ (s : Shared) (H : Hp) (C : Addr) (cl : List (Str × Addr)) (fp : List Addr), PG (X.blk s H scope (compEnvC scope cl C X.env) fp) tg (gT X.K t)) (ht : ∀ (s : Shared) (H : Hp) (C : Addr) (cl' : List (Str × Addr)) (fp : List Addr), PTs (X.blk s H scope (compEnvC scope cl' C X.env) fp) ifs (TUT X.K cl W0 cond))
    (he : ∀ (s : Shared) (H : Hp) (C : Addr) (cl' : List (Str × Addr)) (fp : List Addr), PE (X.blk s H scope (compEnvC scope cl' C X.env) fp) elt (TU X.K cl W0 eltC)) (hs : ∀ x, foldedSetIterable iter X.env x = pure x := by intro _; rfl) :
    PE X (.ListComp elt [⟨tg, iter, ifs, 0⟩] scope pos) (TN X.K cl W (lcE ci t (own.map (·.2)) cond eltC)) := pe_imp (pe_lc hc hN hi ok hg ht he hs) fun σ H Q h => lc_read h
/-- name = [..] -/
theorem ss_setLc {i : Nat} {y : Str} {py spos : Pos} {elt tg iter : Expr} {ifs : List Expr} {scope : Scope} {own : List (Str × Nat)} {ci : C ItV} {t : Tgt} {cond : C Bool} {eltC : C D} (hc : X.calm = true) (hN : X.N.Nodup) (hy : X.N[i]? = some y) (hyl : X.env.scope.names.lookup y = some .local)
    (hsw : swapsWith (.ListComp elt [⟨tg, iter, ifs, 0⟩] scope pos) (some (.Name y py)) spos.line X.env = pure true) (hi : PI X tg iter (TI' X.K cl W ci)) (ok : BlkOk X.N X.env.scope scope own)
    (hg : ∀ (s : Shared) (H : Hp) (C : Addr) (cl : List (Str × Addr)) (fp : List Addr), PG (X.blk s H scope (compEnvC scope cl C X.env) fp) tg (gT X.K t)) (ht : ∀ (s : Shared) (H : Hp) (C : Addr) (cl' : List (Str × Addr)) (fp : List Addr), PTs (X.blk s H scope (compEnvC scope cl' C X.env) fp) ifs (TUT X.K cl W0 cond))
    (he : ∀ (s : Shared) (H : Hp) (C : Addr) (cl' : List (Str × Addr)) (fp : List Addr), PE (X.blk s H scope (compEnvC scope cl' C X.env) fp) elt (TU X.K cl W0 eltC)) (hs : ∀ x, foldedSetIterable iter X.env x = pure x := by intro _; rfl) :
    PS X (.Assign [.Name y py] (.ListComp elt [⟨tg, iter, ifs, 0⟩] scope pos) spos) (TUS X.K cl W (asgN i (lcE ci t (own.map (·.2)) cond eltC))) := ps_imp (ps_setLc hc hN hy hyl hsw hi ok hg ht he hs) fun D σ H h => by
  have h2 := asgN_read h
  exact lc_read h2

/-! ### defs -/
def keepOf (H : Hp) (R : List Addr) : Hp := fun a => if a ∈ R then none else H a
def EndF (K : PySem.W.Frag) (cl : CL) (B : Base) (G : Hp) (R : List Addr) (o : Option (Res D × List MO)) (Q : VK) (E : XK) : Prop := match o with
  | some (.ok d, M') => ∀ v G' R' H', Same G G' → Pre R R' → RelM K cl B M' G' R' H' → RepV K G' R' v d → Q v H'
  | some (.ex x, M') => ∃ C, cl x = some C ∧ ∀ G' R' H', Same G G' → Pre R R' → RelM K cl B M' G' R' H' → E (.ref C) none H'
  | none => False
/-- what a def promises: F tells its end -/
def spU (K : PySem.W.Frag) (cl : CL) (n : Nat) (F : Fn) : Sp := fun vs H Q E => ∃ G R M ds, vs.length = n ∧ RelM K cl ⟨G, keepOf H R, R⟩ M G R H ∧ RepA K G R vs ds ∧ EndF K cl ⟨G, keepOf H R, R⟩ G R (F ds M) Q E
def fnC (np ns : Nat) (body : Stm) : Fn := fun ds M => match body ⟨ds.map .v ++ List.replicate (ns - np) .un, M⟩ with
  | some (.ok (.rt d), st') => some (.ok d, st'.M)
  | some (.ok .nx, st') => some (.ok .non, st'.M)
  | some (.ex x, st') => some (.ex x, st'.M)
  | _ => none
theorem RelM.entry {K : PySem.W.Frag} {M : List MO} (r : RelM K cl B M G R H) : RelM K cl ⟨G, keepOf H R, R⟩ M G R H := by
  refine ⟨r.same, Same.refl _, fun a o e => .inl e, Pre.refl _, fun a h => if_pos h, fun a o e => ?_, r.len, r.nd, r.sh⟩
  have e : (if a ∈ R then none else H a) = some o := e
  split at e
  · cases e
  · exact e
theorem Rel.start {K : PySem.W.Frag} {M : List MO} {vs : List V} {ds : List D} {N : List Str} (r : RelM K cl B M G R H) (ra : RepA K G R vs ds) (hl : vs.length ≤ N.length) : Rel K cl B ⟨ds.map .v ++ List.replicate (N.length - vs.length) .un, M⟩ G R (start N vs) H := by
  have el := ra.length
  have vcase : ∀ (i : Nat) (c : Cell), (ds.map Cell.v ++ List.replicate (N.length - vs.length) Cell.un)[i]? = some c → (∃ d, c = .v d ∧ ds[i]? = some d) ∨ c = .un := fun i c h => by
    by_cases hi : i < ds.length
    · rw [List.getElem?_append_left (by simpa using hi), List.getElem?_map, List.getElem?_eq_getElem hi] at h
      exact .inl ⟨ds[i], (Option.some.inj h).symm, List.getElem?_eq_getElem hi⟩
    · rw [List.getElem?_append_right (by simpa using hi), List.getElem?_replicate] at h
      split at h
      · exact .inr (Option.some.inj h).symm
      · cases h
  refine ⟨r, by simp [L2.start, el], fun i d h => ?_, fun i o h => ?_, fun i j o o' a h => ?_⟩
  · rcases vcase i _ h with ⟨d', e, q⟩ | e
    · cases e
      obtain ⟨v, h1, h2⟩ := ra.get q
      refine ⟨v, ?_, h2⟩
      unfold L2.start
      have hi := (List.getElem?_eq_some_iff.mp h1).1
      rw [List.getElem?_append_left (by simpa using hi), List.getElem?_map, h1]; rfl
    · cases e
  · rcases vcase i _ h with ⟨d', e, q⟩ | e <;> cases e
  · rcases vcase i _ h with ⟨d', e, q⟩ | e <;> cases e
/-- THE RULE: a def by its body's computation -/
theorem fun_ok {P : Program} {w : World} {K : PySem.W.Frag} {mg : Str → Option Value} {base : Heap} {x qual : Str} {sd : Stmt} {f : Addr} {fd : FuncData} {N ps : List Str} {k : Nat} {body : Stm} (F : Fun K x qual sd f fd) (S : FnScope N ps (defScope sd)) (hl : ps.length ≤ N.length)
    (hb : ∀ (cdv : Value) (A : Around) (outer : List Env) (s : Shared) (H : Hp) (E : XK), Room k (A.deeper (envOfC qual (defScope sd) s.heap.objs.size f cdv)) →
      PSs (cxOf (L2.CX P w) P w K mg base N qual (defScope sd) f cdv A outer s H E) (defBody sd) (TUS K cl (fun c d _ H' => E c d H') body)) : FnOk P w K mg base (L2.CX P w) (k + 1) f fd ps (spU K cl ps.length (fnC ps.length N.length body)) := by
  refine F.okX S (fun vs H Q E h => ?_) (fun cdv A outer s H vs Q E hr h => ?_)
  · obtain ⟨_, _, _, _, h, _⟩ := h
    exact h
  · refine ⟨_, hb cdv A outer s H E hr, ?_⟩
    obtain ⟨G, R, M, ds, hlen, rel, ra, fin⟩ := h
    refine ⟨⟨G, keepOf H R, R⟩, _, G, R, Rel.start rel ra (by rw [hlen]; exact hl), ?_⟩
    rw [hlen]
    unfold fnC at fin
    unfold EndF at fin
    unfold RunS
    split
    · rename_i st' e
      rw [e] at fin
      exact fun σ' G' R' H' g r rel' => fin .non G' R' H' g r rel'.m .non
    · rename_i st' e
      rw [e] at fin
      exact fin.elim
    · rename_i st' e
      rw [e] at fin
      exact fin.elim
    · rename_i d st' e
      rw [e] at fin
      exact fun σ' G' R' H' v g r rel' rv => fin v G' R' H' g r rel'.m rv
    · rename_i x st' e
      rw [e] at fin
      obtain ⟨C, hC, fin⟩ := fin
      exact ⟨C, hC, fun σ' G' R' H' g r rel' => fin G' R' H' g r rel'.m⟩
    · rename_i e
      rw [e] at fin
      exact fin.elim
theorem Rel.after {K : PySem.W.Frag} {M' : List MO} {H' : Hp} (r : Rel K cl B st G R σ H) (h : RelM K cl ⟨G, keepOf H R, R⟩ M' G' R' H') (p : Pre R R') : Rel K cl B { st with M := M' } G' R' σ H' := by
  have g : Same G G' := h.g0
  have kb : ∀ a, B.keep a ≠ none → keepOf H R a = B.keep a := fun a ha => by
    cases e : B.keep a with
    | none => exact absurd e ha
    | some o =>
      have hr : a ∉ R := fun z => by rw [r.m.rk a z] at e; cases e
      show (if a ∈ R then none else H a) = some o
      rw [if_neg hr]; exact r.m.kp a o e
  have kn : ∀ a, keepOf H R a = none → B.keep a = none := fun a ha => by
    cases e : B.keep a with
    | none => rfl
    | some o => rw [kb a (by rw [e]; simp), e] at ha; cases ha
  refine ⟨⟨h.same, fun a o e => g a o (r.m.g0 a o e), fun a o e => ?_, r.m.r0.trans p, fun a ha => kn a (h.rk a ha), fun a o e => ?_, h.len, h.nd, h.sh⟩, r.len, fun i d e => ?_, fun i o e => ?_, r.dis⟩
  · rcases h.gn a o e with q | q
    · exact r.m.gn a o q
    · exact .inr (kn a q)
  · exact h.kp a o (by show keepOf H R a = some o; rw [kb a (by rw [e]; simp)]; exact e)
  · obtain ⟨v, q1, q2⟩ := r.val i d e
    exact ⟨v, q1, q2.mono g p⟩
  · obtain ⟨a, q1, q2, q3, q4, q5⟩ := r.own i o e
    obtain ⟨ho, hho⟩ := q5.there
    have ka : keepOf H R a = some ho := by
      show (if a ∈ R then none else H a) = some ho
      rw [if_neg q3]; exact hho
    have nr : a ∉ R' := fun z => by
      have q : keepOf H R a = none := h.rk a z
      rw [q] at ka; cases ka
    refine ⟨a, q1, ?_, nr, q4, q5.mono g p (by rw [hho]; exact h.kp a ho ka)⟩
    cases e2 : G' a with
    | none => rfl
    | some u =>
      rcases h.gn a u e2 with q | q
      · have q : G a = some u := q
        rw [q2] at q; cases q
      · have q : keepOf H R a = none := q
        rw [ka] at q; cases q
def callE (n : Nat) (F : Fn) (Es : C (List D)) : C D := bndC Es fun ds => fun st => if ds.length = n then match F ds st.M with
    | some (.ok d, M') => some (.ok d, { st with M := M' })
    | some (.ex x, M') => some (.ex x, { st with M := M' })
    | none => none
  else none
theorem call_run {F : Fn} {n : Nat} {ds : List D} {vs : List V} {Q : VK} (rel : Rel X.K cl B st G R σ H) (ra : RepA X.K G R vs ds)
    (run : Run X.K cl W B σ G R ((fun st => if ds.length = n then match F ds st.M with
    | some (.ok d, M') => some (.ok d, { st with M := M' })
    | some (.ex x, M') => some (.ex x, { st with M := M' })
    | none => none
  else none : C D) st) (fun d _ G' R' H' => ∀ v, RepV X.K G' R' v d → Q v H')) : spU X.K cl n F vs H Q (WE W σ) := by
  simp only at run
  split at run
  · rename_i hn
    refine ⟨G, R, st.M, ds, by rw [ra.length]; exact hn, rel.m.entry, ra, ?_⟩
    unfold EndF
    split at run
    · rename_i d M' e
      exact fun v G' R' H' g p rm rv => run G' R' H' g p (rel.after rm p) v rv
    · rename_i x M' e
      obtain ⟨C, hC, run⟩ := run
      exact ⟨C, hC, fun G' R' H' g p rm => run G' R' H' g p (rel.after rm p)⟩
    · exact run.elim
  · exact run.elim
variable {k n : Nat} {f : Addr} {fd : FuncData} {ps : List Str} {F : Fn} {x : Str} {p : Pos} {es : List Expr} {Es : C (List D)}
/-- f(e, ..) of a def of the text -/
theorem se_call (hF : FnOk X.prog X.w X.K X.mg X.base (L2.CX X.prog X.w) k f fd ps (spU X.K cl n F)) (hr : Room k X.A) (hg : Gl X x) (hm : X.mg x = some (.ref f)) (hk : PySem.W.keepIn X.K (.ref f) = true) (hb : Binds X.K fd ps []) (tk : Takes X W)
    (ha : PA X (e :: es) (TUA X.K cl W Es)) (hdb : (x == ("__debug__" : Str)) = false := by decide) (he : starEach (e :: es) X.env = (false, eval e X.env) :: starEach es X.env := by rfl) (hpl : (backTo pos (starEach es X.env)).any (·.1) = false := by rfl) :
    PE X (.Call (.Name x p) (e :: es) [] pos) (TU X.K cl W (callE n F Es)) :=
  pe_imp (pe_callS hF hr hg hm hk hb (fun σ => passAt tk σ) ha hdb he hpl) fun σ H Q h => by
    obtain ⟨B, st, G, R, rel, run⟩ := h
    exact ⟨B, st, G, R, rel, run.bind.mono fun ds st1 G1 R1 H1 _ _ _ _ ⟨rel1, _, _, run1⟩ vs rs => call_run rel1 rs run1⟩
/-- f(), which raises nothing -/
def call0 (F : Fn) : C D := fun st => match F [] st.M with
  | some (.ok d, M') => some (.ok d, { st with M := M' })
  | _ => none
theorem se_call0 (hF : FnOk X.prog X.w X.K X.mg X.base (L2.CX X.prog X.w) k f fd ps (spU X.K cl 0 F)) (hr : Room k X.A) (hg : Gl X x) (hm : X.mg x = some (.ref f)) (hk : PySem.W.keepIn X.K (.ref f) = true) (hb : Binds X.K fd ps [])
    (hdb : (x == ("__debug__" : Str)) = false := by decide) : PE X (.Call (.Name x p) [] [] pos) (TU X.K cl W (call0 F)) :=
  pe_imp (pe_call0 (E := E0) hF hr hg hm hk hb .nil passL hdb) fun σ H Q h => by
    obtain ⟨B, st, G, R, rel, run⟩ := h
    refine ⟨G, R, st.M, [], rfl, rel.m.entry, .nil, ?_⟩
    unfold call0 at run
    unfold EndF
    split at run
    · rename_i d M' e
      rw [e]
      exact fun v G' R' H' g p rm rv => run G' R' H' g p (rel.after rm p) v rv
    · exact run.elim
end
end VL

namespace VL
open PySem PySem.Spec PyProof.Rows L2
theorem boot_len1 : bootBuiltins "len" = some (.builtin "len") := by decide +kernel
theorem boot_abs1 : bootBuiltins "abs" = some (.builtin "abs") := by decide +kernel
theorem boot_list1 : bootBuiltins "list" = some (.type "list") := by decide +kernel
theorem boot_tuple1 : bootBuiltins "tuple" = some (.type "tuple") := by decide +kernel
theorem boot_int1 : bootBuiltins "int" = some (.type "int") := by decide +kernel
theorem boot_bool1 : bootBuiltins "bool" = some (.type "bool") := by decide +kernel
theorem boot_str1 : bootBuiltins "str" = some (.type "str") := by decide +kernel
theorem boot_dict1 : bootBuiltins "dict" = some (.type "dict") := by decide +kernel
theorem boot_sorted1 : bootBuiltins "sorted" = some (.builtin "sorted") := by decide +kernel
theorem boot_sum1 : bootBuiltins "sum" = some (.builtin "sum") := by decide +kernel
theorem boot_any1 : bootBuiltins "any" = some (.builtin "any") := by decide +kernel
theorem boot_all1 : bootBuiltins "all" = some (.builtin "all") := by decide +kernel
theorem boot_max1 : bootBuiltins "max" = some (.builtin "max") := by decide +kernel
theorem boot_min1 : bootBuiltins "min" = some (.builtin "min") := by decide +kernel

/-! ### objects that are written -/
section
variable {K : PySem.W.Frag} {cl : CL} {W : WX} {B : Base} {st : Ms} {G G' H : Hp} {R R' : List Addr} {σ : L2.St}
theorem Rel.setOb {n : Nat} {a : Addr} {o o' : MO} {ho : HO} (r : Rel K cl B st G R σ H) (h1 : st.M[n]? = some o) (h2 : R[n]? = some a) (ro : RepO K cl G R (upd H a ho) a o') :
    Rel K cl B { st with M := st.M.set n o' } G R σ (upd H a ho) := by
  have hG := (r.m.sh n o a h1 h2).1
  have hR : a ∈ R := List.mem_of_getElem? h2
  have hn : n < st.M.length := (List.getElem?_eq_some_iff.mp h1).1
  refine ⟨⟨fun b o e => ?_, r.m.g0, r.m.gn, r.m.r0, r.m.rk, fun b o e => ?_, ?_, r.m.nd, fun m o2 b q1 q2 => ?_⟩, r.len, r.val, fun j o2 q => ?_, r.dis⟩
  · rw [upd_ne (ne_of_none e hG)]; exact r.m.same b o e
  · rw [upd_ne (ne_of_none e (r.m.rk a hR))]; exact r.m.kp b o e
  · show R.length = (st.M.set n o').length
    rw [List.length_set]; exact r.m.len
  · have q1 : (st.M.set n o')[m]? = some o2 := q1
    by_cases hm : m = n
    · subst hm
      rw [List.getElem?_set_self hn] at q1
      cases q1
      rw [h2] at q2; cases q2
      exact ⟨hG, ro⟩
    · rw [List.getElem?_set_ne (Ne.symm hm)] at q1
      obtain ⟨q3, q4⟩ := r.m.sh m o2 b q1 q2
      refine ⟨q3, q4.mono (Same.refl _) (Pre.refl _) (upd_ne ?_)⟩
      intro z; subst z
      obtain ⟨l1, e1⟩ := List.getElem?_eq_some_iff.mp q2
      obtain ⟨l2, e2⟩ := List.getElem?_eq_some_iff.mp h2
      exact hm ((List.getElem_inj r.m.nd).mp (e1.trans e2.symm))
  · obtain ⟨b, q1, q2, q3, q4, q5⟩ := r.own j o2 q
    refine ⟨b, q1, q2, q3, q4, q5.mono (Same.refl _) (Pre.refl _) (upd_ne ?_)⟩
    intro z; subst z
    exact q3 hR
theorem Rel.setCell {i : Nat} {a : Addr} {o o' : MO} {ho : HO} (r : Rel K cl B st G R σ H) (h1 : st.env[i]? = some (.own o)) (h2 : σ[i]? = some (some (.ref a))) (ro : RepO K cl G R (upd H a ho) a o') :
    Rel K cl B { st with env := st.env.set i (.own o') } G R σ (upd H a ho) := by
  obtain ⟨a', q1, q2, q3, q4, q5⟩ := r.own i o h1
  rw [h2] at q1; cases q1
  have hi : i < st.env.length := (List.getElem?_eq_some_iff.mp h1).1
  refine ⟨r.m.put q2 q4 q3, ?_, fun j d h => ?_, fun j o2 h => ?_, fun j k o1 o2 b e1 e2 => ?_⟩
  · show σ.length = (st.env.set i (.own o')).length
    rw [List.length_set]; exact r.len
  · have h : (st.env.set i (.own o'))[j]? = some (.v d) := h
    by_cases hj : j = i
    · subst hj
      rw [List.getElem?_set_self hi] at h; cases h
    · rw [List.getElem?_set_ne (Ne.symm hj)] at h
      exact r.val j d h
  · have h : (st.env.set i (.own o'))[j]? = some (.own o2) := h
    by_cases hj : j = i
    · subst hj
      rw [List.getElem?_set_self hi] at h; cases h
      exact ⟨a, h2, q2, q3, q4, ro⟩
    · rw [List.getElem?_set_ne (Ne.symm hj)] at h
      obtain ⟨b, p1, p2, p3, p4, p5⟩ := r.own j o2 h
      refine ⟨b, p1, p2, p3, p4, p5.mono (Same.refl _) (Pre.refl _) (upd_ne ?_)⟩
      intro z; subst z
      exact hj (r.dis j i o2 o b h h1 p1 h2)
  · have e1 : (st.env.set i (.own o'))[j]? = some (.own o1) := e1
    have e2 : (st.env.set i (.own o'))[k]? = some (.own o2) := e2
    have f : ∀ (m : Nat) (om : MO), (st.env.set i (Cell.own o'))[m]? = some (Cell.own om) → ∃ om' : MO, st.env[m]? = some (Cell.own om') := fun m om e => by
      by_cases hm : m = i
      · subst hm; exact ⟨_, h1⟩
      · rw [List.getElem?_set_ne (Ne.symm hm)] at e; exact ⟨_, e⟩
    obtain ⟨p1, f1⟩ := f j o1 e1
    obtain ⟨p2, f2⟩ := f k o2 e2
    exact r.dis j k p1 p2 b f1 f2
end
/-- an operand that may be written: what it is, and the state with another one put there -/
def upO (st : Ms) : Opd → Option (MO × (MO → Ms))
  | .d (.ob n) => match st.M[n]? with
    | some o => some (o, fun o' => { st with M := st.M.set n o' })
    | none => none
  | .cell i => match st.env[i]? with
    | some (.own o) => some (o, fun o' => { st with env := st.env.set i (.own o') })
    | _ => none
  | _ => none
section
variable {K : PySem.W.Frag} {cl : CL} {W : WX} {B : Base} {st : Ms} {G G' H : Hp} {R R' : List Addr} {σ : L2.St}
theorem upO_ok {v : V} {od : Opd} {o : MO} {k : MO → Ms} (r : Rel K cl B st G R σ H) (h : RepOp K G R σ v od) (e : upO st od = some (o, k)) :
    ∃ a, v = .ref a ∧ G a = none ∧ RepO K cl G R H a o ∧ ∀ ho o', RepO K cl G R (upd H a ho) a o' → Rel K cl B (k o') G R σ (upd H a ho) := by
  cases od with
  | d d =>
    cases d with
    | ob n =>
      unfold upO at e
      simp only at e
      split at e
      · rename_i o2 h1
        cases e
        have h : RepV K G R v (.ob n) := h
        cases h with
        | ob h2 =>
          rename_i a
          obtain ⟨q1, q2⟩ := r.m.sh n o a h1 h2
          exact ⟨a, rfl, q1, q2, fun ho o' ro => r.setOb h1 h2 ro⟩
      · cases e
    | _ => cases e
  | cell i =>
    unfold upO at e
    simp only at e
    split at e
    · rename_i o2 h1
      cases e
      obtain ⟨a, q1, q2, q3, q4, q5⟩ := r.own i o h1
      have h : σ[i]? = some (some v) := h
      rw [q1] at h; cases h
      exact ⟨a, rfl, q2, q5, fun ho o' ro => r.setCell h1 q1 ro⟩
    · cases e
end

/-! ### methods that write a list -/
/-- f of the list's items: what is given, the items behind it -/
def mutC (f : List D → Option (D × List D)) (x : Opd) : C D := fun st => match upO st x with
  | some (.lst ds, k) => match f ds with
    | some (d, ds') => some (.ok d, k (.lst ds'))
    | none => none
  | _ => none
def appF (d : D) (ds : List D) : Option (D × List D) := if ds.length < LIM then some (.non, ds ++ [d]) else none
def extF (es : List D) (ds : List D) : Option (D × List D) := if ds.length + es.length ≤ LIM then some (.non, ds ++ es) else none
def popF (ds : List D) : Option (D × List D) := match ds[ds.length - 1]? with
  | some d => some (d, ds.dropLast)
  | none => none
def clrF (_ : List D) : Option (D × List D) := some (.non, [])
/-- the rest, where the operand is a list -/
def lstC {α : Type} (x : Opd) (c : C α) : C α := fun st => match seqL st x with
  | some _ => c st
  | none => none
def appE (A : C Opd) (E : C D) : C D := bndC A fun x => lstC x (bndC E fun d => mutC (appF d) x)
def extE (A A' : C Opd) : C D := bndC A fun x => lstC x (bndC A' fun y => fun st => match seqL st y with
  | some es => mutC (extF es) x st
  | none => none)
def popE (A : C Opd) : C D := bndC A fun x => lstC x (mutC popF x)
def clrE (A : C Opd) : C D := bndC A fun x => lstC x (mutC clrF x)
section
variable {X : Cx} {cl : CL} {W : WX} {B : Base} {st : Ms} {G G' H : Hp} {R R' : List Addr} {σ : L2.St}
variable {o e : Expr} {A A' : C Opd} {E : C D} {apos cpos pos : Pos}
theorem lstC_ok {α : Type} {x : Opd} {v : V} {c : C α} {Q : α → Ms → Hp → List Addr → Hp → Prop} (rel : Rel X.K cl B st G R σ H) (hv : RepOp X.K G R σ v x) (run : Run X.K cl W B σ G R (lstC x c st) Q) : tyV X.K "list" v H ∧ Run X.K cl W B σ G R (c st) Q := by
  unfold lstC at run
  cases e : seqL st x with
  | none => rw [e] at run; exact run.elim
  | some ds =>
    rw [e] at run
    obtain ⟨a, xs, rfl, h1, h2⟩ := seqL_ok rel hv e
    exact ⟨.inl ⟨rfl, _, SqL.of h1⟩, run⟩
theorem mutC_ok {f : List D → Option (D × List D)} {x : Opd} {v : V} {Q : VK} (rel : Rel X.K cl B st G R σ H) (hv : RepOp X.K G R σ v x)
    (run : Run X.K cl W B σ G R (mutC f x st) (fun d _ G' R' H' => ∀ v, RepV X.K G' R' v d → Q v H')) :
    ∃ a xs ds d ds', v = .ref a ∧ H a = some (.lst xs) ∧ RepA X.K G R xs ds ∧ f ds = some (d, ds') ∧ ∀ ys, RepA X.K G R ys ds' → ∀ w, RepV X.K G R w d → Q w (upd H a (.lst ys)) := by
  unfold mutC at run
  split at run
  · rename_i ds k e
    obtain ⟨a, rfl, hG, ⟨xs, h1, h2⟩, hk⟩ := upO_ok rel hv e
    split at run
    · rename_i d ds' e2
      exact ⟨a, xs, ds, d, ds', rfl, h1, h2, e2, fun ys hy w hw => run G R _ (Same.refl _) (Pre.refl _) (hk _ _ ⟨ys, upd_same, hy⟩) w hw⟩
    · exact run.elim
  · exact run.elim
theorem se_app {es : List Expr} (ho : PE X o (TO' X.K cl W A)) (he : PE X e (TU X.K cl W E)) 
    (hbase : attributeBase o "append" X.env (eval o X.env) = eval o X.env := by rfl)
    (hfew : ((backTo cpos (starEach [e] X.env)).all (fun x => !x.1) && (backToKw cpos (keywordEach [] X.env)).all (fun x => x.1.isSome)
      && decide (([e] : List Expr).length + ([] : List Keyword).length + (if ([] : List Keyword).isEmpty then 0 else 1) < 30)) = true := by rfl)
    (hline : (apos.endLine == cpos.line) = true := by rfl) (hs : starEach [e] X.env = (false, eval e X.env) :: starEach [] X.env := by rfl) (hplain : (backTo cpos (starEach [] X.env)).any (·.1) = false := by rfl) :
    PE X (.Call (.Attribute o "append" apos) [e] [] cpos) (TU X.K cl W (appE A E)) := by
  refine pe_imp (pe_bm PySem.F.plainAttrs_list PySem.F.slot_list_append PySem.F.type_list_append mt_append ho (pa_cons he pa_nil hs) hbase hfew hline hs hplain) fun σ H Q h => ?_
  obtain ⟨B, st, G, R, rel, run⟩ := h
  refine ⟨B, st, G, R, rel, run.bind.mono fun x st1 G1 R1 H1 _ _ _ _ ⟨rel1, _, _, run1⟩ v rv => ?_⟩
  obtain ⟨ty, run1⟩ := lstC_ok rel1 rv run1
  refine ⟨ty, B, st1, G1, R1, rel1, run1.bind.mono fun d st2 G2 R2 H2 _ g r _ ⟨rel2, _, _, run2⟩ w rw => ?_⟩
  obtain ⟨a, xs, ds, d', ds', rfl, h1, h2, h3, h4⟩ := mutC_ok rel2 (rv.mono g r) run2
  unfold appF at h3
  split at h3
  · rename_i hl
    cases h3
    exact ⟨a, xs, w, rfl, rfl, h1, by rw [h2.length]; exact lim_lt hl, h4 _ (h2.append (.cons rw .nil)) _ .non⟩
  · cases h3
theorem se_ext (ho : PE X o (TO' X.K cl W A)) (he : PE X e (TO' X.K cl W A')) 
    (hbase : attributeBase o "extend" X.env (eval o X.env) = eval o X.env := by rfl)
    (hfew : ((backTo cpos (starEach [e] X.env)).all (fun x => !x.1) && (backToKw cpos (keywordEach [] X.env)).all (fun x => x.1.isSome)
      && decide (([e] : List Expr).length + ([] : List Keyword).length + (if ([] : List Keyword).isEmpty then 0 else 1) < 30)) = true := by rfl)
    (hline : (apos.endLine == cpos.line) = true := by rfl) (hs : starEach [e] X.env = (false, eval e X.env) :: starEach [] X.env := by rfl) (hplain : (backTo cpos (starEach [] X.env)).any (·.1) = false := by rfl) :
    PE X (.Call (.Attribute o "extend" apos) [e] [] cpos) (TU X.K cl W (extE A A')) := by
  refine pe_imp (pe_bm PySem.F.plainAttrs_list PySem.F.slot_list_extend PySem.F.type_list_extend mt_extend ho (pa_cons he pa_nil hs) hbase hfew hline hs hplain) fun σ H Q h => ?_
  obtain ⟨B, st, G, R, rel, run⟩ := h
  refine ⟨B, st, G, R, rel, run.bind.mono fun x st1 G1 R1 H1 _ _ _ _ ⟨rel1, _, _, run1⟩ v rv => ?_⟩
  obtain ⟨ty, run1⟩ := lstC_ok rel1 rv run1
  refine ⟨ty, B, st1, G1, R1, rel1, run1.bind.mono fun y st2 G2 R2 H2 _ g r _ ⟨rel2, _, _, run2⟩ w rw => ?_⟩
  split at run2
  · rename_i es e1
    obtain ⟨b, zs, rfl, hb, rb⟩ := seqL_ok rel2 rw e1
    obtain ⟨a, xs, ds, d', ds', rfl, h1, h2, h3, h4⟩ := mutC_ok rel2 (rv.mono g r) run2
    unfold extF at h3
    split at h3
    · rename_i hl
      cases h3
      exact ⟨a, b, xs, zs, rfl, rfl, h1, hb, by rw [h2.length, rb.length]; exact lim_le hl, h4 _ (h2.append rb) _ .non⟩
    · cases h3
  · exact run2.elim
theorem se_pop (ho : PE X o (TO' X.K cl W A)) (hbase : attributeBase o "pop" X.env (eval o X.env) = eval o X.env := by rfl) (hline : (apos.endLine == cpos.line) = true := by rfl) :
    PE X (.Call (.Attribute o "pop" apos) [] [] cpos) (TU X.K cl W (popE A)) := by
  refine pe_imp (pe_bm0 PySem.F.plainAttrs_list PySem.F.slot_list_pop PySem.F.type_list_pop mt_pop ho hbase hline) fun σ H Q h => ?_
  obtain ⟨B, st, G, R, rel, run⟩ := h
  refine ⟨B, st, G, R, rel, run.bind.mono fun x st1 G1 R1 H1 _ _ _ _ ⟨rel1, _, _, run1⟩ v rv => ?_⟩
  obtain ⟨ty, run1⟩ := lstC_ok rel1 rv run1
  refine ⟨ty, ?_⟩
  obtain ⟨a, xs, ds, d', ds', rfl, h1, h2, h3, h4⟩ := mutC_ok rel1 rv run1
  unfold popF at h3
  split at h3
  · rename_i d e
    cases h3
    rw [← h2.length] at e
    obtain ⟨y, h5, h6⟩ := h2.get e
    exact ⟨a, xs, y, rfl, rfl, h1, h5, h4 _ h2.dropLast _ h6⟩
  · cases h3
theorem se_clr (ho : PE X o (TO' X.K cl W A)) (hbase : attributeBase o "clear" X.env (eval o X.env) = eval o X.env := by rfl) (hline : (apos.endLine == cpos.line) = true := by rfl) :
    PE X (.Call (.Attribute o "clear" apos) [] [] cpos) (TU X.K cl W (clrE A)) := by
  refine pe_imp (pe_bm0 PySem.F.plainAttrs_list PySem.F.slot_list_clear PySem.F.type_list_clear mt_clear ho hbase hline) fun σ H Q h => ?_
  obtain ⟨B, st, G, R, rel, run⟩ := h
  refine ⟨B, st, G, R, rel, run.bind.mono fun x st1 G1 R1 H1 _ _ _ _ ⟨rel1, _, _, run1⟩ v rv => ?_⟩
  obtain ⟨ty, run1⟩ := lstC_ok rel1 rv run1
  refine ⟨ty, ?_⟩
  obtain ⟨a, xs, ds, d', ds', rfl, h1, h2, h3, h4⟩ := mutC_ok rel1 rv run1
  cases h3
  exact ⟨a, xs, rfl, rfl, h1, h4 _ .nil _ .non⟩
/-- o[i] = v -/
def setF (k : Int) (d : D) (ds : List D) : Option (D × List D) := match ixN ds.length k with
  | some j => some (.non, ds.set j d)
  | none => none
def sputS (E : C D) (A : C Opd) (I : C D) : Stm := bndC E fun d => bndC A fun x => bndC I fun i => match i with
  | .int k => bndC (mutC (setF k d) x) fun _ => pureC .nx
  | _ => failC
theorem ss_sput {oe ie ve : Expr} {I : C D} {p2 : Pos} (hv : PE X ve (TU X.K cl W E)) (ho : PE X oe (TO' X.K cl W A)) (hi : PE X ie (TU X.K cl W I))
    (hs : swapsWithSole [.Subscript oe ie p2] ve pos.line X.env = pure false := by rfl) (hw : swappedStores [.Subscript oe ie p2] ve X.env = pure none := by rfl)
    (h1 : (assignEach [.Subscript oe ie p2] X.env).map (·.2) = [assign (.Subscript oe ie p2) X.env] := by rfl)
    (ha : ∀ v, assign (.Subscript oe ie p2) X.env v = (do
      let ov ← holding [v] (eval oe X.env)
      let iv ← holding [v, ov] (eval ie X.env)
      standAt p2
      holding [v, ov, iv] (setItem ov iv v)
      release [v, ov, iv] []) := by intro _; rfl) : PS X (.Assign [.Subscript oe ie p2] ve pos) (TUS X.K cl W (sputS E A I)) := by
  refine ps_imp (ps_asg hv (pg_sub ho hi set_list ha) hs hw h1) fun D σ H h => ?_
  obtain ⟨B, st, G, R, rel, run⟩ := h
  have run := RunS.bind (σ := σ) run
  refine ⟨B, st, G, R, rel, run.mono fun d st1 G1 R1 H1 _ _ _ _ ⟨rel1, _, _, run1⟩ v rv => ?_⟩
  have run1 := RunS.bind (σ := σ) run1
  refine ⟨B, st1, G1, R1, rel1, run1.mono fun x st2 G2 R2 H2 _ g r _ ⟨rel2, _, _, run2⟩ w rw => ?_⟩
  have run2 := RunS.bind (σ := σ) run2
  refine ⟨B, st2, G2, R2, rel2, run2.mono fun i st3 G3 R3 H3 _ g3 r3 _ ⟨rel3, _, _, run3⟩ u ru => ?_⟩
  cases ru with
  | int k =>
    have run3 := RunS.bind (σ := σ) run3
    obtain ⟨a, xs, ds, d', ds', rfl, q1, q2, q3, q4⟩ := mutC_ok (Q := fun _ H' => D.nx σ H') rel3 (rw.mono g3 r3) (run3.mono fun _ st4 G4 R4 H4 _ _ _ _ ⟨rel4, _, _, run4⟩ w' rw' => RunS.nx run4 rel4)
    unfold setF at q3
    split at q3
    · rename_i j e
      cases q3
      rw [← q2.length] at e
      exact ⟨a, xs, k, j, rfl, rfl, q1, e, q4 _ (q2.set ((rv.mono g r).mono g3 r3) _) _ .non⟩
    · cases q3
  | _ => exact run3.elim
end
end VL

namespace VL
open PySem PySem.Spec PyProof.Rows L2

/-! ### in -/
def flatD : D → Bool
  | .non | .bl _ | .int _ | .str _ => true
  | _ => false
def eqD : D → D → Bool
  | .non, .non => true
  | .bl a, .bl b => a == b
  | .bl a, .int b => (if a then 1 else 0) == b
  | .int a, .bl b => a == (if b then 1 else 0)
  | .int a, .int b => a == b
  | .str a, .str b => a == b
  | _, _ => false
/-- a list's or a tuple's items -/
def seqT (st : Ms) (y : Opd) : Option (List D) := match seqL st y with
  | some ds => some ds
  | none => match dOf st y with
    | some (.tup ds) => some ds
    | _ => none
def deepIn (st : Ms) (x y : Opd) : Option Bool := match pyO st x, pyO st y with
  | some p, some (.list qs) => if SeqAt.shaped p = true ∧ SeqAt.shaped (.list qs) = true then some (qs.any fun z => PyData.eqv z p) else none
  | _, _ => none
def inF (st : Ms) (x y : Opd) : Option Bool := match dOf st x, seqT st y with
  | some d, some ds => if flatD d = true ∧ ds.all flatD = true then some (ds.any fun z => eqD z d) else deepIn st x y
  | some (.str [c]), none => match dOf st y with
    | some (.str t) => some (decide (c ∈ t))
    | _ => none
  | _, _ => deepIn st x y
def notInF (st : Ms) (x y : Opd) : Option Bool := (inF st x y).map (!·)
section
variable {X : Cx} {cl : CL} {W : WX} {B : Base} {st : Ms} {G H : Hp} {R : List Addr} {σ : L2.St}
theorem toS_beq (a b : List Nat) : (toS a == toS b) = (a == b) := by
  by_cases h : a = b
  · subst h; simp
  · have : toS a ≠ toS b := fun z => h (toS_inj z)
    rw [beq_eq_false_iff_ne.mpr this, beq_eq_false_iff_ne.mpr h]
theorem flat_ok {K : PySem.W.Frag} {v : V} {d : D} (h : RepV K G R v d) (f : flatD d = true) : flatV v = true := by
  cases h <;> first | rfl | cases f
theorem eqD_ok {K : PySem.W.Frag} {v w : V} {d e : D} (h : RepV K G R v d) (g : RepV K G R w e) (f : flatD d = true) (f' : flatD e = true) : eqV v w = eqD d e := by
  cases h <;> cases g <;> first | exact toS_beq _ _ | rfl | (cases f; done) | (cases f'; done)
theorem flatA_ok {K : PySem.W.Frag} {vs : List V} {ds : List D} (h : RepA K G R vs ds) (f : ds.all flatD = true) : vs.all flatV = true := by
  induction vs generalizing ds with
  | nil => rfl
  | cons v vs ih =>
    cases h with
    | cons h t =>
      rw [List.all_cons, Bool.and_eq_true] at f ⊢
      exact ⟨flat_ok h f.1, ih t f.2⟩
theorem anyD_ok {K : PySem.W.Frag} {x : V} {d : D} (hx : RepV K G R x d) (fx : flatD d = true) {vs : List V} {ds : List D} (h : RepA K G R vs ds) (f : ds.all flatD = true) : inV x vs = ds.any fun z => eqD z d := by
  unfold inV
  induction vs generalizing ds with
  | nil => cases h; rfl
  | cons v vs ih =>
    cases h with
    | cons h t =>
      rw [List.all_cons, Bool.and_eq_true] at f
      rw [List.any_cons, List.any_cons, eqD_ok h hx f.1 fx, ih t f.2]
theorem seqT_ok {K : PySem.W.Frag} {v : V} {y : Opd} {ds : List D} (rel : Rel K cl B st G R σ H) (h : RepOp K G R σ v y) (e : seqT st y = some ds) : ∃ a xs, v = .ref a ∧ (SqL K H a xs ∨ SqT K H a xs) ∧ RepA K G R xs ds := by
  unfold seqT at e
  split at e
  · rename_i ds' e1
    cases e
    obtain ⟨a, xs, rfl, h1, h2⟩ := seqL_ok rel h e1
    exact ⟨a, xs, rfl, .inl (SqL.of h1), h2⟩
  · split at e
    · rename_i ds' e1
      cases e
      have h := dOf_ok rel h e1
      cases h with
      | tup h1 h2 => exact ⟨_, _, rfl, .inr (SqT.of (rel.m.same _ _ h1)), h2⟩
    · cases e
theorem deepIn_ok {K : PySem.W.Frag} {v w : V} {x y : Opd} {k : Bool} (rel : Rel K cl B st G R σ H) (hx : RepOp K G R σ v x) (hy : RepOp K G R σ w y) (e : deepIn st x y = some k) :
    ∃ d ds, Dp K H v d ∧ Dp K H w (.list ds) ∧ SeqAt.shaped d = true ∧ SeqAt.shaped (.list ds) = true ∧ (ds.any fun z => PyData.eqv z d) = k := by
  unfold deepIn at e
  split at e
  · rename_i p qs e1 e2
    split at e
    · rename_i h
      cases e
      exact ⟨p, qs, pyO_ok rel hx e1 h.1, pyO_ok rel hy e2 h.2, h.1, h.2, rfl⟩
    · cases e
  · cases e
theorem op_inU (hu : X.A.units + 65 < cLine) : OpR X (compareOp .In) (rC2 X.K cl inF) := by
  intro pins s σ0 H x y v u Q I rx ry h
  obtain ⟨B, st, G, R, σ, dx, dy, k, rel, hx, hy, e, q⟩ := h
  unfold inF at e
  split at e
  · rename_i d ds e1 e2
    split at e
    · rename_i f
      cases e
      obtain ⟨a, xs, rfl, h1, h2⟩ := seqT_ok rel hy e2
      have hd := dOf_ok rel hx e1
      refine op_in_seq pins s σ0 H _ _ v u Q I rx ry ⟨a, xs, rfl, h1, flat_ok hd f.1, flatA_ok h2 f.2, ?_⟩
      rw [anyD_ok hd f.1 h2 f.2]
      exact q
    · obtain ⟨d, ds, h1, h2, h3, h4, rfl⟩ := deepIn_ok rel hx hy e
      exact op_inD hu pins s σ0 H x y v u Q I rx ry ⟨d, ds, h1, h2, h3, h4, q⟩
  · rename_i c e1 e2
    split at e
    · rename_i t e3
      cases e
      have hd := dOf_ok rel hx e1
      have ht := dOf_ok rel hy e3
      cases hd
      cases ht
      exact op_in_sign pins s σ0 H _ _ v u Q I rx ry ⟨c, toS t, rfl, rfl, by rw [toS_cps]; exact q⟩
    · cases e
  · obtain ⟨d, ds, h1, h2, h3, h4, rfl⟩ := deepIn_ok rel hx hy e
    exact op_inD hu pins s σ0 H x y v u Q I rx ry ⟨d, ds, h1, h2, h3, h4, q⟩
theorem op_notInU (hu : X.A.units + 65 < cLine) : OpR X (compareOp .NotIn) (rC2 X.K cl notInF) := by
  intro pins s σ0 H x y v u Q I rx ry h
  obtain ⟨B, st, G, R, σ, dx, dy, k, rel, hx, hy, e0, q⟩ := h
  unfold notInF at e0
  obtain ⟨k', e, rfl⟩ := Option.map_eq_some_iff.mp e0
  unfold inF at e
  split at e
  · rename_i d ds e1 e2
    split at e
    · rename_i f
      cases e
      obtain ⟨a, xs, rfl, h1, h2⟩ := seqT_ok rel hy e2
      have hd := dOf_ok rel hx e1
      refine op_notIn_seq pins s σ0 H _ _ v u Q I rx ry ⟨a, xs, rfl, h1, flat_ok hd f.1, flatA_ok h2 f.2, ?_⟩
      rw [anyD_ok hd f.1 h2 f.2]
      exact q
    · obtain ⟨d, ds, h1, h2, h3, h4, rfl⟩ := deepIn_ok rel hx hy e
      exact op_notInD hu pins s σ0 H x y v u Q I rx ry ⟨d, ds, h1, h2, h3, h4, q⟩
  · rename_i c e1 e2
    split at e
    · rename_i t e3
      cases e
      have hd := dOf_ok rel hx e1
      have ht := dOf_ok rel hy e3
      cases hd
      cases ht
      exact op_notIn_sign pins s σ0 H _ _ v u Q I rx ry ⟨c, toS t, rfl, rfl, by rw [toS_cps]; exact q⟩
    · cases e
  · obtain ⟨d, ds, h1, h2, h3, h4, rfl⟩ := deepIn_ok rel hx hy e
    exact op_notInD hu pins s σ0 H x y v u Q I rx ry ⟨d, ds, h1, h2, h3, h4, q⟩

/-! ### built-ins over lists -/
def intsOf : List D → Option (List Int)
  | [] => some []
  | .int i :: r => (intsOf r).map (i :: ·)
  | _ => none
def blsOf : List D → Option (List Bool)
  | [] => some []
  | .bl i :: r => (blsOf r).map (i :: ·)
  | _ => none
theorem intsOf_ok : ∀ {ds : List D} {ns : List Int}, intsOf ds = some ns → ds = ns.map .int
  | [], _, h => by cases h; rfl
  | d :: r, ns, h => by
    cases d with
    | int i =>
      unfold intsOf at h
      obtain ⟨m, h1, rfl⟩ := Option.map_eq_some_iff.mp h
      rw [intsOf_ok h1]; rfl
    | _ => cases h
theorem blsOf_ok : ∀ {ds : List D} {ns : List Bool}, blsOf ds = some ns → ds = ns.map .bl
  | [], _, h => by cases h; rfl
  | d :: r, ns, h => by
    cases d with
    | bl i =>
      unfold blsOf at h
      obtain ⟨m, h1, rfl⟩ := Option.map_eq_some_iff.mp h
      rw [blsOf_ok h1]; rfl
    | _ => cases h
theorem intsOf_map (ns : List Int) : intsOf (ns.map .int) = some ns := by
  induction ns with
  | nil => rfl
  | cons n r ih => rw [List.map_cons]; unfold intsOf; rw [ih]; rfl
theorem blsOf_map (ns : List Bool) : blsOf (ns.map .bl) = some ns := by
  induction ns with
  | nil => rfl
  | cons n r ih => rw [List.map_cons]; unfold blsOf; rw [ih]; rfl
def allF (st : Ms) (x : Opd) : Option Nv := match seqL st x with
  | some ds => (blsOf ds).map fun bs => .d (.bl (bs.all id))
  | none => none
def anyF (st : Ms) (x : Opd) : Option Nv := match seqL st x with
  | some ds => (blsOf ds).map fun bs => .d (.bl (bs.any id))
  | none => none
def sumF (st : Ms) (x : Opd) : Option Nv := match seqL st x with
  | some ds => (intsOf ds).map fun ns => .d (.int ns.sum)
  | none => none
def sortI (ns : List Int) : List Int := ns.mergeSort (fun a b => decide (a ≤ b))
theorem sortI_eq {ns ns' : List Int} (h1 : ns'.Perm ns) (h2 : ns'.Pairwise (· ≤ ·)) : ns' = sortI ns := by
  have p : (sortI ns).Perm ns := List.mergeSort_perm _ _
  have s : (sortI ns).Pairwise (fun a b => decide (a ≤ b) = true) := List.pairwise_mergeSort (fun a b c h1 h2 => by simp at h1 h2 ⊢; omega) (fun a b => by simp; omega) ns
  refine List.Perm.eq_of_pairwise (le := (· ≤ ·)) (fun a b _ _ h1 h2 => Int.le_antisymm h1 h2) h2 (s.imp fun h => by simpa using h) (h1.trans p.symm)
def sortedF (st : Ms) (x : Opd) : Option Nv := match seqL st x with
  | some ds => (intsOf ds).map fun ns => .nw (.lst ((sortI ns).map .int))
  | none => none
def revF (st : Ms) (x : Opd) : Option Nv := match seqL st x with
  | some ds => some (.nw (.lst ds.reverse))
  | none => match dOf st x with
    | some (.scr ns) => some (.nw (.lst ((ns.map D.int).reverse)))
    | _ => none
def strF (st : Ms) (x : Opd) : Option Nv := match dOf st x with
  | some (.int i) => if i.natAbs.log2 < 1920 then some (.d (.str (toString i : Str).cps.toList)) else none
  | _ => none
theorem call_allU (hc : X.calm = true) : CallR X (.builtin "all") (rU1 X.K cl W allF) := by
  intro pins s σ0 H xs us Q I r h
  obtain ⟨B, st, G, R, σ, x, dx, n, rfl, rel, hx, e, run⟩ := h
  unfold allF at e
  split at e
  · rename_i ds e1
    obtain ⟨p, xs, rfl, h1, h2⟩ := seqL_ok rel hx e1
    obtain ⟨bs, e2, rfl⟩ := Option.map_eq_some_iff.mp e
    rw [blsOf_ok e2] at h2
    rw [RepA.bls_of h2] at h1
    exact cr_all hc pins s σ0 H _ us Q I r ⟨p, bs, rfl, SqL.of h1, run.done rel _ (.bl _)⟩
  · cases e
theorem call_anyU (hc : X.calm = true) : CallR X (.builtin "any") (rU1 X.K cl W anyF) := by
  intro pins s σ0 H xs us Q I r h
  obtain ⟨B, st, G, R, σ, x, dx, n, rfl, rel, hx, e, run⟩ := h
  unfold anyF at e
  split at e
  · rename_i ds e1
    obtain ⟨p, xs, rfl, h1, h2⟩ := seqL_ok rel hx e1
    obtain ⟨bs, e2, rfl⟩ := Option.map_eq_some_iff.mp e
    rw [blsOf_ok e2] at h2
    rw [RepA.bls_of h2] at h1
    exact cr_any hc pins s σ0 H _ us Q I r ⟨p, bs, rfl, SqL.of h1, run.done rel _ (.bl _)⟩
  · cases e
theorem call_sumU (hc : X.calm = true) : CallR X (.builtin "sum") (rU1 X.K cl W sumF) := by
  intro pins s σ0 H xs us Q I r h
  obtain ⟨B, st, G, R, σ, x, dx, n, rfl, rel, hx, e, run⟩ := h
  unfold sumF at e
  split at e
  · rename_i ds e1
    obtain ⟨p, xs, rfl, h1, h2⟩ := seqL_ok rel hx e1
    obtain ⟨ns, e2, rfl⟩ := Option.map_eq_some_iff.mp e
    rw [intsOf_ok e2] at h2
    rw [RepA.ints_of h2] at h1
    exact cr_sum hc pins s σ0 H _ us Q I r ⟨p, ns, rfl, SqL.of h1, run.done rel _ (.int _)⟩
  · cases e
theorem call_sortedU : CallR X (.builtin "sorted") (rU1 X.K cl W sortedF) := by
  intro pins s σ0 H xs us Q I r h
  obtain ⟨B, st, G, R, σ, x, dx, n, rfl, rel, hx, e, run⟩ := h
  unfold sortedF at e
  split at e
  · rename_i ds e1
    obtain ⟨p, xs, rfl, h1, h2⟩ := seqL_ok rel hx e1
    obtain ⟨ns, e2, rfl⟩ := Option.map_eq_some_iff.mp e
    rw [intsOf_ok e2] at h2
    rw [RepA.ints_of h2] at h1
    refine cr_sortedI pins s σ0 H _ us Q I r ⟨p, ns, rfl, SqL.of h1, fun ns' a q1 q2 q3 => ?_⟩
    rw [sortI_eq q1 q2]
    exact fin_lst rel run (RepA.ints _) q3
  · cases e
theorem call_strU : CallR X (.type "str") (rU1 X.K cl W strF) := by
  intro pins s σ0 H xs us Q I r h
  obtain ⟨B, st, G, R, σ, x, dx, n, rfl, rel, hx, e, run⟩ := h
  unfold strF at e
  split at e
  · rename_i i e1
    split at e
    · rename_i hl
      cases e
      have h := dOf_ok rel hx e1
      cases h
      exact call_str_int pins s σ0 H _ us Q I r ⟨i, rfl, hl, run.done rel _ (by
        have := RepV.str (K := X.K) (G := G) (R := R) (toString i : Str).cps.toList
        rw [toS_of] at this
        exact this)⟩
    · cases e
  · cases e
variable {e : Expr} {A A' : C Opd} {k : Nat} {p1 p2 p3 pos : Pos}
theorem se_rev (he : PE X e (TO' X.K cl W A)) : PE X (.Subscript e (.Slice none none (some (.UnaryOp .USub (.Constant (.int 1) k p1) p2)) p3) pos) (TN X.K cl W (un1 revF A)) := by
  refine pe_imp (pe_revL he) fun σ H Q h => ?_
  obtain ⟨B, st, G, R, rel, run⟩ := h
  refine ⟨B, st, G, R, rel, run.bind.mono fun x st1 G1 R1 H1 _ _ _ _ ⟨rel1, _, _, run1⟩ v rv => ?_⟩
  try simp only at run1
  split at run1
  · rename_i n e
    unfold revF at e
    split at e
    · rename_i ds e1
      obtain ⟨p, xs, rfl, h1, h2⟩ := seqL_ok rel1 rv e1
      cases e
      exact ⟨p, xs, rfl, SqL.of h1, fun a ha => fin_lst rel1 run1 h2.reverse ha⟩
    · split at e
      · rename_i ns e1
        cases e
        have h := dOf_ok rel1 rv e1
        cases h with
        | scr ha => exact ⟨_, _, rfl, rel1.m.same.seq ha, fun a ha => fin_lst rel1 run1 (RepA.ints ns).reverse ha⟩
      · cases e
  · exact run1.elim
end
end VL

namespace VL
open PySem PySem.Spec PyProof.Rows L2

/-! ### defs by name -/
def DefAt (K : PySem.W.Frag) (mg : Str → Option Value) (x : Str) (sd : Stmt) (ps : List Str) : Prop := ∃ f fd, mg x = some (.ref f) ∧ Fun K x x sd f fd ∧ ∀ us : List Value, us.length = ps.length → bindArgs fd ⟨us, []⟩ = pure (ps.zip us)
def OkD (P : Program) (w : World) (K : PySem.W.Frag) (mg : Str → Option Value) (base : Heap) (cl : CL) (k : Nat) (x : Str) (ps : List Str) (F : Fn) : Prop :=
  ∃ f fd, mg x = some (.ref f) ∧ PySem.W.keepIn K (.ref f) = true ∧ Binds K fd ps [] ∧ FnOk P w K mg base (L2.CX P w) k f fd ps (spU K cl ps.length F)
section
variable {P : Program} {w : World} {K : PySem.W.Frag} {mg : Str → Option Value} {base : Heap} {cl : CL} {x : Str} {sd : Stmt} {ps N : List Str} {k : Nat} {F : Fn}
theorem ok_def {body : Stm} (h : DefAt K mg x sd ps) (S : FnScope N ps (defScope sd)) (hl : ps.length ≤ N.length)
    (hb : ∀ (f cdv : Value) (fa : Addr) (A : Around) (outer : List Env) (s : Shared) (H : Hp) (E : XK), Room k (A.deeper (envOfC x (defScope sd) s.heap.objs.size fa cdv)) →
      PSs (cxOf (L2.CX P w) P w K mg base N x (defScope sd) fa cdv A outer s H E) (defBody sd) (TUS K cl (fun c d _ H' => E c d H') body)) : OkD P w K mg base cl (k + 1) x ps (fnC ps.length N.length body) := by
  obtain ⟨f, fd, h1, h2, h3⟩ := h
  exact ⟨f, fd, h1, h2.kp, .all h3, fun_ok h2 S hl fun cdv A outer s H E hr => hb (.none) cdv f A outer s H E hr⟩
/-- a def that nothing is asked of -/
theorem ok_none (h : DefAt K mg x sd ps) : OkD P w K mg base cl k x ps (fun _ _ => none) := by
  obtain ⟨f, fd, h1, h2, h3⟩ := h
  have no : ∀ vs H Q E, ¬ spU K cl ps.length (fun _ _ => none) vs H Q E := fun vs H Q E h => by
    obtain ⟨_, _, _, _, _, _, _, h⟩ := h
    exact h
  exact ⟨f, fd, h1, h2.kp, .all h3, fun vs H Q E h => absurd h (no vs H Q E), fun A outer s H args us vs Q E _ _ _ _ h => absurd h (no vs H Q E)⟩
theorem OkD.mono {j : Nat} (h : OkD P w K mg base cl j x ps F) (l : j ≤ k) : OkD P w K mg base cl k x ps F := by
  obtain ⟨f, fd, h1, h2, h3, h4⟩ := h
  exact ⟨f, fd, h1, h2, h3, h4.mono l⟩
end
section
variable {X : Cx} {cl : CL} {W : WX} {e : Expr} {es : List Expr} {Es : C (List D)} {k n : Nat} {x : Str} {ps : List Str} {F : Fn} {p pos : Pos}
theorem se_callD (h : OkD X.prog X.w X.K X.mg X.base cl k x ps F) (hr : Room k X.A) (hg : Gl X x) (tk : Takes X W) (ha : PA X (e :: es) (TUA X.K cl W Es)) (hdb : (x == ("__debug__" : Str)) = false := by decide)
    (he : starEach (e :: es) X.env = (false, eval e X.env) :: starEach es X.env := by rfl) (hpl : (backTo pos (starEach es X.env)).any (·.1) = false := by rfl) (hn : ps.length = n := by rfl) : PE X (.Call (.Name x p) (e :: es) [] pos) (TU X.K cl W (callE n F Es)) := by
  subst hn
  obtain ⟨f, fd, h1, h2, h3, h4⟩ := h
  exact se_call h4 hr hg h1 h2 h3 tk ha hdb he hpl
theorem se_callD0 (h : OkD X.prog X.w X.K X.mg X.base cl k x [] F) (hr : Room k X.A) (hg : Gl X x) (hdb : (x == ("__debug__" : Str)) = false := by decide) : PE X (.Call (.Name x p) [] [] pos) (TU X.K cl W (call0 F)) := by
  obtain ⟨f, fd, h1, h2, h3, h4⟩ := h
  exact se_call0 h4 hr hg h1 h2 h3 hdb
end
theorem def_mk {K : PySem.W.Frag} {h : Heap} {mg : Str → Option Value} {x : Str} {sd : Stmt} {ps : List Str} {f : Addr} {oc : Value} {od an : Option Addr} {osl : Array (Option Value)} {kV doc pm cdv ct : Value} (X : K.In h) (G : h.Ns mainGlobals mg)
    (a : PySem.W.nsIn K mainGlobals x = some (some (.ref f))) (l : K.lookup f = some ⟨oc, od, .func (PySem.W.fnOf x x (defArgs sd) (defBody sd) (defScope sd) .none kV doc pm an cdv ct), osl⟩)
    (c : PySem.W.codeIn K cdv x = true) (k : PySem.W.keepIn K (.ref f) = true)
    (b : ∀ (kV doc pm : Value) (an : Option Addr) (cdv ct : Value) (us : List Value), us.length = ps.length → bindArgs (PySem.W.fnOf x x (defArgs sd) (defBody sd) (defScope sd) .none kV doc pm an cdv ct) ⟨us, []⟩ = pure (ps.zip us)) : DefAt K mg x sd ps :=
  ⟨f, _, PySem.W.mg_of X G a, fun_mk l c k, b _ _ _ _ _ _⟩

/-! ### the end -/
theorem start_rel {K : PySem.W.Frag} {cl : CL} {H : Hp} : RelM K cl ⟨H, keepOf H [], []⟩ [] H [] H :=
  ⟨Same.refl _, Same.refl _, fun _ _ e => .inl e, Pre.refl _, fun _ h => (List.not_mem_nil h).elim, fun a o e => by
    have e : (if a ∈ ([] : List Addr) then none else H a) = some o := e
    rw [if_neg (List.not_mem_nil)] at e; exact e, rfl, List.nodup_nil, fun n o a h => by simp at h⟩
/-- what is left of a law: its computation's end at each script -/
def LawOk (F : Fn) : Prop := ∀ ns : List Int, ns.length ≤ 63 → ∃ M', F [.scr ns] [] = some (.ok (.bl true), M')
theorem law_sp {F : Fn} {K : PySem.W.Frag} {cl : CL} (L : LawOk F) {H : Hp} {a : Addr} {ns : List Int} (h1 : ns.length ≤ 63) (h3 : SqL K H a (ns.map V.int)) : spU K cl 1 F [.ref a] H (fun v _ => v = .bl true) fun _ _ _ => False := by
  obtain ⟨M', e⟩ := L ns h1
  refine ⟨H, [], [], [.scr ns], rfl, start_rel, .cons (.scr h3) .nil, ?_⟩
  rw [e]
  exact fun v G' R' H' _ _ _ r => by cases r; rfl
theorem cx_end {P : Program} {w : World} {H : Hp} {s : Shared} {e : Value} {s' : Shared} (h : L2.CX P w [] H s (fun _ _ _ => False) e s') : False := by
  obtain ⟨_, _, _, _, _, _, _, _, _, _, _, _, z⟩ := h
  exact z
theorem walk {l : PySem.W.OpenLaw} {q : Program} {loose : List Str} {XP : (Str → Option Value) → Heap → Prop} {YP : World → Heap → Prop} {d : DefRec} {K : Params → PySem.W.Frag} {k : Nat} {F : Fn} {cl : World → CL} {sd : Stmt} (L : LawOk F) (hn : l.most = some 63) (hdf : d.params.defaults = []) (hr : Room k callerA)
    (hY : ∀ (w : World) (h : Heap), YP w h → (K w.params).In h) (hd : d.name = ("law" : Str))
    (G : ∀ (w : World) (mg : Str → Option Value) (h : Heap), (K w.params).In h → h.Ns mainGlobals mg → DefAt (K w.params) mg "law" sd ["script"] ∧ ∀ (base : Heap) (f : Addr) (fd : FuncData), Fun (K w.params) "law" "law" sd f fd → FnOk l.prog w (K w.params) mg base (L2.CX l.prog w) k f fd ["script"] (spU (K w.params) (cl w) 1 F)) :
    PySem.W.WalkO q loose XP YP l.row.toRowW d [] (fun f vs => PySem.call f vs) :=
  L2.walk_of (n := 63) (k := k) (x := "script") (CX := fun w => L2.CX l.prog w) (sp := fun w => spU (K w.params) (cl w) 1 F) hn (by decide) hdf hr hY
    (fun w mg fa h X N hm => by
      rw [hd] at hm
      obtain ⟨⟨f, fd, h1, h2, h3⟩, g⟩ := G w mg h X N
      rw [hm] at h1
      cases h1
      exact ⟨fd, fun s u => .of_eq (h3 [u] rfl), fun base _ _ => g base fa fd h2⟩)
    (fun w H a ns h1 _ h3 => law_sp L h1 h3) fun w H s e s' h => cx_end h
end VL

/-! the computations' steps, for simp -/
namespace VL
open PySem PySem.Spec PyProof.Rows L2
section
variable {α β : Type} {st : Ms}
@[simp] theorem e_pure (a : α) : pureC a st = some (.ok a, st) := (rfl)
@[simp] theorem e_fail : (failC : C α) st = none := (rfl)
@[simp] theorem e_raise (x : List Nat) : (raiseC x : C α) st = some (.ex x, st) := (rfl)
@[simp] theorem e_bnd (a : C α) (k : α → C β) : bndC a k st = (match a st with
  | some (.ok x, st1) => k x st1
  | some (.ex e, st1) => some (.ex e, st1)
  | none => none) := (rfl)
@[simp] theorem e_opt (o : Option α) : optC o st = (match o with
  | some a => some (.ok a, st)
  | none => none) := (rfl)
@[simp] theorem e_raw (i : Nat) : rawV i st = (match st.env[i]? with
  | some (.v d) => some (.ok (.d d), st)
  | some (.own _) => some (.ok (.cell i), st)
  | _ => none) := (rfl)
@[simp] theorem e_frzd (d : D) : frzO (.d d) st = some (.ok d, st) := (rfl)
@[simp] theorem e_frzc (i : Nat) : frzO (.cell i) st = (match st.env[i]? with
    | some (.own o) => match o.asD with
      | some d => some (.ok d, { st with env := st.env.set i (.v d) })
      | none => none
    | some (.v d) => some (.ok d, st)
    | _ => none) := (rfl)
@[simp] theorem e_valO (A : C Opd) : valO A st = bndC A frzO st := (rfl)
@[simp] theorem e_varV (i : Nat) : varV i st = (match st.env[i]? with
  | some (.v d) => some (.ok d, st)
  | some (.own o) => match o.asD with
      | some d => some (.ok d, { st with env := st.env.set i (.v d) })
      | none => none
  | _ => none) := by
  show bndC (rawV i) frzO st = _
  rw [e_bnd, e_raw]
  cases h : st.env[i]? with
  | none => rfl
  | some c =>
    cases c with
    | un => rfl
    | v d => rfl
    | own o => simp only [e_frzc, h]
@[simp] theorem e_opd (A : C D) : opdC A st = bndC A (fun d => pureC (.d d)) st := (rfl)
@[simp] theorem e_nv (A : C D) : nvC A st = bndC A (fun d => pureC (.d d)) st := (rfl)
@[simp] theorem e_frzN_d (d : D) : frzN (.d d) st = some (.ok d, st) := (rfl)
@[simp] theorem e_frzN_l (ds : List D) : frzN (.nw (.lst ds)) st = some (.ok (.lst ds), st) := (rfl)
@[simp] theorem e_frzN_k (ks vs : List D) : frzN (.nw (.dic ks vs)) st = some (.ok (.dic ks vs), st) := (rfl)
@[simp] theorem e_valN (A : C Nv) : valN A st = bndC A frzN st := (rfl)
@[simp] theorem e_shrN (A : C Nv) : shrN A st = bndC A (fun n => match n with
  | .d d => pureC d
  | .nw o => fun st => some (.ok (.ob st.M.length), { st with M := st.M ++ [o] })) st := (rfl)
@[simp] theorem e_asDl (ds : List D) : (MO.lst ds).asD = some (.lst ds) := (rfl)
@[simp] theorem e_asDk (ks vs : List D) : (MO.dic ks vs).asD = some (.dic ks vs) := (rfl)
@[simp] theorem e_bin2 (f : Opd → Opd → C Nv) (A B : C Opd) : bin2 f A B st = bndC A (fun x => bndC B fun y => f x y) st := (rfl)
@[simp] theorem e_num (f : Int → Int → Option Int) (A B : C D) : numC f A B st = bndC A (fun x => bndC B fun y => optC (match x, y with | .int i, .int j => (f i j).map .int | _, _ => none)) st := (rfl)
@[simp] theorem e_neg (A : C D) : negC A st = bndC A (fun d => optC (match d with | .int i => some (.int (-i)) | _ => none)) st := (rfl)
@[simp] theorem e_sub (i j : Int) : subF i j = some (i - j) := (rfl)
@[simp] theorem e_and (i j : Int) : andF i j = some (Builtin.bitAnd i j) := (rfl)
@[simp] theorem e_or (i j : Int) : orF i j = some (Builtin.bitOr i j) := (rfl)
@[simp] theorem e_dOfd (d : D) : dOf st (.d d) = some d := (rfl)
@[simp] theorem e_dOfc (i : Nat) : dOf st (.cell i) = (match st.env[i]? with
    | some (.v d) => some d
    | _ => none) := (rfl)
@[simp] theorem e_seqD_lst (ds : List D) : seqD st (.lst ds) = some ds := (rfl)
@[simp] theorem e_seqD_ob (n : Nat) : seqD st (.ob n) = (match st.M[n]? with
    | some (.lst ds) => some ds
    | _ => none) := (rfl)
@[simp] theorem e_seqD_int (i : Int) : seqD st (.int i) = none := (rfl)
@[simp] theorem e_seqD_str (t : List Nat) : seqD st (.str t) = none := (rfl)
@[simp] theorem e_seqD_bl (b : Bool) : seqD st (.bl b) = none := (rfl)
@[simp] theorem e_seqD_non : seqD st .non = none := (rfl)
@[simp] theorem e_seqD_tup (ds : List D) : seqD st (.tup ds) = none := (rfl)
@[simp] theorem e_seqD_scr (ns : List Int) : seqD st (.scr ns) = none := (rfl)
@[simp] theorem e_seqD_dic (ks vs : List D) : seqD st (.dic ks vs) = none := (rfl)
@[simp] theorem e_seqLd (d : D) : seqL st (.d d) = seqD st d := (rfl)
@[simp] theorem e_seqLc (i : Nat) : seqL st (.cell i) = (match st.env[i]? with
    | some (.own (.lst ds)) => some ds
    | some (.v d) => seqD st d
    | _ => none) := (rfl)
@[simp] theorem e_add (x y : Opd) : addF x y st = (match dOf st x, dOf st y with
  | some (.int i), some (.int j) => some (.ok (.d (.int (i + j))), st)
  | some (.str s), some (.str t) => if s.length + t.length ≤ LIM then some (.ok (.d (.str (s ++ t))), st) else none
  | some (.tup s), some (.tup t) => if s.length + t.length ≤ LIM then some (.ok (.d (.tup (s ++ t))), st) else none
  | _, _ => match seqL st x, seqL st y with
    | some s, some t => if s.length + t.length ≤ LIM then some (.ok (.nw (.lst (s ++ t))), st) else none
    | _, _ => none) := (rfl)
@[simp] theorem e_mul (x y : Opd) : mulF x y st = (match dOf st x, dOf st y with
  | some (.int i), some (.int j) => if i.natAbs.log2 + j.natAbs.log2 < 1000000 then some (.ok (.d (.int (i * j))), st) else none
  | some (.str s), some (.int k) => if leN (-k) 1000000 = true ∧ leN k 1000000 = true ∧ s.length * k.toNat ≤ LIM then some (.ok (.d (.str (repT s k))), st) else none
  | _, some (.int k) => match seqL st x with
    | some s => if leN (-k) 1000000 = true ∧ leN k 1000000 = true ∧ s.length * k.toNat ≤ LIM then some (.ok (.nw (.lst (List.replicate k.toNat s).flatten)), st) else none
    | _ => none
  | _, _ => none) := (rfl)
@[simp] theorem e_cmp (f : Ms → Opd → Opd → Option Bool) (A B : C Opd) : cmp2 f A B st = bndC A (fun x => bndC B fun y => fun st => match f st x y with
  | some k => some (.ok k, st)
  | none => none) st := (rfl)
@[simp] theorem e_eqF (x y : Opd) : eqF st x y = (match dOf st x, dOf st y with
  | some d, some e => match sEq d e with
    | some k => some k
    | none => deepF st x y
  | _, _ => deepF st x y) := (rfl)
@[simp] theorem e_neF (x y : Opd) : neF st x y = (eqF st x y).map (!·) := (rfl)
@[simp] theorem e_sEq_int (i j : Int) : sEq (.int i) (.int j) = some (decide (i = j)) := (rfl)
@[simp] theorem e_sEq_str (i j : List Nat) : sEq (.str i) (.str j) = some (decide (i = j)) := (rfl)
@[simp] theorem e_sEq_bl (i j : Bool) : sEq (.bl i) (.bl j) = some (decide (i = j)) := (rfl)
@[simp] theorem e_sEq_tup (a b : List D) : sEq (.tup a) (.tup b) = none := (rfl)
@[simp] theorem e_sEq_lst (a b : List D) : sEq (.lst a) (.lst b) = none := (rfl)
@[simp] theorem e_ordF (f : Int → Int → Bool) (x y : Opd) : ordF f st x y = (match dOf st x, dOf st y with
  | some (.int i), some (.int j) => some (f i j)
  | _, _ => none) := (rfl)
@[simp] theorem e_ltF (x y : Opd) : ltF st x y = ordF (fun i j => decide (i < j)) st x y := (rfl)
@[simp] theorem e_leF (x y : Opd) : leF st x y = ordF (fun i j => decide (i ≤ j)) st x y := (rfl)
@[simp] theorem e_gtF (x y : Opd) : gtF st x y = ordF (fun i j => decide (j < i)) st x y := (rfl)
@[simp] theorem e_geF (x y : Opd) : geF st x y = ordF (fun i j => decide (j ≤ i)) st x y := (rfl)
@[simp] theorem e_boolE (c : C Bool) : boolE c st = bndC c (fun b => pureC (.bl b)) st := (rfl)
@[simp] theorem e_tstE (A : C D) : tstE A st = bndC A (fun d => match d with
  | .bl b => pureC b
  | _ => failC) st := (rfl)
@[simp] theorem e_andC (a b : C Bool) : andC a b st = bndC a (fun k => match k with
  | true => b
  | false => pureC false) st := (rfl)
@[simp] theorem e_orC (a b : C Bool) : orC a b st = bndC a (fun k => match k with
  | true => pureC true
  | false => b) st := (rfl)
@[simp] theorem e_notC (a : C Bool) : notC a st = bndC a (fun b => pureC (!b)) st := (rfl)
@[simp] theorem e_andE (a b : C D) : andE a b st = bndC a (fun d => match d with
  | .bl true => b
  | .bl false => pureC (.bl false)
  | _ => failC) st := (rfl)
@[simp] theorem e_orE (a b : C D) : orE a b st = bndC a (fun d => match d with
  | .bl true => pureC (.bl true)
  | .bl false => b
  | _ => failC) st := (rfl)
@[simp] theorem e_notE (a : C D) : notE a st = bndC a (fun d => match d with
  | .bl b => pureC (.bl (!b))
  | _ => failC) st := (rfl)
@[simp] theorem e_ifE (c : C Bool) (a b : C α) : ifE c a b st = bndC c (fun k => match k with
  | true => a
  | false => b) st := (rfl)
@[simp] theorem e_nilA : nilA st = some (.ok [], st) := (rfl)
@[simp] theorem e_consA (E : C D) (Es : C (List D)) : consA E Es st = bndC E (fun d => bndC Es fun ds => pureC (d :: ds)) st := (rfl)
@[simp] theorem e_tupE (Es : C (List D)) : tupE Es st = bndC Es (fun ds => fun st => if ds.length ≤ LIM then some (.ok (.tup ds), st) else none) st := by
  show bndC Es (fun ds => if ds.length ≤ LIM then pureC (D.tup ds) else failC) st = _
  rw [e_bnd, e_bnd]
  cases Es st with
  | none => rfl
  | some p =>
    obtain ⟨r, st1⟩ := p
    cases r with
    | ex x => rfl
    | ok ds => simp only; split <;> rfl
@[simp] theorem e_lstE (Es : C (List D)) : lstE Es st = bndC Es (fun ds => fun st => if ds.length ≤ LIM then some (.ok (.nw (.lst ds)), st) else none) st := by
  show bndC Es (fun ds => if ds.length ≤ LIM then pureC (Nv.nw (.lst ds)) else failC) st = _
  rw [e_bnd, e_bnd]
  cases Es st with
  | none => rfl
  | some p =>
    obtain ⟨r, st1⟩ := p
    cases r with
    | ex x => rfl
    | ok ds => simp only; split <;> rfl
@[simp] theorem e_ixE (A : C Opd) (E : C D) : ixE A E st = bndC A (fun x => bndC E fun y => fun st => match ixF st x y with
  | some d => some (.ok d, st)
  | none => none) st := (rfl)
@[simp] theorem e_ixF (x : Opd) (i : Int) : ixF st x (.int i) = (match seqL st x with
    | some ds => atI ds i
    | none => match dOf st x with
      | some (.tup ds) => atI ds i
      | some (.str t) => if t.length ≤ LIM then (atI t i).map (fun c => .str [c]) else none
      | some (.scr ns) => (atI ns i).map .int
      | _ => none) := (rfl)
@[simp] theorem e_partN : partN st = some (.ok none, st) := (rfl)
@[simp] theorem e_partS (E : C D) : partS E st = bndC E (fun d => match d with
  | .int i => pureC (some i)
  | _ => failC) st := (rfl)
@[simp] theorem e_slE (A : C Opd) (lo hi : C (Option Int)) : slE A lo hi st = bndC A (fun x => bndC lo fun l => bndC hi fun h => fun st => match slF st x l h with
  | some n => some (.ok n, st)
  | none => none) st := (rfl)
@[simp] theorem e_slF (x : Opd) (lo hi : Option Int) : slF st x lo hi = (match seqL st x with
  | some ds => some (.nw (.lst (cutL ds lo hi)))
  | none => match dOf st x with
    | some (.tup ds) => some (.d (.tup (cutL ds lo hi)))
    | some (.str t) => if t.length ≤ LIM then some (.d (.str (cutL t lo hi))) else none
    | some (.scr ns) => some (.nw (.lst ((cutL ns lo hi).map .int)))
    | _ => none) := (rfl)
@[simp] theorem e_un1 (f : Ms → Opd → Option Nv) (A : C Opd) : un1 f A st = bndC A (fun x => fun st => match f st x with
  | some n => some (.ok n, st)
  | none => none) st := (rfl)
@[simp] theorem e_lenF (x : Opd) : lenF st x = (match seqL st x with
  | some ds => some (.d (.int ds.length))
  | none => match dOf st x with
    | some (.tup ds) => some (.d (.int ds.length))
    | some (.str t) => if t.length ≤ LIM then some (.d (.int t.length)) else none
    | some (.scr ns) => some (.d (.int ns.length))
    | _ => none) := (rfl)
@[simp] theorem e_listF (x : Opd) : listF st x = (match seqL st x with
  | some ds => some (.nw (.lst ds))
  | none => match dOf st x with
    | some (.tup ds) => some (.nw (.lst ds))
    | _ => none) := (rfl)
@[simp] theorem e_tupF (x : Opd) : tupF st x = (match seqL st x with
  | some ds => some (.d (.tup ds))
  | none => match dOf st x with
    | some (.tup ds) => some (.d (.tup ds))
    | _ => none) := (rfl)
@[simp] theorem e_absF (x : Opd) : absF st x = (match dOf st x with
  | some (.int i) => some (.d (.int (if i < 0 then -i else i)))
  | _ => none) := (rfl)
@[simp] theorem e_intF (x : Opd) : intF st x = (match dOf st x with
  | some (.int i) => some (.d (.int i))
  | some (.bl b) => some (.d (.int (if b then 1 else 0)))
  | _ => none) := (rfl)
@[simp] theorem e_isiE (ns : List TyN) (A : C Opd) : isiE ns A st = bndC A (fun x => fun st => match tyO st x with
  | some t => some (.ok (.bl (ns.any t.isa)), st)
  | none => none) st := (rfl)
@[simp] theorem e_tyO (x : Opd) : tyO st x = (match seqL st x with
  | some _ => some .list
  | none => match dOf st x with
    | some .non => some .non
    | some (.int _) => some .int
    | some (.bl _) => some .bool
    | some (.str _) => some .str
    | some (.tup _) => some .tuple
    | some (.scr _) => some .list
    | _ => match dicL st x with
      | some _ => some .dict
      | none => none) := (rfl)
@[simp] theorem e_dicLd (ks vs : List D) : dicL st (.d (.dic ks vs)) = some (ks, vs) := (rfl)
-- statements
@[simp] theorem e_skip : skipS st = some (.ok .nx, st) := (rfl)
@[simp] theorem e_seq (a b : Stm) : seqS a b st = bndC a (fun f => match f with
  | .nx => b
  | f => pureC f) st := (rfl)
@[simp] theorem e_asgV (i : Nat) (E : C D) : asgV i E st = bndC E (putV i) st := (rfl)
@[simp] theorem e_putV (i : Nat) (d : D) : putV i d st = (if i < st.env.length then some (.ok .nx, { st with env := st.env.set i (.v d) }) else none) := (rfl)
@[simp] theorem e_asgN (i : Nat) (A : C Nv) : asgN i A st = bndC A (fun n => match n with
  | .d d => putV i d
  | .nw o => fun st => if i < st.env.length then some (.ok .nx, { st with env := st.env.set i (.own o) }) else none) st := (rfl)
@[simp] theorem e_expr (E : C D) : exprS E st = bndC E (fun _ => pureC .nx) st := (rfl)
@[simp] theorem e_ret (E : C D) : retS E st = bndC E (fun d => pureC (.rt d)) st := (rfl)
@[simp] theorem e_retN : retN st = some (.ok (.rt .non), st) := (rfl)
@[simp] theorem e_ifS (c : C Bool) (a b : Stm) : ifS c a b st = bndC c (fun k => match k with
  | true => a
  | false => b) st := (rfl)
@[simp] theorem e_brk : brkS st = some (.ok .bk, st) := (rfl)
@[simp] theorem e_cnt : cntS st = some (.ok .ct, st) := (rfl)
@[simp] theorem e_never : neverS st = none := (rfl)
@[simp] theorem e_asgT (t : Tgt) (E : C D) : asgT t E st = bndC E (fun d => fun st => match setT t d st.env with
  | some env => some (.ok .nx, { st with env := env })
  | none => none) st := (rfl)
@[simp] theorem e_setT1 (i : Nat) (d : D) (env : List Cell) : setT (.one i) d env = some (env.set i (.v d)) := (rfl)
@[simp] theorem e_setTt (is : List Nat) (ds : List D) (env : List Cell) : setT (.all is) (.tup ds) env = if ds.length = is.length then some (setAll is ds env) else none := (rfl)
@[simp] theorem e_setTl (is : List Nat) (ds : List D) (env : List Cell) : setT (.all is) (.lst ds) env = if ds.length = is.length then some (setAll is ds env) else none := (rfl)
@[simp] theorem e_setA0 (env : List Cell) : setAll [] [] env = env := (rfl)
@[simp] theorem e_setA1 (i : Nat) (is : List Nat) (d : D) (ds : List D) (env : List Cell) : setAll (i :: is) (d :: ds) env = setAll is ds (env.set i (.v d)) := (rfl)
@[simp] theorem e_callE (n : Nat) (F : Fn) (Es : C (List D)) : callE n F Es st = bndC Es (fun ds => fun st => if ds.length = n then match F ds st.M with
    | some (.ok d, M') => some (.ok d, { st with M := M' })
    | some (.ex x, M') => some (.ex x, { st with M := M' })
    | none => none
  else none) st := (rfl)
@[simp] theorem e_call0 (F : Fn) : call0 F st = (match F [] st.M with
  | some (.ok d, M') => some (.ok d, { st with M := M' })
  | _ => none) := (rfl)
theorem e_fn (np ns : Nat) (body : Stm) (ds : List D) (M : List MO) : fnC np ns body ds M = (match body ⟨ds.map .v ++ List.replicate (ns - np) .un, M⟩ with
  | some (.ok (.rt d), st') => some (.ok d, st'.M)
  | some (.ok .nx, st') => some (.ok .non, st'.M)
  | some (.ex x, st') => some (.ex x, st'.M)
  | _ => none) := (rfl)
@[simp] theorem e_itD (E : C D) : itD E st = bndC E (fun d => fun st => match seqD st d with
  | some ds => some (.ok ⟨ds.length, getD' d⟩, st)
  | none => match d with
    | .tup ds => some (.ok ⟨ds.length, getD' d⟩, st)
    | .str t => some (.ok ⟨t.length, getD' d⟩, st)
    | .scr ns => some (.ok ⟨ns.length, getD' d⟩, st)
    | _ => none) st := (rfl)
end
/-! loops over data that stand still -/
/-- the loop by its items -/
def forL (t : Tgt) (body : Stm) : List D → Stm
  | [] => fun st => some (.ok .nx, st)
  | d :: ds => fun st => match setT t d st.env with
      | some env => match body { st with env := env } with
        | some (.ok .nx, st2) => forL t body ds st2
        | some (.ok .ct, st2) => forL t body ds st2
        | some (.ok .bk, st2) => some (.ok .nx, st2)
        | some (.ok (.rt d), st2) => some (.ok (.rt d), st2)
        | some (.ex x, st2) => some (.ex x, st2)
        | none => none
      | none => none
theorem forI_list {get : Ms → Nat → Option (Option D)} {t : Tgt} {body : Stm} {ds : List D} (h : ∀ st i, get st i = some ds[i]?) : ∀ (m i : Nat) (st : Ms), ds.length < m + i → i ≤ ds.length → forI get t body m i st = forL t body (ds.drop i) st
  | 0, i, st, hm, hi => by omega
  | m + 1, i, st, hm, hi => by
    unfold forI
    rw [h]
    by_cases hi : i < ds.length
    · rw [List.getElem?_eq_getElem hi, List.drop_eq_getElem_cons hi]
      simp only [forL]
      cases setT t ds[i] st.env with
      | none => rfl
      | some env =>
        simp only
        cases body { st with env := env } with
        | none => rfl
        | some p =>
          obtain ⟨r, st2⟩ := p
          cases r with
          | ex x => rfl
          | ok f =>
            cases f with
            | nx => exact forI_list h m (i + 1) st2 (by omega) (by omega)
            | ct => exact forI_list h m (i + 1) st2 (by omega) (by omega)
            | bk => rfl
            | rt d => rfl
    · rw [List.getElem?_eq_none (by omega), List.drop_eq_nil_of_le (by omega)]
      rfl
@[simp] theorem e_forS (c : C ItV) (t : Tgt) (body : Stm) (st : Ms) : forS c t body st = bndC c (fun iv => forI iv.get t body (iv.n + 1) 0) st := (rfl)
@[simp] theorem e_for_lst (ds : List D) (t : Tgt) (body : Stm) (st : Ms) (m : Nat) (hm : ds.length < m) : forI (getD' (.lst ds)) t body m 0 st = forL t body ds st := by
  rw [forI_list (get := getD' (.lst ds)) (ds := ds) (fun st i => rfl) _ _ _ (by omega) (by omega)]; rfl
@[simp] theorem e_for_tup (ds : List D) (t : Tgt) (body : Stm) (st : Ms) (m : Nat) (hm : ds.length < m) : forI (getD' (.tup ds)) t body m 0 st = forL t body ds st := by
  rw [forI_list (get := getD' (.tup ds)) (ds := ds) (fun st i => rfl) _ _ _ (by omega) (by omega)]; rfl
@[simp] theorem e_for_str (s : List Nat) (t : Tgt) (body : Stm) (st : Ms) (m : Nat) (hm : s.length < m) : forI (getD' (.str s)) t body m 0 st = forL t body (s.map fun c => .str [c]) st := by
  rw [forI_list (get := getD' (.str s)) (ds := s.map fun c => .str [c]) (fun st i => by rw [List.getElem?_map]; rfl) _ _ _ (by simp; omega) (by omega)]; rfl
@[simp] theorem e_for_scr (s : List Int) (t : Tgt) (body : Stm) (st : Ms) (m : Nat) (hm : s.length < m) : forI (getD' (.scr s)) t body m 0 st = forL t body (s.map .int) st := by
  rw [forI_list (get := getD' (.scr s)) (ds := s.map .int) (fun st i => by rw [List.getElem?_map]; rfl) _ _ _ (by simp; omega) (by omega)]; rfl
/-- range's items -/
def rngL (lo : Int) (n : Nat) : List D := (List.range n).map fun (i : Nat) => .int (lo + i)
theorem rngL_get (lo : Int) (n i : Nat) : (rngL lo n)[i]? = if i < n then some (.int (lo + i)) else none := by
  unfold rngL
  rw [List.getElem?_map]
  by_cases h : i < n
  · rw [if_pos h, List.getElem?_range h]; rfl
  · rw [if_neg h, List.getElem?_eq_none (by simpa using h)]; rfl
theorem rngL_len (lo : Int) (n : Nat) : (rngL lo n).length = n := by simp [rngL]
@[simp] theorem e_for_rng (lo : Int) (n : Nat) (t : Tgt) (body : Stm) (st : Ms) (m : Nat) (hm : n < m) : forI (getR lo n) t body m 0 st = forL t body (rngL lo n) st := by
  rw [forI_list (get := getR lo n) (ds := rngL lo n) (fun st i => by rw [rngL_get]; rfl) _ _ _ (by rw [rngL_len]; omega) (by omega)]; rfl
@[simp] theorem e_itR1 (E : C D) (st : Ms) : itR1 E st = bndC E (fun d => fun st => match d with
  | .int n => if rngOk 0 n then some (.ok ⟨n.toNat, getR 0 n.toNat⟩, st) else none
  | _ => none) st := by
  unfold itR1
  rw [e_bnd, e_bnd]
  cases E st with
  | none => rfl
  | some p =>
    obtain ⟨r, st1⟩ := p
    cases r with
    | ex x => rfl
    | ok d =>
      cases d <;> first | rfl | (simp only; split <;> rfl)
@[simp] theorem e_itR2 (E E' : C D) (st : Ms) : itR2 E E' st = bndC E (fun d => bndC E' fun d' => fun st => match d, d' with
  | .int lo, .int hi => if rngOk lo hi then some (.ok ⟨(hi - lo).toNat, getR lo (hi - lo).toNat⟩, st) else none
  | _, _ => none) st := by
  unfold itR2
  rw [e_bnd, e_bnd]
  cases E st with
  | none => rfl
  | some p =>
    obtain ⟨r, st1⟩ := p
    cases r with
    | ex x => rfl
    | ok d =>
      simp only [e_bnd]
      cases E' st1 with
      | none => rfl
      | some p =>
        obtain ⟨r', st2⟩ := p
        cases r' with
        | ex x => rfl
        | ok d' => cases d <;> cases d' <;> first | rfl | (simp only; split <;> rfl)
/-! comprehensions -/
def lcL (t : Tgt) (vs : List Nat) (cond : C Bool) (elt : C D) : List D → List D → C (List D)
  | [], acc => fun st => some (.ok acc, st)
  | d :: ds, acc => fun st => match setT t d (wipeE st.env vs) with
      | some env => match cond { st with env := env } with
        | some (.ok true, st2) => match elt st2 with
          | some (.ok y, st3) => if acc.length < LIM then lcL t vs cond elt ds (acc ++ [y]) st3 else none
          | _ => none
        | some (.ok false, st2) => lcL t vs cond elt ds acc st2
        | _ => none
      | none => none
theorem lcI_list {get : Ms → Nat → Option (Option D)} {t : Tgt} {vs : List Nat} {cond : C Bool} {elt : C D} {ds : List D} (h : ∀ st i, get st i = some ds[i]?) : ∀ (m i : Nat) (acc : List D) (st : Ms), ds.length < m + i → i ≤ ds.length → lcI get t vs cond elt m i acc st = lcL t vs cond elt (ds.drop i) acc st
  | 0, i, acc, st, hm, hi => by omega
  | m + 1, i, acc, st, hm, hi => by
    unfold lcI
    rw [h]
    by_cases hi : i < ds.length
    · rw [List.getElem?_eq_getElem hi, List.drop_eq_getElem_cons hi]
      simp only [lcL]
      cases setT t ds[i] (wipeE st.env vs) with
      | none => rfl
      | some env =>
        simp only
        cases cond { st with env := env } with
        | none => rfl
        | some p =>
          obtain ⟨r, st2⟩ := p
          cases r with
          | ex x => rfl
          | ok f =>
            cases f with
            | false => exact lcI_list h m (i + 1) acc st2 (by omega) (by omega)
            | true =>
              simp only
              cases elt st2 with
              | none => rfl
              | some p =>
                obtain ⟨r, st3⟩ := p
                cases r with
                | ex x => rfl
                | ok y =>
                  simp only
                  rw [lcI_list h m (i + 1) (acc ++ [y]) st3 (by omega) (by omega)]
    · rw [List.getElem?_eq_none (by omega), List.drop_eq_nil_of_le (by omega)]
      rfl
@[simp] theorem e_yes (st : Ms) : yesC st = some (.ok true, st) := (rfl)
@[simp] theorem e_lcE (c : C ItV) (t : Tgt) (vs : List Nat) (cond : C Bool) (elt : C D) (st : Ms) : lcE c t vs cond elt st = bndC c (fun iv => fun st =>
  if vs.all (okV st.env) && tgtIn vs t then
    match lcI iv.get t vs cond elt (iv.n + 1) 0 [] { st with env := wipeE st.env vs } with
    | some (.ok ds, st') => if st'.env.length = st.env.length then some (.ok (.nw (.lst ds)), { st' with env := unwipe st'.env st.env vs }) else none
    | _ => none
  else none) st := (rfl)
@[simp] theorem e_lc_lst (ds : List D) (t : Tgt) (vs : List Nat) (cond : C Bool) (elt : C D) (acc : List D) (st : Ms) (m : Nat) (hm : ds.length < m) : lcI (getD' (.lst ds)) t vs cond elt m 0 acc st = lcL t vs cond elt ds acc st := by
  rw [lcI_list (get := getD' (.lst ds)) (ds := ds) (fun st i => rfl) _ _ _ _ (by omega) (by omega)]; rfl
@[simp] theorem e_lc_tup (ds : List D) (t : Tgt) (vs : List Nat) (cond : C Bool) (elt : C D) (acc : List D) (st : Ms) (m : Nat) (hm : ds.length < m) : lcI (getD' (.tup ds)) t vs cond elt m 0 acc st = lcL t vs cond elt ds acc st := by
  rw [lcI_list (get := getD' (.tup ds)) (ds := ds) (fun st i => rfl) _ _ _ _ (by omega) (by omega)]; rfl
@[simp] theorem e_lc_str (s : List Nat) (t : Tgt) (vs : List Nat) (cond : C Bool) (elt : C D) (acc : List D) (st : Ms) (m : Nat) (hm : s.length < m) : lcI (getD' (.str s)) t vs cond elt m 0 acc st = lcL t vs cond elt (s.map fun c => .str [c]) acc st := by
  rw [lcI_list (get := getD' (.str s)) (ds := s.map fun c => .str [c]) (fun st i => by rw [List.getElem?_map]; rfl) _ _ _ _ (by simp; omega) (by omega)]; rfl
@[simp] theorem e_lc_scr (s : List Int) (t : Tgt) (vs : List Nat) (cond : C Bool) (elt : C D) (acc : List D) (st : Ms) (m : Nat) (hm : s.length < m) : lcI (getD' (.scr s)) t vs cond elt m 0 acc st = lcL t vs cond elt (s.map .int) acc st := by
  rw [lcI_list (get := getD' (.scr s)) (ds := s.map .int) (fun st i => by rw [List.getElem?_map]; rfl) _ _ _ _ (by simp; omega) (by omega)]; rfl
@[simp] theorem e_lc_rng (lo : Int) (n : Nat) (t : Tgt) (vs : List Nat) (cond : C Bool) (elt : C D) (acc : List D) (st : Ms) (m : Nat) (hm : n < m) : lcI (getR lo n) t vs cond elt m 0 acc st = lcL t vs cond elt (rngL lo n) acc st := by
  rw [lcI_list (get := getR lo n) (ds := rngL lo n) (fun st i => by rw [rngL_get]; rfl) _ _ _ _ (by rw [rngL_len]; omega) (by omega)]; rfl
@[simp] theorem e_wipe0 (env : List Cell) : wipeE env [] = env := (rfl)
@[simp] theorem e_wipe1 (env : List Cell) (v : Nat) (vs : List Nat) : wipeE env (v :: vs) = (wipeE env vs).set v .un := (rfl)
@[simp] theorem e_unwipe0 (env old : List Cell) : unwipe env old [] = env := (rfl)
@[simp] theorem e_unwipe1 (env old : List Cell) (v : Nat) (vs : List Nat) : unwipe env old (v :: vs) = (unwipe env old vs).set v (old.getD v .un) := (rfl)
@[simp] theorem e_tgt1 (vs : List Nat) (i : Nat) : tgtIn vs (.one i) = vs.contains i := (rfl)
@[simp] theorem e_tgta (vs is : List Nat) : tgtIn vs (.all is) = is.all fun i => vs.contains i := (rfl)
theorem atI_nn {α : Type} {ds : List α} {i : Int} (h : 0 ≤ i) : atI ds i = ds[i.toNat]? := by
  unfold atI ixN
  rw [if_pos h]
  by_cases h1 : i < ds.length
  · rw [if_pos h1]; rfl
  · rw [if_neg h1, List.getElem?_eq_none (by omega)]; rfl
@[simp] theorem atI_lit {α : Type} (ds : List α) (n : Nat) : atI ds (OfNat.ofNat n : Int) = ds[n]? := by
  rw [atI_nn (by exact Int.natCast_nonneg n)]; rfl
@[simp] theorem atI_0 {α : Type} (ds : List α) : atI ds 0 = ds[0]? := atI_nn (by decide)
@[simp] theorem atI_1 {α : Type} (ds : List α) : atI ds 1 = ds[1]? := atI_nn (by decide)
@[simp] theorem atI_nat {α : Type} (ds : List α) (n : Nat) : atI ds (n : Int) = ds[n]? := atI_nn (by omega)
theorem atI_neg {α : Type} {ds : List α} {i : Int} (h : i < 0) (h2 : -(ds.length : Int) ≤ i) : atI ds i = ds[(i + ds.length).toNat]? := by
  unfold atI ixN
  rw [if_neg (by omega), if_pos h2]; rfl
@[simp] theorem leN_iff' (k : Int) (n : Nat) : (leN k n = true) = (k ≤ (n : Int)) := propext (leN_iff k n)
end VL

/-! rules for loops and comprehensions over data -/
namespace VL
open PySem PySem.Spec PyProof.Rows L2
/-- a loop that runs through, or gives back -/
theorem forL_inv {t : Tgt} {body : Stm} {ds : List D} {st : Ms} (I : Nat → Ms → Prop) (Z : Fl → Ms → Prop) (h0 : I 0 st)
    (hs : ∀ (i : Nat) (d : D) (s : Ms), ds[i]? = some d → I i s → ∃ env, setT t d s.env = some env ∧ ∃ f s', body ⟨env, s.M⟩ = some (.ok f, s') ∧ (match f with
      | .nx => I (i + 1) s'
      | .ct => I (i + 1) s'
      | .bk => Z .nx s'
      | .rt r => Z (.rt r) s'))
    (hz : ∀ s, I ds.length s → Z .nx s) : ∃ f s', forL t body ds st = some (.ok f, s') ∧ Z f s' := by
  induction ds generalizing st I with
  | nil => exact ⟨.nx, st, rfl, hz st h0⟩
  | cons d r ih =>
    obtain ⟨env, e1, f, s', e2, q⟩ := hs 0 d st rfl h0
    have go : I 1 s' → ∃ f s2, forL t body r s' = some (.ok f, s2) ∧ Z f s2 := fun h1 =>
      ih (fun i s => I (i + 1) s) h1 (fun i d' s hd hi => hs (i + 1) d' s (by simpa using hd) hi) (fun s h => hz s (by simpa using h))
    cases f with
    | nx =>
      obtain ⟨f, s2, e3, z⟩ := go q
      refine ⟨f, s2, ?_, z⟩
      unfold forL
      simp only [e1, e2, e3]
    | ct =>
      obtain ⟨f, s2, e3, z⟩ := go q
      refine ⟨f, s2, ?_, z⟩
      unfold forL
      simp only [e1, e2, e3]
    | bk =>
      refine ⟨.nx, s', ?_, q⟩
      unfold forL
      simp only [e1, e2]
    | rt d =>
      refine ⟨.rt d, s', ?_, q⟩
      unfold forL
      simp only [e1, e2]
/-- a loop that runs through -/
theorem forL_thru {t : Tgt} {body : Stm} {ds : List D} {st : Ms} (I : Nat → Ms → Prop) (h0 : I 0 st)
    (hs : ∀ (i : Nat) (d : D) (s : Ms), ds[i]? = some d → I i s → ∃ env, setT t d s.env = some env ∧ ∃ s', body ⟨env, s.M⟩ = some (.ok .nx, s') ∧ I (i + 1) s') : ∃ s', forL t body ds st = some (.ok .nx, s') ∧ I ds.length s' := by
  obtain ⟨f, s', e, z⟩ := forL_inv (Z := fun f s => f = .nx ∧ I ds.length s) I h0 (fun i d s hd hi => by
    obtain ⟨env, e1, s', e2, q⟩ := hs i d s hd hi
    exact ⟨env, e1, .nx, s', e2, q⟩) (fun s h => ⟨rfl, h⟩)
  obtain ⟨rfl, z⟩ := z
  exact ⟨s', e, z⟩
/-- one step of it -/
theorem forL_cons {t : Tgt} {body : Stm} {d : D} {ds : List D} {st s' : Ms} {env : List Cell} (h1 : setT t d st.env = some env) (h2 : body ⟨env, st.M⟩ = some (.ok .nx, s')) : forL t body (d :: ds) st = forL t body ds s' := by
  show (match setT t d st.env with
      | some env => _
      | none => none) = _
  rw [h1]
  show (match body ⟨env, st.M⟩ with
        | some (.ok .nx, st2) => forL t body ds st2
        | some (.ok .ct, st2) => forL t body ds st2
        | some (.ok .bk, st2) => some (.ok .nx, st2)
        | some (.ok (.rt d), st2) => some (.ok (.rt d), st2)
        | some (.ex x, st2) => some (.ex x, st2)
        | none => none) = _
  rw [h2]
theorem forL_nil {t : Tgt} {body : Stm} {st : Ms} : forL t body [] st = some (.ok .nx, st) := rfl
theorem lcL_pure {t : Tgt} {vs : List Nat} {cond : C Bool} {elt : C D} (p : D → Bool) (f : D → D) {e0 : List Cell} {M : List MO} : ∀ {ds : List D} {acc : List D} {env : List Cell}, wipeE env vs = e0 →
    (∀ d ∈ ds, ∃ env1, setT t d e0 = some env1 ∧ wipeE env1 vs = e0 ∧ cond ⟨env1, M⟩ = some (.ok (p d), ⟨env1, M⟩) ∧ (p d = true → elt ⟨env1, M⟩ = some (.ok (f d), ⟨env1, M⟩))) → acc.length + ds.length ≤ LIM →
    ∃ env', lcL t vs cond elt ds acc ⟨env, M⟩ = some (.ok (acc ++ (ds.filter p).map f), ⟨env', M⟩) ∧ wipeE env' vs = e0
  | [], acc, env, hw, h, hl => ⟨env, by simp [lcL], hw⟩
  | d :: ds, acc, env, hw, h, hl => by
    obtain ⟨env1, h1, h2, h3, h4⟩ := h d (List.mem_cons_self ..)
    have hr : ∀ d ∈ ds, _ := fun d' hd => h d' (List.mem_cons_of_mem _ hd)
    rw [List.length_cons] at hl
    cases hp : p d with
    | true =>
      obtain ⟨env', q1, q2⟩ := lcL_pure p f (M := M) (acc := acc ++ [f d]) (env := env1) h2 hr (by rw [List.length_append, List.length_singleton]; omega)
      refine ⟨env', ?_, q2⟩
      unfold lcL
      rw [hp] at h3
      simp only [hw, h1, h3, h4 hp]
      rw [if_pos (by omega), q1, List.filter_cons, if_pos hp]
      simp
    | false =>
      obtain ⟨env', q1, q2⟩ := lcL_pure p f (M := M) (acc := acc) (env := env1) h2 hr (by omega)
      refine ⟨env', ?_, q2⟩
      unfold lcL
      rw [hp] at h3
      simp only [hw, h1, h3]
      rw [q1, List.filter_cons, if_neg (by simp [hp])]
theorem unwipe_back {env old : List Cell} : ∀ {vs : List Nat}, (∀ i ∈ vs, i < old.length) → wipeE env vs = wipeE old vs → unwipe env old vs = old := by
  intro vs hv h
  have hl : env.length = old.length := by
    have := congrArg List.length h
    rw [wipe_len, wipe_len] at this
    exact this
  apply List.ext_getElem?
  intro i
  by_cases hi : i ∈ vs
  · rw [unwipe_hit hi (by rw [hl]; exact hv i hi), List.getD_eq_getElem?_getD, List.getElem?_eq_getElem (hv i hi)]
    rfl
  · rw [unwipe_get hi]
    have := congrArg (fun l => l[i]?) h
    have this : (wipeE env vs)[i]? = (wipeE old vs)[i]? := this
    rw [wipe_get hi, wipe_get hi] at this
    exact this
/-- a comprehension that changes nothing -/
theorem lc_pure {c : C ItV} {iv : ItV} {t : Tgt} {vs : List Nat} {cond : C Bool} {elt : C D} {st : Ms} (ds : List D) (p : D → Bool) (f : D → D) (hc : c st = some (.ok iv, st))
    (hi : ∀ acc s, lcI iv.get t vs cond elt (iv.n + 1) 0 acc s = lcL t vs cond elt ds acc s) (hv : (vs.all (okV st.env) && tgtIn vs t) = true) (lt : ∀ i ∈ vs, i < st.env.length) (hl : ds.length ≤ LIM)
    (h : ∀ d ∈ ds, ∃ env1, setT t d (wipeE st.env vs) = some env1 ∧ wipeE env1 vs = wipeE st.env vs ∧ cond ⟨env1, st.M⟩ = some (.ok (p d), ⟨env1, st.M⟩) ∧ (p d = true → elt ⟨env1, st.M⟩ = some (.ok (f d), ⟨env1, st.M⟩))) :
    lcE c t vs cond elt st = some (.ok (.nw (.lst ((ds.filter p).map f))), st) := by
  have ww : wipeE (wipeE st.env vs) vs = wipeE st.env vs := by
    apply List.ext_getElem?
    intro i
    by_cases hi : i ∈ vs
    · rw [wipe_hit hi (by rw [wipe_len]; exact lt i hi), wipe_hit hi (lt i hi)]
    · rw [wipe_get hi]
  obtain ⟨env', q1, q2⟩ := lcL_pure (acc := []) (M := st.M) p f ww h (by simpa using hl)
  have hlen : env'.length = st.env.length := by
    have := congrArg List.length q2
    rw [wipe_len, wipe_len] at this
    exact this
  rw [e_lcE, e_bnd, hc]
  simp only
  rw [if_pos hv, hi, q1]
  simp only
  rw [if_pos hlen, unwipe_back lt q2]
  simp
end VL

namespace Lw
open PySem PySem.Spec PyProof.Rows L2 VL
def top (i : Nat) : Stmt := PySem.Challenge.pw_knownholds_k01_heads.main.body.getD i (.Pass ⟨0, 0, 0, 0⟩)
abbrev s_head : Stmt := top 1
abbrev N_head : List Str := ["h", "m"]
theorem sc_head : FnScope N_head ["h", "m"] (defScope s_head) := ⟨rfl, rfl, rfl, by decide +kernel, rfl, by decide +kernel, by decide +kernel⟩
abbrev s_head_parts : Stmt := top 2
abbrev N_head_parts : List Str := ["word"]
theorem sc_head_parts : FnScope N_head_parts ["word"] (defScope s_head_parts) := ⟨rfl, rfl, rfl, by decide +kernel, rfl, by decide +kernel, by decide +kernel⟩
abbrev s_law_whole : Stmt := top 4
abbrev N_law_whole : List Str := ["found"]
theorem sc_law_whole : FnScope N_law_whole ["found"] (defScope s_law_whole) := ⟨rfl, rfl, rfl, by decide +kernel, rfl, by decide +kernel, by decide +kernel⟩
abbrev s_law_one : Stmt := top 5
abbrev N_law_one : List Str := ["h", "m", "found", "back"]
theorem sc_law_one : FnScope N_law_one ["h", "m"] (defScope s_law_one) := ⟨rfl, rfl, rfl, by decide +kernel, rfl, by decide +kernel, by decide +kernel⟩
abbrev s_law : Stmt := top 6
abbrev N_law : List Str := ["script", "before", "cell", "h", "m"]
theorem sc_law : FnScope N_law ["script"] (defScope s_law) := ⟨rfl, rfl, rfl, by decide +kernel, rfl, by decide +kernel, by decide +kernel⟩
def B_head : Stm := retS (numC orF (numC shlF (varV 0) (pureC (.int 4))) (varV 1))
def F_head : Fn := fnC 2 2 B_head
def B_head_parts : Stm := retS (tupE (consA (numC shrF (varV 0) (pureC (.int 4))) (consA (numC andF (varV 0) (pureC (.int 15))) nilA)))
def F_head_parts : Fn := fnC 1 1 B_head_parts
def B_law_whole : Stm := retS (andE (isiE [.int] (rawV 0)) (notE (isiE [.bool] (rawV 0))))
def F_law_whole : Fn := fnC 1 1 B_law_whole
def B_law_one : Stm := seqS (asgV 2 (callE 2 F_head (consA (varV 0) (consA (varV 1) nilA))))
  (seqS (ifS (orC (notC (tstE (callE 1 F_law_whole (consA (varV 2) nilA)))) (cmp2 neF (rawV 2) (opdC (valN (bin2 addF (opdC (valN (bin2 mulF (opdC (pureC (.int 16))) (rawV 0)))) (rawV 1)))))) (retS (pureC (.bl false))) skipS)
  (seqS (asgV 3 (callE 1 F_head_parts (consA (valN (bin2 addF (opdC (valN (bin2 mulF (opdC (pureC (.int 16))) (rawV 0)))) (rawV 1))) nilA)))
  (seqS (ifS (orC (notC (tstE (isiE [.tuple] (rawV 3)))) (cmp2 neF (opdC (valN (un1 lenF (rawV 3)))) (opdC (pureC (.int 2))))) (retS (pureC (.bl false))) skipS)
  (retS (andE (callE 1 F_law_whole (consA (ixE (rawV 3) (pureC (.int 0))) nilA)) (andE (callE 1 F_law_whole (consA (ixE (rawV 3) (pureC (.int 1))) nilA)) (boolE (cmp2 eqF (rawV 3) (opdC (tupE (consA (varV 0) (consA (varV 1) nilA))))))))))))
def F_law_one : Fn := fnC 2 4 B_law_one
def B_law : Stm := seqS (asgV 1 (tupE (consA (pureC (.int 0)) (consA (pureC (.int 0)) nilA))))
  (seqS (forS (itD (valN (bin2 addF (opdC (valN (slE (rawV 0) partN (partS (pureC (.int 63)))))) (opdC (valN (lstE (consA (pureC (.int 0)) nilA))))))) (.one 2) (seqS (asgV 3 (numC modF (varV 2) (pureC (.int 10))))
  (seqS (asgV 4 (numC modF (numC divF (varV 2) (pureC (.int 10))) (pureC (.int 10))))
  (seqS (ifS (notC (tstE (callE 2 F_law_one (consA (varV 3) (consA (varV 4) nilA))))) (retS (pureC (.bl false))) skipS)
  (seqS (ifS (cmp2 neF (opdC (boolE (cmp2 eqF (opdC (callE 2 F_head (consA (varV 3) (consA (varV 4) nilA)))) (opdC (callE 2 F_head (consA (ixE (rawV 1) (pureC (.int 0))) (consA (ixE (rawV 1) (pureC (.int 1))) nilA))))))) (opdC (boolE (cmp2 eqF (rawV 1) (opdC (tupE (consA (varV 3) (consA (varV 4) nilA)))))))) (retS (pureC (.bl false))) skipS)
  (asgV 1 (tupE (consA (varV 3) (consA (varV 4) nilA)))))))))
  (retS (pureC (.bl true))))
def F_law : Fn := fnC 1 5 B_law
section
variable {P : Program} {w : World} {K : PySem.W.Frag} {mg : Str → Option Value} {base : Heap} {cl : CL}
theorem body_head  (cdv : Value) (fa : Addr) (A : Around) (outer : List Env) (s : Shared) (H : Hp) (E : XK) (hr : Room 0 (A.deeper (envOfC "head" (defScope s_head) s.heap.objs.size fa cdv))) :
    PSs (cxOf (L2.CX P w) P w K mg base N_head "head" (defScope s_head) fa cdv A outer s H E) (defBody s_head) (TUS K cl (fun c d _ H' => E c d H') (B_head)) := by
  unfold B_head
  exact (ss_one (ss_ret (se_or' (se_shl (se_var 0) se_int) (se_var 1))))
theorem ok_head (hd : DefAt K mg "head" s_head ["h", "m"])  : OkD P w K mg base cl 1 "head" ["h", "m"] F_head :=
  ok_def hd sc_head (by decide) fun _ cdv fa A outer s H E hr => body_head  cdv fa A outer s H E hr
theorem body_head_parts  (cdv : Value) (fa : Addr) (A : Around) (outer : List Env) (s : Shared) (H : Hp) (E : XK) (hr : Room 0 (A.deeper (envOfC "head_parts" (defScope s_head_parts) s.heap.objs.size fa cdv))) :
    PSs (cxOf (L2.CX P w) P w K mg base N_head_parts "head_parts" (defScope s_head_parts) fa cdv A outer s H E) (defBody s_head_parts) (TUS K cl (fun c d _ H' => E c d H') (B_head_parts)) := by
  unfold B_head_parts
  exact (ss_one (ss_ret (se_tup (sa_cons (se_shr (se_var 0) se_int) (sa_cons (se_and' (se_var 0) se_int) sa_nil)))))
theorem ok_head_parts (hd : DefAt K mg "head_parts" s_head_parts ["word"])  : OkD P w K mg base cl 1 "head_parts" ["word"] F_head_parts :=
  ok_def hd sc_head_parts (by decide) fun _ cdv fa A outer s H E hr => body_head_parts  cdv fa A outer s H E hr
theorem body_law_whole (m_isinstance : mg "isinstance" = none) (m_int : mg "int" = none) (m_bool : mg "bool" = none) (cdv : Value) (fa : Addr) (A : Around) (outer : List Env) (s : Shared) (H : Hp) (E : XK) (hr : Room 0 (A.deeper (envOfC "_law_whole" (defScope s_law_whole) s.heap.objs.size fa cdv))) :
    PSs (cxOf (L2.CX P w) P w K mg base N_law_whole "_law_whole" (defScope s_law_whole) fa cdv A outer s H E) (defBody s_law_whole) (TUS K cl (fun c d _ H' => E c d H') (B_law_whole)) := by
  unfold B_law_whole
  exact (ss_one (ss_ret (se_and (se_isi (n := .int) m_isinstance m_int boot_int1 (by rfl) (by rfl) (se_raw 0)) (se_one (se_not (se_isi (n := .bool) m_isinstance m_bool boot_bool1 (by rfl) (by rfl) (se_raw 0)))))))
theorem ok_law_whole (hd : DefAt K mg "_law_whole" s_law_whole ["found"]) (m_isinstance : mg "isinstance" = none) (m_int : mg "int" = none) (m_bool : mg "bool" = none) : OkD P w K mg base cl 1 "_law_whole" ["found"] F_law_whole :=
  ok_def hd sc_law_whole (by decide) fun _ cdv fa A outer s H E hr => body_law_whole m_isinstance m_int m_bool cdv fa A outer s H E hr
theorem body_law_one (h_head : OkD P w K mg base cl 1 "head" ["h", "m"] (F_head)) (h_law_whole : OkD P w K mg base cl 1 "_law_whole" ["found"] (F_law_whole)) (h_head_parts : OkD P w K mg base cl 1 "head_parts" ["word"] (F_head_parts)) (m_isinstance : mg "isinstance" = none) (m_tuple : mg "tuple" = none) (m_len : mg "len" = none) (cdv : Value) (fa : Addr) (A : Around) (outer : List Env) (s : Shared) (H : Hp) (E : XK) (hr : Room 1 (A.deeper (envOfC "_law_one" (defScope s_law_one) s.heap.objs.size fa cdv))) :
    PSs (cxOf (L2.CX P w) P w K mg base N_law_one "_law_one" (defScope s_law_one) fa cdv A outer s H E) (defBody s_law_one) (TUS K cl (fun c d _ H' => E c d H') (B_law_one)) := by
  unfold B_law_one
  exact (ss_cons (ss_set (i := 2) sc_law_one.nd rfl (by first | exact .inl rfl | exact .inr rfl) (se_callD h_head (hr.mono (by omega)) (by rfl) (takes_of rfl rfl rfl rfl) (sa_cons (se_var 0) (sa_cons (se_var 1) sa_nil))))
  (ss_cons (ss_if (PW.pt (sw_or (st_not (st_val (se_callD h_law_whole (hr.mono (by omega)) (by rfl) (takes_of rfl rfl rfl rfl) (sa_cons (se_var 2) sa_nil)))) (sw_or1 (st_cmp (op_neU hr.units) (se_raw 2) (to_opd (of_nv (se_add (to_opd (of_nv (se_mul (to_opd se_int) (se_raw 0)))) (se_raw 1)))) (nomark _))))) (ss_one (ss_ret se_bl)) ss_nil)
  (ss_cons (ss_set (i := 3) sc_law_one.nd rfl (by first | exact .inl rfl | exact .inr rfl) (se_callD h_head_parts (hr.mono (by omega)) (by rfl) (takes_of rfl rfl rfl rfl) (sa_cons (of_nv (se_add (to_opd (of_nv (se_mul (to_opd se_int) (se_raw 0)))) (se_raw 1))) sa_nil)))
  (ss_cons (ss_if (PW.pt (sw_or (st_not (st_val (se_isi (n := .tuple) m_isinstance m_tuple boot_tuple1 (by rfl) (by rfl) (se_raw 3)))) (sw_or1 (st_cmp (op_neU hr.units) (to_opd (of_nv (se_bi call_lenU (by rfl) m_len boot_len1 (se_raw 3)))) (to_opd se_int) (nomark _))))) (ss_one (ss_ret se_bl)) ss_nil)
  (ss_one (ss_ret (se_and (se_callD h_law_whole (hr.mono (by omega)) (by rfl) (takes_of rfl rfl rfl rfl) (sa_cons (se_ix (se_raw 3) se_int) sa_nil)) (se_and (se_callD h_law_whole (hr.mono (by omega)) (by rfl) (takes_of rfl rfl rfl rfl) (sa_cons (se_ix (se_raw 3) se_int) sa_nil)) (se_one (se_cmp (op_eqU hr.units) (se_raw 3) (to_opd (se_tup (sa_cons (se_var 0) (sa_cons (se_var 1) sa_nil)))) (nomark _)))))))))))
theorem ok_law_one (hd : DefAt K mg "_law_one" s_law_one ["h", "m"]) (h_head : OkD P w K mg base cl 1 "head" ["h", "m"] (F_head)) (h_law_whole : OkD P w K mg base cl 1 "_law_whole" ["found"] (F_law_whole)) (h_head_parts : OkD P w K mg base cl 1 "head_parts" ["word"] (F_head_parts)) (m_isinstance : mg "isinstance" = none) (m_tuple : mg "tuple" = none) (m_len : mg "len" = none) : OkD P w K mg base cl 2 "_law_one" ["h", "m"] F_law_one :=
  ok_def hd sc_law_one (by decide) fun _ cdv fa A outer s H E hr => body_law_one h_head h_law_whole h_head_parts m_isinstance m_tuple m_len cdv fa A outer s H E hr
theorem body_law (h_law_one : OkD P w K mg base cl 2 "_law_one" ["h", "m"] (F_law_one)) (h_head : OkD P w K mg base cl 1 "head" ["h", "m"] (F_head)) (cdv : Value) (fa : Addr) (A : Around) (outer : List Env) (s : Shared) (H : Hp) (E : XK) (hr : Room 2 (A.deeper (envOfC "law" (defScope s_law) s.heap.objs.size fa cdv))) :
    PSs (cxOf (L2.CX P w) P w K mg base N_law "law" (defScope s_law) fa cdv A outer s H E) (defBody s_law) (TUS K cl (fun c d _ H' => E c d H') (B_law)) := by
  unfold B_law
  exact (ss_cons (ss_set (i := 1) sc_law.nd rfl (by first | exact .inl rfl | exact .inr rfl) (se_tup (sa_cons se_int (sa_cons se_int sa_nil))))
  (ss_cons (ss_for (passes_of rfl) rfl (si_d (of_nv (se_add (to_opd (of_nv (se_sl (se_raw 0) so_none (so_some se_int)))) (to_opd (of_nv (se_lst (sa_cons se_int sa_nil))))))) (sg_one (i := 2) sc_law.nd rfl (by first | exact .inl rfl | exact .inr rfl)) (ss_cons (ss_set (i := 3) sc_law.nd rfl (by first | exact .inl rfl | exact .inr rfl) (se_mod (se_var 2) se_int))
  (ss_cons (ss_set (i := 4) sc_law.nd rfl (by first | exact .inl rfl | exact .inr rfl) (se_mod (se_div (se_var 2) se_int) se_int))
  (ss_cons (ss_if (st_not (st_val (se_callD h_law_one (hr.mono (by omega)) (by rfl) (takes_of rfl rfl rfl rfl) (sa_cons (se_var 3) (sa_cons (se_var 4) sa_nil))))) (ss_one (ss_ret se_bl)) ss_nil)
  (ss_cons (ss_if (st_cmp (op_neU hr.units) (to_opd (se_cmp (op_eqU hr.units) (to_opd (se_callD h_head (hr.mono (by omega)) (by rfl) (takes_of rfl rfl rfl rfl) (sa_cons (se_var 3) (sa_cons (se_var 4) sa_nil)))) (to_opd (se_callD h_head (hr.mono (by omega)) (by rfl) (takes_of rfl rfl rfl rfl) (sa_cons (se_ix (se_raw 1) se_int) (sa_cons (se_ix (se_raw 1) se_int) sa_nil)))) (nomark _))) (to_opd (se_cmp (op_eqU hr.units) (se_raw 1) (to_opd (se_tup (sa_cons (se_var 3) (sa_cons (se_var 4) sa_nil)))) (nomark _))) (nomark _)) (ss_one (ss_ret se_bl)) ss_nil)
  (ss_one (ss_set (i := 1) sc_law.nd rfl (by first | exact .inl rfl | exact .inr rfl) (se_tup (sa_cons (se_var 3) (sa_cons (se_var 4) sa_nil))))))))))
  (ss_one (ss_ret se_bl))))
theorem ok_law (h_law_one : OkD P w K mg base cl 2 "_law_one" ["h", "m"] (F_law_one)) (h_head : OkD P w K mg base cl 1 "head" ["h", "m"] (F_head)) {f : Addr} {fd : FuncData} (F : Fun K "law" "law" s_law f fd) : FnOk P w K mg base (L2.CX P w) 3 f fd ["script"] (spU K cl 1 F_law) :=
  fun_ok F sc_law (by decide) fun cdv A outer s H E hr => body_law h_law_one h_head cdv f A outer s H E hr
end
theorem all_mk {l : PySem.W.OpenLaw} {w : World} {K : PySem.W.Frag} {h : Heap} {mg : Str → Option Value} {cl : CL} {f0 f1 f2 f3 f4 : Addr} (X : K.In h) (G : h.Ns mainGlobals mg)
    {od0 an0 od1 an1 od2 an2 od3 an3 od4 an4 : Option Addr} {sl0 sl1 sl2 sl3 sl4 : Array (Option Value)} {oc0 kV0 dc0 pm0 cd0 ct0 oc1 kV1 dc1 pm1 cd1 ct1 oc2 kV2 dc2 pm2 cd2 ct2 oc3 kV3 dc3 pm3 cd3 ct3 oc4 kV4 dc4 pm4 cd4 ct4 : Value}
    (a0 : PySem.W.nsIn K mainGlobals "head" = some (some (.ref f0))) (l0 : K.lookup f0 = some ⟨oc0, od0, .func (PySem.W.fnOf "head" "head" (defArgs s_head) (defBody s_head) (defScope s_head) .none kV0 dc0 pm0 an0 cd0 ct0), sl0⟩) (c0 : PySem.W.codeIn K cd0 "head" = true) (k0 : PySem.W.keepIn K (.ref f0) = true)
    (a1 : PySem.W.nsIn K mainGlobals "head_parts" = some (some (.ref f1))) (l1 : K.lookup f1 = some ⟨oc1, od1, .func (PySem.W.fnOf "head_parts" "head_parts" (defArgs s_head_parts) (defBody s_head_parts) (defScope s_head_parts) .none kV1 dc1 pm1 an1 cd1 ct1), sl1⟩) (c1 : PySem.W.codeIn K cd1 "head_parts" = true) (k1 : PySem.W.keepIn K (.ref f1) = true)
    (a2 : PySem.W.nsIn K mainGlobals "_law_whole" = some (some (.ref f2))) (l2 : K.lookup f2 = some ⟨oc2, od2, .func (PySem.W.fnOf "_law_whole" "_law_whole" (defArgs s_law_whole) (defBody s_law_whole) (defScope s_law_whole) .none kV2 dc2 pm2 an2 cd2 ct2), sl2⟩) (c2 : PySem.W.codeIn K cd2 "_law_whole" = true) (k2 : PySem.W.keepIn K (.ref f2) = true)
    (a3 : PySem.W.nsIn K mainGlobals "_law_one" = some (some (.ref f3))) (l3 : K.lookup f3 = some ⟨oc3, od3, .func (PySem.W.fnOf "_law_one" "_law_one" (defArgs s_law_one) (defBody s_law_one) (defScope s_law_one) .none kV3 dc3 pm3 an3 cd3 ct3), sl3⟩) (c3 : PySem.W.codeIn K cd3 "_law_one" = true) (k3 : PySem.W.keepIn K (.ref f3) = true)
    (a4 : PySem.W.nsIn K mainGlobals "law" = some (some (.ref f4))) (l4 : K.lookup f4 = some ⟨oc4, od4, .func (PySem.W.fnOf "law" "law" (defArgs s_law) (defBody s_law) (defScope s_law) .none kV4 dc4 pm4 an4 cd4 ct4), sl4⟩) (c4 : PySem.W.codeIn K cd4 "law" = true) (k4 : PySem.W.keepIn K (.ref f4) = true)
    (z_isinstance : PySem.W.nsIn K mainGlobals "isinstance" = some none)
    (z_int : PySem.W.nsIn K mainGlobals "int" = some none)
    (z_bool : PySem.W.nsIn K mainGlobals "bool" = some none)
    (z_tuple : PySem.W.nsIn K mainGlobals "tuple" = some none)
    (z_len : PySem.W.nsIn K mainGlobals "len" = some none)
    : DefAt K mg "law" s_law ["script"] ∧ ∀ (base : Heap) (f : Addr) (fd : FuncData), Fun K "law" "law" s_law f fd → FnOk l.prog w K mg base (L2.CX l.prog w) 3 f fd ["script"] (spU K cl 1 F_law) := by
  have m_isinstance := PySem.W.mg_none_of X G z_isinstance
  have m_int := PySem.W.mg_none_of X G z_int
  have m_bool := PySem.W.mg_none_of X G z_bool
  have m_tuple := PySem.W.mg_none_of X G z_tuple
  have m_len := PySem.W.mg_none_of X G z_len
  have d_head : DefAt K mg "head" s_head ["h", "m"] := def_mk X G a0 l0 c0 k0 fun _ _ _ _ _ _ us hl => match us, hl with | [_, _], _ => rfl
  have d_head_parts : DefAt K mg "head_parts" s_head_parts ["word"] := def_mk X G a1 l1 c1 k1 fun _ _ _ _ _ _ us hl => match us, hl with | [_], _ => rfl
  have d_law_whole : DefAt K mg "_law_whole" s_law_whole ["found"] := def_mk X G a2 l2 c2 k2 fun _ _ _ _ _ _ us hl => match us, hl with | [_], _ => rfl
  have d_law_one : DefAt K mg "_law_one" s_law_one ["h", "m"] := def_mk X G a3 l3 c3 k3 fun _ _ _ _ _ _ us hl => match us, hl with | [_, _], _ => rfl
  have d_law : DefAt K mg "law" s_law ["script"] := def_mk X G a4 l4 c4 k4 fun _ _ _ _ _ _ us hl => match us, hl with | [_], _ => rfl
  refine ⟨d_law, fun base f fd F => ?_⟩
  have h_head := ok_head (P := l.prog) (w := w) (base := base) (cl := cl) d_head 
  have h_head_parts := ok_head_parts (P := l.prog) (w := w) (base := base) (cl := cl) d_head_parts 
  have h_law_whole := ok_law_whole (P := l.prog) (w := w) (base := base) (cl := cl) d_law_whole m_isinstance m_int m_bool
  have h_law_one := ok_law_one (P := l.prog) (w := w) (base := base) (cl := cl) d_law_one h_head h_law_whole h_head_parts m_isinstance m_tuple m_len
  exact ok_law h_law_one h_head F
end Lw

namespace Lw
open PySem PySem.Spec PyProof.Rows L2 VL
theorem ar (h m : Int) (h0 : 0 ≤ h) (h9 : h < 10) (m0 : 0 ≤ m) (m9 : m < 10) : shlF h 4 = some (16 * h) ∧ orF (16 * h) m = some (16 * h + m) ∧ shrF (16 * h + m) 4 = some h ∧ andF (16 * h + m) 15 = some m ∧ Nat.log2 16 + h.natAbs.log2 < 1000000 := by
  have q : ∀ a b : Fin 10, shlF (a.val : Int) 4 = some (16 * (a.val : Int)) ∧ orF (16 * (a.val : Int)) (b.val : Int) = some (16 * (a.val : Int) + (b.val : Int)) ∧ shrF (16 * (a.val : Int) + (b.val : Int)) 4 = some (a.val : Int) ∧ andF (16 * (a.val : Int) + (b.val : Int)) 15 = some (b.val : Int) ∧ Nat.log2 16 + (a.val : Int).natAbs.log2 < 1000000 := by decide +kernel
  obtain ⟨a, ha⟩ : ∃ a : Fin 10, (a.val : Int) = h := ⟨⟨h.toNat, by omega⟩, by simp; omega⟩
  obtain ⟨b, hb⟩ : ∃ b : Fin 10, (b.val : Int) = m := ⟨⟨m.toNat, by omega⟩, by simp; omega⟩
  rw [← ha, ← hb]
  exact q a b
theorem head_ok {h m : Int} {M : List MO} (a1 : shlF h 4 = some (16 * h)) (a2 : orF (16 * h) m = some (16 * h + m)) : F_head [.int h, .int m] M = some (.ok (.int (16 * h + m)), M) := by
  simp [F_head, B_head, e_fn, a1, a2, -e_or]
theorem parts_ok {h m : Int} {M : List MO} (a3 : shrF (16 * h + m) 4 = some h) (a4 : andF (16 * h + m) 15 = some m) : F_head_parts [.int (16 * h + m)] M = some (.ok (.tup [.int h, .int m]), M) := by
  simp [F_head_parts, B_head_parts, e_fn, a3, a4, LIM, -e_and]
theorem whole_ok {i : Int} {M : List MO} : F_law_whole [.int i] M = some (.ok (.bl true), M) := by
  simp [F_law_whole, B_law_whole, e_fn, TyD.isa]
theorem one_ok {h m : Int} {M : List MO} (h0 : 0 ≤ h) (h9 : h < 10) (m0 : 0 ≤ m) (m9 : m < 10) : F_law_one [.int h, .int m] M = some (.ok (.bl true), M) := by
  obtain ⟨a1, a2, a3, a4, a5⟩ := ar h m h0 h9 m0 m9
  have e1 := head_ok (M := M) a1 a2
  have e2 := parts_ok (M := M) a3 a4
  simp [F_law_one, B_law_one, e_fn, e1, e2, a5, whole_ok, LIM, TyD.isa, toPA, toP, pyO, deepF, SeqAt.shaped, PyData.canLay0, PyData.canLayAll0, PyData.depth, PyData.depthAll, PyData.eqv, PyData.eqvAll]
theorem alike_ok {a b h m : Int} (h0 : 0 ≤ h) (h9 : h < 10) (m0 : 0 ≤ m) (m9 : m < 10) (a0 : 0 ≤ a) (a9 : a < 10) (b0 : 0 ≤ b) (b9 : b < 10) : (decide (16 * h + m = 16 * a + b) = (a == h && b == m)) := by
  rw [Bool.eq_iff_iff]
  simp
  omega
theorem log10 : Nat.log2 10 < 9000 := by decide +kernel
theorem law_ok : LawOk F_law := by
  intro ns hn
  have step : ∀ (i : Nat) (d : D) (s : Ms), (((cutL ns none (some 63)).map D.int) ++ [D.int 0])[i]? = some d → (∃ a b x y z, 0 ≤ a ∧ a < 10 ∧ 0 ≤ b ∧ b < 10 ∧ s = ⟨[.v (.scr ns), .v (.tup [.int a, .int b]), x, y, z], []⟩) → ∃ env, setT (.one 2) d s.env = some env ∧ ∃ s', (seqS (asgV 3 (numC modF (varV 2) (pureC (.int 10))))
  (seqS (asgV 4 (numC modF (numC divF (varV 2) (pureC (.int 10))) (pureC (.int 10))))
  (seqS (ifS (notC (tstE (callE 2 F_law_one (consA (varV 3) (consA (varV 4) nilA))))) (retS (pureC (.bl false))) skipS)
  (seqS (ifS (cmp2 neF (opdC (boolE (cmp2 eqF (opdC (callE 2 F_head (consA (varV 3) (consA (varV 4) nilA)))) (opdC (callE 2 F_head (consA (ixE (rawV 1) (pureC (.int 0))) (consA (ixE (rawV 1) (pureC (.int 1))) nilA))))))) (opdC (boolE (cmp2 eqF (rawV 1) (opdC (tupE (consA (varV 3) (consA (varV 4) nilA)))))))) (retS (pureC (.bl false))) skipS)
  (asgV 1 (tupE (consA (varV 3) (consA (varV 4) nilA)))))))) ⟨env, s.M⟩ = some (.ok .nx, s') ∧ (∃ a b x y z, 0 ≤ a ∧ a < 10 ∧ 0 ≤ b ∧ b < 10 ∧ s' = ⟨[.v (.scr ns), .v (.tup [.int a, .int b]), x, y, z], []⟩) := by
    rintro i d s hd ⟨a, b, x, y, z, a0, a9, b0, b9, rfl⟩
    obtain ⟨c, rfl⟩ : ∃ c : Int, d = .int c := by
      have := List.mem_of_getElem? hd
      rcases List.mem_append.mp this with q | q
      · obtain ⟨c, _, rfl⟩ := List.mem_map.mp q; exact ⟨c, rfl⟩
      · exact ⟨0, List.mem_singleton.mp q⟩
    refine ⟨_, rfl, _, ?_, c % 10, c / 10 % 10, .v (.int c), .v (.int (c % 10)), .v (.int (c / 10 % 10)), by omega, by omega, by omega, by omega, rfl⟩
    obtain ⟨p1, p2, _, _, _⟩ := ar (c % 10) (c / 10 % 10) (by omega) (by omega) (by omega) (by omega)
    obtain ⟨q1, q2, _, _, _⟩ := ar a b (by omega) (by omega) (by omega) (by omega)
    have e1 := head_ok (M := []) p1 p2
    have e2 := head_ok (M := []) q1 q2
    have e3 := one_ok (M := []) (h := c % 10) (m := c / 10 % 10) (by omega) (by omega) (by omega) (by omega)
    have e4 := alike_ok (a := a) (b := b) (h := c % 10) (m := c / 10 % 10) (by omega) (by omega) (by omega) (by omega) a0 a9 b0 b9
    have l10 := log10
    simp [modF, divF, e1, e2, e3, e4, l10, LIM, TyD.isa, toPA, toP, pyO, deepF, SeqAt.shaped, PyData.canLay0, PyData.canLayAll0, PyData.depth, PyData.depthAll, PyData.eqv, PyData.eqvAll]
  obtain ⟨s', e, a, b, x, y, z, _, _, _, _, hs⟩ := forL_thru (t := .one 2) (st := ⟨[.v (.scr ns), .v (.tup [.int 0, .int 0]), .un, .un, .un], []⟩) _ ⟨0, 0, .un, .un, .un, by decide, by decide, by decide, by decide, rfl⟩ step
  refine ⟨[], ?_⟩
  have hl : (cutL ns none (some 63)).length + 1 ≤ 1000000 := by
    have : (cutL ns none (some 63)).length ≤ ns.length := by
      unfold cutL
      rw [List.length_take, List.length_drop]; omega
    omega
  subst hs
  simp [F_law, B_law, e_fn, hl, LIM, e]
end Lw

open PySem PySem.W PyProof.Rows in
set_option maxRecDepth 100000 in
set_option maxHeartbeats 0 in
theorem PySem.Challenge.cw_knownholds_k01_heads_holds : PySem.Challenge.rw_knownholds_k01_heads.Holds := by
  w_on; o_law; k_head; (case hw => w_witness2)
  k_fill
  refine VL.walk (l := PySem.Challenge.rw_knownholds_k01_heads) (k := 3) (F := Lw.F_law) (cl := fun _ _ => none) (sd := Lw.s_law) Lw.law_ok rfl rfl ⟨rfl, by decide, by decide⟩ (fun w h Y => PySem.W.kIn_of Y) rfl ?G
  case G =>
    intro w mg h KX G
    refine' Lw.all_mk (l := PySem.Challenge.rw_knownholds_k01_heads) KX G ?a0 ?l0 ?c0 ?k0 ?a1 ?l1 ?c1 ?k1 ?a2 ?l2 ?c2 ?k2 ?a3 ?l3 ?c3 ?k3 ?a4 ?l4 ?c4 ?k4 ?z_isinstance ?z_int ?z_bool ?z_tuple ?z_len
    (case a0 => k_is)
    (case l0 => k_is)
    (case c0 => k_is)
    (case k0 => k_is)
    (case a1 => k_is)
    (case l1 => k_is)
    (case c1 => k_is)
    (case k1 => k_is)
    (case a2 => k_is)
    (case l2 => k_is)
    (case c2 => k_is)
    (case k2 => k_is)
    (case a3 => k_is)
    (case l3 => k_is)
    (case c3 => k_is)
    (case k3 => k_is)
    (case a4 => k_is)
    (case l4 => k_is)
    (case c4 => k_is)
    (case k4 => k_is)
    (case z_isinstance => k_is)
    (case z_int => k_is)
    (case z_bool => k_is)
    (case z_tuple => k_is)
    (case z_len => k_is)

