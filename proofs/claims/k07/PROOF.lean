import PyProof.Rows.All
import Wide.All
import OpenK.AllK
import Wide.FinOn
import HandS.ForMost
import HandS.ForExc
import HandS.Wide
import HandS.WideBits
import HandS.TupAny
import HandS.IsInst
import HandS.Deep
import PyProof.StrBlock2
import HandS.Style
import HandS.SortInts
import HandS.Strs
import HandS.SetFor
import HandS.Dict
import HandS.More
import HandS.Text
import PyProof.StrLaws
import HandS.Conv
import PyProof.ListStr
import PyProof.DictUpdate
import HandS.EndBits
import KE.KDictDisplayH
import HandS.Zip
import HandS.SortRule
import HandS.ExcIs
import HandS.Iter
import KE.BitLaws
import HandS.TupMul
import PySem.Challenge.RW_knownholds_k07_yards_apart
set_option Elab.async false
set_option linter.all false
set_option maxRecDepth 100000
set_option maxHeartbeats 8000000
set_option autoImplicit false
/-! VL: a value layer over HandS. Data by value (D), mutable objects in a numbered store (Ms.M) or owned by a local name (Cell.own). -/
namespace VL
open PySem PySem.Spec PyProof.Rows L2

inductive D where
  | non | bl (b : Bool) | int (i : Int) | str (t : List Nat)
  | lst (ds : List D) | tup (ds : List D) | dic (ks vs : List D) | scr (ns : List Int) | ob (n : Nat) | dit (ks vs : List D) | dif (ks vs : List D)
  deriving Inhabited
inductive MO where
  | lst (ds : List D) | dic (ks vs : List D) | dit (ks vs : List D) | dif (ks vs : List D) | ins (c : List Nat) (fn : List (List Nat)) (fv : List D)
  deriving Inhabited
/-- things that are locked -/
def isFz : HO → Bool
  | .frz _ _ => true
  | _ => false
def MO.nfz : MO → Bool
  | .dif _ _ => false
  | _ => true
inductive Cell where
  | un | v (d : D) | own (o : MO) | exc (x : List Nat)
  deriving Inhabited
structure Ms where
  env : List Cell
  M : List MO
/-- an operand: a value, or the object that a local name owns -/
inductive Opd where
  | d (d : D) | cell (i : Nat)
/-- a value, or an object just made that nobody holds yet -/
inductive Nv where
  | d (d : D) | nw (o : MO)
inductive Res (α : Type) where
  | ok (a : α) | ex (x : List Nat)
inductive Fl where
  | nx | rt (d : D) | bk | ct
abbrev C (α : Type) := Ms → Option (Res α × Ms)
abbrev Stm := C Fl
abbrev Fn := List D → List MO → Option (Res D × List MO)

def toS (t : List Nat) : Str := ⟨t.toArray⟩
theorem toS_cps (t : List Nat) : (toS t).cps.toList = t := by simp [toS]
theorem toS_len (t : List Nat) : (toS t).length = t.length := by simp [toS, Str.length]
theorem toS_of (s : Str) : toS s.cps.toList = s := by cases s; simp [toS]
theorem toS_inj {a b : List Nat} (h : toS a = toS b) : a = b := by rw [← toS_cps a, h, toS_cps]
theorem toS_app (a b : List Nat) : toS a ++ toS b = toS (a ++ b) := by
  show Str.append (toS a) (toS b) = toS (a ++ b)
  simp [Str.append, toS]

def keyD : Key → D
  | .inl i => .int i
  | .inr s => .str s.cps.toList

/-! ### a value and its data -/
mutual
inductive RepV (K : PySem.W.Frag) (G : Hp) (R : List Addr) : V → D → Prop
  | non : RepV K G R .non .non
  | bl (b : Bool) : RepV K G R (.bl b) (.bl b)
  | int (i : Int) : RepV K G R (.int i) (.int i)
  | str (t : List Nat) : RepV K G R (.str (toS t)) (.str t)
  | lst {a : Addr} {xs : List V} {ds : List D} : G a = some (.lst xs) → RepA K G R xs ds → RepV K G R (.ref a) (.lst ds)
  | tup {a : Addr} {xs : List V} {ds : List D} : G a = some (.tup xs) → RepA K G R xs ds → RepV K G R (.ref a) (.tup ds)
  | dic {a : Addr} {kvs : List (Key × V)} {ks vs : List D} : G a = some (.dK kvs) → ks = kvs.map (fun p => keyD p.1) → RepA K G R (kvs.map (·.2)) vs → RepV K G R (.ref a) (.dic ks vs)
  | dit {a : Addr} {kvs : List (List Key × V)} {ks vs : List D} : G a = some (.dT kvs) → ks = kvs.map (fun p => .tup (p.1.map keyD)) → RepA K G R (kvs.map (·.2)) vs → RepV K G R (.ref a) (.dit ks vs)
  | dif {a : Addr} {o : Obj} {kvs : List (Key × V)} {ks vs : List D} : G a = some (.frz o (.dK kvs)) → ks = kvs.map (fun p => keyD p.1) → RepA K G R (kvs.map (·.2)) vs → RepV K G R (.ref a) (.dif ks vs)
  | scr {a : Addr} {ns : List Int} : SqL K G a (ns.map V.int) → RepV K G R (.ref a) (.scr ns)
  | ob {a : Addr} {n : Nat} : R[n]? = some a → RepV K G R (.ref a) (.ob n)
inductive RepA (K : PySem.W.Frag) (G : Hp) (R : List Addr) : List V → List D → Prop
  | nil : RepA K G R [] []
  | cons {v : V} {vs : List V} {d : D} {ds : List D} : RepV K G R v d → RepA K G R vs ds → RepA K G R (v :: vs) (d :: ds)
end

def Pre (R R' : List Addr) : Prop := ∃ t, R' = R ++ t
theorem Pre.refl (R : List Addr) : Pre R R := ⟨[], by simp⟩
theorem Pre.trans {A B C : List Addr} (h : Pre A B) (g : Pre B C) : Pre A C := by
  obtain ⟨t, rfl⟩ := h
  obtain ⟨u, rfl⟩ := g
  exact ⟨t ++ u, by simp⟩
theorem Pre.get {A B : List Addr} (h : Pre A B) {n : Nat} {a : Addr} (e : A[n]? = some a) : B[n]? = some a := by
  obtain ⟨t, rfl⟩ := h
  obtain ⟨hn, e'⟩ := List.getElem?_eq_some_iff.mp e
  rw [List.getElem?_append_left hn, e]
theorem Pre.mem {A B : List Addr} (h : Pre A B) {a : Addr} (e : a ∈ A) : a ∈ B := by
  obtain ⟨t, rfl⟩ := h
  exact List.mem_append_left _ e

section
variable {K : PySem.W.Frag} {G G' H H' : Hp} {R R' : List Addr}
mutual
theorem RepV.mono (g : Same G G') (r : Pre R R') : ∀ {v : V} {d : D}, RepV K G R v d → RepV K G' R' v d
  | _, _, .non => .non
  | _, _, .bl b => .bl b
  | _, _, .int i => .int i
  | _, _, .str t => .str t
  | _, _, .lst h a => .lst (g _ _ h) (RepA.mono g r a)
  | _, _, .tup h a => .tup (g _ _ h) (RepA.mono g r a)
  | _, _, .dic h k a => .dic (g _ _ h) k (RepA.mono g r a)
  | _, _, .dit h k a => .dit (g _ _ h) k (RepA.mono g r a)
  | _, _, .dif h k a => .dif (g _ _ h) k (RepA.mono g r a)
  | _, _, .scr h => .scr (g.seq h)
  | _, _, .ob h => .ob (r.get h)
theorem RepA.mono (g : Same G G') (r : Pre R R') : ∀ {vs : List V} {ds : List D}, RepA K G R vs ds → RepA K G' R' vs ds
  | _, _, .nil => .nil
  | _, _, .cons h t => .cons (RepV.mono g r h) (RepA.mono g r t)
end
theorem RepA.length : ∀ {vs : List V} {ds : List D}, RepA K G R vs ds → vs.length = ds.length
  | _, _, .nil => rfl
  | _, _, .cons _ t => by simp [RepA.length t]
theorem RepA.get : ∀ {vs : List V} {ds : List D} {i : Nat} {d : D}, RepA K G R vs ds → ds[i]? = some d → ∃ v, vs[i]? = some v ∧ RepV K G R v d
  | _, _, _, _, .nil, e => by simp at e
  | _, _, 0, _, .cons h _, e => by simp at e; subst e; exact ⟨_, rfl, h⟩
  | _, _, i + 1, d, .cons _ t, e => by
    obtain ⟨v, h1, h2⟩ := RepA.get (i := i) (d := d) t (by simpa using e)
    exact ⟨v, by simpa using h1, h2⟩
theorem RepA.getV : ∀ {vs : List V} {ds : List D} {i : Nat} {v : V}, RepA K G R vs ds → vs[i]? = some v → ∃ d, ds[i]? = some d ∧ RepV K G R v d
  | _, _, _, _, .nil, e => by simp at e
  | _, _, 0, _, .cons h _, e => by simp at e; subst e; exact ⟨_, rfl, h⟩
  | _, _, i + 1, v, .cons _ t, e => by
    obtain ⟨d, h1, h2⟩ := RepA.getV (i := i) (v := v) t (by simpa using e)
    exact ⟨d, by simpa using h1, h2⟩
theorem RepA.append : ∀ {vs ws : List V} {ds es : List D}, RepA K G R vs ds → RepA K G R ws es → RepA K G R (vs ++ ws) (ds ++ es)
  | _, _, _, _, .nil, s => s
  | _, _, _, _, .cons r t, s => .cons r (RepA.append t s)
theorem RepA.take : ∀ {vs : List V} {ds : List D} (n : Nat), RepA K G R vs ds → RepA K G R (vs.take n) (ds.take n)
  | _, _, 0, _ => .nil
  | _, _, _ + 1, .nil => .nil
  | _, _, n + 1, .cons r t => .cons r (RepA.take n t)
theorem RepA.drop : ∀ {vs : List V} {ds : List D} (n : Nat), RepA K G R vs ds → RepA K G R (vs.drop n) (ds.drop n)
  | _, _, 0, r => r
  | _, _, _ + 1, .nil => .nil
  | _, _, n + 1, .cons _ t => RepA.drop n t
theorem RepA.set {v : V} {d : D} (h : RepV K G R v d) : ∀ {vs : List V} {ds : List D} (i : Nat), RepA K G R vs ds → RepA K G R (vs.set i v) (ds.set i d)
  | _, _, _, .nil => .nil
  | _, _, 0, .cons _ t => .cons h t
  | _, _, i + 1, .cons q t => .cons q (RepA.set h i t)
theorem RepA.reverse {vs : List V} {ds : List D} (h : RepA K G R vs ds) : RepA K G R vs.reverse ds.reverse := by
  induction h using RepA.rec (motive_1 := fun _ _ _ => True) with
  | nil => exact .nil
  | cons r _ _ ih => rw [List.reverse_cons, List.reverse_cons]; exact ih.append (.cons r .nil)
  | _ => trivial
theorem RepA.dropLast {vs : List V} {ds : List D} (h : RepA K G R vs ds) : RepA K G R vs.dropLast ds.dropLast := by
  rw [List.dropLast_eq_take, List.dropLast_eq_take, h.length]
  exact h.take _
theorem RepA.ints : ∀ (ns : List Int), RepA K G R (ns.map V.int) (ns.map D.int)
  | [] => .nil
  | n :: r => .cons (.int n) (RepA.ints r)
theorem RepA.ints_of : ∀ {vs : List V} {ns : List Int}, RepA K G R vs (ns.map D.int) → vs = ns.map V.int
  | _, [], h => by cases h; rfl
  | _, n :: r, h => by
    cases h with
    | cons h t => cases h; rw [RepA.ints_of t]; rfl
theorem RepA.strs_of : ∀ {vs : List V} {ts : List (List Nat)}, RepA K G R vs (ts.map D.str) → vs = ts.map (fun t => V.str (toS t))
  | _, [], h => by cases h; rfl
  | _, n :: r, h => by
    cases h with
    | cons h t => cases h; rw [RepA.strs_of t]; rfl
theorem RepA.bls_of : ∀ {vs : List V} {bs : List Bool}, RepA K G R vs (bs.map D.bl) → vs = bs.map V.bl
  | _, [], h => by cases h; rfl
  | _, n :: r, h => by
    cases h with
    | cons h t => cases h; rw [RepA.bls_of t]; rfl
end

/-! ### the state and the heap -/
/-- what stood at an entry: what is data there, what must stay, the numbered objects -/
structure Base where
  G : Hp
  keep : Hp
  R : List Addr
abbrev CL := List Nat → Option Addr

def RepO (K : PySem.W.Frag) (cl : CL) (G : Hp) (R : List Addr) (H : Hp) (a : Addr) : MO → Prop
  | .lst ds => ∃ xs, H a = some (.lst xs) ∧ RepA K G R xs ds
  | .dic ks vs => ∃ kvs : List (Key × V), H a = some (.dK kvs) ∧ ks = kvs.map (fun p => keyD p.1) ∧ RepA K G R (kvs.map (·.2)) vs
  | .dif ks vs => ∃ (o : Obj) (kvs : List (Key × V)), H a = some (.frz o (.dK kvs)) ∧ ks = kvs.map (fun p => keyD p.1) ∧ RepA K G R (kvs.map (·.2)) vs
  | .dit ks vs => ∃ kvs : List (List Key × V), H a = some (.dT kvs) ∧ ks = kvs.map (fun p => .tup (p.1.map keyD)) ∧ RepA K G R (kvs.map (·.2)) vs
  | .ins c fn fv => ∃ C dx fvs, (1 < c.length ∧ cl c = some C) ∧ H a = some (.ins C dx fvs) ∧ fvs.map (·.1) = fn.map toS ∧ RepA K G R (fvs.map (·.2)) fv

structure RelM (K : PySem.W.Frag) (cl : CL) (B : Base) (M : List MO) (G : Hp) (R : List Addr) (H : Hp) : Prop where
  same : Same G H
  g0 : Same B.G G
  gn : ∀ (a : Addr) (o : HO), G a = some o → B.G a = some o ∨ B.keep a = none
  r0 : Pre B.R R
  rk : ∀ a ∈ R, ∀ o, B.keep a = some o → a ∈ B.R ∧ isFz o = true
  kp : Same B.keep H
  len : R.length = M.length
  nd : R.Nodup
  sh : ∀ (n : Nat) (o : MO) (a : Addr), M[n]? = some o → R[n]? = some a → G a = none ∧ RepO K cl G R H a o

structure Rel (K : PySem.W.Frag) (cl : CL) (B : Base) (st : Ms) (G : Hp) (R : List Addr) (σ : L2.St) (H : Hp) : Prop where
  m : RelM K cl B st.M G R H
  len : σ.length = st.env.length
  val : ∀ (i : Nat) (d : D), st.env[i]? = some (.v d) → ∃ v, σ[i]? = some (some v) ∧ RepV K G R v d
  own : ∀ (i : Nat) (o : MO), st.env[i]? = some (.own o) → ∃ a : Addr, σ[i]? = some (some (.ref a)) ∧ G a = none ∧ a ∉ R ∧ B.keep a = none ∧ RepO K cl G R H a o
  dis : ∀ (i j : Nat) (o o' : MO) (a : Addr), st.env[i]? = some (.own o) → st.env[j]? = some (.own o') → σ[i]? = some (some (.ref a)) → σ[j]? = some (some (.ref a)) → i = j
  ex : ∀ (i : Nat) (x : List Nat), st.env[i]? = some (.exc x) → ∃ a C : Addr, cl [] = some a ∧ cl [0] = some C ∧ cl x = some C ∧ σ[i]? = some (some (.ref a))

/-- a cell set that holds no exception -/
theorem ex_set {cl : CL} {env : List Cell} {σ σ' : L2.St} {i : Nat} {c : Cell} (h : ∀ (i : Nat) (x : List Nat), env[i]? = some (.exc x) → ∃ a C : Addr, cl [] = some a ∧ cl [0] = some C ∧ cl x = some C ∧ σ[i]? = some (some (.ref a))) (hc : ∀ x, c ≠ .exc x) (hs : ∀ j, j ≠ i → σ'[j]? = σ[j]?) :
    ∀ (j : Nat) (x : List Nat), (env.set i c)[j]? = some (.exc x) → ∃ a C : Addr, cl [] = some a ∧ cl [0] = some C ∧ cl x = some C ∧ σ'[j]? = some (some (.ref a)) := fun j x e => by
  by_cases hj : j = i
  · subst hj
    have hi : j < env.length := by
      have := (List.getElem?_eq_some_iff.mp e).1
      rw [List.length_set] at this; exact this
    rw [List.getElem?_set_self hi] at e
    exact absurd (Option.some.inj e) (hc x)
  · rw [List.getElem?_set_ne (Ne.symm hj)] at e
    rw [hs j hj]
    exact h j x e

section
variable {K : PySem.W.Frag} {cl : CL} {B : Base} {st : Ms} {M : List MO} {G G' H H' : Hp} {R R' : List Addr} {σ : L2.St} {a p : Addr} {o : MO} {ho : HO}
theorem RepO.mono (g : Same G G') (r : Pre R R') (e : H' a = H a) (h : RepO K cl G R H a o) : RepO K cl G' R' H' a o := by
  cases o with
  | lst ds => obtain ⟨xs, h1, h2⟩ := h; exact ⟨xs, by rw [e, h1], h2.mono g r⟩
  | dic ks vs => obtain ⟨kvs, h1, h2, h3⟩ := h; exact ⟨kvs, by rw [e, h1], h2, h3.mono g r⟩
  | dit ks vs => obtain ⟨kvs, h1, h2, h3⟩ := h; exact ⟨kvs, by rw [e, h1], h2, h3.mono g r⟩
  | dif ks vs => obtain ⟨o, kvs, h1, h2, h3⟩ := h; exact ⟨o, kvs, by rw [e, h1], h2, h3.mono g r⟩
  | ins c fn fv => obtain ⟨C, dx, fvs, h1, h2, h3, h4⟩ := h; exact ⟨C, dx, fvs, h1, by rw [e, h2], h3, h4.mono g r⟩
theorem RepO.there (h : RepO K cl G R H a o) : ∃ ho, H a = some ho := by
  cases o with
  | lst ds => obtain ⟨xs, h1, h2⟩ := h; exact ⟨_, h1⟩
  | dic ks vs => obtain ⟨kvs, h1, h2, h3⟩ := h; exact ⟨_, h1⟩
  | dit ks vs => obtain ⟨kvs, h1, h2, h3⟩ := h; exact ⟨_, h1⟩
  | dif ks vs => obtain ⟨o, kvs, h1, h2, h3⟩ := h; exact ⟨_, h1⟩
  | ins c fn fv => obtain ⟨C, dx, fvs, h1, h2, h3, h4⟩ := h; exact ⟨_, h2⟩
/-- an object just made, held by nobody -/
structure Fresh (B : Base) (st : Ms) (G : Hp) (R : List Addr) (σ : L2.St) (a : Addr) : Prop where
  g : G a = none
  r : a ∉ R
  k : B.keep a = none
  e : ∀ (i : Nat) (o : MO), st.env[i]? = some (.own o) → σ[i]? ≠ some (some (.ref a))

theorem RelM.someR (r : RelM K cl B M G R H) (h : a ∈ R) : ∃ ho, H a = some ho := by
  obtain ⟨n, hn, e⟩ := List.mem_iff_getElem.mp h
  have hm : n < M.length := by rw [← r.len]; exact hn
  exact (r.sh n M[n] a (List.getElem?_eq_getElem hm) (by rw [List.getElem?_eq_getElem hn, e])).2.there
theorem RelM.freeR (r : RelM K cl B M G R H) (h : H p = none) : p ∉ R := fun z => by
  obtain ⟨ho, e⟩ := r.someR z
  rw [h] at e; cases e
theorem RelM.freeK (r : RelM K cl B M G R H) (h : H p = none) : B.keep p = none := by
  cases e : B.keep p with
  | none => rfl
  | some o => rw [r.kp _ _ e] at h; cases h
theorem RelM.freeG (r : RelM K cl B M G R H) (h : H p = none) : G p = none := by
  cases e : G p with
  | none => rfl
  | some o => rw [r.same _ _ e] at h; cases h
/-- an object laid where nothing was -/
theorem RelM.put (r : RelM K cl B M G R H) (hG : G p = none) (hK : B.keep p = none) (hR : p ∉ R) : RelM K cl B M G R (upd H p ho) := by
  refine ⟨fun b o e => ?_, r.g0, r.gn, r.r0, r.rk, fun b o e => ?_, r.len, r.nd, fun n o b h1 h2 => ?_⟩
  · rw [upd_ne (ne_of_none e hG)]; exact r.same b o e
  · rw [upd_ne (ne_of_none e hK)]; exact r.kp b o e
  · obtain ⟨h3, h4⟩ := r.sh n o b h1 h2
    refine ⟨h3, h4.mono (fun _ _ q => q) (Pre.refl _) (upd_ne ?_)⟩
    intro z; subst z
    exact hR (List.mem_of_getElem? h2)
theorem RelM.new (r : RelM K cl B M G R H) (h : H p = none) : RelM K cl B M G R (upd H p ho) := r.put (r.freeG h) (r.freeK h) (r.freeR h)
theorem Rel.put (r : Rel K cl B st G R σ H) (f : Fresh B st G R σ p) : Rel K cl B st G R σ (upd H p ho) := by
  refine ⟨r.m.put f.g f.k f.r, r.len, r.val, fun i o h => ?_, r.dis, r.ex⟩
  obtain ⟨a, h1, h2, h3, h4, h5⟩ := r.own i o h
  refine ⟨a, h1, h2, h3, h4, h5.mono (fun _ _ q => q) (Pre.refl _) (upd_ne ?_)⟩
  intro z; subst z
  exact f.e i o h h1
theorem Rel.fresh (r : Rel K cl B st G R σ H) (h : H p = none) : Fresh B st G R σ p := by
  refine ⟨r.m.freeG h, r.m.freeR h, r.m.freeK h, fun i o e z => ?_⟩
  obtain ⟨a, h1, h2, h3, h4, h5⟩ := r.own i o e
  rw [z] at h1; cases h1
  obtain ⟨ho, q⟩ := h5.there
  rw [h] at q; cases q
theorem Rel.new (r : Rel K cl B st G R σ H) (h : H p = none) : Rel K cl B st G R σ (upd H p ho) := r.put (r.fresh h)
/-- an object becomes data -/
theorem RelM.freeze (r : RelM K cl B M G R H) (hG : G p = none) (hK : B.keep p = none) (hR : p ∉ R) (hp : H p = some ho) : RelM K cl B M (upd G p ho) R H := by
  have g : Same G (upd G p ho) := fun b o e => by rw [upd_ne (ne_of_none e hG)]; exact e
  refine ⟨fun b o e => ?_, fun b o e => g _ _ (r.g0 b o e), fun b o e => ?_, r.r0, r.rk, r.kp, r.len, r.nd, fun n o b h1 h2 => ?_⟩
  · by_cases hb : b = p
    · subst hb; rw [upd_same] at e; cases e; exact hp
    · rw [upd_ne hb] at e; exact r.same b o e
  · by_cases hb : b = p
    · subst hb; exact .inr hK
    · rw [upd_ne hb] at e; exact r.gn b o e
  · obtain ⟨h3, h4⟩ := r.sh n o b h1 h2
    refine ⟨?_, h4.mono g (Pre.refl _) rfl⟩
    rw [upd_ne]
    · exact h3
    · intro z; subst z
      exact hR (List.mem_of_getElem? h2)
theorem same_upd {p : Addr} {ho : HO} (h : G p = none) : Same G (upd G p ho) := fun b o e => by rw [upd_ne (ne_of_none e h)]; exact e
theorem Rel.freeze (r : Rel K cl B st G R σ H) (f : Fresh B st G R σ p) (hp : H p = some ho) : Rel K cl B st (upd G p ho) R σ H := by
  refine ⟨r.m.freeze f.g f.k f.r hp, r.len, fun i d h => ?_, fun i o h => ?_, r.dis, r.ex⟩
  · obtain ⟨v, h1, h2⟩ := r.val i d h
    exact ⟨v, h1, h2.mono (same_upd f.g) (Pre.refl _)⟩
  · obtain ⟨a, h1, h2, h3, h4, h5⟩ := r.own i o h
    have ne : a ≠ p := fun z => by subst z; exact f.e i o h h1
    exact ⟨a, h1, by rw [upd_ne ne]; exact h2, h3, h4, h5.mono (same_upd f.g) (Pre.refl _) rfl⟩
end

/-! ### runs -/

section
variable (K : PySem.W.Frag) (cl : CL) (W : WX)
/-- what a computation's end asks; Q of what it gives, the state, the data part, the numbered objects, the heap -/
def Run {α : Type} (B : Base) (σ : L2.St) (G : Hp) (R : List Addr) (o : Option (Res α × Ms)) (Q : α → Ms → Hp → List Addr → Hp → Prop) : Prop :=
  match o with
  | some (.ok a, st') => ∀ G' R' H', Same G G' → Pre R R' → Rel K cl B st' G' R' σ H' → Q a st' G' R' H'
  | some (.ex x, st') => ∃ C, cl x = some C ∧ ∀ G' R' H', Same G G' → Pre R R' → Rel K cl B st' G' R' σ H' → W (.ref C) none σ H'
  | none => False
def RunS (B : Base) (G : Hp) (R : List Addr) (o : Option (Res Fl × Ms)) (D : Ends) : Prop :=
  match o with
  | some (.ok .nx, st') => ∀ σ' G' R' H', Same G G' → Pre R R' → Rel K cl B st' G' R' σ' H' → D.nx σ' H'
  | some (.ok .bk, st') => ∀ σ' G' R' H', Same G G' → Pre R R' → Rel K cl B st' G' R' σ' H' → D.bk σ' H'
  | some (.ok .ct, st') => ∀ σ' G' R' H', Same G G' → Pre R R' → Rel K cl B st' G' R' σ' H' → D.ct σ' H'
  | some (.ok (.rt d), st') => ∀ σ' G' R' H' v, Same G G' → Pre R R' → Rel K cl B st' G' R' σ' H' → RepV K G' R' v d → D.rt v H'
  | some (.ex x, st') => ∃ C, cl x = some C ∧ ∀ σ' G' R' H', Same G G' → Pre R R' → Rel K cl B st' G' R' σ' H' → W (.ref C) none σ' H'
  | none => False

def RepOp (G : Hp) (R : List Addr) (σ : L2.St) (v : V) : Opd → Prop
  | .d d => RepV K G R v d
  | .cell i => σ[i]? = some (some v)
def RepN (B : Base) (st : Ms) (G : Hp) (R : List Addr) (σ : L2.St) (H : Hp) (v : V) : Nv → Prop
  | .d d => RepV K G R v d
  | .nw o => ∃ a, v = .ref a ∧ Fresh B st G R σ a ∧ RepO K cl G R H a o

def TU (c : C D) : TE := fun σ H Q => ∃ B st G R, Rel K cl B st G R σ H ∧ Run K cl W B σ G R (c st) fun d _ G' R' H' => ∀ v, RepV K G' R' v d → Q v H'
def TO' (c : C Opd) : TE := fun σ H Q => ∃ B st G R, Rel K cl B st G R σ H ∧ Run K cl W B σ G R (c st) fun d _ G' R' H' => ∀ v, RepOp K G' R' σ v d → Q v H'
def TN (c : C Nv) : TE := fun σ H Q => ∃ B st G R, Rel K cl B st G R σ H ∧ Run K cl W B σ G R (c st) fun d st' G' R' H' => ∀ v, RepN K cl B st' G' R' σ H' v d → Q v H'
def TUT (c : C Bool) : TT := fun σ H Q => ∃ B st G R, Rel K cl B st G R σ H ∧ Run K cl W B σ G R (c st) fun b _ _ _ H' => Q b H'
def TUA (c : C (List D)) : TA := fun σ H Q => ∃ B st G R, Rel K cl B st G R σ H ∧ Run K cl W B σ G R (c st) fun ds _ G' R' H' => ∀ vs, RepA K G' R' vs ds → Q vs H'
def TUS (c : Stm) : TS := fun D σ H => ∃ B st G R, Rel K cl B st G R σ H ∧ RunS K cl W B G R (c st) D
end

/-! ### computations -/
def pureC {α : Type} (a : α) : C α := fun st => some (.ok a, st)
def failC {α : Type} : C α := fun _ => none
def raiseC {α : Type} (x : List Nat) : C α := fun st => some (.ex x, st)
def bndC {α β : Type} (a : C α) (k : α → C β) : C β := fun st =>
  match a st with
  | some (.ok x, st1) => k x st1
  | some (.ex e, st1) => some (.ex e, st1)
  | none => none
def optC {α : Type} (o : Option α) : C α := fun st => match o with
  | some a => some (.ok a, st)
  | none => none

section
variable {K : PySem.W.Frag} {cl : CL} {W : WX} {B : Base} {st : Ms} {G G' H H' : Hp} {R R' : List Addr} {σ : L2.St} {α β : Type}
theorem Run.mono {o : Option (Res α × Ms)} {Q Q' : α → Ms → Hp → List Addr → Hp → Prop} (h : Run K cl W B σ G R o Q)
    (f : ∀ a st' G' R' H', o = some (.ok a, st') → Same G G' → Pre R R' → Rel K cl B st' G' R' σ H' → Q a st' G' R' H' → Q' a st' G' R' H') : Run K cl W B σ G R o Q' := by
  unfold Run at h ⊢
  split
  · rename_i a st'
    intro G' R' H' g r rel
    exact f a st' G' R' H' rfl g r rel (h G' R' H' g r rel)
  · exact h
  · exact h
theorem Run.bind {a : C α} {k : α → C β} {Q : β → Ms → Hp → List Addr → Hp → Prop} (h : Run K cl W B σ G R (bndC a k st) Q) :
    Run K cl W B σ G R (a st) (fun x st1 G1 R1 H1 => Rel K cl B st1 G1 R1 σ H1 ∧ Same G G1 ∧ Pre R R1 ∧ Run K cl W B σ G1 R1 (k x st1) Q) := by
  unfold bndC at h
  cases e : a st with
  | none => rw [e] at h; exact h
  | some p =>
    obtain ⟨r, st1⟩ := p
    cases r with
    | ex x => rw [e] at h; exact h
    | ok x =>
      rw [e] at h
      have h : Run K cl W B σ G R (k x st1) Q := h
      show ∀ G' R' H', Same G G' → Pre R R' → Rel K cl B st1 G' R' σ H' → _
      intro G1 R1 H1 g1 r1 rel
      refine ⟨rel, g1, r1, ?_⟩
      unfold Run at h ⊢
      split
      · rename_i b st2 e2
        rw [e2] at h
        intro G2 R2 H2 g2 r2 rel2
        exact h G2 R2 H2 (g1.trans g2) (r1.trans r2) rel2
      · rename_i b st2 e2
        rw [e2] at h
        obtain ⟨C, hC, h⟩ := h
        exact ⟨C, hC, fun G2 R2 H2 g2 r2 rel2 => h G2 R2 H2 (g1.trans g2) (r1.trans r2) rel2⟩
      · rename_i e2
        rw [e2] at h
        exact h
/-- a computation that is over -/
theorem Run.done {a : α} {Q : α → Ms → Hp → List Addr → Hp → Prop} (h : Run K cl W B σ G R (some (.ok a, st)) Q) (rel : Rel K cl B st G R σ H) : Q a st G R H :=
  h G R H (Same.refl _) (Pre.refl _) rel
end
end VL

namespace VL
open PySem PySem.Spec PyProof.Rows L2

/-! ### names -/
def rawV (i : Nat) : C Opd := fun st => match st.env[i]? with
  | some (.v d) => some (.ok (.d d), st)
  | some (.own _) => some (.ok (.cell i), st)
  | _ => none
def MO.asD : MO → Option D
  | .lst ds => some (.lst ds)
  | .dic ks vs => some (.dic ks vs)
  | .dit ks vs => some (.dit ks vs)
  | .dif ks vs => some (.dif ks vs)
  | .ins _ _ _ => none
def frzO (o : Opd) : C D := match o with
  | .d d => pureC d
  | .cell i => fun st => match st.env[i]? with
    | some (.own o) => match o.asD with
      | some d => some (.ok d, { st with env := st.env.set i (.v d) })
      | none => none
    | some (.v d) => some (.ok d, st)
    | _ => none
def valO (A : C Opd) : C D := bndC A frzO
def varV (i : Nat) : C D := valO (rawV i)
def opdC (A : C D) : C Opd := bndC A fun d => pureC (.d d)
def nvC (A : C D) : C Nv := bndC A fun d => pureC (.d d)
def frzN (n : Nv) : C D := match n with
  | .d d => pureC d
  | .nw o => optC o.asD
def valN (A : C Nv) : C D := bndC A frzN
/-- an object just made, numbered -/
def shrN (A : C Nv) : C D := bndC A fun n => match n with
  | .d d => pureC d
  | .nw o => fun st => some (.ok (.ob st.M.length), { st with M := st.M ++ [o] })

section
variable {X : Cx} {cl : CL} {W : WX} {e : Expr} {B : Base} {st : Ms} {G H : Hp} {R : List Addr} {σ : L2.St}
theorem pe_imp {t t' : TE} (h : PE X e t) (f : ∀ σ H Q, t' σ H Q → t σ H Q) : PE X e t' := ⟨fun pins s σ H Q I q => h.run pins s σ H Q I (f σ H Q q)⟩
theorem pt_imp {t t' : TT} (h : PT X e t) (f : ∀ σ H Q, t' σ H Q → t σ H Q) : PT X e t' := ⟨fun pins s σ H Q I q => h.run pins s σ H Q I (f σ H Q q)⟩
theorem RepOp.mono {K : PySem.W.Frag} {G' : Hp} {R' : List Addr} {v : V} {o : Opd} (g : Same G G') (r : Pre R R') (h : RepOp K G R σ v o) : RepOp K G' R' σ v o := by
  cases o with
  | d d => exact RepV.mono g r h
  | cell i => exact h
/-- what a local name owns becomes data -/
theorem Rel.freezeCell {K : PySem.W.Frag} {i : Nat} {o : MO} {d : D} {v : V} (r : Rel K cl B st G R σ H) (e : st.env[i]? = some (.own o)) (hd : o.asD = some d) (hv : σ[i]? = some (some v)) :
    ∃ G', Same G G' ∧ Rel K cl B { st with env := st.env.set i (.v d) } G' R σ H ∧ RepV K G' R v d := by
  obtain ⟨a, h1, h2, h3, h4, h5⟩ := r.own i o e
  rw [hv] at h1
  cases h1
  have hi : i < st.env.length := (List.getElem?_eq_some_iff.mp e).1
  obtain ⟨ho, hho⟩ := h5.there
  have g := same_upd (ho := ho) h2
  refine ⟨upd G a ho, g, ?_, ?_⟩
  · refine ⟨r.m.freeze h2 h4 h3 hho, ?_, fun j d' h => ?_, fun j o' h => ?_, fun j k o1 o2 b e1 e2 => ?_, ex_set r.ex (fun _ z => by cases z) fun _ _ => rfl⟩
    · show σ.length = (st.env.set i (.v d)).length
      rw [List.length_set]; exact r.len
    · have h : (st.env.set i (.v d))[j]? = some (.v d') := h
      by_cases hj : j = i
      · subst hj
        rw [List.getElem?_set_self hi] at h
        cases h
        refine ⟨.ref a, hv, ?_⟩
        cases o with
        | lst ds =>
          cases hd
          obtain ⟨xs, q1, q2⟩ := h5
          rw [q1] at hho; cases hho
          exact .lst upd_same (q2.mono g (Pre.refl _))
        | dic ks vs =>
          cases hd
          obtain ⟨kvs, q1, q2, q3⟩ := h5
          rw [q1] at hho; cases hho
          exact .dic upd_same q2 (q3.mono g (Pre.refl _))
        | dit ks vs =>
          cases hd
          obtain ⟨kvs, q1, q2, q3⟩ := h5
          rw [q1] at hho; cases hho
          exact .dit upd_same q2 (q3.mono g (Pre.refl _))
        | dif ks vs =>
          cases hd
          obtain ⟨oo, kvs, q1, q2, q3⟩ := h5
          rw [q1] at hho; cases hho
          exact .dif upd_same q2 (q3.mono g (Pre.refl _))
        | ins _ _ _ => cases hd
      · rw [List.getElem?_set_ne (Ne.symm hj)] at h
        obtain ⟨v, q1, q2⟩ := r.val j d' h
        exact ⟨v, q1, q2.mono g (Pre.refl _)⟩
    · have h : (st.env.set i (.v d))[j]? = some (.own o') := h
      have hj : j ≠ i := by
        intro z; subst z
        rw [List.getElem?_set_self hi] at h; cases h
      rw [List.getElem?_set_ne (Ne.symm hj)] at h
      obtain ⟨b, q1, q2, q3, q4, q5⟩ := r.own j o' h
      have ne : b ≠ a := by
        intro z; subst z
        exact hj (r.dis j i o' o b h e q1 hv)
      exact ⟨b, q1, by rw [upd_ne ne]; exact q2, q3, q4, q5.mono g (Pre.refl _) rfl⟩
    · have e1 : (st.env.set i (.v d))[j]? = some (.own o1) := e1
      have e2 : (st.env.set i (.v d))[k]? = some (.own o2) := e2
      have hj : j ≠ i := by
        intro z; subst z
        rw [List.getElem?_set_self hi] at e1; cases e1
      have hk : k ≠ i := by
        intro z; subst z
        rw [List.getElem?_set_self hi] at e2; cases e2
      rw [List.getElem?_set_ne (Ne.symm hj)] at e1
      rw [List.getElem?_set_ne (Ne.symm hk)] at e2
      exact r.dis j k o1 o2 b e1 e2
  · cases o with
    | lst ds =>
      cases hd
      obtain ⟨xs, q1, q2⟩ := h5
      rw [q1] at hho; cases hho
      exact .lst upd_same (q2.mono g (Pre.refl _))
    | dic ks vs =>
      cases hd
      obtain ⟨kvs, q1, q2, q3⟩ := h5
      rw [q1] at hho; cases hho
      exact .dic upd_same q2 (q3.mono g (Pre.refl _))
    | dit ks vs =>
      cases hd
      obtain ⟨kvs, q1, q2, q3⟩ := h5
      rw [q1] at hho; cases hho
      exact .dit upd_same q2 (q3.mono g (Pre.refl _))
    | dif ks vs =>
      cases hd
      obtain ⟨oo, kvs, q1, q2, q3⟩ := h5
      rw [q1] at hho; cases hho
      exact .dif upd_same q2 (q3.mono g (Pre.refl _))
    | ins _ _ _ => cases hd

theorem se_raw (i : Nat) {x : Str} {pos : Pos} (hN : X.N[i]? = some x := by rfl) (hv : Vis X.env.scope x := by first | exact Or.inl rfl | exact Or.inr (Or.inl rfl) | exact Or.inr (Or.inr rfl)) (hd : (x == ("__debug__" : Str)) = false := by decide)
    (hcd : (x == ("__classdict__" : Str)) = false := by decide) : PE X (.Name x pos) (TO' X.K cl W (rawV i)) := by
  refine pe_imp (pe_var hN hv hd hcd) fun σ H Q h => ?_
  obtain ⟨B, st, G, R, rel, run⟩ := h
  unfold rawV at run
  cases e : st.env[i]? with
  | none => rw [e] at run; exact run.elim
  | some c =>
    rw [e] at run
    cases c with
    | un => exact run.elim
    | exc x => exact run.elim
    | v d =>
      obtain ⟨v, h1, h2⟩ := rel.val i d e
      exact ⟨v, h1, run.done rel v h2⟩
    | own o =>
      obtain ⟨a, h1, h2⟩ := rel.own i o e
      exact ⟨.ref a, h1, run.done rel (.ref a) h1⟩
theorem to_val {A : C Opd} (h : PE X e (TO' X.K cl W A)) : PE X e (TU X.K cl W (valO A)) := by
  refine pe_imp h fun σ H Q h => ?_
  obtain ⟨B, st, G, R, rel, run⟩ := h
  refine ⟨B, st, G, R, rel, run.bind.mono fun o st1 G1 R1 H1 _ _ _ _ ⟨rel1, _, _, run1⟩ v rv => ?_⟩
  cases o with
  | d d => exact run1.done rel1 v rv
  | cell i =>
    unfold frzO at run1
    simp only at run1
    cases e : st1.env[i]? with
    | none => rw [e] at run1; exact run1.elim
    | some c =>
      rw [e] at run1
      cases c with
      | un => exact run1.elim
      | exc x => exact run1.elim
      | v d =>
        obtain ⟨v', h1, h2⟩ := rel1.val i d e
        have rv : σ[i]? = some (some v) := rv
        rw [h1] at rv
        cases rv
        exact run1.done rel1 _ h2
      | own o =>
        simp only at run1
        cases hd : o.asD with
        | none => rw [hd] at run1; exact run1.elim
        | some d =>
          rw [hd] at run1
          obtain ⟨G', g, rel', rd⟩ := rel1.freezeCell e hd rv
          exact run1 G' R1 H1 g (Pre.refl _) rel' v rd
theorem se_var (i : Nat) {x : Str} {pos : Pos} (hN : X.N[i]? = some x := by rfl) (hv : Vis X.env.scope x := by first | exact Or.inl rfl | exact Or.inr (Or.inl rfl) | exact Or.inr (Or.inr rfl)) (hd : (x == ("__debug__" : Str)) = false := by decide)
    (hcd : (x == ("__classdict__" : Str)) = false := by decide) : PE X (.Name x pos) (TU X.K cl W (varV i)) := to_val (se_raw i hN hv hd hcd)
theorem to_opd {A : C D} (h : PE X e (TU X.K cl W A)) : PE X e (TO' X.K cl W (opdC A)) := by
  refine pe_imp h fun σ H Q h => ?_
  obtain ⟨B, st, G, R, rel, run⟩ := h
  exact ⟨B, st, G, R, rel, run.bind.mono fun o st1 G1 R1 H1 _ _ _ _ ⟨rel1, _, _, run1⟩ v rv => run1.done rel1 v rv⟩
theorem to_nv {A : C D} (h : PE X e (TU X.K cl W A)) : PE X e (TN X.K cl W (nvC A)) := by
  refine pe_imp h fun σ H Q h => ?_
  obtain ⟨B, st, G, R, rel, run⟩ := h
  exact ⟨B, st, G, R, rel, run.bind.mono fun o st1 G1 R1 H1 _ _ _ _ ⟨rel1, _, _, run1⟩ v rv => run1.done rel1 v rv⟩
theorem repO_asD {K : PySem.W.Frag} {a : Addr} {o : MO} {d : D} (h : RepO K cl G R H a o) (hd : o.asD = some d) (hG : G a = none) : ∃ ho, H a = some ho ∧ RepV K (upd G a ho) R (.ref a) d := by
  cases o with
  | lst ds =>
    cases hd
    obtain ⟨xs, q1, q2⟩ := h
    exact ⟨_, q1, .lst upd_same (q2.mono (same_upd hG) (Pre.refl _))⟩
  | dic ks vs =>
    cases hd
    obtain ⟨kvs, q1, q2, q3⟩ := h
    exact ⟨_, q1, .dic upd_same q2 (q3.mono (same_upd hG) (Pre.refl _))⟩
  | dit ks vs =>
    cases hd
    obtain ⟨kvs, q1, q2, q3⟩ := h
    exact ⟨_, q1, .dit upd_same q2 (q3.mono (same_upd hG) (Pre.refl _))⟩
  | dif ks vs =>
    cases hd
    obtain ⟨oo, kvs, q1, q2, q3⟩ := h
    exact ⟨_, q1, .dif upd_same q2 (q3.mono (same_upd hG) (Pre.refl _))⟩
  | ins _ _ _ => cases hd
theorem of_nv {A : C Nv} (h : PE X e (TN X.K cl W A)) : PE X e (TU X.K cl W (valN A)) := by
  refine pe_imp h fun σ H Q h => ?_
  obtain ⟨B, st, G, R, rel, run⟩ := h
  refine ⟨B, st, G, R, rel, run.bind.mono fun o st1 G1 R1 H1 _ _ _ _ ⟨rel1, _, _, run1⟩ v rv => ?_⟩
  cases o with
  | d d => exact run1.done rel1 v rv
  | nw o =>
    obtain ⟨a, rfl, f, ro⟩ := rv
    have run1 : Run X.K cl W B σ G1 R1 (optC o.asD st1) _ := run1
    cases hd : o.asD with
    | none => rw [hd] at run1; exact run1.elim
    | some d =>
      rw [hd] at run1
      obtain ⟨ho, hho, rd⟩ := repO_asD ro hd f.g
      exact run1 (upd G1 a ho) R1 H1 (same_upd f.g) (Pre.refl _) (rel1.freeze f hho) _ rd
/-- the object just made gets a number -/
theorem Rel.share {K : PySem.W.Frag} {a : Addr} {o : MO} (r : Rel K cl B st G R σ H) (f : Fresh B st G R σ a) (ro : RepO K cl G R H a o) :
    Rel K cl B { st with M := st.M ++ [o] } G (R ++ [a]) σ H := by
  have p : Pre R (R ++ [a]) := ⟨[a], rfl⟩
  refine ⟨⟨r.m.same, r.m.g0, r.m.gn, r.m.r0.trans p, fun b hb => ?_, r.m.kp, ?_, ?_, fun n o' b h1 h2 => ?_⟩, r.len, fun i d h => ?_, fun i o' h => ?_, r.dis, r.ex⟩
  · rcases List.mem_append.mp hb with hb | hb
    · exact r.m.rk b hb
    · rw [List.mem_singleton.mp hb]
      intro u e
      rw [f.k] at e; cases e
  · show (R ++ [a]).length = (st.M ++ [o]).length
    rw [List.length_append, List.length_append, r.m.len]; rfl
  · rw [List.nodup_append]
    refine ⟨r.m.nd, by simp, fun b hb c hc z => ?_⟩
    rw [List.mem_singleton.mp hc] at z
    subst z
    exact f.r hb
  · have h1 : (st.M ++ [o])[n]? = some o' := h1
    by_cases hn : n < st.M.length
    · rw [List.getElem?_append_left hn] at h1
      rw [List.getElem?_append_left (by rw [r.m.len]; exact hn)] at h2
      obtain ⟨q1, q2⟩ := r.m.sh n o' b h1 h2
      exact ⟨q1, q2.mono (Same.refl _) p rfl⟩
    · have en : n = st.M.length := by
        have := (List.getElem?_eq_some_iff.mp h1).1
        rw [List.length_append, List.length_singleton] at this
        omega
      subst en
      rw [List.getElem?_append_right (Nat.le_refl _), Nat.sub_self] at h1
      cases h1
      rw [List.getElem?_append_right (by rw [r.m.len]; exact Nat.le_refl _), r.m.len, Nat.sub_self] at h2
      cases h2
      exact ⟨f.g, ro.mono (Same.refl _) p rfl⟩
  · obtain ⟨v, q1, q2⟩ := r.val i d h
    exact ⟨v, q1, q2.mono (Same.refl _) p⟩
  · obtain ⟨b, q1, q2, q3, q4, q5⟩ := r.own i o' h
    refine ⟨b, q1, q2, fun hb => ?_, q4, q5.mono (Same.refl _) p rfl⟩
    rcases List.mem_append.mp hb with hb | hb
    · exact q3 hb
    · rw [List.mem_singleton.mp hb] at q1
      exact f.e i o' h q1
theorem to_shr {A : C Nv} (h : PE X e (TN X.K cl W A)) : PE X e (TU X.K cl W (shrN A)) := by
  refine pe_imp h fun σ H Q h => ?_
  obtain ⟨B, st, G, R, rel, run⟩ := h
  refine ⟨B, st, G, R, rel, run.bind.mono fun o st1 G1 R1 H1 _ _ _ _ ⟨rel1, _, _, run1⟩ v rv => ?_⟩
  cases o with
  | d d => exact run1.done rel1 v rv
  | nw o =>
    obtain ⟨a, rfl, f, ro⟩ := rv
    refine run1 G1 (R1 ++ [a]) H1 (Same.refl _) ⟨[a], rfl⟩ (rel1.share f ro) _ (.ob ?_)
    rw [List.getElem?_append_right (by rw [rel1.m.len]; exact Nat.le_refl _), rel1.m.len, Nat.sub_self]
    rfl

/-! ### constants -/
theorem se_c {v : V} {d : D} (h : PE X e (tC v)) (r : ∀ K G R, RepV K G R v d) : PE X e (TU X.K cl W (pureC d)) := by
  refine pe_imp h fun σ H Q h => ?_
  obtain ⟨B, st, G, R, rel, run⟩ := h
  exact run.done rel v (r _ _ _)
theorem se_int {i : Int} {j pos} : PE X (.Constant (.int i) j pos) (TU X.K cl W (pureC (.int i))) := se_c pe_int fun _ _ _ => .int i
theorem se_bl {b : Bool} {j pos} : PE X (.Constant (.bool b) j pos) (TU X.K cl W (pureC (.bl b))) := se_c pe_bl fun _ _ _ => .bl b
theorem se_non {j pos} : PE X (.Constant .none j pos) (TU X.K cl W (pureC .non)) := se_c pe_non fun _ _ _ => .non
theorem se_str {x : Str} {t : List Nat} {j pos} (h : x = toS t := by decide +kernel) : PE X (.Constant (.str x) j pos) (TU X.K cl W (pureC (.str t))) := by
  subst h
  exact se_c pe_str fun _ _ _ => .str t

/-! ### two operands -/
def rU2 (K : PySem.W.Frag) (cl : CL) (W : WX) (f : Opd → Opd → C Nv) : R2 := fun x y H Q => ∃ B st G R σ dx dy, Rel K cl B st G R σ H ∧ RepOp K G R σ x dx ∧ RepOp K G R σ y dy ∧
  Run K cl W B σ G R (f dx dy st) (fun d st' G' R' H' => ∀ v, RepN K cl B st' G' R' σ H' v d → Q v H')
def bin2 (f : Opd → Opd → C Nv) (A B : C Opd) : C Nv := bndC A fun x => bndC B fun y => f x y
variable {a b : Expr} {A A' : C Opd} {pos : Pos}
theorem op2 {r : R2} {f : Opd → Opd → C Nv} {Q : VK} (hr : ∀ x y H Q, rU2 X.K cl W f x y H Q → r x y H Q) (h : TN X.K cl W (bin2 f A A') σ H Q) : tOp r (TO' X.K cl W A) (TO' X.K cl W A') σ H Q := by
  obtain ⟨B, st, G, R, rel, run⟩ := h
  refine ⟨B, st, G, R, rel, run.bind.mono fun x st1 G1 R1 H1 _ _ _ _ ⟨rel1, _, _, run1⟩ v rv => ?_⟩
  refine ⟨B, st1, G1, R1, rel1, run1.bind.mono fun y st2 G2 R2 H2 _ g r _ ⟨rel2, _, _, run2⟩ w rw => ?_⟩
  exact hr _ _ _ _ ⟨B, st2, G2, R2, σ, x, y, rel2, rv.mono g r, rw, run2⟩
theorem se_bin {op : Operator} {f : Opd → Opd → C Nv} (ho : OpR X (binaryOp op) (rU2 X.K cl W f)) (ha : PE X a (TO' X.K cl W A)) (hb : PE X b (TO' X.K cl W A')) : PE X (.BinOp a op b pos) (TN X.K cl W (bin2 f A A')) :=
  pe_imp (pe_op ho ha hb) fun _ _ _ h => op2 (fun _ _ _ _ q => q) h
/-- numbers -/
def numC (f : Int → Int → Option Int) (A B : C D) : C D := bndC A fun x => bndC B fun y => optC (match x, y with | .int i, .int j => (f i j).map .int | _, _ => none)
def bop2 {α : Type} (A B : C D) (f : D → D → C α) : C α := bndC A fun x => bndC B fun y => f x y
theorem opD2 {r : R2} {E E' : C D} {f : D → D → C D} {Q : VK} (hr : ∀ x y H Q, (∃ B st G R σ dx dy, Rel X.K cl B st G R σ H ∧ RepV X.K G R x dx ∧ RepV X.K G R y dy ∧ Run X.K cl W B σ G R (f dx dy st) (fun d st' G' R' H' => ∀ v, RepV X.K G' R' v d → Q v H')) → r x y H Q)
    (h : TU X.K cl W (bop2 E E' f) σ H Q) : tOp r (TU X.K cl W E) (TU X.K cl W E') σ H Q := by
  obtain ⟨B, st, G, R, rel, run⟩ := h
  refine ⟨B, st, G, R, rel, run.bind.mono fun x st1 G1 R1 H1 _ _ _ _ ⟨rel1, _, _, run1⟩ v rv => ?_⟩
  refine ⟨B, st1, G1, R1, rel1, run1.bind.mono fun y st2 G2 R2 H2 _ g r _ ⟨rel2, _, _, run2⟩ w rw => ?_⟩
  exact hr _ _ _ _ ⟨B, st2, G2, R2, σ, x, y, rel2, rv.mono g r, rw, run2⟩
theorem se_num {op : Operator} {P : Int → Int → Prop} {g : Int → Int → Int} {f : Int → Int → Option Int} {E E' : C D} (ho : OpR X (binaryOp op) (rI P fun i j => .int (g i j))) (hf : ∀ i j k, f i j = some k → P i j ∧ k = g i j)
    (ha : PE X a (TU X.K cl W E)) (hb : PE X b (TU X.K cl W E')) : PE X (.BinOp a op b pos) (TU X.K cl W (numC f E E')) := by
  refine pe_imp (pe_op ho ha hb) fun σ H Q h => opD2 (f := fun x y => optC (match x, y with | .int i, .int j => (f i j).map .int | _, _ => none)) (fun x y H Q q => ?_) h
  obtain ⟨B, st, G, R, σ, dx, dy, rel, rx, ry, run⟩ := q
  cases rx with
  | int i =>
    cases ry with
    | int j =>
      cases e : f i j with
      | none => simp only [e, Option.map_none, optC] at run; exact run.elim
      | some k =>
        obtain ⟨h1, rfl⟩ := hf i j k e
        simp only [e, Option.map_some, optC] at run
        exact ⟨i, j, rfl, rfl, h1, run.done rel _ (.int _)⟩
    | _ => exact run.elim
  | _ => cases ry <;> exact run.elim
def subF (i j : Int) : Option Int := some (i - j)
def modF (i j : Int) : Option Int := if 0 < j then some (i % j) else none
def divF (i j : Int) : Option Int := if 0 < j ∧ j.natAbs.log2 < 9000 then some (i / j) else none
/-- k at most n, read so that the kernel does not count n down -/
def leN (k : Int) (n : Nat) : Bool := Nat.ble k.toNat n
theorem leN_iff (k : Int) (n : Nat) : leN k n = true ↔ k ≤ (n : Int) := by
  unfold leN
  rw [Nat.ble_eq]
  omega
def powF (i j : Int) : Option Int := if 0 ≤ j ∧ leN j 1000000 = true ∧ i.natAbs < 2 ^ 64 then some (i ^ j.toNat) else none
def shlF (i j : Int) : Option Int := if 0 ≤ j ∧ leN ((Builtin.Int.intBits i : Int) + j) 134217728 = true then some (i * 2 ^ j.toNat) else none
def shrF (i j : Int) : Option Int := if 0 ≤ j then some (i / 2 ^ j.toNat) else none
def andF (i j : Int) : Option Int := some (Builtin.bitAnd i j)
def orF (i j : Int) : Option Int := some (Builtin.bitOr i j)
def xorF (i j : Int) : Option Int := some (Builtin.bitXor i j)
theorem opI_of {op : Operator} {g : Int → Int → V} (h : OpR X (binaryOp op) (rI0 g)) : OpR X (binaryOp op) (rI (fun _ _ => True) g) := fun pins s σ H x y v u Q I rx ry ⟨i, j, e1, e2, _, q⟩ => h pins s σ H x y v u Q I rx ry ⟨i, j, e1, e2, q⟩
variable {E E' : C D}
theorem se_sub (ha : PE X a (TU X.K cl W E)) (hb : PE X b (TU X.K cl W E')) : PE X (.BinOp a .Sub b pos) (TU X.K cl W (numC subF E E')) :=
  se_num (opI_of op_sub) (fun i j k h => by cases h; exact ⟨trivial, rfl⟩) ha hb
theorem se_mod (ha : PE X a (TU X.K cl W E)) (hb : PE X b (TU X.K cl W E')) : PE X (.BinOp a .Mod b pos) (TU X.K cl W (numC modF E E')) :=
  se_num op_mod (fun i j k h => by
    unfold modF at h
    split at h
    · cases h; exact ⟨by assumption, rfl⟩
    · cases h) ha hb
theorem se_div (ha : PE X a (TU X.K cl W E)) (hb : PE X b (TU X.K cl W E')) : PE X (.BinOp a .FloorDiv b pos) (TU X.K cl W (numC divF E E')) :=
  se_num op_fdivW (fun i j k h => by
    unfold divF at h
    split at h
    · cases h; exact ⟨by assumption, rfl⟩
    · cases h) ha hb
theorem se_pow (ha : PE X a (TU X.K cl W E)) (hb : PE X b (TU X.K cl W E')) : PE X (.BinOp a .Pow b pos) (TU X.K cl W (numC powF E E')) :=
  se_num op_pow (fun i j k h => by
    unfold powF at h
    split at h
    · rename_i q
      simp only [leN_iff] at q
      cases h; exact ⟨by first | (show 0 ≤ j ∧ j ≤ 1000000 ∧ i.natAbs < 2 ^ 64; exact q) | (show 0 ≤ j ∧ _ ≤ _; exact q), rfl⟩
    · cases h) ha hb
theorem se_shl (ha : PE X a (TU X.K cl W E)) (hb : PE X b (TU X.K cl W E')) : PE X (.BinOp a .LShift b pos) (TU X.K cl W (numC shlF E E')) :=
  se_num op_shlW (fun i j k h => by
    unfold shlF at h
    split at h
    · rename_i q
      simp only [leN_iff] at q
      cases h; exact ⟨by first | (show 0 ≤ j ∧ j ≤ 1000000 ∧ i.natAbs < 2 ^ 64; exact q) | (show 0 ≤ j ∧ _ ≤ _; exact q), rfl⟩
    · cases h) ha hb
theorem se_shr (ha : PE X a (TU X.K cl W E)) (hb : PE X b (TU X.K cl W E')) : PE X (.BinOp a .RShift b pos) (TU X.K cl W (numC shrF E E')) :=
  se_num op_shr (fun i j k h => by
    unfold shrF at h
    split at h
    · cases h; exact ⟨by assumption, rfl⟩
    · cases h) ha hb
theorem se_and' (ha : PE X a (TU X.K cl W E)) (hb : PE X b (TU X.K cl W E')) : PE X (.BinOp a .BitAnd b pos) (TU X.K cl W (numC andF E E')) :=
  se_num (opI_of op_and) (fun i j k h => by cases h; exact ⟨trivial, rfl⟩) ha hb
theorem se_or' (ha : PE X a (TU X.K cl W E)) (hb : PE X b (TU X.K cl W E')) : PE X (.BinOp a .BitOr b pos) (TU X.K cl W (numC orF E E')) :=
  se_num (opI_of op_or) (fun i j k h => by cases h; exact ⟨trivial, rfl⟩) ha hb
theorem se_xor' (ha : PE X a (TU X.K cl W E)) (hb : PE X b (TU X.K cl W E')) : PE X (.BinOp a .BitXor b pos) (TU X.K cl W (numC xorF E E')) :=
  se_num (opI_of op_xor) (fun i j k h => by cases h; exact ⟨trivial, rfl⟩) ha hb
end

/-! ### what an operand shows -/
def seqD (st : Ms) : D → Option (List D)
  | .lst ds => some ds
  | .ob n => match st.M[n]? with
    | some (.lst ds) => some ds
    | _ => none
  | _ => none
def seqL (st : Ms) : Opd → Option (List D)
  | .d d => seqD st d
  | .cell i => match st.env[i]? with
    | some (.own (.lst ds)) => some ds
    | some (.v d) => seqD st d
    | _ => none
def dicD (st : Ms) : D → Option (List D × List D)
  | .dic ks vs => some (ks, vs)
  | .ob n => match st.M[n]? with
    | some (.dic ks vs) => some (ks, vs)
    | _ => none
  | _ => none
def dicL (st : Ms) : Opd → Option (List D × List D)
  | .d d => dicD st d
  | .cell i => match st.env[i]? with
    | some (.own (.dic ks vs)) => some (ks, vs)
    | some (.v d) => dicD st d
    | _ => none
/-- an operand that is a value (what a name holds, too) -/
def dOf (st : Ms) : Opd → Option D
  | .d d => some d
  | .cell i => match st.env[i]? with
    | some (.v d) => some d
    | _ => none
section
variable {K : PySem.W.Frag} {cl : CL} {B : Base} {st : Ms} {G H : Hp} {R : List Addr} {σ : L2.St} {v : V} {od : Opd} {d : D} {ds ks vs : List D}
theorem seqD_ok (r : Rel K cl B st G R σ H) (h : RepV K G R v d) (e : seqD st d = some ds) : ∃ a xs, v = .ref a ∧ H a = some (.lst xs) ∧ RepA K G R xs ds := by
  cases h with
  | lst h1 h2 => cases e; exact ⟨_, _, rfl, r.m.same _ _ h1, h2⟩
  | ob h1 =>
    rename_i a n
    unfold seqD at e
    simp only at e
    split at e
    · rename_i ds' h2
      cases e
      obtain ⟨_, xs, q1, q2⟩ := r.m.sh n _ a h2 h1
      exact ⟨a, xs, rfl, q1, q2⟩
    · cases e
  | _ => cases e
theorem seqL_ok (r : Rel K cl B st G R σ H) (h : RepOp K G R σ v od) (e : seqL st od = some ds) : ∃ a xs, v = .ref a ∧ H a = some (.lst xs) ∧ RepA K G R xs ds := by
  cases od with
  | d d => exact seqD_ok r h e
  | cell i =>
    unfold seqL at e
    simp only at e
    split at e
    · rename_i ds' h2
      cases e
      obtain ⟨a, q1, q2, q3, q4, xs, q5, q6⟩ := r.own i _ h2
      have h : σ[i]? = some (some v) := h
      rw [q1] at h; cases h
      exact ⟨a, xs, rfl, q5, q6⟩
    · rename_i d h2
      obtain ⟨v', q1, q2⟩ := r.val i _ h2
      have h : σ[i]? = some (some v) := h
      rw [q1] at h; cases h
      exact seqD_ok r q2 e
    · cases e
theorem dicD_ok (r : Rel K cl B st G R σ H) (h : RepV K G R v d) (e : dicD st d = some (ks, vs)) : ∃ a kvs, v = .ref a ∧ H a = some (.dK kvs) ∧ ks = kvs.map (fun p => keyD p.1) ∧ RepA K G R (kvs.map (·.2)) vs := by
  cases h with
  | dic h1 h2 h3 => cases e; exact ⟨_, _, rfl, r.m.same _ _ h1, h2, h3⟩
  | ob h1 =>
    rename_i a n
    unfold dicD at e
    simp only at e
    split at e
    · rename_i ks' vs' h2
      cases e
      obtain ⟨_, kvs, q1, q2, q3⟩ := r.m.sh n _ a h2 h1
      exact ⟨a, kvs, rfl, q1, q2, q3⟩
    · cases e
  | _ => cases e
theorem dicL_ok (r : Rel K cl B st G R σ H) (h : RepOp K G R σ v od) (e : dicL st od = some (ks, vs)) : ∃ a kvs, v = .ref a ∧ H a = some (.dK kvs) ∧ ks = kvs.map (fun p => keyD p.1) ∧ RepA K G R (kvs.map (·.2)) vs := by
  cases od with
  | d d => exact dicD_ok r h e
  | cell i =>
    unfold dicL at e
    simp only at e
    split at e
    · rename_i ks' vs' h2
      cases e
      obtain ⟨a, q1, q2, q3, q4, kvs, q5, q6, q7⟩ := r.own i _ h2
      have h : σ[i]? = some (some v) := h
      rw [q1] at h; cases h
      exact ⟨a, kvs, rfl, q5, q6, q7⟩
    · rename_i d h2
      obtain ⟨v', q1, q2⟩ := r.val i _ h2
      have h : σ[i]? = some (some v) := h
      rw [q1] at h; cases h
      exact dicD_ok r q2 e
    · cases e
theorem dOf_ok (r : Rel K cl B st G R σ H) (h : RepOp K G R σ v od) (e : dOf st od = some d) : RepV K G R v d := by
  cases od with
  | d d' => cases e; exact h
  | cell i =>
    unfold dOf at e
    simp only at e
    split at e
    · rename_i d' h2
      cases e
      obtain ⟨v', q1, q2⟩ := r.val i _ h2
      have h : σ[i]? = some (some v) := h
      rw [q1] at h; cases h
      exact q2
    · cases e
end
end VL

namespace VL
open PySem PySem.Spec PyProof.Rows L2

def LIM : Nat := 1000000
theorem lim_le {n : Nat} (h : n ≤ LIM) : n ≤ sizeLine := Nat.le_trans h (by decide)
theorem lim_lt {n : Nat} (h : n < LIM) : n < sizeLine := Nat.lt_of_lt_of_le h (by decide)

/-! ### + and * -/
def addF (x y : Opd) : C Nv := fun st => match dOf st x, dOf st y with
  | some (.int i), some (.int j) => some (.ok (.d (.int (i + j))), st)
  | some (.str s), some (.str t) => if s.length + t.length ≤ LIM then some (.ok (.d (.str (s ++ t))), st) else none
  | some (.tup s), some (.tup t) => if s.length + t.length ≤ LIM then some (.ok (.d (.tup (s ++ t))), st) else none
  | _, _ => match seqL st x, seqL st y with
    | some s, some t => if s.length + t.length ≤ LIM then some (.ok (.nw (.lst (s ++ t))), st) else none
    | _, _ => none
def repT (t : List Nat) (k : Int) : List Nat := (List.replicate k.toNat t).flatten
def mulF (x y : Opd) : C Nv := fun st => match dOf st x, dOf st y with
  | some (.int i), some (.int j) => if i.natAbs.log2 + j.natAbs.log2 < 1000000 then some (.ok (.d (.int (i * j))), st) else none
  | some (.str s), some (.int k) => if leN (-k) 1000000 = true ∧ leN k 1000000 = true ∧ s.length * k.toNat ≤ LIM then some (.ok (.d (.str (repT s k))), st) else none
  | _, some (.int k) => match seqL st x with
    | some s => if leN (-k) 1000000 = true ∧ leN k 1000000 = true ∧ s.length * k.toNat ≤ LIM then some (.ok (.nw (.lst (List.replicate k.toNat s).flatten)), st) else none
    | _ => none
  | _, _ => none
section
variable {X : Cx} {cl : CL} {W : WX} {B : Base} {st : Ms} {G H : Hp} {R : List Addr} {σ : L2.St}
/-- an end by a value, an end by a new object -/
theorem fin_d {α : Type} {Q : VK} {d : D} {v : V} (rel : Rel X.K cl B st G R σ H) (run : Run X.K cl W B σ G R (some (.ok (Nv.d d), st)) (fun d st' G' R' H' => ∀ v, RepN X.K cl B st' G' R' σ H' v d → Q v H')) (r : RepV X.K G R v d) : Q v H := run.done rel v r
theorem fin_tup {Q : VK} {ds : List D} {xs : List V} {p : Addr} (rel : Rel X.K cl B st G R σ H) (run : Run X.K cl W B σ G R (some (.ok (Nv.d (.tup ds)), st)) (fun d st' G' R' H' => ∀ v, RepN X.K cl B st' G' R' σ H' v d → Q v H')) (r : RepA X.K G R xs ds) (hp : H p = none) : Q (.ref p) (upd H p (.tup xs)) := by
  have f := rel.fresh hp
  have g := same_upd (ho := .tup xs) f.g
  exact run (upd G p (.tup xs)) R _ g (Pre.refl _) ((rel.new hp).freeze f upd_same) _ (.tup upd_same (r.mono g (Pre.refl _)))
theorem fin_lst {Q : VK} {ds : List D} {xs : List V} {p : Addr} (rel : Rel X.K cl B st G R σ H) (run : Run X.K cl W B σ G R (some (.ok (Nv.nw (.lst ds)), st)) (fun d st' G' R' H' => ∀ v, RepN X.K cl B st' G' R' σ H' v d → Q v H')) (r : RepA X.K G R xs ds) (hp : H p = none) : Q (.ref p) (upd H p (.lst xs)) := by
  have f := rel.fresh hp
  exact run G R _ (Same.refl _) (Pre.refl _) (rel.new hp) _ ⟨p, rfl, f, xs, upd_same, r⟩
theorem op_addU : OpR X (binaryOp .Add) (rU2 X.K cl W addF) := by
  intro pins s σ0 H x y v u Q I rx ry h
  obtain ⟨B, st, G, R, σ, dx, dy, rel, hx, hy, run⟩ := h
  unfold addF at run
  try simp only at run
  split at run
  · rename_i i j ex ey
    have h1 := dOf_ok rel hx ex
    have h2 := dOf_ok rel hy ey
    cases h1; cases h2
    exact op_add pins s σ0 H _ _ v u Q I rx ry ⟨i, j, rfl, rfl, run.done rel _ (.int _)⟩
  · rename_i a b ex ey
    have h1 := dOf_ok rel hx ex
    have h2 := dOf_ok rel hy ey
    cases h1; cases h2
    split at run
    · rename_i hz
      refine op_add_str pins s σ0 H _ _ v u Q I rx ry ⟨toS a, toS b, rfl, rfl, by rw [toS_len, toS_len]; exact lim_le hz, ?_⟩
      rw [toS_app]
      exact run.done rel _ (.str _)
    · exact run.elim
  · rename_i a b ex ey
    have h1 := dOf_ok rel hx ex
    have h2 := dOf_ok rel hy ey
    cases h1 with
    | tup ga ra =>
    cases h2 with
    | tup gb rb =>
    rename_i pa xs pb ys
    split at run
    · rename_i hz
      refine op_catA pins s σ0 H _ _ v u Q I rx ry ⟨pa, pb, xs, ys, rfl, rfl, SqT.of (rel.m.same _ _ ga), SqT.of (rel.m.same _ _ gb), by rw [ra.length, rb.length]; exact lim_le hz, fun e => ?_, fun e e' => ?_, fun _ _ p hp => fin_tup rel run (ra.append rb) hp⟩
      · subst e
        cases ra
        exact run.done rel _ (.tup gb rb)
      · subst e'
        cases rb
        rw [List.append_nil] at run
        exact run.done rel _ (.tup ga ra)
    · exact run.elim
  · split at run
    · rename_i a b ex ey
      obtain ⟨pa, xs, rfl, qa, ra⟩ := seqL_ok rel hx ex
      obtain ⟨pb, ys, rfl, qb, rb⟩ := seqL_ok rel hy ey
      split at run
      · rename_i hz
        exact op_cat pins s σ0 H _ _ v u Q I rx ry ⟨pa, pb, xs, ys, rfl, rfl, qa, qb, by rw [ra.length, rb.length]; exact lim_le hz, fun p hp => fin_lst rel run (ra.append rb) hp⟩
      · exact run.elim
    · exact run.elim
theorem RepA.rep {K : PySem.W.Frag} {xs : List V} {ds : List D} (h : RepA K G R xs ds) : ∀ k : Nat, RepA K G R (List.replicate k xs).flatten (List.replicate k ds).flatten
  | 0 => .nil
  | k + 1 => by
    rw [List.replicate_succ, List.replicate_succ, List.flatten_cons, List.flatten_cons]
    exact h.append (RepA.rep h k)
theorem mul_txt (s : List Nat) (k : Int) : Txt.mul (toS s) k = toS (repT s k) := by
  unfold Txt.mul repT
  have fold : ∀ (n : Nat) (acc : Array Nat), ((List.replicate n s.toArray).foldl (· ++ ·) acc) = acc ++ (List.replicate n s).flatten.toArray := by
    intro n
    induction n with
    | zero => intro acc; simp
    | succ n ih => intro acc; rw [List.replicate_succ, List.foldl_cons, ih, List.replicate_succ, List.flatten_cons]; simp [Array.append_assoc]
  split
  · rename_i h
    have : k.toNat = 0 := by omega
    rw [this]; rfl
  · split
    · rename_i h1 h2
      rw [Bool.or_eq_true] at h2
      rcases h2 with h2 | h2
      · have : k = 1 := by simpa using h2
        subst this
        show toS s = toS (List.replicate 1 s).flatten
        simp
      · have : s = [] := by
          have h3 : s.length = 0 := by simpa [toS_len] using h2
          exact List.length_eq_zero_iff.mp h3
        subst this
        show toS [] = toS (List.replicate k.toNat []).flatten
        have : ∀ n : Nat, (List.replicate n ([] : List Nat)).flatten = [] := fun n => by
          induction n with
          | zero => rfl
          | succ n ih => rw [List.replicate_succ, List.flatten_cons, ih]; rfl
        rw [this]
    · show (⟨(List.replicate k.toNat (toS s).cps).foldl (· ++ ·) #[]⟩ : Str) = ⟨(List.replicate k.toNat s).flatten.toArray⟩
      have := fold k.toNat #[]
      simp only [toS]
      rw [this]
      simp
theorem mul_ok {s : List Nat} {k : Int} (h1 : -1000000 ≤ k) (h2 : k ≤ 1000000) (h3 : s.length * k.toNat ≤ LIM) : MulOk (toS s) k := by
  refine ⟨by simp; omega, fun h4 h5 => ?_, fun h4 h5 => ?_⟩
  · rw [toS_len]
    intro z
    have hk : 0 < k := by omega
    have this : (9223372036854 : Int) ≤ (2 ^ 63 - 1) / k := Int.le_ediv_of_mul_le hk (by omega)
    have h6 : s.length ≤ LIM := by
      have : s.length * 1 ≤ s.length * k.toNat := Nat.mul_le_mul_left _ (by omega)
      omega
    have h8 : LIM = 1000000 := rfl
    omega
  · rw [toS_len]
    have := lim_le h3
    have e := sizeLine_eq
    simp only [Builtin.Str.tooLong]
    first
      | (apply decide_eq_false; omega)
      | (simp; omega)
theorem op_mulU : OpR X (binaryOp .Mult) (rU2 X.K cl W mulF) := by
  intro pins s σ0 H x y v u Q I rx ry h
  obtain ⟨B, st, G, R, σ, dx, dy, rel, hx, hy, run⟩ := h
  unfold mulF at run
  try simp only at run
  split at run
  · rename_i i j ex ey
    have h1 := dOf_ok rel hx ex
    have h2 := dOf_ok rel hy ey
    cases h1; cases h2
    split at run
    · rename_i hz
      exact op_mulW pins s σ0 H _ _ v u Q I rx ry ⟨i, j, rfl, rfl, hz, run.done rel _ (.int _)⟩
    · exact run.elim
  · rename_i a k ex ey
    have h1 := dOf_ok rel hx ex
    have h2 := dOf_ok rel hy ey
    cases h1; cases h2
    split at run
    · rename_i hz
      obtain ⟨t, rfl⟩ := rx
      obtain ⟨t', rfl⟩ := ry
      have z1 := (leN_iff _ _).mp hz.1
      have z2 := (leN_iff _ _).mp hz.2.1
      refine SB.mul (mul_ok (by omega) (by omega) hz.2.2) fun t2 k2 => ⟨.str (toS (repT a k)), H, I.tok k2, ⟨t2, by rw [mul_txt]⟩, run.done rel _ (.str _)⟩
    · exact run.elim
  · rename_i k ey hn1 hn2
    split at run
    · rename_i a ex
      obtain ⟨pa, xs, rfl, qa, ra⟩ := seqL_ok rel hx ex
      have h2 := dOf_ok rel hy ey
      cases h2
      split at run
      · rename_i hz
        have z1 := (leN_iff _ _).mp hz.1
        have z2 := (leN_iff _ _).mp hz.2.1
        exact op_rep pins s σ0 H _ _ v u Q I rx ry ⟨pa, k, xs, rfl, rfl, qa, by omega, by omega, by rw [ra.length]; exact lim_le hz.2.2, fun p hp => fin_lst rel run (ra.rep _) hp⟩
      · exact run.elim
    · exact run.elim
  · exact run.elim
variable {a b c e : Expr} {A A' : C Opd} {E E' E'' : C D} {pos : Pos}
theorem se_add (ha : PE X a (TO' X.K cl W A)) (hb : PE X b (TO' X.K cl W A')) : PE X (.BinOp a .Add b pos) (TN X.K cl W (bin2 addF A A')) := se_bin op_addU ha hb
theorem se_mul (ha : PE X a (TO' X.K cl W A)) (hb : PE X b (TO' X.K cl W A')) : PE X (.BinOp a .Mult b pos) (TN X.K cl W (bin2 mulF A A')) := se_bin op_mulU ha hb
def negC (E : C D) : C D := bndC E fun d => optC (match d with | .int i => some (.int (-i)) | _ => none)
theorem se_neg (ha : PE X a (TU X.K cl W E)) : PE X (.UnaryOp .USub a pos) (TU X.K cl W (negC E)) := by
  refine pe_imp (pe_un un_neg ha) fun σ H Q h => ?_
  obtain ⟨B, st, G, R, rel, run⟩ := h
  refine ⟨B, st, G, R, rel, run.bind.mono fun d st1 G1 R1 H1 _ _ _ _ ⟨rel1, _, _, run1⟩ v rv => ?_⟩
  cases rv with
  | int i => exact ⟨i, rfl, run1.done rel1 _ (.int _)⟩
  | _ => exact run1.elim

/-! ### comparisons -/
mutual
def toP : D → PyData
  | .non => .none
  | .bl b => .bool b
  | .int i => .int i
  | .str t => .str (toS t)
  | .lst ds => .list (toPA ds)
  | .tup ds => .tuple (toPA ds)
  | .dic _ _ => .dict []
  | .scr _ => .dict []
  | .ob _ => .dict []
  | .dit _ _ => .dict []
  | .dif _ _ => .dict []
def toPA : List D → List PyData
  | [] => []
  | d :: ds => toP d :: toPA ds
end
mutual
theorem dp_of {K : PySem.W.Frag} (g : Same G H) : ∀ {v : V} {d : D}, RepV K G R v d → (toP d).canLay0 = true → Dp K H v (toP d)
  | _, _, .non, _ => .non
  | _, _, .bl b, _ => .bl b
  | _, _, .int i, _ => .int i
  | _, _, .str t, _ => .str _
  | _, _, .lst h r, k => by
    rw [toP] at k ⊢
    exact .lst (SqL.of (g _ _ h)) (dpa_of g r (by simpa [PyData.canLay0] using k))
  | _, _, .tup h r, k => by
    rw [toP] at k ⊢
    exact .tup (SqT.of (g _ _ h)) (dpa_of g r (by simpa [PyData.canLay0] using k))
  | _, _, .dic _ _ _, k => by simp [toP, PyData.canLay0] at k
  | _, _, .dit _ _ _, k => by simp [toP, PyData.canLay0] at k
  | _, _, .dif _ _ _, k => by simp [toP, PyData.canLay0] at k
  | _, _, .scr _, k => by simp [toP, PyData.canLay0] at k
  | _, _, .ob _, k => by simp [toP, PyData.canLay0] at k
theorem dpa_of {K : PySem.W.Frag} (g : Same G H) : ∀ {vs : List V} {ds : List D}, RepA K G R vs ds → PyData.canLayAll0 (toPA ds) = true → DpAll K H vs (toPA ds)
  | _, _, .nil, _ => .nil
  | _, _, .cons h t, k => by
    rw [toPA] at k ⊢
    rw [PyData.canLayAll0, Bool.and_eq_true] at k
    exact .cons (dp_of g h k.1) (dpa_of g t k.2)
end
/-- an operand as data that == reads -/
def pyO (st : Ms) (x : Opd) : Option PyData := match seqL st x with
  | some ds => some (.list (toPA ds))
  | none => match dOf st x with
    | some d => some (toP d)
    | none => none
theorem pyO_ok {K : PySem.W.Frag} {v : V} {od : Opd} {p : PyData} (r : Rel K cl B st G R σ H) (h : RepOp K G R σ v od) (e : pyO st od = some p) (s : SeqAt.shaped p = true) : Dp K H v p := by
  have k := SeqAt.canLay_of_shaped s
  unfold pyO at e
  split at e
  · rename_i ds e1
    obtain ⟨a, xs, rfl, q, ra⟩ := seqL_ok r h e1
    cases e
    exact .lst (SqL.of q) (dpa_of r.m.same ra (by simpa [PyData.canLay0] using k))
  · split at e
    · rename_i d e1
      cases e
      exact dp_of r.m.same (dOf_ok r h e1) k
    · cases e
def sEq : D → D → Option Bool
  | .int i, .int j => some (decide (i = j))
  | .str s, .str t => some (decide (s = t))
  | .bl s, .bl t => some (decide (s = t))
  | .non, .non => some true
  | .non, .int _ => some false
  | .int _, .non => some false
  | .non, .bl _ => some false
  | .bl _, .non => some false
  | .non, .str _ => some false
  | .str _, .non => some false
  | .int _, .str _ => some false
  | .str _, .int _ => some false
  | .bl _, .str _ => some false
  | .str _, .bl _ => some false
  | _, _ => none
theorem sEq_ok {K : PySem.W.Frag} {x y : V} {d e : D} {k : Bool} (hx : RepV K G R x d) (hy : RepV K G R y e) (h : sEq d e = some k) : scal x y = true ∧ decide (x = y) = k := by
  cases hx <;> cases hy <;> first
    | (cases h; fail)
    | (simp only [sEq, Option.some.injEq] at h; subst h; refine ⟨rfl, ?_⟩; simp; done)
    | (simp only [sEq, Option.some.injEq] at h; subst h; refine ⟨rfl, ?_⟩; rw [decide_eq_decide]; simp; exact ⟨toS_inj, fun e => by rw [e]⟩)
    | (simp [sEq] at h; done)
    | (simp only [sEq, Option.some.injEq] at h; subst h; refine ⟨rfl, ?_⟩; rw [decide_eq_decide]; exact ⟨fun e => toS_inj (V.str.inj e), fun e => by rw [e]⟩)
def deepF (st : Ms) (x y : Opd) : Option Bool := match pyO st x, pyO st y with
  | some p, some q => if SeqAt.shaped p = true ∧ SeqAt.shaped q = true then some (PyData.eqv p q) else none
  | _, _ => none
def eqF (st : Ms) (x y : Opd) : Option Bool := match dOf st x, dOf st y with
  | some d, some e => match sEq d e with
    | some k => some k
    | none => deepF st x y
  | _, _ => deepF st x y
def neF (st : Ms) (x y : Opd) : Option Bool := (eqF st x y).map (!·)
def rC2 (K : PySem.W.Frag) (cl : CL) (f : Ms → Opd → Opd → Option Bool) : R2 := fun x y H Q => ∃ B st G R σ dx dy k, Rel K cl B st G R σ H ∧ RepOp K G R σ x dx ∧ RepOp K G R σ y dy ∧ f st dx dy = some k ∧ Q (.bl k) H
theorem eqF_cases {st : Ms} {x y : Opd} {k : Bool} (h : eqF st x y = some k) : (∃ d e, dOf st x = some d ∧ dOf st y = some e ∧ sEq d e = some k) ∨ ∃ p q, pyO st x = some p ∧ pyO st y = some q ∧ SeqAt.shaped p = true ∧ SeqAt.shaped q = true ∧ PyData.eqv p q = k := by
  have deep : deepF st x y = some k → ∃ p q, pyO st x = some p ∧ pyO st y = some q ∧ SeqAt.shaped p = true ∧ SeqAt.shaped q = true ∧ PyData.eqv p q = k := fun h => by
    unfold deepF at h
    split at h
    · rename_i p q e1 e2
      split at h
      · rename_i s
        exact ⟨p, q, e1, e2, s.1, s.2, Option.some.inj h⟩
      · cases h
    · cases h
  unfold eqF at h
  split at h
  · rename_i d e e1 e2
    split at h
    · rename_i k' e3
      cases h
      exact .inl ⟨d, e, e1, e2, e3⟩
    · exact .inr (deep h)
  · exact .inr (deep h)
theorem op_eqU (hu : X.A.units + 64 < cLine) : OpR X (compareOp .Eq) (rC2 X.K cl eqF) := by
  intro pins s σ0 H x y v u Q I rx ry h
  obtain ⟨B, st, G, R, σ, dx, dy, k, rel, hx, hy, e, q⟩ := h
  rcases eqF_cases e with ⟨d, e', e1, e2, e3⟩ | ⟨p, p', e1, e2, s1, s2, e3⟩
  · obtain ⟨h1, h2⟩ := sEq_ok (dOf_ok rel hx e1) (dOf_ok rel hy e2) e3
    exact op_eq pins s σ0 H x y v u Q I rx ry ⟨h1, by rw [h2]; exact q⟩
  · exact op_eqD hu pins s σ0 H x y v u Q I rx ry ⟨p, p', pyO_ok rel hx e1 s1, pyO_ok rel hy e2 s2, s1, s2, by rw [e3]; exact q⟩
theorem op_neU (hu : X.A.units + 64 < cLine) : OpR X (compareOp .NotEq) (rC2 X.K cl neF) := by
  intro pins s σ0 H x y v u Q I rx ry h
  obtain ⟨B, st, G, R, σ, dx, dy, k, rel, hx, hy, e, q⟩ := h
  unfold neF at e
  obtain ⟨k', e0, rfl⟩ := Option.map_eq_some_iff.mp e
  rcases eqF_cases e0 with ⟨d, e', e1, e2, e3⟩ | ⟨p, p', e1, e2, s1, s2, e3⟩
  · obtain ⟨h1, h2⟩ := sEq_ok (dOf_ok rel hx e1) (dOf_ok rel hy e2) e3
    exact op_ne pins s σ0 H x y v u Q I rx ry ⟨h1, by rw [h2]; exact q⟩
  · exact op_neD hu pins s σ0 H x y v u Q I rx ry ⟨p, p', pyO_ok rel hx e1 s1, pyO_ok rel hy e2 s2, s1, s2, by rw [e3]; exact q⟩
/-- orders of ints -/
def ordF (f : Int → Int → Bool) (st : Ms) (x y : Opd) : Option Bool := match dOf st x, dOf st y with
  | some (.int i), some (.int j) => some (f i j)
  | _, _ => none
def ltF : Ms → Opd → Opd → Option Bool := ordF fun i j => decide (i < j)
def leF : Ms → Opd → Opd → Option Bool := ordF fun i j => decide (i ≤ j)
def gtF : Ms → Opd → Opd → Option Bool := ordF fun i j => decide (j < i)
def geF : Ms → Opd → Opd → Option Bool := ordF fun i j => decide (j ≤ i)
theorem op_ordU {op : CmpOp} {f : Int → Int → Bool} (ho : OpR X (compareOp op) (rI0 fun i j => .bl (f i j))) : OpR X (compareOp op) (rC2 X.K cl (ordF f)) := by
  intro pins s σ0 H x y v u Q I rx ry h
  obtain ⟨B, st, G, R, σ, dx, dy, k, rel, hx, hy, e, q⟩ := h
  unfold ordF at e
  split at e
  · rename_i i j e1 e2
    cases e
    have h1 := dOf_ok rel hx e1
    have h2 := dOf_ok rel hy e2
    cases h1; cases h2
    exact ho pins s σ0 H _ _ v u Q I rx ry ⟨i, j, rfl, rfl, q⟩
  · cases e
theorem op_ltU : OpR X (compareOp .Lt) (rC2 X.K cl ltF) := op_ordU op_lt
theorem op_leU : OpR X (compareOp .LtE) (rC2 X.K cl leF) := op_ordU op_le
theorem op_gtU : OpR X (compareOp .Gt) (rC2 X.K cl gtF) := op_ordU op_gt
theorem op_geU : OpR X (compareOp .GtE) (rC2 X.K cl geF) := op_ordU op_ge
/-- x is None -/
def isNoneO (st : Ms) : Opd → Option Bool
  | .d .non => some true
  | .d _ => some false
  | .cell i => match st.env[i]? with
    | some (.own _) => some false
    | some (.v .non) => some true
    | some (.v _) => some false
    | _ => none
def isF (st : Ms) (x y : Opd) : Option Bool := match y with
  | .d .non => isNoneO st x
  | .d (.bl b) => (match dOf st x with
    | some (.bl a) => some (decide (a = b))
    | _ => none)
  | _ => none
def isntF (st : Ms) (x y : Opd) : Option Bool := (isF st x y).map (!·)
theorem rep_non {K : PySem.W.Frag} {v : V} {d : D} (h : RepV K G R v d) : decide (v = .non) = (match d with | .non => true | _ => false) := by
  cases h <;> simp
theorem isF_ok {K : PySem.W.Frag} {v w : V} {x y : Opd} {k : Bool} (r : Rel K cl B st G R σ H) (hx : RepOp K G R σ v x) (hy : RepOp K G R σ w y) (e : isF st x y = some k) : (w = .non ∧ decide (v = .non) = k) ∨ ∃ a b : Bool, v = .bl a ∧ w = .bl b ∧ decide (a = b) = k := by
  unfold isF at e
  split at e
  · have hy : RepV K G R w .non := hy
    cases hy
    refine .inl ⟨rfl, ?_⟩
    unfold isNoneO at e
    split at e
    · rename_i d
      have hx : RepV K G R v .non := hx
      cases hx; cases e; rfl
    · rename_i d hd
      have hx : RepV K G R v d := hx
      cases e
      rw [rep_non hx]
      cases d <;> first | rfl | exact absurd rfl (hd)
    · rename_i i
      have hx : σ[i]? = some (some v) := hx
      split at e
      · rename_i o h
        cases e
        obtain ⟨a, q, _⟩ := r.own i o h
        rw [hx] at q; cases q
        simp
      · rename_i h
        cases e
        obtain ⟨v', q, q2⟩ := r.val i _ h
        rw [hx] at q; cases q
        cases q2; rfl
      · rename_i d h hd
        cases e
        obtain ⟨v', q, q2⟩ := r.val i _ hd
        rw [hx] at q; cases q
        rw [rep_non q2]
        cases d <;> first | rfl | exact absurd rfl (h)
      · cases e
  · have hy : RepV K G R w (.bl _) := hy
    split at e
    · rename_i a h
      have hx := dOf_ok r hx h
      cases hx
      cases hy
      cases e
      exact .inr ⟨_, _, rfl, rfl, rfl⟩
    · cases e
  · cases e
theorem op_isU : OpR X (compareOp .Is) (rC2 X.K cl isF) := by
  intro pins s σ0 H x y v u Q I rx ry h
  obtain ⟨B, st, G, R, σ, dx, dy, k, rel, hx, hy, e, q⟩ := h
  rcases isF_ok rel hx hy e with ⟨h1, h2⟩ | ⟨a, b, h1, h2, h3⟩
  · exact op_isN pins s σ0 H x y v u Q I rx ry ⟨h1, by rw [h2]; exact q⟩
  · exact op_isBl pins s σ0 H x y v u Q I rx ry ⟨a, b, h1, h2, by rw [h3]; exact q⟩
theorem op_isntU : OpR X (compareOp .IsNot) (rC2 X.K cl isntF) := by
  intro pins s σ0 H x y v u Q I rx ry h
  obtain ⟨B, st, G, R, σ, dx, dy, k, rel, hx, hy, e, q⟩ := h
  unfold isntF at e
  obtain ⟨k', e0, rfl⟩ := Option.map_eq_some_iff.mp e
  rcases isF_ok rel hx hy e0 with ⟨h1, h2⟩ | ⟨a, b, h1, h2, h3⟩
  · exact op_notN pins s σ0 H x y v u Q I rx ry ⟨h1, by rw [h2]; exact q⟩
  · exact op_notBl pins s σ0 H x y v u Q I rx ry ⟨a, b, h1, h2, by rw [h3]; exact q⟩
/-- a comparison's computation -/
def cmp2 (f : Ms → Opd → Opd → Option Bool) (A B : C Opd) : C Bool := bndC A fun x => bndC B fun y => fun st => match f st x y with
  | some k => some (.ok k, st)
  | none => none
def boolE (c : C Bool) : C D := bndC c fun b => pureC (.bl b)
def tstE (E : C D) : C Bool := bndC E fun d => match d with
  | .bl b => pureC b
  | _ => failC
theorem cmp_read {f : Ms → Opd → Opd → Option Bool} {Q : Bool → Hp → Prop} (h : TUT X.K cl W (cmp2 f A A') σ H Q) : tOp (rC2 X.K cl f) (TO' X.K cl W A) (TO' X.K cl W A') σ H (fun x H' => ∃ k, x = .bl k ∧ Q k H') := by
  obtain ⟨B, st, G, R, rel, run⟩ := h
  refine ⟨B, st, G, R, rel, run.bind.mono fun x st1 G1 R1 H1 _ _ _ _ ⟨rel1, _, _, run1⟩ v rv => ?_⟩
  refine ⟨B, st1, G1, R1, rel1, run1.bind.mono fun y st2 G2 R2 H2 _ g r _ ⟨rel2, _, _, run2⟩ w rw => ?_⟩
  try simp only at run2
  split at run2
  · rename_i k e
    exact ⟨B, st2, G2, R2, σ, x, y, k, rel2, rv.mono g r, rw, e, k, rfl, run2.done rel2⟩
  · exact run2.elim
theorem st_cmp {op : CmpOp} {f : Ms → Opd → Opd → Option Bool} (ho : OpR X (compareOp op) (rC2 X.K cl f)) (ha : PE X a (TO' X.K cl W A)) (hb : PE X b (TO' X.K cl W A')) (hm : behindInMarks op b = false) : PT X (.Compare a [op] [b] pos) (TUT X.K cl W (cmp2 f A A')) :=
  pt_imp (pt_cmpR ho ha hb hm) fun _ _ _ h => cmp_read h
theorem se_cmp {op : CmpOp} {f : Ms → Opd → Opd → Option Bool} (ho : OpR X (compareOp op) (rC2 X.K cl f)) (ha : PE X a (TO' X.K cl W A)) (hb : PE X b (TO' X.K cl W A')) (hm : behindInMarks op b = false) : PE X (.Compare a [op] [b] pos) (TU X.K cl W (boolE (cmp2 f A A'))) := by
  refine pe_imp (pe_cmpR ho ha hb hm) fun σ H Q h => ?_
  have h2 : TUT X.K cl W (cmp2 f A A') σ H (fun k H' => Q (.bl k) H') := by
    obtain ⟨B, st, G, R, rel, run⟩ := h
    exact ⟨B, st, G, R, rel, run.bind.mono fun k st1 G1 R1 H1 _ _ _ _ ⟨rel1, _, _, run1⟩ => run1.done rel1 _ (.bl _)⟩
  have h3 := cmp_read h2
  obtain ⟨B, st, G, R, rel, run⟩ := h3
  refine ⟨B, st, G, R, rel, run.mono fun x st1 G1 R1 H1 _ _ _ _ f v rv => ?_⟩
  obtain ⟨B', st', G', R', rel', run'⟩ := f v rv
  refine ⟨B', st', G', R', rel', run'.mono fun y st2 G2 R2 H2 _ _ _ _ f2 w rw => ?_⟩
  obtain ⟨B, st, G, R, σ, dx, dy, k, r1, r2, r3, r4, k', ek, q⟩ := f2 w rw
  cases ek
  exact ⟨B, st, G, R, σ, dx, dy, _, r1, r2, r3, r4, q⟩

/-! ### tests -/
variable {c1 c2 : C Bool} {rest : List Expr}
theorem st_val (h : PE X e (TU X.K cl W E)) (he : ∀ whole, isTrue e X.env whole = (do let v ← whole; standAt e.pos; holding [v] (truthy v)) := by intro _; rfl) : PT X e (TUT X.K cl W (tstE E)) := by
  refine pt_imp (pt_val h he) fun σ H Q h => ?_
  obtain ⟨B, st, G, R, rel, run⟩ := h
  refine ⟨B, st, G, R, rel, run.bind.mono fun d st1 G1 R1 H1 _ _ _ _ ⟨rel1, _, _, run1⟩ v rv => ?_⟩
  cases rv with
  | bl b => exact ⟨b, rfl, run1.done rel1⟩
  | _ => exact run1.elim
def andC (c1 c2 : C Bool) : C Bool := bndC c1 fun b => match b with
  | true => c2
  | false => pureC false
def orC (c1 c2 : C Bool) : C Bool := bndC c1 fun b => match b with
  | true => pureC true
  | false => c2
def notC (c : C Bool) : C Bool := bndC c fun b => pureC (!b)
theorem pw_imp {t t' : TT} (h : PW X e t) (f : ∀ σ H Q, t' σ H Q → t σ H Q) : PW X e t' := ⟨fun wh pins s σ H Q I q => h.run wh pins s σ H Q I (f σ H Q q)⟩
theorem sw_and1 (h : PT X a (TUT X.K cl W c1)) : PW X (.BoolOp .And [a] pos) (TUT X.K cl W c1) := pw_and1 h
theorem sw_or1 (h : PT X a (TUT X.K cl W c1)) : PW X (.BoolOp .Or [a] pos) (TUT X.K cl W c1) := pw_or1 h
theorem sw_and (ha : PT X a (TUT X.K cl W c1)) (hb : PW X (.BoolOp .And (b :: rest) pos) (TUT X.K cl W c2)) : PW X (.BoolOp .And (a :: b :: rest) pos) (TUT X.K cl W (andC c1 c2)) := by
  refine pw_imp (pw_and ha hb) fun σ H Q h => ?_
  obtain ⟨B, st, G, R, rel, run⟩ := h
  refine ⟨B, st, G, R, rel, run.bind.mono fun k st1 G1 R1 H1 _ _ _ _ ⟨rel1, _, _, run1⟩ => ?_⟩
  cases k with
  | true => exact iteT ⟨B, st1, G1, R1, rel1, run1⟩
  | false => exact iteF (run1.done rel1)
theorem sw_or (ha : PT X a (TUT X.K cl W c1)) (hb : PW X (.BoolOp .Or (b :: rest) pos) (TUT X.K cl W c2)) : PW X (.BoolOp .Or (a :: b :: rest) pos) (TUT X.K cl W (orC c1 c2)) := by
  refine pw_imp (pw_or ha hb) fun σ H Q h => ?_
  obtain ⟨B, st, G, R, rel, run⟩ := h
  refine ⟨B, st, G, R, rel, run.bind.mono fun k st1 G1 R1 H1 _ _ _ _ ⟨rel1, _, _, run1⟩ => ?_⟩
  cases k with
  | true => exact iteT (run1.done rel1)
  | false => exact iteF ⟨B, st1, G1, R1, rel1, run1⟩
theorem st_not (h : PT X a (TUT X.K cl W c1)) : PT X (.UnaryOp .Not a pos) (TUT X.K cl W (notC c1)) := by
  refine pt_imp (pt_not h) fun σ H Q h => ?_
  obtain ⟨B, st, G, R, rel, run⟩ := h
  exact ⟨B, st, G, R, rel, run.bind.mono fun k st1 G1 R1 H1 _ _ _ _ ⟨rel1, _, _, run1⟩ => run1.done rel1⟩
/-- .. as values -/
def andE (A B : C D) : C D := bndC A fun d => match d with
  | .bl true => B
  | .bl false => pureC (.bl false)
  | _ => failC
def orE (A B : C D) : C D := bndC A fun d => match d with
  | .bl true => pureC (.bl true)
  | .bl false => B
  | _ => failC
def notE (A : C D) : C D := bndC A fun d => match d with
  | .bl b => pureC (.bl (!b))
  | _ => failC
theorem se_one {op} (h : PE X a (TU X.K cl W E)) : PE X (.BoolOp op [a] pos) (TU X.K cl W E) := pe_one h
theorem se_and (ha : PE X a (TU X.K cl W E)) (hb : PE X (.BoolOp .And (b :: rest) pos) (TU X.K cl W E')) : PE X (.BoolOp .And (a :: b :: rest) pos) (TU X.K cl W (andE E E')) := by
  refine pe_imp (pe_and ha hb) fun σ H Q h => ?_
  obtain ⟨B, st, G, R, rel, run⟩ := h
  refine ⟨B, st, G, R, rel, run.bind.mono fun d st1 G1 R1 H1 _ _ _ _ ⟨rel1, _, _, run1⟩ v rv => ?_⟩
  cases rv with
  | bl k =>
    refine ⟨k, rfl, ?_⟩
    cases k with
    | true => exact iteT ⟨B, st1, G1, R1, rel1, run1⟩
    | false => exact iteF (run1.done rel1 _ (.bl _))
  | _ => exact run1.elim
theorem se_or (ha : PE X a (TU X.K cl W E)) (hb : PE X (.BoolOp .Or (b :: rest) pos) (TU X.K cl W E')) : PE X (.BoolOp .Or (a :: b :: rest) pos) (TU X.K cl W (orE E E')) := by
  refine pe_imp (pe_or ha hb) fun σ H Q h => ?_
  obtain ⟨B, st, G, R, rel, run⟩ := h
  refine ⟨B, st, G, R, rel, run.bind.mono fun d st1 G1 R1 H1 _ _ _ _ ⟨rel1, _, _, run1⟩ v rv => ?_⟩
  cases rv with
  | bl k =>
    refine ⟨k, rfl, ?_⟩
    cases k with
    | true => exact iteT (run1.done rel1 _ (.bl _))
    | false => exact iteF ⟨B, st1, G1, R1, rel1, run1⟩
  | _ => exact run1.elim
theorem se_not (ha : PE X a (TU X.K cl W E)) : PE X (.UnaryOp .Not a pos) (TU X.K cl W (notE E)) := by
  refine pe_imp (pe_not ha) fun σ H Q h => ?_
  obtain ⟨B, st, G, R, rel, run⟩ := h
  refine ⟨B, st, G, R, rel, run.bind.mono fun d st1 G1 R1 H1 _ _ _ _ ⟨rel1, _, _, run1⟩ v rv => ?_⟩
  cases rv with
  | bl k => exact ⟨k, rfl, run1.done rel1 _ (.bl _)⟩
  | _ => exact run1.elim
def ifE {α : Type} (c : C Bool) (A B : C α) : C α := bndC c fun b => match b with
  | true => A
  | false => B
theorem se_if (hc : PT X c (TUT X.K cl W c1)) (ha : PE X a (TU X.K cl W E)) (hb : PE X b (TU X.K cl W E')) : PE X (.IfExp c a b pos) (TU X.K cl W (ifE c1 E E')) := by
  refine pe_imp (pe_ifExp hc ha hb) fun σ H Q h => ?_
  obtain ⟨B, st, G, R, rel, run⟩ := h
  refine ⟨B, st, G, R, rel, run.bind.mono fun k st1 G1 R1 H1 _ _ _ _ ⟨rel1, _, _, run1⟩ => ?_⟩
  cases k with
  | true => exact iteT ⟨B, st1, G1, R1, rel1, run1⟩
  | false => exact iteF ⟨B, st1, G1, R1, rel1, run1⟩
/-- a < b < c -/
def chainC (f g : Ms → Opd → Opd → Option Bool) (A B E : C Opd) : C Bool := bndC A fun x => bndC B fun y => fun st => match f st x y with
  | some true => bndC E (fun z => fun st => match g st y z with
    | some k => some (.ok k, st)
    | none => none) st
  | some false => some (.ok false, st)
  | none => none
theorem chain_read {f g : Ms → Opd → Opd → Option Bool} {A1 A2 A3 : C Opd} {Q : VK} (h : TU X.K cl W (boolE (chainC f g A1 A2 A3)) σ H Q) : tChain (rC2 X.K cl f) (rC2 X.K cl g) (TO' X.K cl W A1) (TO' X.K cl W A2) (TO' X.K cl W A3) σ H Q := by
  obtain ⟨B, st, G, R, rel, run⟩ := h
  have run := run.bind
  refine ⟨B, st, G, R, rel, run.bind.mono fun x st1 G1 R1 H1 _ _ _ _ ⟨rel1, _, _, run1⟩ v rv => ?_⟩
  refine ⟨B, st1, G1, R1, rel1, run1.bind.mono fun y st2 G2 R2 H2 _ g r _ ⟨rel2, _, _, run2⟩ w rw => ?_⟩
  try simp only at run2
  split at run2
  · rename_i e
    refine ⟨B, st2, G2, R2, σ, x, y, true, rel2, rv.mono g r, rw, e, true, rfl, iteT ?_⟩
    refine ⟨B, st2, G2, R2, rel2, run2.bind.mono fun z st3 G3 R3 H3 _ g3 r3 _ ⟨rel3, _, _, run3⟩ u ru => ?_⟩
    try simp only at run3
    split at run3
    · rename_i k e3
      obtain ⟨_, _, _, q⟩ := run3.done rel3
      exact ⟨B, st3, G3, R3, σ, y, z, k, rel3, rw.mono g3 r3, ru, e3, q.done rel3 _ (.bl _)⟩
    · exact run3.elim
  · rename_i e
    refine ⟨B, st2, G2, R2, σ, x, y, false, rel2, rv.mono g r, rw, e, false, rfl, iteF ?_⟩
    obtain ⟨_, _, _, q⟩ := run2.done rel2
    exact q.done rel2 _ (.bl _)
  · exact run2.elim
theorem se_chain {op op' : CmpOp} {f g : Ms → Opd → Opd → Option Bool} {A1 A2 A3 : C Opd} (ho : OpR X (compareOp op) (rC2 X.K cl f)) (ho' : OpR X (compareOp op') (rC2 X.K cl g)) (ha : PE X a (TO' X.K cl W A1)) (hb : PE X b (TO' X.K cl W A2)) (hc : PE X c (TO' X.K cl W A3))
    (hm : lastMarks [op, op'] [b, c] = false := by with_unfolding_all rfl) : PE X (.Compare a [op, op'] [b, c] pos) (TU X.K cl W (boolE (chainC f g A1 A2 A3))) :=
  pe_imp (pe_chain ho ho' ha hb hc hm) fun _ _ _ h => chain_read h
theorem st_chain {op op' : CmpOp} {f g : Ms → Opd → Opd → Option Bool} {A1 A2 A3 : C Opd} (ho : OpR X (compareOp op) (rC2 X.K cl f)) (ho' : OpR X (compareOp op') (rC2 X.K cl g)) (ha : PE X a (TO' X.K cl W A1)) (hb : PE X b (TO' X.K cl W A2)) (hc : PE X c (TO' X.K cl W A3))
    (hm : lastMarks [op, op'] [b, c] = false := by with_unfolding_all rfl) : PT X (.Compare a [op, op'] [b, c] pos) (TUT X.K cl W (chainC f g A1 A2 A3)) := by
  refine pt_imp (pt_chain ho ho' ha hb hc hm) fun σ H Q h => ?_
  refine chain_read ?_
  obtain ⟨B, st, G, R, rel, run⟩ := h
  refine ⟨B, st, G, R, rel, ?_⟩
  unfold boolE bndC
  unfold Run at run ⊢
  split at run
  · rename_i k st1 e
    show ∀ G' R' H', _ → _ → _ → _
    intro G' R' H' g r rel' v rv
    cases rv
    exact ⟨k, rfl, run G' R' H' g r rel'⟩
  · exact run
  · exact run.elim

/-! ### argument lists, displays -/
variable {es : List Expr} {Es : C (List D)}
def nilA : C (List D) := pureC []
def consA (E : C D) (Es : C (List D)) : C (List D) := bndC E fun d => bndC Es fun ds => pureC (d :: ds)
theorem pa_imp {t t' : TA} (h : PA X es t) (f : ∀ σ H Q, t' σ H Q → t σ H Q) : PA X es t' := ⟨fun pos pins s σ H Q I q => h.run pos pins s σ H Q I (f σ H Q q)⟩
theorem sa_nil : PA X [] (TUA X.K cl W nilA) := pa_imp pa_nil fun σ H Q h => by
  obtain ⟨B, st, G, R, rel, run⟩ := h
  exact run.done rel _ .nil
theorem sa_cons (h : PE X e (TU X.K cl W E)) (hr : PA X es (TUA X.K cl W Es)) (hs : starEach (e :: es) X.env = (false, eval e X.env) :: starEach es X.env := by rfl) : PA X (e :: es) (TUA X.K cl W (consA E Es)) :=
  pa_imp (pa_cons h hr hs) fun σ H Q h => by
    obtain ⟨B, st, G, R, rel, run⟩ := h
    refine ⟨B, st, G, R, rel, run.bind.mono fun d st1 G1 R1 H1 _ _ _ _ ⟨rel1, _, _, run1⟩ v rv => ?_⟩
    refine ⟨B, st1, G1, R1, rel1, run1.bind.mono fun ds st2 G2 R2 H2 _ g r _ ⟨rel2, _, _, run2⟩ vs rs => ?_⟩
    exact run2.done rel2 _ (.cons (rv.mono g r) rs)
def tupE (Es : C (List D)) : C D := bndC Es fun ds => if ds.length ≤ LIM then pureC (.tup ds) else failC
def lstE (Es : C (List D)) : C Nv := bndC Es fun ds => if ds.length ≤ LIM then pureC (.nw (.lst ds)) else failC
theorem se_tup {k : Nat} (h : PA X es (TUA X.K cl W Es)) : PE X (.Tuple es k pos) (TU X.K cl W (tupE Es)) := by
  refine pe_imp (pe_tup h) fun σ H Q h => ?_
  obtain ⟨B, st, G, R, rel, run⟩ := h
  refine ⟨B, st, G, R, rel, run.bind.mono fun ds st1 G1 R1 H1 _ _ _ _ ⟨rel1, _, _, run1⟩ vs rs => ?_⟩
  split at run1
  · rename_i hz
    refine ⟨by rw [rs.length]; exact lim_le hz, fun p hp => ?_⟩
    have f := rel1.fresh hp
    have g := same_upd (ho := .tup vs) f.g
    exact run1 (upd G1 p (.tup vs)) R1 _ g (Pre.refl _) ((rel1.new hp).freeze f upd_same) _ (.tup upd_same (rs.mono g (Pre.refl _)))
  · exact run1.elim
theorem se_lst (h : PA X es (TUA X.K cl W Es)) : PE X (.List es pos) (TN X.K cl W (lstE Es)) := by
  refine pe_imp (pe_lst h) fun σ H Q h => ?_
  obtain ⟨B, st, G, R, rel, run⟩ := h
  refine ⟨B, st, G, R, rel, run.bind.mono fun ds st1 G1 R1 H1 _ _ _ _ ⟨rel1, _, _, run1⟩ vs rs => ?_⟩
  split at run1
  · rename_i hz
    exact ⟨by rw [rs.length]; exact lim_le hz, fun p hp => fin_lst rel1 run1 rs hp⟩
  · exact run1.elim
end
end VL

namespace VL
open PySem PySem.Spec PyProof.Rows L2

/-! ### subscripts, slices -/
def ixF (st : Ms) (x : Opd) (y : D) : Option D := match y with
  | .int i => match seqL st x with
    | some ds => atI ds i
    | none => match dOf st x with
      | some (.tup ds) => atI ds i
      | some (.str t) => if t.length ≤ LIM then (atI t i).map (fun c => .str [c]) else none
      | some (.scr ns) => (atI ns i).map .int
      | _ => none
  | _ => none
def ixE (A : C Opd) (E : C D) : C D := bndC A fun x => bndC E fun y => fun st => match ixF st x y with
  | some d => some (.ok d, st)
  | none => none
def cutL {α : Type} (xs : List α) (lo hi : Option Int) : List α := (xs.drop (HT.sIx xs.length 0 lo)).take (HT.sIx xs.length xs.length hi - HT.sIx xs.length 0 lo)
def slF (st : Ms) (x : Opd) (lo hi : Option Int) : Option Nv := match seqL st x with
  | some ds => some (.nw (.lst (cutL ds lo hi)))
  | none => match dOf st x with
    | some (.tup ds) => some (.d (.tup (cutL ds lo hi)))
    | some (.str t) => if t.length ≤ LIM then some (.d (.str (cutL t lo hi))) else none
    | some (.scr ns) => some (.nw (.lst ((cutL ns lo hi).map .int)))
    | _ => none
def partN : C (Option Int) := pureC none
def partS (E : C D) : C (Option Int) := bndC E fun d => match d with
  | .int i => pureC (some i)
  | _ => failC
def slE (A : C Opd) (lo hi : C (Option Int)) : C Nv := bndC A fun x => bndC lo fun l => bndC hi fun h => fun st => match slF st x l h with
  | some n => some (.ok n, st)
  | none => none
section
variable {X : Cx} {cl : CL} {W : WX} {B : Base} {st : Ms} {G H : Hp} {R : List Addr} {σ : L2.St}
variable {a b c e : Expr} {A A' : C Opd} {E E' E'' : C D} {pos p2 : Pos}
theorem atI_rep {K : PySem.W.Frag} {xs : List V} {ds : List D} {i : Int} {d : D} (r : RepA K G R xs ds) (h : atI ds i = some d) : ∃ v, atI xs i = some v ∧ RepV K G R v d := by
  unfold atI at h ⊢
  rw [← r.length] at h
  obtain ⟨j, h1, h2⟩ := Option.bind_eq_some_iff.mp h
  obtain ⟨v, h3, h4⟩ := r.get h2
  exact ⟨v, by rw [h1]; exact h3, h4⟩
def rIxU (K : PySem.W.Frag) (cl : CL) : R2 := fun x y H Q => ∃ B st G R σ dx dy d, Rel K cl B st G R σ H ∧ RepOp K G R σ x dx ∧ RepV K G R y dy ∧ ixF st dx dy = some d ∧ ∀ v, RepV K G R v d → Q v H
theorem ix_U : IxR X (rIxU X.K cl) := by
  intro value slice pins s σ0 H x y v u Q I rx ry h hs
  obtain ⟨B, st, G, R, σ, dx, dy, d, rel, hx, hy, e, q⟩ := h
  unfold ixF at e
  split at e
  · rename_i i
    cases hy
    split at e
    · rename_i ds e1
      obtain ⟨p, xs, rfl, h1, h2⟩ := seqL_ok rel hx e1
      obtain ⟨w, h3, h4⟩ := atI_rep h2 e
      exact ix_list value slice pins s σ0 H _ _ v u Q I rx ry ⟨p, xs, i, w, rfl, rfl, SqL.of h1, h3, q _ h4⟩ hs
    · split at e
      · rename_i ds e1
        have h := dOf_ok rel hx e1
        cases h with
        | tup ha hr =>
          rename_i p xs
          obtain ⟨w, h3, h4⟩ := atI_rep hr e
          exact ix_tup value slice pins s σ0 H _ _ v u Q I rx ry ⟨p, xs, i, w, rfl, rfl, SqT.of (rel.m.same _ _ ha), h3, q _ h4⟩ hs
      · rename_i t e1
        have h := dOf_ok rel hx e1
        cases h
        split at e
        · rename_i hz
          obtain ⟨c, h3, rfl⟩ := Option.map_eq_some_iff.mp e
          exact ix_str value slice pins s σ0 H _ _ v u Q I rx ry ⟨toS t, i, c, rfl, rfl, by rw [toS_len]; exact lim_le hz, by rw [toS_cps]; exact h3, q _ (.str [c])⟩ hs
        · cases e
      · rename_i ns e1
        have h := dOf_ok rel hx e1
        cases h with
        | scr ha =>
          rename_i p
          obtain ⟨k, h3, rfl⟩ := Option.map_eq_some_iff.mp e
          refine ix_list value slice pins s σ0 H _ _ v u Q I rx ry ⟨p, _, i, .int k, rfl, rfl, rel.m.same.seq ha, ?_, q _ (.int k)⟩ hs
          unfold atI at h3 ⊢
          rw [List.length_map]
          obtain ⟨j, h4, h5⟩ := Option.bind_eq_some_iff.mp h3
          rw [h4]
          show (ns.map V.int)[j]? = _
          rw [List.getElem?_map, h5]; rfl
      · cases e
  · cases e
theorem se_ix (ha : PE X a (TO' X.K cl W A)) (hb : PE X b (TU X.K cl W E)) (hs : PlainIx b := by exact fun _ _ => rfl) : PE X (.Subscript a b pos) (TU X.K cl W (ixE A E)) := by
  refine pe_imp (pe_ix (ix_U (cl := cl)) ha hb hs) fun σ H Q h => ?_
  obtain ⟨B, st, G, R, rel, run⟩ := h
  refine ⟨B, st, G, R, rel, run.bind.mono fun x st1 G1 R1 H1 _ _ _ _ ⟨rel1, _, _, run1⟩ v rv => ?_⟩
  refine ⟨B, st1, G1, R1, rel1, run1.bind.mono fun y st2 G2 R2 H2 _ g r _ ⟨rel2, _, _, run2⟩ w rw => ?_⟩
  try simp only at run2
  split at run2
  · rename_i d e
    exact ⟨B, st2, G2, R2, σ, x, y, d, rel2, rv.mono g r, rw, e, run2.done rel2⟩
  · exact run2.elim
theorem RepA.cut {K : PySem.W.Frag} {xs : List V} {ds : List D} (r : RepA K G R xs ds) (lo hi : Option Int) : RepA K G R (cutV xs lo hi) (cutL ds lo hi) := by
  unfold cutV cutL
  rw [r.length]
  exact (r.drop _).take _
theorem cut_map {α β : Type} (f : α → β) (xs : List α) (lo hi : Option Int) : cutL (xs.map f) lo hi = (cutL xs lo hi).map f := by
  unfold cutL
  rw [List.length_map, List.map_take, List.map_drop]
theorem cut_ints (ns : List Int) (lo hi : Option Int) : cutV (ns.map V.int) lo hi = (cutL ns lo hi).map V.int := cut_map V.int ns lo hi
def rSlU (K : PySem.W.Frag) (cl : CL) (W : WX) : V → Option Int → Option Int → Hp → VK → Prop := fun x lo hi H Q => ∃ B st G R σ dx n, Rel K cl B st G R σ H ∧ RepOp K G R σ x dx ∧ slF st dx lo hi = some n ∧
  Run K cl W B σ G R (some (.ok n, st)) (fun d st' G' R' H' => ∀ v, RepN K cl B st' G' R' σ H' v d → Q v H')
theorem sl_U : SlR X (rSlU X.K cl W) := by
  intro pins s σ0 H x v vl vu lo hi sl Q I rx hs pl pu h
  obtain ⟨B, st, G, R, σ, dx, n, rel, hx, e, run⟩ := h
  unfold slF at e
  split at e
  · rename_i ds e1
    obtain ⟨p, xs, rfl, h1, h2⟩ := seqL_ok rel hx e1
    cases e
    exact sl_list pins s σ0 H _ v vl vu lo hi sl Q I rx hs pl pu ⟨p, xs, rfl, SqL.of h1, fun q hq => fin_lst rel run (h2.cut lo hi) hq⟩
  · split at e
    · rename_i ds e1
      cases e
      have h := dOf_ok rel hx e1
      cases h with
      | tup ha hr =>
        rename_i p xs
        refine sl_tupA pins s σ0 H _ v vl vu lo hi sl Q I rx hs pl pu ⟨p, xs, rfl, SqT.of (rel.m.same _ _ ha), fun hw => ?_, fun _ q hq => fin_tup rel run (hr.cut lo hi) hq⟩
        have ec : cutL ds lo hi = ds := by
          unfold cutL
          rw [← hr.length, hw.1, hw.2, hr.length]
          simp
        rw [ec] at run
        exact run.done rel _ (.tup ha hr)
    · rename_i t e1
      have h := dOf_ok rel hx e1
      cases h
      split at e
      · rename_i hz
        cases e
        refine sl_str pins s σ0 H _ v vl vu lo hi sl Q I rx hs pl pu ⟨toS t, rfl, by rw [toS_len]; exact lim_le hz, ?_⟩
        have ec : cutS (toS t) lo hi = toS (cutL t lo hi) := by
          unfold cutS cutL
          rw [toS_cps, toS_len]; rfl
        rw [ec]
        exact run.done rel _ (.str _)
      · cases e
    · rename_i ns e1
      cases e
      have h := dOf_ok rel hx e1
      cases h with
      | scr ha =>
        rename_i p
        refine sl_list pins s σ0 H _ v vl vu lo hi sl Q I rx hs pl pu ⟨p, _, rfl, rel.m.same.seq ha, fun q hq => ?_⟩
        rw [cut_ints]
        exact fin_lst rel run (RepA.ints _) hq
    · cases e
def TUP (K : PySem.W.Frag) (cl : CL) (W : WX) (c : C (Option Int)) : TO := fun σ H Q => ∃ B st G R, Rel K cl B st G R σ H ∧ Run K cl W B σ G R (c st) fun o _ _ _ H' => Q o H'
theorem po_imp {eo : Option Expr} {t t' : TO} (h : PO X eo t) (f : ∀ σ H Q, t' σ H Q → t σ H Q) : PO X eo t' := ⟨fun pins s σ H Q I q => h.run pins s σ H Q I (f σ H Q q)⟩
theorem so_none : PO X none (TUP X.K cl W partN) := po_imp po_none fun σ H Q h => by
  obtain ⟨B, st, G, R, rel, run⟩ := h
  exact run.done rel
theorem so_some (h : PE X e (TU X.K cl W E)) : PO X (some e) (TUP X.K cl W (partS E)) := po_imp (po_some h) fun σ H Q h => by
  obtain ⟨B, st, G, R, rel, run⟩ := h
  refine ⟨B, st, G, R, rel, run.bind.mono fun d st1 G1 R1 H1 _ _ _ _ ⟨rel1, _, _, run1⟩ v rv => ?_⟩
  cases rv with
  | int i => exact ⟨i, rfl, run1.done rel1⟩
  | _ => exact run1.elim
theorem se_sl {lo hi : Option Expr} {l h : C (Option Int)} (ha : PE X a (TO' X.K cl W A)) (hl : PO X lo (TUP X.K cl W l)) (hh : PO X hi (TUP X.K cl W h)) : PE X (.Subscript a (.Slice lo hi none p2) pos) (TN X.K cl W (slE A l h)) := by
  refine pe_imp (pe_slice (sl_U (cl := cl) (W := W)) ha hl hh) fun σ H Q h => ?_
  obtain ⟨B, st, G, R, rel, run⟩ := h
  refine ⟨B, st, G, R, rel, run.bind.mono fun x st1 G1 R1 H1 _ _ _ _ ⟨rel1, _, _, run1⟩ v rv => ?_⟩
  refine ⟨B, st1, G1, R1, rel1, run1.bind.mono fun lo st2 G2 R2 H2 _ g2 r2 _ ⟨rel2, _, _, run2⟩ => ?_⟩
  refine ⟨B, st2, G2, R2, rel2, run2.bind.mono fun hi st3 G3 R3 H3 _ g3 r3 _ ⟨rel3, _, _, run3⟩ => ?_⟩
  try simp only at run3
  split at run3
  · rename_i n e
    exact ⟨B, st3, G3, R3, σ, x, n, rel3, (rv.mono g2 r2).mono g3 r3, e, run3⟩
  · exact run3.elim

/-! ### built-ins of one argument -/
/-- what a built-in gives: f of the state and the operand -/
def un1 (f : Ms → Opd → Option Nv) (A : C Opd) : C Nv := bndC A fun x => fun st => match f st x with
  | some n => some (.ok n, st)
  | none => none
def rU1 (K : PySem.W.Frag) (cl : CL) (W : WX) (f : Ms → Opd → Option Nv) : List V → Hp → VK → Prop := fun xs H Q => ∃ B st G R σ x dx n, xs = [x] ∧ Rel K cl B st G R σ H ∧ RepOp K G R σ x dx ∧ f st dx = some n ∧
  Run K cl W B σ G R (some (.ok n, st)) (fun d st' G' R' H' => ∀ v, RepN K cl B st' G' R' σ H' v d → Q v H')
theorem un1_read {f : Ms → Opd → Option Nv} {Q : VK} (h : TN X.K cl W (un1 f A) σ H Q) : tCB (rU1 X.K cl W f) (tCons (TO' X.K cl W A) tNil) σ H Q := by
  obtain ⟨B, st, G, R, rel, run⟩ := h
  refine ⟨B, st, G, R, rel, run.bind.mono fun x st1 G1 R1 H1 _ _ _ _ ⟨rel1, _, _, run1⟩ v rv => ?_⟩
  try simp only at run1
  split at run1
  · rename_i n e
    exact ⟨B, st1, G1, R1, σ, v, x, n, rfl, rel1, rv, e, run1⟩
  · exact run1.elim
theorem se_bi {id : String} {x : Str} {p : Pos} {f : Ms → Opd → Option Nv} (hc : CallR X (.builtin id) (rU1 X.K cl W f)) (hg : Gl X x) (hm : X.mg x = none) (hv : bootBuiltins x = some (.builtin id)) (ha : PE X e (TO' X.K cl W A)) (hn : x ≠ "__name__" := by decide) (hdb : (x == ("__debug__" : Str)) = false := by decide)
    (he : starEach [e] X.env = (false, eval e X.env) :: starEach [] X.env := by rfl) (hpl : (backTo pos (starEach [] X.env)).any (·.1) = false := by rfl) : PE X (.Call (.Name x p) [e] [] pos) (TN X.K cl W (un1 f A)) :=
  pe_imp (pe_callB hc hg hm hv (pa_cons ha pa_nil he) hn hdb he hpl) fun _ _ _ h => un1_read h
theorem se_ty {T : String} {x : Str} {p : Pos} {f : Ms → Opd → Option Nv} (hc : CallR X (.type T) (rU1 X.K cl W f)) (hg : Gl X x) (hm : X.mg x = none) (hv : bootBuiltins x = some (.type T)) (ha : PE X e (TO' X.K cl W A)) (hn : x ≠ "__name__" := by decide) (hdb : (x == ("__debug__" : Str)) = false := by decide)
    (he : starEach [e] X.env = (false, eval e X.env) :: starEach [] X.env := by rfl) (hpl : (backTo pos (starEach [] X.env)).any (·.1) = false := by rfl) : PE X (.Call (.Name x p) [e] [] pos) (TN X.K cl W (un1 f A)) :=
  pe_imp (pe_callTy hc hg hm hv (pa_cons ha pa_nil he) hn hdb he hpl) fun _ _ _ h => un1_read h
def lenF (st : Ms) (x : Opd) : Option Nv := match seqL st x with
  | some ds => some (.d (.int ds.length))
  | none => match dOf st x with
    | some (.tup ds) => some (.d (.int ds.length))
    | some (.str t) => if t.length ≤ LIM then some (.d (.int t.length)) else none
    | some (.scr ns) => some (.d (.int ns.length))
    | _ => none
theorem call_lenU : CallR X (.builtin "len") (rU1 X.K cl W lenF) := by
  intro pins s σ0 H xs us Q I r h
  obtain ⟨B, st, G, R, σ, x, dx, n, rfl, rel, hx, e, run⟩ := h
  unfold lenF at e
  split at e
  · rename_i ds e1
    obtain ⟨p, xs, rfl, h1, h2⟩ := seqL_ok rel hx e1
    cases e
    exact call_len_seq pins s σ0 H _ us Q I r ⟨p, xs, rfl, .inl (SqL.of h1), by rw [h2.length]; exact run.done rel _ (.int _)⟩
  · split at e
    · rename_i ds e1
      cases e
      have h := dOf_ok rel hx e1
      cases h with
      | tup ha hr => exact call_len_seq pins s σ0 H _ us Q I r ⟨_, _, rfl, .inr (SqT.of (rel.m.same _ _ ha)), by rw [hr.length]; exact run.done rel _ (.int _)⟩
    · rename_i t e1
      have h := dOf_ok rel hx e1
      cases h
      split at e
      · rename_i hz
        cases e
        exact call_len_str pins s σ0 H _ us Q I r ⟨toS t, rfl, by rw [toS_len]; exact lim_le hz, by rw [toS_len]; exact run.done rel _ (.int _)⟩
      · cases e
    · rename_i ns e1
      cases e
      have h := dOf_ok rel hx e1
      cases h with
      | scr ha => exact call_len_seq pins s σ0 H _ us Q I r ⟨_, _, rfl, .inl (rel.m.same.seq ha), by rw [List.length_map]; exact run.done rel _ (.int _)⟩
    · cases e
def listF (st : Ms) (x : Opd) : Option Nv := match seqL st x with
  | some ds => some (.nw (.lst ds))
  | none => match dOf st x with
    | some (.tup ds) => some (.nw (.lst ds))
    | _ => none
theorem call_listU : CallR X (.type "list") (rU1 X.K cl W listF) := by
  intro pins s σ0 H xs us Q I r h
  obtain ⟨B, st, G, R, σ, x, dx, n, rfl, rel, hx, e, run⟩ := h
  unfold listF at e
  split at e
  · rename_i ds e1
    obtain ⟨p, xs, rfl, h1, h2⟩ := seqL_ok rel hx e1
    cases e
    exact call_list_of pins s σ0 H _ us Q I r ⟨p, xs, rfl, .inl (SqL.of h1), fun l hl => fin_lst rel run h2 hl⟩
  · split at e
    · rename_i ds e1
      cases e
      have h := dOf_ok rel hx e1
      cases h with
      | tup ha hr => exact call_list_of pins s σ0 H _ us Q I r ⟨_, _, rfl, .inr (SqT.of (rel.m.same _ _ ha)), fun l hl => fin_lst rel run hr hl⟩
    · cases e
def tupF (st : Ms) (x : Opd) : Option Nv := match seqL st x with
  | some ds => some (.d (.tup ds))
  | none => match dOf st x with
    | some (.tup ds) => some (.d (.tup ds))
    | _ => none
theorem call_tupU : CallR X (.type "tuple") (rU1 X.K cl W tupF) := by
  intro pins s σ0 H xs us Q I r h
  obtain ⟨B, st, G, R, σ, x, dx, n, rfl, rel, hx, e, run⟩ := h
  unfold tupF at e
  split at e
  · rename_i ds e1
    obtain ⟨p, xs, rfl, h1, h2⟩ := seqL_ok rel hx e1
    cases e
    exact call_tuple_of pins s σ0 H _ us Q I r ⟨p, xs, rfl, .inl ⟨SqL.of h1, fun l hl => fin_tup rel run h2 hl⟩⟩
  · split at e
    · rename_i ds e1
      cases e
      have h := dOf_ok rel hx e1
      cases h with
      | tup ha hr => exact call_tuple_of pins s σ0 H _ us Q I r ⟨_, _, rfl, .inr ⟨SqT.of (rel.m.same _ _ ha), run.done rel _ (.tup ha hr)⟩⟩
    · cases e
def absF (st : Ms) (x : Opd) : Option Nv := match dOf st x with
  | some (.int i) => some (.d (.int (if i < 0 then -i else i)))
  | _ => none
theorem call_absU : CallR X (.builtin "abs") (rU1 X.K cl W absF) := by
  intro pins s σ0 H xs us Q I r h
  obtain ⟨B, st, G, R, σ, x, dx, n, rfl, rel, hx, e, run⟩ := h
  unfold absF at e
  split at e
  · rename_i i e1
    cases e
    have h := dOf_ok rel hx e1
    cases h
    exact call_abs pins s σ0 H _ us Q I r ⟨i, rfl, run.done rel _ (.int _)⟩
  · cases e
def intF (st : Ms) (x : Opd) : Option Nv := match dOf st x with
  | some (.int i) => some (.d (.int i))
  | some (.bl b) => some (.d (.int (if b then 1 else 0)))
  | _ => none
theorem call_intU : CallR X (.type "int") (rU1 X.K cl W intF) := by
  intro pins s σ0 H xs us Q I r h
  obtain ⟨B, st, G, R, σ, x, dx, n, rfl, rel, hx, e, run⟩ := h
  unfold intF at e
  split at e
  · rename_i i e1
    cases e
    have h := dOf_ok rel hx e1
    cases h
    exact call_int1 pins s σ0 H _ us Q I r (.inl ⟨i, rfl, run.done rel _ (.int _)⟩)
  · rename_i i e1
    cases e
    have h := dOf_ok rel hx e1
    cases h
    exact call_int1 pins s σ0 H _ us Q I r (.inr ⟨i, rfl, run.done rel _ (.int _)⟩)
  · cases e

/-! ### isinstance -/
inductive TyN where
  | int | bool | str | list | tuple | dict
  deriving DecidableEq
def TyN.nm : TyN → String
  | .int => "int" | .bool => "bool" | .str => "str" | .list => "list" | .tuple => "tuple" | .dict => "dict"
/-- an operand's type -/
inductive TyD where
  | non | int | bool | str | list | tuple | dict
def TyD.nm : TyD → Value
  | .non => .type "NoneType" | .int => .type "int" | .bool => .type "bool" | .str => .type "str" | .list => .type "list" | .tuple => .type "tuple" | .dict => .type "dict"
def TyD.isa : TyD → TyN → Bool
  | .int, .int => true | .bool, .int => true | .bool, .bool => true | .str, .str => true | .list, .list => true | .tuple, .tuple => true | .dict, .dict => true
  | _, _ => false
def tyO (st : Ms) (x : Opd) : Option TyD := match seqL st x with
  | some _ => some .list
  | none => match dOf st x with
    | some .non => some .non
    | some (.int _) => some .int
    | some (.bl _) => some .bool
    | some (.str _) => some .str
    | some (.tup _) => some .tuple
    | some (.scr _) => some .list
    | _ => match dicL st x with
      | some _ => some .dict
      | none => none
theorem kit_tyD {K : PySem.W.Frag} (t : TyD) (n : TyN) : PySem.W.kitOne K t.nm (.type n.nm) = some (t.isa n) := by
  cases t <;> cases n <;> exact kit_ty (by decide +kernel)
theorem tyX_of_type {K : PySem.W.Frag} {v : V} {od : Opd} {t : TyD} (r : Rel K cl B st G R σ H) (h : RepOp K G R σ v od) (e : tyO st od = some t) : TyX K H v t.nm := by
  unfold tyO at e
  split at e
  · rename_i ds e1
    obtain ⟨p, xs, rfl, h1, h2⟩ := seqL_ok r h e1
    cases e
    exact .base (.lst h1)
  · split at e
    · rename_i e1
      cases e; have h := dOf_ok r h e1; cases h; exact .base .non
    · rename_i e1
      cases e; have h := dOf_ok r h e1; cases h; exact .base (.int _)
    · rename_i e1
      cases e; have h := dOf_ok r h e1; cases h; exact .base (.bl _)
    · rename_i e1
      cases e; have h := dOf_ok r h e1; cases h; exact .base (.str _)
    · rename_i e1
      cases e; have h := dOf_ok r h e1
      cases h with
      | tup ha hr => exact .base (.tup (r.m.same _ _ ha))
    · rename_i e1
      cases e; have h := dOf_ok r h e1
      cases h with
      | scr ha =>
        rcases r.m.same.seq ha with (q | ⟨o, q⟩) | ⟨o, its, n, q1, q2, _⟩
        · exact .base (.lst q)
        · exact .base (.frz q)
        · exact .kList q1 q2
    · split at e
      · rename_i kv e1
        cases e
        obtain ⟨p, kvs, rfl, h1, h2⟩ := dicL_ok (ks := kv.1) (vs := kv.2) r h e1
        exact .base (.dK h1)
      · cases e
def isiF (n : TyN) (st : Ms) (x : Opd) : Option Nv := match tyO st x with
  | some t => some (.d (.bl (t.isa n)))
  | none => none
/-- isinstance(x, T), isinstance(x, (T, ..)) -/
def isiE (ns : List TyN) (A : C Opd) : C D := bndC A fun x => fun st => match tyO st x with
  | some t => some (.ok (.bl (ns.any t.isa)), st)
  | none => none
theorem kit_tyA {K : PySem.W.Frag} (t : TyD) : ∀ ns : List TyN, PySem.W.kitAny K t.nm (ns.map fun n => .type n.nm) = some (ns.any t.isa)
  | [] => rfl
  | n :: ns => by
    rw [List.map_cons, List.any_cons]
    refine kitAny_cons (kit_tyD t n) (fun h => ?_) fun h => ?_
    · rw [h, Bool.false_or]; exact kit_tyA t ns
    · rw [h]; rfl
theorem se_isi {n : TyN} {p p2 : Pos} {nm : Str} (hm : X.mg "isinstance" = none) (hn : X.mg nm = none) (hv : bootBuiltins nm = some (.type n.nm)) (hg : Gl X nm) (hgi : Gl X "isinstance") (ha : PE X e (TO' X.K cl W A)) (hnn : nm ≠ "__name__" := by decide) (hdb : (nm == ("__debug__" : Str)) = false := by decide)
    (he : starEach [e, .Name nm p2] X.env = (false, eval e X.env) :: starEach [.Name nm p2] X.env := by rfl) (hpl : (backTo pos (starEach [.Name nm p2] X.env)).any (·.1) = false := by rfl) (he2 : starEach [.Name nm p2] X.env = (false, eval (.Name nm p2) X.env) :: starEach [] X.env := by rfl) :
    PE X (.Call (.Name "isinstance" p) [e, .Name nm p2] [] pos) (TU X.K cl W (isiE [n] A)) := by
  have hty : PE X (.Name nm p2) (tC (.ty n.nm)) := pe_bltn hg hn hv rfl hnn hdb
  refine pe_imp (pe_callB call_isi hgi hm (by decide +kernel) (pa_cons ha (pa_cons hty pa_nil he2) he) (by decide +kernel) (by decide +kernel) he hpl) fun σ H Q h => ?_
  obtain ⟨B, st, G, R, rel, run⟩ := h
  refine ⟨B, st, G, R, rel, run.bind.mono fun x st1 G1 R1 H1 _ _ _ _ ⟨rel1, _, _, run1⟩ v rv => ?_⟩
  try simp only at run1
  split at run1
  · rename_i t e
    have hk := kit_tyD (K := X.K) t n
    have q := run1.done rel1 (.bl (t.isa n)) (by simpa using RepV.bl _)
    exact ⟨v, .ty n.nm, t.nm, _, t.isa n, rfl, .ty _, tyX_of_type rel1 rv e, hk, q⟩
  · exact run1.elim
theorem se_isi2 {n1 n2 : TyN} {p q1 q2 q3 : Pos} {kt : Nat} {nm1 nm2 : Str} (hm : X.mg "isinstance" = none) (hn1 : X.mg nm1 = none) (hv1 : bootBuiltins nm1 = some (.type n1.nm)) (hg1 : Gl X nm1) (hn2 : X.mg nm2 = none) (hv2 : bootBuiltins nm2 = some (.type n2.nm)) (hg2 : Gl X nm2)
    (hgi : Gl X "isinstance") (ha : PE X e (TO' X.K cl W A)) (hnn1 : nm1 ≠ "__name__" := by decide) (hdb1 : (nm1 == ("__debug__" : Str)) = false := by decide) (hnn2 : nm2 ≠ "__name__" := by decide) (hdb2 : (nm2 == ("__debug__" : Str)) = false := by decide)
    (he : starEach [e, .Tuple [.Name nm1 q1, .Name nm2 q2] kt q3] X.env = (false, eval e X.env) :: starEach [.Tuple [.Name nm1 q1, .Name nm2 q2] kt q3] X.env := by rfl) (hpl : (backTo pos (starEach [.Tuple [.Name nm1 q1, .Name nm2 q2] kt q3] X.env)).any (·.1) = false := by rfl)
    (he2 : starEach [.Tuple [.Name nm1 q1, .Name nm2 q2] kt q3] X.env = (false, eval (.Tuple [.Name nm1 q1, .Name nm2 q2] kt q3) X.env) :: starEach [] X.env := by rfl)
    (he3 : starEach [.Name nm1 q1, .Name nm2 q2] X.env = (false, eval (.Name nm1 q1) X.env) :: starEach [.Name nm2 q2] X.env := by rfl) (he4 : starEach [.Name nm2 q2] X.env = (false, eval (.Name nm2 q2) X.env) :: starEach [] X.env := by rfl) :
    PE X (.Call (.Name "isinstance" p) [e, .Tuple [.Name nm1 q1, .Name nm2 q2] kt q3] [] pos) (TU X.K cl W (isiE [n1, n2] A)) := by
  have h1 : PE X (.Name nm1 q1) (tC (.ty n1.nm)) := pe_bltn hg1 hn1 hv1 rfl hnn1 hdb1
  have h2 : PE X (.Name nm2 q2) (tC (.ty n2.nm)) := pe_bltn hg2 hn2 hv2 rfl hnn2 hdb2
  refine pe_imp (pe_callB call_isiT hgi hm (by decide +kernel) (pa_cons ha (pa_cons (pe_tup (pa_cons h1 (pa_cons h2 pa_nil he4) he3)) pa_nil he2) he) (by decide +kernel) (by decide +kernel) he hpl) fun σ H Q h => ?_
  obtain ⟨B, st, G, R, rel, run⟩ := h
  refine ⟨B, st, G, R, rel, run.bind.mono fun x st1 G1 R1 H1 _ _ _ _ ⟨rel1, _, _, run1⟩ v rv => ?_⟩
  try simp only at run1
  refine ⟨by show 2 ≤ sizeLine; decide, fun tp htp => ?_⟩
  split at run1
  · rename_i t e
    have f := rel1.fresh htp
    have hk := kit_tyA (K := X.K) t [n1, n2]
    have ty : TyX X.K (upd H1 tp (.tup [.ty n1.nm, .ty n2.nm])) v t.nm := by
      have rel2 : Rel X.K cl B st1 G1 R1 σ (upd H1 tp (.tup [.ty n1.nm, .ty n2.nm])) := rel1.new htp
      exact tyX_of_type rel2 rv e
    have q := run1 G1 R1 _ (Same.refl _) (Pre.refl _) (rel1.new (ho := .tup [.ty n1.nm, .ty n2.nm]) htp) _ (.bl _)
    exact ⟨v, tp, _, t.nm, _, _, rfl, upd_same, .cons (.ty _) (.cons (.ty _) .nil), ty, hk, q⟩
  · exact run1.elim
end
end VL

namespace VL
open PySem PySem.Spec PyProof.Rows L2

/-! ### statements -/
def skipS : Stm := pureC .nx
def seqS (a b : Stm) : Stm := bndC a fun f => match f with
  | .nx => b
  | f => pureC f
def putV (i : Nat) (d : D) : Stm := fun st => if i < st.env.length then some (.ok .nx, { st with env := st.env.set i (.v d) }) else none
def asgV (i : Nat) (E : C D) : Stm := bndC E (putV i)
def asgN (i : Nat) (A : C Nv) : Stm := bndC A fun n => match n with
  | .d d => putV i d
  | .nw o => fun st => if i < st.env.length then some (.ok .nx, { st with env := st.env.set i (.own o) }) else none
def exprS (E : C D) : Stm := bndC E fun _ => pureC .nx
def retS (E : C D) : Stm := bndC E fun d => pureC (.rt d)
def retN : Stm := pureC (.rt .non)
def ifS (c : C Bool) (a b : Stm) : Stm := bndC c fun k => match k with
  | true => a
  | false => b
def brkS : Stm := pureC .bk
def cntS : Stm := pureC .ct
def raiseS (x : List Nat) : Stm := raiseC x
def neverS : Stm := failC

section
variable {X : Cx} {cl : CL} {W : WX} {B : Base} {st : Ms} {G G' H : Hp} {R R' : List Addr} {σ : L2.St}
variable {a b c e : Expr} {A A' : C Opd} {N : C Nv} {E E' E'' : C D} {pos p2 : Pos} {s1 s2 : Stmt} {rest : List Stmt} {S1 S2 : Stm} {cb : C Bool}
theorem ps_imp {t t' : TS} (h : PS X s1 t) (f : ∀ D σ H, t' D σ H → t D σ H) : PS X s1 t' := ⟨fun pins s σ H D I q => h.run pins s σ H D I (f D σ H q)⟩
theorem pss_imp {t t' : TS} (h : PSs X rest t) (f : ∀ D σ H, t' D σ H → t D σ H) : PSs X rest t' := ⟨fun pins s σ H D I q => h.run pins s σ H D I (f D σ H q)⟩
theorem RunS.weak {K : PySem.W.Frag} {o : Option (Res Fl × Ms)} {D : Ends} (g : Same G G') (r : Pre R R') (h : RunS K cl W B G R o D) : RunS K cl W B G' R' o D := by
  unfold RunS at h ⊢
  split at h
  · exact fun σ' G2 R2 H2 g2 r2 rel => h σ' G2 R2 H2 (g.trans g2) (r.trans r2) rel
  · exact fun σ' G2 R2 H2 g2 r2 rel => h σ' G2 R2 H2 (g.trans g2) (r.trans r2) rel
  · exact fun σ' G2 R2 H2 g2 r2 rel => h σ' G2 R2 H2 (g.trans g2) (r.trans r2) rel
  · exact fun σ' G2 R2 H2 v g2 r2 rel => h σ' G2 R2 H2 v (g.trans g2) (r.trans r2) rel
  · obtain ⟨C, hC, h⟩ := h
    exact ⟨C, hC, fun σ' G2 R2 H2 g2 r2 rel => h σ' G2 R2 H2 (g.trans g2) (r.trans r2) rel⟩
  · exact h
/-- a statement's run from an expression's -/
theorem RunS.bind {α : Type} {K : PySem.W.Frag} {c : C α} {k : α → Stm} {D : Ends} (h : RunS K cl W B G R (bndC c k st) D) :
    Run K cl W B σ G R (c st) (fun x st1 G1 R1 H1 => Rel K cl B st1 G1 R1 σ H1 ∧ Same G G1 ∧ Pre R R1 ∧ RunS K cl W B G1 R1 (k x st1) D) := by
  unfold bndC at h
  cases e : c st with
  | none => rw [e] at h; exact h
  | some p =>
    obtain ⟨r, st1⟩ := p
    cases r with
    | ex x =>
      rw [e] at h
      obtain ⟨C, hC, h⟩ := h
      exact ⟨C, hC, fun G1 R1 H1 g r rel => h σ G1 R1 H1 g r rel⟩
    | ok x =>
      rw [e] at h
      have h : RunS K cl W B G R (k x st1) D := h
      show ∀ G' R' H', Same G G' → Pre R R' → Rel K cl B st1 G' R' σ H' → _
      intro G1 R1 H1 g1 r1 rel
      exact ⟨rel, g1, r1, h.weak g1 r1⟩
theorem RunS.nx {K : PySem.W.Frag} {D : Ends} {H : Hp} (h : RunS K cl W B G R (some (.ok .nx, st)) D) (rel : Rel K cl B st G R σ H) : D.nx σ H := h σ G R H (Same.refl _) (Pre.refl _) rel
theorem ss_nil : PSs X [] (TUS X.K cl W skipS) := pss_imp pss_nil fun D σ H h => by
  obtain ⟨B, st, G, R, rel, run⟩ := h
  exact run.nx rel
theorem ss_one (h : PS X s1 (TUS X.K cl W S1)) : PSs X [s1] (TUS X.K cl W S1) := pss_one h
theorem ss_cons (h1 : PS X s1 (TUS X.K cl W S1)) (h2 : PSs X rest (TUS X.K cl W S2)) : PSs X (s1 :: rest) (TUS X.K cl W (seqS S1 S2)) := by
  refine pss_imp (pss_cons h1 h2) fun D σ H h => ?_
  obtain ⟨B, st, G, R, rel, run⟩ := h
  refine ⟨B, st, G, R, rel, ?_⟩
  unfold seqS bndC at run
  unfold RunS at run ⊢
  split at run
  · rename_i st' e
    split at e
    · rename_i f st1 e1
      rw [e1]
      cases f with
      | nx =>
        simp only at e
        show ∀ σ' G' R' H', _ → _ → _ → TUS X.K cl W S2 D σ' H'
        intro σ' G1 R1 H1 g1 r1 rel1
        refine ⟨B, st1, G1, R1, rel1, ?_⟩
        rw [e]
        exact fun σ' G2 R2 H2 g2 r2 rel2 => run σ' G2 R2 H2 (g1.trans g2) (r1.trans r2) rel2
      | _ => simp [pureC] at e
    · simp at e
    · cases e
  · rename_i st' e
    split at e
    · rename_i f st1 e1
      rw [e1]
      cases f with
      | nx =>
        simp only at e
        show ∀ σ' G' R' H', _ → _ → _ → TUS X.K cl W S2 D σ' H'
        intro σ' G1 R1 H1 g1 r1 rel1
        refine ⟨B, st1, G1, R1, rel1, ?_⟩
        rw [e]
        exact fun σ' G2 R2 H2 g2 r2 rel2 => run σ' G2 R2 H2 (g1.trans g2) (r1.trans r2) rel2
      | bk => simp only [pureC, Option.some.injEq, Prod.mk.injEq] at e; obtain ⟨_, rfl⟩ := e; exact run
      | _ => simp [pureC] at e
    · simp at e
    · cases e
  · rename_i st' e
    split at e
    · rename_i f st1 e1
      rw [e1]
      cases f with
      | nx =>
        simp only at e
        show ∀ σ' G' R' H', _ → _ → _ → TUS X.K cl W S2 D σ' H'
        intro σ' G1 R1 H1 g1 r1 rel1
        refine ⟨B, st1, G1, R1, rel1, ?_⟩
        rw [e]
        exact fun σ' G2 R2 H2 g2 r2 rel2 => run σ' G2 R2 H2 (g1.trans g2) (r1.trans r2) rel2
      | ct => simp only [pureC, Option.some.injEq, Prod.mk.injEq] at e; obtain ⟨_, rfl⟩ := e; exact run
      | _ => simp [pureC] at e
    · simp at e
    · cases e
  · rename_i d st' e
    split at e
    · rename_i f st1 e1
      rw [e1]
      cases f with
      | nx =>
        simp only at e
        show ∀ σ' G' R' H', _ → _ → _ → TUS X.K cl W S2 D σ' H'
        intro σ' G1 R1 H1 g1 r1 rel1
        refine ⟨B, st1, G1, R1, rel1, ?_⟩
        rw [e]
        exact fun σ' G2 R2 H2 v g2 r2 rel2 => run σ' G2 R2 H2 v (g1.trans g2) (r1.trans r2) rel2
      | rt d' => simp only [pureC, Option.some.injEq, Prod.mk.injEq, Res.ok.injEq, Fl.rt.injEq] at e; obtain ⟨rfl, rfl⟩ := e; exact run
      | _ => simp [pureC] at e
    · simp at e
    · cases e
  · rename_i x st' e
    split at e
    · rename_i f st1 e1
      rw [e1]
      cases f with
      | nx =>
        simp only at e
        show ∀ σ' G' R' H', _ → _ → _ → TUS X.K cl W S2 D σ' H'
        intro σ' G1 R1 H1 g1 r1 rel1
        refine ⟨B, st1, G1, R1, rel1, ?_⟩
        rw [e]
        obtain ⟨C, hC, run⟩ := run
        exact ⟨C, hC, fun σ' G2 R2 H2 g2 r2 rel2 => run σ' G2 R2 H2 (g1.trans g2) (r1.trans r2) rel2⟩
      | _ => simp [pureC] at e
    · rename_i x' st1 e1
      simp only [Option.some.injEq, Prod.mk.injEq, Res.ex.injEq] at e
      obtain ⟨rfl, rfl⟩ := e
      rw [e1]
      exact run
    · cases e
  · exact run.elim
/-- a slot gets a value, an object just made -/
theorem Rel.setV {K : PySem.W.Frag} {i : Nat} {d : D} {v : V} (r : Rel K cl B st G R σ H) (hv : RepV K G R v d) : Rel K cl B { st with env := st.env.set i (.v d) } G R (σ.set i (some v)) H := by
  refine ⟨r.m, ?_, fun j d' h => ?_, fun j o h => ?_, fun j k o o' a e1 e2 s1 s2 => ?_, ex_set r.ex (fun _ z => by cases z) fun j hj => List.getElem?_set_ne (Ne.symm hj)⟩
  · show (σ.set i (some v)).length = (st.env.set i (.v d)).length
    rw [List.length_set, List.length_set]; exact r.len
  · have h : (st.env.set i (.v d))[j]? = some (.v d') := h
    by_cases hj : j = i
    · subst hj
      have hi : j < st.env.length := by
        have := (List.getElem?_eq_some_iff.mp h).1
        rw [List.length_set] at this; exact this
      rw [List.getElem?_set_self hi] at h; cases h
      exact ⟨v, by rw [List.getElem?_set_self (by rw [r.len]; exact hi)], hv⟩
    · rw [List.getElem?_set_ne (Ne.symm hj)] at h
      rw [List.getElem?_set_ne (Ne.symm hj)]
      exact r.val j d' h
  · have h : (st.env.set i (.v d))[j]? = some (.own o) := h
    have hj : j ≠ i := by
      intro z; subst z
      have hi : j < st.env.length := by
        have := (List.getElem?_eq_some_iff.mp h).1
        rw [List.length_set] at this; exact this
      rw [List.getElem?_set_self hi] at h; cases h
    rw [List.getElem?_set_ne (Ne.symm hj)] at h
    rw [List.getElem?_set_ne (Ne.symm hj)]
    exact r.own j o h
  · have nj : ∀ (j : Nat) (o : MO), (st.env.set i (.v d))[j]? = some (.own o) → j ≠ i := fun j o h z => by
      subst z
      have hi : j < st.env.length := by
        have := (List.getElem?_eq_some_iff.mp h).1
        rw [List.length_set] at this; exact this
      rw [List.getElem?_set_self hi] at h; cases h
    have hj := nj j o e1
    have hk := nj k o' e2
    have e1 : (st.env.set i (.v d))[j]? = some (.own o) := e1
    have e2 : (st.env.set i (.v d))[k]? = some (.own o') := e2
    rw [List.getElem?_set_ne (Ne.symm hj)] at e1 s1
    rw [List.getElem?_set_ne (Ne.symm hk)] at e2 s2
    exact r.dis j k o o' a e1 e2 s1 s2
theorem Rel.setOwn {K : PySem.W.Frag} {i : Nat} {o : MO} {p : Addr} (r : Rel K cl B st G R σ H) (f : Fresh B st G R σ p) (ro : RepO K cl G R H p o) (hi : i < st.env.length) : Rel K cl B { st with env := st.env.set i (.own o) } G R (σ.set i (some (.ref p))) H := by
  have hs : i < σ.length := by rw [r.len]; exact hi
  refine ⟨r.m, ?_, fun j d' h => ?_, fun j o' h => ?_, fun j k o1 o2 a e1 e2 s1 s2 => ?_, ex_set r.ex (fun _ z => by cases z) fun j hj => List.getElem?_set_ne (Ne.symm hj)⟩
  · show (σ.set i (some (.ref p))).length = (st.env.set i (.own o)).length
    rw [List.length_set, List.length_set]; exact r.len
  · have h : (st.env.set i (.own o))[j]? = some (.v d') := h
    have hj : j ≠ i := by
      intro z; subst z
      rw [List.getElem?_set_self hi] at h; cases h
    rw [List.getElem?_set_ne (Ne.symm hj)] at h
    rw [List.getElem?_set_ne (Ne.symm hj)]
    exact r.val j d' h
  · have h : (st.env.set i (.own o))[j]? = some (.own o') := h
    by_cases hj : j = i
    · subst hj
      rw [List.getElem?_set_self hi] at h; cases h
      exact ⟨p, by rw [List.getElem?_set_self hs], f.g, f.r, f.k, ro⟩
    · rw [List.getElem?_set_ne (Ne.symm hj)] at h
      rw [List.getElem?_set_ne (Ne.symm hj)]
      exact r.own j o' h
  · have e1 : (st.env.set i (.own o))[j]? = some (.own o1) := e1
    have e2 : (st.env.set i (.own o))[k]? = some (.own o2) := e2
    by_cases hj : j = i
    · subst hj
      by_cases hk : k = j
      · exact hk.symm
      · rw [List.getElem?_set_self hs] at s1
        cases s1
        rw [List.getElem?_set_ne (Ne.symm hk)] at e2 s2
        exact absurd s2 (f.e k o2 e2)
    · rw [List.getElem?_set_ne (Ne.symm hj)] at e1 s1
      by_cases hk : k = i
      · rw [hk, List.getElem?_set_self hs] at s2
        cases s2
        exact absurd s1 (f.e j o1 e1)
      · rw [List.getElem?_set_ne (Ne.symm hk)] at e2 s2
        exact r.dis j k o1 o2 a e1 e2 s1 s2
theorem putV_run {K : PySem.W.Frag} {i : Nat} {d : D} {v : V} {D : Ends} (h : RunS K cl W B G R (putV i d st) D) (rel : Rel K cl B st G R σ H) (hv : RepV K G R v d) : D.nx (σ.set i (some v)) H := by
  unfold putV at h
  split at h
  · exact h _ G R H (Same.refl _) (Pre.refl _) (rel.setV hv)
  · exact h.elim
theorem asgV_read {i : Nat} {D : Ends} (h : TUS X.K cl W (asgV i E) D σ H) : tAsg (TU X.K cl W E) (gName i) D σ H := by
  obtain ⟨B, st, G, R, rel, run⟩ := h
  exact ⟨B, st, G, R, rel, run.bind.mono fun d st1 G1 R1 H1 _ _ _ _ ⟨rel1, _, _, run1⟩ v rv => putV_run run1 rel1 rv⟩
theorem asgN_read {i : Nat} {D : Ends} (h : TUS X.K cl W (asgN i N) D σ H) : tAsg (TN X.K cl W N) (gName i) D σ H := by
  obtain ⟨B, st, G, R, rel, run⟩ := h
  refine ⟨B, st, G, R, rel, run.bind.mono fun n st1 G1 R1 H1 _ _ _ _ ⟨rel1, _, _, run1⟩ v rv => ?_⟩
  cases n with
  | d d => exact putV_run run1 rel1 rv
  | nw o =>
    obtain ⟨p, rfl, f, ro⟩ := rv
    simp only at run1
    split at run1
    · rename_i hi
      exact run1 _ G1 R1 H1 (Same.refl _) (Pre.refl _) (rel1.setOwn f ro hi)
    · exact run1.elim
theorem ss_set {i : Nat} {x : Str} (hN : X.N.Nodup) (hi : X.N[i]? = some x) (hx : Loc X.env.scope x) (he : PE X e (TU X.K cl W E)) (hs : swapsWith e (some (.Name x p2)) pos.line X.env = pure false := by rfl) (hf : X.fn x = true ∨ X.env.scope.names.lookup x = some .local := by first | exact .inl rfl | exact .inr rfl | assumption) :
    PS X (.Assign [.Name x p2] e pos) (TUS X.K cl W (asgV i E)) := ps_imp (ps_set hN hi hx he hs hf) fun D σ H h => asgV_read h
theorem ss_setN {i : Nat} {x : Str} (hN : X.N.Nodup) (hi : X.N[i]? = some x) (hx : Loc X.env.scope x) (he : PE X e (TN X.K cl W N)) (hs : swapsWith e (some (.Name x p2)) pos.line X.env = pure false := by rfl) (hf : X.fn x = true ∨ X.env.scope.names.lookup x = some .local := by first | exact .inl rfl | exact .inr rfl | assumption) :
    PS X (.Assign [.Name x p2] e pos) (TUS X.K cl W (asgN i N)) := ps_imp (ps_set hN hi hx he hs hf) fun D σ H h => asgN_read h
theorem ss_expr (he : PE X e (TU X.K cl W E)) (hs : swapsWith e none pos.line X.env = pure false := by rfl) : PS X (.Expr e pos) (TUS X.K cl W (exprS E)) := ps_imp (ps_expr he hs) fun D σ H h => by
  obtain ⟨B, st, G, R, rel, run⟩ := h
  exact ⟨B, st, G, R, rel, run.bind.mono fun d st1 G1 R1 H1 _ _ _ _ ⟨rel1, _, _, run1⟩ v rv => run1.nx rel1⟩
theorem ss_ret (he : PE X e (TU X.K cl W E)) : PS X (.Return (some e) pos) (TUS X.K cl W (retS E)) := ps_imp (ps_ret he) fun D σ H h => by
  obtain ⟨B, st, G, R, rel, run⟩ := h
  exact ⟨B, st, G, R, rel, run.bind.mono fun d st1 G1 R1 H1 _ _ _ _ ⟨rel1, _, _, run1⟩ v rv => run1 σ G1 R1 H1 v (Same.refl _) (Pre.refl _) rel1 rv⟩
theorem ss_retN : PS X (.Return none pos) (TUS X.K cl W retN) := ps_imp ps_retN fun D σ H h => by
  obtain ⟨B, st, G, R, rel, run⟩ := h
  exact run σ G R H .non (Same.refl _) (Pre.refl _) rel .non
theorem ss_pass : PS X (.Pass pos) (TUS X.K cl W skipS) := ps_imp ps_pass fun D σ H h => by
  obtain ⟨B, st, G, R, rel, run⟩ := h
  exact run.nx rel
theorem ss_brk : PS X (.Break pos) (TUS X.K cl W brkS) := ps_imp ps_break fun D σ H h => by
  obtain ⟨B, st, G, R, rel, run⟩ := h
  exact run σ G R H (Same.refl _) (Pre.refl _) rel
theorem ss_cnt : PS X (.Continue pos) (TUS X.K cl W cntS) := ps_imp ps_continue fun D σ H h => by
  obtain ⟨B, st, G, R, rel, run⟩ := h
  exact run σ G R H (Same.refl _) (Pre.refl _) rel
theorem ss_never : PS X s1 (TUS X.K cl W neverS) := ps_imp ps_never fun D σ H h => by
  obtain ⟨B, st, G, R, rel, run⟩ := h
  exact run
theorem sss_never : PSs X rest (TUS X.K cl W neverS) := pss_imp pss_never fun D σ H h => by
  obtain ⟨B, st, G, R, rel, run⟩ := h
  exact run
theorem ss_if {as bs : List Stmt} (hc : PT X c (TUT X.K cl W cb)) (ha : PSs X as (TUS X.K cl W S1)) (hb : PSs X bs (TUS X.K cl W S2)) : PS X (.If c as bs pos) (TUS X.K cl W (ifS cb S1 S2)) := ps_imp (ps_if hc ha hb) fun D σ H h => by
  obtain ⟨B, st, G, R, rel, run⟩ := h
  refine ⟨B, st, G, R, rel, run.bind.mono fun k st1 G1 R1 H1 _ _ _ _ ⟨rel1, _, _, run1⟩ => ?_⟩
  cases k with
  | true => exact iteT ⟨B, st1, G1, R1, rel1, run1⟩
  | false => exact iteF ⟨B, st1, G1, R1, rel1, run1⟩
theorem ss_raise {x : List Nat} {C : Addr} (hc : X.calm = true) (tk : Takes X W) (hC : cl x = some C) (he : PMk X e (fun _ H Q => Q (.ref C) none H)) : PS X (.Raise (some e) none pos) (TUS X.K cl W (raiseS x)) :=
  ps_imp (ps_raise hc tk he) fun D σ H h => by
    obtain ⟨B, st, G, R, rel, C', hC', run⟩ := h
    rw [hC] at hC'; cases hC'
    exact run σ G R H (Same.refl _) (Pre.refl _) rel

/-! ### targets -/
inductive Tgt where
  | one (i : Nat) | all (is : List Nat)
def setAll : List Nat → List D → List Cell → List Cell
  | i :: is, d :: ds, env => setAll is ds (env.set i (.v d))
  | _, _, env => env
def setT (t : Tgt) (d : D) (env : List Cell) : Option (List Cell) := match t with
  | .one i => some (env.set i (.v d))
  | .all is => match d with
    | .tup ds => if ds.length = is.length then some (setAll is ds env) else none
    | .lst ds => if ds.length = is.length then some (setAll is ds env) else none
    | _ => none
def gNames : List Nat → TGs
  | [] => gNil
  | i :: is => gCons (gName i) (gNames is)
def gT (K : PySem.W.Frag) : Tgt → TG
  | .one i => gName i
  | .all is => fun v σ H Q => ∃ a xs, v = .ref a ∧ (SqT K H a xs ∨ SqL K H a xs) ∧ xs.length = is.length ∧ gNames is xs σ H Q
theorem sg_one {i : Nat} {x : Str} (hN : X.N.Nodup) (hi : X.N[i]? = some x) (hx : Loc X.env.scope x) (hf : X.fn x = true ∨ X.env.scope.names.lookup x = some .local := by first | exact .inl rfl | exact .inr rfl | assumption) : PG X (.Name x pos) (gT X.K (.one i)) := pg_name hN hi hx hf
theorem sg_nil : PGs X [] (gNames []) := pgs_nil
theorem sg_cons {i : Nat} {is : List Nat} {x : Str} {es : List Expr} (hN : X.N.Nodup) (hi : X.N[i]? = some x) (hx : Loc X.env.scope x) (h2 : PGs X es (gNames is)) (hf : X.fn x = true ∨ X.env.scope.names.lookup x = some .local := by first | exact .inl rfl | exact .inr rfl | assumption)
    (hs : (assignEach (.Name x pos :: es) X.env).map (·.2) = assign (.Name x pos) X.env :: (assignEach es X.env).map (·.2) := by rfl) : PGs X (.Name x pos :: es) (gNames (i :: is)) := pgs_cons (pg_name hN hi hx hf) h2 hs
theorem sg_all {is : List Nat} {es : List Expr} {k : Nat} (hc : X.calm = true) (h : PGs X es (gNames is)) (hn : (assignEach es X.env).length = is.length := by rfl) (hst : (assignEach es X.env).findIdx? (·.1) = none := by rfl) : PG X (.Tuple es k pos) (gT X.K (.all is)) := by
  refine ⟨fun pins s σ H v u Q I r hw => ?_⟩
  obtain ⟨a, xs, e, hq, hl, hw⟩ := hw
  rcases hq with hq | hq
  · exact (pg_tup hc h hn hst).run pins s σ H v u Q I r ⟨a, xs, e, hq, hl, hw⟩
  · exact (pg_lst hc h hn hst).run pins s σ H v u Q I r ⟨a, xs, e, hq, hl, hw⟩
theorem setAll_ok {K : PySem.W.Frag} {Q : L2.St → Hp → Prop} : ∀ {is : List Nat} {ds : List D} {xs : List V} {st : Ms} {σ : L2.St}, Rel K cl B st G R σ H → RepA K G R xs ds → ds.length = is.length →
    (∀ σ', Rel K cl B { st with env := setAll is ds st.env } G R σ' H → Q σ' H) → gNames is xs σ H Q
  | [], [], _, st, σ, rel, .nil, _, q => ⟨rfl, q σ rel⟩
  | i :: is, d :: ds, _, st, σ, rel, .cons (v := v) (vs := vs) h t, hl, q => by
    refine ⟨v, vs, rfl, ?_⟩
    exact setAll_ok (is := is) (ds := ds) (rel.setV (i := i) h) t (by simpa using hl) q
  | [], _ :: _, _, _, _, _, _, hl, _ => by simp at hl
  | _ :: _, [], _, _, _, _, _, hl, _ => by simp at hl
theorem setT_ok {K : PySem.W.Frag} {Q : L2.St → Hp → Prop} {t : Tgt} {d : D} {v : V} {env : List Cell} (rel : Rel K cl B st G R σ H) (hv : RepV K G R v d) (e : setT t d st.env = some env) (q : ∀ σ', Rel K cl B { st with env := env } G R σ' H → Q σ' H) : gT K t v σ H Q := by
  cases t with
  | one i =>
    cases e
    exact q _ (rel.setV hv)
  | all is =>
    cases hv with
    | tup ha hr =>
      simp only [setT] at e
      split at e
      · rename_i hl
        cases e
        exact ⟨_, _, rfl, .inl (SqT.of (rel.m.same _ _ ha)), by rw [hr.length]; exact hl, setAll_ok rel hr hl q⟩
      · cases e
    | lst ha hr =>
      simp only [setT] at e
      split at e
      · rename_i hl
        cases e
        exact ⟨_, _, rfl, .inr (SqL.of (rel.m.same _ _ ha)), by rw [hr.length]; exact hl, setAll_ok rel hr hl q⟩
      · cases e
    | _ => cases e
/-- a, b = e -/
def asgT (t : Tgt) (E : C D) : Stm := bndC E fun d => fun st => match setT t d st.env with
  | some env => some (.ok .nx, { st with env := env })
  | none => none
theorem ss_tup {t : Tgt} {tg : Expr} (he : PE X e (TU X.K cl W E)) (hg : PG X tg (gT X.K t)) (hs : swapsWithSole [tg] e pos.line X.env = pure false := by rfl) (hw : swappedStores [tg] e X.env = pure none := by rfl)
    (h1 : (assignEach [tg] X.env).map (·.2) = [assign tg X.env] := by rfl) : PS X (.Assign [tg] e pos) (TUS X.K cl W (asgT t E)) := ps_imp (ps_asg he hg hs hw h1) fun D σ H h => by
  obtain ⟨B, st, G, R, rel, run⟩ := h
  refine ⟨B, st, G, R, rel, run.bind.mono fun d st1 G1 R1 H1 _ _ _ _ ⟨rel1, _, _, run1⟩ v rv => ?_⟩
  try simp only at run1
  split at run1
  · rename_i env e
    exact setT_ok rel1 rv e fun σ' rel' => run1 σ' G1 R1 H1 (Same.refl _) (Pre.refl _) rel'
  · exact run1.elim

/-! ### what is walked -/
structure ItV where
  n : Nat
  get : Ms → Nat → Option (Option D)
/-- J walks what iv tells -/
def JOk (K : PySem.W.Frag) (cl : CL) (G : Hp) (R : List Addr) (iv : ItV) (J : It) : Prop := ∀ (B : Base) (st : Ms) (G' : Hp) (R' : List Addr) (σ : L2.St) (H : Hp) (i : Nat), Same G G' → Pre R R' → Rel K cl B st G' R' σ H →
  (∀ d, iv.get st i = some (some d) → J.go i H ∧ ∀ v H', J.yld i H v H' → ∃ G2, Same G' G2 ∧ Rel K cl B st G2 R' σ H' ∧ RepV K G2 R' v d) ∧ (iv.get st i = some none → J.stop i H)
def TI' (K : PySem.W.Frag) (cl : CL) (W : WX) (c : C ItV) : TI := fun σ H Rr => ∃ B st G R, Rel K cl B st G R σ H ∧ Run K cl W B σ G R (c st) fun iv st' G' R' H' => ∀ J, JOk K cl G' R' iv J → Rr J H'
def forI (get : Ms → Nat → Option (Option D)) (t : Tgt) (body : Stm) : Nat → Nat → Stm
  | 0, _ => failC
  | m + 1, i => fun st => match get st i with
    | some none => some (.ok .nx, st)
    | some (some d) => match setT t d st.env with
      | some env => match body { st with env := env } with
        | some (.ok .nx, st2) => forI get t body m (i + 1) st2
        | some (.ok .ct, st2) => forI get t body m (i + 1) st2
        | some (.ok .bk, st2) => some (.ok .nx, st2)
        | some (.ok (.rt d), st2) => some (.ok (.rt d), st2)
        | some (.ex x, st2) => some (.ex x, st2)
        | none => none
      | none => none
    | none => none
def forS (c : C ItV) (t : Tgt) (body : Stm) : Stm := bndC c fun iv => forI iv.get t body (iv.n + 1) 0
theorem ss_for {iter tg : Expr} {body : List Stmt} {ci : C ItV} {t : Tgt} (hp : PassesOwn (model X.prog X.w) X.A X.env X.xe) (hc : X.calm = true) (hi : PI X tg iter (TI' X.K cl W ci)) (hg : PG X tg (gT X.K t)) (hb : PSs X body (TUS X.K cl W S1))
    (hs : ∀ x, foldedSetIterable iter X.env x = pure x := by intro _; rfl) : PS X (.For tg iter body [] pos) (TUS X.K cl W (forS ci t S1)) := ps_imp (ps_for hp hc hi hg hb hs) fun D σ H h => by
  obtain ⟨B, st, G, R, rel, run⟩ := h
  refine ⟨B, st, G, R, rel, run.bind.mono fun iv st1 G1 R1 H1 _ _ _ _ ⟨rel1, _, _, run1⟩ J hJ => ?_⟩
  refine ⟨fun i m σ H => ∃ st G R, Same G1 G ∧ Pre R1 R ∧ Rel X.K cl B st G R σ H ∧ RunS X.K cl W B G R (forI iv.get t S1 m i st) D, ⟨iv.n + 1, st1, G1, R1, Same.refl _, Pre.refl _, rel1, run1⟩, ?_⟩
  rintro i m σ2 H2 ⟨st2, G2, R2, g2, r2, rel2, run2⟩
  cases m with
  | zero => exact run2.elim
  | succ m =>
    unfold forI at run2
    obtain ⟨j1, j2⟩ := hJ B st2 G2 R2 σ2 H2 i g2 r2 rel2
    split at run2
    · rename_i e
      exact .inl ⟨j2 e, run2.nx rel2⟩
    · rename_i d e
      obtain ⟨go, yl⟩ := j1 d e
      refine .inr ⟨go, fun σ' H' => ∃ st G R, Same G1 G ∧ Pre R1 R ∧ Rel X.K cl B st G R σ' H' ∧ RunS X.K cl W B G R (forI iv.get t S1 m (i + 1) st) D, fun σ' H' ⟨st', G', R', q⟩ => ⟨m, Nat.lt_succ_self _, st', G', R', q⟩, fun v H' hy => ?_⟩
      obtain ⟨G3, g3, rel3, rv⟩ := yl v H' hy
      split at run2
      · rename_i env ee
        refine setT_ok rel3 rv ee fun σ4 rel4 => ⟨B, { st2 with env := env }, G3, R2, rel4, ?_⟩
        have run2 := RunS.weak g3 (Pre.refl R2) run2
        split at run2
        · rename_i st5 e5
          rw [e5]
          exact fun σ6 G6 R6 H6 g6 r6 rel6 => ⟨st5, G6, R6, (g2.trans g3).trans g6, r2.trans r6, rel6, run2.weak g6 r6⟩
        · rename_i st5 e5
          rw [e5]
          exact fun σ6 G6 R6 H6 g6 r6 rel6 => ⟨st5, G6, R6, (g2.trans g3).trans g6, r2.trans r6, rel6, run2.weak g6 r6⟩
        · rename_i st5 e5
          rw [e5]
          exact run2
        · rename_i d st5 e5
          rw [e5]
          exact run2
        · rename_i x st5 e5
          rw [e5]
          exact run2
        · exact run2.elim
      · exact run2.elim
    · exact run2.elim
theorem pi_imp {tg iter : Expr} {t t' : TI} (h : PI X tg iter t) (f : ∀ σ H Q, t' σ H Q → t σ H Q) : PI X tg iter t' := ⟨fun pins s σ H Q I q => h.run pins s σ H Q I (f σ H Q q)⟩
/-- a value walked -/
def getD' (d : D) (st : Ms) (i : Nat) : Option (Option D) := match seqD st d with
  | some ds => some ds[i]?
  | none => match d with
    | .tup ds => some ds[i]?
    | .str t => some (t[i]?.map fun c => .str [c])
    | .scr ns => some (ns[i]?.map .int)
    | _ => none
def itD (E : C D) : C ItV := bndC E fun d => fun st => match seqD st d with
  | some ds => some (.ok ⟨ds.length, getD' d⟩, st)
  | none => match d with
    | .tup ds => some (.ok ⟨ds.length, getD' d⟩, st)
    | .str t => some (.ok ⟨t.length, getD' d⟩, st)
    | .scr ns => some (.ok ⟨ns.length, getD' d⟩, st)
    | _ => none
theorem jok_list {K : PySem.W.Frag} {d : D} {a : Addr} {n : Nat} (hv : RepV K G R (.ref a) d) (hk : ∀ st, (∃ ds, seqD st d = some ds) ∨ (∃ ns, d = .scr ns) ∨ getD' d st = fun _ => none) : JOk K cl G R ⟨n, getD' d⟩ (Itl K a) := by
  intro B st G' R' σ H i g r rel
  have hv := hv.mono g r
  rcases hk st with ⟨ds, e⟩ | ⟨ns, rfl⟩ | e
  · obtain ⟨p, xs, ep, h1, h2⟩ := seqD_ok rel hv e
    cases ep
    unfold getD'
    simp only [e]
    refine ⟨fun d' h => ?_, fun h => ?_⟩
    · have h := Option.some.inj h
      obtain ⟨v, h3, h4⟩ := h2.get h
      refine ⟨⟨xs, v, SqL.of h1, h3⟩, fun w H' hy => ?_⟩
      obtain ⟨rfl, hy⟩ := hy
      have h5 := hy xs (SqL.of h1)
      rw [h3] at h5; cases h5
      exact ⟨G', Same.refl _, rel, h4⟩
    · have h := List.getElem?_eq_none_iff.mp (Option.some.inj h)
      exact ⟨xs, SqL.of h1, by rw [h2.length]; exact h⟩
  · cases hv with
    | scr ha =>
      have ha := rel.m.same.seq ha
      show (∀ d', (some (ns[i]?.map D.int)) = some (some d') → _) ∧ ((some (ns[i]?.map D.int)) = some none → _)
      refine ⟨fun d' h => ?_, fun h => ?_⟩
      · obtain ⟨k, h1, rfl⟩ := Option.map_eq_some_iff.mp (Option.some.inj h)
        have h3 : (ns.map V.int)[i]? = some (.int k) := by rw [List.getElem?_map, h1]; rfl
        refine ⟨⟨_, _, ha, h3⟩, fun w H' hy => ?_⟩
        obtain ⟨rfl, hy⟩ := hy
        have h5 := hy _ ha
        rw [h3] at h5; cases h5
        exact ⟨G', Same.refl _, rel, .int k⟩
      · have h := List.getElem?_eq_none_iff.mp (Option.map_eq_none_iff.mp (Option.some.inj h))
        exact ⟨_, ha, by rw [List.length_map]; exact h⟩
  · show (∀ d', getD' d st i = some (some d') → _) ∧ (getD' d st i = some none → _)
    rw [e]
    exact ⟨(fun _ h => by cases h), (fun h => by cases h)⟩
theorem si_d {tg : Expr} (he : PE X e (TU X.K cl W E)) : PI X tg e (TI' X.K cl W (itD E)) := by
  refine ⟨fun pins s σ H Rr I h => ?_⟩
  obtain ⟨B, st, G, R, rel, run⟩ := h
  have fall : ∀ {wi : TI}, PI X tg e wi → (wi σ H Rr) → wpAny (model X.prog X.w) X.A (eval e X.env) (fun v s1 => wpAny (model X.prog X.w) X.A (pyIter v) (PIE X pins σ tg Rr) X.xe s1) X.xe s := fun hp hq => hp.run pins s σ H Rr I hq
  -- the outcome of the expression
  have run0 := run
  unfold itD bndC at run0
  cases ee : E st with
  | none => rw [ee] at run0; exact run0.elim
  | some pr =>
    obtain ⟨rr, st1⟩ := pr
    cases rr with
    | ex x =>
      rw [ee] at run0
      exact fall (pi_list he) ⟨B, st, G, R, rel, by rw [ee]; exact run0⟩
    | ok d =>
      rw [ee] at run0
      simp only at run0
      cases e1 : seqD st1 d with
      | some ds =>
        rw [e1] at run0
        refine fall (pi_list he) ⟨B, st, G, R, rel, ?_⟩
        rw [ee]
        intro G1 R1 H1 g1 r1 rel1 v rv
        obtain ⟨p, xs, rfl, h1, h2⟩ := seqD_ok rel1 rv e1
        refine ⟨p, rfl, ⟨xs, SqL.of h1⟩, run0 G1 R1 H1 g1 r1 rel1 _ (jok_list rv fun st' => ?_)⟩
        cases d with
        | lst _ => exact .inl ⟨_, rfl⟩
        | ob n =>
          cases h : seqD st' (.ob n) with
          | some ds' => exact .inl ⟨ds', rfl⟩
          | none => refine .inr (.inr ?_); funext i; unfold getD'; rw [h]
        | _ => cases e1
      | none =>
        rw [e1] at run0
        simp only at run0
        cases d with
        | tup ds =>
          refine fall (pi_tup he) ⟨B, st, G, R, rel, ?_⟩
          rw [ee]
          intro G1 R1 H1 g1 r1 rel1 v rv
          cases rv with
          | tup ha hr =>
            rename_i p xs
            refine ⟨p, rfl, ⟨xs, SqT.of (rel1.m.same _ _ ha)⟩, run0 G1 R1 H1 g1 r1 rel1 _ ?_⟩
            intro B' st' G' R' σ' H' i g r rel'
            have ha' := rel'.m.same _ _ (g _ _ ha)
            have hr' := hr.mono g r
            refine ⟨fun d' h => ?_, fun h => ?_⟩
            · have h : ds[i]? = some d' := Option.some.inj h
              obtain ⟨w, h3, h4⟩ := hr'.get h
              refine ⟨⟨xs, w, SqT.of ha', h3⟩, fun u H2 hy => ?_⟩
              obtain ⟨rfl, hy⟩ := hy
              have h5 := hy xs (SqT.of ha')
              rw [h3] at h5; cases h5
              exact ⟨G', Same.refl _, rel', h4⟩
            · have h := List.getElem?_eq_none_iff.mp (Option.some.inj h)
              exact ⟨xs, SqT.of ha', by rw [hr.length]; exact h⟩
        | str t =>
          refine fall (pi_str he) ⟨B, st, G, R, rel, ?_⟩
          rw [ee]
          intro G1 R1 H1 g1 r1 rel1 v rv
          cases rv with
          | str =>
            refine ⟨toS t, rfl, run0 G1 R1 H1 g1 r1 rel1 _ ?_⟩
            intro B' st' G' R' σ' H' i g r rel'
            refine ⟨fun d' h => ?_, fun h => ?_⟩
            · obtain ⟨k, h1, rfl⟩ := Option.map_eq_some_iff.mp (Option.some.inj h)
              have hi := (List.getElem?_eq_some_iff.mp h1).1
              refine ⟨by show i < (toS t).cps.size; simpa [toS] using hi, fun w H2 hy => ?_⟩
              obtain ⟨rfl, c, hc, rfl⟩ := hy
              have : c = k := by
                have h2 : (toS t).cps[i]? = t[i]? := by simp [toS]
                rw [h2, h1] at hc; exact (Option.some.inj hc).symm
              subst this
              exact ⟨G', Same.refl _, rel', .str [c]⟩
            · have h := List.getElem?_eq_none_iff.mp (Option.map_eq_none_iff.mp (Option.some.inj h))
              show (toS t).cps.size ≤ i
              simpa [toS] using h
        | scr ns =>
          refine fall (pi_list he) ⟨B, st, G, R, rel, ?_⟩
          rw [ee]
          intro G1 R1 H1 g1 r1 rel1 v rv
          cases rv with
          | scr ha =>
            rename_i p
            exact ⟨p, rfl, ⟨_, rel1.m.same.seq ha⟩, run0 G1 R1 H1 g1 r1 rel1 _ (jok_list (.scr ha) fun st' => .inr (.inl ⟨ns, rfl⟩))⟩
        | _ => exact run0.elim
/-- range(n), range(a, b) -/
def getR (lo : Int) (n : Nat) (_ : Ms) (i : Nat) : Option (Option D) := some (if i < n then some (.int (lo + i)) else none)
def rngOk (lo hi : Int) : Bool := leN (-lo) 4611686018427387904 && leN lo 4611686018427387903 && leN (-hi) 4611686018427387904 && leN hi 4611686018427387903
def itR1 (E : C D) : C ItV := bndC E fun d => match d with
  | .int n => if rngOk 0 n then pureC ⟨n.toNat, getR 0 n.toNat⟩ else failC
  | _ => failC
def itR2 (E E' : C D) : C ItV := bndC E fun d => bndC E' fun d' => match d, d' with
  | .int lo, .int hi => if rngOk lo hi then pureC ⟨(hi - lo).toNat, getR lo (hi - lo).toNat⟩ else failC
  | _, _ => failC
theorem jok_rng {K : PySem.W.Frag} {lo : Int} {n m : Nat} : JOk K cl G R ⟨m, getR lo n⟩ (Itr lo n) := by
  intro B st G' R' σ H i g r rel
  show (∀ d, some (if i < n then some (D.int (lo + i)) else none) = some (some d) → _) ∧ (some (if i < n then some (D.int (lo + i)) else none) = some none → _)
  by_cases hi : i < n
  · rw [if_pos hi]
    refine ⟨(fun d h => ⟨hi, fun v H' hy => ?_⟩), (fun h => by cases h)⟩
    cases h
    obtain ⟨rfl, rfl⟩ := hy
    exact ⟨G', Same.refl _, rel, .int _⟩
  · rw [if_neg hi]
    exact ⟨(fun d h => by cases h), (fun _ => Nat.le_of_not_lt hi)⟩
theorem rngOk_of {lo hi : Int} (h : rngOk lo hi = true) : -(2 ^ 62) ≤ lo ∧ lo < 2 ^ 62 ∧ -(2 ^ 62) ≤ hi ∧ hi < 2 ^ 62 := by
  unfold rngOk at h
  simp only [Bool.and_eq_true, leN_iff] at h
  obtain ⟨⟨⟨h1, h2⟩, h3⟩, h4⟩ := h
  refine ⟨?_, ?_, ?_, ?_⟩ <;> omega
theorem rngOk_iff {lo hi : Int} : rngOk lo hi = true ↔ -(2 ^ 62) ≤ lo ∧ lo < 2 ^ 62 ∧ -(2 ^ 62) ≤ hi ∧ hi < 2 ^ 62 := by
  refine ⟨rngOk_of, fun h => ?_⟩
  unfold rngOk
  simp only [Bool.and_eq_true, leN_iff]
  refine ⟨⟨⟨?_, ?_⟩, ?_⟩, ?_⟩ <;> omega
theorem si_r1 {tg : Expr} {p : Pos} (hg : Gl X "range") (hm : X.mg "range" = none) (he : PE X e (TU X.K cl W E)) (hs : starEach [e] X.env = [(false, eval e X.env)] := by rfl) (hs' : starEach [e] X.env = (false, eval e X.env) :: starEach [] X.env := by rfl) : PI X tg (.Call (.Name "range" p) [e] [] pos) (TI' X.K cl W (itR1 E)) := by
  refine pi_imp (pi_range1 hg hm (pa_cons he pa_nil hs') hs) fun σ H Rr h => ?_
  obtain ⟨B, st, G, R, rel, run⟩ := h
  refine ⟨B, st, G, R, rel, run.bind.mono fun d st1 G1 R1 H1 _ _ _ _ ⟨rel1, _, _, run1⟩ v rv => ?_⟩
  cases rv with
  | int n =>
    simp only at run1
    split at run1
    · rename_i hz
      obtain ⟨_, _, z1, z2⟩ := rngOk_of hz
      refine ⟨n, rfl, z1, z2, run1.done rel1 _ ?_⟩
      simpa using jok_rng
    · exact run1.elim
  | _ => exact run1.elim
theorem si_r2 {tg : Expr} {p : Pos} (hg : Gl X "range") (hm : X.mg "range" = none) (ha : PE X a (TU X.K cl W E)) (hb : PE X b (TU X.K cl W E')) (hs : starEach [a, b] X.env = [(false, eval a X.env), (false, eval b X.env)] := by rfl) (hs2 : starEach [b] X.env = [(false, eval b X.env)] := by rfl)
    (hs' : starEach [a, b] X.env = (false, eval a X.env) :: starEach [b] X.env := by rfl) (hs3 : starEach [b] X.env = (false, eval b X.env) :: starEach [] X.env := by rfl) : PI X tg (.Call (.Name "range" p) [a, b] [] pos) (TI' X.K cl W (itR2 E E')) := by
  refine pi_imp (pi_range2 hg hm (pa_cons ha (pa_cons hb pa_nil hs3) hs') hs hs2) fun σ H Rr h => ?_
  obtain ⟨B, st, G, R, rel, run⟩ := h
  refine ⟨B, st, G, R, rel, run.bind.mono fun d st1 G1 R1 H1 _ _ _ _ ⟨rel1, _, _, run1⟩ v rv => ?_⟩
  refine ⟨B, st1, G1, R1, rel1, run1.bind.mono fun d' st2 G2 R2 H2 _ _ _ _ ⟨rel2, _, _, run2⟩ w rw => ?_⟩
  cases rv with
  | int lo =>
    cases rw with
    | int hi =>
      simp only at run2
      split at run2
      · rename_i hz
        obtain ⟨z0, z1, z2, z3⟩ := rngOk_of hz
        exact ⟨lo, hi, rfl, ⟨z0, z1, z2, z3⟩, run2.done rel2 _ jok_rng⟩
      · exact run2.elim
    | _ => exact run2.elim
  | _ => cases rw <;> exact run2.elim

/-! ### while -/
def whileI (c : C Bool) (body : Stm) : Nat → Stm
  | 0 => failC
  | m + 1 => bndC c fun k => match k with
    | false => pureC .nx
    | true => fun st => match body st with
      | some (.ok .nx, st2) => whileI c body m st2
      | some (.ok .ct, st2) => whileI c body m st2
      | some (.ok .bk, st2) => some (.ok .nx, st2)
      | some (.ok (.rt d), st2) => some (.ok (.rt d), st2)
      | some (.ex x, st2) => some (.ex x, st2)
      | none => none
def whileS (c : C Bool) (body : Stm) : Stm := whileI c body 1000000
theorem ss_while {body : List Stmt} (hp : PassesOwn (model X.prog X.w) X.A X.env X.xe) (hc : PT X c (TUT X.K cl W cb)) (hb : PSs X body (TUS X.K cl W S1)) : PS X (.While c body [] pos) (TUS X.K cl W (whileS cb S1)) := ps_imp (ps_while hp hc hb) fun D σ H h => by
  obtain ⟨B, st, G, R, rel, run⟩ := h
  refine ⟨fun m σ H => ∃ st G R, Rel X.K cl B st G R σ H ∧ RunS X.K cl W B G R (whileI cb S1 m st) D, ⟨1000000, st, G, R, rel, run⟩, ?_⟩
  rintro m σ2 H2 ⟨st2, G2, R2, rel2, run2⟩
  cases m with
  | zero => exact run2.elim
  | succ m =>
    unfold whileI at run2
    refine ⟨B, st2, G2, R2, rel2, run2.bind.mono fun k st3 G3 R3 H3 _ _ _ _ ⟨rel3, _, _, run3⟩ => ?_⟩
    cases k with
    | false => exact iteF (run3.nx rel3)
    | true =>
      refine iteT ⟨fun σ' H' => ∃ st G R, Rel X.K cl B st G R σ' H' ∧ RunS X.K cl W B G R (whileI cb S1 m st) D, fun σ' H' q => ⟨m, Nat.lt_succ_self _, q⟩, B, st3, G3, R3, rel3, ?_⟩
      simp only at run3
      split at run3
      · rename_i st5 e5
        rw [e5]
        exact fun σ6 G6 R6 H6 g6 r6 rel6 => ⟨st5, G6, R6, rel6, run3.weak g6 r6⟩
      · rename_i st5 e5
        rw [e5]
        exact fun σ6 G6 R6 H6 g6 r6 rel6 => ⟨st5, G6, R6, rel6, run3.weak g6 r6⟩
      · rename_i st5 e5
        rw [e5]
        exact run3
      · rename_i d st5 e5
        rw [e5]
        exact run3
      · rename_i x st5 e5
        rw [e5]
        exact run3
      · exact run3.elim
end
end VL

namespace VL
open PySem PySem.Spec PyProof.Rows L2

section
variable {X : Cx} {cl : CL} {W : WX} {B : Base} {st : Ms} {G G' H : Hp} {R R' : List Addr} {σ : L2.St}
variable {a b c e : Expr} {A A' : C Opd} {N : C Nv} {E E' E'' : C D} {pos p2 : Pos} {s1 s2 : Stmt} {rest : List Stmt} {S1 S2 : Stm} {cb : C Bool}

/-! ### comprehensions -/
/-- an object that must stay as it is -/
def Base.with (B : Base) (p : Addr) (o : HO) : Base := { B with keep := upd B.keep p o }
theorem Rel.prot {K : PySem.W.Frag} {p : Addr} {o : HO} (r : Rel K cl B st G R σ H) (f : Fresh B st G R σ p) (h : H p = some o) : Rel K cl (B.with p o) st G R σ H := by
  have ne : ∀ b : Addr, B.keep b = none → b ≠ p → (B.with p o).keep b = none := fun b h z => by show upd B.keep p o b = none; rw [upd_ne z]; exact h
  refine ⟨⟨r.m.same, r.m.g0, fun b u e => ?_, r.m.r0, fun b hb u e => r.m.rk b hb u (by
    have e : upd B.keep p o b = some u := e
    have nb : b ≠ p := fun z => f.r (by rw [← z]; exact hb)
    rwa [upd_ne nb] at e), fun b u e => ?_, r.m.len, r.m.nd, r.m.sh⟩, r.len, r.val, fun i u e => ?_, r.dis, r.ex⟩
  · rcases r.m.gn b u e with q | q
    · exact .inl q
    · exact .inr (ne b q (fun z => by rw [z, f.g] at e; cases e))
  · have e : upd B.keep p o b = some u := e
    by_cases hb : b = p
    · subst hb; rw [upd_same] at e; cases e; exact h
    · rw [upd_ne hb] at e; exact r.m.kp b u e
  · obtain ⟨a, q1, q2, q3, q4, q5⟩ := r.own i u e
    exact ⟨a, q1, q2, q3, ne a q4 (fun z => f.e i u e (z ▸ q1)), q5⟩
theorem Rel.unprot {K : PySem.W.Frag} {p : Addr} {o : HO} (r : Rel K cl (B.with p o) st G R σ H) (hk : B.keep p = none) (hg : B.G p = none) (hz : isFz o = false := by rfl) : Rel K cl B st G R σ H ∧ Fresh B st G R σ p ∧ H p = some o := by
  have kp : (B.with p o).keep p = some o := upd_same
  have pR : p ∉ R := fun hb => by
    have := (r.m.rk p hb o kp).2
    rw [hz] at this; cases this
  have back : ∀ b : Addr, (B.with p o).keep b = none → B.keep b = none ∧ b ≠ p := fun b h => by
    have ne : b ≠ p := fun z => by rw [z, kp] at h; cases h
    have h : upd B.keep p o b = none := h
    rw [upd_ne ne] at h
    exact ⟨h, ne⟩
  refine ⟨⟨⟨r.m.same, r.m.g0, fun b u e => ?_, r.m.r0, fun b hb u e => r.m.rk b hb u (by
    have nb : b ≠ p := fun z => pR (by rw [← z]; exact hb)
    show upd B.keep p o b = some u
    rw [upd_ne nb]; exact e), fun b u e => ?_, r.m.len, r.m.nd, r.m.sh⟩, r.len, r.val, fun i u e => ?_, r.dis, r.ex⟩, ⟨?_, pR, hk, fun i u e z => ?_⟩, r.m.kp p o kp⟩
  · rcases r.m.gn b u e with q | q
    · exact .inl q
    · exact .inr (back b q).1
  · have ne : b ≠ p := fun z => by rw [z, hk] at e; cases e
    exact r.m.kp b u (by show upd B.keep p o b = _; rw [upd_ne ne]; exact e)
  · obtain ⟨a, q1, q2, q3, q4, q5⟩ := r.own i u e
    exact ⟨a, q1, q2, q3, (back a q4).1, q5⟩
  · cases e : G p with
    | none => rfl
    | some u =>
      rcases r.m.gn p u e with q | q
      · have q : B.G p = some u := q
        rw [hg] at q; cases q
      · rw [kp] at q; cases q
  · obtain ⟨a, q1, q2, q3, q4, q5⟩ := r.own i u e
    rw [z] at q1; cases q1
    rw [kp] at q4; cases q4
theorem Rel.setProt {K : PySem.W.Frag} {p : Addr} {o o' : HO} (r : Rel K cl (B.with p o) st G R σ H) (hk : B.keep p = none) (hg : B.G p = none) (hz : isFz o = false := by rfl) : Rel K cl (B.with p o') st G R σ (upd H p o') := by
  obtain ⟨r1, f, _⟩ := r.unprot hk hg hz
  exact (r1.put f).prot f upd_same
/-- the slots of a block's own names forgotten -/
def wipeE (env : List Cell) : List Nat → List Cell
  | [] => env
  | v :: vs => (wipeE env vs).set v .un
def okV (env : List Cell) (i : Nat) : Bool := match env[i]? with
  | some (.own _) => false
  | _ => true
theorem wipe_len (env : List Cell) : ∀ vs : List Nat, (wipeE env vs).length = env.length
  | [] => rfl
  | v :: vs => by rw [wipeE, List.length_set, wipe_len env vs]
theorem wipe_get {env : List Cell} {i : Nat} : ∀ {vs : List Nat}, i ∉ vs → (wipeE env vs)[i]? = env[i]?
  | [], _ => rfl
  | v :: vs, h => by
    rw [wipeE, List.getElem?_set_ne (fun z => h (by simp [z]))]
    exact wipe_get (fun z => h (by simp [z]))
theorem wipe_hit {env : List Cell} {i : Nat} : ∀ {vs : List Nat}, i ∈ vs → i < env.length → (wipeE env vs)[i]? = some .un
  | v :: vs, h, hi => by
    rw [wipeE]
    by_cases e : v = i
    · subst e; rw [List.getElem?_set_self (by rw [wipe_len]; exact hi)]
    · rw [List.getElem?_set_ne e]
      exact wipe_hit (by simpa [Ne.symm e] using h) hi
theorem wipeS_get {σ : L2.St} {i : Nat} : ∀ {vs : List Nat}, i ∉ vs → (wipe σ vs)[i]? = σ[i]?
  | [], _ => rfl
  | v :: vs, h => by
    rw [wipe, List.getElem?_set_ne (fun z => h (by simp [z]))]
    exact wipeS_get (fun z => h (by simp [z]))
theorem Rel.wipe {K : PySem.W.Frag} {vs : List Nat} (r : Rel K cl B st G R σ H) : Rel K cl B { st with env := wipeE st.env vs } G R (L2.wipe σ vs) H := by
  have cases_ : ∀ (i : Nat) (c : Cell), (wipeE st.env vs)[i]? = some c → c = .un ∨ (i ∉ vs ∧ st.env[i]? = some c) := fun i c h => by
    by_cases hi : i ∈ vs
    · have hl : i < st.env.length := by have := (List.getElem?_eq_some_iff.mp h).1; rw [wipe_len] at this; exact this
      rw [wipe_hit hi hl] at h; cases h; exact .inl rfl
    · rw [wipe_get hi] at h; exact .inr ⟨hi, h⟩
  refine ⟨r.m, by show (L2.wipe σ vs).length = _; rw [wipe_length]; show σ.length = (wipeE st.env vs).length; rw [wipe_len]; exact r.len, fun i d h => ?_, fun i o h => ?_, fun i j o o' a h1 h2 h3 h4 => ?_, fun i x h => ?_⟩
  · rcases cases_ i _ h with q | ⟨q1, q2⟩
    · cases q
    · rw [wipeS_get q1]; exact r.val i d q2
  · rcases cases_ i _ h with q | ⟨q1, q2⟩
    · cases q
    · rw [wipeS_get q1]; exact r.own i o q2
  · rcases cases_ i _ h1 with q | ⟨q1, q2⟩
    · cases q
    · rcases cases_ j _ h2 with q | ⟨q3, q4⟩
      · cases q
      · rw [wipeS_get q1] at h3
        rw [wipeS_get q3] at h4
        exact r.dis i j o o' a q2 q4 h3 h4
  · rcases cases_ i _ h with q | ⟨q1, q2⟩
    · cases q
    · rw [wipeS_get q1]; exact r.ex i x q2
/-- the slots vs as they stood in old -/
def unwipe (env old : List Cell) : List Nat → List Cell
  | [] => env
  | v :: vs => (unwipe env old vs).set v (old.getD v .un)
theorem unwipe_len (env old : List Cell) : ∀ vs : List Nat, (unwipe env old vs).length = env.length
  | [] => rfl
  | v :: vs => by rw [unwipe, List.length_set, unwipe_len env old vs]
theorem unwipe_get {env old : List Cell} {i : Nat} : ∀ {vs : List Nat}, i ∉ vs → (unwipe env old vs)[i]? = env[i]?
  | [], _ => rfl
  | v :: vs, h => by
    rw [unwipe, List.getElem?_set_ne (fun z => h (by simp [z]))]
    exact unwipe_get (fun z => h (by simp [z]))
theorem unwipe_hit {env old : List Cell} {i : Nat} : ∀ {vs : List Nat}, i ∈ vs → i < env.length → (unwipe env old vs)[i]? = some (old.getD i .un)
  | v :: vs, h, hi => by
    rw [unwipe]
    by_cases e : v = i
    · subst e; rw [List.getElem?_set_self (by rw [unwipe_len]; exact hi)]
    · rw [List.getElem?_set_ne e]
      exact unwipe_hit (by simpa [Ne.symm e] using h) hi
/-- what a block leaves: the other slots as in the block's end, its own as at its start -/
theorem Rel.unwipe {K : PySem.W.Frag} {vs : List Nat} {st0 : Ms} {σ0 σ' : L2.St} {G0 : Hp} {R0 : List Addr} {H0 : Hp} (r0 : Rel K cl B st0 G0 R0 σ0 H0) (g : Same G0 G) (p : Pre R0 R) (hv : ∀ i ∈ vs, okV st0.env i = true)
    (r : Rel K cl B st G R σ' H) (hσ : L2.wipe σ' vs = L2.wipe σ0 vs) (hl : st.env.length = st0.env.length) : Rel K cl B { st with env := VL.unwipe st.env st0.env vs } G R σ0 H := by
  have same : ∀ i, i ∉ vs → σ'[i]? = σ0[i]? := fun i hi => by rw [← wipeS_get hi, hσ, wipeS_get hi]
  have cases_ : ∀ (i : Nat) (c : Cell), (VL.unwipe st.env st0.env vs)[i]? = some c → (i ∈ vs ∧ i < st.env.length ∧ c = st0.env.getD i .un) ∨ (i ∉ vs ∧ st.env[i]? = some c) := fun i c h => by
    have hl' : i < st.env.length := by have := (List.getElem?_eq_some_iff.mp h).1; rw [unwipe_len] at this; exact this
    by_cases hi : i ∈ vs
    · rw [unwipe_hit hi hl'] at h; cases h; exact .inl ⟨hi, hl', rfl⟩
    · rw [unwipe_get hi] at h; exact .inr ⟨hi, h⟩
  have noown : ∀ (i : Nat) (o : MO), i ∈ vs → i < st.env.length → Cell.own o ≠ st0.env.getD i .un := fun i o hi hl' z => by
    have q := hv i hi
    unfold okV at q
    rw [List.getD_eq_getElem?_getD, List.getElem?_eq_getElem (by rw [← hl]; exact hl')] at z
    rw [List.getElem?_eq_getElem (by rw [← hl]; exact hl')] at q
    simp only [Option.getD_some] at z
    rw [← z] at q
    cases q
  have len0 : σ0.length = st0.env.length := r0.len
  refine ⟨r.m, by show σ0.length = (VL.unwipe st.env st0.env vs).length; rw [unwipe_len, hl]; exact len0, fun i d h => ?_, fun i o h => ?_, fun i j o o' a h1 h2 h3 h4 => ?_, fun i x h => ?_⟩
  · rcases cases_ i _ h with ⟨q1, q2, q3⟩ | ⟨q1, q2⟩
    · rw [List.getD_eq_getElem?_getD, List.getElem?_eq_getElem (by rw [← hl]; exact q2), Option.getD_some] at q3
      obtain ⟨v, e1, e2⟩ := r0.val i d (by rw [List.getElem?_eq_getElem (by rw [← hl]; exact q2), q3])
      exact ⟨v, e1, e2.mono g p⟩
    · rw [← same i q1]; exact r.val i d q2
  · rcases cases_ i _ h with ⟨q1, q2, q3⟩ | ⟨q1, q2⟩
    · exact absurd q3 (noown i o q1 q2)
    · rw [← same i q1]; exact r.own i o q2
  · rcases cases_ i _ h1 with ⟨q1, q2, q3⟩ | ⟨q1, q2⟩
    · exact absurd q3 (noown i o q1 q2)
    · rcases cases_ j _ h2 with ⟨q3, q4, q5⟩ | ⟨q3, q4⟩
      · exact absurd q5 (noown j o' q3 q4)
      · rw [← same i q1] at h3
        rw [← same j q3] at h4
        exact r.dis i j o o' a q2 q4 h3 h4
  · rcases cases_ i _ h with ⟨q1, q2, q3⟩ | ⟨q1, q2⟩
    · rw [List.getD_eq_getElem?_getD, List.getElem?_eq_getElem (by rw [← hl]; exact q2), Option.getD_some] at q3
      exact r0.ex i x (by rw [List.getElem?_eq_getElem (by rw [← hl]; exact q2), q3])
    · rw [← same i q1]; exact r.ex i x q2
def tgtIn (vs : List Nat) : Tgt → Bool
  | .one i => vs.contains i
  | .all is => is.all fun i => vs.contains i
def lcI (get : Ms → Nat → Option (Option D)) (t : Tgt) (vs : List Nat) (cond : C Bool) (elt : C D) : Nat → Nat → List D → C (List D)
  | 0, _, _ => failC
  | m + 1, i, acc => fun st => match get st i with
    | some none => some (.ok acc, st)
    | some (some d) => match setT t d (wipeE st.env vs) with
      | some env => match cond { st with env := env } with
        | some (.ok true, st2) => match elt st2 with
          | some (.ok y, st3) => if acc.length < LIM then lcI get t vs cond elt m (i + 1) (acc ++ [y]) st3 else none
          | _ => none
        | some (.ok false, st2) => lcI get t vs cond elt m (i + 1) acc st2
        | _ => none
      | none => none
    | none => none
def lcE (c : C ItV) (t : Tgt) (vs : List Nat) (cond : C Bool) (elt : C D) : C Nv := bndC c fun iv => fun st =>
  if vs.all (okV st.env) && tgtIn vs t then
    match lcI iv.get t vs cond elt (iv.n + 1) 0 [] { st with env := wipeE st.env vs } with
    | some (.ok ds, st') => if st'.env.length = st.env.length then some (.ok (.nw (.lst ds)), { st' with env := unwipe st'.env st.env vs }) else none
    | _ => none
  else none
def yesC : C Bool := pureC true
abbrev W0 : WX := fun _ _ _ _ => False
theorem set_wipe : ∀ {vs : List Nat} {σ : L2.St} {i : Nat} {x : Option V}, i ∈ vs → L2.wipe (σ.set i x) vs = L2.wipe σ vs
  | v :: vs, σ, i, x, h => by
    by_cases hi : i ∈ vs
    · rw [L2.wipe, L2.wipe, set_wipe hi]
    · have e : v = i := by
        rcases List.mem_cons.mp h with e | e
        · exact e.symm
        · exact absurd e hi
      subst e
      have comm : ∀ (us : List Nat), v ∉ us → L2.wipe (σ.set v x) us = (L2.wipe σ us).set v x := by
        intro us
        induction us with
        | nil => intro _; rfl
        | cons u us ih =>
          intro hu
          rw [L2.wipe, L2.wipe, ih (fun z => hu (by simp [z])), List.set_comm _ _ (fun z => hu (by simp [z]))]
      rw [L2.wipe, L2.wipe, comm vs hi, List.set_set]
theorem wipe_wipe : ∀ {vs us : List Nat} {σ : L2.St}, (∀ i ∈ vs, i ∈ us) → L2.wipe (L2.wipe σ vs) us = L2.wipe σ us
  | [], _, _, _ => rfl
  | v :: vs, us, σ, h => by
    rw [L2.wipe, set_wipe (h v (by simp)), wipe_wipe (fun i hi => h i (by simp [hi]))]
theorem setAllS_ok {Q : L2.St → Hp → Prop} {vs : List Nat} : ∀ {is : List Nat} {xs : List V} {σ : L2.St}, is.all (fun i => vs.contains i) = true → gNames is xs σ H (fun σ' H' => L2.wipe σ' vs = L2.wipe σ vs → Q σ' H') → gNames is xs σ H Q
  | [], _, σ, _, h => ⟨h.1, h.2 rfl⟩
  | i :: is, _, σ, hv, h => by
    obtain ⟨v, r, e, h⟩ := h
    rw [List.all_cons, Bool.and_eq_true] at hv
    have hi : i ∈ vs := by simpa using hv.1
    refine ⟨v, r, e, ?_⟩
    have h : gNames is r (σ.set i (some v)) H (fun σ' H' => L2.wipe σ' vs = L2.wipe σ vs → Q σ' H') := h
    show gNames is r (σ.set i (some v)) H Q
    refine setAllS_ok (vs := vs) hv.2 ?_
    rw [set_wipe hi]
    exact h
theorem gT_wipe {K : PySem.W.Frag} {Q : L2.St → Hp → Prop} {vs : List Nat} {t : Tgt} {v : V} {σ : L2.St} (hv : tgtIn vs t = true) (h : gT K t v σ H (fun σ' H' => L2.wipe σ' vs = L2.wipe σ vs → Q σ' H')) : gT K t v σ H Q := by
  cases t with
  | one i => exact h (set_wipe (by simpa [tgtIn] using hv))
  | all is =>
    obtain ⟨a, xs, e, q1, q2, q3⟩ := h
    exact ⟨a, xs, e, q1, q2, setAllS_ok hv q3⟩
theorem lc_read {ci : C ItV} {t : Tgt} {vs : List Nat} {cond : C Bool} {elt : C D} {Q : VK} (h : TN X.K cl W (lcE ci t vs cond elt) σ H Q) : tLc (TI' X.K cl W ci) (gT X.K t) (TUT X.K cl W0 cond) (TU X.K cl W0 elt) vs σ H Q := by
  obtain ⟨B, st, G, R, rel, run⟩ := h
  refine ⟨B, st, G, R, rel, run.bind.mono fun iv st1 G1 R1 H1 _ _ _ _ ⟨rel1, _, _, run1⟩ J hJ => ?_⟩
  intro D hD
  try simp only at run1
  split at run1
  · rename_i hvs
    rw [Bool.and_eq_true, List.all_eq_true] at hvs
    obtain ⟨hv, ht⟩ := hvs
    have fD := rel1.fresh hD
    have hBk := rel1.m.freeK hD
    have hBg : B.G D = none := by
      cases e : B.G D with
      | none => rfl
      | some o => rw [rel1.m.same _ _ (rel1.m.g0 _ _ e)] at hD; cases hD
    -- the run of the loop, from a turn on
    refine ⟨fun i m H => ∃ st2 G2 R2 acc, ∃ xs : List V, Same G1 G2 ∧ Pre R1 R2 ∧ (∃ σ2, L2.wipe σ2 vs = L2.wipe σ vs ∧ Rel X.K cl (B.with D (.lst xs)) st2 G2 R2 σ2 H) ∧ RepA X.K G2 R2 xs acc ∧
      (match lcI iv.get t vs cond elt m i acc st2 with
        | some (.ok ds, st') => if st'.env.length = st1.env.length then Run X.K cl W B σ G2 R2 (some (.ok (Nv.nw (.lst ds)), { st' with env := VL.unwipe st'.env st1.env vs })) (fun d st' G' R' H' => ∀ v, RepN X.K cl B st' G' R' σ H' v d → Q v H') else False
        | _ => False), ⟨iv.n + 1, { st1 with env := wipeE st1.env vs }, G1, R1, [], [], Same.refl _, Pre.refl _, ⟨L2.wipe σ vs, wipe_wipe (fun _ h => h), ?_⟩, .nil, ?_⟩, ?_⟩
    · exact Rel.wipe ((rel1.new hD).prot fD upd_same)
    · cases e : lcI iv.get t vs cond elt (iv.n + 1) 0 [] { st1 with env := wipeE st1.env vs } with
      | none => rw [e] at run1; exact run1.elim
      | some p =>
        obtain ⟨r, st'⟩ := p
        cases r with
        | ex x => rw [e] at run1; exact run1.elim
        | ok ds =>
          rw [e] at run1
          simp only at run1 ⊢
          split at run1
          · rename_i hz; rw [if_pos hz]; exact run1
          · exact run1.elim
    · rintro i m H2 ⟨st2, G2, R2, acc, xs, g2, r2, ⟨σ2, hσ2, rel2⟩, ra, run2⟩
      cases m with
      | zero => exact run2.elim
      | succ m =>
        unfold lcI at run2
        obtain ⟨j1, j2⟩ := hJ (B.with D (.lst xs)) st2 G2 R2 σ2 H2 i g2 r2 rel2
        cases e : iv.get st2 i with
        | none => simp only [e] at run2
        | some od =>
          cases od with
          | none =>
            simp only [e] at run2
            refine .inl ⟨j2 e, ?_⟩
            split at run2
            · rename_i hz
              obtain ⟨relu, fu, hDu⟩ := rel2.unprot hBk hBg
              have hw := Rel.unwipe rel1 g2 r2 hv relu hσ2 hz
              refine run2.done hw (.ref D) ⟨D, rfl, ⟨fu.g, fu.r, fu.k, fun j o ho z => ?_⟩, xs, hDu, ra⟩
              obtain ⟨a, q1, q2, q3, q4, q5⟩ := hw.own j o ho
              rw [z] at q1; cases q1
              have ho : (VL.unwipe st2.env st1.env vs)[j]? = some (.own o) := ho
              by_cases hj : j ∈ vs
              · have hl' : j < st2.env.length := by have := (List.getElem?_eq_some_iff.mp ho).1; rw [unwipe_len] at this; exact this
                rw [unwipe_hit hj hl'] at ho
                have q := hv j hj
                unfold okV at q
                have hl1 : j < st1.env.length := by rw [← hz]; exact hl'
                rw [List.getD_eq_getElem?_getD, List.getElem?_eq_getElem hl1] at ho
                rw [List.getElem?_eq_getElem hl1] at q
                have ho := Option.some.inj ho
                simp only [Option.getD_some] at ho
                rw [ho] at q; cases q
              · rw [unwipe_get hj] at ho
                have s1 : σ2[j]? = σ[j]? := by rw [← wipeS_get hj, hσ2, wipeS_get hj]
                exact fu.e j o ho (by rw [s1]; exact z)
            · exact run2.elim
          | some d =>
            simp only [e] at run2
            obtain ⟨go, yl⟩ := j1 d e
            refine .inr ⟨go, fun H' => ∃ st2 G2 R2 acc, ∃ xs : List V, Same G1 G2 ∧ Pre R1 R2 ∧ (∃ σ2, L2.wipe σ2 vs = L2.wipe σ vs ∧ Rel X.K cl (B.with D (.lst xs)) st2 G2 R2 σ2 H') ∧ RepA X.K G2 R2 xs acc ∧
              (match lcI iv.get t vs cond elt m (i + 1) acc st2 with
                | some (.ok ds, st') => if st'.env.length = st1.env.length then Run X.K cl W B σ G2 R2 (some (.ok (Nv.nw (.lst ds)), { st' with env := VL.unwipe st'.env st1.env vs })) (fun d st' G' R' H' => ∀ v, RepN X.K cl B st' G' R' σ H' v d → Q v H') else False
                | _ => False), fun H' q => ⟨m, Nat.lt_succ_self _, q⟩, fun v H' hy => ?_⟩
            obtain ⟨G3, g3, rel3, rv⟩ := yl v H' hy
            cases es : setT t d (wipeE st2.env vs) with
            | none => simp only [es] at run2
            | some env =>
              simp only [es] at run2
              -- the block starts with its own slots forgotten
              have relw := Rel.wipe (vs := vs) rel3
              rw [hσ2] at relw
              refine gT_wipe ht ?_
              refine setT_ok relw rv es fun σ4 rel4 hσ4 => ?_
              have hσ4' : L2.wipe σ4 vs = L2.wipe σ vs := by rw [hσ4, wipe_wipe (fun _ h => h)]
              refine ⟨hσ4', ⟨_, { st2 with env := env }, G3, R2, rel4, ?_⟩⟩
              cases ec : cond { st2 with env := env } with
              | none => simp only [ec] at run2
              | some p =>
                obtain ⟨rc, st5⟩ := p
                cases rc with
                | ex x => simp only [ec] at run2
                | ok k =>
                  intro G5 R5 H5 g5 r5 rel5
                  cases k with
                  | false =>
                    simp only [ec] at run2
                    refine iteF ⟨st5, G5, R5, acc, xs, (g2.trans g3).trans g5, r2.trans r5, ⟨σ4, hσ4', rel5⟩, ra.mono (g3.trans g5) r5, ?_⟩
                    revert run2
                    cases lcI iv.get t vs cond elt m (i + 1) acc st5 with
                    | none => exact fun h => h
                    | some p =>
                      obtain ⟨rr, st6⟩ := p
                      cases rr with
                      | ex x => exact fun h => h
                      | ok ds =>
                        intro run2
                        simp only at run2 ⊢
                        split at run2
                        · rename_i hz
                          rw [if_pos hz]
                          exact fun G7 R7 H7 g7 r7 rel7 => run2 G7 R7 H7 ((g3.trans g5).trans g7) (r5.trans r7) rel7
                        · exact run2.elim
                  | true =>
                    simp only [ec] at run2
                    refine iteT ⟨_, st5, G5, R5, rel5, ?_⟩
                    cases ee : elt st5 with
                    | none => simp only [ee] at run2
                    | some p =>
                      obtain ⟨re, st6⟩ := p
                      cases re with
                      | ex x => simp only [ee] at run2
                      | ok y =>
                        simp only [ee] at run2
                        intro G6 R6 H6 g6 r6 rel6 vy ry
                        obtain ⟨_, _, hD6⟩ := rel6.unprot hBk hBg
                        by_cases hlen : acc.length < LIM
                        · rw [if_pos hlen] at run2
                          refine ⟨xs, hD6, by rw [ra.length]; exact lim_lt hlen, ?_⟩
                          refine ⟨st6, G6, R6, acc ++ [y], xs ++ [vy], ((g2.trans g3).trans g5).trans g6, (r2.trans r5).trans r6, ⟨σ4, hσ4', rel6.setProt hBk hBg⟩, (ra.mono ((g3.trans g5).trans g6) (r5.trans r6)).append (.cons ry .nil), ?_⟩
                          revert run2
                          cases lcI iv.get t vs cond elt m (i + 1) (acc ++ [y]) st6 with
                          | none => exact fun h => h
                          | some p =>
                            obtain ⟨rr, st7⟩ := p
                            cases rr with
                            | ex x => exact fun h => h
                            | ok ds =>
                              intro run2
                              simp only at run2 ⊢
                              split at run2
                              · rename_i hz
                                rw [if_pos hz]
                                exact fun G7 R7 H7 g7 r7 rel7 => run2 G7 R7 H7 (((g3.trans g5).trans g6).trans g7) ((r5.trans r6).trans r7) rel7
                              · exact run2.elim
                        · rw [if_neg hlen] at run2; exact run2.elim
  · exact run1.elim
theorem sts_nil {Y : Cx} : PTs Y [] (TUT Y.K cl W0 yesC) := ⟨fun pins s σ H Q I h => pts_nil.run pins s σ H Q I (by
  obtain ⟨B, st, G, R, rel, run⟩ := h
  exact run.done rel)⟩
theorem sts_one {Y : Cx} {c : Expr} {cb : C Bool} (h : PT Y c (TUT Y.K cl W0 cb)) : PTs Y [c] (TUT Y.K cl W0 cb) := pts_one h
theorem se_lc {elt tg iter : Expr} {ifs : List Expr} {scope : Scope} {own : List (Str × Nat)} {ci : C ItV} {t : Tgt} {cond : C Bool} {eltC : C D} (hc : X.calm = true) (hN : X.N.Nodup) (hi : PI X tg iter (TI' X.K cl W ci)) (ok : BlkOk X.N X.env.scope scope own)
    (hg : ∀ (s : Shared) (H : Hp) (C : Addr) (cl : List (Str × Addr)) (fp : List Addr), PG (X.blk s H scope (compEnvC scope cl C X.env) fp) tg (gT X.K t)) (ht : ∀ (s : Shared) (H : Hp) (C : Addr) (cl' : List (Str × Addr)) (fp : List Addr), PTs (X.blk s H scope (compEnvC scope cl' C X.env) fp) ifs (TUT X.K cl W0 cond))
    (he : ∀ (s : Shared) (H : Hp) (C : Addr) (cl' : List (Str × Addr)) (fp : List Addr), PE (X.blk s H scope (compEnvC scope cl' C X.env) fp) elt (TU X.K cl W0 eltC)) (hs : ∀ x, foldedSetIterable iter X.env x = pure x := by intro _; rfl) :
    PE X (.ListComp elt [⟨tg, iter, ifs, 0⟩] scope pos) (TN X.K cl W (lcE ci t (own.map (·.2)) cond eltC)) := pe_imp (pe_lc hc hN hi ok hg ht he hs) fun σ H Q h => lc_read h
/-- name = [..] -/
theorem ss_setLc {i : Nat} {y : Str} {py spos : Pos} {elt tg iter : Expr} {ifs : List Expr} {scope : Scope} {own : List (Str × Nat)} {ci : C ItV} {t : Tgt} {cond : C Bool} {eltC : C D} (hc : X.calm = true) (hN : X.N.Nodup) (hy : X.N[i]? = some y) (hyl : X.env.scope.names.lookup y = some .local)
    (hsw : swapsWith (.ListComp elt [⟨tg, iter, ifs, 0⟩] scope pos) (some (.Name y py)) spos.line X.env = pure true) (hi : PI X tg iter (TI' X.K cl W ci)) (ok : BlkOk X.N X.env.scope scope own)
    (hg : ∀ (s : Shared) (H : Hp) (C : Addr) (cl : List (Str × Addr)) (fp : List Addr), PG (X.blk s H scope (compEnvC scope cl C X.env) fp) tg (gT X.K t)) (ht : ∀ (s : Shared) (H : Hp) (C : Addr) (cl' : List (Str × Addr)) (fp : List Addr), PTs (X.blk s H scope (compEnvC scope cl' C X.env) fp) ifs (TUT X.K cl W0 cond))
    (he : ∀ (s : Shared) (H : Hp) (C : Addr) (cl' : List (Str × Addr)) (fp : List Addr), PE (X.blk s H scope (compEnvC scope cl' C X.env) fp) elt (TU X.K cl W0 eltC)) (hs : ∀ x, foldedSetIterable iter X.env x = pure x := by intro _; rfl) :
    PS X (.Assign [.Name y py] (.ListComp elt [⟨tg, iter, ifs, 0⟩] scope pos) spos) (TUS X.K cl W (asgN i (lcE ci t (own.map (·.2)) cond eltC))) := ps_imp (ps_setLc hc hN hy hyl hsw hi ok hg ht he hs) fun D σ H h => by
  have h2 := asgN_read h
  exact lc_read h2

/-! ### defs -/
/-- what must stay behind a call: all but the numbered things that are not locked -/
def keepOf (H : Hp) (R : List Addr) : Hp := fun a => if a ∈ R then (match H a with
  | some (.frz o u) => some (.frz o u)
  | _ => none) else H a
theorem keepOf_in {H : Hp} {R : List Addr} {a : Addr} {o : HO} (h : a ∈ R) (e : keepOf H R a = some o) : H a = some o ∧ isFz o = true := by
  unfold keepOf at e
  rw [if_pos h] at e
  split at e
  · rename_i o' u e2
    cases e
    exact ⟨e2, rfl⟩
  · cases e
theorem keepOf_out {H : Hp} {R : List Addr} {a : Addr} (h : a ∉ R) : keepOf H R a = H a := if_neg h
theorem keepOf_some {H : Hp} {R : List Addr} {a : Addr} {o : HO} (e : keepOf H R a = some o) : H a = some o := by
  by_cases h : a ∈ R
  · exact (keepOf_in h e).1
  · rwa [keepOf_out h] at e
theorem keepOf_fz {H : Hp} {R : List Addr} {a : Addr} {o : HO} (e : H a = some o) (z : isFz o = true) : keepOf H R a = some o := by
  unfold keepOf
  split
  · rw [e]
    cases o <;> first | rfl | cases z
  · exact e
def EndF (K : PySem.W.Frag) (cl : CL) (B : Base) (G : Hp) (R : List Addr) (o : Option (Res D × List MO)) (Q : VK) (E : XK) : Prop := match o with
  | some (.ok d, M') => ∀ v G' R' H', Same G G' → Pre R R' → RelM K cl B M' G' R' H' → RepV K G' R' v d → Q v H'
  | some (.ex x, M') => ∃ C, cl x = some C ∧ ∀ G' R' H', Same G G' → Pre R R' → RelM K cl B M' G' R' H' → E (.ref C) none H'
  | none => False
/-- what a def promises: F tells its end -/
def spU (K : PySem.W.Frag) (cl : CL) (n : Nat) (F : Fn) : Sp := fun vs H Q E => ∃ G R M ds, vs.length = n ∧ RelM K cl ⟨G, keepOf H R, R⟩ M G R H ∧ RepA K G R vs ds ∧ EndF K cl ⟨G, keepOf H R, R⟩ G R (F ds M) Q E
def fnC (np ns : Nat) (body : Stm) : Fn := fun ds M => match body ⟨ds.map .v ++ List.replicate (ns - np) .un, M⟩ with
  | some (.ok (.rt d), st') => some (.ok d, st'.M)
  | some (.ok .nx, st') => some (.ok .non, st'.M)
  | some (.ex x, st') => some (.ex x, st'.M)
  | _ => none
theorem RelM.entry {K : PySem.W.Frag} {M : List MO} (r : RelM K cl B M G R H) : RelM K cl ⟨G, keepOf H R, R⟩ M G R H :=
  ⟨r.same, Same.refl _, fun a o e => .inl e, Pre.refl _, fun a h o e => ⟨h, (keepOf_in h e).2⟩, fun a o e => keepOf_some e, r.len, r.nd, r.sh⟩
theorem Rel.start {K : PySem.W.Frag} {M : List MO} {vs : List V} {ds : List D} {N : List Str} (r : RelM K cl B M G R H) (ra : RepA K G R vs ds) (hl : vs.length ≤ N.length) : Rel K cl B ⟨ds.map .v ++ List.replicate (N.length - vs.length) .un, M⟩ G R (start N vs) H := by
  have el := ra.length
  have vcase : ∀ (i : Nat) (c : Cell), (ds.map Cell.v ++ List.replicate (N.length - vs.length) Cell.un)[i]? = some c → (∃ d, c = .v d ∧ ds[i]? = some d) ∨ c = .un := fun i c h => by
    by_cases hi : i < ds.length
    · rw [List.getElem?_append_left (by simpa using hi), List.getElem?_map, List.getElem?_eq_getElem hi] at h
      exact .inl ⟨ds[i], (Option.some.inj h).symm, List.getElem?_eq_getElem hi⟩
    · rw [List.getElem?_append_right (by simpa using hi), List.getElem?_replicate] at h
      split at h
      · exact .inr (Option.some.inj h).symm
      · cases h
  refine ⟨r, by simp [L2.start, el], fun i d h => ?_, fun i o h => ?_, fun i j o o' a h => ?_, fun i x h => ?_⟩
  · rcases vcase i _ h with ⟨d', e, q⟩ | e
    · cases e
      obtain ⟨v, h1, h2⟩ := ra.get q
      refine ⟨v, ?_, h2⟩
      unfold L2.start
      have hi := (List.getElem?_eq_some_iff.mp h1).1
      rw [List.getElem?_append_left (by simpa using hi), List.getElem?_map, h1]; rfl
    · cases e
  · rcases vcase i _ h with ⟨d', e, q⟩ | e <;> cases e
  · rcases vcase i _ h with ⟨d', e, q⟩ | e <;> cases e
  · rcases vcase i _ h with ⟨d', e, q⟩ | e <;> cases e
/-- THE RULE: a def by its body's computation -/
theorem fun_ok {P : Program} {w : World} {K : PySem.W.Frag} {mg : Str → Option Value} {base : Heap} {x qual : Str} {sd : Stmt} {f : Addr} {fd : FuncData} {N ps : List Str} {k : Nat} {body : Stm} (F : Fun K x qual sd f fd) (S : FnScope N ps (defScope sd)) (hl : ps.length ≤ N.length)
    (hb : ∀ (cdv : Value) (A : Around) (outer : List Env) (s : Shared) (H : Hp) (E : XK), Room k (A.deeper (envOfC qual (defScope sd) s.heap.objs.size f cdv)) →
      PSs (cxOf (L2.CX P w) P w K mg base N qual (defScope sd) f cdv A outer s H E) (defBody sd) (TUS K cl (fun c d _ H' => E c d H') body)) : FnOk P w K mg base (L2.CX P w) (k + 1) f fd ps (spU K cl ps.length (fnC ps.length N.length body)) := by
  refine F.okX S (fun vs H Q E h => ?_) (fun cdv A outer s H vs Q E hr h => ?_)
  · obtain ⟨_, _, _, _, h, _⟩ := h
    exact h
  · refine ⟨_, hb cdv A outer s H E hr, ?_⟩
    obtain ⟨G, R, M, ds, hlen, rel, ra, fin⟩ := h
    refine ⟨⟨G, keepOf H R, R⟩, _, G, R, Rel.start rel ra (by rw [hlen]; exact hl), ?_⟩
    rw [hlen]
    unfold fnC at fin
    unfold EndF at fin
    unfold RunS
    split
    · rename_i st' e
      rw [e] at fin
      exact fun σ' G' R' H' g r rel' => fin .non G' R' H' g r rel'.m .non
    · rename_i st' e
      rw [e] at fin
      exact fin.elim
    · rename_i st' e
      rw [e] at fin
      exact fin.elim
    · rename_i d st' e
      rw [e] at fin
      exact fun σ' G' R' H' v g r rel' rv => fin v G' R' H' g r rel'.m rv
    · rename_i x st' e
      rw [e] at fin
      obtain ⟨C, hC, fin⟩ := fin
      exact ⟨C, hC, fun σ' G' R' H' g r rel' => fin G' R' H' g r rel'.m⟩
    · rename_i e
      rw [e] at fin
      exact fin.elim
theorem Rel.after {K : PySem.W.Frag} {M' : List MO} {H' : Hp} (r : Rel K cl B st G R σ H) (h : RelM K cl ⟨G, keepOf H R, R⟩ M' G' R' H') (p : Pre R R') : Rel K cl B { st with M := M' } G' R' σ H' := by
  have g : Same G G' := h.g0
  have kb : ∀ a, B.keep a ≠ none → keepOf H R a = B.keep a := fun a ha => by
    cases e : B.keep a with
    | none => exact absurd e ha
    | some o =>
      by_cases hr : a ∈ R
      · exact keepOf_fz (r.m.kp a o e) (r.m.rk a hr o e).2
      · rw [keepOf_out hr]; exact r.m.kp a o e
  have kn : ∀ a, keepOf H R a = none → B.keep a = none := fun a ha => by
    cases e : B.keep a with
    | none => rfl
    | some o => rw [kb a (by rw [e]; simp), e] at ha; cases ha
  refine ⟨⟨h.same, fun a o e => g a o (r.m.g0 a o e), fun a o e => ?_, r.m.r0.trans p, fun a ha o e => (by
    have q := h.rk a ha o (by show keepOf H R a = some o; rw [kb a (by rw [e]; simp)]; exact e)
    exact r.m.rk a q.1 o e), fun a o e => ?_, h.len, h.nd, h.sh⟩, r.len, fun i d e => ?_, fun i o e => ?_, r.dis, r.ex⟩
  · rcases h.gn a o e with q | q
    · exact r.m.gn a o q
    · exact .inr (kn a q)
  · exact h.kp a o (by show keepOf H R a = some o; rw [kb a (by rw [e]; simp)]; exact e)
  · obtain ⟨v, q1, q2⟩ := r.val i d e
    exact ⟨v, q1, q2.mono g p⟩
  · obtain ⟨a, q1, q2, q3, q4, q5⟩ := r.own i o e
    obtain ⟨ho, hho⟩ := q5.there
    have ka : keepOf H R a = some ho := by
      rw [keepOf_out q3]; exact hho
    have nr : a ∉ R' := fun z => q3 (h.rk a z ho ka).1
    refine ⟨a, q1, ?_, nr, q4, q5.mono g p (by rw [hho]; exact h.kp a ho ka)⟩
    cases e2 : G' a with
    | none => rfl
    | some u =>
      rcases h.gn a u e2 with q | q
      · have q : G a = some u := q
        rw [q2] at q; cases q
      · have q : keepOf H R a = none := q
        rw [ka] at q; cases q
def callE (n : Nat) (F : Fn) (Es : C (List D)) : C D := bndC Es fun ds => fun st => if ds.length = n then match F ds st.M with
    | some (.ok d, M') => some (.ok d, { st with M := M' })
    | some (.ex x, M') => some (.ex x, { st with M := M' })
    | none => none
  else none
theorem call_run {F : Fn} {n : Nat} {ds : List D} {vs : List V} {Q : VK} (rel : Rel X.K cl B st G R σ H) (ra : RepA X.K G R vs ds)
    (run : Run X.K cl W B σ G R ((fun st => if ds.length = n then match F ds st.M with
    | some (.ok d, M') => some (.ok d, { st with M := M' })
    | some (.ex x, M') => some (.ex x, { st with M := M' })
    | none => none
  else none : C D) st) (fun d _ G' R' H' => ∀ v, RepV X.K G' R' v d → Q v H')) : spU X.K cl n F vs H Q (WE W σ) := by
  simp only at run
  split at run
  · rename_i hn
    refine ⟨G, R, st.M, ds, by rw [ra.length]; exact hn, rel.m.entry, ra, ?_⟩
    unfold EndF
    split at run
    · rename_i d M' e
      exact fun v G' R' H' g p rm rv => run G' R' H' g p (rel.after rm p) v rv
    · rename_i x M' e
      obtain ⟨C, hC, run⟩ := run
      exact ⟨C, hC, fun G' R' H' g p rm => run G' R' H' g p (rel.after rm p)⟩
    · exact run.elim
  · exact run.elim
variable {k n : Nat} {f : Addr} {fd : FuncData} {ps : List Str} {F : Fn} {x : Str} {p : Pos} {es : List Expr} {Es : C (List D)}
/-- f(e, ..) of a def of the text -/
theorem se_call (hF : FnOk X.prog X.w X.K X.mg X.base (L2.CX X.prog X.w) k f fd ps (spU X.K cl n F)) (hr : Room k X.A) (hg : Gl X x) (hm : X.mg x = some (.ref f)) (hk : PySem.W.keepIn X.K (.ref f) = true) (hb : Binds X.K fd ps []) (tk : Takes X W)
    (ha : PA X (e :: es) (TUA X.K cl W Es)) (hdb : (x == ("__debug__" : Str)) = false := by decide) (he : starEach (e :: es) X.env = (false, eval e X.env) :: starEach es X.env := by rfl) (hpl : (backTo pos (starEach es X.env)).any (·.1) = false := by rfl) :
    PE X (.Call (.Name x p) (e :: es) [] pos) (TU X.K cl W (callE n F Es)) :=
  pe_imp (pe_callS hF hr hg hm hk hb (fun σ => passAt tk σ) ha hdb he hpl) fun σ H Q h => by
    obtain ⟨B, st, G, R, rel, run⟩ := h
    exact ⟨B, st, G, R, rel, run.bind.mono fun ds st1 G1 R1 H1 _ _ _ _ ⟨rel1, _, _, run1⟩ vs rs => call_run rel1 rs run1⟩
/-- f(), which raises nothing -/
def call0 (F : Fn) : C D := fun st => match F [] st.M with
  | some (.ok d, M') => some (.ok d, { st with M := M' })
  | _ => none
theorem se_call0 (hF : FnOk X.prog X.w X.K X.mg X.base (L2.CX X.prog X.w) k f fd ps (spU X.K cl 0 F)) (hr : Room k X.A) (hg : Gl X x) (hm : X.mg x = some (.ref f)) (hk : PySem.W.keepIn X.K (.ref f) = true) (hb : Binds X.K fd ps [])
    (hdb : (x == ("__debug__" : Str)) = false := by decide) : PE X (.Call (.Name x p) [] [] pos) (TU X.K cl W (call0 F)) :=
  pe_imp (pe_call0 (E := E0) hF hr hg hm hk hb .nil passL hdb) fun σ H Q h => by
    obtain ⟨B, st, G, R, rel, run⟩ := h
    refine ⟨G, R, st.M, [], rfl, rel.m.entry, .nil, ?_⟩
    unfold call0 at run
    unfold EndF
    split at run
    · rename_i d M' e
      rw [e]
      exact fun v G' R' H' g p rm rv => run G' R' H' g p (rel.after rm p) v rv
    · exact run.elim
end
end VL

namespace VL
open PySem PySem.Spec PyProof.Rows L2
theorem boot_len1 : bootBuiltins "len" = some (.builtin "len") := by decide +kernel
theorem boot_abs1 : bootBuiltins "abs" = some (.builtin "abs") := by decide +kernel
theorem boot_list1 : bootBuiltins "list" = some (.type "list") := by decide +kernel
theorem boot_tuple1 : bootBuiltins "tuple" = some (.type "tuple") := by decide +kernel
theorem boot_int1 : bootBuiltins "int" = some (.type "int") := by decide +kernel
theorem boot_bool1 : bootBuiltins "bool" = some (.type "bool") := by decide +kernel
theorem boot_str1 : bootBuiltins "str" = some (.type "str") := by decide +kernel
theorem boot_dict1 : bootBuiltins "dict" = some (.type "dict") := by decide +kernel
theorem boot_sorted1 : bootBuiltins "sorted" = some (.builtin "sorted") := by decide +kernel
theorem boot_sum1 : bootBuiltins "sum" = some (.builtin "sum") := by decide +kernel
theorem boot_any1 : bootBuiltins "any" = some (.builtin "any") := by decide +kernel
theorem boot_all1 : bootBuiltins "all" = some (.builtin "all") := by decide +kernel
theorem boot_max1 : bootBuiltins "max" = some (.builtin "max") := by decide +kernel
theorem boot_min1 : bootBuiltins "min" = some (.builtin "min") := by decide +kernel

/-! ### objects that are written -/
section
variable {K : PySem.W.Frag} {cl : CL} {W : WX} {B : Base} {st : Ms} {G G' H : Hp} {R R' : List Addr} {σ : L2.St}
/-- what stands for a thing that is not locked -/
theorem RepO.nfz {a : Addr} {o : MO} {ho : HO} (h : RepO K cl G R H a o) (hn : o.nfz = true) (e : H a = some ho) : isFz ho = false := by
  cases o with
  | lst ds => obtain ⟨xs, h1, _⟩ := h; rw [h1] at e; cases e; rfl
  | dic ks vs => obtain ⟨kvs, h1, _⟩ := h; rw [h1] at e; cases e; rfl
  | dit ks vs => obtain ⟨kvs, h1, _⟩ := h; rw [h1] at e; cases e; rfl
  | dif ks vs => cases hn
  | ins c fn fv => obtain ⟨C, dx, fvs, h1, h2, _⟩ := h; rw [h2] at e; cases e; rfl
theorem Rel.setOb {n : Nat} {a : Addr} {o o' : MO} {ho : HO} (r : Rel K cl B st G R σ H) (h1 : st.M[n]? = some o) (h2 : R[n]? = some a) (hn : o.nfz = true) (ro : RepO K cl G R (upd H a ho) a o') :
    Rel K cl B { st with M := st.M.set n o' } G R σ (upd H a ho) := by
  have hG := (r.m.sh n o a h1 h2).1
  have hR : a ∈ R := List.mem_of_getElem? h2
  have hl : n < st.M.length := (List.getElem?_eq_some_iff.mp h1).1
  refine ⟨⟨fun b o e => ?_, r.m.g0, r.m.gn, r.m.r0, r.m.rk, fun b o e => ?_, ?_, r.m.nd, fun m o2 b q1 q2 => ?_⟩, r.len, r.val, fun j o2 q => ?_, r.dis, r.ex⟩
  · rw [upd_ne (ne_of_none e hG)]; exact r.m.same b o e
  · have ne : b ≠ a := fun z => by
      subst z
      have q1 := (r.m.rk b hR o e).2
      rw [(r.m.sh n _ b h1 h2).2.nfz hn (r.m.kp b o e)] at q1
      cases q1
    rw [upd_ne ne]; exact r.m.kp b o e
  · show R.length = (st.M.set n o').length
    rw [List.length_set]; exact r.m.len
  · have q1 : (st.M.set n o')[m]? = some o2 := q1
    by_cases hm : m = n
    · subst hm
      rw [List.getElem?_set_self hl] at q1
      cases q1
      rw [h2] at q2; cases q2
      exact ⟨hG, ro⟩
    · rw [List.getElem?_set_ne (Ne.symm hm)] at q1
      obtain ⟨q3, q4⟩ := r.m.sh m o2 b q1 q2
      refine ⟨q3, q4.mono (Same.refl _) (Pre.refl _) (upd_ne ?_)⟩
      intro z; subst z
      obtain ⟨l1, e1⟩ := List.getElem?_eq_some_iff.mp q2
      obtain ⟨l2, e2⟩ := List.getElem?_eq_some_iff.mp h2
      exact hm ((List.getElem_inj r.m.nd).mp (e1.trans e2.symm))
  · obtain ⟨b, q1, q2, q3, q4, q5⟩ := r.own j o2 q
    refine ⟨b, q1, q2, q3, q4, q5.mono (Same.refl _) (Pre.refl _) (upd_ne ?_)⟩
    intro z; subst z
    exact q3 hR
theorem Rel.setCell {i : Nat} {a : Addr} {o o' : MO} {ho : HO} (r : Rel K cl B st G R σ H) (h1 : st.env[i]? = some (.own o)) (h2 : σ[i]? = some (some (.ref a))) (ro : RepO K cl G R (upd H a ho) a o') :
    Rel K cl B { st with env := st.env.set i (.own o') } G R σ (upd H a ho) := by
  obtain ⟨a', q1, q2, q3, q4, q5⟩ := r.own i o h1
  rw [h2] at q1; cases q1
  have hi : i < st.env.length := (List.getElem?_eq_some_iff.mp h1).1
  refine ⟨r.m.put q2 q4 q3, ?_, fun j d h => ?_, fun j o2 h => ?_, fun j k o1 o2 b e1 e2 => ?_, ex_set r.ex (fun _ z => by cases z) fun _ _ => rfl⟩
  · show σ.length = (st.env.set i (.own o')).length
    rw [List.length_set]; exact r.len
  · have h : (st.env.set i (.own o'))[j]? = some (.v d) := h
    by_cases hj : j = i
    · subst hj
      rw [List.getElem?_set_self hi] at h; cases h
    · rw [List.getElem?_set_ne (Ne.symm hj)] at h
      exact r.val j d h
  · have h : (st.env.set i (.own o'))[j]? = some (.own o2) := h
    by_cases hj : j = i
    · subst hj
      rw [List.getElem?_set_self hi] at h; cases h
      exact ⟨a, h2, q2, q3, q4, ro⟩
    · rw [List.getElem?_set_ne (Ne.symm hj)] at h
      obtain ⟨b, p1, p2, p3, p4, p5⟩ := r.own j o2 h
      refine ⟨b, p1, p2, p3, p4, p5.mono (Same.refl _) (Pre.refl _) (upd_ne ?_)⟩
      intro z; subst z
      exact hj (r.dis j i o2 o b h h1 p1 h2)
  · have e1 : (st.env.set i (.own o'))[j]? = some (.own o1) := e1
    have e2 : (st.env.set i (.own o'))[k]? = some (.own o2) := e2
    have f : ∀ (m : Nat) (om : MO), (st.env.set i (Cell.own o'))[m]? = some (Cell.own om) → ∃ om' : MO, st.env[m]? = some (Cell.own om') := fun m om e => by
      by_cases hm : m = i
      · subst hm; exact ⟨_, h1⟩
      · rw [List.getElem?_set_ne (Ne.symm hm)] at e; exact ⟨_, e⟩
    obtain ⟨p1, f1⟩ := f j o1 e1
    obtain ⟨p2, f2⟩ := f k o2 e2
    exact r.dis j k p1 p2 b f1 f2
end
/-- an operand that may be written: what it is, and the state with another one put there -/
def upO (st : Ms) : Opd → Option (MO × (MO → Ms))
  | .d (.ob n) => match st.M[n]? with
    | some o => some (o, fun o' => { st with M := st.M.set n o' })
    | none => none
  | .cell i => match st.env[i]? with
    | some (.own o) => some (o, fun o' => { st with env := st.env.set i (.own o') })
    | _ => none
  | _ => none
section
variable {K : PySem.W.Frag} {cl : CL} {W : WX} {B : Base} {st : Ms} {G G' H : Hp} {R R' : List Addr} {σ : L2.St}
theorem upO_ok {v : V} {od : Opd} {o : MO} {k : MO → Ms} (r : Rel K cl B st G R σ H) (h : RepOp K G R σ v od) (e : upO st od = some (o, k)) :
    ∃ a, v = .ref a ∧ G a = none ∧ RepO K cl G R H a o ∧ (o.nfz = true → ∀ ho o', RepO K cl G R (upd H a ho) a o' → Rel K cl B (k o') G R σ (upd H a ho)) := by
  cases od with
  | d d =>
    cases d with
    | ob n =>
      unfold upO at e
      simp only at e
      split at e
      · rename_i o2 h1
        cases e
        have h : RepV K G R v (.ob n) := h
        cases h with
        | ob h2 =>
          rename_i a
          obtain ⟨q1, q2⟩ := r.m.sh n o a h1 h2
          exact ⟨a, rfl, q1, q2, fun hn ho o' ro => r.setOb h1 h2 hn ro⟩
      · cases e
    | _ => cases e
  | cell i =>
    unfold upO at e
    simp only at e
    split at e
    · rename_i o2 h1
      cases e
      obtain ⟨a, q1, q2, q3, q4, q5⟩ := r.own i o h1
      have h : σ[i]? = some (some v) := h
      rw [q1] at h; cases h
      exact ⟨a, rfl, q2, q5, fun _ ho o' ro => r.setCell h1 q1 ro⟩
    · cases e
end

/-! ### methods that write a list -/
/-- f of the list's items: what is given, the items behind it -/
def mutC (f : List D → Option (D × List D)) (x : Opd) : C D := fun st => match upO st x with
  | some (.lst ds, k) => match f ds with
    | some (d, ds') => some (.ok d, k (.lst ds'))
    | none => none
  | _ => none
def appF (d : D) (ds : List D) : Option (D × List D) := if ds.length < LIM then some (.non, ds ++ [d]) else none
def extF (es : List D) (ds : List D) : Option (D × List D) := if ds.length + es.length ≤ LIM then some (.non, ds ++ es) else none
def popF (ds : List D) : Option (D × List D) := match ds[ds.length - 1]? with
  | some d => some (d, ds.dropLast)
  | none => none
def clrF (_ : List D) : Option (D × List D) := some (.non, [])
/-- the rest, where the operand is a list -/
def lstC {α : Type} (x : Opd) (c : C α) : C α := fun st => match seqL st x with
  | some _ => c st
  | none => none
def appE (A : C Opd) (E : C D) : C D := bndC A fun x => lstC x (bndC E fun d => mutC (appF d) x)
def extE (A A' : C Opd) : C D := bndC A fun x => lstC x (bndC A' fun y => fun st => match seqL st y with
  | some es => mutC (extF es) x st
  | none => none)
def popE (A : C Opd) : C D := bndC A fun x => lstC x (mutC popF x)
def clrE (A : C Opd) : C D := bndC A fun x => lstC x (mutC clrF x)
section
variable {X : Cx} {cl : CL} {W : WX} {B : Base} {st : Ms} {G G' H : Hp} {R R' : List Addr} {σ : L2.St}
variable {o e : Expr} {A A' : C Opd} {E : C D} {apos cpos pos : Pos}
theorem lstC_ok {α : Type} {x : Opd} {v : V} {c : C α} {Q : α → Ms → Hp → List Addr → Hp → Prop} (rel : Rel X.K cl B st G R σ H) (hv : RepOp X.K G R σ v x) (run : Run X.K cl W B σ G R (lstC x c st) Q) : tyV X.K "list" v H ∧ Run X.K cl W B σ G R (c st) Q := by
  unfold lstC at run
  cases e : seqL st x with
  | none => rw [e] at run; exact run.elim
  | some ds =>
    rw [e] at run
    obtain ⟨a, xs, rfl, h1, h2⟩ := seqL_ok rel hv e
    exact ⟨.inl ⟨rfl, _, SqL.of h1⟩, run⟩
theorem mutC_ok {f : List D → Option (D × List D)} {x : Opd} {v : V} {Q : VK} (rel : Rel X.K cl B st G R σ H) (hv : RepOp X.K G R σ v x)
    (run : Run X.K cl W B σ G R (mutC f x st) (fun d _ G' R' H' => ∀ v, RepV X.K G' R' v d → Q v H')) :
    ∃ a xs ds d ds', v = .ref a ∧ H a = some (.lst xs) ∧ RepA X.K G R xs ds ∧ f ds = some (d, ds') ∧ ∀ ys, RepA X.K G R ys ds' → ∀ w, RepV X.K G R w d → Q w (upd H a (.lst ys)) := by
  unfold mutC at run
  split at run
  · rename_i ds k e
    obtain ⟨a, rfl, hG, ⟨xs, h1, h2⟩, hk⟩ := upO_ok rel hv e
    split at run
    · rename_i d ds' e2
      exact ⟨a, xs, ds, d, ds', rfl, h1, h2, e2, fun ys hy w hw => run G R _ (Same.refl _) (Pre.refl _) (hk rfl _ _ ⟨ys, upd_same, hy⟩) w hw⟩
    · exact run.elim
  · exact run.elim
theorem se_app (ho : PE X o (TO' X.K cl W A)) (he : PE X e (TU X.K cl W E)) 
    (hbase : attributeBase o "append" X.env (eval o X.env) = eval o X.env := by rfl)
    (hfew : ((backTo cpos (starEach [e] X.env)).all (fun x => !x.1) && (backToKw cpos (keywordEach [] X.env)).all (fun x => x.1.isSome)
      && decide (([e] : List Expr).length + ([] : List Keyword).length + (if ([] : List Keyword).isEmpty then 0 else 1) < 30)) = true := by rfl)
    (hline : (apos.endLine == cpos.line) = true := by rfl) (hs : starEach [e] X.env = (false, eval e X.env) :: starEach [] X.env := by rfl) (hplain : (backTo cpos (starEach [] X.env)).any (·.1) = false := by rfl) :
    PE X (.Call (.Attribute o "append" apos) [e] [] cpos) (TU X.K cl W (appE A E)) := by
  refine pe_imp (pe_bm PySem.F.plainAttrs_list PySem.F.slot_list_append PySem.F.type_list_append mt_append ho (pa_cons he pa_nil hs) hbase hfew hline hs hplain) fun σ H Q h => ?_
  obtain ⟨B, st, G, R, rel, run⟩ := h
  refine ⟨B, st, G, R, rel, run.bind.mono fun x st1 G1 R1 H1 _ _ _ _ ⟨rel1, _, _, run1⟩ v rv => ?_⟩
  obtain ⟨ty, run1⟩ := lstC_ok rel1 rv run1
  refine ⟨ty, B, st1, G1, R1, rel1, run1.bind.mono fun d st2 G2 R2 H2 _ g r _ ⟨rel2, _, _, run2⟩ w rw => ?_⟩
  obtain ⟨a, xs, ds, d', ds', rfl, h1, h2, h3, h4⟩ := mutC_ok rel2 (rv.mono g r) run2
  unfold appF at h3
  split at h3
  · rename_i hl
    cases h3
    exact ⟨a, xs, w, rfl, rfl, h1, by rw [h2.length]; exact lim_lt hl, h4 _ (h2.append (.cons rw .nil)) _ .non⟩
  · cases h3
theorem se_ext (ho : PE X o (TO' X.K cl W A)) (he : PE X e (TO' X.K cl W A')) 
    (hbase : attributeBase o "extend" X.env (eval o X.env) = eval o X.env := by rfl)
    (hfew : ((backTo cpos (starEach [e] X.env)).all (fun x => !x.1) && (backToKw cpos (keywordEach [] X.env)).all (fun x => x.1.isSome)
      && decide (([e] : List Expr).length + ([] : List Keyword).length + (if ([] : List Keyword).isEmpty then 0 else 1) < 30)) = true := by rfl)
    (hline : (apos.endLine == cpos.line) = true := by rfl) (hs : starEach [e] X.env = (false, eval e X.env) :: starEach [] X.env := by rfl) (hplain : (backTo cpos (starEach [] X.env)).any (·.1) = false := by rfl) :
    PE X (.Call (.Attribute o "extend" apos) [e] [] cpos) (TU X.K cl W (extE A A')) := by
  refine pe_imp (pe_bm PySem.F.plainAttrs_list PySem.F.slot_list_extend PySem.F.type_list_extend mt_extend ho (pa_cons he pa_nil hs) hbase hfew hline hs hplain) fun σ H Q h => ?_
  obtain ⟨B, st, G, R, rel, run⟩ := h
  refine ⟨B, st, G, R, rel, run.bind.mono fun x st1 G1 R1 H1 _ _ _ _ ⟨rel1, _, _, run1⟩ v rv => ?_⟩
  obtain ⟨ty, run1⟩ := lstC_ok rel1 rv run1
  refine ⟨ty, B, st1, G1, R1, rel1, run1.bind.mono fun y st2 G2 R2 H2 _ g r _ ⟨rel2, _, _, run2⟩ w rw => ?_⟩
  split at run2
  · rename_i es e1
    obtain ⟨b, zs, rfl, hb, rb⟩ := seqL_ok rel2 rw e1
    obtain ⟨a, xs, ds, d', ds', rfl, h1, h2, h3, h4⟩ := mutC_ok rel2 (rv.mono g r) run2
    unfold extF at h3
    split at h3
    · rename_i hl
      cases h3
      exact ⟨a, b, xs, zs, rfl, rfl, h1, hb, by rw [h2.length, rb.length]; exact lim_le hl, h4 _ (h2.append rb) _ .non⟩
    · cases h3
  · exact run2.elim
theorem se_pop (ho : PE X o (TO' X.K cl W A)) (hbase : attributeBase o "pop" X.env (eval o X.env) = eval o X.env := by rfl) (hline : (apos.endLine == cpos.line) = true := by rfl) :
    PE X (.Call (.Attribute o "pop" apos) [] [] cpos) (TU X.K cl W (popE A)) := by
  refine pe_imp (pe_bm0 PySem.F.plainAttrs_list PySem.F.slot_list_pop PySem.F.type_list_pop mt_pop ho hbase hline) fun σ H Q h => ?_
  obtain ⟨B, st, G, R, rel, run⟩ := h
  refine ⟨B, st, G, R, rel, run.bind.mono fun x st1 G1 R1 H1 _ _ _ _ ⟨rel1, _, _, run1⟩ v rv => ?_⟩
  obtain ⟨ty, run1⟩ := lstC_ok rel1 rv run1
  refine ⟨ty, ?_⟩
  obtain ⟨a, xs, ds, d', ds', rfl, h1, h2, h3, h4⟩ := mutC_ok rel1 rv run1
  unfold popF at h3
  split at h3
  · rename_i d e
    cases h3
    rw [← h2.length] at e
    obtain ⟨y, h5, h6⟩ := h2.get e
    exact ⟨a, xs, y, rfl, rfl, h1, h5, h4 _ h2.dropLast _ h6⟩
  · cases h3
theorem se_clr (ho : PE X o (TO' X.K cl W A)) (hbase : attributeBase o "clear" X.env (eval o X.env) = eval o X.env := by rfl) (hline : (apos.endLine == cpos.line) = true := by rfl) :
    PE X (.Call (.Attribute o "clear" apos) [] [] cpos) (TU X.K cl W (clrE A)) := by
  refine pe_imp (pe_bm0 PySem.F.plainAttrs_list PySem.F.slot_list_clear PySem.F.type_list_clear mt_clear ho hbase hline) fun σ H Q h => ?_
  obtain ⟨B, st, G, R, rel, run⟩ := h
  refine ⟨B, st, G, R, rel, run.bind.mono fun x st1 G1 R1 H1 _ _ _ _ ⟨rel1, _, _, run1⟩ v rv => ?_⟩
  obtain ⟨ty, run1⟩ := lstC_ok rel1 rv run1
  refine ⟨ty, ?_⟩
  obtain ⟨a, xs, ds, d', ds', rfl, h1, h2, h3, h4⟩ := mutC_ok rel1 rv run1
  cases h3
  exact ⟨a, xs, rfl, rfl, h1, h4 _ .nil _ .non⟩
/-- o[i] = v -/
def setF (k : Int) (d : D) (ds : List D) : Option (D × List D) := match ixN ds.length k with
  | some j => some (.non, ds.set j d)
  | none => none
def sputS (E : C D) (A : C Opd) (I : C D) : Stm := bndC E fun d => bndC A fun x => bndC I fun i => match i with
  | .int k => bndC (mutC (setF k d) x) fun _ => pureC .nx
  | _ => failC
theorem ss_sput {oe ie ve : Expr} {I : C D} {p2 : Pos} (hv : PE X ve (TU X.K cl W E)) (ho : PE X oe (TO' X.K cl W A)) (hi : PE X ie (TU X.K cl W I))
    (hs : swapsWithSole [.Subscript oe ie p2] ve pos.line X.env = pure false := by rfl) (hw : swappedStores [.Subscript oe ie p2] ve X.env = pure none := by rfl)
    (h1 : (assignEach [.Subscript oe ie p2] X.env).map (·.2) = [assign (.Subscript oe ie p2) X.env] := by rfl)
    (ha : ∀ v, assign (.Subscript oe ie p2) X.env v = (do
      let ov ← holding [v] (eval oe X.env)
      let iv ← holding [v, ov] (eval ie X.env)
      standAt p2
      holding [v, ov, iv] (setItem ov iv v)
      release [v, ov, iv] []) := by intro _; rfl) : PS X (.Assign [.Subscript oe ie p2] ve pos) (TUS X.K cl W (sputS E A I)) := by
  refine ps_imp (ps_asg hv (pg_sub ho hi set_list ha) hs hw h1) fun D σ H h => ?_
  obtain ⟨B, st, G, R, rel, run⟩ := h
  have run := RunS.bind (σ := σ) run
  refine ⟨B, st, G, R, rel, run.mono fun d st1 G1 R1 H1 _ _ _ _ ⟨rel1, _, _, run1⟩ v rv => ?_⟩
  have run1 := RunS.bind (σ := σ) run1
  refine ⟨B, st1, G1, R1, rel1, run1.mono fun x st2 G2 R2 H2 _ g r _ ⟨rel2, _, _, run2⟩ w rw => ?_⟩
  have run2 := RunS.bind (σ := σ) run2
  refine ⟨B, st2, G2, R2, rel2, run2.mono fun i st3 G3 R3 H3 _ g3 r3 _ ⟨rel3, _, _, run3⟩ u ru => ?_⟩
  cases ru with
  | int k =>
    have run3 := RunS.bind (σ := σ) run3
    obtain ⟨a, xs, ds, d', ds', rfl, q1, q2, q3, q4⟩ := mutC_ok (Q := fun _ H' => D.nx σ H') rel3 (rw.mono g3 r3) (run3.mono fun _ st4 G4 R4 H4 _ _ _ _ ⟨rel4, _, _, run4⟩ w' rw' => RunS.nx run4 rel4)
    unfold setF at q3
    split at q3
    · rename_i j e
      cases q3
      rw [← q2.length] at e
      exact ⟨a, xs, k, j, rfl, rfl, q1, e, q4 _ (q2.set ((rv.mono g r).mono g3 r3) _) _ .non⟩
    · cases q3
  | _ => exact run3.elim
end
end VL

namespace VL
open PySem PySem.Spec PyProof.Rows L2

/-! ### in -/
def flatD : D → Bool
  | .non | .bl _ | .int _ | .str _ => true
  | _ => false
def eqD : D → D → Bool
  | .non, .non => true
  | .bl a, .bl b => a == b
  | .bl a, .int b => (if a then 1 else 0) == b
  | .int a, .bl b => a == (if b then 1 else 0)
  | .int a, .int b => a == b
  | .str a, .str b => a == b
  | _, _ => false
/-- a list's or a tuple's items -/
def seqT (st : Ms) (y : Opd) : Option (List D) := match seqL st y with
  | some ds => some ds
  | none => match dOf st y with
    | some (.tup ds) => some ds
    | _ => none
def deepIn (st : Ms) (x y : Opd) : Option Bool := match pyO st x, pyO st y with
  | some p, some (.list qs) => if SeqAt.shaped p = true ∧ SeqAt.shaped (.list qs) = true then some (qs.any fun z => PyData.eqv z p) else none
  | _, _ => none
def inF (st : Ms) (x y : Opd) : Option Bool := match dOf st x, seqT st y with
  | some d, some ds => if flatD d = true ∧ ds.all flatD = true then some (ds.any fun z => eqD z d) else deepIn st x y
  | some (.str [c]), none => match dOf st y with
    | some (.str t) => some (decide (c ∈ t))
    | _ => none
  | _, _ => deepIn st x y
def notInF (st : Ms) (x y : Opd) : Option Bool := (inF st x y).map (!·)
section
variable {X : Cx} {cl : CL} {W : WX} {B : Base} {st : Ms} {G H : Hp} {R : List Addr} {σ : L2.St}
theorem toS_beq (a b : List Nat) : (toS a == toS b) = (a == b) := by
  by_cases h : a = b
  · subst h; simp
  · have : toS a ≠ toS b := fun z => h (toS_inj z)
    rw [beq_eq_false_iff_ne.mpr this, beq_eq_false_iff_ne.mpr h]
theorem flat_ok {K : PySem.W.Frag} {v : V} {d : D} (h : RepV K G R v d) (f : flatD d = true) : flatV v = true := by
  cases h <;> first | rfl | cases f
theorem eqD_ok {K : PySem.W.Frag} {v w : V} {d e : D} (h : RepV K G R v d) (g : RepV K G R w e) (f : flatD d = true) (f' : flatD e = true) : eqV v w = eqD d e := by
  cases h <;> cases g <;> first | exact toS_beq _ _ | rfl | (cases f; done) | (cases f'; done)
theorem flatA_ok {K : PySem.W.Frag} {vs : List V} {ds : List D} (h : RepA K G R vs ds) (f : ds.all flatD = true) : vs.all flatV = true := by
  induction vs generalizing ds with
  | nil => rfl
  | cons v vs ih =>
    cases h with
    | cons h t =>
      rw [List.all_cons, Bool.and_eq_true] at f ⊢
      exact ⟨flat_ok h f.1, ih t f.2⟩
theorem anyD_ok {K : PySem.W.Frag} {x : V} {d : D} (hx : RepV K G R x d) (fx : flatD d = true) {vs : List V} {ds : List D} (h : RepA K G R vs ds) (f : ds.all flatD = true) : inV x vs = ds.any fun z => eqD z d := by
  unfold inV
  induction vs generalizing ds with
  | nil => cases h; rfl
  | cons v vs ih =>
    cases h with
    | cons h t =>
      rw [List.all_cons, Bool.and_eq_true] at f
      rw [List.any_cons, List.any_cons, eqD_ok h hx f.1 fx, ih t f.2]
theorem seqT_ok {K : PySem.W.Frag} {v : V} {y : Opd} {ds : List D} (rel : Rel K cl B st G R σ H) (h : RepOp K G R σ v y) (e : seqT st y = some ds) : ∃ a xs, v = .ref a ∧ (SqL K H a xs ∨ SqT K H a xs) ∧ RepA K G R xs ds := by
  unfold seqT at e
  split at e
  · rename_i ds' e1
    cases e
    obtain ⟨a, xs, rfl, h1, h2⟩ := seqL_ok rel h e1
    exact ⟨a, xs, rfl, .inl (SqL.of h1), h2⟩
  · split at e
    · rename_i ds' e1
      cases e
      have h := dOf_ok rel h e1
      cases h with
      | tup h1 h2 => exact ⟨_, _, rfl, .inr (SqT.of (rel.m.same _ _ h1)), h2⟩
    · cases e
theorem deepIn_ok {K : PySem.W.Frag} {v w : V} {x y : Opd} {k : Bool} (rel : Rel K cl B st G R σ H) (hx : RepOp K G R σ v x) (hy : RepOp K G R σ w y) (e : deepIn st x y = some k) :
    ∃ d ds, Dp K H v d ∧ Dp K H w (.list ds) ∧ SeqAt.shaped d = true ∧ SeqAt.shaped (.list ds) = true ∧ (ds.any fun z => PyData.eqv z d) = k := by
  unfold deepIn at e
  split at e
  · rename_i p qs e1 e2
    split at e
    · rename_i h
      cases e
      exact ⟨p, qs, pyO_ok rel hx e1 h.1, pyO_ok rel hy e2 h.2, h.1, h.2, rfl⟩
    · cases e
  · cases e
theorem op_inU (hu : X.A.units + 65 < cLine) : OpR X (compareOp .In) (rC2 X.K cl inF) := by
  intro pins s σ0 H x y v u Q I rx ry h
  obtain ⟨B, st, G, R, σ, dx, dy, k, rel, hx, hy, e, q⟩ := h
  unfold inF at e
  split at e
  · rename_i d ds e1 e2
    split at e
    · rename_i f
      cases e
      obtain ⟨a, xs, rfl, h1, h2⟩ := seqT_ok rel hy e2
      have hd := dOf_ok rel hx e1
      refine op_in_seq pins s σ0 H _ _ v u Q I rx ry ⟨a, xs, rfl, h1, flat_ok hd f.1, flatA_ok h2 f.2, ?_⟩
      rw [anyD_ok hd f.1 h2 f.2]
      exact q
    · obtain ⟨d, ds, h1, h2, h3, h4, rfl⟩ := deepIn_ok rel hx hy e
      exact op_inD hu pins s σ0 H x y v u Q I rx ry ⟨d, ds, h1, h2, h3, h4, q⟩
  · rename_i c e1 e2
    split at e
    · rename_i t e3
      cases e
      have hd := dOf_ok rel hx e1
      have ht := dOf_ok rel hy e3
      cases hd
      cases ht
      exact op_in_sign pins s σ0 H _ _ v u Q I rx ry ⟨c, toS t, rfl, rfl, by rw [toS_cps]; exact q⟩
    · cases e
  · obtain ⟨d, ds, h1, h2, h3, h4, rfl⟩ := deepIn_ok rel hx hy e
    exact op_inD hu pins s σ0 H x y v u Q I rx ry ⟨d, ds, h1, h2, h3, h4, q⟩
theorem op_notInU (hu : X.A.units + 65 < cLine) : OpR X (compareOp .NotIn) (rC2 X.K cl notInF) := by
  intro pins s σ0 H x y v u Q I rx ry h
  obtain ⟨B, st, G, R, σ, dx, dy, k, rel, hx, hy, e0, q⟩ := h
  unfold notInF at e0
  obtain ⟨k', e, rfl⟩ := Option.map_eq_some_iff.mp e0
  unfold inF at e
  split at e
  · rename_i d ds e1 e2
    split at e
    · rename_i f
      cases e
      obtain ⟨a, xs, rfl, h1, h2⟩ := seqT_ok rel hy e2
      have hd := dOf_ok rel hx e1
      refine op_notIn_seq pins s σ0 H _ _ v u Q I rx ry ⟨a, xs, rfl, h1, flat_ok hd f.1, flatA_ok h2 f.2, ?_⟩
      rw [anyD_ok hd f.1 h2 f.2]
      exact q
    · obtain ⟨d, ds, h1, h2, h3, h4, rfl⟩ := deepIn_ok rel hx hy e
      exact op_notInD hu pins s σ0 H x y v u Q I rx ry ⟨d, ds, h1, h2, h3, h4, q⟩
  · rename_i c e1 e2
    split at e
    · rename_i t e3
      cases e
      have hd := dOf_ok rel hx e1
      have ht := dOf_ok rel hy e3
      cases hd
      cases ht
      exact op_notIn_sign pins s σ0 H _ _ v u Q I rx ry ⟨c, toS t, rfl, rfl, by rw [toS_cps]; exact q⟩
    · cases e
  · obtain ⟨d, ds, h1, h2, h3, h4, rfl⟩ := deepIn_ok rel hx hy e
    exact op_notInD hu pins s σ0 H x y v u Q I rx ry ⟨d, ds, h1, h2, h3, h4, q⟩

/-! ### built-ins over lists -/
def intsOf : List D → Option (List Int)
  | [] => some []
  | .int i :: r => (intsOf r).map (i :: ·)
  | _ => none
def blsOf : List D → Option (List Bool)
  | [] => some []
  | .bl i :: r => (blsOf r).map (i :: ·)
  | _ => none
theorem intsOf_ok : ∀ {ds : List D} {ns : List Int}, intsOf ds = some ns → ds = ns.map .int
  | [], _, h => by cases h; rfl
  | d :: r, ns, h => by
    cases d with
    | int i =>
      unfold intsOf at h
      obtain ⟨m, h1, rfl⟩ := Option.map_eq_some_iff.mp h
      rw [intsOf_ok h1]; rfl
    | _ => cases h
theorem blsOf_ok : ∀ {ds : List D} {ns : List Bool}, blsOf ds = some ns → ds = ns.map .bl
  | [], _, h => by cases h; rfl
  | d :: r, ns, h => by
    cases d with
    | bl i =>
      unfold blsOf at h
      obtain ⟨m, h1, rfl⟩ := Option.map_eq_some_iff.mp h
      rw [blsOf_ok h1]; rfl
    | _ => cases h
theorem intsOf_map (ns : List Int) : intsOf (ns.map .int) = some ns := by
  induction ns with
  | nil => rfl
  | cons n r ih => rw [List.map_cons]; unfold intsOf; rw [ih]; rfl
theorem blsOf_map (ns : List Bool) : blsOf (ns.map .bl) = some ns := by
  induction ns with
  | nil => rfl
  | cons n r ih => rw [List.map_cons]; unfold blsOf; rw [ih]; rfl
def allF (st : Ms) (x : Opd) : Option Nv := match seqL st x with
  | some ds => (blsOf ds).map fun bs => .d (.bl (bs.all id))
  | none => none
def anyF (st : Ms) (x : Opd) : Option Nv := match seqL st x with
  | some ds => (blsOf ds).map fun bs => .d (.bl (bs.any id))
  | none => none
def sumF (st : Ms) (x : Opd) : Option Nv := match seqL st x with
  | some ds => (intsOf ds).map fun ns => .d (.int ns.sum)
  | none => none
def sortI (ns : List Int) : List Int := ns.mergeSort (fun a b => decide (a ≤ b))
theorem sortI_eq {ns ns' : List Int} (h1 : ns'.Perm ns) (h2 : ns'.Pairwise (· ≤ ·)) : ns' = sortI ns := by
  have p : (sortI ns).Perm ns := List.mergeSort_perm _ _
  have s : (sortI ns).Pairwise (fun a b => decide (a ≤ b) = true) := List.pairwise_mergeSort (fun a b c h1 h2 => by simp at h1 h2 ⊢; omega) (fun a b => by simp; omega) ns
  refine List.Perm.eq_of_pairwise (le := (· ≤ ·)) (fun a b _ _ h1 h2 => Int.le_antisymm h1 h2) h2 (s.imp fun h => by simpa using h) (h1.trans p.symm)
def sortedF (st : Ms) (x : Opd) : Option Nv := match seqL st x with
  | some ds => (intsOf ds).map fun ns => .nw (.lst ((sortI ns).map .int))
  | none => none
def revF (st : Ms) (x : Opd) : Option Nv := match seqL st x with
  | some ds => some (.nw (.lst ds.reverse))
  | none => match dOf st x with
    | some (.scr ns) => some (.nw (.lst ((ns.map D.int).reverse)))
    | _ => none
def strF (st : Ms) (x : Opd) : Option Nv := match dOf st x with
  | some (.int i) => if i.natAbs.log2 < 1920 then some (.d (.str (toString i : Str).cps.toList)) else none
  | _ => none
theorem call_allU (hc : X.calm = true) : CallR X (.builtin "all") (rU1 X.K cl W allF) := by
  intro pins s σ0 H xs us Q I r h
  obtain ⟨B, st, G, R, σ, x, dx, n, rfl, rel, hx, e, run⟩ := h
  unfold allF at e
  split at e
  · rename_i ds e1
    obtain ⟨p, xs, rfl, h1, h2⟩ := seqL_ok rel hx e1
    obtain ⟨bs, e2, rfl⟩ := Option.map_eq_some_iff.mp e
    rw [blsOf_ok e2] at h2
    rw [RepA.bls_of h2] at h1
    exact cr_all hc pins s σ0 H _ us Q I r ⟨p, bs, rfl, SqL.of h1, run.done rel _ (.bl _)⟩
  · cases e
theorem call_anyU (hc : X.calm = true) : CallR X (.builtin "any") (rU1 X.K cl W anyF) := by
  intro pins s σ0 H xs us Q I r h
  obtain ⟨B, st, G, R, σ, x, dx, n, rfl, rel, hx, e, run⟩ := h
  unfold anyF at e
  split at e
  · rename_i ds e1
    obtain ⟨p, xs, rfl, h1, h2⟩ := seqL_ok rel hx e1
    obtain ⟨bs, e2, rfl⟩ := Option.map_eq_some_iff.mp e
    rw [blsOf_ok e2] at h2
    rw [RepA.bls_of h2] at h1
    exact cr_any hc pins s σ0 H _ us Q I r ⟨p, bs, rfl, SqL.of h1, run.done rel _ (.bl _)⟩
  · cases e
theorem call_sumU (hc : X.calm = true) : CallR X (.builtin "sum") (rU1 X.K cl W sumF) := by
  intro pins s σ0 H xs us Q I r h
  obtain ⟨B, st, G, R, σ, x, dx, n, rfl, rel, hx, e, run⟩ := h
  unfold sumF at e
  split at e
  · rename_i ds e1
    obtain ⟨p, xs, rfl, h1, h2⟩ := seqL_ok rel hx e1
    obtain ⟨ns, e2, rfl⟩ := Option.map_eq_some_iff.mp e
    rw [intsOf_ok e2] at h2
    rw [RepA.ints_of h2] at h1
    exact cr_sum hc pins s σ0 H _ us Q I r ⟨p, ns, rfl, SqL.of h1, run.done rel _ (.int _)⟩
  · cases e
theorem call_sortedU : CallR X (.builtin "sorted") (rU1 X.K cl W sortedF) := by
  intro pins s σ0 H xs us Q I r h
  obtain ⟨B, st, G, R, σ, x, dx, n, rfl, rel, hx, e, run⟩ := h
  unfold sortedF at e
  split at e
  · rename_i ds e1
    obtain ⟨p, xs, rfl, h1, h2⟩ := seqL_ok rel hx e1
    obtain ⟨ns, e2, rfl⟩ := Option.map_eq_some_iff.mp e
    rw [intsOf_ok e2] at h2
    rw [RepA.ints_of h2] at h1
    refine cr_sortedI pins s σ0 H _ us Q I r ⟨p, ns, rfl, SqL.of h1, fun ns' a q1 q2 q3 => ?_⟩
    rw [sortI_eq q1 q2]
    exact fin_lst rel run (RepA.ints _) q3
  · cases e
theorem call_strU : CallR X (.type "str") (rU1 X.K cl W strF) := by
  intro pins s σ0 H xs us Q I r h
  obtain ⟨B, st, G, R, σ, x, dx, n, rfl, rel, hx, e, run⟩ := h
  unfold strF at e
  split at e
  · rename_i i e1
    split at e
    · rename_i hl
      cases e
      have h := dOf_ok rel hx e1
      cases h
      exact call_str_int pins s σ0 H _ us Q I r ⟨i, rfl, hl, run.done rel _ (by
        have := RepV.str (K := X.K) (G := G) (R := R) (toString i : Str).cps.toList
        rw [toS_of] at this
        exact this)⟩
    · cases e
  · cases e
variable {e : Expr} {A A' : C Opd} {k : Nat} {p1 p2 p3 pos : Pos}
theorem se_rev (he : PE X e (TO' X.K cl W A)) : PE X (.Subscript e (.Slice none none (some (.UnaryOp .USub (.Constant (.int 1) k p1) p2)) p3) pos) (TN X.K cl W (un1 revF A)) := by
  refine pe_imp (pe_revL he) fun σ H Q h => ?_
  obtain ⟨B, st, G, R, rel, run⟩ := h
  refine ⟨B, st, G, R, rel, run.bind.mono fun x st1 G1 R1 H1 _ _ _ _ ⟨rel1, _, _, run1⟩ v rv => ?_⟩
  try simp only at run1
  split at run1
  · rename_i n e
    unfold revF at e
    split at e
    · rename_i ds e1
      obtain ⟨p, xs, rfl, h1, h2⟩ := seqL_ok rel1 rv e1
      cases e
      exact ⟨p, xs, rfl, SqL.of h1, fun a ha => fin_lst rel1 run1 h2.reverse ha⟩
    · split at e
      · rename_i ns e1
        cases e
        have h := dOf_ok rel1 rv e1
        cases h with
        | scr ha => exact ⟨_, _, rfl, rel1.m.same.seq ha, fun a ha => fin_lst rel1 run1 (RepA.ints ns).reverse ha⟩
      · cases e
  · exact run1.elim
end

/-! ### room; a name set to a comprehension's data -/
theorem u65 {k : Nat} {A : Around} (r : Room k A) : A.units + 65 < cLine := by have := r.un; omega
theorem hu1 {k : Nat} {A : Around} (r : Room k A) : A.units + 1 < cLine := by have := r.un; omega
section
variable {X : Cx} {cl : CL} {W : WX} {B : Base} {st : Ms} {G G' H : Hp} {R R' : List Addr} {σ : L2.St}
variable {a b c e : Expr} {A A' : C Opd} {N : C Nv} {E E' E'' : C D} {pos p2 : Pos} {s1 s2 : Stmt} {rest : List Stmt} {S1 S2 : Stm} {cb : C Bool}
theorem nv_read {A : C Nv} {Q : VK} (h : TU X.K cl W (valN A) σ H Q) : TN X.K cl W A σ H Q := by
  obtain ⟨B, st, G, R, rel, run⟩ := h
  refine ⟨B, st, G, R, rel, run.bind.mono fun o st1 G1 R1 H1 _ _ _ _ ⟨rel1, _, _, run1⟩ v rv => ?_⟩
  cases o with
  | d d => exact run1.done rel1 v rv
  | nw o =>
    obtain ⟨a, rfl, f, ro⟩ := rv
    have run1 : Run X.K cl W B σ G1 R1 (optC o.asD st1) _ := run1
    cases hd : o.asD with
    | none => rw [hd] at run1; exact run1.elim
    | some d =>
      rw [hd] at run1
      obtain ⟨ho, hho, rd⟩ := repO_asD ro hd f.g
      exact run1 (upd G1 a ho) R1 H1 (same_upd f.g) (Pre.refl _) (rel1.freeze f hho) _ rd
theorem shr_read {A : C Nv} {Q : VK} (h : TU X.K cl W (shrN A) σ H Q) : TN X.K cl W A σ H Q := by
  obtain ⟨B, st, G, R, rel, run⟩ := h
  refine ⟨B, st, G, R, rel, run.bind.mono fun o st1 G1 R1 H1 _ _ _ _ ⟨rel1, _, _, run1⟩ v rv => ?_⟩
  cases o with
  | d d => exact run1.done rel1 v rv
  | nw o =>
    obtain ⟨a, rfl, f, ro⟩ := rv
    refine run1 G1 (R1 ++ [a]) H1 (Same.refl _) ⟨[a], rfl⟩ (rel1.share f ro) _ (.ob ?_)
    rw [List.getElem?_append_right (by rw [rel1.m.len]; exact Nat.le_refl _), rel1.m.len, Nat.sub_self]
    rfl
theorem ss_setLcV {i : Nat} {y : Str} {py spos : Pos} {elt tg iter : Expr} {ifs : List Expr} {scope : Scope} {own : List (Str × Nat)} {ci : C ItV} {t : Tgt} {cond : C Bool} {eltC : C D} (hc : X.calm = true) (hN : X.N.Nodup) (hy : X.N[i]? = some y) (hyl : X.env.scope.names.lookup y = some .local)
    (hsw : swapsWith (.ListComp elt [⟨tg, iter, ifs, 0⟩] scope pos) (some (.Name y py)) spos.line X.env = pure true) (hi : PI X tg iter (TI' X.K cl W ci)) (ok : BlkOk X.N X.env.scope scope own)
    (hg : ∀ (s : Shared) (H : Hp) (C : Addr) (cl : List (Str × Addr)) (fp : List Addr), PG (X.blk s H scope (compEnvC scope cl C X.env) fp) tg (gT X.K t)) (ht : ∀ (s : Shared) (H : Hp) (C : Addr) (cl' : List (Str × Addr)) (fp : List Addr), PTs (X.blk s H scope (compEnvC scope cl' C X.env) fp) ifs (TUT X.K cl W0 cond))
    (he : ∀ (s : Shared) (H : Hp) (C : Addr) (cl' : List (Str × Addr)) (fp : List Addr), PE (X.blk s H scope (compEnvC scope cl' C X.env) fp) elt (TU X.K cl W0 eltC)) (hs : ∀ x, foldedSetIterable iter X.env x = pure x := by intro _; rfl) :
    PS X (.Assign [.Name y py] (.ListComp elt [⟨tg, iter, ifs, 0⟩] scope pos) spos) (TUS X.K cl W (asgV i (valN (lcE ci t (own.map (·.2)) cond eltC)))) := ps_imp (ps_setLc hc hN hy hyl hsw hi ok hg ht he hs) fun D σ H h => by
  have h2 := asgV_read h
  exact lc_read (nv_read h2)

theorem ss_setLcS {i : Nat} {y : Str} {py spos : Pos} {elt tg iter : Expr} {ifs : List Expr} {scope : Scope} {own : List (Str × Nat)} {ci : C ItV} {t : Tgt} {cond : C Bool} {eltC : C D} (hc : X.calm = true) (hN : X.N.Nodup) (hy : X.N[i]? = some y) (hyl : X.env.scope.names.lookup y = some .local)
    (hsw : swapsWith (.ListComp elt [⟨tg, iter, ifs, 0⟩] scope pos) (some (.Name y py)) spos.line X.env = pure true) (hi : PI X tg iter (TI' X.K cl W ci)) (ok : BlkOk X.N X.env.scope scope own)
    (hg : ∀ (s : Shared) (H : Hp) (C : Addr) (cl : List (Str × Addr)) (fp : List Addr), PG (X.blk s H scope (compEnvC scope cl C X.env) fp) tg (gT X.K t)) (ht : ∀ (s : Shared) (H : Hp) (C : Addr) (cl' : List (Str × Addr)) (fp : List Addr), PTs (X.blk s H scope (compEnvC scope cl' C X.env) fp) ifs (TUT X.K cl W0 cond))
    (he : ∀ (s : Shared) (H : Hp) (C : Addr) (cl' : List (Str × Addr)) (fp : List Addr), PE (X.blk s H scope (compEnvC scope cl' C X.env) fp) elt (TU X.K cl W0 eltC)) (hs : ∀ x, foldedSetIterable iter X.env x = pure x := by intro _; rfl) :
    PS X (.Assign [.Name y py] (.ListComp elt [⟨tg, iter, ifs, 0⟩] scope pos) spos) (TUS X.K cl W (asgV i (shrN (lcE ci t (own.map (·.2)) cond eltC)))) := ps_imp (ps_setLc hc hN hy hyl hsw hi ok hg ht he hs) fun D σ H h => by
  have h2 := asgV_read h
  exact lc_read (shr_read h2)

end
end VL

namespace VL
open PySem PySem.Spec PyProof.Rows L2

/-! ### keys -/
def keyEq : D → D → Bool
  | .int i, .int j => i == j
  | .str s, .str t => s == t
  | _, _ => false
def isKey : D → Bool
  | .int _ => true
  | .str _ => true
  | _ => false
def dLook : List D → List D → D → Option D
  | k :: ks, v :: vs, d => if keyEq k d = true then some v else dLook ks vs d
  | _, _, _ => none
def dPutK (ks : List D) (k : D) : List D := if (ks.any fun x => keyEq x k) = true then ks else ks ++ [k]
def dRepl : List D → List D → D → D → List D
  | x :: ks, w :: vs, k, v => (if keyEq x k = true then v else w) :: dRepl ks vs k v
  | _, vs, _, _ => vs
def dPutV (ks vs : List D) (k v : D) : List D := if (ks.any fun x => keyEq x k) = true then dRepl ks vs k v else vs ++ [v]
def mergeD : List D × List D → List D → List D → List D × List D
  | acc, k :: ks, v :: vs => mergeD (dPutK acc.1 k, dPutV acc.1 acc.2 k v) ks vs
  | acc, _, _ => acc
theorem keyD_key (k : Key) : isKey (keyD k) = true := by cases k <;> rfl
theorem keyEq_iff (a b : Key) : keyEq (keyD a) (keyD b) = decide (a = b) := by
  cases a with
  | inl i => cases b with
    | inl j =>
      simp only [keyD, keyEq, Sum.inl.injEq]
      exact Bool.beq_eq_decide_eq i j
    | inr t => simp [keyD, keyEq]
  | inr s => cases b with
    | inl j => simp [keyD, keyEq]
    | inr t =>
      have : (s.cps.toList == t.cps.toList) = decide (s = t) := by
        rw [← toS_beq, toS_of, toS_of]
        by_cases h : s = t
        · subst h; simp
        · simp [h]
      simp only [keyD, keyEq, this]
      by_cases h : s = t
      · subst h; simp
      · simp [h]
section
variable {K : PySem.W.Frag} {G : Hp} {R : List Addr}
theorem isKey_rep {v : V} {d : D} (h : RepV K G R v d) (k : isKey d = true) : ∃ x : Key, v = kV x ∧ d = keyD x := by
  cases h with
  | int i => exact ⟨.inl i, rfl, rfl⟩
  | str t => exact ⟨.inr (toS t), rfl, by show D.str t = D.str (toS t).cps.toList; rw [toS_cps]⟩
  | _ => cases k
theorem dLook_ok {x : Key} : ∀ {kvs : List (Key × V)} {vs : List D}, RepA K G R (kvs.map (·.2)) vs → ∃ o : Option V, valV kvs x = o ∧ (match dLook (kvs.map fun p => keyD p.1) vs (keyD x) with
    | some d => ∃ v, o = some v ∧ RepV K G R v d
    | none => o = none)
  | [], vs, h => by cases h; exact ⟨none, rfl, rfl⟩
  | p :: kvs, vs, h => by
    cases h with
    | cons h t =>
      obtain ⟨o, e1, e2⟩ := dLook_ok (x := x) t
      rw [List.map_cons, dLook, keyEq_iff]
      by_cases hp : p.1 = x
      · rw [decide_eq_true hp, if_pos rfl]
        exact ⟨_, valV_pos hp, _, rfl, h⟩
      · rw [decide_eq_false hp, if_neg Bool.false_ne_true]
        exact ⟨o, by rw [valV_neg hp, e1], e2⟩
theorem any_key (x : Key) (kvs : List (Key × V)) : ((kvs.map fun p => keyD p.1).any fun d => keyEq d (keyD x)) = (kvs.any fun kv => decide (kv.1 = x)) := by
  rw [List.any_map]
  congr 1
  funext p
  exact keyEq_iff p.1 x
theorem dRepl_ok {x : Key} {v : V} {d : D} (hv : RepV K G R v d) : ∀ {kvs : List (Key × V)} {vs : List D}, RepA K G R (kvs.map (·.2)) vs → RepA K G R ((kvs.map fun kv => if kv.1 = x then (kv.1, v) else kv).map (·.2)) (dRepl (kvs.map fun p => keyD p.1) vs (keyD x) d)
  | [], vs, h => by cases h; exact .nil
  | p :: kvs, vs, h => by
    cases h with
    | cons h t =>
      rw [List.map_cons, List.map_cons, List.map_cons, dRepl, keyEq_iff]
      by_cases hp : p.1 = x
      · rw [decide_eq_true hp, if_pos rfl, if_pos hp]
        exact .cons hv (dRepl_ok hv t)
      · rw [decide_eq_false hp, if_neg Bool.false_ne_true, if_neg hp]
        exact .cons h (dRepl_ok hv t)
theorem dPut_ok {x : Key} {v : V} {d : D} {kvs : List (Key × V)} {vs : List D} (hv : RepV K G R v d) (h : RepA K G R (kvs.map (·.2)) vs) :
    dPutK (kvs.map fun p => keyD p.1) (keyD x) = (putK kvs x v).map (fun p => keyD p.1) ∧ RepA K G R ((putK kvs x v).map (·.2)) (dPutV (kvs.map fun p => keyD p.1) vs (keyD x) d) := by
  unfold dPutK dPutV putK
  rw [any_key]
  split
  · refine ⟨?_, dRepl_ok hv h⟩
    rw [List.map_map]
    congr 1
    funext p
    simp only [Function.comp]
    split <;> rfl
  · refine ⟨?_, ?_⟩
    · rw [List.map_append]; rfl
    · rw [List.map_append]
      exact h.append (.cons hv .nil)
theorem mergeD_ok : ∀ {more kvs : List (Key × V)} {ms vs : List D}, RepA K G R (kvs.map (·.2)) vs → RepA K G R (more.map (·.2)) ms →
    (mergeD (kvs.map (fun p => keyD p.1), vs) (more.map fun p => keyD p.1) ms).1 = (mergeK kvs more).map (fun p => keyD p.1) ∧ RepA K G R ((mergeK kvs more).map (·.2)) (mergeD (kvs.map (fun p => keyD p.1), vs) (more.map fun p => keyD p.1) ms).2
  | [], kvs, ms, vs, h, h2 => by cases h2; exact ⟨rfl, h⟩
  | p :: more, kvs, ms, vs, h, h2 => by
    cases h2 with
    | cons q t =>
      obtain ⟨e1, e2⟩ := dPut_ok (x := p.1) q h
      have ih := mergeD_ok (kvs := putK kvs p.1 p.2) e2 t
      rw [List.map_cons, mergeD]
      simp only
      rw [e1]
      exact ih
theorem keys_of : ∀ {ps : List (V × V)} {ks vs : List D}, RepA K G R (ps.map (·.1)) ks → RepA K G R (ps.map (·.2)) vs → ks.all isKey = true →
    ∃ kvs : List (Key × V), ps = kvs.map (fun kv => (kV kv.1, kv.2)) ∧ ks = kvs.map (fun p => keyD p.1) ∧ RepA K G R (kvs.map (·.2)) vs
  | [], ks, vs, h1, h2, _ => by cases h1; cases h2; exact ⟨[], rfl, rfl, .nil⟩
  | p :: ps, ks, vs, h1, h2, hk => by
    cases h1 with
    | cons a b =>
      cases h2 with
      | cons c d =>
        rw [List.all_cons, Bool.and_eq_true] at hk
        obtain ⟨x, e1, e2⟩ := isKey_rep a hk.1
        obtain ⟨kvs, f1, f2, f3⟩ := keys_of b d hk.2
        refine ⟨(x, p.2) :: kvs, ?_, ?_, .cons c f3⟩
        · rw [List.map_cons, ← f1, ← e1]
        · rw [List.map_cons, ← f2, ← e2]
end

/-! ### reading -/
def dgE (A : C Opd) (E : C D) : C D := bndC A fun x => bndC E fun k => fun st => match dicL st x with
  | some (ks, vs) => match isKey k, dLook ks vs k with
    | true, some d => some (.ok d, st)
    | _, _ => none
  | none => none
def inDF (st : Ms) (x y : Opd) : Option Bool := match dOf st x, dicL st y with
  | some k, some (ks, _) => if isKey k = true then some (ks.any fun z => keyEq z k) else none
  | _, _ => none
def notInDF (st : Ms) (x y : Opd) : Option Bool := (inDF st x y).map (!·)
def dget1E (A : C Opd) (E : C D) : C D := bndC A fun x => bndC E fun k => fun st => match dicL st x with
  | some (ks, vs) => if isKey k = true then some (.ok ((dLook ks vs k).getD .non), st) else none
  | none => none
section
variable {X : Cx} {cl : CL} {W : WX} {B : Base} {st : Ms} {G G' H : Hp} {R R' : List Addr} {σ : L2.St}
variable {a b c e : Expr} {A A' : C Opd} {E E' : C D} {pos apos cpos : Pos}
theorem se_dg (hu : X.A.units + 1 < cLine) (ha : PE X a (TO' X.K cl W A)) (hb : PE X b (TU X.K cl W E)) (hs : NoSl b := by exact fun _ _ => rfl) : PE X (.Subscript a b pos) (TU X.K cl W (dgE A E)) := by
  refine pe_imp (pe_dget hu ha hb hs) fun σ H Q h => ?_
  obtain ⟨B, st, G, R, rel, run⟩ := h
  refine ⟨B, st, G, R, rel, run.bind.mono fun x st1 G1 R1 H1 _ _ _ _ ⟨rel1, _, _, run1⟩ v rv => ?_⟩
  refine ⟨B, st1, G1, R1, rel1, run1.bind.mono fun y st2 G2 R2 H2 _ g r _ ⟨rel2, _, _, run2⟩ w rw => ?_⟩
  try simp only at run2
  split at run2
  · rename_i ks vs e1
    split at run2
    · rename_i d ek e2
      obtain ⟨p, kvs, rfl, h1, h2, h3⟩ := dicL_ok rel2 (rv.mono g r) e1
      obtain ⟨k, rfl, rfl⟩ := isKey_rep rw ek
      obtain ⟨o, q1, q2⟩ := dLook_ok (x := k) h3
      rw [h2] at e2
      rw [e2] at q2
      obtain ⟨z, rfl, q4⟩ := q2
      exact ⟨p, z, rfl, .inl ⟨kvs, k, .inl h1, rfl, q1.symm⟩, run2.done rel2 z q4⟩
    · exact run2.elim
  · exact run2.elim
theorem inD_read {neg : Bool} {x y : V} {dx dy : Opd} {k : Bool} (rel : Rel X.K cl B st G R σ H) (hx : RepOp X.K G R σ x dx) (hy : RepOp X.K G R σ y dy) (e : inDF st dx dy = some k) : ∃ a o, y = .ref a ∧ DGet H a x o ∧ o.isSome = k := by
  unfold inDF at e
  split at e
  · rename_i d ks vs e1 e2
    split at e
    · rename_i hk
      cases e
      obtain ⟨p, kvs, rfl, h1, h2, h3⟩ := dicL_ok rel hy e2
      obtain ⟨z, rfl, rfl⟩ := isKey_rep (dOf_ok rel hx e1) hk
      refine ⟨p, _, rfl, .inl ⟨kvs, z, .inl h1, rfl, rfl⟩, ?_⟩
      rw [h2, any_key, valV_any]
    · cases e
  · cases e
theorem inD_te {neg : Bool} {f : Ms → Opd → Opd → Option Bool} {Q : Bool → Hp → Prop} (h : TUT X.K cl W (cmp2 f A A') σ H Q) : TO' X.K cl W A σ H fun x H1 => TO' X.K cl W A' σ H1 fun y H2 => ∃ B st G R dx dy k, Rel X.K cl B st G R σ H2 ∧ RepOp X.K G R σ x dx ∧ RepOp X.K G R σ y dy ∧ f st dx dy = some k ∧ Q k H2 := by
  obtain ⟨B, st, G, R, rel, run⟩ := h
  refine ⟨B, st, G, R, rel, run.bind.mono fun x st1 G1 R1 H1 _ _ _ _ ⟨rel1, _, _, run1⟩ v rv => ?_⟩
  refine ⟨B, st1, G1, R1, rel1, run1.bind.mono fun y st2 G2 R2 H2 _ g r _ ⟨rel2, _, _, run2⟩ w rw => ?_⟩
  try simp only at run2
  split at run2
  · rename_i k e
    exact ⟨B, st2, G2, R2, x, y, k, rel2, rv.mono g r, rw, e, run2.done rel2⟩
  · exact run2.elim
theorem TO_imp {A : C Opd} {Q Q' : VK} (h : TO' X.K cl W A σ H Q) (f : ∀ v H', Q v H' → Q' v H') : TO' X.K cl W A σ H Q' := by
  obtain ⟨B, st, G, R, rel, run⟩ := h
  exact ⟨B, st, G, R, rel, run.mono fun o st1 G1 R1 H1 _ _ _ _ q v rv => f _ _ (q v rv)⟩
theorem st_cmpD (hu : X.A.units + 1 < cLine) (ha : PE X a (TO' X.K cl W A)) (hb : PE X b (TO' X.K cl W A')) (hm : behindInMarks .In b = false := by rfl) : PT X (.Compare a [.In] [b] pos) (TUT X.K cl W (cmp2 inDF A A')) := by
  refine pt_imp (pt_cmp (pc_din hu ha hb) hm) fun σ H Q h => ?_
  refine TO_imp (inD_te (neg := false) h) fun x H1 h1 => TO_imp h1 fun y H2 h2 => ?_
  obtain ⟨B, st, G, R, dx, dy, k, rel, rx, ry, e, q⟩ := h2
  obtain ⟨p, o, rfl, g, eo⟩ := inD_read (neg := false) rel rx ry e
  exact ⟨p, o, rfl, g, _, rfl, by rw [eo]; exact q⟩
theorem se_cmpD (hu : X.A.units + 1 < cLine) (ha : PE X a (TO' X.K cl W A)) (hb : PE X b (TO' X.K cl W A')) (hm : behindInMarks .In b = false := by rfl) : PE X (.Compare a [.In] [b] pos) (TU X.K cl W (boolE (cmp2 inDF A A'))) := by
  refine pe_imp (pe_cmp (pc_din hu ha hb) hm) fun σ H Q h => ?_
  have h2 : TUT X.K cl W (cmp2 inDF A A') σ H (fun k H' => Q (.bl k) H') := by
    obtain ⟨B, st, G, R, rel, run⟩ := h
    refine ⟨B, st, G, R, rel, ?_⟩
    refine run.bind.mono fun k st1 G1 R1 H1 _ _ _ _ ⟨rel1, _, _, run1⟩ => ?_
    exact run1.done rel1 _ (.bl _)
  refine TO_imp (inD_te (neg := false) h2) fun x H1 h1 => TO_imp h1 fun y H2 h2 => ?_
  obtain ⟨B, st, G, R, dx, dy, k, rel, rx, ry, e, q⟩ := h2
  obtain ⟨p, o, rfl, g, eo⟩ := inD_read (neg := false) rel rx ry e
  exact ⟨p, o, rfl, g, by rw [eo]; exact q⟩
theorem st_cmpDn (hu : X.A.units + 1 < cLine) (ha : PE X a (TO' X.K cl W A)) (hb : PE X b (TO' X.K cl W A')) (hm : behindInMarks .NotIn b = false := by rfl) : PT X (.Compare a [.NotIn] [b] pos) (TUT X.K cl W (cmp2 notInDF A A')) := by
  refine pt_imp (pt_cmp (pc_dnotin hu ha hb) hm) fun σ H Q h => ?_
  refine TO_imp (inD_te (neg := false) h) fun x H1 h1 => TO_imp h1 fun y H2 h2 => ?_
  obtain ⟨B, st, G, R, dx, dy, k, rel, rx, ry, e, q⟩ := h2
  unfold notInDF at e
  obtain ⟨k', e0, rfl⟩ := Option.map_eq_some_iff.mp e
  obtain ⟨p, o, rfl, g, eo⟩ := inD_read (neg := false) rel rx ry e0
  exact ⟨p, o, rfl, g, _, rfl, by rw [eo]; exact q⟩
theorem se_cmpDn (hu : X.A.units + 1 < cLine) (ha : PE X a (TO' X.K cl W A)) (hb : PE X b (TO' X.K cl W A')) (hm : behindInMarks .NotIn b = false := by rfl) : PE X (.Compare a [.NotIn] [b] pos) (TU X.K cl W (boolE (cmp2 notInDF A A'))) := by
  refine pe_imp (pe_cmp (pc_dnotin hu ha hb) hm) fun σ H Q h => ?_
  have h2 : TUT X.K cl W (cmp2 notInDF A A') σ H (fun k H' => Q (.bl k) H') := by
    obtain ⟨B, st, G, R, rel, run⟩ := h
    refine ⟨B, st, G, R, rel, ?_⟩
    refine run.bind.mono fun k st1 G1 R1 H1 _ _ _ _ ⟨rel1, _, _, run1⟩ => ?_
    exact run1.done rel1 _ (.bl _)
  refine TO_imp (inD_te (neg := false) h2) fun x H1 h1 => TO_imp h1 fun y H2 h2 => ?_
  obtain ⟨B, st, G, R, dx, dy, k, rel, rx, ry, e, q⟩ := h2
  unfold notInDF at e
  obtain ⟨k', e0, rfl⟩ := Option.map_eq_some_iff.mp e
  obtain ⟨p, o, rfl, g, eo⟩ := inD_read (neg := false) rel rx ry e0
  exact ⟨p, o, rfl, g, by rw [eo]; exact q⟩

/-! ### writing -/
def putDC (k d : D) (x : Opd) : Stm := fun st => match upO st x with
  | some (.dic ks vs, f) => if isKey k = true ∧ ks.length < LIM then some (.ok .nx, f (.dic (dPutK ks k) (dPutV ks vs k d))) else none
  | _ => none
def dputS (E : C D) (A : C Opd) (I : C D) : Stm := bndC E fun d => bndC A fun x => bndC I fun k => putDC k d x
theorem ss_dput {oe ie ve : Expr} {I : C D} {p2 : Pos} (hu : X.A.units + 1 < cLine) (hv : PE X ve (TU X.K cl W E)) (ho : PE X oe (TO' X.K cl W A)) (hi : PE X ie (TU X.K cl W I))
    (hs : swapsWith ve (some (.Subscript oe ie p2)) pos.line X.env = pure false := by rfl) : PS X (.Assign [.Subscript oe ie p2] ve pos) (TUS X.K cl W (dputS E A I)) := by
  refine ps_imp (ps_dput hu ho hi hv hs) fun D σ H h => ?_
  obtain ⟨B, st, G, R, rel, run⟩ := h
  have run := RunS.bind (σ := σ) run
  refine ⟨B, st, G, R, rel, run.mono fun d st1 G1 R1 H1 _ _ _ _ ⟨rel1, _, _, run1⟩ v rv => ?_⟩
  have run1 := RunS.bind (σ := σ) run1
  refine ⟨B, st1, G1, R1, rel1, run1.mono fun x st2 G2 R2 H2 _ g r _ ⟨rel2, _, _, run2⟩ w rw => ?_⟩
  have run2 := RunS.bind (σ := σ) run2
  refine ⟨B, st2, G2, R2, rel2, run2.mono fun i st3 G3 R3 H3 _ g3 r3 _ ⟨rel3, _, _, run3⟩ u ru => ?_⟩
  unfold putDC at run3
  split at run3
  · rename_i ks vs f e
    obtain ⟨p, rfl, hG, ⟨kvs, h1, h2, h3⟩, hk⟩ := upO_ok rel3 (rw.mono g3 r3) e
    split at run3
    · rename_i hz
      obtain ⟨k, rfl, rfl⟩ := isKey_rep ru hz.1
      have rv3 := (rv.mono g r).mono g3 r3
      obtain ⟨q1, q2⟩ := dPut_ok (x := k) rv3 h3
      have hz2 := hz.2
      rw [h2, List.length_map] at hz2
      refine ⟨p, _, rfl, .inl ⟨kvs, k, h1, rfl, lim_lt hz2, rfl⟩, ?_⟩
      rw [h2] at run3
      exact RunS.nx run3 (hk rfl _ _ ⟨_, upd_same, by rw [h2] at *; exact q1, by rw [h2] at *; exact q2⟩)
    · exact run3.elim
  · exact run3.elim

/-! ### displays -/
def nilK : C (List D × List D) := pureC ([], [])
def consK (E E' : C D) (r : C (List D × List D)) : C (List D × List D) := bndC E fun k => bndC E' fun v => bndC r fun p => pureC (k :: p.1, v :: p.2)
def dispE (r : C (List D × List D)) : C Nv := bndC r fun p => if p.1.all isKey = true ∧ p.1.length ≤ 15 then pureC (.nw (.dic (mergeD ([], []) p.1 p.2).1 (mergeD ([], []) p.1 p.2).2)) else failC
def TPr (K : PySem.W.Frag) (cl : CL) (W : WX) (c : C (List D × List D)) (σ : L2.St) (H : Hp) (Q : List (V × V) → Hp → Prop) : Prop :=
  ∃ B st G R, Rel K cl B st G R σ H ∧ Run K cl W B σ G R (c st) fun p _ G' R' H' => ∀ ps : List (V × V), RepA K G' R' (ps.map (·.1)) p.1 → RepA K G' R' (ps.map (·.2)) p.2 → Q ps H'
structure PK (X : Cx) (cl : CL) (W : WX) (keys : List (Option Expr)) (values : List Expr) (c : C (List D × List D)) : Prop where
  run : ∃ trs : List (TE × TE), (∀ pos, PPs X pos keys values trs) ∧ ∀ σ H Q, TPr X.K cl W c σ H Q → tPairs trs σ H Q
theorem pk_nil1 : PK X cl W [] [] nilK := ⟨[], fun _ => pps_nil, fun σ H Q h => by
  obtain ⟨B, st, G, R, rel, run⟩ := h
  exact run.done rel [] .nil .nil⟩
theorem pk_cons1 {k v : Expr} {ks : List (Option Expr)} {vs : List Expr} {r : C (List D × List D)} (hk : PE X k (TU X.K cl W E)) (hv : PE X v (TU X.K cl W E')) (hr : PK X cl W ks vs r) : PK X cl W (some k :: ks) (v :: vs) (consK E E' r) := by
  obtain ⟨trs, h1, h2⟩ := hr.run
  refine ⟨_, fun pos => pps_cons hk hv (h1 pos), fun σ H Q h => ?_⟩
  obtain ⟨B, st, G, R, rel, run⟩ := h
  refine ⟨B, st, G, R, rel, run.bind.mono fun x st1 G1 R1 H1 _ _ _ _ ⟨rel1, _, _, run1⟩ v rv => ?_⟩
  refine ⟨B, st1, G1, R1, rel1, run1.bind.mono fun y st2 G2 R2 H2 _ g r _ ⟨rel2, _, _, run2⟩ w rw => ?_⟩
  refine h2 σ H2 _ ⟨B, st2, G2, R2, rel2, run2.bind.mono fun p st3 G3 R3 H3 _ g3 r3 _ ⟨rel3, _, _, run3⟩ ps q1 q2 => ?_⟩
  exact run3.done rel3 _ (.cons ((rv.mono g r).mono g3 r3) q1) (.cons (rw.mono g3 r3) q2)
theorem Run.with {α : Type} {p : Addr} {o : HO} {c : Option (Res α × Ms)} {Q : α → Ms → Hp → List Addr → Hp → Prop} (h : Run X.K cl W B σ G R c Q) (hk : B.keep p = none) (hg : B.G p = none) (hz : isFz o = false := by rfl) : Run X.K cl W (B.with p o) σ G R c Q := by
  unfold Run at h ⊢
  split
  · intro G' R' H' g r rel
    exact h G' R' H' g r (rel.unprot hk hg hz).1
  · obtain ⟨C, hC, h⟩ := h
    exact ⟨C, hC, fun G' R' H' g r rel => h G' R' H' g r (rel.unprot hk hg hz).1⟩
  · exact h
theorem se_disp {keys : List (Option Expr)} {values : List Expr} {r : C (List D × List D)} (h : PK X cl W keys values r) (hall : keys.all (·.isSome) = true := by rfl) (hl : keys.length = values.length := by rfl) (h0 : keys ≠ [] := by exact List.cons_ne_nil _ _) (h15 : keys.length ≤ 15 := by decide) :
    PE X (.Dict keys values pos) (TN X.K cl W (dispE r)) := by
  obtain ⟨trs, h1, h2⟩ := h.run
  refine pe_imp (pe_disp (h1 pos) hall hl h0 h15) fun σ H Q h => ?_
  obtain ⟨B, st, G, R, rel, run⟩ := h
  intro p hp
  have f := rel.fresh hp
  have hg : B.G p = none := by
    cases e : B.G p with
    | none => rfl
    | some o => have := rel.m.g0 _ _ e; rw [f.g] at this; cases this
  refine h2 σ _ _ ⟨B.with p (.dK []), st, G, R, (rel.new hp).prot f upd_same, ?_⟩
  have run := run.bind
  refine (run.with f.k hg).mono fun q st1 G1 R1 H1 _ _ _ rel1 ⟨_, _, _, run1⟩ ps q1 q2 => ?_
  obtain ⟨rb, fb, hb⟩ := rel1.unprot f.k hg
  split at run1
  · rename_i hz
    obtain ⟨kvs, rfl, e2, e3⟩ := keys_of q1 q2 hz.1
    have hz2 := hz.2
    rw [e2, List.length_map] at hz2
    refine ⟨hb, kvs, rfl, hz2, ?_⟩
    obtain ⟨m1, m2⟩ := mergeD_ok (K := X.K) (G := G1) (R := R1) (kvs := []) (vs := []) .nil e3
    refine run1 G1 R1 _ (Same.refl _) (Pre.refl _) (rb.put fb) _ ⟨p, rfl, fb, ?_⟩
    rw [e2]
    exact ⟨_, upd_same, m1, m2⟩
  · exact run1.elim
def dnewE : C Nv := pureC (.nw (.dic [] []))
theorem se_dnew : PE X (.Dict [] [] pos) (TN X.K cl W dnewE) := by
  refine pe_imp pe_dnewK fun σ H Q h => ?_
  obtain ⟨B, st, G, R, rel, run⟩ := h
  intro p hp
  exact run G R _ (Same.refl _) (Pre.refl _) (rel.new hp) _ ⟨p, rfl, rel.fresh hp, [], upd_same, rfl, .nil⟩

/-! ### get, sorted, list, len -/
def dget2E (A : C Opd) (E E' : C D) : C D := bndC A fun x => bndC E fun k => bndC E' fun d => fun st => match dicL st x with
  | some (ks, vs) => if isKey k = true then some (.ok ((dLook ks vs k).getD d), st) else none
  | none => none
def sortedDF (st : Ms) (x : Opd) : Option Nv := match dicL st x with
  | some (ks, _) => match intsOf ks with
    | some ns => if ns.length < 64 then some (.nw (.lst ((sortI ns).map .int))) else none
    | none => none
  | none => sortedF st x
def listDF (st : Ms) (x : Opd) : Option Nv := match dicL st x with
  | some (ks, _) => some (.nw (.lst ks))
  | none => listF st x
theorem kV_int {kvs : List (Key × V)} {ns : List Int} (h : kvs.map (fun p => keyD p.1) = ns.map D.int) : kvs.map (·.1) = ns.map Sum.inl := by
  induction kvs generalizing ns with
  | nil => cases ns with
    | nil => rfl
    | cons n ns => cases h
  | cons p kvs ih => cases ns with
    | nil => cases h
    | cons n ns =>
      rw [List.map_cons, List.map_cons, List.cons.injEq] at h
      obtain ⟨k, v⟩ := p
      cases k with
      | inl i => cases h.1; rw [List.map_cons, List.map_cons, ih h.2]
      | inr s => cases h.1
theorem call_sortedDU (hc : X.calm = true) : CallR X (.builtin "sorted") (rU1 X.K cl W sortedDF) := by
  intro pins s σ0 H xs us Q I r h
  obtain ⟨B, st, G, R, σ, x, dx, n, rfl, rel, hx, e, run⟩ := h
  unfold sortedDF at e
  split at e
  · rename_i ks vs e1
    obtain ⟨p, kvs, rfl, h1, h2, h3⟩ := dicL_ok rel hx e1
    split at e
    · rename_i ns e2
      split at e
      · rename_i hz
        cases e
        rw [h2] at e2
        refine call_sortedDI hc pins s σ0 H _ us Q I r ⟨p, kvs, ns, rfl, .inl h1, kV_int (intsOf_ok e2), hz, fun ys a q1 q2 q3 => ?_⟩
        rw [sortI_eq q1 q2]
        exact fin_lst rel run (RepA.ints _) q3
      · cases e
    · cases e
  · exact call_sortedU pins s σ0 H _ us Q I r ⟨B, st, G, R, σ, x, dx, n, rfl, rel, hx, e, run⟩
theorem keys_rep {K : PySem.W.Frag} {G : Hp} {R : List Addr} : ∀ kvs : List (Key × V), RepA K G R (kvs.map fun kv => kV kv.1) (kvs.map fun p => keyD p.1)
  | [] => .nil
  | p :: kvs => .cons (by
      obtain ⟨k, v⟩ := p
      cases k with
      | inl i => exact .int i
      | inr s =>
        have := RepV.str (K := K) (G := G) (R := R) s.cps.toList
        rw [toS_of] at this
        exact this) (keys_rep kvs)
theorem call_listDU (hc : X.calm = true) : CallR X (.type "list") (rU1 X.K cl W listDF) := by
  intro pins s σ0 H xs us Q I r h
  obtain ⟨B, st, G, R, σ, x, dx, n, rfl, rel, hx, e, run⟩ := h
  unfold listDF at e
  split at e
  · rename_i ks vs e1
    obtain ⟨p, kvs, rfl, h1, h2, h3⟩ := dicL_ok rel hx e1
    cases e
    refine call_listD hc pins s σ0 H _ us Q I r ⟨p, kvs, rfl, .inl h1, fun a q => ?_⟩
    rw [h2] at run
    exact fin_lst rel run (keys_rep kvs) q
  · exact call_listU pins s σ0 H _ us Q I r ⟨B, st, G, R, σ, x, dx, n, rfl, rel, hx, e, run⟩
def max2F (i j : Int) : Option Int := some (if j > i then j else i)
def min2F (i j : Int) : Option Int := some (if j < i then j else i)
theorem se_max2 {p : Pos} (hg : Gl X "max") (hm : X.mg "max" = none) (ha : PE X a (TU X.K cl W E)) (hb : PE X b (TU X.K cl W E')) (hc : X.calm = true := by rfl)
    (he : starEach [a, b] X.env = (false, eval a X.env) :: starEach [b] X.env := by rfl) (he2 : starEach [b] X.env = (false, eval b X.env) :: starEach [] X.env := by rfl) (hpl : (backTo pos (starEach [b] X.env)).any (·.1) = false := by rfl) : PE X (.Call (.Name "max" p) [a, b] [] pos) (TU X.K cl W (numC max2F E E')) := by
  refine pe_imp (pe_callB (call_max2 hc) hg hm boot_max1 (pa_cons ha (pa_cons hb pa_nil he2) he) (by decide) (by decide) he hpl) fun σ H Q h => ?_
  obtain ⟨B, st, G, R, rel, run⟩ := h
  refine ⟨B, st, G, R, rel, run.bind.mono fun x st1 G1 R1 H1 _ _ _ _ ⟨rel1, _, _, run1⟩ v rv => ?_⟩
  refine ⟨B, st1, G1, R1, rel1, run1.bind.mono fun y st2 G2 R2 H2 _ g r _ ⟨rel2, _, _, run2⟩ w rw => ?_⟩
  cases rv with
  | int i =>
    cases rw with
    | int j => exact ⟨i, j, rfl, run2.done rel2 _ (.int _)⟩
    | _ => exact run2.elim
  | _ => cases rw <;> exact run2.elim
theorem se_min2 {p : Pos} (hg : Gl X "min") (hm : X.mg "min" = none) (ha : PE X a (TU X.K cl W E)) (hb : PE X b (TU X.K cl W E')) (hc : X.calm = true := by rfl)
    (he : starEach [a, b] X.env = (false, eval a X.env) :: starEach [b] X.env := by rfl) (he2 : starEach [b] X.env = (false, eval b X.env) :: starEach [] X.env := by rfl) (hpl : (backTo pos (starEach [b] X.env)).any (·.1) = false := by rfl) : PE X (.Call (.Name "min" p) [a, b] [] pos) (TU X.K cl W (numC min2F E E')) := by
  refine pe_imp (pe_callB (call_min2 hc) hg hm boot_min1 (pa_cons ha (pa_cons hb pa_nil he2) he) (by decide) (by decide) he hpl) fun σ H Q h => ?_
  obtain ⟨B, st, G, R, rel, run⟩ := h
  refine ⟨B, st, G, R, rel, run.bind.mono fun x st1 G1 R1 H1 _ _ _ _ ⟨rel1, _, _, run1⟩ v rv => ?_⟩
  refine ⟨B, st1, G1, R1, rel1, run1.bind.mono fun y st2 G2 R2 H2 _ g r _ ⟨rel2, _, _, run2⟩ w rw => ?_⟩
  cases rv with
  | int i =>
    cases rw with
    | int j => exact ⟨i, j, rfl, run2.done rel2 _ (.int _)⟩
    | _ => exact run2.elim
  | _ => cases rw <;> exact run2.elim
/-! ### xs.index(i), xs.count(i) of ints -/
def indexE (A : C Opd) (E : C D) : C D := bndC A fun x => lstC x (bndC E fun k => fun st => match seqL st x, k with
  | some ds, .int i => match intsOf ds with
    | some ns => match ns.findIdx? fun z => decide (z = i) with
      | some j => some (.ok (.int (j : Nat)), st)
      | none => none
    | none => none
  | _, _ => none)
def countE (A : C Opd) (E : C D) : C D := bndC A fun x => lstC x (bndC E fun k => fun st => match seqL st x, k with
  | some ds, .int i => match intsOf ds with
    | some ns => some (.ok (.int (ns.count i : Nat)), st)
    | none => none
  | _, _ => none)
variable {o : Expr}
theorem se_index (ho : PE X o (TO' X.K cl W A)) (he : PE X e (TU X.K cl W E)) 
    (hbase : attributeBase o "index" X.env (eval o X.env) = eval o X.env := by rfl)
    (hfew : ((backTo cpos (starEach [e] X.env)).all (fun x => !x.1) && (backToKw cpos (keywordEach [] X.env)).all (fun x => x.1.isSome)
      && decide (([e] : List Expr).length + ([] : List Keyword).length + (if ([] : List Keyword).isEmpty then 0 else 1) < 30)) = true := by rfl)
    (hline : (apos.endLine == cpos.line) = true := by rfl) (hs : starEach [e] X.env = (false, eval e X.env) :: starEach [] X.env := by rfl) (hplain : (backTo cpos (starEach [] X.env)).any (·.1) = false := by rfl) :
    PE X (.Call (.Attribute o "index" apos) [e] [] cpos) (TU X.K cl W (indexE A E)) := by
  refine pe_imp (pe_bm PySem.F.plainAttrs_list PySem.F.slot_list_index PySem.F.type_list_index mt_index ho (pa_cons he pa_nil hs) hbase hfew hline hs hplain) fun σ H Q h => ?_
  obtain ⟨B, st, G, R, rel, run⟩ := h
  refine ⟨B, st, G, R, rel, run.bind.mono fun x st1 G1 R1 H1 _ _ _ _ ⟨rel1, _, _, run1⟩ v rv => ?_⟩
  obtain ⟨ty, run1⟩ := lstC_ok rel1 rv run1
  refine ⟨ty, B, st1, G1, R1, rel1, run1.bind.mono fun d st2 G2 R2 H2 _ g r _ ⟨rel2, _, _, run2⟩ w rw => ?_⟩
  cases rw with
  | int i =>
    cases e1 : seqL st2 x with
    | none => rw [e1] at run2; exact run2.elim
    | some ds =>
      rw [e1] at run2
      simp only at run2
      cases e2 : intsOf ds with
      | none => rw [e2] at run2; exact run2.elim
      | some ns =>
        rw [e2] at run2
        simp only at run2
        cases e3 : ns.findIdx? fun z => decide (z = i) with
        | none => rw [e3] at run2; exact run2.elim
        | some j =>
          rw [e3] at run2
          obtain ⟨p, xs, rfl, h1, h2⟩ := seqL_ok rel2 (rv.mono g r) e1
          rw [intsOf_ok e2] at h2
          have ex := RepA.ints_of h2
          subst ex
          obtain ⟨hj, h3, h4⟩ := List.findIdx?_eq_some_iff_getElem.mp e3
          have h3 : ns[j] = i := by simpa using h3
          refine ⟨p, ns.map V.int, .int i, j, .int i, rfl, rfl, SqL.of h1, rfl, by simp [flatV], by rw [List.getElem?_map, List.getElem?_eq_getElem hj, h3]; rfl, by simp [eqV], fun m z hm hz => ?_, run2.done rel2 _ (.int _)⟩
          rw [List.getElem?_map] at hz
          obtain ⟨k, hk, rfl⟩ := Option.map_eq_some_iff.mp hz
          obtain ⟨hk1, hk2⟩ := List.getElem?_eq_some_iff.mp hk
          have := h4 m hm
          have h5 : ¬ ns[m] = i := by simpa using this
          rw [hk2] at h5
          simpa [eqV] using h5
  | _ => cases e1 : seqL st2 x <;> rw [e1] at run2 <;> exact run2.elim
theorem se_count (ho : PE X o (TO' X.K cl W A)) (he : PE X e (TU X.K cl W E)) 
    (hbase : attributeBase o "count" X.env (eval o X.env) = eval o X.env := by rfl)
    (hfew : ((backTo cpos (starEach [e] X.env)).all (fun x => !x.1) && (backToKw cpos (keywordEach [] X.env)).all (fun x => x.1.isSome)
      && decide (([e] : List Expr).length + ([] : List Keyword).length + (if ([] : List Keyword).isEmpty then 0 else 1) < 30)) = true := by rfl)
    (hline : (apos.endLine == cpos.line) = true := by rfl) (hs : starEach [e] X.env = (false, eval e X.env) :: starEach [] X.env := by rfl) (hplain : (backTo cpos (starEach [] X.env)).any (·.1) = false := by rfl) :
    PE X (.Call (.Attribute o "count" apos) [e] [] cpos) (TU X.K cl W (countE A E)) := by
  refine pe_imp (pe_bm PySem.F.plainAttrs_list PySem.F.slot_list_count PySem.F.type_list_count mt_lcount ho (pa_cons he pa_nil hs) hbase hfew hline hs hplain) fun σ H Q h => ?_
  obtain ⟨B, st, G, R, rel, run⟩ := h
  refine ⟨B, st, G, R, rel, run.bind.mono fun x st1 G1 R1 H1 _ _ _ _ ⟨rel1, _, _, run1⟩ v rv => ?_⟩
  obtain ⟨ty, run1⟩ := lstC_ok rel1 rv run1
  refine ⟨ty, B, st1, G1, R1, rel1, run1.bind.mono fun d st2 G2 R2 H2 _ g r _ ⟨rel2, _, _, run2⟩ w rw => ?_⟩
  cases rw with
  | int i =>
    cases e1 : seqL st2 x with
    | none => rw [e1] at run2; exact run2.elim
    | some ds =>
      rw [e1] at run2
      simp only at run2
      cases e2 : intsOf ds with
      | none => rw [e2] at run2; exact run2.elim
      | some ns =>
        rw [e2] at run2
        obtain ⟨p, xs, rfl, h1, h2⟩ := seqL_ok rel2 (rv.mono g r) e1
        rw [intsOf_ok e2] at h2
        have ex := RepA.ints_of h2
        subst ex
        exact ⟨p, ns, i, rfl, rfl, SqL.of h1, run2.done rel2 _ (.int _)⟩
  | _ => cases e1 : seqL st2 x <;> rw [e1] at run2 <;> exact run2.elim
end
end VL

/-! a display of 18 to 33 pairs: made in two parts, the second one put into the first -/
namespace VL
open PySem PySem.Spec PyProof.Rows L2
section
variable {prog : Program} {w : World} {KT : Type} [DecidableEq KT] {knd : KeyKind prog w KT} {A : Around} {E : Value → Shared → Prop} {s : Shared}
theorem wp_dictPut {d : Addr} {kvs : List (KT × Value)} {k : KT} {key v : Value} {Q : Unit → Shared → Prop} (hkey : knd.is k key = true) (hm : s.heap.DictOf knd d kvs) (hnew : k ∉ kvs.map (·.1))
    (hQ : ∀ h', h'.DictOf knd d (kvs ++ [(k, v)]) → Heap.SameBut d s.heap h' → Q () { s with heap := h' }) (hsz : kvs.length ≤ sizeLine) : wpAny (model prog w) A (dictPut d (knd.hash k) key v) Q E s := by
  obtain ⟨o, es, ep, ho, hc, hd, hk, hp, hn⟩ := hm
  have hes : es.size ≤ sizeLine := by
    have e1 := hp.length
    have e2 : es.toList.length = es.size := by simp
    omega
  unfold dictPut
  refine wpAny_bind (wpAny_dictFind_of hkey ho hd hk ?_)
  have hidx : (es.findIdx? fun e => knd.is k e.key) = kvs.findIdx? fun kv => decide (kv.1 = k) := by
    rw [← hp.findIdx k]; obtain ⟨l⟩ := es; simp
  have hno : (es.findIdx? fun e => knd.is k e.key) = none := by
    rw [hidx, List.findIdx?_eq_none_iff]
    intro x hx
    simp only [decide_eq_false_iff_not]
    intro e
    exact hnew (e ▸ List.mem_map.mpr ⟨x, hx, rfl⟩)
  rw [hno]
  refine wpAny_updateDictKeys (hz := hes) ho hd (hQ _ ⟨_, _, ep + 1, Heap.get?_update_self _ ho (Obj.isFreed_of_dict (Obj.data_mapDictKeys hd _)),
      hc.mapDictKeys _, Obj.data_mapDictKeys hd _, hk.push hkey _, ?_, ?_⟩ (Heap.SameBut.update ..))
  · have := hp.append hkey (knd.hash k) v
    obtain ⟨l⟩ := es
    simpa using this
  · rw [List.map_append, List.nodup_append]
    refine ⟨hn, by simp, ?_⟩
    intro a ha b hb
    simp only [List.map_cons, List.map_nil, List.mem_singleton] at hb
    subst hb
    exact fun e => hnew (e ▸ ha)
theorem wp_merge {d a : Addr} {kvs more : List (KT × Value)} {Q : Unit → Shared → Prop} (hda : a ≠ d) (hs : (a == sysModules) = false) (hne : kvs ≠ []) (hd : s.heap.DictOf knd d kvs) (ha : s.heap.DictOf knd a more)
    (nd : ((kvs ++ more).map (·.1)).Nodup) (hsz : kvs.length + more.length ≤ sizeLine) (hQ : ∀ h', h'.DictOf knd d (kvs ++ more) → Heap.SameBut d s.heap h' → Q () { s with heap := h' }) :
    wpAny (model prog w) A (mergeMapping d (.ref a) false) Q E s := by
  obtain ⟨oo, eso, epo, hoo, hco, hdo', hko, hpo, hno⟩ := id ha
  obtain ⟨od, esd, epd, hod, hcd, hdd, hkd, hpd, hnd⟩ := id hd
  have hlen : more.length = eso.size := by rw [← hpo.length]; simp
  have he : esd.isEmpty = false := by
    have := hpd.length
    cases h : esd.isEmpty with
    | false => rfl
    | true =>
      have h0 : esd = #[] := Array.isEmpty_iff.mp h
      rw [h0] at this
      exact absurd (List.length_eq_zero_iff.mp (by simpa using this.symm)) hne
  unfold mergeMapping
  refine wpAny_bind (wpAny_isInstance ha.typeIs isSubtype_dict_dict ?_)
  dsimp only
  rw [if_pos rfl]
  refine wpAny_bind (wpAny_specialOf ha.typeIs F.slot_dict_iter.lookup ?_)
  refine wpAny_bind (wpAny_pure ?_)
  rw [show ((some (Value.builtin "dict.__iter__") : Option Value) == some (Value.builtin "dict.__iter__")) = true from beq_self_eq_true _]
  dsimp only
  rw [if_neg (by rw [hs]; exact Bool.false_ne_true)]
  refine wpAny_bind (wpAny_dictEntries hod hdd ?_)
  rw [if_neg (by rw [he]; exact Bool.false_ne_true)]
  refine wpAny_bind (wpAny_dictEntries hoo hdo' ?_)
  refine wpAny_bind (wpAny_dictEpoch hoo hdo' ?_)
  refine wpAny_bind ?_
  rw [List.range_eq_range']
  refine wpAny_forIn_list _
    (fun rest _ s' => ∃ h' i, s' = { s with heap := h' } ∧ rest = List.range' i (eso.size - i) ∧ i ≤ eso.size ∧ h'.DictOf knd d (kvs ++ more.take i) ∧ h'.get? a = some oo ∧ Heap.SameBut d s.heap h')
    _ ?_ ?_ _ _ ⟨s.heap, 0, rfl, by simp, Nat.zero_le _, by simpa using hd, hoo, Heap.SameBut.refl _ _⟩
  · rintro x rest b s' ⟨h', i, rfl, hr, hi, hd', hoo', hs'⟩
    have hlt : i < eso.size := by
      rcases Nat.lt_or_ge i eso.size with h | h
      · exact h
      · rw [Nat.sub_eq_zero_of_le h] at hr; simp at hr
    obtain ⟨rfl, hrest⟩ : x = i ∧ rest = List.range' (i + 1) (eso.size - (i + 1)) := by
      have e : eso.size - i = (eso.size - (i + 1)) + 1 := by omega
      rw [e, List.range'_succ] at hr
      injection hr with h1 h2
      exact ⟨h1, h2⟩
    refine wpAny_bind (wpAny_dictEntries hoo' hdo' ?_)
    rw [Array.getElem?_eq_getElem hlt]
    obtain ⟨kv, hkv⟩ : ∃ kv, more[x]? = some kv := ⟨more[x]'(by rw [hlen]; exact hlt), List.getElem?_eq_getElem _⟩
    obtain ⟨k, v⟩ := kv
    obtain ⟨hkey, hval⟩ := hpo.get? (e := eso[x]) (by simp [hlt]) hkv
    obtain ⟨k', hkey', hhash⟩ := hko eso[x] (Array.getElem_mem hlt)
    obtain rfl : k' = k := knd.inj _ _ _ hkey' hkey
    have hx : x < more.length := by rw [hlen]; exact hlt
    have fresh : k' ∉ (kvs ++ more.take x).map (·.1) := by
      have sp : kvs ++ more = (kvs ++ more.take x) ++ (k', v) :: more.drop (x + 1) := by
        rw [List.append_assoc]
        congr 1
        rw [List.getElem?_eq_getElem hx] at hkv
        rw [← Option.some.inj hkv, ← List.drop_eq_getElem_cons hx, List.take_append_drop]
      rw [sp, List.map_append, List.nodup_append] at nd
      intro z
      exact nd.2.2 _ z k' (by simp) rfl
    have hmx : (kvs ++ more.take x).length ≤ sizeLine := by
      rw [List.length_append, List.length_take]; omega
    refine wpAny_bind (wpAny_holding ?_)
    try dsimp only
    rw [if_neg Bool.false_ne_true, hhash, hval]
    refine wp_dictPut hkey hd' fresh (fun h'' hd'' hs'' => ?_) hmx
    have hoo'' : h''.get? a = some oo := (hs''.2 a hda).trans hoo'
    refine wpAny_bind (wpAny_dictEpoch hoo'' hdo' ?_)
    rw [if_neg (by simp)]
    exact wpAny_pure ⟨h'', x + 1, rfl, hrest, hlt, by rw [List.take_add_one, hkv, ← List.append_assoc]; exact hd'', hoo'', hs'.trans hs''⟩
  · rintro b s' ⟨h', i, rfl, hr, hi, hd', hoo', hs'⟩
    have hin : i = eso.size := by
      rcases Nat.lt_or_ge i eso.size with h | h
      · have e : eso.size - i = (eso.size - (i + 1)) + 1 := by omega
        rw [e, List.range'_succ] at hr; exact nomatch hr
      · exact Nat.le_antisymm hi h
    refine wpAny_pure (hQ h' ?_ hs')
    rw [hin, ← hlen, List.take_length] at hd'; exact hd'
end
end VL

namespace VL
open PySem PySem.Spec PyProof.Rows L2
section
variable {prog : Program} {w : World} {A : Around} {E : Value → Shared → Prop} {s : Shared}
theorem wp_display {P1 P2 : List (Sem Value × Sem Value)} (h1 : P1.length = 17) (h2 : 0 < P2.length) (h3 : P2.length < 17) {Q : Value → Shared → Prop}
    (h : wpAny (model prog w) A (subDict P1) (fun d s1 => wpAny (model prog w) A (subDict P2) (fun u s2 => wpAny (model prog w) A (mergeMapping d (.ref u) false) (fun _ s3 => Q (.ref d) s3) (fun _ _ => False) s2) (fun _ _ => False) s1) (fun _ _ => False) s) :
    wpAny (model prog w) A (dictDisplay ((P1 ++ P2).map fun p => (some p.1, p.2))) Q E s := by
  unfold dictDisplay
  dsimp only
  refine wpAny_bind (wpAny_forIn_list _
    (fun rest st s' => (∃ i, i ≤ 16 ∧ rest = ((P1.drop i ++ P2).map fun p => (some p.1, p.2)) ∧ st = ((none : Option Addr), P1.take i) ∧ s' = s) ∨
      (∃ d i, i ≤ P2.length ∧ rest = ((P2.drop i).map fun p => (some p.1, p.2)) ∧ st = (some d, P2.take i) ∧ wpAny (model prog w) A (subDict P2) (fun u s2 => wpAny (model prog w) A (mergeMapping d (.ref u) false) (fun _ s3 => Q (.ref d) s3) (fun _ _ => False) s2) (fun _ _ => False) s'))
    _ ?_ ?_ _ _ (.inl ⟨0, by omega, by simp, by simp, rfl⟩))
  · rintro x rest st s' (⟨i, hi, hr, rfl, rfl⟩ | ⟨d, i, hi, hr, rfl, hp⟩)
    · have hlt : i < P1.length := by omega
      rw [List.drop_eq_getElem_cons hlt, List.cons_append, List.map_cons] at hr
      injection hr with hx hrest
      subst hx
      dsimp only
      have tk : P1.take i ++ [(P1[i].1, P1[i].2)] = P1.take (i + 1) := by
        rw [List.take_add_one, List.getElem?_eq_getElem hlt]; rfl
      rw [tk]
      by_cases e : i = 16
      · subst e
        have full : P1.take (16 + 1) = P1 := List.take_of_length_le (by omega)
        have ne : P1.isEmpty = false := by cases P1 with
          | nil => simp at h1
          | cons _ _ => rfl
        rw [full, if_pos (by rw [h1]; rfl), if_neg (by rw [ne]; exact Bool.false_ne_true)]
        refine wpAny_bind (wpAny_bind (wpAny_mono h (fun d s1 q => wpAny_pure (wpAny_pure ?_)) fun _ _ z => z.elim))
        right
        refine ⟨d, 0, by omega, ?_, by simp, q⟩
        rw [hrest, show 16 + 1 = P1.length by omega, List.drop_length]
        simp
      · have nl : ((P1.take (i + 1)).length == 17) = false := by
          rw [List.length_take, beq_eq_false_iff_ne]; omega
        rw [if_neg (by rw [nl]; exact Bool.false_ne_true)]
        exact wpAny_pure (.inl ⟨i + 1, by omega, hrest, rfl, rfl⟩)
    · have hlt : i < P2.length := by
        rcases Nat.lt_or_ge i P2.length with q | q
        · exact q
        · rw [List.drop_eq_nil_of_le q] at hr; cases hr
      rw [List.drop_eq_getElem_cons hlt, List.map_cons] at hr
      injection hr with hx hrest
      subst hx
      dsimp only
      have tk : P2.take i ++ [(P2[i].1, P2[i].2)] = P2.take (i + 1) := by
        rw [List.take_add_one, List.getElem?_eq_getElem hlt]; rfl
      rw [tk]
      have nl : ((P2.take (i + 1)).length == 17) = false := by
        rw [List.length_take, beq_eq_false_iff_ne]; omega
      rw [if_neg (by rw [nl]; exact Bool.false_ne_true)]
      exact wpAny_pure (.inr ⟨d, i + 1, hlt, hrest, rfl, hp⟩)
  · rintro st s' (⟨i, hi, hr, rfl, rfl⟩ | ⟨d, i, hi, hr, rfl, hp⟩)
    · have := congrArg List.length hr
      rw [List.length_map, List.length_append, List.length_nil] at this
      omega
    · have hge : P2.length ≤ i := by
        have := congrArg List.length hr
        rw [List.length_map, List.length_drop, List.length_nil] at this
        omega
      have full : P2.take i = P2 := List.take_of_length_le hge
      have ne : P2.isEmpty = false := by cases P2 with
        | nil => simp at h2
        | cons _ _ => rfl
      dsimp only
      rw [full, if_neg (by rw [ne]; exact Bool.false_ne_true)]
      refine wpAny_bind (wpAny_bind (wpAny_holding (wpAny_mono hp (fun u s2 q => ?_) fun _ _ z => z.elim)))
      refine wpAny_bind (wpAny_onRaise (wpAny_holding (wpAny_mono q (fun _ s3 q3 => ?_) fun _ _ z => z.elim)))
      exact wpAny_pure (wpAny_pure q3)
end
end VL

namespace VL
open PySem PySem.Spec PyProof.Rows L2
/-- pairs of texts that stand written -/
inductive CP : List (Option Expr) → List Expr → List (List Nat × List Nat) → Prop
  | nil : CP [] [] []
  | cons {ks vs cs} {x y : Str} {a b : List Nat} {j j' p p'} : x = toS a → y = toS b → CP ks vs cs → CP (some (.Constant (.str x) j p) :: ks) (.Constant (.str y) j' p' :: vs) ((a, b) :: cs)
def cKV (cs : List (List Nat × List Nat)) : List (Key × V) := cs.map fun c => (.inr (toS c.1), .str (toS c.2))
theorem CP.len {ks vs cs} (h : CP ks vs cs) : ks.length = cs.length ∧ vs.length = cs.length ∧ ks.all (·.isSome) = true := by
  induction h with
  | nil => exact ⟨rfl, rfl, rfl⟩
  | cons _ _ _ ih => exact ⟨by simp [ih.1], by simp [ih.2.1], by simp [ih.2.2]⟩
section
variable {prog : Program} {w : World} {A : Around} {E : Value → Shared → Prop} {s : Shared} {env : Env} {pos : Pos} {d : Addr}
theorem kv_app {a b : List (Key × V)} {u v : List (Key × Value)} (h : KV a u) (g : KV b v) : KV (a ++ b) (u ++ v) := by
  unfold KV at *
  induction h with
  | nil => exact g
  | cons h _ ih => exact .cons h ih
theorem wp_loop : ∀ {ks vs cs}, CP ks vs cs → ∀ {acc : List (Key × V)} {kvs : List (Key × Value)} {s : Shared} {Q : PUnit → Shared → Prop}, KV acc kvs → s.heap.DictOf (mixKind prog w) d kvs → ((acc ++ cKV cs).map (·.1)).Nodup → acc.length + cs.length ≤ 100 →
    (∀ h' t kvs', KV (acc ++ cKV cs) kvs' → h'.DictOf (mixKind prog w) d kvs' → Heap.SameBut d s.heap h' → Q PUnit.unit { s with heap := h', toks := t }) →
    wpAny (model prog w) A (forIn (pairTrees ks vs env pos) PUnit.unit fun (p : Sem Value × Sem Value) (_ : PUnit) => (do
      let kv ← p.1
      let vv ← holding [kv] p.2
      holding [kv, vv] (dictSet d kv vv)
      pure (ForInStep.yield PUnit.unit) : Sem (ForInStep PUnit))) Q E s := by
  intro ks vs cs h
  induction h with
  | nil =>
    intro acc kvs s Q kv dd nd hl hQ
    have e0 : pairTrees [] [] env pos = [] := rfl
    rw [e0, List.forIn_nil]
    exact wpAny_pure (hQ s.heap s.toks kvs (by simpa [cKV] using kv) dd (Heap.SameBut.refl _ _))
  | @cons ks vs cs x y a b j j' p p' ex ey hr ih =>
    intro acc kvs s Q kv dd nd hl hQ
    subst ex ey
    rw [pairTrees, List.forIn_cons]
    refine wpAny_bind (wpAny_bind (wpAny_Constant_str (env := env) (k := j) (pos := p) ?_))
    refine wpAny_bind (wpAny_holding (wpAny_bind (wpAny_Constant_str (env := env) (k := j') (pos := p') (wpAny_bind (wpAny_standAt (wpAny_pure ?_))))))
    have hk : (mixKind prog w).is (.inr (toS a)) (.str (toS a) s.toks) = true := kV_is (k := .inr (toS a)) ⟨s.toks, rfl⟩
    have hlen : kvs.length = acc.length := (Paired.length kv).symm
    refine wpAny_bind (wpAny_holding (wpAny_dictSet_pairs (hsz := by rw [sizeLine_eq]; rw [List.length_cons] at hl; omega) hk dd (fun h' dd' hs' => ?_)))
    refine wpAny_pure ?_
    have nd2 : ((acc ++ [((.inr (toS a) : Key), V.str (toS b))] ++ cKV cs).map (·.1)).Nodup := by
      rw [List.append_assoc]; exact nd
    have fresh : ¬ (kvs.any fun kv => decide (kv.1 = (.inr (toS a) : Key))) = true := by
      intro z
      obtain ⟨u, hu, eu⟩ := List.any_eq_true.mp z
      have ku : u.1 ∈ acc.map (·.1) := by
        have := KV.keys kv
        rw [this]
        exact List.mem_map.mpr ⟨u, hu, rfl⟩
      rw [of_decide_eq_true eu] at ku
      rw [List.map_append, List.nodup_append] at nd
      exact nd.2.2 _ ku _ (by simp [cKV]) rfl
    have st : stored kvs (.inr (toS a) : Key) (.str (toS b) (s.toks + 1)) = kvs ++ [(.inr (toS a), .str (toS b) (s.toks + 1))] := by
      rw [stored, if_neg fresh]
    rw [st] at dd'
    refine ih (acc := acc ++ [((.inr (toS a) : Key), V.str (toS b))]) (kv_app kv (.cons ⟨rfl, ⟨_, rfl⟩⟩ .nil)) dd' nd2 (by rw [List.length_append, List.length_singleton]; rw [List.length_cons] at hl; omega) fun h'' t kvs'' kv'' dd'' hs'' => ?_
    refine hQ h'' t kvs'' ?_ dd'' (hs'.trans hs'')
    rw [List.append_assoc] at kv''
    exact kv''
theorem wp_sub_long {ks vs cs} (h : CP ks vs cs) (hl : 15 < cs.length) (hl2 : cs.length ≤ 100) (nd : ((cKV cs).map (·.1)).Nodup) {Q : Addr → Shared → Prop}
    (hQ : ∀ h' t kvs', KV (cKV cs) kvs' → h'.DictOf (mixKind prog w) s.heap.objs.size kvs' → (∀ b u, s.heap.get? b = some u → h'.get? b = some u) → Q s.heap.objs.size { s with heap := h', toks := t }) :
    wpAny (model prog w) A (subDict (pairTrees ks vs env pos)) Q E s := by
  have ln := h.len
  have pl : (pairTrees ks vs env pos).length = cs.length := by rw [pairTrees_length ks vs env pos ln.2.2 (ln.1.trans ln.2.1.symm), ln.1]
  unfold subDict
  refine wpAny_bind (wpAny_alloc ?_)
  refine wpAny_bind (wpAny_holding ?_)
  rw [if_neg (by rw [pl]; omega)]
  refine wpAny_bind (wpAny_rule ?_)
  refine wpAny_bind (wp_loop h (acc := []) (kvs := []) .nil (Heap.DictOf.new s.heap) (by simpa using nd) (by simpa using hl2) fun h' t kvs' kv' dd' hs' => ?_)
  refine wpAny_pure (wpAny_pure ?_)
  exact hQ h' t kvs' (by simpa using kv') dd' fun b u e => (hs'.2 b (Nat.ne_of_lt (Heap.lt_size e))).trans (Heap.get?_push_of_some _ e)
end
end VL

namespace VL
open PySem PySem.Spec PyProof.Rows L2
section
variable {prog : Program} {w : World} {A : Around} {E : Value → Shared → Prop} {env : Env} {pos : Pos}
theorem wp_evalP : ∀ {ks vs cs}, CP ks vs cs → ∀ {s : Shared} {Q : List (Value × Value) → Shared → Prop}, (∀ t us kvs, Carries (mixKind prog w) us kvs → KV (cKV cs) kvs → Q us { s with toks := t }) → wpAny (model prog w) A (evalPairs (pairTrees ks vs env pos)) Q E s := by
  intro ks vs cs h
  induction h with
  | nil =>
    intro s Q hQ
    have e0 : pairTrees [] [] env pos = [] := rfl
    rw [e0]
    exact evalPairs_nil (hQ s.toks [] [] trivial .nil)
  | @cons ks vs cs x y a b j j' p p' ex ey hr ih =>
    intro s Q hQ
    subst ex ey
    refine pairTrees_cons_walk (wpAny_Constant_str (env := env) (k := j) (pos := p) (wpAny_Constant_str (env := env) (k := j') (pos := p') (ih fun t us kvs c kv => ?_)))
    exact hQ t _ ((.inr (toS a), .str (toS b) (s.toks + 1)) :: kvs) ⟨kV_is (k := .inr (toS a)) ⟨s.toks, rfl⟩, rfl, c⟩ (.cons ⟨rfl, ⟨_, rfl⟩⟩ kv)
theorem pair_app : ∀ {ks vs cs ks2 vs2}, CP ks vs cs → pairTrees (ks ++ ks2) (vs ++ vs2) env pos = pairTrees ks vs env pos ++ pairTrees ks2 vs2 env pos := by
  intro ks vs cs ks2 vs2 h
  induction h with
  | nil => rfl
  | cons _ _ _ ih =>
    rw [List.cons_append, List.cons_append, pairTrees, pairTrees, ih]
    rfl
end
theorem CP.app {ks vs cs ks2 vs2 cs2} (h : CP ks vs cs) (g : CP ks2 vs2 cs2) : CP (ks ++ ks2) (vs ++ vs2) (cs ++ cs2) := by
  induction h with
  | nil => exact g
  | cons a b _ ih => exact .cons a b ih
theorem cKV_app (a b : List (List Nat × List Nat)) : cKV (a ++ b) = cKV a ++ cKV b := List.map_append
theorem pe_big {X : Cx} {ks1 vs1 cs1 ks2 vs2 cs2} {pos : Pos} (h1 : CP ks1 vs1 cs1) (h2 : CP ks2 vs2 cs2) (n1 : cs1.length = 17) (n2 : 0 < cs2.length) (n3 : cs2.length ≤ 15) (nd : ((cKV (cs1 ++ cs2)).map (·.1)).Nodup) :
    PE X (.Dict (ks1 ++ ks2) (vs1 ++ vs2) pos) (fun σ H Q => ∀ p, H p = none → Q (.ref p) (upd H p (.dK (cKV (cs1 ++ cs2))))) := by
  refine ⟨fun pins s σ H Q I q => ?_⟩
  have l1 := h1.len
  have l2 := h2.len
  have la := (h1.app h2).len
  have pl1 : (pairTrees ks1 vs1 X.env pos).length = 17 := by rw [pairTrees_length _ _ _ _ l1.2.2 (l1.1.trans l1.2.1.symm), l1.1, n1]
  have pl2 : (pairTrees ks2 vs2 X.env pos).length = cs2.length := by rw [pairTrees_length _ _ _ _ l2.2.2 (l2.1.trans l2.2.1.symm), l2.1]
  rw [cKV_app, List.map_append] at nd
  have ndp := List.nodup_append.mp nd
  rw [arm_eval_Dict, zip_pairTrees _ _ _ _ la.2.2 (la.1.trans la.2.1.symm), pair_app h1]
  refine wpAny_bind (wpAny_standAt (wp_display pl1 (by omega) (by omega) ?_))
  refine wp_sub_long h1 (by omega) (by omega) ndp.1 fun h' t kvs1 kv1 dd1 keep1 => ?_
  have big : sysModules < s.heap.objs.size := I.big
  have lt1 : s.heap.objs.size < h'.objs.size := by
    obtain ⟨o, _, _, ho, _⟩ := dd1
    exact Heap.lt_size ho
  refine wpAny_subDict (knd := mixKind X.prog X.w) (by omega) (wp_evalP h2 fun t2 us kvs2 ca kv2 => ?_)
  refine ⟨kvs2, ca, Heap.DictOf.new h', fun h2' dd2 hs2 => ?_⟩
  have nk2 : (kvs2.map (·.1)).Nodup := by rw [← KV.keys kv2]; exact ndp.2.1
  rw [merged_nil_of_nodup kvs2 nk2] at dd2
  have dd1' : h2'.DictOf (mixKind X.prog X.w) s.heap.objs.size kvs1 := (dd1.push _).sameBut hs2 (Nat.ne_of_lt lt1)
  have e1 : kvs1.length = 17 := by rw [← Paired.length kv1]; simp [cKV, n1]
  have e2 : kvs2.length = cs2.length := by rw [← Paired.length kv2]; simp [cKV]
  have ndk : ((kvs1 ++ kvs2).map (·.1)).Nodup := by
    rw [List.map_append, ← KV.keys kv1, ← KV.keys kv2]; exact nd
  refine wp_merge (s := ⟨h2', _, _, _, _⟩) (Nat.ne_of_gt lt1) (beq_eq_false_iff_ne.mpr (Nat.ne_of_gt (Nat.lt_trans big lt1))) (fun z => by rw [z] at e1; simp at e1) dd1' dd2 ndk (by rw [sizeLine_eq]; omega) fun h3 dd3 hs3 => ?_
  have keep : ∀ b u, s.heap.get? b = some u → h3.get? b = some u := fun b u e => by
    have hb : b < s.heap.objs.size := Heap.lt_size e
    have k1 := keep1 b u e
    have k2 : h2'.get? b = some u := (hs2.2 b (Nat.ne_of_lt (Nat.lt_trans hb lt1))).trans (Heap.get?_push_of_some _ k1)
    exact (hs3.2 b (Nat.ne_of_lt hb)).trans k2
  have kv3 : KV (cKV (cs1 ++ cs2)) (kvs1 ++ kvs2) := by rw [cKV_app]; exact kv_app kv1 kv2
  have hz : (cKV (cs1 ++ cs2)).length ≤ sizeLine := by
    have : (cKV (cs1 ++ cs2)).length = cs1.length + cs2.length := by simp [cKV]
    rw [this, sizeLine_eq]; omega
  refine ⟨.ref s.heap.objs.size, _, I.laid (a := s.heap.objs.size) (o := .dK (cKV (cs1 ++ cs2))) keep (Nat.le_refl _) (dk_new hz (beq_eq_false_iff_ne.mpr (Nat.ne_of_gt big)) kv3 dd3), rfl, q _ (I.hok.fresh (Nat.le_refl _))⟩
/-- a large display of written texts -/
def bigE (cs : List (List Nat × List Nat)) : C Nv := pureC (.nw (.dic (cs.map fun c => .str c.1) (cs.map fun c => .str c.2)))
theorem se_big {X : Cx} {cl : CL} {W : WX} {ks1 vs1 cs1 ks2 vs2 cs2} {pos : Pos} (h1 : CP ks1 vs1 cs1) (h2 : CP ks2 vs2 cs2) (nd : ((cKV (cs1 ++ cs2)).map (·.1)).Nodup := by decide +kernel) (n1 : cs1.length = 17 := by rfl) (n2 : 0 < cs2.length := by decide) (n3 : cs2.length ≤ 15 := by decide) :
    PE X (.Dict (ks1 ++ ks2) (vs1 ++ vs2) pos) (TN X.K cl W (bigE (cs1 ++ cs2))) := by
  refine pe_imp (pe_big h1 h2 n1 n2 n3 nd) fun σ H Q h => ?_
  obtain ⟨B, st, G, R, rel, run⟩ := h
  intro p hp
  refine run G R _ (Same.refl _) (Pre.refl _) (rel.new hp) _ ⟨p, rfl, rel.fresh hp, cKV (cs1 ++ cs2), upd_same, ?_, ?_⟩
  · unfold cKV
    rw [List.map_map]
    refine List.map_congr_left fun c _ => ?_
    show D.str c.1 = D.str (toS c.1).cps.toList
    rw [toS_cps]
  · unfold cKV
    rw [List.map_map]
    generalize cs1 ++ cs2 = cs
    induction cs with
    | nil => exact .nil
    | cons c cs ih => exact .cons (.str _) ih
theorem se_bigT {X : Cx} {cl : CL} {W : WX} {keys : List (Option Expr)} {values : List Expr} {cs1 cs2 : List (List Nat × List Nat)} {pos : Pos} (h1 : CP (keys.take 17) (values.take 17) cs1) (h2 : CP (keys.drop 17) (values.drop 17) cs2) (nd : ((cKV (cs1 ++ cs2)).map (·.1)).Nodup := by decide +kernel) (n1 : cs1.length = 17 := by rfl) (n2 : 0 < cs2.length := by decide) (n3 : cs2.length ≤ 15 := by decide) :
    PE X (.Dict keys values pos) (TN X.K cl W (bigE (cs1 ++ cs2))) := by
  have := se_big (X := X) (cl := cl) (W := W) (pos := pos) h1 h2 nd n1 n2 n3
  rwa [List.take_append_drop, List.take_append_drop] at this
end VL

/-! sep.join(texts) -/
namespace VL
open PySem PySem.Spec PyProof.Rows L2
def strsOf : List D → Option (List (List Nat))
  | [] => some []
  | .str t :: r => (strsOf r).map (t :: ·)
  | _ => none
theorem strsOf_ok : ∀ {ds : List D} {ts : List (List Nat)}, strsOf ds = some ts → ds = ts.map .str
  | [], _, h => by cases h; rfl
  | d :: r, ts, h => by
    cases d with
    | str t =>
      unfold strsOf at h
      obtain ⟨m, h1, rfl⟩ := Option.map_eq_some_iff.mp h
      rw [strsOf_ok h1]; rfl
    | _ => cases h
theorem strsOf_map (ts : List (List Nat)) : strsOf (ts.map .str) = some ts := by
  induction ts with
  | nil => rfl
  | cons n r ih => rw [List.map_cons]; unfold strsOf; rw [ih]; rfl
def joinS (a : List Nat) (ts : List (List Nat)) : List Nat := (Txt.join (toS a) (ts.map toS)).cps.toList
theorem joinS_nil (ts : List (List Nat)) : joinS [] ts = ts.flatten := by
  unfold joinS Txt.join
  rw [StrLaws.glued_eq_join]
  induction ts with
  | nil => rfl
  | cons t r ih =>
    cases r with
    | nil => simp [Str.join, toS]
    | cons u r =>
      have e : Str.join (toS []) (List.map toS (t :: u :: r)) = toS t ++ toS [] ++ Str.join (toS []) (List.map toS (u :: r)) := rfl
      rw [e]
      have f : ∀ a b : Str, (a ++ b).cps.toList = a.cps.toList ++ b.cps.toList := fun a b => Array.toList_append
      rw [f, f, ih]
      simp [toS]
def joinF (s : List Nat) (x : Opd) : C D := fun st => match seqL st x with
  | some ds => match strsOf ds with
    | some ts => if (ts.map List.length).sum + ts.length * s.length ≤ LIM then some (.ok (.str (joinS s ts)), st) else none
    | none => none
  | none => none
def joinE (E : C D) (A : C Opd) : C D := bndC E fun a => match a with
  | .str s => bndC A fun x => joinF s x
  | _ => failC
section
variable {X : Cx} {cl : CL} {W : WX} {o e : Expr} {A : C Opd} {E : C D} {apos cpos : Pos}
theorem se_join1 (ho : PE X o (TU X.K cl W E)) (he : PE X e (TO' X.K cl W A)) 
    (hbase : attributeBase o "join" X.env (eval o X.env) = eval o X.env := by rfl)
    (hfew : ((backTo cpos (starEach [e] X.env)).all (fun x => !x.1) && (backToKw cpos (keywordEach [] X.env)).all (fun x => x.1.isSome)
      && decide (([e] : List Expr).length + ([] : List Keyword).length + (if ([] : List Keyword).isEmpty then 0 else 1) < 30)) = true := by rfl)
    (hline : (apos.endLine == cpos.line) = true := by rfl) (hs : starEach [e] X.env = (false, eval e X.env) :: starEach [] X.env := by rfl) (hplain : (backTo cpos (starEach [] X.env)).any (·.1) = false := by rfl) :
    PE X (.Call (.Attribute o "join" apos) [e] [] cpos) (TU X.K cl W (joinE E A)) := by
  refine pe_imp (pe_bm PySem.F.plainAttrs_str PySem.F.slot_str_join PySem.F.type_str_join mt_join ho (pa_cons he pa_nil hs) hbase hfew hline hs hplain) fun σ H Q h => ?_
  obtain ⟨B, st, G, R, rel, run⟩ := h
  refine ⟨B, st, G, R, rel, run.bind.mono fun a st1 G1 R1 H1 _ _ _ _ ⟨rel1, _, _, run1⟩ v rv => ?_⟩
  cases rv with
  | str s =>
    have run1 := run1.bind
    refine ⟨rfl, B, st1, G1, R1, rel1, run1.mono fun x st2 G2 R2 H2 _ g r _ ⟨rel2, _, _, run2⟩ w rw => ?_⟩
    unfold joinF at run2
    cases e1 : seqL st2 x with
    | none => rw [e1] at run2; exact run2.elim
    | some ds =>
      rw [e1] at run2
      simp only at run2
      cases e2 : strsOf ds with
      | none => rw [e2] at run2; exact run2.elim
      | some ts =>
        rw [e2] at run2
        simp only at run2
        split at run2
        · rename_i hz
          obtain ⟨p, xs, rfl, h1, h2⟩ := seqL_ok rel2 rw e1
          rw [strsOf_ok e2] at h2
          have ex := RepA.strs_of h2
          subst ex
          refine ⟨toS s, p, ts.map toS, rfl, rfl, .inl (by rw [List.map_map]; exact SqL.of h1), ?_, run2.done rel2 _ ?_⟩
          · rw [List.map_map, List.length_map, toS_len]
            have : (ts.map ((fun x : Str => x.length) ∘ toS)) = ts.map List.length := List.map_congr_left fun t _ => toS_len t
            rw [this]
            exact Nat.le_trans hz (by decide)
          · have := RepV.str (K := X.K) (G := G2) (R := R2) (joinS s ts)
            unfold joinS at this
            rw [toS_of] at this
            exact this
        · exact run2.elim
  | _ => exact run1.elim
end
end VL

/-! d.get(k), d.get(k, x); list(range(..)); list(text) -/
namespace VL
open PySem PySem.Spec PyProof.Rows L2
def dicC {α : Type} (x : Opd) (c : C α) : C α := fun st => match dicL st x with
  | some _ => c st
  | none => none
def dgetC (x : Opd) (k d : D) : C D := fun st => match dicL st x with
  | some (ks, vs) => if isKey k = true then some (.ok ((dLook ks vs k).getD d), st) else none
  | none => none
def dgt1E (A : C Opd) (E : C D) : C D := bndC A fun x => dicC x (bndC E fun k => dgetC x k .non)
def dgt2E (A : C Opd) (E E' : C D) : C D := bndC A fun x => dicC x (bndC E fun k => bndC E' fun d => dgetC x k d)
section
variable {X : Cx} {cl : CL} {W : WX} {B : Base} {st : Ms} {G G' H : Hp} {R R' : List Addr} {σ : L2.St}
variable {a b c e f : Expr} {A A' : C Opd} {E E' : C D} {pos apos cpos p : Pos}
theorem dicC_ok {α : Type} {x : Opd} {v : V} {c : C α} {Q : α → Ms → Hp → List Addr → Hp → Prop} (rel : Rel X.K cl B st G R σ H) (hv : RepOp X.K G R σ v x) (run : Run X.K cl W B σ G R (dicC x c st) Q) : (∃ a, v = .ref a ∧ IsD H a) ∧ Run X.K cl W B σ G R (c st) Q := by
  unfold dicC at run
  cases e : dicL st x with
  | none => rw [e] at run; exact run.elim
  | some q =>
    obtain ⟨ks, vs⟩ := q
    rw [e] at run
    obtain ⟨p, kvs, rfl, h1, _, _⟩ := dicL_ok rel hv e
    exact ⟨⟨p, rfl, .inl ⟨kvs, .inl h1⟩⟩, run⟩
theorem dgetC_ok {x : Opd} {v w z : V} {k d : D} {Q : VK} (rel : Rel X.K cl B st G R σ H) (hv : RepOp X.K G R σ v x) (hw : RepV X.K G R w k) (hz : RepV X.K G R z d)
    (run : Run X.K cl W B σ G R (dgetC x k d st) fun d _ G' R' H' => ∀ v, RepV X.K G' R' v d → Q v H') : ∃ a o, v = .ref a ∧ DGet H a w o ∧ Q (o.getD z) H := by
  unfold dgetC at run
  split at run
  · rename_i ks vs e1
    split at run
    · rename_i ek
      obtain ⟨p, kvs, rfl, h1, h2, h3⟩ := dicL_ok rel hv e1
      obtain ⟨k, rfl, rfl⟩ := isKey_rep hw ek
      obtain ⟨o, q1, q2⟩ := dLook_ok (x := k) h3
      rw [← h2] at q2
      refine ⟨p, o, rfl, .inl ⟨kvs, k, .inl h1, rfl, q1.symm⟩, ?_⟩
      cases e2 : dLook ks vs (keyD k) with
      | some d2 =>
        rw [e2] at q2 run
        obtain ⟨v, rfl, q4⟩ := q2
        exact run.done rel v q4
      | none =>
        rw [e2] at q2 run
        have q2 : o = none := q2
        subst q2
        exact run.done rel z hz
    · exact run.elim
  · exact run.elim
theorem se_dgt2 (hu : X.A.units + 1 < cLine) (ha : PE X a (TO' X.K cl W A)) (he : PE X e (TU X.K cl W E)) (hf : PE X f (TU X.K cl W E'))
    (hbase : attributeBase a "get" X.env (eval a X.env) = eval a X.env := by rfl)
    (hfew : ((backTo cpos (starEach [e, f] X.env)).all (fun x => !x.1) && (backToKw cpos (keywordEach [] X.env)).all (fun x => x.1.isSome)
      && decide (([e, f] : List Expr).length + ([] : List Keyword).length + (if ([] : List Keyword).isEmpty then 0 else 1) < 30)) = true := by rfl)
    (hline : (apos.endLine == cpos.line) = true := by rfl) (htree : backTo cpos (starEach [e, f] X.env) = [(false, eval e X.env), (false, eval f X.env)] := by rfl) :
    PE X (.Call (.Attribute a "get" apos) [e, f] [] cpos) (TU X.K cl W (dgt2E A E E')) := by
  refine pe_imp (pe_dget2 hu ha he hf ⟨hbase, hfew, hline, htree⟩) fun σ H Q h => ?_
  obtain ⟨B, st, G, R, rel, run⟩ := h
  refine ⟨B, st, G, R, rel, run.bind.mono fun x st1 G1 R1 H1 _ _ _ _ ⟨rel1, _, _, run1⟩ v rv => ?_⟩
  obtain ⟨⟨p, rfl, hp⟩, run1⟩ := dicC_ok rel1 rv run1
  refine ⟨p, rfl, hp, B, st1, G1, R1, rel1, run1.bind.mono fun k st2 G2 R2 H2 _ g r _ ⟨rel2, _, _, run2⟩ w rw => ?_⟩
  refine ⟨B, st2, G2, R2, rel2, run2.bind.mono fun d st3 G3 R3 H3 _ g3 r3 _ ⟨rel3, _, _, run3⟩ z rz => ?_⟩
  obtain ⟨a, o, e1, h1, h2⟩ := dgetC_ok rel3 ((rv.mono g r).mono g3 r3) (rw.mono g3 r3) rz run3
  cases e1
  exact ⟨o, h1, h2⟩
theorem se_dgt1 (hu : X.A.units + 1 < cLine) (ha : PE X a (TO' X.K cl W A)) (he : PE X e (TU X.K cl W E))
    (hbase : attributeBase a "get" X.env (eval a X.env) = eval a X.env := by rfl)
    (hfew : ((backTo cpos (starEach [e] X.env)).all (fun x => !x.1) && (backToKw cpos (keywordEach [] X.env)).all (fun x => x.1.isSome)
      && decide (([e] : List Expr).length + ([] : List Keyword).length + (if ([] : List Keyword).isEmpty then 0 else 1) < 30)) = true := by rfl)
    (hline : (apos.endLine == cpos.line) = true := by rfl) (htree : backTo cpos (starEach [e] X.env) = [(false, eval e X.env)] := by rfl) :
    PE X (.Call (.Attribute a "get" apos) [e] [] cpos) (TU X.K cl W (dgt1E A E)) := by
  refine pe_imp (pe_dget1 hu ha he ⟨hbase, hfew, hline, htree⟩) fun σ H Q h => ?_
  obtain ⟨B, st, G, R, rel, run⟩ := h
  refine ⟨B, st, G, R, rel, run.bind.mono fun x st1 G1 R1 H1 _ _ _ _ ⟨rel1, _, _, run1⟩ v rv => ?_⟩
  obtain ⟨⟨p, rfl, hp⟩, run1⟩ := dicC_ok rel1 rv run1
  refine ⟨p, rfl, hp, B, st1, G1, R1, rel1, run1.bind.mono fun k st2 G2 R2 H2 _ g r _ ⟨rel2, _, _, run2⟩ w rw => ?_⟩
  obtain ⟨a, o, e1, h1, h2⟩ := dgetC_ok rel2 (rv.mono g r) rw .non run2
  cases e1
  exact ⟨o, h1, h2⟩
/-! list(range(..)) -/
def rngD (lo : Int) (n : Nat) : List D := (List.range n).map fun (i : Nat) => .int (lo + (i : Int))
def lrgC (lo hi : Int) : C Nv := fun st => if rngOk lo hi = true ∧ (hi - lo).toNat ≤ LIM then some (.ok (.nw (.lst (rngD lo (hi - lo).toNat))), st) else none
def lrg1E (E : C D) : C Nv := bndC E fun d => match d with
  | .int n => lrgC 0 n
  | _ => failC
def lrg2E (E E' : C D) : C Nv := bndC E fun d => bndC E' fun d' => match d, d' with
  | .int lo, .int hi => lrgC lo hi
  | _, _ => failC
theorem lrgC_ok {lo hi : Int} {Q : VK} (rel : Rel X.K cl B st G R σ H) (run : Run X.K cl W B σ G R (lrgC lo hi st) fun d st' G' R' H' => ∀ v, RepN X.K cl B st' G' R' σ H' v d → Q v H') : RgOk lo hi ∧ ∀ q, H q = none → Q (.ref q) (upd H q (.lst (rgV lo hi))) := by
  unfold lrgC at run
  split at run
  · rename_i h
    obtain ⟨h1, h2⟩ := h
    obtain ⟨b1, b2, b3, b4⟩ := rngOk_iff.mp h1
    refine ⟨⟨b1, b2, b3, b4, Nat.le_trans h2 (by decide)⟩, fun q hq => ?_⟩
    have r := RepA.ints (K := X.K) (G := G) (R := R) ((List.range (hi - lo).toNat).map fun (i : Nat) => lo + (i : Int))
    rw [List.map_map, List.map_map] at r
    exact fin_lst rel run r hq
  · exact run.elim
theorem se_lrg1 {p2 : Pos} (hc : X.calm = true) (hg : Gl X "list") (hm : X.mg "list" = none) (hg2 : Gl X "range") (hm2 : X.mg "range" = none) (he : PE X e (TU X.K cl W E)) (na : starEach [e] X.env = (false, eval e X.env) :: starEach [] X.env := by rfl)
    (nb : starEach [Expr.Call (.Name "range" p2) [e] [] cpos] X.env = (false, eval (.Call (.Name "range" p2) [e] [] cpos) X.env) :: starEach [] X.env := by rfl) : PE X (.Call (.Name "list" p) [.Call (.Name "range" p2) [e] [] cpos] [] pos) (TN X.K cl W (lrg1E E)) := by
  refine pe_imp (pe_listRg hc hg hm (prg_1 hg2 hm2 he na) nb) fun σ H Q h => ?_
  obtain ⟨B, st, G, R, rel, run⟩ := h
  refine ⟨B, st, G, R, rel, run.bind.mono fun x st1 G1 R1 H1 _ _ _ _ ⟨rel1, _, _, run1⟩ v rv => ?_⟩
  cases rv with
  | int n => exact ⟨n, rfl, lrgC_ok rel1 run1⟩
  | _ => exact run1.elim
/-! list(text) -/
theorem call_listT (hc : X.calm = true) : CallR X (.type "list") (fun xs H Q => ∃ t : Str, xs = [.str t] ∧ t.cps.size ≤ sizeLine ∧ ∀ p, H p = none → Q (.ref p) (upd H p (.lst (t.cps.toList.map fun c => V.str ⟨#[c]⟩)))) := by
  intro pins s σ H xs us Q I r h
  obtain ⟨t, rfl, hz, q⟩ := h
  obtain ⟨u, rfl, rx⟩ := vals1 r
  obtain ⟨tk, rfl⟩ := rx
  refine call_list_str (I.ok.hd hc) t tk (hn := hz) fun h' tk' acc c' hk e' hi => ?_
  have vs : Vals (t.cps.toList.map fun c => V.str ⟨#[c]⟩) acc.toList := by
    have hl : acc.toList.length = t.cps.size := by rw [Array.length_toList]; exact hi.1
    have : (t.cps.toList.map fun c => V.str ⟨#[c]⟩) = (List.range acc.toList.length).map fun i => V.str ⟨#[t.cps.toList.getD i 0]⟩ := by
      rw [hl, ← Array.length_toList]
      apply List.ext_getElem?
      intro i
      rw [List.getElem?_map, List.getElem?_map]
      by_cases hi : i < t.cps.toList.length
      · rw [List.getElem?_range hi, List.getElem?_eq_getElem hi]
        show some (V.str ⟨#[t.cps.toList[i]]⟩) = some (V.str ⟨#[t.cps.toList.getD i 0]⟩)
        rw [List.getD_eq_getElem?_getD, List.getElem?_eq_getElem hi]
        rfl
      · rw [List.getElem?_eq_none (by omega), List.getElem?_eq_none (by rw [List.length_range]; omega)]
        rfl
    rw [this]
    refine vals_of_get acc.toList _ fun j u hj => ?_
    obtain ⟨c, k, h1, rfl⟩ := hi.2 j u (by rw [← hj, Array.getElem?_toList])
    refine ⟨k, ?_⟩
    rw [List.getD_eq_getElem?_getD, Array.getElem?_toList, h1]
    rfl
  refine ⟨.ref s.heap.objs.size, upd H s.heap.objs.size (.lst (t.cps.toList.map fun c => V.str ⟨#[c]⟩)), I.laid hk (Nat.le_refl _) (show ObjOk X.prog X.w _ _ _ (.lst (t.cps.toList.map fun c => V.str ⟨#[c]⟩)) from ⟨?_, acc.toList, c', vs, ?_⟩), rfl, q _ (I.hok.fresh (Nat.le_refl _))⟩
  · rw [List.length_map, Array.length_toList]; exact hz
  · rw [Array.toArray_toList]; exact e'
def listTF (st : Ms) (x : Opd) : Option Nv := match dOf st x with
  | some (.str t) => if t.length ≤ LIM then some (.nw (.lst (t.map fun c => .str [c]))) else none
  | _ => listDF st x
theorem signs_rep : ∀ t : List Nat, RepA X.K G R (t.map fun c => V.str ⟨#[c]⟩) (t.map fun c => D.str [c])
  | [] => .nil
  | c :: t => .cons (.str [c]) (signs_rep t)
theorem call_listTU (hc : X.calm = true) : CallR X (.type "list") (rU1 X.K cl W listTF) := by
  intro pins s σ0 H xs us Q I r h
  obtain ⟨B, st, G, R, σ, x, dx, n, rfl, rel, hx, e, run⟩ := h
  unfold listTF at e
  split at e
  · rename_i t e1
    split at e
    · rename_i hl
      cases e
      have hv := dOf_ok rel hx e1
      cases hv
      refine call_listT hc pins s σ0 H _ us Q I r ⟨toS t, rfl, ?_, fun a q => ?_⟩
      · have : (toS t).cps.size = t.length := toS_len t
        rw [this]
        exact Nat.le_trans hl (by decide)
      · have : (toS t).cps.toList = t := by simp [toS]
        rw [this]
        exact fin_lst rel run (signs_rep t) q
    · cases e
  · exact call_listDU hc pins s σ0 H _ us Q I r ⟨B, st, G, R, σ, x, dx, n, rfl, rel, hx, e, run⟩
end
end VL

/-! d.update(e) -/
namespace VL
open PySem PySem.Spec PyProof.Rows L2
def rDUpd : V → List V → Hp → VK → Prop := fun x vs H Q => ∃ (a b : Addr) (kvs more : List (Key × V)), x = .ref a ∧ vs = [.ref b] ∧ a ≠ b ∧ H a = some (.dK kvs) ∧ H b = some (.dK more) ∧ kvs.length + more.length ≤ sizeLine ∧ Q .non (upd H a (.dK (mergeK kvs more)))
theorem mt_dupd {X : Cx} : MtM X "dict.update" rDUpd := by
  intro pins s σ H x vs v us Q I rx rv h
  obtain ⟨a, b, kvs, more, rfl, rfl, hne, ha, hb, hz, q⟩ := h
  cases rx
  obtain ⟨u, rfl, ru⟩ := rv.one
  cases ru
  obtain ⟨z, hd, xs, rel, dd⟩ := dk_of I.hok ha
  obtain ⟨z2, hd2, ys, rel2, dd2⟩ := dk_of I.hok hb
  have hl := length_mergeK more kvs
  refine call_meetsIn PySem.F.slot_dict_update dd.typeIs PySem.F.entry_dict_update (PySem.F.args_dict_update_2 _ _) (meets_dict_update (mixKind X.prog X.w) a b hne hd2)
    ⟨xs, ys, dd, dd2, by rw [← rel.length, ← rel2.length]; exact hz, fun h' dd' _ hs => ?_⟩
  have he : ∃ q, h'.get? a = some q := let ⟨q, _, _, hq, _⟩ := dd'; ⟨q, hq⟩
  exact ⟨.non, _, d_write I (by rw [ha]; exact True.intro) hs he (dk_new (by omega) hd (rel2.merge rel) dd'), rfl, q⟩
def dupdE (A A' : C Opd) : C D := bndC A fun x => dicC x (bndC A' fun y => fun st => match y with
  | .d (.dic ks2 vs2) => (match upO st x with
    | some (.dic ks vs, f) => if ks.length + ks2.length ≤ LIM then some (.ok .non, f (.dic (mergeD (ks, vs) ks2 vs2).1 (mergeD (ks, vs) ks2 vs2).2)) else none
    | _ => none)
  | _ => none)
section
variable {X : Cx} {cl : CL} {W : WX} {B : Base} {st : Ms} {G G' H : Hp} {R R' : List Addr} {σ : L2.St}
variable {o e : Expr} {A A' : C Opd} {pos apos cpos p : Pos}
theorem se_dupd (ho : PE X o (TO' X.K cl W A)) (he : PE X e (TO' X.K cl W A')) 
    (hbase : attributeBase o "update" X.env (eval o X.env) = eval o X.env := by rfl)
    (hfew : ((backTo cpos (starEach [e] X.env)).all (fun x => !x.1) && (backToKw cpos (keywordEach [] X.env)).all (fun x => x.1.isSome)
      && decide (([e] : List Expr).length + ([] : List Keyword).length + (if ([] : List Keyword).isEmpty then 0 else 1) < 30)) = true := by rfl)
    (hline : (apos.endLine == cpos.line) = true := by rfl) (hs : starEach [e] X.env = (false, eval e X.env) :: starEach [] X.env := by rfl) (hplain : (backTo cpos (starEach [] X.env)).any (·.1) = false := by rfl) :
    PE X (.Call (.Attribute o "update" apos) [e] [] cpos) (TU X.K cl W (dupdE A A')) := by
  refine pe_imp (pe_bm PySem.F.plainAttrs_dict PySem.F.slot_dict_update PySem.F.type_dict_update mt_dupd ho (pa_cons he pa_nil hs) hbase hfew hline hs hplain) fun σ H Q h => ?_
  obtain ⟨B, st, G, R, rel, run⟩ := h
  refine ⟨B, st, G, R, rel, run.bind.mono fun x st1 G1 R1 H1 _ _ _ _ ⟨rel1, _, _, run1⟩ v rv => ?_⟩
  have ty : tyV X.K "dict" v H1 := by
    unfold dicC at run1
    cases e1 : dicL st1 x with
    | none => rw [e1] at run1; exact run1.elim
    | some q =>
      obtain ⟨ks, vs⟩ := q
      obtain ⟨p, kvs, rfl, h1, _, _⟩ := dicL_ok rel1 rv e1
      exact .inr (.inr (.inl ⟨rfl, .inl ⟨kvs, h1⟩⟩))
  obtain ⟨_, run1⟩ := dicC_ok rel1 rv run1
  refine ⟨ty, B, st1, G1, R1, rel1, run1.bind.mono fun y st2 G2 R2 H2 _ g r _ ⟨rel2, _, _, run2⟩ w rw => ?_⟩
  split at run2
  · rename_i ks2 vs2 _ _
    split at run2
    · rename_i ks vs f e2
      split at run2
      · rename_i hz
        obtain ⟨a, rfl, hG, ⟨kvs, h1, h2, h3⟩, hk⟩ := upO_ok rel2 (rv.mono g r) e2
        have rw : RepV X.K G2 R2 w (.dic ks2 vs2) := rw
        cases rw with
        | dic q1 q2 q3 =>
          rename_i b more
          have hne : a ≠ b := fun z => by
            subst z
            rw [hG] at q1
            cases q1
          obtain ⟨m1, m2⟩ := mergeD_ok h3 q3
          subst h2
          subst q2
          rw [List.length_map, List.length_map] at hz
          refine ⟨a, b, kvs, more, rfl, rfl, hne, h1, rel2.m.same _ _ q1, lim_le hz, ?_⟩
          refine run2.done (hk rfl _ _ ⟨_, upd_same, m1, m2⟩) _ .non
      · exact run2.elim
    · exact run2.elim
  · exact run2.elim
end
end VL

namespace VL
open PySem PySem.Spec PyProof.Rows L2

/-! ### defs by name -/
def DefAt (K : PySem.W.Frag) (mg : Str → Option Value) (x : Str) (sd : Stmt) (ps : List Str) : Prop := ∃ f fd, mg x = some (.ref f) ∧ Fun K x x sd f fd ∧ ∀ us : List Value, us.length = ps.length → bindArgs fd ⟨us, []⟩ = pure (ps.zip us)
def OkD (P : Program) (w : World) (K : PySem.W.Frag) (mg : Str → Option Value) (base : Heap) (cl : CL) (k : Nat) (x : Str) (ps : List Str) (F : Fn) : Prop :=
  ∃ f fd, mg x = some (.ref f) ∧ PySem.W.keepIn K (.ref f) = true ∧ Binds K fd ps [] ∧ FnOk P w K mg base (L2.CX P w) k f fd ps (spU K cl ps.length F)
section
variable {P : Program} {w : World} {K : PySem.W.Frag} {mg : Str → Option Value} {base : Heap} {cl : CL} {x : Str} {sd : Stmt} {ps N : List Str} {k : Nat} {F : Fn}
theorem ok_def {body : Stm} (h : DefAt K mg x sd ps) (S : FnScope N ps (defScope sd)) (hl : ps.length ≤ N.length)
    (hb : ∀ (f cdv : Value) (fa : Addr) (A : Around) (outer : List Env) (s : Shared) (H : Hp) (E : XK), Room k (A.deeper (envOfC x (defScope sd) s.heap.objs.size fa cdv)) →
      PSs (cxOf (L2.CX P w) P w K mg base N x (defScope sd) fa cdv A outer s H E) (defBody sd) (TUS K cl (fun c d _ H' => E c d H') body)) : OkD P w K mg base cl (k + 1) x ps (fnC ps.length N.length body) := by
  obtain ⟨f, fd, h1, h2, h3⟩ := h
  exact ⟨f, fd, h1, h2.kp, .all h3, fun_ok h2 S hl fun cdv A outer s H E hr => hb (.none) cdv f A outer s H E hr⟩
/-- a def that nothing is asked of -/
theorem ok_none (h : DefAt K mg x sd ps) : OkD P w K mg base cl k x ps (fun _ _ => none) := by
  obtain ⟨f, fd, h1, h2, h3⟩ := h
  have no : ∀ vs H Q E, ¬ spU K cl ps.length (fun _ _ => none) vs H Q E := fun vs H Q E h => by
    obtain ⟨_, _, _, _, _, _, _, h⟩ := h
    exact h
  exact ⟨f, fd, h1, h2.kp, .all h3, fun vs H Q E h => absurd h (no vs H Q E), fun A outer s H args us vs Q E _ _ _ _ h => absurd h (no vs H Q E)⟩
theorem OkD.mono {j : Nat} (h : OkD P w K mg base cl j x ps F) (l : j ≤ k) : OkD P w K mg base cl k x ps F := by
  obtain ⟨f, fd, h1, h2, h3, h4⟩ := h
  exact ⟨f, fd, h1, h2, h3, h4.mono l⟩
end
section
variable {X : Cx} {cl : CL} {W : WX} {e : Expr} {es : List Expr} {Es : C (List D)} {k n : Nat} {x : Str} {ps : List Str} {F : Fn} {p pos : Pos}
theorem se_callD (h : OkD X.prog X.w X.K X.mg X.base cl k x ps F) (hr : Room k X.A) (hg : Gl X x) (tk : Takes X W) (ha : PA X (e :: es) (TUA X.K cl W Es)) (hdb : (x == ("__debug__" : Str)) = false := by decide)
    (he : starEach (e :: es) X.env = (false, eval e X.env) :: starEach es X.env := by rfl) (hpl : (backTo pos (starEach es X.env)).any (·.1) = false := by rfl) (hn : ps.length = n := by rfl) : PE X (.Call (.Name x p) (e :: es) [] pos) (TU X.K cl W (callE n F Es)) := by
  subst hn
  obtain ⟨f, fd, h1, h2, h3, h4⟩ := h
  exact se_call h4 hr hg h1 h2 h3 tk ha hdb he hpl
theorem se_callD0 (h : OkD X.prog X.w X.K X.mg X.base cl k x [] F) (hr : Room k X.A) (hg : Gl X x) (hdb : (x == ("__debug__" : Str)) = false := by decide) : PE X (.Call (.Name x p) [] [] pos) (TU X.K cl W (call0 F)) := by
  obtain ⟨f, fd, h1, h2, h3, h4⟩ := h
  exact se_call0 h4 hr hg h1 h2 h3 hdb
end
theorem def_mk {K : PySem.W.Frag} {h : Heap} {mg : Str → Option Value} {x : Str} {sd : Stmt} {ps : List Str} {f : Addr} {oc : Value} {od an : Option Addr} {osl : Array (Option Value)} {kV doc pm cdv ct : Value} (X : K.In h) (G : h.Ns mainGlobals mg)
    (a : PySem.W.nsIn K mainGlobals x = some (some (.ref f))) (l : K.lookup f = some ⟨oc, od, .func (PySem.W.fnOf x x (defArgs sd) (defBody sd) (defScope sd) .none kV doc pm an cdv ct), osl⟩)
    (c : PySem.W.codeIn K cdv x = true) (k : PySem.W.keepIn K (.ref f) = true)
    (b : ∀ (kV doc pm : Value) (an : Option Addr) (cdv ct : Value) (us : List Value), us.length = ps.length → bindArgs (PySem.W.fnOf x x (defArgs sd) (defBody sd) (defScope sd) .none kV doc pm an cdv ct) ⟨us, []⟩ = pure (ps.zip us)) : DefAt K mg x sd ps :=
  ⟨f, _, PySem.W.mg_of X G a, fun_mk l c k, b _ _ _ _ _ _⟩

/-! ### the end -/
theorem start_rel {K : PySem.W.Frag} {cl : CL} {H : Hp} : RelM K cl ⟨H, keepOf H [], []⟩ [] H [] H :=
  ⟨Same.refl _, Same.refl _, fun _ _ e => .inl e, Pre.refl _, fun _ h => (List.not_mem_nil h).elim, fun a o e => (show H a = some o from keepOf_some (R := []) e), rfl, List.nodup_nil, fun n o a h => by simp at h⟩
/-- what is left of a law: its computation's end at each script -/
def LawOk (F : Fn) : Prop := ∀ ns : List Int, ns.length ≤ 63 → ∃ M', F [.scr ns] [] = some (.ok (.bl true), M')
theorem law_sp {F : Fn} {K : PySem.W.Frag} {cl : CL} (L : LawOk F) {H : Hp} {a : Addr} {ns : List Int} (h1 : ns.length ≤ 63) (h3 : SqL K H a (ns.map V.int)) : spU K cl 1 F [.ref a] H (fun v _ => v = .bl true) fun _ _ _ => False := by
  obtain ⟨M', e⟩ := L ns h1
  refine ⟨H, [], [], [.scr ns], rfl, start_rel, .cons (.scr h3) .nil, ?_⟩
  rw [e]
  exact fun v G' R' H' _ _ _ r => by cases r; rfl
theorem cx_end {P : Program} {w : World} {H : Hp} {s : Shared} {e : Value} {s' : Shared} (h : L2.CX P w [] H s (fun _ _ _ => False) e s') : False := by
  obtain ⟨_, _, _, _, _, _, _, _, _, _, _, _, z⟩ := h
  exact z
theorem walk {l : PySem.W.OpenLaw} {q : Program} {loose : List Str} {XP : (Str → Option Value) → Heap → Prop} {YP : World → Heap → Prop} {d : DefRec} {K : Params → PySem.W.Frag} {k : Nat} {F : Fn} {cl : World → CL} {sd : Stmt} (L : LawOk F) (hn : l.most = some 63) (hdf : d.params.defaults = []) (hr : Room k callerA)
    (hY : ∀ (w : World) (h : Heap), YP w h → (K w.params).In h) (hd : d.name = ("law" : Str))
    (G : ∀ (w : World) (mg : Str → Option Value) (h : Heap), (K w.params).In h → h.Ns mainGlobals mg → DefAt (K w.params) mg "law" sd ["script"] ∧ ∀ (base : Heap) (f : Addr) (fd : FuncData), Fun (K w.params) "law" "law" sd f fd → FnOk l.prog w (K w.params) mg base (L2.CX l.prog w) k f fd ["script"] (spU (K w.params) (cl w) 1 F)) :
    PySem.W.WalkO q loose XP YP l.row.toRowW d [] (fun f vs => PySem.call f vs) :=
  L2.walk_of (n := 63) (k := k) (x := "script") (CX := fun w => L2.CX l.prog w) (sp := fun w => spU (K w.params) (cl w) 1 F) hn (by decide) hdf hr hY
    (fun w mg fa h X N hm => by
      rw [hd] at hm
      obtain ⟨⟨f, fd, h1, h2, h3⟩, g⟩ := G w mg h X N
      rw [hm] at h1
      cases h1
      exact ⟨fd, fun s u => .of_eq (h3 [u] rfl), fun base _ _ => g base fa fd h2⟩)
    (fun w H a ns h1 _ h3 => law_sp L h1 h3) fun w H s e s' h => cx_end h
end VL

/-! the computations' steps, for simp -/
namespace VL
open PySem PySem.Spec PyProof.Rows L2
section
variable {α β : Type} {st : Ms}
@[simp] theorem e_pure (a : α) : pureC a st = some (.ok a, st) := (rfl)
@[simp] theorem e_fail : (failC : C α) st = none := (rfl)
@[simp] theorem e_raise (x : List Nat) : (raiseC x : C α) st = some (.ex x, st) := (rfl)
@[simp] theorem e_bnd (a : C α) (k : α → C β) : bndC a k st = (match a st with
  | some (.ok x, st1) => k x st1
  | some (.ex e, st1) => some (.ex e, st1)
  | none => none) := (rfl)
@[simp] theorem e_opt (o : Option α) : optC o st = (match o with
  | some a => some (.ok a, st)
  | none => none) := (rfl)
@[simp] theorem e_raw (i : Nat) : rawV i st = (match st.env[i]? with
  | some (.v d) => some (.ok (.d d), st)
  | some (.own _) => some (.ok (.cell i), st)
  | _ => none) := (rfl)
@[simp] theorem e_frzd (d : D) : frzO (.d d) st = some (.ok d, st) := (rfl)
@[simp] theorem e_frzc (i : Nat) : frzO (.cell i) st = (match st.env[i]? with
    | some (.own o) => match o.asD with
      | some d => some (.ok d, { st with env := st.env.set i (.v d) })
      | none => none
    | some (.v d) => some (.ok d, st)
    | _ => none) := (rfl)
@[simp] theorem e_valO (A : C Opd) : valO A st = bndC A frzO st := (rfl)
@[simp] theorem e_varV (i : Nat) : varV i st = (match st.env[i]? with
  | some (.v d) => some (.ok d, st)
  | some (.own o) => match o.asD with
      | some d => some (.ok d, { st with env := st.env.set i (.v d) })
      | none => none
  | _ => none) := by
  show bndC (rawV i) frzO st = _
  rw [e_bnd, e_raw]
  cases h : st.env[i]? with
  | none => rfl
  | some c =>
    cases c with
    | un => rfl
    | exc x => rfl
    | v d => rfl
    | own o => simp only [e_frzc, h]
@[simp] theorem e_opd (A : C D) : opdC A st = bndC A (fun d => pureC (.d d)) st := (rfl)
@[simp] theorem e_nv (A : C D) : nvC A st = bndC A (fun d => pureC (.d d)) st := (rfl)
@[simp] theorem e_frzN_d (d : D) : frzN (.d d) st = some (.ok d, st) := (rfl)
@[simp] theorem e_frzN_l (ds : List D) : frzN (.nw (.lst ds)) st = some (.ok (.lst ds), st) := (rfl)
@[simp] theorem e_frzN_k (ks vs : List D) : frzN (.nw (.dic ks vs)) st = some (.ok (.dic ks vs), st) := (rfl)
@[simp] theorem e_valN (A : C Nv) : valN A st = bndC A frzN st := (rfl)
@[simp] theorem e_shrN (A : C Nv) : shrN A st = bndC A (fun n => match n with
  | .d d => pureC d
  | .nw o => fun st => some (.ok (.ob st.M.length), { st with M := st.M ++ [o] })) st := (rfl)
@[simp] theorem e_asDl (ds : List D) : (MO.lst ds).asD = some (.lst ds) := (rfl)
@[simp] theorem e_asDk (ks vs : List D) : (MO.dic ks vs).asD = some (.dic ks vs) := (rfl)
@[simp] theorem e_bin2 (f : Opd → Opd → C Nv) (A B : C Opd) : bin2 f A B st = bndC A (fun x => bndC B fun y => f x y) st := (rfl)
@[simp] theorem e_num (f : Int → Int → Option Int) (A B : C D) : numC f A B st = bndC A (fun x => bndC B fun y => optC (match x, y with | .int i, .int j => (f i j).map .int | _, _ => none)) st := (rfl)
@[simp] theorem e_neg (A : C D) : negC A st = bndC A (fun d => optC (match d with | .int i => some (.int (-i)) | _ => none)) st := (rfl)
@[simp] theorem e_sub (i j : Int) : subF i j = some (i - j) := (rfl)
theorem e_and (i j : Int) : andF i j = some (Builtin.bitAnd i j) := (rfl)
theorem e_or (i j : Int) : orF i j = some (Builtin.bitOr i j) := (rfl)
@[simp] theorem e_dOfd (d : D) : dOf st (.d d) = some d := (rfl)
@[simp] theorem e_dOfc (i : Nat) : dOf st (.cell i) = (match st.env[i]? with
    | some (.v d) => some d
    | _ => none) := (rfl)
@[simp] theorem e_seqD_lst (ds : List D) : seqD st (.lst ds) = some ds := (rfl)
@[simp] theorem e_seqD_ob (n : Nat) : seqD st (.ob n) = (match st.M[n]? with
    | some (.lst ds) => some ds
    | _ => none) := (rfl)
@[simp] theorem e_seqD_int (i : Int) : seqD st (.int i) = none := (rfl)
@[simp] theorem e_seqD_str (t : List Nat) : seqD st (.str t) = none := (rfl)
@[simp] theorem e_seqD_bl (b : Bool) : seqD st (.bl b) = none := (rfl)
@[simp] theorem e_seqD_non : seqD st .non = none := (rfl)
@[simp] theorem e_seqD_tup (ds : List D) : seqD st (.tup ds) = none := (rfl)
@[simp] theorem e_seqD_scr (ns : List Int) : seqD st (.scr ns) = none := (rfl)
@[simp] theorem e_seqD_dic (ks vs : List D) : seqD st (.dic ks vs) = none := (rfl)
@[simp] theorem e_seqLd (d : D) : seqL st (.d d) = seqD st d := (rfl)
@[simp] theorem e_seqLc (i : Nat) : seqL st (.cell i) = (match st.env[i]? with
    | some (.own (.lst ds)) => some ds
    | some (.v d) => seqD st d
    | _ => none) := (rfl)
@[simp] theorem e_add (x y : Opd) : addF x y st = (match dOf st x, dOf st y with
  | some (.int i), some (.int j) => some (.ok (.d (.int (i + j))), st)
  | some (.str s), some (.str t) => if s.length + t.length ≤ LIM then some (.ok (.d (.str (s ++ t))), st) else none
  | some (.tup s), some (.tup t) => if s.length + t.length ≤ LIM then some (.ok (.d (.tup (s ++ t))), st) else none
  | _, _ => match seqL st x, seqL st y with
    | some s, some t => if s.length + t.length ≤ LIM then some (.ok (.nw (.lst (s ++ t))), st) else none
    | _, _ => none) := (rfl)
@[simp] theorem e_mul (x y : Opd) : mulF x y st = (match dOf st x, dOf st y with
  | some (.int i), some (.int j) => if i.natAbs.log2 + j.natAbs.log2 < 1000000 then some (.ok (.d (.int (i * j))), st) else none
  | some (.str s), some (.int k) => if leN (-k) 1000000 = true ∧ leN k 1000000 = true ∧ s.length * k.toNat ≤ LIM then some (.ok (.d (.str (repT s k))), st) else none
  | _, some (.int k) => match seqL st x with
    | some s => if leN (-k) 1000000 = true ∧ leN k 1000000 = true ∧ s.length * k.toNat ≤ LIM then some (.ok (.nw (.lst (List.replicate k.toNat s).flatten)), st) else none
    | _ => none
  | _, _ => none) := (rfl)
@[simp] theorem e_cmp (f : Ms → Opd → Opd → Option Bool) (A B : C Opd) : cmp2 f A B st = bndC A (fun x => bndC B fun y => fun st => match f st x y with
  | some k => some (.ok k, st)
  | none => none) st := (rfl)
@[simp] theorem e_eqF (x y : Opd) : eqF st x y = (match dOf st x, dOf st y with
  | some d, some e => match sEq d e with
    | some k => some k
    | none => deepF st x y
  | _, _ => deepF st x y) := (rfl)
@[simp] theorem e_neF (x y : Opd) : neF st x y = (eqF st x y).map (!·) := (rfl)
@[simp] theorem e_sEq_int (i j : Int) : sEq (.int i) (.int j) = some (decide (i = j)) := (rfl)
@[simp] theorem e_sEq_str (i j : List Nat) : sEq (.str i) (.str j) = some (decide (i = j)) := (rfl)
@[simp] theorem e_sEq_bl (i j : Bool) : sEq (.bl i) (.bl j) = some (decide (i = j)) := (rfl)
@[simp] theorem e_sEq_tup (a b : List D) : sEq (.tup a) (.tup b) = none := (rfl)
@[simp] theorem e_sEq_lst (a b : List D) : sEq (.lst a) (.lst b) = none := (rfl)
@[simp] theorem e_ordF (f : Int → Int → Bool) (x y : Opd) : ordF f st x y = (match dOf st x, dOf st y with
  | some (.int i), some (.int j) => some (f i j)
  | _, _ => none) := (rfl)
@[simp] theorem e_ltF (x y : Opd) : ltF st x y = ordF (fun i j => decide (i < j)) st x y := (rfl)
@[simp] theorem e_leF (x y : Opd) : leF st x y = ordF (fun i j => decide (i ≤ j)) st x y := (rfl)
@[simp] theorem e_gtF (x y : Opd) : gtF st x y = ordF (fun i j => decide (j < i)) st x y := (rfl)
@[simp] theorem e_geF (x y : Opd) : geF st x y = ordF (fun i j => decide (j ≤ i)) st x y := (rfl)
@[simp] theorem e_boolE (c : C Bool) : boolE c st = bndC c (fun b => pureC (.bl b)) st := (rfl)
@[simp] theorem e_tstE (A : C D) : tstE A st = bndC A (fun d => match d with
  | .bl b => pureC b
  | _ => failC) st := (rfl)
@[simp] theorem e_andC (a b : C Bool) : andC a b st = bndC a (fun k => match k with
  | true => b
  | false => pureC false) st := (rfl)
@[simp] theorem e_orC (a b : C Bool) : orC a b st = bndC a (fun k => match k with
  | true => pureC true
  | false => b) st := (rfl)
@[simp] theorem e_notC (a : C Bool) : notC a st = bndC a (fun b => pureC (!b)) st := (rfl)
@[simp] theorem e_andE (a b : C D) : andE a b st = bndC a (fun d => match d with
  | .bl true => b
  | .bl false => pureC (.bl false)
  | _ => failC) st := (rfl)
@[simp] theorem e_orE (a b : C D) : orE a b st = bndC a (fun d => match d with
  | .bl true => pureC (.bl true)
  | .bl false => b
  | _ => failC) st := (rfl)
@[simp] theorem e_notE (a : C D) : notE a st = bndC a (fun d => match d with
  | .bl b => pureC (.bl (!b))
  | _ => failC) st := (rfl)
@[simp] theorem e_ifE (c : C Bool) (a b : C α) : ifE c a b st = bndC c (fun k => match k with
  | true => a
  | false => b) st := (rfl)
@[simp] theorem e_nilA : nilA st = some (.ok [], st) := (rfl)
@[simp] theorem e_consA (E : C D) (Es : C (List D)) : consA E Es st = bndC E (fun d => bndC Es fun ds => pureC (d :: ds)) st := (rfl)
@[simp] theorem e_tupE (Es : C (List D)) : tupE Es st = bndC Es (fun ds => fun st => if ds.length ≤ LIM then some (.ok (.tup ds), st) else none) st := by
  show bndC Es (fun ds => if ds.length ≤ LIM then pureC (D.tup ds) else failC) st = _
  rw [e_bnd, e_bnd]
  cases Es st with
  | none => rfl
  | some p =>
    obtain ⟨r, st1⟩ := p
    cases r with
    | ex x => rfl
    | ok ds => simp only; split <;> rfl
@[simp] theorem e_lstE (Es : C (List D)) : lstE Es st = bndC Es (fun ds => fun st => if ds.length ≤ LIM then some (.ok (.nw (.lst ds)), st) else none) st := by
  show bndC Es (fun ds => if ds.length ≤ LIM then pureC (Nv.nw (.lst ds)) else failC) st = _
  rw [e_bnd, e_bnd]
  cases Es st with
  | none => rfl
  | some p =>
    obtain ⟨r, st1⟩ := p
    cases r with
    | ex x => rfl
    | ok ds => simp only; split <;> rfl
@[simp] theorem e_ixE (A : C Opd) (E : C D) : ixE A E st = bndC A (fun x => bndC E fun y => fun st => match ixF st x y with
  | some d => some (.ok d, st)
  | none => none) st := (rfl)
@[simp] theorem e_ixF (x : Opd) (i : Int) : ixF st x (.int i) = (match seqL st x with
    | some ds => atI ds i
    | none => match dOf st x with
      | some (.tup ds) => atI ds i
      | some (.str t) => if t.length ≤ LIM then (atI t i).map (fun c => .str [c]) else none
      | some (.scr ns) => (atI ns i).map .int
      | _ => none) := (rfl)
@[simp] theorem e_partN : partN st = some (.ok none, st) := (rfl)
@[simp] theorem e_partS (E : C D) : partS E st = bndC E (fun d => match d with
  | .int i => pureC (some i)
  | _ => failC) st := (rfl)
@[simp] theorem e_slE (A : C Opd) (lo hi : C (Option Int)) : slE A lo hi st = bndC A (fun x => bndC lo fun l => bndC hi fun h => fun st => match slF st x l h with
  | some n => some (.ok n, st)
  | none => none) st := (rfl)
@[simp] theorem e_slF (x : Opd) (lo hi : Option Int) : slF st x lo hi = (match seqL st x with
  | some ds => some (.nw (.lst (cutL ds lo hi)))
  | none => match dOf st x with
    | some (.tup ds) => some (.d (.tup (cutL ds lo hi)))
    | some (.str t) => if t.length ≤ LIM then some (.d (.str (cutL t lo hi))) else none
    | some (.scr ns) => some (.nw (.lst ((cutL ns lo hi).map .int)))
    | _ => none) := (rfl)
@[simp] theorem e_un1 (f : Ms → Opd → Option Nv) (A : C Opd) : un1 f A st = bndC A (fun x => fun st => match f st x with
  | some n => some (.ok n, st)
  | none => none) st := (rfl)
@[simp] theorem e_lenF (x : Opd) : lenF st x = (match seqL st x with
  | some ds => some (.d (.int ds.length))
  | none => match dOf st x with
    | some (.tup ds) => some (.d (.int ds.length))
    | some (.str t) => if t.length ≤ LIM then some (.d (.int t.length)) else none
    | some (.scr ns) => some (.d (.int ns.length))
    | _ => none) := (rfl)
@[simp] theorem e_listF (x : Opd) : listF st x = (match seqL st x with
  | some ds => some (.nw (.lst ds))
  | none => match dOf st x with
    | some (.tup ds) => some (.nw (.lst ds))
    | _ => none) := (rfl)
@[simp] theorem e_tupF (x : Opd) : tupF st x = (match seqL st x with
  | some ds => some (.d (.tup ds))
  | none => match dOf st x with
    | some (.tup ds) => some (.d (.tup ds))
    | _ => none) := (rfl)
@[simp] theorem e_absF (x : Opd) : absF st x = (match dOf st x with
  | some (.int i) => some (.d (.int (if i < 0 then -i else i)))
  | _ => none) := (rfl)
@[simp] theorem e_intF (x : Opd) : intF st x = (match dOf st x with
  | some (.int i) => some (.d (.int i))
  | some (.bl b) => some (.d (.int (if b then 1 else 0)))
  | _ => none) := (rfl)
@[simp] theorem e_isiE (ns : List TyN) (A : C Opd) : isiE ns A st = bndC A (fun x => fun st => match tyO st x with
  | some t => some (.ok (.bl (ns.any t.isa)), st)
  | none => none) st := (rfl)
@[simp] theorem e_tyO (x : Opd) : tyO st x = (match seqL st x with
  | some _ => some .list
  | none => match dOf st x with
    | some .non => some .non
    | some (.int _) => some .int
    | some (.bl _) => some .bool
    | some (.str _) => some .str
    | some (.tup _) => some .tuple
    | some (.scr _) => some .list
    | _ => match dicL st x with
      | some _ => some .dict
      | none => none) := (rfl)
@[simp] theorem e_dicLd (ks vs : List D) : dicL st (.d (.dic ks vs)) = some (ks, vs) := (rfl)
-- statements
@[simp] theorem e_skip : skipS st = some (.ok .nx, st) := (rfl)
@[simp] theorem e_seq (a b : Stm) : seqS a b st = bndC a (fun f => match f with
  | .nx => b
  | f => pureC f) st := (rfl)
@[simp] theorem e_asgV (i : Nat) (E : C D) : asgV i E st = bndC E (putV i) st := (rfl)
@[simp] theorem e_putV (i : Nat) (d : D) : putV i d st = (if i < st.env.length then some (.ok .nx, { st with env := st.env.set i (.v d) }) else none) := (rfl)
@[simp] theorem e_asgN (i : Nat) (A : C Nv) : asgN i A st = bndC A (fun n => match n with
  | .d d => putV i d
  | .nw o => fun st => if i < st.env.length then some (.ok .nx, { st with env := st.env.set i (.own o) }) else none) st := (rfl)
@[simp] theorem e_expr (E : C D) : exprS E st = bndC E (fun _ => pureC .nx) st := (rfl)
@[simp] theorem e_ret (E : C D) : retS E st = bndC E (fun d => pureC (.rt d)) st := (rfl)
@[simp] theorem e_retN : retN st = some (.ok (.rt .non), st) := (rfl)
@[simp] theorem e_ifS (c : C Bool) (a b : Stm) : ifS c a b st = bndC c (fun k => match k with
  | true => a
  | false => b) st := (rfl)
@[simp] theorem e_brk : brkS st = some (.ok .bk, st) := (rfl)
@[simp] theorem e_cnt : cntS st = some (.ok .ct, st) := (rfl)
@[simp] theorem e_never : neverS st = none := (rfl)
@[simp] theorem e_asgT (t : Tgt) (E : C D) : asgT t E st = bndC E (fun d => fun st => match setT t d st.env with
  | some env => some (.ok .nx, { st with env := env })
  | none => none) st := (rfl)
@[simp] theorem e_setT1 (i : Nat) (d : D) (env : List Cell) : setT (.one i) d env = some (env.set i (.v d)) := (rfl)
@[simp] theorem e_setTt (is : List Nat) (ds : List D) (env : List Cell) : setT (.all is) (.tup ds) env = if ds.length = is.length then some (setAll is ds env) else none := (rfl)
@[simp] theorem e_setTl (is : List Nat) (ds : List D) (env : List Cell) : setT (.all is) (.lst ds) env = if ds.length = is.length then some (setAll is ds env) else none := (rfl)
@[simp] theorem e_setA0 (env : List Cell) : setAll [] [] env = env := (rfl)
@[simp] theorem e_setA1 (i : Nat) (is : List Nat) (d : D) (ds : List D) (env : List Cell) : setAll (i :: is) (d :: ds) env = setAll is ds (env.set i (.v d)) := (rfl)
@[simp] theorem e_callE (n : Nat) (F : Fn) (Es : C (List D)) : callE n F Es st = bndC Es (fun ds => fun st => if ds.length = n then match F ds st.M with
    | some (.ok d, M') => some (.ok d, { st with M := M' })
    | some (.ex x, M') => some (.ex x, { st with M := M' })
    | none => none
  else none) st := (rfl)
@[simp] theorem e_call0 (F : Fn) : call0 F st = (match F [] st.M with
  | some (.ok d, M') => some (.ok d, { st with M := M' })
  | _ => none) := (rfl)
theorem e_fn (np ns : Nat) (body : Stm) (ds : List D) (M : List MO) : fnC np ns body ds M = (match body ⟨ds.map .v ++ List.replicate (ns - np) .un, M⟩ with
  | some (.ok (.rt d), st') => some (.ok d, st'.M)
  | some (.ok .nx, st') => some (.ok .non, st'.M)
  | some (.ex x, st') => some (.ex x, st'.M)
  | _ => none) := (rfl)
@[simp] theorem e_itD (E : C D) : itD E st = bndC E (fun d => fun st => match seqD st d with
  | some ds => some (.ok ⟨ds.length, getD' d⟩, st)
  | none => match d with
    | .tup ds => some (.ok ⟨ds.length, getD' d⟩, st)
    | .str t => some (.ok ⟨t.length, getD' d⟩, st)
    | .scr ns => some (.ok ⟨ns.length, getD' d⟩, st)
    | _ => none) st := (rfl)
end
/-! loops over data that stand still -/
/-- the loop by its items -/
def forL (t : Tgt) (body : Stm) : List D → Stm
  | [] => fun st => some (.ok .nx, st)
  | d :: ds => fun st => match setT t d st.env with
      | some env => match body { st with env := env } with
        | some (.ok .nx, st2) => forL t body ds st2
        | some (.ok .ct, st2) => forL t body ds st2
        | some (.ok .bk, st2) => some (.ok .nx, st2)
        | some (.ok (.rt d), st2) => some (.ok (.rt d), st2)
        | some (.ex x, st2) => some (.ex x, st2)
        | none => none
      | none => none
theorem forI_list {get : Ms → Nat → Option (Option D)} {t : Tgt} {body : Stm} {ds : List D} (h : ∀ st i, get st i = some ds[i]?) : ∀ (m i : Nat) (st : Ms), ds.length < m + i → i ≤ ds.length → forI get t body m i st = forL t body (ds.drop i) st
  | 0, i, st, hm, hi => by omega
  | m + 1, i, st, hm, hi => by
    unfold forI
    rw [h]
    by_cases hi : i < ds.length
    · rw [List.getElem?_eq_getElem hi, List.drop_eq_getElem_cons hi]
      simp only [forL]
      cases setT t ds[i] st.env with
      | none => rfl
      | some env =>
        simp only
        cases body { st with env := env } with
        | none => rfl
        | some p =>
          obtain ⟨r, st2⟩ := p
          cases r with
          | ex x => rfl
          | ok f =>
            cases f with
            | nx => exact forI_list h m (i + 1) st2 (by omega) (by omega)
            | ct => exact forI_list h m (i + 1) st2 (by omega) (by omega)
            | bk => rfl
            | rt d => rfl
    · rw [List.getElem?_eq_none (by omega), List.drop_eq_nil_of_le (by omega)]
      rfl
@[simp] theorem e_forS (c : C ItV) (t : Tgt) (body : Stm) (st : Ms) : forS c t body st = bndC c (fun iv => forI iv.get t body (iv.n + 1) 0) st := (rfl)
@[simp] theorem e_for_lst (ds : List D) (t : Tgt) (body : Stm) (st : Ms) (m : Nat) (hm : ds.length < m) : forI (getD' (.lst ds)) t body m 0 st = forL t body ds st := by
  rw [forI_list (get := getD' (.lst ds)) (ds := ds) (fun st i => rfl) _ _ _ (by omega) (by omega)]; rfl
@[simp] theorem e_for_tup (ds : List D) (t : Tgt) (body : Stm) (st : Ms) (m : Nat) (hm : ds.length < m) : forI (getD' (.tup ds)) t body m 0 st = forL t body ds st := by
  rw [forI_list (get := getD' (.tup ds)) (ds := ds) (fun st i => rfl) _ _ _ (by omega) (by omega)]; rfl
@[simp] theorem e_for_str (s : List Nat) (t : Tgt) (body : Stm) (st : Ms) (m : Nat) (hm : s.length < m) : forI (getD' (.str s)) t body m 0 st = forL t body (s.map fun c => .str [c]) st := by
  rw [forI_list (get := getD' (.str s)) (ds := s.map fun c => .str [c]) (fun st i => by rw [List.getElem?_map]; rfl) _ _ _ (by simp; omega) (by omega)]; rfl
@[simp] theorem e_for_scr (s : List Int) (t : Tgt) (body : Stm) (st : Ms) (m : Nat) (hm : s.length < m) : forI (getD' (.scr s)) t body m 0 st = forL t body (s.map .int) st := by
  rw [forI_list (get := getD' (.scr s)) (ds := s.map .int) (fun st i => by rw [List.getElem?_map]; rfl) _ _ _ (by simp; omega) (by omega)]; rfl
/-- range's items -/
def rngL (lo : Int) (n : Nat) : List D := (List.range n).map fun (i : Nat) => .int (lo + i)
theorem rngL_get (lo : Int) (n i : Nat) : (rngL lo n)[i]? = if i < n then some (.int (lo + i)) else none := by
  unfold rngL
  rw [List.getElem?_map]
  by_cases h : i < n
  · rw [if_pos h, List.getElem?_range h]; rfl
  · rw [if_neg h, List.getElem?_eq_none (by simpa using h)]; rfl
theorem rngL_len (lo : Int) (n : Nat) : (rngL lo n).length = n := by simp [rngL]
@[simp] theorem e_for_rng (lo : Int) (n : Nat) (t : Tgt) (body : Stm) (st : Ms) (m : Nat) (hm : n < m) : forI (getR lo n) t body m 0 st = forL t body (rngL lo n) st := by
  rw [forI_list (get := getR lo n) (ds := rngL lo n) (fun st i => by rw [rngL_get]; rfl) _ _ _ (by rw [rngL_len]; omega) (by omega)]; rfl
@[simp] theorem e_itR1 (E : C D) (st : Ms) : itR1 E st = bndC E (fun d => fun st => match d with
  | .int n => if rngOk 0 n then some (.ok ⟨n.toNat, getR 0 n.toNat⟩, st) else none
  | _ => none) st := by
  unfold itR1
  rw [e_bnd, e_bnd]
  cases E st with
  | none => rfl
  | some p =>
    obtain ⟨r, st1⟩ := p
    cases r with
    | ex x => rfl
    | ok d =>
      cases d <;> first | rfl | (simp only; split <;> rfl)
@[simp] theorem e_itR2 (E E' : C D) (st : Ms) : itR2 E E' st = bndC E (fun d => bndC E' fun d' => fun st => match d, d' with
  | .int lo, .int hi => if rngOk lo hi then some (.ok ⟨(hi - lo).toNat, getR lo (hi - lo).toNat⟩, st) else none
  | _, _ => none) st := by
  unfold itR2
  rw [e_bnd, e_bnd]
  cases E st with
  | none => rfl
  | some p =>
    obtain ⟨r, st1⟩ := p
    cases r with
    | ex x => rfl
    | ok d =>
      simp only [e_bnd]
      cases E' st1 with
      | none => rfl
      | some p =>
        obtain ⟨r', st2⟩ := p
        cases r' with
        | ex x => rfl
        | ok d' => cases d <;> cases d' <;> first | rfl | (simp only; split <;> rfl)
/-! comprehensions -/
def lcL (t : Tgt) (vs : List Nat) (cond : C Bool) (elt : C D) : List D → List D → C (List D)
  | [], acc => fun st => some (.ok acc, st)
  | d :: ds, acc => fun st => match setT t d (wipeE st.env vs) with
      | some env => match cond { st with env := env } with
        | some (.ok true, st2) => match elt st2 with
          | some (.ok y, st3) => if acc.length < LIM then lcL t vs cond elt ds (acc ++ [y]) st3 else none
          | _ => none
        | some (.ok false, st2) => lcL t vs cond elt ds acc st2
        | _ => none
      | none => none
theorem lcI_list {get : Ms → Nat → Option (Option D)} {t : Tgt} {vs : List Nat} {cond : C Bool} {elt : C D} {ds : List D} (h : ∀ st i, get st i = some ds[i]?) : ∀ (m i : Nat) (acc : List D) (st : Ms), ds.length < m + i → i ≤ ds.length → lcI get t vs cond elt m i acc st = lcL t vs cond elt (ds.drop i) acc st
  | 0, i, acc, st, hm, hi => by omega
  | m + 1, i, acc, st, hm, hi => by
    unfold lcI
    rw [h]
    by_cases hi : i < ds.length
    · rw [List.getElem?_eq_getElem hi, List.drop_eq_getElem_cons hi]
      simp only [lcL]
      cases setT t ds[i] (wipeE st.env vs) with
      | none => rfl
      | some env =>
        simp only
        cases cond { st with env := env } with
        | none => rfl
        | some p =>
          obtain ⟨r, st2⟩ := p
          cases r with
          | ex x => rfl
          | ok f =>
            cases f with
            | false => exact lcI_list h m (i + 1) acc st2 (by omega) (by omega)
            | true =>
              simp only
              cases elt st2 with
              | none => rfl
              | some p =>
                obtain ⟨r, st3⟩ := p
                cases r with
                | ex x => rfl
                | ok y =>
                  simp only
                  rw [lcI_list h m (i + 1) (acc ++ [y]) st3 (by omega) (by omega)]
    · rw [List.getElem?_eq_none (by omega), List.drop_eq_nil_of_le (by omega)]
      rfl
@[simp] theorem e_yes (st : Ms) : yesC st = some (.ok true, st) := (rfl)
@[simp] theorem e_lcE (c : C ItV) (t : Tgt) (vs : List Nat) (cond : C Bool) (elt : C D) (st : Ms) : lcE c t vs cond elt st = bndC c (fun iv => fun st =>
  if vs.all (okV st.env) && tgtIn vs t then
    match lcI iv.get t vs cond elt (iv.n + 1) 0 [] { st with env := wipeE st.env vs } with
    | some (.ok ds, st') => if st'.env.length = st.env.length then some (.ok (.nw (.lst ds)), { st' with env := unwipe st'.env st.env vs }) else none
    | _ => none
  else none) st := (rfl)
@[simp] theorem e_lc_lst (ds : List D) (t : Tgt) (vs : List Nat) (cond : C Bool) (elt : C D) (acc : List D) (st : Ms) (m : Nat) (hm : ds.length < m) : lcI (getD' (.lst ds)) t vs cond elt m 0 acc st = lcL t vs cond elt ds acc st := by
  rw [lcI_list (get := getD' (.lst ds)) (ds := ds) (fun st i => rfl) _ _ _ _ (by omega) (by omega)]; rfl
@[simp] theorem e_lc_tup (ds : List D) (t : Tgt) (vs : List Nat) (cond : C Bool) (elt : C D) (acc : List D) (st : Ms) (m : Nat) (hm : ds.length < m) : lcI (getD' (.tup ds)) t vs cond elt m 0 acc st = lcL t vs cond elt ds acc st := by
  rw [lcI_list (get := getD' (.tup ds)) (ds := ds) (fun st i => rfl) _ _ _ _ (by omega) (by omega)]; rfl
@[simp] theorem e_lc_str (s : List Nat) (t : Tgt) (vs : List Nat) (cond : C Bool) (elt : C D) (acc : List D) (st : Ms) (m : Nat) (hm : s.length < m) : lcI (getD' (.str s)) t vs cond elt m 0 acc st = lcL t vs cond elt (s.map fun c => .str [c]) acc st := by
  rw [lcI_list (get := getD' (.str s)) (ds := s.map fun c => .str [c]) (fun st i => by rw [List.getElem?_map]; rfl) _ _ _ _ (by simp; omega) (by omega)]; rfl
@[simp] theorem e_lc_scr (s : List Int) (t : Tgt) (vs : List Nat) (cond : C Bool) (elt : C D) (acc : List D) (st : Ms) (m : Nat) (hm : s.length < m) : lcI (getD' (.scr s)) t vs cond elt m 0 acc st = lcL t vs cond elt (s.map .int) acc st := by
  rw [lcI_list (get := getD' (.scr s)) (ds := s.map .int) (fun st i => by rw [List.getElem?_map]; rfl) _ _ _ _ (by simp; omega) (by omega)]; rfl
@[simp] theorem e_lc_rng (lo : Int) (n : Nat) (t : Tgt) (vs : List Nat) (cond : C Bool) (elt : C D) (acc : List D) (st : Ms) (m : Nat) (hm : n < m) : lcI (getR lo n) t vs cond elt m 0 acc st = lcL t vs cond elt (rngL lo n) acc st := by
  rw [lcI_list (get := getR lo n) (ds := rngL lo n) (fun st i => by rw [rngL_get]; rfl) _ _ _ _ (by rw [rngL_len]; omega) (by omega)]; rfl
@[simp] theorem e_wipe0 (env : List Cell) : wipeE env [] = env := (rfl)
@[simp] theorem e_wipe1 (env : List Cell) (v : Nat) (vs : List Nat) : wipeE env (v :: vs) = (wipeE env vs).set v .un := (rfl)
@[simp] theorem e_unwipe0 (env old : List Cell) : unwipe env old [] = env := (rfl)
@[simp] theorem e_unwipe1 (env old : List Cell) (v : Nat) (vs : List Nat) : unwipe env old (v :: vs) = (unwipe env old vs).set v (old.getD v .un) := (rfl)
@[simp] theorem e_tgt1 (vs : List Nat) (i : Nat) : tgtIn vs (.one i) = vs.contains i := (rfl)
@[simp] theorem e_tgta (vs is : List Nat) : tgtIn vs (.all is) = is.all fun i => vs.contains i := (rfl)
theorem atI_nn {α : Type} {ds : List α} {i : Int} (h : 0 ≤ i) : atI ds i = ds[i.toNat]? := by
  unfold atI ixN
  rw [if_pos h]
  by_cases h1 : i < ds.length
  · rw [if_pos h1]; rfl
  · rw [if_neg h1, List.getElem?_eq_none (by omega)]; rfl
@[simp] theorem atI_0 {α : Type} (ds : List α) : atI ds 0 = ds[0]? := atI_nn (by decide)
@[simp] theorem atI_2 {α : Type} (ds : List α) : atI ds 2 = ds[2]? := atI_nn (by decide)
@[simp] theorem atI_3 {α : Type} (ds : List α) : atI ds 3 = ds[3]? := atI_nn (by decide)
@[simp] theorem atI_4 {α : Type} (ds : List α) : atI ds 4 = ds[4]? := atI_nn (by decide)
@[simp] theorem atI_5 {α : Type} (ds : List α) : atI ds 5 = ds[5]? := atI_nn (by decide)
@[simp] theorem atI_6 {α : Type} (ds : List α) : atI ds 6 = ds[6]? := atI_nn (by decide)
@[simp] theorem atI_7 {α : Type} (ds : List α) : atI ds 7 = ds[7]? := atI_nn (by decide)
@[simp] theorem atI_8 {α : Type} (ds : List α) : atI ds 8 = ds[8]? := atI_nn (by decide)
@[simp] theorem atI_9 {α : Type} (ds : List α) : atI ds 9 = ds[9]? := atI_nn (by decide)
@[simp] theorem atI_1 {α : Type} (ds : List α) : atI ds 1 = ds[1]? := atI_nn (by decide)
@[simp] theorem atI_nat {α : Type} (ds : List α) (n : Nat) : atI ds (n : Int) = ds[n]? := atI_nn (by omega)
theorem atI_neg {α : Type} {ds : List α} {i : Int} (h : i < 0) (h2 : -(ds.length : Int) ≤ i) : atI ds i = ds[(i + ds.length).toNat]? := by
  unfold atI ixN
  rw [if_neg (by omega), if_pos h2]; rfl
@[simp] theorem leN_iff' (k : Int) (n : Nat) : (leN k n = true) = (k ≤ (n : Int)) := propext (leN_iff k n)
end VL

/-! rules for loops and comprehensions over data -/
namespace VL
open PySem PySem.Spec PyProof.Rows L2
/-- a loop that runs through, or gives back -/
theorem forL_inv {t : Tgt} {body : Stm} {ds : List D} {st : Ms} (I : Nat → Ms → Prop) (Z : Fl → Ms → Prop) (h0 : I 0 st)
    (hs : ∀ (i : Nat) (d : D) (s : Ms), ds[i]? = some d → I i s → ∃ env, setT t d s.env = some env ∧ ∃ f s', body ⟨env, s.M⟩ = some (.ok f, s') ∧ (match f with
      | .nx => I (i + 1) s'
      | .ct => I (i + 1) s'
      | .bk => Z .nx s'
      | .rt r => Z (.rt r) s'))
    (hz : ∀ s, I ds.length s → Z .nx s) : ∃ f s', forL t body ds st = some (.ok f, s') ∧ Z f s' := by
  induction ds generalizing st I with
  | nil => exact ⟨.nx, st, rfl, hz st h0⟩
  | cons d r ih =>
    obtain ⟨env, e1, f, s', e2, q⟩ := hs 0 d st rfl h0
    have go : I 1 s' → ∃ f s2, forL t body r s' = some (.ok f, s2) ∧ Z f s2 := fun h1 =>
      ih (fun i s => I (i + 1) s) h1 (fun i d' s hd hi => hs (i + 1) d' s (by simpa using hd) hi) (fun s h => hz s (by simpa using h))
    cases f with
    | nx =>
      obtain ⟨f, s2, e3, z⟩ := go q
      refine ⟨f, s2, ?_, z⟩
      unfold forL
      simp only [e1, e2, e3]
    | ct =>
      obtain ⟨f, s2, e3, z⟩ := go q
      refine ⟨f, s2, ?_, z⟩
      unfold forL
      simp only [e1, e2, e3]
    | bk =>
      refine ⟨.nx, s', ?_, q⟩
      unfold forL
      simp only [e1, e2]
    | rt d =>
      refine ⟨.rt d, s', ?_, q⟩
      unfold forL
      simp only [e1, e2]
/-- a loop that runs through -/
theorem forL_thru {t : Tgt} {body : Stm} {ds : List D} {st : Ms} (I : Nat → Ms → Prop) (h0 : I 0 st)
    (hs : ∀ (i : Nat) (d : D) (s : Ms), ds[i]? = some d → I i s → ∃ env, setT t d s.env = some env ∧ ∃ s', body ⟨env, s.M⟩ = some (.ok .nx, s') ∧ I (i + 1) s') : ∃ s', forL t body ds st = some (.ok .nx, s') ∧ I ds.length s' := by
  obtain ⟨f, s', e, z⟩ := forL_inv (Z := fun f s => f = .nx ∧ I ds.length s) I h0 (fun i d s hd hi => by
    obtain ⟨env, e1, s', e2, q⟩ := hs i d s hd hi
    exact ⟨env, e1, .nx, s', e2, q⟩) (fun s h => ⟨rfl, h⟩)
  obtain ⟨rfl, z⟩ := z
  exact ⟨s', e, z⟩
/-- one step of it -/
theorem forL_cons {t : Tgt} {body : Stm} {d : D} {ds : List D} {st s' : Ms} {env : List Cell} (h1 : setT t d st.env = some env) (h2 : body ⟨env, st.M⟩ = some (.ok .nx, s')) : forL t body (d :: ds) st = forL t body ds s' := by
  show (match setT t d st.env with
      | some env => _
      | none => none) = _
  rw [h1]
  show (match body ⟨env, st.M⟩ with
        | some (.ok .nx, st2) => forL t body ds st2
        | some (.ok .ct, st2) => forL t body ds st2
        | some (.ok .bk, st2) => some (.ok .nx, st2)
        | some (.ok (.rt d), st2) => some (.ok (.rt d), st2)
        | some (.ex x, st2) => some (.ex x, st2)
        | none => none) = _
  rw [h2]
theorem forL_nil {t : Tgt} {body : Stm} {st : Ms} : forL t body [] st = some (.ok .nx, st) := rfl
theorem lcL_pure {α : Type} {t : Tgt} {vs : List Nat} {cond : C Bool} {elt : C D} (g : α → D) (p : α → Bool) (f : α → D) {e0 : List Cell} {M : List MO} : ∀ {ds : List α} {acc : List D} {env : List Cell}, wipeE env vs = e0 →
    (∀ d ∈ ds, ∃ env1, setT t (g d) e0 = some env1 ∧ wipeE env1 vs = e0 ∧ cond ⟨env1, M⟩ = some (.ok (p d), ⟨env1, M⟩) ∧ (p d = true → elt ⟨env1, M⟩ = some (.ok (f d), ⟨env1, M⟩))) → acc.length + ds.length ≤ LIM →
    ∃ env', lcL t vs cond elt (ds.map g) acc ⟨env, M⟩ = some (.ok (acc ++ (ds.filter p).map f), ⟨env', M⟩) ∧ wipeE env' vs = e0
  | [], acc, env, hw, h, hl => ⟨env, by simp [lcL], hw⟩
  | d :: ds, acc, env, hw, h, hl => by
    obtain ⟨env1, h1, h2, h3, h4⟩ := h d (List.mem_cons_self ..)
    have hr : ∀ d ∈ ds, _ := fun d' hd => h d' (List.mem_cons_of_mem _ hd)
    rw [List.length_cons] at hl
    rw [List.map_cons]
    cases hp : p d with
    | true =>
      obtain ⟨env', q1, q2⟩ := lcL_pure g p f (M := M) (acc := acc ++ [f d]) (env := env1) h2 hr (by rw [List.length_append, List.length_singleton]; omega)
      refine ⟨env', ?_, q2⟩
      unfold lcL
      rw [hp] at h3
      simp only [hw, h1, h3, h4 hp]
      rw [if_pos (by omega), q1, List.filter_cons, if_pos hp]
      simp
    | false =>
      obtain ⟨env', q1, q2⟩ := lcL_pure g p f (M := M) (acc := acc) (env := env1) h2 hr (by omega)
      refine ⟨env', ?_, q2⟩
      unfold lcL
      rw [hp] at h3
      simp only [hw, h1, h3]
      rw [q1, List.filter_cons, if_neg (by simp [hp])]
theorem unwipe_back {env old : List Cell} : ∀ {vs : List Nat}, (∀ i ∈ vs, i < old.length) → wipeE env vs = wipeE old vs → unwipe env old vs = old := by
  intro vs hv h
  have hl : env.length = old.length := by
    have := congrArg List.length h
    rw [wipe_len, wipe_len] at this
    exact this
  apply List.ext_getElem?
  intro i
  by_cases hi : i ∈ vs
  · rw [unwipe_hit hi (by rw [hl]; exact hv i hi), List.getD_eq_getElem?_getD, List.getElem?_eq_getElem (hv i hi)]
    rfl
  · rw [unwipe_get hi]
    have := congrArg (fun l => l[i]?) h
    have this : (wipeE env vs)[i]? = (wipeE old vs)[i]? := this
    rw [wipe_get hi, wipe_get hi] at this
    exact this
/-- a comprehension that changes nothing -/
theorem lc_pure {α : Type} {c : C ItV} {iv : ItV} {t : Tgt} {vs : List Nat} {cond : C Bool} {elt : C D} {st : Ms} (ds : List α) (g : α → D) (p : α → Bool) (f : α → D) (hc : c st = some (.ok iv, st))
    (hi : ∀ acc s, lcI iv.get t vs cond elt (iv.n + 1) 0 acc s = lcL t vs cond elt (ds.map g) acc s) (hv : (vs.all (okV st.env) && tgtIn vs t) = true) (lt : ∀ i ∈ vs, i < st.env.length) (hl : ds.length ≤ LIM)
    (h : ∀ d ∈ ds, ∃ env1, setT t (g d) (wipeE st.env vs) = some env1 ∧ wipeE env1 vs = wipeE st.env vs ∧ cond ⟨env1, st.M⟩ = some (.ok (p d), ⟨env1, st.M⟩) ∧ (p d = true → elt ⟨env1, st.M⟩ = some (.ok (f d), ⟨env1, st.M⟩))) :
    lcE c t vs cond elt st = some (.ok (.nw (.lst ((ds.filter p).map f))), st) := by
  have ww : wipeE (wipeE st.env vs) vs = wipeE st.env vs := by
    apply List.ext_getElem?
    intro i
    by_cases hi : i ∈ vs
    · rw [wipe_hit hi (by rw [wipe_len]; exact lt i hi), wipe_hit hi (lt i hi)]
    · rw [wipe_get hi]
  obtain ⟨env', q1, q2⟩ := lcL_pure (acc := []) (M := st.M) g p f ww h (by simpa using hl)
  have hlen : env'.length = st.env.length := by
    have := congrArg List.length q2
    rw [wipe_len, wipe_len] at this
    exact this
  rw [e_lcE, e_bnd, hc]
  simp only
  rw [if_pos hv, hi, q1]
  simp only
  rw [if_pos hlen, unwipe_back lt q2]
  simp
theorem lc_map {α : Type} {c : C ItV} {iv : ItV} {t : Tgt} {vs : List Nat} {elt : C D} {st : Ms} (ds : List α) (g f : α → D) (hc : c st = some (.ok iv, st))
    (hi : ∀ acc s, lcI iv.get t vs yesC elt (iv.n + 1) 0 acc s = lcL t vs yesC elt (ds.map g) acc s) (hv : (vs.all (okV st.env) && tgtIn vs t) = true) (lt : ∀ i ∈ vs, i < st.env.length) (hl : ds.length ≤ LIM)
    (h : ∀ d ∈ ds, ∃ env1, setT t (g d) (wipeE st.env vs) = some env1 ∧ wipeE env1 vs = wipeE st.env vs ∧ elt ⟨env1, st.M⟩ = some (.ok (f d), ⟨env1, st.M⟩)) :
    lcE c t vs yesC elt st = some (.ok (.nw (.lst (ds.map f))), st) := by
  have e := lc_pure (cond := yesC) ds g (fun _ => true) f hc hi hv lt hl fun d hd => by
    obtain ⟨env1, h1, h2, h3⟩ := h d hd
    exact ⟨env1, h1, h2, rfl, fun _ => h3⟩
  rw [List.filter_eq_self.mpr (by simp)] at e
  exact e
end VL

/-! more steps for simp; words about data -/
namespace VL
open PySem PySem.Spec PyProof.Rows L2
section
variable {α : Type} {st : Ms}
@[simp] theorem e_upOb (n : Nat) : upO st (.d (.ob n)) = (match st.M[n]? with
    | some o => some (o, fun o' => { st with M := st.M.set n o' })
    | none => none) := (rfl)
@[simp] theorem e_upOc (i : Nat) : upO st (.cell i) = (match st.env[i]? with
    | some (.own o) => some (o, fun o' => { st with env := st.env.set i (.own o') })
    | _ => none) := (rfl)
@[simp] theorem e_mutC (f : List D → Option (D × List D)) (x : Opd) : mutC f x st = (match upO st x with
  | some (.lst ds, k) => match f ds with
    | some (d, ds') => some (.ok d, k (.lst ds'))
    | none => none
  | _ => none) := (rfl)
@[simp] theorem e_appF (d : D) (ds : List D) : appF d ds = (if ds.length < LIM then some (.non, ds ++ [d]) else none) := (rfl)
@[simp] theorem e_extF (es ds : List D) : extF es ds = (if ds.length + es.length ≤ LIM then some (.non, ds ++ es) else none) := (rfl)
@[simp] theorem e_popF (ds : List D) : popF ds = (match ds[ds.length - 1]? with
  | some d => some (d, ds.dropLast)
  | none => none) := (rfl)
@[simp] theorem e_clrF (ds : List D) : clrF ds = some (.non, []) := (rfl)
@[simp] theorem e_lstC (x : Opd) (c : C α) : lstC x c st = (match seqL st x with
  | some _ => c st
  | none => none) := (rfl)
@[simp] theorem e_appE (A : C Opd) (E : C D) : appE A E st = bndC A (fun x => lstC x (bndC E fun d => mutC (appF d) x)) st := (rfl)
@[simp] theorem e_extE (A A' : C Opd) : extE A A' st = bndC A (fun x => lstC x (bndC A' fun y => fun st => match seqL st y with
  | some es => mutC (extF es) x st
  | none => none)) st := (rfl)
@[simp] theorem e_popE (A : C Opd) : popE A st = bndC A (fun x => lstC x (mutC popF x)) st := (rfl)
@[simp] theorem e_clrE (A : C Opd) : clrE A st = bndC A (fun x => lstC x (mutC clrF x)) st := (rfl)
@[simp] theorem e_setF (k : Int) (d : D) (ds : List D) : setF k d ds = (match ixN ds.length k with
  | some j => some (.non, ds.set j d)
  | none => none) := (rfl)
@[simp] theorem e_sputS (E : C D) (A : C Opd) (I : C D) : sputS E A I st = bndC E (fun d => bndC A fun x => bndC I fun i => match i with
  | .int k => bndC (mutC (setF k d) x) fun _ => pureC .nx
  | _ => failC) st := (rfl)
theorem ixN_nn {n : Nat} {i : Int} (h : 0 ≤ i) (h2 : i < n) : ixN n i = some i.toNat := by
  unfold ixN
  rw [if_pos h, if_pos h2]
@[simp] theorem ixN_nat (n k : Nat) : ixN n (k : Int) = if k < n then some k else none := by
  unfold ixN
  rw [if_pos (by omega)]
  by_cases h : k < n
  · rw [if_pos (by omega), if_pos h]; rfl
  · rw [if_neg (by omega), if_neg h]
@[simp] theorem ixN_0 (n : Nat) : ixN n 0 = if 0 < n then some 0 else none := ixN_nat n 0
@[simp] theorem ixN_2 (n : Nat) : ixN n 2 = if 2 < n then some 2 else none := ixN_nat n 2
@[simp] theorem ixN_3 (n : Nat) : ixN n 3 = if 3 < n then some 3 else none := ixN_nat n 3
@[simp] theorem ixN_4 (n : Nat) : ixN n 4 = if 4 < n then some 4 else none := ixN_nat n 4
@[simp] theorem ixN_5 (n : Nat) : ixN n 5 = if 5 < n then some 5 else none := ixN_nat n 5
@[simp] theorem ixN_6 (n : Nat) : ixN n 6 = if 6 < n then some 6 else none := ixN_nat n 6
@[simp] theorem ixN_7 (n : Nat) : ixN n 7 = if 7 < n then some 7 else none := ixN_nat n 7
@[simp] theorem ixN_8 (n : Nat) : ixN n 8 = if 8 < n then some 8 else none := ixN_nat n 8
@[simp] theorem ixN_9 (n : Nat) : ixN n 9 = if 9 < n then some 9 else none := ixN_nat n 9
@[simp] theorem ixN_1 (n : Nat) : ixN n 1 = if 1 < n then some 1 else none := ixN_nat n 1
@[simp] theorem e_allF (x : Opd) : allF st x = (match seqL st x with
  | some ds => (blsOf ds).map fun bs => .d (.bl (bs.all id))
  | none => none) := (rfl)
@[simp] theorem e_anyF (x : Opd) : anyF st x = (match seqL st x with
  | some ds => (blsOf ds).map fun bs => .d (.bl (bs.any id))
  | none => none) := (rfl)
@[simp] theorem e_sumF (x : Opd) : sumF st x = (match seqL st x with
  | some ds => (intsOf ds).map fun ns => .d (.int ns.sum)
  | none => none) := (rfl)
@[simp] theorem e_sortedF (x : Opd) : sortedF st x = (match seqL st x with
  | some ds => (intsOf ds).map fun ns => .nw (.lst ((sortI ns).map .int))
  | none => none) := (rfl)
@[simp] theorem e_revF (x : Opd) : revF st x = (match seqL st x with
  | some ds => some (.nw (.lst ds.reverse))
  | none => match dOf st x with
    | some (.scr ns) => some (.nw (.lst ((ns.map D.int).reverse)))
    | _ => none) := (rfl)
@[simp] theorem e_notInF (x y : Opd) : notInF st x y = (inF st x y).map (!·) := (rfl)
theorem flat_ints (ns : List Int) : (ns.map D.int).all flatD = true := by simp [flatD]
theorem in_ints {x y : Opd} {i : Int} {ns : List Int} (h1 : dOf st x = some (.int i)) (h2 : seqT st y = some (ns.map .int)) : inF st x y = some (decide (i ∈ ns)) := by
  unfold inF
  rw [h1, h2]
  simp only
  rw [if_pos ⟨rfl, flat_ints ns⟩]
  congr 1
  rw [Bool.eq_iff_iff]
  simp [eqD]
@[simp] theorem e_modF (i j : Int) : modF i j = (if 0 < j then some (i % j) else none) := (rfl)
@[simp] theorem e_divF (i j : Int) : divF i j = (if 0 < j ∧ j.natAbs.log2 < 9000 then some (i / j) else none) := (rfl)
@[simp] theorem e_powF (i j : Int) : powF i j = (if 0 ≤ j ∧ leN j 1000000 = true ∧ i.natAbs < 2 ^ 64 then some (i ^ j.toNat) else none) := (rfl)
@[simp] theorem e_shrF (i j : Int) : shrF i j = (if 0 ≤ j then some (i / 2 ^ j.toNat) else none) := (rfl)
@[simp] theorem isa_ii : TyD.isa .int .int = true := (rfl)
@[simp] theorem isa_ib : TyD.isa .int .bool = false := (rfl)
@[simp] theorem isa_is : TyD.isa .int .str = false := (rfl)
@[simp] theorem isa_il : TyD.isa .int .list = false := (rfl)
@[simp] theorem isa_it : TyD.isa .int .tuple = false := (rfl)
@[simp] theorem isa_id : TyD.isa .int .dict = false := (rfl)
@[simp] theorem isa_bi : TyD.isa .bool .int = true := (rfl)
@[simp] theorem isa_bb : TyD.isa .bool .bool = true := (rfl)
@[simp] theorem isa_bs : TyD.isa .bool .str = false := (rfl)
@[simp] theorem isa_bL : TyD.isa .bool .list = false := (rfl)
@[simp] theorem isa_bt : TyD.isa .bool .tuple = false := (rfl)
@[simp] theorem isa_si : TyD.isa .str .int = false := (rfl)
@[simp] theorem isa_sb : TyD.isa .str .bool = false := (rfl)
@[simp] theorem isa_ss : TyD.isa .str .str = true := (rfl)
@[simp] theorem isa_sl : TyD.isa .str .list = false := (rfl)
@[simp] theorem isa_st : TyD.isa .str .tuple = false := (rfl)
@[simp] theorem isa_li : TyD.isa .list .int = false := (rfl)
@[simp] theorem isa_lb : TyD.isa .list .bool = false := (rfl)
@[simp] theorem isa_ls : TyD.isa .list .str = false := (rfl)
@[simp] theorem isa_ll : TyD.isa .list .list = true := (rfl)
@[simp] theorem isa_lt : TyD.isa .list .tuple = false := (rfl)
@[simp] theorem isa_ti : TyD.isa .tuple .int = false := (rfl)
@[simp] theorem isa_tb : TyD.isa .tuple .bool = false := (rfl)
@[simp] theorem isa_ts : TyD.isa .tuple .str = false := (rfl)
@[simp] theorem isa_tl : TyD.isa .tuple .list = false := (rfl)
@[simp] theorem isa_tt : TyD.isa .tuple .tuple = true := (rfl)
@[simp] theorem isa_ni (t : TyN) : TyD.isa .non t = false := by cases t <;> rfl
end
/-! ### data that == reads -/
theorem log2_le {i : Int} {k : Nat} (h : i.natAbs < 2 ^ (k + 1)) : i.natAbs.log2 ≤ k := by
  by_cases h0 : i.natAbs = 0
  · rw [h0]; simp
  · have := (Nat.log2_lt h0).mpr h
    omega
def Cell.ok : Cell → Bool
  | .own _ => false
  | _ => true
@[simp] theorem ok_un : Cell.ok .un = true := (rfl)
@[simp] theorem ok_v (d : D) : Cell.ok (.v d) = true := (rfl)
@[simp] theorem e_okV (env : List Cell) (i : Nat) : okV env i = (match env[i]? with
  | some c => c.ok
  | none => true) := by
  unfold okV
  cases env[i]? with
  | none => rfl
  | some c => cases c <;> rfl
section
variable {α : Type} {st : Ms}
@[simp] theorem e_sortedDF (x : Opd) : sortedDF st x = (match dicL st x with
  | some (ks, _) => match intsOf ks with
    | some ns => if ns.length < 64 then some (.nw (.lst ((sortI ns).map .int))) else none
    | none => none
  | none => sortedF st x) := (rfl)
@[simp] theorem e_listDF (x : Opd) : listDF st x = (match dicL st x with
  | some (ks, _) => some (.nw (.lst ks))
  | none => listF st x) := (rfl)
@[simp] theorem e_dicLd' (d : D) : dicL st (.d d) = dicD st d := (rfl)
@[simp] theorem e_dicLc (i : Nat) : dicL st (.cell i) = (match st.env[i]? with
    | some (.own (.dic ks vs)) => some (ks, vs)
    | some (.v d) => dicD st d
    | _ => none) := (rfl)
@[simp] theorem e_dicD_lst (ds : List D) : dicD st (.lst ds) = none := (rfl)
@[simp] theorem e_dicD_tup (ds : List D) : dicD st (.tup ds) = none := (rfl)
@[simp] theorem e_dicD_int (i : Int) : dicD st (.int i) = none := (rfl)
@[simp] theorem e_dicD_str (t : List Nat) : dicD st (.str t) = none := (rfl)
@[simp] theorem e_dicD_dic (ks vs : List D) : dicD st (.dic ks vs) = some (ks, vs) := (rfl)
@[simp] theorem e_dicD_ob (n : Nat) : dicD st (.ob n) = (match st.M[n]? with
    | some (.dic ks vs) => some (ks, vs)
    | _ => none) := (rfl)
@[simp] theorem e_dgE (A : C Opd) (E : C D) : dgE A E st = bndC A (fun x => bndC E fun k => fun st => match dicL st x with
  | some (ks, vs) => match isKey k, dLook ks vs k with
    | true, some d => some (.ok d, st)
    | _, _ => none
  | none => none) st := (rfl)
@[simp] theorem e_inDF (x y : Opd) : inDF st x y = (match dOf st x, dicL st y with
  | some k, some (ks, _) => if isKey k = true then some (ks.any fun z => keyEq z k) else none
  | _, _ => none) := (rfl)
@[simp] theorem e_notInDF (x y : Opd) : notInDF st x y = (inDF st x y).map (!·) := (rfl)
@[simp] theorem e_isKey_i (i : Int) : isKey (.int i) = true := (rfl)
@[simp] theorem e_isKey_s (t : List Nat) : isKey (.str t) = true := (rfl)
@[simp] theorem e_putDC (k d : D) (x : Opd) : putDC k d x st = (match upO st x with
  | some (.dic ks vs, f) => if isKey k = true ∧ ks.length < LIM then some (.ok .nx, f (.dic (dPutK ks k) (dPutV ks vs k d))) else none
  | _ => none) := (rfl)
@[simp] theorem e_dputS (E : C D) (A : C Opd) (I : C D) : dputS E A I st = bndC E (fun d => bndC A fun x => bndC I fun k => putDC k d x) st := (rfl)
@[simp] theorem e_nilK : nilK st = some (.ok ([], []), st) := (rfl)
@[simp] theorem e_consK (E E' : C D) (r : C (List D × List D)) : consK E E' r st = bndC E (fun k => bndC E' fun v => bndC r fun p => pureC (k :: p.1, v :: p.2)) st := (rfl)
@[simp] theorem e_dispE (r : C (List D × List D)) : dispE r st = bndC r (fun p => if p.1.all isKey = true ∧ p.1.length ≤ 15 then pureC (.nw (.dic (mergeD ([], []) p.1 p.2).1 (mergeD ([], []) p.1 p.2).2)) else failC) st := (rfl)
@[simp] theorem e_dnewE : dnewE st = some (.ok (.nw (.dic [] [])), st) := (rfl)
@[simp] theorem e_max2 (i j : Int) : max2F i j = some (if j > i then j else i) := (rfl)
@[simp] theorem e_min2 (i j : Int) : min2F i j = some (if j < i then j else i) := (rfl)
@[simp] theorem e_indexE (A : C Opd) (E : C D) : indexE A E st = bndC A (fun x => lstC x (bndC E fun k => fun st => match seqL st x, k with
  | some ds, .int i => match intsOf ds with
    | some ns => match ns.findIdx? fun z => decide (z = i) with
      | some j => some (.ok (.int (j : Nat)), st)
      | none => none
    | none => none
  | _, _ => none)) st := (rfl)
@[simp] theorem e_countE (A : C Opd) (E : C D) : countE A E st = bndC A (fun x => lstC x (bndC E fun k => fun st => match seqL st x, k with
  | some ds, .int i => match intsOf ds with
    | some ns => some (.ok (.int (ns.count i : Nat)), st)
    | none => none
  | _, _ => none)) st := (rfl)
@[simp] theorem e_bigE (cs : List (List Nat × List Nat)) : bigE cs st = some (.ok (.nw (.dic (cs.map fun c => .str c.1) (cs.map fun c => .str c.2))), st) := (rfl)
@[simp] theorem e_joinF (s : List Nat) (x : Opd) : joinF s x st = (match seqL st x with
  | some ds => match strsOf ds with
    | some ts => if (ts.map List.length).sum + ts.length * s.length ≤ LIM then some (.ok (.str (joinS s ts)), st) else none
    | none => none
  | none => none) := (rfl)
@[simp] theorem e_joinE (E : C D) (A : C Opd) : joinE E A st = bndC E (fun a => match a with
  | .str s => bndC A fun x => joinF s x
  | _ => failC) st := (rfl)
@[simp] theorem e_listTF (x : Opd) : listTF st x = (match dOf st x with
  | some (.str t) => if t.length ≤ LIM then some (.nw (.lst (t.map fun c => .str [c]))) else none
  | _ => listDF st x) := (rfl)
@[simp] theorem e_dicC (x : Opd) (c : C α) : dicC x c st = (match dicL st x with
  | some _ => c st
  | none => none) := (rfl)
@[simp] theorem e_dgetC (x : Opd) (k d : D) : dgetC x k d st = (match dicL st x with
  | some (ks, vs) => if isKey k = true then some (.ok ((dLook ks vs k).getD d), st) else none
  | none => none) := (rfl)
@[simp] theorem e_dgt1E (A : C Opd) (E : C D) : dgt1E A E st = bndC A (fun x => dicC x (bndC E fun k => dgetC x k .non)) st := (rfl)
@[simp] theorem e_dgt2E (A : C Opd) (E E' : C D) : dgt2E A E E' st = bndC A (fun x => dicC x (bndC E fun k => bndC E' fun d => dgetC x k d)) st := (rfl)
@[simp] theorem e_dupdE (A A' : C Opd) : dupdE A A' st = bndC A (fun x => dicC x (bndC A' fun y => fun st => match y with
  | .d (.dic ks2 vs2) => (match upO st x with
    | some (.dic ks vs, f) => if ks.length + ks2.length ≤ LIM then some (.ok .non, f (.dic (mergeD (ks, vs) ks2 vs2).1 (mergeD (ks, vs) ks2 vs2).2)) else none
    | _ => none)
  | _ => none)) st := (rfl)
@[simp] theorem e_lrgC (lo hi : Int) : lrgC lo hi st = (if rngOk lo hi = true ∧ (hi - lo).toNat ≤ LIM then some (.ok (.nw (.lst (rngL lo (hi - lo).toNat))), st) else none) := (rfl)
@[simp] theorem e_lrg1E (E : C D) : lrg1E E st = bndC E (fun d => match d with
  | .int n => lrgC 0 n
  | _ => failC) st := (rfl)
end
end VL

/-! dicts whose keys are tuples of numbers and texts -/
namespace VL
open PySem PySem.Spec PyProof.Rows L2
abbrev KL := List L2.Key
def keysEq : List D → List D → Bool
  | [], [] => true
  | x :: xs, y :: ys => keyEq x y && keysEq xs ys
  | _, _ => false
def tkEq : D → D → Bool
  | .tup xs, .tup ys => keysEq xs ys
  | _, _ => false
def isTK : D → Bool
  | .tup xs => xs.all isKey
  | _ => false
def ktD (k : KL) : D := .tup (k.map keyD)
def tLook : List D → List D → D → Option D
  | k :: ks, v :: vs, d => if tkEq k d = true then some v else tLook ks vs d
  | _, _, _ => none
def tPutK (ks : List D) (k : D) : List D := if (ks.any fun x => tkEq x k) = true then ks else ks ++ [k]
def tRepl : List D → List D → D → D → List D
  | x :: ks, w :: vs, k, v => (if tkEq x k = true then v else w) :: tRepl ks vs k v
  | _, vs, _, _ => vs
def tPutV (ks vs : List D) (k v : D) : List D := if (ks.any fun x => tkEq x k) = true then tRepl ks vs k v else vs ++ [v]
theorem keysEq_iff : ∀ a b : KL, keysEq (a.map keyD) (b.map keyD) = decide (a = b)
  | [], [] => by simp [keysEq]
  | [], _ :: _ => by simp [keysEq]
  | _ :: _, [] => by simp [keysEq]
  | x :: a, y :: b => by
    rw [List.map_cons, List.map_cons, keysEq, keyEq_iff, keysEq_iff a b]
    by_cases h1 : x = y
    · by_cases h2 : a = b
      · simp [h1, h2]
      · simp [h1, h2]
    · simp [h1]
theorem tkEq_iff (a b : KL) : tkEq (ktD a) (ktD b) = decide (a = b) := keysEq_iff a b
section
variable {K : PySem.W.Frag} {G : Hp} {R : List Addr}
theorem tkeys_rep : ∀ {vs : List V} {ds : List D}, RepA K G R vs ds → ds.all isKey = true → ∃ k : KL, vs = k.map kV ∧ ds = k.map keyD
  | _, _, .nil, _ => ⟨[], rfl, rfl⟩
  | _, _, .cons a t, h => by
    rw [List.all_cons, Bool.and_eq_true] at h
    obtain ⟨x, e1, e2⟩ := isKey_rep a h.1
    obtain ⟨k, f1, f2⟩ := tkeys_rep t h.2
    exact ⟨x :: k, by rw [e1, f1]; rfl, by rw [e2, f2]; rfl⟩
theorem isTK_rep {v : V} {d : D} (h : RepV K G R v d) (k : isTK d = true) : ∃ (b : Addr) (x : KL), v = .ref b ∧ G b = some (.tup (x.map kV)) ∧ d = ktD x := by
  cases h with
  | tup h1 h2 =>
    obtain ⟨x, rfl, rfl⟩ := tkeys_rep h2 k
    exact ⟨_, x, rfl, h1, rfl⟩
  | _ => cases k
theorem tLook_ok {x : KL} : ∀ {kvs : List (KL × V)} {vs : List D}, RepA K G R (kvs.map (·.2)) vs → ∃ o : Option V, valV kvs x = o ∧ (match tLook (kvs.map fun p => ktD p.1) vs (ktD x) with
    | some d => ∃ v, o = some v ∧ RepV K G R v d
    | none => o = none)
  | [], vs, h => by cases h; exact ⟨none, rfl, rfl⟩
  | p :: kvs, vs, h => by
    cases h with
    | cons h t =>
      obtain ⟨o, e1, e2⟩ := tLook_ok (x := x) t
      rw [List.map_cons, tLook, tkEq_iff]
      by_cases hp : p.1 = x
      · rw [decide_eq_true hp, if_pos rfl]
        exact ⟨_, valV_pos hp, _, rfl, h⟩
      · rw [decide_eq_false hp, if_neg Bool.false_ne_true]
        exact ⟨o, by rw [valV_neg hp, e1], e2⟩
theorem any_tkey (x : KL) (kvs : List (KL × V)) : ((kvs.map fun p => ktD p.1).any fun d => tkEq d (ktD x)) = (kvs.any fun kv => decide (kv.1 = x)) := by
  rw [List.any_map]
  congr 1
  funext p
  exact tkEq_iff p.1 x
theorem tRepl_ok {x : KL} {v : V} {d : D} (hv : RepV K G R v d) : ∀ {kvs : List (KL × V)} {vs : List D}, RepA K G R (kvs.map (·.2)) vs → RepA K G R ((kvs.map fun kv => if kv.1 = x then (kv.1, v) else kv).map (·.2)) (tRepl (kvs.map fun p => ktD p.1) vs (ktD x) d)
  | [], vs, h => by cases h; exact .nil
  | p :: kvs, vs, h => by
    cases h with
    | cons h t =>
      rw [List.map_cons, List.map_cons, List.map_cons, tRepl, tkEq_iff]
      by_cases hp : p.1 = x
      · rw [decide_eq_true hp, if_pos rfl, if_pos hp]
        exact .cons hv (tRepl_ok hv t)
      · rw [decide_eq_false hp, if_neg Bool.false_ne_true, if_neg hp]
        exact .cons h (tRepl_ok hv t)
theorem tPut_ok {x : KL} {v : V} {d : D} {kvs : List (KL × V)} {vs : List D} (hv : RepV K G R v d) (h : RepA K G R (kvs.map (·.2)) vs) :
    tPutK (kvs.map fun p => ktD p.1) (ktD x) = (putK kvs x v).map (fun p => ktD p.1) ∧ RepA K G R ((putK kvs x v).map (·.2)) (tPutV (kvs.map fun p => ktD p.1) vs (ktD x) d) := by
  unfold tPutK tPutV putK
  rw [any_tkey]
  split
  · refine ⟨?_, tRepl_ok hv h⟩
    rw [List.map_map]
    congr 1
    funext p
    simp only [Function.comp]
    split <;> rfl
  · refine ⟨?_, ?_⟩
    · rw [List.map_append]; rfl
    · rw [List.map_append]
      exact h.append (.cons hv .nil)
end
/-! ### what an operand shows -/
def ditD (st : Ms) : D → Option (List D × List D)
  | .dit ks vs => some (ks, vs)
  | .ob n => match st.M[n]? with
    | some (.dit ks vs) => some (ks, vs)
    | _ => none
  | _ => none
def ditL (st : Ms) : Opd → Option (List D × List D)
  | .d d => ditD st d
  | .cell i => match st.env[i]? with
    | some (.own (.dit ks vs)) => some (ks, vs)
    | some (.v d) => ditD st d
    | _ => none
section
variable {K : PySem.W.Frag} {cl : CL} {B : Base} {st : Ms} {G H : Hp} {R : List Addr} {σ : L2.St} {v : V} {od : Opd} {d : D} {ds ks vs : List D}
theorem ditD_ok (r : Rel K cl B st G R σ H) (h : RepV K G R v d) (e : ditD st d = some (ks, vs)) : ∃ a kvs, v = .ref a ∧ H a = some (.dT kvs) ∧ ks = kvs.map (fun p => ktD p.1) ∧ RepA K G R (kvs.map (·.2)) vs := by
  cases h with
  | dit h1 h2 h3 => cases e; exact ⟨_, _, rfl, r.m.same _ _ h1, h2, h3⟩
  | ob h1 =>
    rename_i a n
    unfold ditD at e
    simp only at e
    split at e
    · rename_i ks' vs' h2
      cases e
      obtain ⟨_, kvs, q1, q2, q3⟩ := r.m.sh n _ a h2 h1
      exact ⟨a, kvs, rfl, q1, q2, q3⟩
    · cases e
  | _ => cases e
theorem ditL_ok (r : Rel K cl B st G R σ H) (h : RepOp K G R σ v od) (e : ditL st od = some (ks, vs)) : ∃ a kvs, v = .ref a ∧ H a = some (.dT kvs) ∧ ks = kvs.map (fun p => ktD p.1) ∧ RepA K G R (kvs.map (·.2)) vs := by
  cases od with
  | d d => exact ditD_ok r h e
  | cell i =>
    unfold ditL at e
    simp only at e
    split at e
    · rename_i ks' vs' h2
      cases e
      obtain ⟨a, q1, q2, q3, q4, kvs, q5, q6, q7⟩ := r.own i _ h2
      have h : σ[i]? = some (some v) := h
      rw [q1] at h; cases h
      exact ⟨a, kvs, rfl, q5, q6, q7⟩
    · rename_i d h2
      obtain ⟨v', q1, q2⟩ := r.val i _ h2
      have h : σ[i]? = some (some v) := h
      rw [q1] at h; cases h
      exact ditD_ok r q2 e
    · cases e
end
/-! ### reading -/
def tgE (A : C Opd) (E : C D) : C D := bndC A fun x => bndC E fun k => fun st => match ditL st x with
  | some (ks, vs) => match isTK k, tLook ks vs k with
    | true, some d => some (.ok d, st)
    | _, _ => none
  | none => none
def inTF (st : Ms) (x y : Opd) : Option Bool := match dOf st x, ditL st y with
  | some k, some (ks, _) => if isTK k = true then some (ks.any fun z => tkEq z k) else none
  | _, _ => none
def notInTF (st : Ms) (x y : Opd) : Option Bool := (inTF st x y).map (!·)
section
variable {X : Cx} {cl : CL} {W : WX} {B : Base} {st : Ms} {G G' H : Hp} {R R' : List Addr} {σ : L2.St}
variable {a b c e : Expr} {A A' : C Opd} {E E' : C D} {pos apos cpos : Pos}
theorem se_tg (hu : X.A.units + 1 < cLine) (ha : PE X a (TO' X.K cl W A)) (hb : PE X b (TU X.K cl W E)) (hs : NoSl b := by exact fun _ _ => rfl) : PE X (.Subscript a b pos) (TU X.K cl W (tgE A E)) := by
  refine pe_imp (pe_dget hu ha hb hs) fun σ H Q h => ?_
  obtain ⟨B, st, G, R, rel, run⟩ := h
  refine ⟨B, st, G, R, rel, run.bind.mono fun x st1 G1 R1 H1 _ _ _ _ ⟨rel1, _, _, run1⟩ v rv => ?_⟩
  refine ⟨B, st1, G1, R1, rel1, run1.bind.mono fun y st2 G2 R2 H2 _ g r _ ⟨rel2, _, _, run2⟩ w rw => ?_⟩
  try simp only at run2
  split at run2
  · rename_i ks vs e1
    split at run2
    · rename_i d ek e2
      obtain ⟨p, kvs, rfl, h1, h2, h3⟩ := ditL_ok rel2 (rv.mono g r) e1
      obtain ⟨q, k, rfl, hk, rfl⟩ := isTK_rep rw ek
      obtain ⟨o, q1, q2⟩ := tLook_ok (x := k) h3
      rw [h2] at e2
      rw [e2] at q2
      obtain ⟨z, rfl, q4⟩ := q2
      exact ⟨p, z, rfl, .inr ⟨kvs, k, q, .inl h1, rfl, rel2.m.same _ _ hk, q1.symm⟩, run2.done rel2 z q4⟩
    · exact run2.elim
  · exact run2.elim
theorem inT_read {neg : Bool} {x y : V} {dx dy : Opd} {k : Bool} (rel : Rel X.K cl B st G R σ H) (hx : RepOp X.K G R σ x dx) (hy : RepOp X.K G R σ y dy) (e : inTF st dx dy = some k) : ∃ a o, y = .ref a ∧ DGet H a x o ∧ o.isSome = k := by
  unfold inTF at e
  split at e
  · rename_i d ks vs e1 e2
    split at e
    · rename_i hk
      cases e
      obtain ⟨p, kvs, rfl, h1, h2, h3⟩ := ditL_ok rel hy e2
      obtain ⟨q, z, rfl, hz, rfl⟩ := isTK_rep (dOf_ok rel hx e1) hk
      refine ⟨p, _, rfl, .inr ⟨kvs, z, q, .inl h1, rfl, rel.m.same _ _ hz, rfl⟩, ?_⟩
      rw [h2, any_tkey, valV_any]
    · cases e
  · cases e
theorem st_cmpT (hu : X.A.units + 1 < cLine) (ha : PE X a (TO' X.K cl W A)) (hb : PE X b (TO' X.K cl W A')) (hm : behindInMarks .In b = false := by rfl) : PT X (.Compare a [.In] [b] pos) (TUT X.K cl W (cmp2 inTF A A')) := by
  refine pt_imp (pt_cmp (pc_din hu ha hb) hm) fun σ H Q h => ?_
  refine TO_imp (inD_te (neg := false) h) fun x H1 h1 => TO_imp h1 fun y H2 h2 => ?_
  obtain ⟨B, st, G, R, dx, dy, k, rel, rx, ry, e, q⟩ := h2
  obtain ⟨p, o, rfl, g, eo⟩ := inT_read (neg := false) rel rx ry e
  exact ⟨p, o, rfl, g, _, rfl, by rw [eo]; exact q⟩
theorem st_cmpTn (hu : X.A.units + 1 < cLine) (ha : PE X a (TO' X.K cl W A)) (hb : PE X b (TO' X.K cl W A')) (hm : behindInMarks .NotIn b = false := by rfl) : PT X (.Compare a [.NotIn] [b] pos) (TUT X.K cl W (cmp2 notInTF A A')) := by
  refine pt_imp (pt_cmp (pc_dnotin hu ha hb) hm) fun σ H Q h => ?_
  refine TO_imp (inD_te (neg := false) h) fun x H1 h1 => TO_imp h1 fun y H2 h2 => ?_
  obtain ⟨B, st, G, R, dx, dy, k, rel, rx, ry, e, q⟩ := h2
  unfold notInTF at e
  obtain ⟨k', e0, rfl⟩ := Option.map_eq_some_iff.mp e
  obtain ⟨p, o, rfl, g, eo⟩ := inT_read (neg := false) rel rx ry e0
  exact ⟨p, o, rfl, g, _, rfl, by rw [eo]; exact q⟩

/-! ### writing -/
def putTC (k d : D) (x : Opd) : Stm := fun st => match upO st x with
  | some (.dit ks vs, f) => if isTK k = true ∧ ks.length < LIM then some (.ok .nx, f (.dit (tPutK ks k) (tPutV ks vs k d))) else none
  | _ => none
def tputS (E : C D) (A : C Opd) (I : C D) : Stm := bndC E fun d => bndC A fun x => bndC I fun k => putTC k d x
theorem ss_tput {oe ie ve : Expr} {I : C D} {p2 : Pos} (hu : X.A.units + 1 < cLine) (hv : PE X ve (TU X.K cl W E)) (ho : PE X oe (TO' X.K cl W A)) (hi : PE X ie (TU X.K cl W I))
    (hs : swapsWith ve (some (.Subscript oe ie p2)) pos.line X.env = pure false := by rfl) : PS X (.Assign [.Subscript oe ie p2] ve pos) (TUS X.K cl W (tputS E A I)) := by
  refine ps_imp (ps_dput hu ho hi hv hs) fun D σ H h => ?_
  obtain ⟨B, st, G, R, rel, run⟩ := h
  have run := RunS.bind (σ := σ) run
  refine ⟨B, st, G, R, rel, run.mono fun d st1 G1 R1 H1 _ _ _ _ ⟨rel1, _, _, run1⟩ v rv => ?_⟩
  have run1 := RunS.bind (σ := σ) run1
  refine ⟨B, st1, G1, R1, rel1, run1.mono fun x st2 G2 R2 H2 _ g r _ ⟨rel2, _, _, run2⟩ w rw => ?_⟩
  have run2 := RunS.bind (σ := σ) run2
  refine ⟨B, st2, G2, R2, rel2, run2.mono fun i st3 G3 R3 H3 _ g3 r3 _ ⟨rel3, _, _, run3⟩ u ru => ?_⟩
  unfold putTC at run3
  split at run3
  · rename_i ks vs f e
    obtain ⟨p, rfl, hG, ⟨kvs, h1, h2, h3⟩, hk⟩ := upO_ok rel3 (rw.mono g3 r3) e
    have h2 : ks = kvs.map (fun p => ktD p.1) := h2
    split at run3
    · rename_i hz
      obtain ⟨q, k, rfl, hq, rfl⟩ := isTK_rep ru hz.1
      have rv3 := (rv.mono g r).mono g3 r3
      obtain ⟨q1, q2⟩ := tPut_ok (x := k) rv3 h3
      have hz2 := hz.2
      rw [h2, List.length_map] at hz2
      refine ⟨p, _, rfl, .inr ⟨kvs, k, q, h1, rfl, rel3.m.same _ _ hq, lim_lt hz2, rfl⟩, ?_⟩
      rw [h2] at run3
      exact RunS.nx run3 (hk rfl _ _ ⟨_, upd_same, by rw [h2] at *; exact q1, by rw [h2] at *; exact q2⟩)
    · exact run3.elim
  · exact run3.elim

/-! ### a display of one pair -/
def tDispT (tk tv : TE) : TE := fun σ H Q => ∀ p, H p = none → tk σ (upd H p (.dT [])) fun x H1 => tv σ H1 fun y H2 => H2 p = some (.dT []) ∧ ∃ (b : Addr) (k : KL), x = .ref b ∧ H2 b = some (.tup (k.map kV)) ∧ Q (.ref p) (upd H2 p (.dT (putK [] k y)))
theorem pe_dispT {k v : Expr} {tk tv : TE} (hu : X.A.units + 1 < cLine) (hk : PE X k tk) (hv : PE X v tv) : PE X (.Dict [some k] [v] pos) (tDispT tk tv) := by
  refine ⟨fun pins s σ H Q I q => ?_⟩
  have hn := I.hok.fresh (Nat.le_refl s.heap.objs.size)
  have I1 := I.laid (a := s.heap.objs.size) (o := .dT []) (h' := s.heap.push { cls := .type "dict", data := .dict #[] }) (t' := s.toks) (fun _ _ q => Heap.get?_push_of_some _ q) (Nat.le_refl _) (dt_empty s.heap I.big)
  have hsh := zip_pairTrees [some k] [v] X.env pos rfl rfl
  rw [arm_eval_Dict, hsh, dictDisplay_pairs (pairTrees [some k] [v] X.env pos) (List.cons_ne_nil _ _) (by show 1 < 17; omega)]
  refine wpAny_bind (wpAny_standAt (wpAny_bind (wpAny_subDictH (knd := tupleKind (mixKind X.prog X.w)) (show X.A.units < cLine by omega) (by show 1 ≤ 15; omega) ?_)))
  refine pairTrees_cons_walk (thn (hk.run pins _ σ _ _ I1 (q _ hn)) fun u s1 ⟨x, H1, I1, rx, q1⟩ => thn (hv.run pins s1 σ H1 _ I1 q1) fun w2 s2 ⟨y, H2, I2, ry, e, b, kk, ex, eb, q2⟩ => pairTrees_nil_walk ?_)
  subst ex
  cases (show u = Value.ref b from rx)
  obtain ⟨z, hd, xs, r0, dd⟩ := dt_of I2.hok e
  cases r0
  refine ⟨[(kk, b, w2)], ⟨rfl, rfl, key_of I2.hok eb, trivial⟩, dd, fun h' tk dd' hs => wpAny_pure ⟨.ref s.heap.objs.size, _, ?_, rfl, q2⟩⟩
  have es : storedAllH ([] : List (KL × Addr × Value)) [(kk, b, w2)] = storedH [] kk b w2 := rfl
  rw [es] at dd'
  obtain ⟨q, es, ep, hq, h2, h3, h4, _, h5⟩ := dd'
  have nil : KT H2 ([] : List (KL × V)) [] := .nil
  refine d_write I2 (by rw [e]; exact True.intro) hs ⟨q, hq⟩ ⟨?_, hd, _, (nil.put kk eb ry).keeps fun c ys ec => ?_, q, es, ep, hq, h2, h3, h4, h5⟩
  · show 1 ≤ sizeLine
    rw [sizeLine_eq]; omega
  · rw [upd_ne (ne_of ec e (fun z => nomatch z))]
    exact ec
def tdspE (E E' : C D) : C Nv := bndC E fun k => bndC E' fun v => if isTK k = true then pureC (.nw (.dit [k] [v])) else failC
theorem se_tdsp {k v : Expr} (hu : X.A.units + 1 < cLine) (hk : PE X k (TU X.K cl W E)) (hv : PE X v (TU X.K cl W E')) : PE X (.Dict [some k] [v] pos) (TN X.K cl W (tdspE E E')) := by
  refine pe_imp (pe_dispT hu hk hv) fun σ H Q h => ?_
  obtain ⟨B, st, G, R, rel, run⟩ := h
  intro p hp
  have f := rel.fresh hp
  have hg : B.G p = none := by
    cases e : B.G p with
    | none => rfl
    | some o => have := rel.m.g0 _ _ e; rw [f.g] at this; cases this
  refine ⟨B.with p (.dT []), st, G, R, (rel.new hp).prot f upd_same, ?_⟩
  have run := run.bind
  refine (run.with f.k hg).mono fun x st1 G1 R1 H1 _ _ _ rel1 ⟨_, _, _, run1⟩ v rv => ?_
  refine ⟨B.with p (.dT []), st1, G1, R1, rel1, (run1.bind.with f.k hg).mono fun y st2 G2 R2 H2 _ g r rel2 ⟨_, _, _, run2⟩ w rw => ?_⟩
  obtain ⟨rb, fb, hb⟩ := rel2.unprot f.k hg
  try simp only at run2
  split at run2
  · rename_i hz
    obtain ⟨q, kk, rfl, hq, rfl⟩ := isTK_rep (rv.mono g r) hz
    refine ⟨hb, q, kk, rfl, rel2.m.same _ _ hq, ?_⟩
    exact run2 G2 R2 _ (Same.refl _) (Pre.refl _) (rb.put fb) _ ⟨p, rfl, fb, [(kk, w)], upd_same, rfl, .cons rw .nil⟩
  · exact run2.elim
end
/-! ### steps for simp -/
section
variable {α : Type} {st : Ms}
@[simp] theorem e_ditLd (d : D) : ditL st (.d d) = ditD st d := (rfl)
@[simp] theorem e_ditLc (i : Nat) : ditL st (.cell i) = (match st.env[i]? with
    | some (.own (.dit ks vs)) => some (ks, vs)
    | some (.v d) => ditD st d
    | _ => none) := (rfl)
@[simp] theorem e_ditD_dit (ks vs : List D) : ditD st (.dit ks vs) = some (ks, vs) := (rfl)
@[simp] theorem e_tgE (A : C Opd) (E : C D) : tgE A E st = bndC A (fun x => bndC E fun k => fun st => match ditL st x with
  | some (ks, vs) => match isTK k, tLook ks vs k with
    | true, some d => some (.ok d, st)
    | _, _ => none
  | none => none) st := (rfl)
@[simp] theorem e_inTF (x y : Opd) : inTF st x y = (match dOf st x, ditL st y with
  | some k, some (ks, _) => if isTK k = true then some (ks.any fun z => tkEq z k) else none
  | _, _ => none) := (rfl)
@[simp] theorem e_notInTF (x y : Opd) : notInTF st x y = (inTF st x y).map (!·) := (rfl)
@[simp] theorem e_putTC (k d : D) (x : Opd) : putTC k d x st = (match upO st x with
  | some (.dit ks vs, f) => if isTK k = true ∧ ks.length < LIM then some (.ok .nx, f (.dit (tPutK ks k) (tPutV ks vs k d))) else none
  | _ => none) := (rfl)
@[simp] theorem e_tputS (E : C D) (A : C Opd) (I : C D) : tputS E A I st = bndC E (fun d => bndC A fun x => bndC I fun k => putTC k d x) st := (rfl)
@[simp] theorem e_tdspE (E E' : C D) : tdspE E E' st = bndC E (fun k => bndC E' fun v => if isTK k = true then pureC (.nw (.dit [k] [v])) else failC) st := (rfl)
@[simp] theorem e_isTK (ds : List D) : isTK (.tup ds) = ds.all isKey := (rfl)
end
end VL

/-! two lists walked side by side -/
namespace VL
open PySem PySem.Spec PyProof.Rows L2
def getZ (d e : D) (st : Ms) (i : Nat) : Option (Option D) := match seqD st d, seqD st e with
  | some ds, some es => some (match ds[i]?, es[i]? with
    | some x, some y => some (.tup [x, y])
    | _, _ => none)
  | _, _ => none
def zipC (ds : List D) : C ItV := fun st => match ds with
  | [d, e] => match seqD st d, seqD st e with
    | some xs, some ys => some (.ok ⟨min xs.length ys.length, getZ d e⟩, st)
    | _, _ => none
  | _ => none
def itZ (Es : C (List D)) : C ItV := bndC Es zipC
section
variable {X : Cx} {cl : CL} {W : WX} {B : Base} {st : Ms} {G G' H : Hp} {R R' : List Addr} {σ : L2.St}
theorem jok_zip {K : PySem.W.Frag} {d e : D} {a b : Addr} {n : Nat} (hv : RepV K G R (.ref a) d) (hw : RepV K G R (.ref b) e) : JOk K cl G R ⟨n, getZ d e⟩ (Itz K a b) := by
  intro B st G' R' σ H i g r rel
  have hv := hv.mono g r
  have hw := hw.mono g r
  simp only
  unfold getZ
  split
  · rename_i ds es e1 e2
    obtain ⟨p, xs, ep, h1, h2⟩ := seqD_ok rel hv e1
    cases ep
    obtain ⟨q, ys, eq, k1, k2⟩ := seqD_ok rel hw e2
    cases eq
    refine ⟨fun d' h => ?_, fun h => ?_⟩
    · have h := Option.some.inj h
      split at h
      · rename_i x y ex ey
        cases h
        obtain ⟨v, h3, h4⟩ := h2.get ex
        obtain ⟨w, k3, k4⟩ := k2.get ey
        refine ⟨⟨xs, ys, v, w, SqL.of h1, SqL.of k1, h3, k3⟩, fun z H' hy => ?_⟩
        obtain ⟨T, v', w', rfl, hT, rfl, hx', hy'⟩ := hy
        have a1 := hx' xs (SqL.of h1)
        rw [h3] at a1; cases a1
        have a2 := hy' ys (SqL.of k1)
        rw [k3] at a2; cases a2
        have f := rel.fresh hT
        have g2 := same_upd (ho := HO.tup [v, w]) f.g
        exact ⟨upd G' T (.tup [v, w]), g2, (rel.new hT).freeze f upd_same, .tup upd_same (.cons (h4.mono g2 (Pre.refl _)) (.cons (k4.mono g2 (Pre.refl _)) .nil))⟩
      · cases h
    · have h := Option.some.inj h
      split at h
      · cases h
      · rename_i hn
        refine ⟨xs, ys, SqL.of h1, SqL.of k1, ?_⟩
        rcases Nat.lt_or_ge i ds.length with q1 | q1
        · rcases Nat.lt_or_ge i es.length with q2 | q2
          · exact absurd (List.getElem?_eq_getElem q2) (hn _ _ (List.getElem?_eq_getElem q1))
          · right; rw [k2.length]; exact q2
        · left; rw [h2.length]; exact q1
  · exact ⟨(fun _ h => by cases h), (fun h => by cases h)⟩
theorem si_zip {e e2 : Expr} {Es : C (List D)} {p pos tpos : Pos} {elts : List Expr} {kk : Nat} (hg : Gl X "zip") (hm : X.mg "zip" = none) (ha : PA X [e, e2] (TUA X.K cl W Es))
    (hs : starEach [e, e2] X.env = (false, eval e X.env) :: starEach [e2] X.env := by rfl) (hpl : (backTo pos (starEach [e2] X.env)).any (·.1) = false := by rfl) :
    PI X (.Tuple elts kk tpos) (.Call (.Name "zip" p) [e, e2] [] pos) (TI' X.K cl W (itZ Es)) := by
  refine pi_imp (RZ.pi_zipA hg hm ha hs hpl) fun σ H Rr h => ?_
  obtain ⟨B, st, G, R, rel, run⟩ := h
  refine ⟨B, st, G, R, rel, run.bind.mono fun ds st1 G1 R1 H1 _ _ _ _ ⟨rel1, _, _, run1⟩ vs rs => ?_⟩
  unfold zipC at run1
  split at run1
  · rename_i d e
    split at run1
    · rename_i xs ys e1 e2
      cases rs with
      | cons rv rs =>
        cases rs with
        | cons rw rs =>
          cases rs
          obtain ⟨a, us, rfl, h1, _⟩ := seqD_ok rel1 rv e1
          obtain ⟨b, ws, rfl, h2, _⟩ := seqD_ok rel1 rw e2
          exact ⟨a, b, us, ws, rfl, .inl ⟨SqL.of h1, SqL.of h2, run1.done rel1 _ (jok_zip rv rw)⟩⟩
    · exact run1.elim
  · exact run1.elim
end
@[simp] theorem e_itZ {st : Ms} (Es : C (List D)) : itZ Es st = bndC Es zipC st := (rfl)
@[simp] theorem e_zipC {st : Ms} (d e : D) : zipC [d, e] st = (match seqD st d, seqD st e with
    | some xs, some ys => some (.ok ⟨min xs.length ys.length, getZ d e⟩, st)
    | _, _ => none) := (rfl)
end VL

/-! dicts that are written no more: walked -/
namespace VL
open PySem PySem.Spec PyProof.Rows L2
/-- the thing that an expression tells is locked for good -/
def tLck (t : TE) : TE := fun σ H Q => t σ H fun v H1 => ∃ d u, v = .ref d ∧ H1 d = some u ∧ Mut (some u) ∧ ∀ od, Q v (upd H1 d (.frz od u))
theorem pe_lck {X : Cx} {e : Expr} {t : TE} (h : PE X e t) : PE X e (tLck t) := by
  refine ⟨fun pins s σ H Q I q => ?_⟩
  refine thn (h.run pins s σ H _ I q) fun u s1 ⟨v, H1, I1, rv, d, w, ev, hd, mu, q1⟩ => ?_
  obtain ⟨od, I2⟩ := I1.lock hd mu
  exact ⟨v, _, I2, rv, q1 od⟩
def lckV (i : Nat) : C D := fun st => match st.env[i]? with
  | some (.own (.dic ks vs)) => some (.ok (.dif ks vs), { st with env := st.env.set i (.v (.dif ks vs)) })
  | _ => none
section
variable {X : Cx} {cl : CL} {W : WX} {B : Base} {st : Ms} {G G' H : Hp} {R R' : List Addr} {σ : L2.St}
variable {a b c e : Expr} {A A' : C Opd} {E E' : C D} {pos apos cpos : Pos}
theorem se_lck (i : Nat) {x : Str} {pos : Pos} (hN : X.N[i]? = some x := by rfl) (hv : Vis X.env.scope x := by first | exact Or.inl rfl | exact Or.inr (Or.inl rfl) | exact Or.inr (Or.inr rfl)) (hd : (x == ("__debug__" : Str)) = false := by decide)
    (hcd : (x == ("__classdict__" : Str)) = false := by decide) : PE X (.Name x pos) (TU X.K cl W (lckV i)) := by
  refine pe_imp (pe_lck (pe_var hN hv hd hcd)) fun σ H Q h => ?_
  obtain ⟨B, st, G, R, rel, run⟩ := h
  unfold lckV at run
  split at run
  · rename_i ks vs e
    obtain ⟨p, h1, h2, h3, h4, kvs, h5, h6, h7⟩ := rel.own i _ e
    refine ⟨.ref p, h1, p, .dK kvs, rfl, h5, True.intro, fun od => ?_⟩
    have rel2 := rel.setCell (o' := .dif ks vs) (ho := .frz od (.dK kvs)) e h1 ⟨od, kvs, upd_same, h6, h7⟩
    have hi : i < st.env.length := (List.getElem?_eq_some_iff.mp e).1
    have e2 : ({ st with env := st.env.set i (.own (.dif ks vs)) } : Ms).env[i]? = some (.own (.dif ks vs)) := List.getElem?_set_self hi
    obtain ⟨G', g1, rel3, rv⟩ := rel2.freezeCell (d := .dif ks vs) (v := .ref p) e2 rfl h1
    have es : ({ { st with env := st.env.set i (.own (.dif ks vs)) } with env := ({ st with env := st.env.set i (.own (.dif ks vs)) } : Ms).env.set i (.v (.dif ks vs)) } : Ms) = { st with env := st.env.set i (.v (.dif ks vs)) } := by
      show (⟨(st.env.set i _).set i _, st.M⟩ : Ms) = ⟨st.env.set i _, st.M⟩
      rw [List.set_set]
    rw [es] at rel3
    exact run G' R _ g1 (Pre.refl _) rel3 _ rv
  · exact run.elim
def fgE (A : C Opd) (E : C D) : C D := bndC A fun x => bndC E fun k => fun st => match dOf st x with
  | some (.dif ks vs) => (match isKey k, dLook ks vs k with
    | true, some d => some (.ok d, st)
    | _, _ => none)
  | _ => none
theorem se_fg (hu : X.A.units + 1 < cLine) (ha : PE X a (TO' X.K cl W A)) (hb : PE X b (TU X.K cl W E)) (hs : NoSl b := by exact fun _ _ => rfl) : PE X (.Subscript a b pos) (TU X.K cl W (fgE A E)) := by
  refine pe_imp (pe_dget hu ha hb hs) fun σ H Q h => ?_
  obtain ⟨B, st, G, R, rel, run⟩ := h
  refine ⟨B, st, G, R, rel, run.bind.mono fun x st1 G1 R1 H1 _ _ _ _ ⟨rel1, _, _, run1⟩ v rv => ?_⟩
  refine ⟨B, st1, G1, R1, rel1, run1.bind.mono fun y st2 G2 R2 H2 _ g r _ ⟨rel2, _, _, run2⟩ w rw => ?_⟩
  try simp only at run2
  split at run2
  · rename_i ks vs e1
    split at run2
    · rename_i d ek e2
      have hv := dOf_ok rel2 (rv.mono g r) e1
      cases hv with
      | dif h1 h2 h3 =>
        rename_i p o kvs
        obtain ⟨k, rfl, rfl⟩ := isKey_rep rw ek
        obtain ⟨oo, q1, q2⟩ := dLook_ok (x := k) h3
        rw [h2] at e2
        rw [e2] at q2
        obtain ⟨z, rfl, q4⟩ := q2
        exact ⟨p, z, rfl, .inl ⟨kvs, k, .inr ⟨o, rel2.m.same _ _ h1⟩, rfl, q1.symm⟩, run2.done rel2 z q4⟩
    · exact run2.elim
  · exact run2.elim
def listFF (st : Ms) (x : Opd) : Option Nv := match dOf st x with
  | some (.dif ks _) => some (.nw (.lst ks))
  | _ => none
def lenFF (st : Ms) (x : Opd) : Option Nv := match dOf st x with
  | some (.dif ks _) => some (.d (.int ks.length))
  | _ => none
theorem call_listFU (hc : X.calm = true) : CallR X (.type "list") (rU1 X.K cl W listFF) := by
  intro pins s σ0 H xs us Q I r h
  obtain ⟨B, st, G, R, σ, x, dx, n, rfl, rel, hx, e, run⟩ := h
  unfold listFF at e
  split at e
  · rename_i ks vs e1
    have hv := dOf_ok rel hx e1
    cases hv with
    | dif h1 h2 h3 =>
      rename_i p o kvs
      cases e
      refine call_listD hc pins s σ0 H _ us Q I r ⟨p, kvs, rfl, .inr ⟨o, rel.m.same _ _ h1⟩, fun a q => ?_⟩
      rw [h2] at run
      exact fin_lst rel run (keys_rep kvs) q
  · cases e
theorem call_lenFU : CallR X (.builtin "len") (rU1 X.K cl W lenFF) := by
  intro pins s σ0 H xs us Q I r h
  obtain ⟨B, st, G, R, σ, x, dx, n, rfl, rel, hx, e, run⟩ := h
  unfold lenFF at e
  split at e
  · rename_i ks vs e1
    have hv := dOf_ok rel hx e1
    cases hv with
    | dif h1 h2 h3 =>
      rename_i p o kvs
      cases e
      obtain ⟨u, rfl, ru⟩ := vals1 r
      cases ru
      refine d_len I (.inr ⟨o, rel.m.same _ _ h1⟩) fun t s' I' => ⟨.int kvs.length, H, I', ⟨t, rfl⟩, ?_⟩
      have el : (ks.length : Int) = kvs.length := by rw [h2, List.length_map]
      rw [el] at run
      exact run.done rel _ (.int _)
  · cases e
def getK (ks : List D) (st : Ms) (i : Nat) : Option (Option D) := some ks[i]?
def itK (E : C D) : C ItV := bndC E fun d => fun st => match d with
  | .dif ks _ => some (.ok ⟨ks.length, getK ks⟩, st)
  | _ => none
theorem rep_key {K : PySem.W.Frag} (k : L2.Key) : RepV K G R (kV k) (keyD k) := by
  cases k with
  | inl i => exact .int i
  | inr x =>
    have : RepV K G R (.str (toS x.cps.toList)) (.str x.cps.toList) := .str _
    rw [toS_of] at this
    exact this
theorem jok_keys {K : PySem.W.Frag} {p : Addr} {o : Obj} {kvs : List (L2.Key × V)} {n : Nat} (h1 : G p = some (.frz o (.dK kvs))) : JOk K cl G R ⟨n, getK (kvs.map fun q => keyD q.1)⟩ (Itk p o kvs) := by
  intro B st G' R' σ H i g r rel
  have hH := rel.m.same _ _ (g _ _ h1)
  simp only
  unfold getK
  refine ⟨fun d h => ?_, fun h => ?_⟩
  · have h := Option.some.inj h
    rw [List.getElem?_map] at h
    obtain ⟨q, hq, rfl⟩ := Option.map_eq_some_iff.mp h
    refine ⟨⟨hH, (List.getElem?_eq_some_iff.mp hq).1⟩, fun v H' hy => ?_⟩
    obtain ⟨rfl, k, v', e, rfl⟩ := hy
    rw [hq] at e
    cases e
    exact ⟨G', Same.refl _, rel, rep_key k⟩
  · have h := Option.some.inj h
    rw [List.getElem?_eq_none_iff, List.length_map] at h
    exact ⟨hH, h⟩
theorem si_keys {tg : Expr} (he : PE X e (TU X.K cl W E)) : PI X tg e (TI' X.K cl W (itK E)) := by
  refine pi_imp (pi_keys he) fun σ H Rr h => ?_
  obtain ⟨B, st, G, R, rel, run⟩ := h
  refine ⟨B, st, G, R, rel, run.bind.mono fun d st1 G1 R1 H1 _ _ _ _ ⟨rel1, _, _, run1⟩ v rv => ?_⟩
  try simp only at run1
  split at run1
  · rename_i ks vs
    cases rv with
    | dif h1 h2 h3 =>
      rename_i p o kvs
      refine ⟨p, o, rfl, .inl ⟨kvs, rel1.m.same _ _ h1, ?_⟩⟩
      rw [h2] at run1
      exact run1.done rel1 _ (jok_keys h1)
  · exact run1.elim
end
section
variable {α : Type} {st : Ms}
@[simp] theorem e_lckV (i : Nat) : lckV i st = (match st.env[i]? with
  | some (.own (.dic ks vs)) => some (.ok (.dif ks vs), { st with env := st.env.set i (.v (.dif ks vs)) })
  | _ => none) := (rfl)
@[simp] theorem e_fgE (A : C Opd) (E : C D) : fgE A E st = bndC A (fun x => bndC E fun k => fun st => match dOf st x with
  | some (.dif ks vs) => (match isKey k, dLook ks vs k with
    | true, some d => some (.ok d, st)
    | _, _ => none)
  | _ => none) st := (rfl)
@[simp] theorem e_listFF (x : Opd) : listFF st x = (match dOf st x with
  | some (.dif ks _) => some (.nw (.lst ks))
  | _ => none) := (rfl)
@[simp] theorem e_lenFF (x : Opd) : lenFF st x = (match dOf st x with
  | some (.dif ks _) => some (.d (.int ks.length))
  | _ => none) := (rfl)
@[simp] theorem e_itK (E : C D) : itK E st = bndC E (fun d => fun st => match d with
  | .dif ks _ => some (.ok ⟨ks.length, getK ks⟩, st)
  | _ => none) st := (rfl)
end
/-- keys walked, as a list walked -/
theorem forI_K {t : Tgt} {body : Stm} {ks : List D} : ∀ (m i : Nat) (st : Ms), ks.length < m + i → i ≤ ks.length → forI (getK ks) t body m i st = forL t body (ks.drop i) st
  | 0, i, st, h1, h2 => by omega
  | m + 1, i, st, h1, h2 => by
    unfold forI getK
    by_cases hi : i < ks.length
    · rw [List.getElem?_eq_getElem hi, List.drop_eq_getElem_cons hi]
      unfold forL
      simp only
      have ih := fun st => forI_K (t := t) (body := body) (ks := ks) m (i + 1) st (by omega) (by omega)
      unfold getK at ih
      cases h1 : setT t ks[i] st.env with
      | none => rfl
      | some env =>
        simp only
        cases h2 : body ⟨env, st.M⟩ with
        | none => rfl
        | some r =>
          obtain ⟨r, s⟩ := r
          cases r with
          | ex x => rfl
          | ok f =>
            cases f with
            | nx => exact ih s
            | ct => exact ih s
            | bk => rfl
            | rt d => rfl
    · have : i = ks.length := by omega
      subst this
      rw [List.getElem?_eq_none (Nat.le_refl _), List.drop_length]
      rfl
@[simp] theorem forI_K0 {t : Tgt} {body : Stm} {ks : List D} {st : Ms} : forI (getK ks) t body (ks.length + 1) 0 st = forL t body ks st := by
  rw [forI_K _ _ _ (by omega) (by omega), List.drop_zero]
@[simp] theorem e_lc_K (ks : List D) (t : Tgt) (vs : List Nat) (cond : C Bool) (elt : C D) (acc : List D) (st : Ms) (m : Nat) (hm : ks.length < m) : lcI (getK ks) t vs cond elt m 0 acc st = lcL t vs cond elt ks acc st := by
  rw [lcI_list (get := getK ks) (ds := ks) (fun st i => rfl) _ _ _ _ (by omega) (by omega)]; rfl
end VL

/-! sorted of pairs of whole numbers -/
namespace VL
open PySem PySem.Spec PyProof.Rows L2
def prD (x : Int × Int) : D := .tup [.int x.1, .int x.2]
def prsOf : List D → Option (List (Int × Int))
  | [] => some []
  | .tup [.int i, .int j] :: r => (prsOf r).map ((i, j) :: ·)
  | _ => none
theorem prsOf_map (ps : List (Int × Int)) : prsOf (ps.map prD) = some ps := by
  induction ps with
  | nil => rfl
  | cons n r ih => rw [List.map_cons]; unfold prD prsOf; rw [show r.map (fun x : Int × Int => D.tup [.int x.1, .int x.2]) = r.map prD from rfl, ih]; rfl
theorem prsOf_ok : ∀ {ds : List D} {ps : List (Int × Int)}, prsOf ds = some ps → ds = ps.map prD
  | [], _, h => by cases h; rfl
  | d :: r, ps, h => by
    unfold prsOf at h
    split at h
    · rename_i e; cases e
    · rename_i i j r' e
      cases e
      obtain ⟨m, h1, rfl⟩ := Option.map_eq_some_iff.mp h
      rw [prsOf_ok h1]; rfl
    · cases h
def leP (a b : Int × Int) : Bool := !SrtO.lexB b a
def sortP (ps : List (Int × Int)) : List (Int × Int) := ps.mergeSort leP
theorem leP_iff {a b : Int × Int} : leP a b = true ↔ a.1 < b.1 ∨ (a.1 = b.1 ∧ a.2 ≤ b.2) := by
  unfold leP
  rw [Bool.not_eq_true', SrtO.lexB_no]
  omega
theorem sortP_perm (ps : List (Int × Int)) : (sortP ps).Perm ps := List.mergeSort_perm _ _
theorem sortP_eq {ns ns' : List (Int × Int)} (h1 : ns'.Perm ns) (h2 : ns'.Pairwise (fun a b => leP a b = true)) : ns' = sortP ns := by
  have p : (sortP ns).Perm ns := List.mergeSort_perm _ _
  have s : (sortP ns).Pairwise (fun a b => leP a b = true) := List.pairwise_mergeSort (fun a b c h1 h2 => by rw [leP_iff] at *; omega) (fun a b => by
    rw [Bool.or_eq_true, leP_iff, leP_iff]; omega) ns
  refine List.Perm.eq_of_pairwise (le := fun a b => leP a b = true) (fun a b _ _ h1 h2 => ?_) h2 s (h1.trans p.symm)
  rw [leP_iff] at h1 h2
  exact Prod.ext (by omega) (by omega)
def sortedPF (st : Ms) (x : Opd) : Option Nv := match (seqL st x).bind prsOf with
  | some ps => some (.nw (.lst ((sortP ps).map prD)))
  | none => sortedDF st x
def keyP (H : Hp) (v : V) : Int × Int := match v with
  | .ref t => match H t with
    | some (.tup [.int i, .int j]) => (i, j)
    | _ => (0, 0)
  | _ => (0, 0)
section
variable {K : PySem.W.Frag} {G H : Hp} {R : List Addr}
theorem rep_pair {v : V} {x : Int × Int} (hs : Same G H) (h : RepV K G R v (prD x)) : ∃ t, v = .ref t ∧ H t = some (.tup [.int x.1, .int x.2]) ∧ keyP H v = x := by
  unfold prD at h
  cases h with
  | tup h1 h2 =>
    cases h2 with
    | cons a h2 =>
      cases h2 with
      | cons b h2 =>
        cases h2
        cases a
        cases b
        have := hs _ _ h1
        refine ⟨_, rfl, this, ?_⟩
        unfold keyP
        simp only
        rw [this]
theorem rep_pairs (hs : Same G H) : ∀ {xs : List V} {ps : List (Int × Int)}, RepA K G R xs (ps.map prD) → xs.map (keyP H) = ps ∧ ∀ x ∈ xs, (∃ t, x = .ref t ∧ H t = some (.tup [.int (keyP H x).1, .int (keyP H x).2])) ∧ RepV K G R x (prD (keyP H x))
  | [], ps, h => by
    cases ps with
    | nil => exact ⟨rfl, fun x hx => (List.not_mem_nil hx).elim⟩
    | cons p ps => cases h
  | x :: xs, ps, h => by
    cases ps with
    | nil => cases h
    | cons p ps =>
      cases h with
      | cons h1 h2 =>
        obtain ⟨t, e1, e2, e3⟩ := rep_pair hs h1
        obtain ⟨i1, i2⟩ := rep_pairs hs h2
        refine ⟨by rw [List.map_cons, e3, i1], fun y hy => ?_⟩
        rcases List.mem_cons.mp hy with rfl | hy
        · refine ⟨⟨t, e1, ?_⟩, ?_⟩
          · rw [e3]; exact e2
          · rw [e3]; exact h1
        · exact i2 y hy
theorem rep_all {f : V → D} : ∀ {ys : List V}, (∀ y ∈ ys, RepV K G R y (f y)) → RepA K G R ys (ys.map f)
  | [], _ => .nil
  | y :: ys, h => .cons (h y (List.mem_cons_self ..)) (rep_all fun z hz => h z (List.mem_cons_of_mem _ hz))
end
section
variable {X : Cx} {cl : CL} {W : WX}
theorem call_sortedPU (hc : X.calm = true) : CallR X (.builtin "sorted") (rU1 X.K cl W sortedPF) := by
  intro pins s σ0 H xs us Q I r h
  obtain ⟨B, st, G, R, σ, x, dx, n, rfl, rel, hx, e, run⟩ := h
  unfold sortedPF at e
  split at e
  · rename_i ps e0
    cases e
    obtain ⟨ds, e1, e2⟩ := Option.bind_eq_some_iff.mp e0
    obtain ⟨p, xs, rfl, h1, h2⟩ := seqL_ok rel hx e1
    rw [prsOf_ok e2] at h2
    obtain ⟨k1, k2⟩ := rep_pairs rel.m.same h2
    refine cr_sortedPO pins s σ0 H _ us Q I r ⟨p, xs, keyP H, rfl, SqL.of h1, fun x hx => (k2 x hx).1, fun ys a q1 q2 q3 => ?_⟩
    have pm : ys.Perm xs := q2.perm
    have e3 : ys.map (keyP H) = sortP ps := by
      refine sortP_eq (by rw [← k1]; exact pm.map _) ?_
      rw [List.pairwise_map]
      exact q1.imp fun h => by
        unfold leP
        have h : SrtO.lexB (keyP H _) (keyP H _) = false := h
        rw [h]; rfl
    have e4 : (sortP ps).map prD = ys.map fun y => prD (keyP H y) := by rw [← e3, List.map_map]; rfl
    rw [e4] at run
    exact fin_lst rel run (rep_all fun y hy => (k2 y (pm.mem_iff.mp hy)).2) q3
  · exact call_sortedDU hc pins s σ0 H _ us Q I r ⟨B, st, G, R, σ, x, dx, n, rfl, rel, hx, e, run⟩
end
section
variable {st : Ms}
@[simp] theorem e_sortedPF (x : Opd) : sortedPF st x = (match (seqL st x).bind prsOf with
  | some ps => some (.nw (.lst ((sortP ps).map prD)))
  | none => sortedDF st x) := (rfl)
end
end VL

/-! errors caught -/
namespace VL
open PySem PySem.Spec PyProof.Rows L2
def Cell.nx : Cell → Bool
  | .exc _ => false
  | _ => true
/-- the classes, and the error in hand -/
def exC : Value → Option Addr → Option Addr
  | .ref C, none => some C
  | _, _ => none
def clE (cl : CL) (a : Addr) (cls : Value) (d : Option Addr) : CL := fun n => match n with
  | [] => some a
  | [_] => exC cls d
  | n => cl n
theorem clE_of {cl : CL} {a : Addr} {cls : Value} {d : Option Addr} {c : List Nat} (h : 1 < c.length) : clE cl a cls d c = cl c := by
  match c, h with
  | x :: y :: r, _ => rfl
section
variable {K : PySem.W.Frag} {cl : CL} {W : WX} {B : Base} {st : Ms} {M : List MO} {G G' H H' : Hp} {R R' : List Addr} {σ : L2.St} {a p : Addr} {o : MO} {cls : Value} {d : Option Addr}
theorem RepO.toE (h : RepO K cl G R H p o) : RepO K (clE cl a cls d) G R H p o := by
  cases o with
  | ins c fn fv =>
    obtain ⟨C, dx, fvs, ⟨h0, h1⟩, h2⟩ := h
    exact ⟨C, dx, fvs, ⟨h0, by rw [clE_of h0]; exact h1⟩, h2⟩
  | _ => exact h
theorem RepO.ofE (h : RepO K (clE cl a cls d) G R H p o) : RepO K cl G R H p o := by
  cases o with
  | ins c fn fv =>
    obtain ⟨C, dx, fvs, ⟨h0, h1⟩, h2⟩ := h
    exact ⟨C, dx, fvs, ⟨h0, by rw [clE_of h0] at h1; exact h1⟩, h2⟩
  | _ => exact h
theorem RelM.toE (r : RelM K cl B M G R H) : RelM K (clE cl a cls d) B M G R H := ⟨r.same, r.g0, r.gn, r.r0, r.rk, r.kp, r.len, r.nd, fun n o p h1 h2 => ⟨(r.sh n o p h1 h2).1, (r.sh n o p h1 h2).2.toE⟩⟩
theorem RelM.ofE (r : RelM K (clE cl a cls d) B M G R H) : RelM K cl B M G R H := ⟨r.same, r.g0, r.gn, r.r0, r.rk, r.kp, r.len, r.nd, fun n o p h1 h2 => ⟨(r.sh n o p h1 h2).1, (r.sh n o p h1 h2).2.ofE⟩⟩
theorem Rel.setExc {C : Addr} {x : List Nat} {i : Nat} (r : Rel K cl B st G R σ H) (h0 : cl [] = none) (hC : cl x = some C) (hx : 1 < x.length) (hi : i < st.env.length) :
    Rel K (clE cl a (.ref C) none) B { st with env := st.env.set i (.exc x) } G R (σ.set i (some (.ref a))) H := by
  have hs : i < σ.length := by rw [r.len]; exact hi
  have ne : ∀ (j : Nat) (c : Cell), (st.env.set i (.exc x))[j]? = some c → c ≠ .exc x → j ≠ i := fun j c h hc z => by
    subst z
    rw [List.getElem?_set_self hi] at h
    exact hc (Option.some.inj h).symm
  refine ⟨r.m.toE, ?_, fun j d' h => ?_, fun j o' h => ?_, fun j k o1 o2 b e1 e2 s1 s2 => ?_, fun j y h => ?_⟩
  · show (σ.set i (some (.ref a))).length = (st.env.set i (.exc x)).length
    rw [List.length_set, List.length_set]; exact r.len
  · have hj := ne j _ h (fun z => by cases z)
    have h : (st.env.set i (.exc x))[j]? = some (.v d') := h
    rw [List.getElem?_set_ne (Ne.symm hj)] at h ⊢
    exact r.val j d' h
  · have hj := ne j _ h (fun z => by cases z)
    have h : (st.env.set i (.exc x))[j]? = some (.own o') := h
    rw [List.getElem?_set_ne (Ne.symm hj)] at h ⊢
    obtain ⟨b, h1, h2, h3, h4, h5⟩ := r.own j o' h
    exact ⟨b, h1, h2, h3, h4, h5.toE⟩
  · have hj := ne j _ e1 (fun z => by cases z)
    have hk := ne k _ e2 (fun z => by cases z)
    have e1 : (st.env.set i (.exc x))[j]? = some (.own o1) := e1
    have e2 : (st.env.set i (.exc x))[k]? = some (.own o2) := e2
    rw [List.getElem?_set_ne (Ne.symm hj)] at e1 s1
    rw [List.getElem?_set_ne (Ne.symm hk)] at e2 s2
    exact r.dis j k o1 o2 b e1 e2 s1 s2
  · have h : (st.env.set i (.exc x))[j]? = some (.exc y) := h
    by_cases hj : j = i
    · subst hj
      rw [List.getElem?_set_self hi] at h
      cases h
      exact ⟨a, C, rfl, rfl, by rw [clE_of hx]; exact hC, List.getElem?_set_self hs⟩
    · rw [List.getElem?_set_ne (Ne.symm hj)] at h
      obtain ⟨a', C', q, _⟩ := r.ex j y h
      rw [h0] at q; cases q
theorem Rel.unExc {i : Nat} (r : Rel K (clE cl a cls d) B st G R σ H) (hn : (st.env.set i .un).all Cell.nx = true) : Rel K cl B { st with env := st.env.set i .un } G R (σ.set i none) H := by
  have ne : ∀ (j : Nat) (c : Cell), (st.env.set i .un)[j]? = some c → c ≠ .un → j ≠ i := fun j c h hc z => by
    subst z
    have hi : j < st.env.length := by
      have := (List.getElem?_eq_some_iff.mp h).1
      rw [List.length_set] at this; exact this
    rw [List.getElem?_set_self hi] at h
    exact hc (Option.some.inj h).symm
  refine ⟨r.m.ofE, ?_, fun j d' h => ?_, fun j o' h => ?_, fun j k o1 o2 b e1 e2 s1 s2 => ?_, fun j y h => ?_⟩
  · show (σ.set i none).length = (st.env.set i .un).length
    rw [List.length_set, List.length_set]; exact r.len
  · have hj := ne j _ h (fun z => by cases z)
    have h : (st.env.set i .un)[j]? = some (.v d') := h
    rw [List.getElem?_set_ne (Ne.symm hj)] at h ⊢
    exact r.val j d' h
  · have hj := ne j _ h (fun z => by cases z)
    have h : (st.env.set i .un)[j]? = some (.own o') := h
    rw [List.getElem?_set_ne (Ne.symm hj)] at h ⊢
    obtain ⟨b, h1, h2, h3, h4, h5⟩ := r.own j o' h
    exact ⟨b, h1, h2, h3, h4, h5.ofE⟩
  · have hj := ne j _ e1 (fun z => by cases z)
    have hk := ne k _ e2 (fun z => by cases z)
    have e1 : (st.env.set i .un)[j]? = some (.own o1) := e1
    have e2 : (st.env.set i .un)[k]? = some (.own o2) := e2
    rw [List.getElem?_set_ne (Ne.symm hj)] at e1 s1
    rw [List.getElem?_set_ne (Ne.symm hk)] at e2 s2
    exact r.dis j k o1 o2 b e1 e2 s1 s2
  · have h : (st.env.set i .un)[j]? = some (.exc y) := h
    have := List.all_eq_true.mp hn _ (List.mem_of_getElem? h)
    cases this
end
/-- try, and a clause that names the error -/
def tryAsS (body : Stm) (i : Nat) (hb : List Nat → Option Bool) (suite : Stm) : Stm := fun st => match body st with
  | some (.ok f, st1) => some (.ok f, st1)
  | some (.ex x, st1) => (match hb x with
    | some true => if i < st1.env.length ∧ 1 < x.length then (match suite { st1 with env := st1.env.set i (.exc x) } with
        | some (.ok f, st2) => if (st2.env.set i .un).all Cell.nx = true then some (.ok f, { st2 with env := st2.env.set i .un }) else none
        | _ => none) else none
    | some false => some (.ex x, st1)
    | none => none)
  | none => none
/-- try, and a clause without a name -/
def tryS (body : Stm) (hb : List Nat → Option Bool) (suite : Stm) : Stm := fun st => match body st with
  | some (.ok f, st1) => some (.ok f, st1)
  | some (.ex x, st1) => (match hb x with
    | some true => (match suite st1 with
        | some (.ok f, st2) => some (.ok f, st2)
        | _ => none)
    | some false => some (.ex x, st1)
    | none => none)
  | none => none
abbrev WF : WX := fun _ _ _ _ => False
/-- which errors a clause takes -/
def Hand (K : PySem.W.Frag) (cl : CL) (c : Value) (hb : List Nat → Option Bool) : Prop := ∀ y b, hb y = some b → ∃ C, cl y = some C ∧ PySem.W.exmOne K (.ref C) c = some b
section
variable {X : Cx} {cl : CL} {W : WX}
theorem ss_tryAs {x n : Str} {c : Value} {i : Nat} {body suite : List Stmt} {b₀ : Stmt} {np pos pos' : Pos} {Bd Su : Stm} {hb : List Nat → Option Bool} (hs : X.stack = X.env :: X.outer) (hf : X.env.frame = some X.env.locals) (hN : X.N.Nodup) (hi : X.N[i]? = some n) (hln : X.env.kindOf n = some .local) (hc : Names X x c) (tk : Takes X W)
    (h0 : cl [] = none) (hh : Hand X.K cl c hb)
    (hbd : ∀ (W : WX) (pn : List (Addr × Obj)) (xe : Value → Shared → Prop), Takes (X.tr pn xe) W → PassesOwn (model X.prog X.w) X.A X.env xe → PSs (X.tr pn xe) body (TUS X.K cl W Bd))
    (hsu : ∀ (a : Addr) (oe : Obj) (cls : Value) (d : Option Addr) (pn : List (Addr × Obj)), Zc cls d oe → (∃ vs, oe.data = .fields vs) → PSs (X.suite a ((a, oe) :: pn)) (b₀ :: suite) (TUS X.K (clE cl a cls d) WF Su)) :
    PS X (.Try body [.ExceptHandler (some (.Name x np)) (some n) (b₀ :: suite) pos'] [] [] pos) (TUS X.K cl W (tryAsS Bd i hb Su)) :=
  ps_imp (ps_try_as hs hf hN hi hln hc tk (tb := fun W => TUS X.K cl W Bd) (ts := fun a cls d => TUS X.K (clE cl a cls d) WF Su) hbd hsu) fun D σ H h => by
    obtain ⟨B, st, G, R, rel, run⟩ := h
    refine ⟨B, st, G, R, rel, ?_⟩
    unfold tryAsS at run
    cases e : Bd st with
    | none => rw [e] at run; exact run.elim
    | some p =>
      obtain ⟨r, st1⟩ := p
      rw [e] at run
      cases r with
      | ok f => cases f <;> exact run
      | ex y =>
        simp only at run
        cases hby : hb y with
        | none => rw [hby] at run; exact run.elim
        | some b =>
          rw [hby] at run
          obtain ⟨C, hC, hm⟩ := hh y b hby
          cases b with
          | false =>
            obtain ⟨C', hC', run⟩ := run
            rw [hC] at hC'
            cases hC'
            exact ⟨C, hC, fun σ' G' R' H' g r rel' => ⟨false, hm, (fun z => by cases z), fun _ => run σ' G' R' H' g r rel'⟩⟩
          | true =>
            simp only at run
            split at run
            · rename_i hl
              refine ⟨C, hC, fun σ' G' R' H' g r rel' => ⟨true, hm, fun _ a ha => ?_, fun z => by cases z⟩⟩
              refine ⟨B, { st1 with env := st1.env.set i (.exc y) }, G', R', rel'.setExc h0 hC hl.2 hl.1, ?_⟩
              cases es : Su { st1 with env := st1.env.set i (.exc y) } with
              | none => rw [es] at run; exact run.elim
              | some q =>
                obtain ⟨r2, st2⟩ := q
                rw [es] at run
                cases r2 with
                | ex z => exact run.elim
                | ok f =>
                  simp only at run
                  split at run
                  · rename_i hn
                    cases f with
                    | nx => exact fun σ2 G2 R2 H2 g2 r2 rel2 => run _ G2 R2 H2 (g.trans g2) (r.trans r2) (rel2.unExc hn)
                    | bk => exact fun σ2 G2 R2 H2 g2 r2 rel2 => run _ G2 R2 H2 (g.trans g2) (r.trans r2) (rel2.unExc hn)
                    | ct => exact fun σ2 G2 R2 H2 g2 r2 rel2 => run _ G2 R2 H2 (g.trans g2) (r.trans r2) (rel2.unExc hn)
                    | rt d => exact fun σ2 G2 R2 H2 v g2 r2 rel2 rv => run _ G2 R2 H2 v (g.trans g2) (r.trans r2) (rel2.unExc hn) rv
                  · exact run.elim
            · exact run.elim
theorem ss_try {x : Str} {c : Value} {body suite : List Stmt} {b₀ : Stmt} {np pos pos' : Pos} {Bd Su : Stm} {hb : List Nat → Option Bool} (hs : X.stack = X.env :: X.outer) (hf : X.env.frame = some X.env.locals) (hc : Names X x c) (tk : Takes X W)
    (hh : Hand X.K cl c hb)
    (hbd : ∀ (W : WX) (pn : List (Addr × Obj)) (xe : Value → Shared → Prop), Takes (X.tr pn xe) W → PassesOwn (model X.prog X.w) X.A X.env xe → PSs (X.tr pn xe) body (TUS X.K cl W Bd))
    (hsu : ∀ (a : Addr) (oe : Obj) (cls : Value) (d : Option Addr) (pn : List (Addr × Obj)), Zc cls d oe → (∃ vs, oe.data = .fields vs) → PSs (X.suite a ((a, oe) :: pn)) (b₀ :: suite) (TUS X.K cl WF Su)) :
    PS X (.Try body [.ExceptHandler (some (.Name x np)) none (b₀ :: suite) pos'] [] [] pos) (TUS X.K cl W (tryS Bd hb Su)) :=
  ps_imp (ps_try_only hs hf hc tk (tb := fun W => TUS X.K cl W Bd) (ts := fun _ _ _ => TUS X.K cl WF Su) hbd hsu) fun D σ H h => by
    obtain ⟨B, st, G, R, rel, run⟩ := h
    refine ⟨B, st, G, R, rel, ?_⟩
    unfold tryS at run
    cases e : Bd st with
    | none => rw [e] at run; exact run.elim
    | some p =>
      obtain ⟨r, st1⟩ := p
      rw [e] at run
      cases r with
      | ok f => cases f <;> exact run
      | ex y =>
        simp only at run
        cases hby : hb y with
        | none => rw [hby] at run; exact run.elim
        | some b =>
          rw [hby] at run
          obtain ⟨C, hC, hm⟩ := hh y b hby
          cases b with
          | false =>
            obtain ⟨C', hC', run⟩ := run
            rw [hC] at hC'
            cases hC'
            exact ⟨C, hC, fun σ' G' R' H' g r rel' => ⟨false, hm, (fun z => by cases z), fun _ => run σ' G' R' H' g r rel'⟩⟩
          | true =>
            simp only at run
            refine ⟨C, hC, fun σ' G' R' H' g r rel' => ⟨true, hm, fun _ a ha => ?_, fun z => by cases z⟩⟩
            refine ⟨B, st1, G', R', rel', ?_⟩
            cases es : Su st1 with
            | none => rw [es] at run; exact run.elim
            | some q =>
              obtain ⟨r2, st2⟩ := q
              rw [es] at run
              cases r2 with
              | ex z => exact run.elim
              | ok f =>
                cases f with
                | nx => exact fun σ2 G2 R2 H2 g2 r2 rel2 => run _ G2 R2 H2 (g.trans g2) (r.trans r2) rel2
                | bk => exact fun σ2 G2 R2 H2 g2 r2 rel2 => run _ G2 R2 H2 (g.trans g2) (r.trans r2) rel2
                | ct => exact fun σ2 G2 R2 H2 g2 r2 rel2 => run _ G2 R2 H2 (g.trans g2) (r.trans r2) rel2
                | rt d => exact fun σ2 G2 R2 H2 v g2 r2 rel2 rv => run _ G2 R2 H2 v (g.trans g2) (r.trans r2) rel2 rv
end
/-! ### isinstance of the error in hand -/
def isxE (i : Nat) (tb : List Nat → Option Bool) : C D := fun st => match st.env[i]? with
  | some (.exc x) => (match tb x with
    | some b => some (.ok (.bl b), st)
    | none => none)
  | _ => none
/-- what is known of the error's class: is it one of these -/
def IsX (K : PySem.W.Frag) (cl : CL) (us : List Value) (tb : List Nat → Option Bool) : Prop := ∀ y b, tb y = some b → 1 < y.length ∧ ∀ C, cl y = some C → PySem.W.kitAny K (.ref C) us = some b ∧ ExcC K C
def IsX1 (K : PySem.W.Frag) (cl : CL) (u : Value) (tb : List Nat → Option Bool) : Prop := ∀ y b, tb y = some b → 1 < y.length ∧ ∀ C, cl y = some C → PySem.W.kitOne K (.ref C) u = some b ∧ ExcC K C
def rIsET (K : PySem.W.Frag) (D a : Addr) : List V → Hp → VK → Prop := fun xs H Q => ∃ (tp : Addr) (cs : List V) (us : List Value) (b : Bool), xs = [.ref a, .ref tp] ∧ H tp = some (.tup cs) ∧ Paired ClsV cs us ∧ PySem.W.kitAny K (.ref D) us = some b ∧ Q (.bl b) H
theorem call_isET {X : Cx} {a D : Addr} {oe : Obj} {pn : List (Addr × Obj)} (C : ExcC X.K D) (hz : Zc (.ref D) none oe) (hf : ∃ vs, oe.data = .fields vs) : CallR (X.suite a ((a, oe) :: pn)) (.builtin "isinstance") (rIsET X.K D a) := by
  intro pins s σ H xs us Q I r h
  obtain ⟨tp, cs, ws, b, rfl, hT, hp, e, q⟩ := h
  obtain ⟨u1, u2, rfl, r1, r2⟩ := vals2 r
  cases (show u2 = Value.ref tp from r2)
  cases (show u1 = Value.ref a from r1)
  obtain ⟨hget, _⟩ := I.pin (a, oe) (List.mem_append.mpr (.inl List.mem_cons_self))
  obtain ⟨vs, hv⟩ := hf
  have J : PySem.W.InstAt s.heap a oe D none := by
    obtain ⟨oc, od, oda, osl⟩ := oe
    obtain ⟨h1, h2⟩ := hz
    dsimp only at h1 h2 hv
    subst h1 h2 hv
    exact ⟨hget, rfl, rfl, trivial⟩
  obtain ⟨_, its, rv, o, h1, h2, n, h3⟩ := (show ObjOk X.prog X.w H s.heap tp (.tup cs) from I.hok tp _ hT)
  have e3 := ClsV.all hp rv
  subst e3
  obtain ⟨oc, od, dt, sl⟩ := o
  simp only at h2 h3
  subst h2 h3
  exact PySem.W.kia_tup (PySem.W.handS_kitx_exc C.hg C.hk C.hs C.hd C.ha C.hn C.ht C.hm) I.kIn J h1 e (fun z => nomatch z) fun tk => ⟨.bl b, H, I.kept (t' := tk) fun _ _ z => z, rfl, q⟩
section
variable {X : Cx} {cl : CL} {W : WX} {a : Addr} {oe : Obj} {cls : Value} {d : Option Addr} {pn : List (Addr × Obj)}
theorem exc_read {B : Base} {st : Ms} {G H : Hp} {R : List Addr} {σ : L2.St} {K : PySem.W.Frag} {i : Nat} {y : List Nat} (rel : Rel K (clE cl a cls d) B st G R σ H) (e : st.env[i]? = some (.exc y)) (hy : 1 < y.length) : ∃ C : Addr, cls = .ref C ∧ d = none ∧ cl y = some C ∧ σ[i]? = some (some (.ref a)) := by
  obtain ⟨a', C, h1, h2, h3, h4⟩ := rel.ex i y e
  cases h1
  rw [clE_of hy] at h3
  have h2 : exC cls d = some C := h2
  unfold exC at h2
  split at h2
  · cases h2
    exact ⟨C, rfl, rfl, h3, h4⟩
  · cases h2
theorem se_isX1 {i : Nat} {n T : Str} {p p1 p2 pos : Pos} {c : V} {u : Value} {tb : List Nat → Option Bool} (hz : Zc cls d oe) (hf : ∃ vs, oe.data = .fields vs) (hN : (X.suite a ((a, oe) :: pn)).N[i]? = some n) (hm : X.mg "isinstance" = none) (hgi : Gl (X.suite a ((a, oe) :: pn)) "isinstance")
    (hT : PE (X.suite a ((a, oe) :: pn)) (.Name T p2) (tC c)) (hcu : ClsV c u) (hx : IsX1 X.K cl u tb) (hv : Vis (X.suite a ((a, oe) :: pn)).env.scope n := by first | exact Or.inl rfl | exact Or.inr (Or.inl rfl) | exact Or.inr (Or.inr rfl)) (hd : (n == ("__debug__" : Str)) = false := by decide)
    (hcd : (n == ("__classdict__" : Str)) = false := by decide)
    (he : starEach [.Name n p1, .Name T p2] (X.suite a ((a, oe) :: pn)).env = (false, eval (.Name n p1) (X.suite a ((a, oe) :: pn)).env) :: starEach [.Name T p2] (X.suite a ((a, oe) :: pn)).env := by rfl) (hpl : (backTo pos (starEach [.Name T p2] (X.suite a ((a, oe) :: pn)).env)).any (·.1) = false := by rfl)
    (he2 : starEach [.Name T p2] (X.suite a ((a, oe) :: pn)).env = (false, eval (.Name T p2) (X.suite a ((a, oe) :: pn)).env) :: starEach [] (X.suite a ((a, oe) :: pn)).env := by rfl) :
    PE (X.suite a ((a, oe) :: pn)) (.Call (.Name "isinstance" p) [.Name n p1, .Name T p2] [] pos) (TU X.K (clE cl a cls d) W (isxE i tb)) := by
  refine ⟨fun pins s σ H Q I q => ?_⟩
  obtain ⟨B, st, G, R, rel, run⟩ := q
  unfold isxE at run
  split at run
  · rename_i y e
    split at run
    · rename_i b eb
      obtain ⟨hy, hk⟩ := hx y b eb
      obtain ⟨C, rfl, rfl, hC, hσ⟩ := exc_read rel e hy
      obtain ⟨k1, k2⟩ := hk C hC
      exact (pe_callB (call_isE k2 hz hf) hgi hm (by decide +kernel) (pa_cons (pe_var hN hv hd hcd) (pa_cons hT pa_nil he2) he) (by decide +kernel) (by decide +kernel) he hpl).run pins s σ H Q I ⟨.ref a, hσ, c, u, b, rfl, fun w r => hcu.eq r, k1, run.done rel (.bl b) (.bl b)⟩
    · exact run.elim
  · exact run.elim
theorem se_isXT {i : Nat} {n : Str} {es : List Expr} {kt : Nat} {p p1 p2 pos : Pos} {cs : List V} {us : List Value} {tb : List Nat → Option Bool} {ta : TA} (hz : Zc cls d oe) (hf : ∃ vs, oe.data = .fields vs) (hN : (X.suite a ((a, oe) :: pn)).N[i]? = some n) (hm : X.mg "isinstance" = none) (hgi : Gl (X.suite a ((a, oe) :: pn)) "isinstance")
    (hT : PA (X.suite a ((a, oe) :: pn)) es ta) (hta : ∀ σ H Q, Q cs H → ta σ H Q) (hcs : cs.length ≤ 100) (hcu : Paired ClsV cs us) (hx : IsX X.K cl us tb) (hv : Vis (X.suite a ((a, oe) :: pn)).env.scope n := by first | exact Or.inl rfl | exact Or.inr (Or.inl rfl) | exact Or.inr (Or.inr rfl)) (hd : (n == ("__debug__" : Str)) = false := by decide)
    (hcd : (n == ("__classdict__" : Str)) = false := by decide)
    (he : starEach [.Name n p1, .Tuple es kt p2] (X.suite a ((a, oe) :: pn)).env = (false, eval (.Name n p1) (X.suite a ((a, oe) :: pn)).env) :: starEach [.Tuple es kt p2] (X.suite a ((a, oe) :: pn)).env := by rfl) (hpl : (backTo pos (starEach [.Tuple es kt p2] (X.suite a ((a, oe) :: pn)).env)).any (·.1) = false := by rfl)
    (he2 : starEach [.Tuple es kt p2] (X.suite a ((a, oe) :: pn)).env = (false, eval (.Tuple es kt p2) (X.suite a ((a, oe) :: pn)).env) :: starEach [] (X.suite a ((a, oe) :: pn)).env := by rfl) :
    PE (X.suite a ((a, oe) :: pn)) (.Call (.Name "isinstance" p) [.Name n p1, .Tuple es kt p2] [] pos) (TU X.K (clE cl a cls d) W (isxE i tb)) := by
  refine ⟨fun pins s σ H Q I q => ?_⟩
  obtain ⟨B, st, G, R, rel, run⟩ := q
  unfold isxE at run
  split at run
  · rename_i y e
    split at run
    · rename_i b eb
      obtain ⟨hy, hk⟩ := hx y b eb
      obtain ⟨C, rfl, rfl, hC, hσ⟩ := exc_read rel e hy
      obtain ⟨k1, k2⟩ := hk C hC
      refine (pe_callB (call_isET k2 hz hf) hgi hm (by decide +kernel) (pa_cons (pe_var hN hv hd hcd) (pa_cons (pe_tup hT) pa_nil he2) he) (by decide +kernel) (by decide +kernel) he hpl).run pins s σ H Q I ⟨.ref a, hσ, hta _ _ _ ⟨by rw [sizeLine_eq]; omega, fun tp htp => ?_⟩⟩
      exact ⟨tp, cs, us, b, rfl, upd_same, hcu, k1, run G R _ (Same.refl _) (Pre.refl _) (rel.new htp) (.bl b) (.bl b)⟩
    · exact run.elim
  · exact run.elim
end
end VL
namespace VL
open PySem PySem.Spec PyProof.Rows L2
/-! ### facts of a program's classes of errors -/
def tabX (l : List (List Nat × Bool)) : List Nat → Option Bool := fun y => l.lookup y
@[simp] theorem e_tabX (l : List (List Nat × Bool)) (y : List Nat) : tabX l y = l.lookup y := (rfl)
/-- the classes of the program's top, by their names -/
def clN (K : PySem.W.Frag) : CL := fun n => if 1 < n.length then (match PySem.W.nsIn K mainGlobals (toS n) with
  | some (some (.ref C)) => some C
  | _ => none) else none
theorem clN_nil (K : PySem.W.Frag) : clN K [] = none := rfl
theorem clN_of {K : PySem.W.Frag} {x : Str} {n : List Nat} {C : Addr} (a : PySem.W.nsIn K mainGlobals x = some (some (.ref C))) (hn : 1 < n.length) (e : toS n = x) : clN K n = some C := by
  unfold clN
  rw [if_pos hn, e, a]
structure XRaise (K : PySem.W.Frag) (mg : Str → Option Value) (cl : CL) (x : Str) (n : List Nat) (C : Addr) : Prop where
  g : mg x = some (.ref C)
  c : cl n = some C
  x : PySem.W.excIn K C [.type "ValueError", .type "Exception", .type "BaseException", .type "object"] "ValueError.__new__" = true
  k : PySem.W.keepIn K (.ref C) = true
  b : PySem.W.subIn K (.ref C) (.type "BaseException") = some true
  t : PySem.W.typeIn K (.ref C) = some (.type "type")
section
variable {X : Cx} {cl : CL} {W : WX}
theorem ss_raiseX {x m : Str} {n : List Nat} {C : Addr} {j : Nat} {p p2 pos pos' : Pos} (h : XRaise X.K X.mg cl x n C) (hc : X.calm = true) (tk : Takes X W) (hg : Gl X x) (hdb : (x == ("__debug__" : Str)) = false := by decide) :
    PS X (.Raise (some (.Call (.Name x p) [.Constant (.str m) j p2] [] pos)) none pos') (TUS X.K cl W (raiseS n)) :=
  ss_raise hc tk h.c (pmk_own PySem.F.excBase_ValueError h.x h.g h.k (raises_own h.b h.t) hg hdb)
end
section
variable {K : PySem.W.Frag} {cl : CL} {c u : Value} {us : List Value} {y : List Nat} {b : Bool} {l : List (List Nat × Bool)} {C : Addr}
theorem hand_nil : Hand K cl c (tabX []) := fun y b h => by cases h
theorem hand_cons (hC : cl y = some C) (hm : PySem.W.exmOne K (.ref C) c = some b) (h : Hand K cl c (tabX l)) : Hand K cl c (tabX ((y, b) :: l)) := fun z b' e => by
  have e : List.lookup z ((y, b) :: l) = some b' := e
  rw [List.lookup_cons] at e
  split at e
  · rename_i q
    cases e
    rw [eq_of_beq q]
    exact ⟨C, hC, hm⟩
  · exact h z b' e
theorem isX1_nil : IsX1 K cl u (tabX []) := fun y b h => by cases h
theorem isX1_cons (hn : 1 < y.length) (hC : cl y = some C) (hm : PySem.W.kitOne K (.ref C) u = some b) (hE : ExcC K C) (h : IsX1 K cl u (tabX l)) : IsX1 K cl u (tabX ((y, b) :: l)) := fun z b' e => by
  have e : List.lookup z ((y, b) :: l) = some b' := e
  rw [List.lookup_cons] at e
  split at e
  · rename_i q
    cases e
    rw [eq_of_beq q]
    exact ⟨hn, fun C' h' => by rw [hC] at h'; cases h'; exact ⟨hm, hE⟩⟩
  · exact h z b' e
theorem isX_nil : IsX K cl us (tabX []) := fun y b h => by cases h
theorem isX_cons (hn : 1 < y.length) (hC : cl y = some C) (hm : PySem.W.kitAny K (.ref C) us = some b) (hE : ExcC K C) (h : IsX K cl us (tabX l)) : IsX K cl us (tabX ((y, b) :: l)) := fun z b' e => by
  have e : List.lookup z ((y, b) :: l) = some b' := e
  rw [List.lookup_cons] at e
  split at e
  · rename_i q
    cases e
    rw [eq_of_beq q]
    exact ⟨hn, fun C' h' => by rw [hC] at h'; cases h'; exact ⟨hm, hE⟩⟩
  · exact h z b' e
end
theorem boot_ValueError1 : bootBuiltins "ValueError" = some (.type "ValueError") := by decide +kernel
theorem walkX {l : PySem.W.OpenLaw} {q : Program} {loose : List Str} {XP : (Str → Option Value) → Heap → Prop} {YP : World → Heap → Prop} {d : DefRec} {K : Params → PySem.W.Frag} {k : Nat} {F : Fn} {sd : Stmt} (L : LawOk F) (hn : l.most = some 63) (hdf : d.params.defaults = []) (hr : Room k callerA)
    (hY : ∀ (w : World) (h : Heap), YP w h → (K w.params).In h) (hd : d.name = ("law" : Str))
    (G : ∀ (w : World) (mg : Str → Option Value) (h : Heap), (K w.params).In h → h.Ns mainGlobals mg → DefAt (K w.params) mg "law" sd ["script"] ∧ ∀ (base : Heap) (f : Addr) (fd : FuncData), Fun (K w.params) "law" "law" sd f fd → FnOk l.prog w (K w.params) mg base (L2.CX l.prog w) k f fd ["script"] (spU (K w.params) (clN (K w.params)) 1 F)) :
    PySem.W.WalkO q loose XP YP l.row.toRowW d [] (fun f vs => PySem.call f vs) := walk (cl := fun w => clN (K w.params)) L hn hdf hr hY hd G
section
variable {α : Type} {st : Ms}
@[simp] theorem e_raiseS (x : List Nat) : raiseS x st = some (.ex x, st) := (rfl)
@[simp] theorem e_isxE (i : Nat) (tb : List Nat → Option Bool) : isxE i tb st = (match st.env[i]? with
  | some (.exc x) => (match tb x with
    | some b => some (.ok (.bl b), st)
    | none => none)
  | _ => none) := (rfl)
@[simp] theorem e_tryAsS (body : Stm) (i : Nat) (hb : List Nat → Option Bool) (suite : Stm) : tryAsS body i hb suite st = (match body st with
  | some (.ok f, st1) => some (.ok f, st1)
  | some (.ex x, st1) => (match hb x with
    | some true => if i < st1.env.length ∧ 1 < x.length then (match suite { st1 with env := st1.env.set i (.exc x) } with
        | some (.ok f, st2) => if (st2.env.set i .un).all Cell.nx = true then some (.ok f, { st2 with env := st2.env.set i .un }) else none
        | _ => none) else none
    | some false => some (.ex x, st1)
    | none => none)
  | none => none) := (rfl)
@[simp] theorem e_tryS (body : Stm) (hb : List Nat → Option Bool) (suite : Stm) : tryS body hb suite st = (match body st with
  | some (.ok f, st1) => some (.ok f, st1)
  | some (.ex x, st1) => (match hb x with
    | some true => (match suite st1 with
        | some (.ok f, st2) => some (.ok f, st2)
        | _ => none)
    | some false => some (.ex x, st1)
    | none => none)
  | none => none) := (rfl)
@[simp] theorem nx_un : Cell.nx .un = true := (rfl)
@[simp] theorem nx_v (d : D) : Cell.nx (.v d) = true := (rfl)
@[simp] theorem nx_own (o : MO) : Cell.nx (.own o) = true := (rfl)
end
end VL

/-! range downwards -/
namespace VL
open PySem PySem.Spec PyProof.Rows L2
def getRd (lo : Int) (n : Nat) (_ : Ms) (i : Nat) : Option (Option D) := some (if i < n then some (.int (lo - i)) else none)
def downI : D → D → D → Option ItV
  | .int lo, .int hi, .int k => if k = -1 ∧ rngOk lo hi = true then some ⟨(lo - hi).toNat, getRd lo (lo - hi).toNat⟩ else none
  | _, _, _ => none
def itR3 (E E' E'' : C D) : C ItV := bndC E fun d => bndC E' fun d' => bndC E'' fun d'' => optC (downI d d' d'')
section
variable {X : Cx} {cl : CL} {W : WX} {B : Base} {st : Ms} {G G' H : Hp} {R R' : List Addr} {σ : L2.St} {a b c e : Expr} {E E' E'' : C D} {pos : Pos}
theorem jok_rngd {K : PySem.W.Frag} {lo : Int} {n m : Nat} : JOk K cl G R ⟨m, getRd lo n⟩ (Itc lo (-1) n) := by
  intro B st G' R' σ H i g r rel
  show (∀ d, some (if i < n then some (D.int (lo - i)) else none) = some (some d) → _) ∧ (some (if i < n then some (D.int (lo - i)) else none) = some none → _)
  by_cases hi : i < n
  · rw [if_pos hi]
    refine ⟨(fun d h => ⟨hi, fun v H' hy => ?_⟩), (fun h => by cases h)⟩
    cases h
    obtain ⟨rfl, rfl⟩ := hy
    have e : lo + (i : Nat) * (-1 : Int) = lo - (i : Int) := by omega
    rw [e]
    exact ⟨G', Same.refl _, rel, .int _⟩
  · rw [if_neg hi]
    exact ⟨(fun d h => by cases h), (fun _ => Nat.le_of_not_lt hi)⟩
theorem si_r3 {tg : Expr} {p : Pos} (hg : Gl X "range") (hm : X.mg "range" = none) (ha : PE X a (TU X.K cl W E)) (hb : PE X b (TU X.K cl W E')) (hc : PE X c (TU X.K cl W E''))
    (hs : starEach [a, b, c] X.env = (false, eval a X.env) :: starEach [b, c] X.env := by rfl) (hs2 : starEach [b, c] X.env = (false, eval b X.env) :: starEach [c] X.env := by rfl) (hs3 : starEach [c] X.env = (false, eval c X.env) :: starEach [] X.env := by rfl)
    (hpl : (backTo pos (starEach [b, c] X.env)).any (·.1) = false := by rfl) : PI X tg (.Call (.Name "range" p) [a, b, c] [] pos) (TI' X.K cl W (itR3 E E' E'')) := by
  refine pi_imp (pi_range3 hg hm (pa_cons ha (pa_cons hb (pa_cons hc pa_nil hs3) hs2) hs) hs hpl) fun σ H Rr h => ?_
  obtain ⟨B, st, G, R, rel, run⟩ := h
  refine ⟨B, st, G, R, rel, run.bind.mono fun d st1 G1 R1 H1 _ _ _ _ ⟨rel1, _, _, run1⟩ v rv => ?_⟩
  refine ⟨B, st1, G1, R1, rel1, run1.bind.mono fun d' st2 G2 R2 H2 _ _ _ _ ⟨rel2, _, _, run2⟩ w rw => ?_⟩
  refine ⟨B, st2, G2, R2, rel2, run2.bind.mono fun d'' st3 G3 R3 H3 _ _ _ _ ⟨rel3, _, _, run3⟩ u ru => ?_⟩
  unfold optC at run3
  split at run3
  · rename_i iv e
    unfold downI at e
    split at e
    · split at e
      · rename_i lo hi k hz
        cases e
        obtain ⟨rfl, hz⟩ := hz
        obtain ⟨z0, z1, z2, z3⟩ := rngOk_of hz
        cases rv
        cases rw
        cases ru
        exact ⟨_, _, -1, _, rfl, RgC.neg z0 z1 z2 z3, run3.done rel3 _ jok_rngd⟩
      · cases e
    · cases e
  · exact run3.elim
end
def rngB (lo : Int) (n : Nat) : List D := (List.range n).map fun (i : Nat) => .int (lo - (i : Int))
theorem rngB_get (lo : Int) (n i : Nat) : (rngB lo n)[i]? = if i < n then some (.int (lo - i)) else none := by
  unfold rngB
  rw [List.getElem?_map]
  by_cases h : i < n
  · rw [List.getElem?_range h, if_pos h]; rfl
  · rw [if_neg h, List.getElem?_eq_none (by simpa using h)]; rfl
theorem rngB_len (lo : Int) (n : Nat) : (rngB lo n).length = n := by simp [rngB]
@[simp] theorem e_for_rngd (lo : Int) (n : Nat) (t : Tgt) (body : Stm) (st : Ms) (m : Nat) (hm : n < m) : forI (getRd lo n) t body m 0 st = forL t body (rngB lo n) st := by
  rw [forI_list (get := getRd lo n) (ds := rngB lo n) (fun st i => by rw [rngB_get]; rfl) _ _ _ (by rw [rngB_len]; omega) (by omega)]; rfl
@[simp] theorem e_itR3 (E E' E'' : C D) (st : Ms) : itR3 E E' E'' st = bndC E (fun d => bndC E' fun d' => bndC E'' fun d'' => optC (downI d d' d'')) st := (rfl)
@[simp] theorem e_downI (lo hi : Int) : downI (.int lo) (.int hi) (.int (-1)) = (if rngOk lo hi = true then some ⟨(lo - hi).toNat, getRd lo (lo - hi).toNat⟩ else none) := by
  unfold downI
  simp
end VL

/-! instances of the program's classes -/
namespace VL
open PySem PySem.Spec PyProof.Rows L2
def lookF : List (List Nat) → List D → List Nat → Option D
  | n :: fn, d :: fv, f => if n = f then some d else lookF fn fv f
  | _, _, _ => none
def putFn : List (List Nat) → List Nat → List (List Nat)
  | [], f => [f]
  | n :: fn, f => if n = f then n :: fn else n :: putFn fn f
def putFv : List (List Nat) → List D → List Nat → D → List D
  | [], _, _, d => [d]
  | n :: fn, x :: fv, f, d => if n = f then d :: fv else x :: putFv fn fv f d
  | _ :: _, [], _, d => [d]
section
variable {K : PySem.W.Frag} {G : Hp} {R : List Addr}
theorem lookF_ok {f : List Nat} : ∀ {fvs : List (Str × V)} {fn : List (List Nat)} {fv : List D}, fvs.map (·.1) = fn.map toS → RepA K G R (fvs.map (·.2)) fv → ∀ {d : D}, lookF fn fv f = some d → ∃ v, fvs.lookup (toS f) = some v ∧ RepV K G R v d
  | [], [], fv, _, _, d, e => by cases fv <;> cases e
  | [], n :: fn, _, h, _, _, _ => by cases h
  | p :: fvs, [], _, h, _, _, _ => by cases h
  | (g, v) :: fvs, n :: fn, fv, h, r, d, e => by
    rw [List.map_cons, List.map_cons, List.cons.injEq] at h
    rw [List.map_cons] at r
    cases r with
    | cons rv r =>
      obtain ⟨h1, h2⟩ := h
      have h1 : g = toS n := h1
      unfold lookF at e
      by_cases hn : n = f
      · rw [if_pos hn] at e
        cases e
        refine ⟨v, ?_, rv⟩
        rw [h1, hn]
        simp [List.lookup]
      · rw [if_neg hn] at e
        obtain ⟨w, q1, q2⟩ := lookF_ok h2 r e
        refine ⟨w, ?_, q2⟩
        have hb : (toS f == g) = false := by
          rw [h1]
          exact beq_eq_false_iff_ne.mpr fun z => hn (toS_inj z).symm
        rw [List.lookup_cons, hb]
        exact q1
theorem lookF_no {f : List Nat} : ∀ {fvs : List (Str × V)} {fn : List (List Nat)}, fvs.map (·.1) = fn.map toS → f ∉ fn → fvs.lookup (toS f) = none
  | [], _, _, _ => rfl
  | (g, v) :: fvs, [], h, _ => by cases h
  | (g, v) :: fvs, n :: fn, h, hf => by
    rw [List.map_cons, List.map_cons, List.cons.injEq] at h
    obtain ⟨h1, h2⟩ := h
    have h1 : g = toS n := h1
    have hb : (toS f == g) = false := by
      rw [h1]
      exact beq_eq_false_iff_ne.mpr fun z => hf (by rw [toS_inj z]; exact List.mem_cons_self ..)
    rw [List.lookup_cons, hb]
    exact lookF_no h2 fun z => hf (List.mem_cons_of_mem _ z)
theorem putF_ok {f : List Nat} {v : V} {d : D} (hv : RepV K G R v d) : ∀ {fvs : List (Str × V)} {fn : List (List Nat)} {fv : List D}, fvs.map (·.1) = fn.map toS → RepA K G R (fvs.map (·.2)) fv →
    (putF (toS f) v fvs).map (·.1) = (putFn fn f).map toS ∧ RepA K G R ((putF (toS f) v fvs).map (·.2)) (putFv fn fv f d)
  | [], [], fv, _, _ => ⟨rfl, .cons hv .nil⟩
  | [], n :: fn, _, h, _ => by cases h
  | p :: fvs, [], _, h, _ => by cases h
  | (g, w) :: fvs, n :: fn, fv, h, r => by
    rw [List.map_cons, List.map_cons, List.cons.injEq] at h
    rw [List.map_cons] at r
    cases r with
    | cons rv r =>
      obtain ⟨h1, h2⟩ := h
      have h1 : g = toS n := h1
      have e : putF (toS f) v ((g, w) :: fvs) = if g = toS f then (g, v) :: fvs else (g, w) :: putF (toS f) v fvs := rfl
      rw [e]
      unfold putFn putFv
      by_cases hn : n = f
      · rw [if_pos (by rw [h1, hn]), if_pos hn, if_pos hn]
        refine ⟨?_, .cons hv r⟩
        rw [List.map_cons, List.map_cons, h2, h1]
      · rw [if_neg (fun z => hn (by rw [h1] at z; exact toS_inj z)), if_neg hn, if_neg hn]
        obtain ⟨q1, q2⟩ := putF_ok hv h2 r
        refine ⟨?_, .cons rv q2⟩
        rw [List.map_cons, List.map_cons, q1, h1]
end
/-- what a class of the program must be -/
structure ClsT (K : PySem.W.Frag) (cl : CL) (c : List Nat) (fs : List (List Nat)) (C : Addr) : Prop where
  l : 1 < c.length
  c : cl c = some C
  k : Cls K C
  n : ∀ f ∈ fs, NoAttr K C (toS f)
/-- an instance of a class -/
def insO (st : Ms) (c : List Nat) (x : Opd) : Option (Nat × List (List Nat) × List D) := match x with
  | .d (.ob n) => (match st.M[n]? with
    | some (.ins c' fn fv) => if c' = c then some (n, fn, fv) else none
    | _ => none)
  | _ => none
theorem insO_ok {st : Ms} {c : List Nat} {x : Opd} {n : Nat} {fn : List (List Nat)} {fv : List D} (h : insO st c x = some (n, fn, fv)) : x = .d (.ob n) ∧ st.M[n]? = some (.ins c fn fv) := by
  unfold insO at h
  split at h
  · rename_i k
    split at h
    · rename_i c' fn' fv' e
      split at h
      · rename_i hc
        cases h
        subst hc
        exact ⟨rfl, e⟩
      · cases h
    · cases h
  · cases h
/-- o.f -/
def fldF (c f : List Nat) (st : Ms) (x : Opd) : Option D := match insO st c x with
  | some (_, fn, fv) => lookF fn fv f
  | none => none
def fldE (A : C Opd) (c f : List Nat) : C Opd := bndC A fun x => fun st => match fldF c f st x with
  | some d => some (.ok (.d d), st)
  | none => none
/-- o.f = e -/
def fputF (c f : List Nat) (d : D) (x : Opd) : Stm := fun st => match insO st c x with
  | some (n, fn, fv) => if fn.length < 1000 then some (.ok .nx, { st with M := st.M.set n (.ins c (putFn fn f) (putFv fn fv f d)) }) else none
  | none => none
def fputS (E : C D) (A : C Opd) (c f : List Nat) : Stm := bndC E fun d => bndC A fun x => fputF c f d x
/-- o.m(e, ..) -/
def callF (n : Nat) (F : Fn) (k : Nat) (ds : List D) : C D := fun st => if (D.ob k :: ds).length = n then match F (.ob k :: ds) st.M with
    | some (.ok d, M') => some (.ok d, { st with M := M' })
    | some (.ex x, M') => some (.ex x, { st with M := M' })
    | none => none
  else none
def methF (n : Nat) (F : Fn) (c m : List Nat) (Es : C (List D)) (x : Opd) : C D := fun st => match insO st c x with
  | some (k, fn, _) => if fn.contains m = false then bndC Es (fun ds => callF n F k ds) st else none
  | none => none
def methE (n : Nat) (F : Fn) (c m : List Nat) (A : C Opd) (Es : C (List D)) : C D := bndC A fun x => methF n F c m Es x
/-- C(e, ..) -/
def makeF (n : Nat) (F : Fn) (c : List Nat) (ds : List D) : C D := fun st => if (D.ob st.M.length :: ds).length = n then match F (.ob st.M.length :: ds) (st.M ++ [.ins c [] []]) with
    | some (.ok .non, M') => some (.ok (.ob st.M.length), { st with M := M' })
    | _ => none
  else none
def makeE (n : Nat) (F : Fn) (c : List Nat) (Es : C (List D)) : C D := bndC Es fun ds => makeF n F c ds
section
variable {X : Cx} {cl : CL} {W : WX} {B : Base} {st : Ms} {G G' H : Hp} {R R' : List Addr} {σ : L2.St} {o e v : Expr} {es : List Expr} {A : C Opd} {E : C D} {Es : C (List D)} {pos pos' apos p : Pos} {C : Addr} {c f m : List Nat} {fs : List (List Nat)}
theorem ins_read {u : V} {x : Opd} {n : Nat} {fn : List (List Nat)} {fv : List D} (T : ClsT X.K cl c fs C) (rel : Rel X.K cl B st G R σ H) (ru : RepOp X.K G R σ u x) (e : insO st c x = some (n, fn, fv)) :
    ∃ (a : Addr) (dx : Addr) (fvs : List (Str × V)), u = .ref a ∧ st.M[n]? = some (.ins c fn fv) ∧ R[n]? = some a ∧ H a = some (.ins C dx fvs) ∧ fvs.map (·.1) = fn.map toS ∧ RepA X.K G R (fvs.map (·.2)) fv := by
  obtain ⟨rfl, e1⟩ := insO_ok e
  have ru : RepV X.K G R u (.ob n) := ru
  cases ru with
  | ob ha =>
    rename_i a
    obtain ⟨h1, C', dx, fvs, ⟨h2, h3⟩, h4, h5, h6⟩ := rel.m.sh n _ a e1 ha
    rw [T.c] at h3
    cases h3
    exact ⟨a, dx, fvs, rfl, e1, ha, h4, h5, h6⟩
theorem se_fld {x : Str} (T : ClsT X.K cl c fs C) (hx : x = toS f) (hf : f ∈ fs) (ha : PE X o (TO' X.K cl W A)) (hb : attributeBase o x X.env (eval o X.env) = eval o X.env := by rfl) : PE X (.Attribute o x pos) (TO' X.K cl W (fldE A c f)) := by
  subst hx
  refine pe_imp (pe_fld ha hb) fun σ H Q h => ?_
  obtain ⟨B, st, G, R, rel, run⟩ := h
  refine ⟨B, st, G, R, rel, run.bind.mono fun x st1 G1 R1 H1 _ _ _ _ hh u ru => ?_⟩
  obtain ⟨rel1, _, _, run1⟩ := hh
  cases e : fldF c f st1 x with
  | none => rw [e] at run1; exact run1.elim
  | some d =>
    rw [e] at run1
    unfold fldF at e
    cases e0 : insO st1 c x with
    | none => rw [e0] at e; cases e
    | some y =>
      obtain ⟨n, fn, fv⟩ := y
      rw [e0] at e
      obtain ⟨a, dx, fvs, rfl, h1, h2, h3, h4, h5⟩ := ins_read T rel1 ru e0
      obtain ⟨w, q1, q2⟩ := lookF_ok h4 h5 e
      exact ⟨a, C, dx, fvs, w, rfl, h3, T.k, T.n f hf, q1, run1.done rel1 w q2⟩
theorem ss_fput {x : Str} (T : ClsT X.K cl c fs C) (hx : x = toS f) (hf : f ∈ fs) (hv : PE X v (TU X.K cl W E)) (ha : PE X o (TO' X.K cl W A)) (hs : swapsWith v (some (.Attribute o x pos')) pos.line X.env = pure false := by rfl) : PS X (.Assign [.Attribute o x pos'] v pos) (TUS X.K cl W (fputS E A c f)) := by
  subst hx
  refine ps_imp (ps_fld ha hv hs) fun D σ H h => ?_
  obtain ⟨B, st, G, R, rel, run⟩ := h
  refine ⟨B, st, G, R, rel, (RunS.bind run).mono fun d st1 G1 R1 H1 _ _ _ _ hh y ry => ?_⟩
  obtain ⟨rel1, _, _, run1⟩ := hh
  refine ⟨B, st1, G1, R1, rel1, (RunS.bind run1).mono fun x st2 G2 R2 H2 _ g2 r2 _ hh u ru => ?_⟩
  obtain ⟨rel2, _, _, run3⟩ := hh
  unfold fputF at run3
  cases e0 : insO st2 c x with
  | none => rw [e0] at run3; exact run3.elim
  | some z =>
    obtain ⟨n, fn, fv⟩ := z
    rw [e0] at run3
    simp only at run3
    by_cases hl : fn.length < 1000
    · rw [if_pos hl] at run3
      obtain ⟨a, dx, fvs, rfl, h1, h2, h3, h4, h5⟩ := ins_read T rel2 ru e0
      obtain ⟨q1, q2⟩ := putF_ok (f := f) (ry.mono g2 r2) h4 h5
      have fl : fvs.length < 1000 := by
        have := congrArg List.length h4
        rw [List.length_map, List.length_map] at this
        omega
      exact ⟨a, C, dx, fvs, rfl, h3, T.k, T.n f hf, fl, run3 _ G2 R2 _ (Same.refl _) (Pre.refl _) (rel2.setOb h1 h2 rfl ⟨C, dx, _, ⟨T.l, T.c⟩, upd_same, q1, q2⟩)⟩
    · rw [if_neg hl] at run3; exact run3.elim
end
/-! ### methods -/
def OkM (P : Program) (w : World) (K : PySem.W.Frag) (mg : Str → Option Value) (base : Heap) (cl : CL) (k : Nat) (C : Addr) (x : Str) (ps : List Str) (F : Fn) : Prop :=
  ∃ f fd, Meth K C x f ∧ Binds K fd ps [] ∧ FnOk P w K mg base (L2.CX P w) k f fd ps (spU K cl ps.length F)
section
variable {X : Cx} {cl : CL} {W : WX} {B : Base} {st : Ms} {G G' H : Hp} {R R' : List Addr} {σ : L2.St} {o e v : Expr} {es : List Expr} {A : C Opd} {E : C D} {Es : C (List D)} {pos pos' apos p : Pos} {C : Addr} {c f m : List Nat} {fs : List (List Nat)} {k n : Nat} {x : Str} {ps : List Str} {F : Fn} {Q' : VK}
theorem callF_run {a : Addr} {j : Nat} {ds : List D} {vs : List V} {Q : VK} (rel : Rel X.K cl B st G R σ H) (hR : R[j]? = some a) (ra : RepA X.K G R vs ds)
    (run : Run X.K cl W B σ G R (callF n F j ds st) (fun d _ G' R' H' => ∀ v, RepV X.K G' R' v d → Q v H')) : spU X.K cl n F (.ref a :: vs) H Q (WE W σ) :=
  call_run rel (.cons (.ob hR) ra) run
/-- o.m(e, ..), which may raise -/
def tMethX (C : Addr) (m : Str) (sp : Sp) (E : L2.St → XK) (ta : TE) (t : TA) : TE := fun σ H Q => ta σ H fun x H1 => ∃ a dx fs, x = .ref a ∧ H1 a = some (.ins C dx fs) ∧ fs.lookup m = none ∧ t σ H1 fun vs H2 => sp (x :: vs) H2 Q (E σ)
theorem pe_methX {pl : Sem Bool} {CX : CXT} {sp : Sp} {E : L2.St → XK} {f : Addr} {fd : FuncData} {ta : TE} {t : TA} (he : PE X o ta) (c : Cls X.K C) (hm : Meth X.K C x f) (F : FnOk X.prog X.w X.K X.mg X.base CX k f fd ps sp) (hr : Room k X.A) (hb : Binds X.K fd ps []) (hx : ∀ σ, PassesAt CX X σ (E σ)) (ha : PA X (e :: es) t)
    (hst : starEach (e :: es) X.env = (false, eval e X.env) :: starEach es X.env := by rfl) (hpl : (backTo pos (starEach es X.env)).any (·.1) = false := by rfl)
    (ht : eval (.Call (.Attribute o x apos) (e :: es) [] pos) X.env = (do
      let ov ← eval o X.env
      standAt apos.atName
      let (f, first) ← holding [ov] (getMethod ov x pl)
      callWith pos f first (backTo pos (starEach (e :: es) X.env)) (backToKw pos (keywordEach [] X.env))) := by rfl) :
    PE X (.Call (.Attribute o x apos) (e :: es) [] pos) (tMethX C x sp E ta t) := by
  refine ⟨fun pins s σ H Q I h => ?_⟩
  refine PySem.W.methodCall_KW (pl := pl) (thn (he.run pins s σ H _ I h) fun u s1 ⟨y, H1, I1, rx, a, dx, fs, ex, ea, l, q⟩ => ?_) ht
  subst ex
  obtain rfl : u = Value.ref a := rx
  refine getmeth_ok I1 ea c hm l ?_
  refine PySem.W.callWith_K (first := [.ref a]) (h₀ := X.base) I.ok.mod.kin hm.kp (thn (ha.run pos pins s1 σ H1 _ I1 q) fun us s2 ⟨vs, H2, I2, r, q2⟩ => ⟨I2.kIn, ?_⟩) hst hpl
  exact run_fnS (us := .ref a :: us) (vs := .ref a :: vs) F hr hb (hx σ) I2 (.cons rfl r) q2
theorem pe_methX0 {pl : Sem Bool} {CX : CXT} {sp : Sp} {E : L2.St → XK} {f : Addr} {fd : FuncData} {ta : TE} (he : PE X o ta) (c : Cls X.K C) (hm : Meth X.K C x f) (F : FnOk X.prog X.w X.K X.mg X.base CX k f fd ps sp) (hr : Room k X.A) (hb : Binds X.K fd ps []) (hx : ∀ σ, PassesAt CX X σ (E σ))
    (ht : eval (.Call (.Attribute o x apos) [] [] pos) X.env = (do
      let ov ← eval o X.env
      standAt apos.atName
      let (f, first) ← holding [ov] (getMethod ov x pl)
      callWith pos f first (backTo pos (starEach [] X.env)) (backToKw pos (keywordEach [] X.env))) := by rfl) :
    PE X (.Call (.Attribute o x apos) [] [] pos) (tMethX C x sp E ta tNil) := by
  refine ⟨fun pins s σ H Q I h => ?_⟩
  refine PySem.W.methodCall_KW (pl := pl) (thn (he.run pins s σ H _ I h) fun u s1 ⟨y, H1, I1, rx, a, dx, fs, ex, ea, l, q⟩ => ?_) ht
  subst ex
  obtain rfl : u = Value.ref a := rx
  refine getmeth_ok I1 ea c hm l ?_
  exact PySem.W.callWith_K0 (first := [.ref a]) I1.kIn hm.kp (run_fnS (us := [.ref a]) (vs := [.ref a]) F hr hb (hx σ) I1 (.cons rfl .nil) q)
theorem meth_read {ta : TE} {t : TA} {f : Addr} (T : ClsT X.K cl c fs C) (hes : ∀ σ H Q, TUA X.K cl W Es σ H Q → t σ H Q) (h : TU X.K cl W (methE n F c m A Es) σ H Q') (hta : ∀ σ H Q, TO' X.K cl W A σ H Q → ta σ H Q) : tMethX C (toS m) (spU X.K cl n F) (WE W) ta t σ H Q' := by
  obtain ⟨B, st, G, R, rel, run⟩ := h
  refine hta _ _ _ ⟨B, st, G, R, rel, run.bind.mono fun y st1 G1 R1 H1 _ _ _ _ hh u ru => ?_⟩
  obtain ⟨rel1, _, _, run1⟩ := hh
  unfold methF at run1
  cases e0 : insO st1 c y with
  | none => rw [e0] at run1; exact run1.elim
  | some z =>
    obtain ⟨j, fn, fv⟩ := z
    rw [e0] at run1
    simp only at run1
    cases hc : fn.contains m with
    | true => rw [hc, if_neg (by simp)] at run1; exact run1.elim
    | false =>
      rw [hc, if_pos rfl] at run1
      obtain ⟨a, dx, fvs, rfl, h1, h2, h3, h4, h5⟩ := ins_read T rel1 ru e0
      have hnm : m ∉ fn := fun z => by
        have : fn.contains m = true := List.contains_iff_mem.mpr z
        rw [hc] at this; cases this
      refine ⟨a, dx, fvs, rfl, h3, lookF_no h4 hnm, hes _ _ _ ⟨B, st1, G1, R1, rel1, run1.bind.mono fun ds st2 G2 R2 H2 _ _ r2 _ hh2 vs rs => ?_⟩⟩
      obtain ⟨rel2, _, _, run2⟩ := hh2
      exact callF_run rel2 (r2.get h2) rs run2
theorem se_meth {pl : Sem Bool} (T : ClsT X.K cl c fs C) (h : OkM X.prog X.w X.K X.mg X.base cl k C x ps F) (hr : Room k X.A) (tk : Takes X W) (hx : x = toS m) (ha : PE X o (TO' X.K cl W A)) (hes : PA X (e :: es) (TUA X.K cl W Es)) (hn : ps.length = n := by rfl)
    (hst : starEach (e :: es) X.env = (false, eval e X.env) :: starEach es X.env := by rfl) (hpl : (backTo pos (starEach es X.env)).any (·.1) = false := by rfl)
    (ht : eval (.Call (.Attribute o x apos) (e :: es) [] pos) X.env = (do
      let ov ← eval o X.env
      standAt apos.atName
      let (f, first) ← holding [ov] (getMethod ov x pl)
      callWith pos f first (backTo pos (starEach (e :: es) X.env)) (backToKw pos (keywordEach [] X.env))) := by rfl) :
    PE X (.Call (.Attribute o x apos) (e :: es) [] pos) (TU X.K cl W (methE n F c m A Es)) := by
  subst hx
  subst hn
  obtain ⟨f, fd, hm, hb, hF⟩ := h
  exact pe_imp (pe_methX (pl := pl) ha T.k hm hF hr hb (fun σ => passAt tk σ) hes hst hpl ht) fun σ H Q h => meth_read (f := f) T (fun _ _ _ q => q) h fun _ _ _ q => q
theorem se_meth0 {pl : Sem Bool} (T : ClsT X.K cl c fs C) (h : OkM X.prog X.w X.K X.mg X.base cl k C x ps F) (hr : Room k X.A) (tk : Takes X W) (hx : x = toS m) (ha : PE X o (TO' X.K cl W A)) (hn : ps.length = n := by rfl)
    (ht : eval (.Call (.Attribute o x apos) [] [] pos) X.env = (do
      let ov ← eval o X.env
      standAt apos.atName
      let (f, first) ← holding [ov] (getMethod ov x pl)
      callWith pos f first (backTo pos (starEach [] X.env)) (backToKw pos (keywordEach [] X.env))) := by rfl) :
    PE X (.Call (.Attribute o x apos) [] [] pos) (TU X.K cl W (methE n F c m A nilA)) := by
  subst hx
  subst hn
  obtain ⟨f, fd, hm, hb, hF⟩ := h
  exact pe_imp (pe_methX0 (pl := pl) ha T.k hm hF hr hb (fun σ => passAt tk σ) ht) fun σ H Q h => meth_read (f := f) T (t := tNil) (fun σ H Q q => by
    obtain ⟨B, st, G, R, rel, run⟩ := q
    exact run.done rel [] .nil) h fun _ _ _ q => q
/-! ### instances made -/
theorem se_make {y : Str} {fI : Addr} {fd : FuncData} (T : ClsT X.K cl c fs C) (M : Mk X.K C fI) (hF : FnOk X.prog X.w X.K X.mg X.base (L2.CX X.prog X.w) k fI fd ps (spU X.K cl ps.length F)) (hr : Room (k + 1) X.A) (hg : Gl X y) (hm : X.mg y = some (.ref C)) (hb : Binds X.K fd ps [])
    (ha : PA X (e :: es) (TUA X.K cl W Es)) (hn : ps.length = n := by rfl) (hdb : (y == ("__debug__" : Str)) = false := by decide) (he : starEach (e :: es) X.env = (false, eval e X.env) :: starEach es X.env := by rfl) (hpl : (backTo pos (starEach es X.env)).any (·.1) = false := by rfl) :
    PE X (.Call (.Name y p) (e :: es) [] pos) (TU X.K cl W (makeE n F c Es)) := by
  subst hn
  refine pe_imp (pe_make (E := E0) M hF hr hg hm hb .nil passL ha hdb he hpl) fun σ H Q h => ?_
  obtain ⟨B, st, G, R, rel, run⟩ := h
  refine ⟨B, st, G, R, rel, run.bind.mono fun ds st1 G1 R1 H1 _ _ _ _ hh vs rs z dx hz hdx hne => ?_⟩
  obtain ⟨rel1, _, _, run1⟩ := hh
  have rel2 : Rel X.K cl B st1 G1 R1 σ (upd H1 dx (.own z)) := rel1.new hdx
  have hz2 : (upd H1 dx (.own z)) z = none := by rw [upd_ne (Ne.symm hne)]; exact hz
  have f2 := rel2.fresh hz2
  have rel3 : Rel X.K cl B st1 G1 R1 σ (upd (upd H1 dx (.own z)) z (.ins C dx [])) := rel2.put f2
  have rel4 := rel3.share (o := .ins c [] []) f2 ⟨C, dx, [], ⟨T.l, T.c⟩, upd_same, rfl, .nil⟩
  have hR : (R1 ++ [z])[st1.M.length]? = some z := by
    rw [List.getElem?_append_right (by rw [rel1.m.len]; exact Nat.le_refl _), rel1.m.len, Nat.sub_self]; rfl
  have pr : Pre R1 (R1 ++ [z]) := ⟨[z], rfl⟩
  unfold makeF at run1
  split at run1
  · rename_i hl
    rw [List.append_nil]
    refine ⟨G1, R1 ++ [z], st1.M ++ [.ins c [] []], .ob st1.M.length :: ds, ?_, rel4.m.entry, .cons (.ob hR) (rs.mono (Same.refl _) pr), ?_⟩
    · rw [List.length_cons, rs.length]; exact hl
    · unfold EndF
      cases eF : F (.ob st1.M.length :: ds) (st1.M ++ [.ins c [] []]) with
      | none => rw [eF] at run1; exact run1.elim
      | some q =>
        obtain ⟨r, M'⟩ := q
        rw [eF] at run1
        cases r with
        | ex x => exact run1.elim
        | ok d =>
          cases d with
          | non =>
            intro v G' R' H' g p rm rv
            cases rv
            refine ⟨rfl, ?_⟩
            exact run1 G' R' H' g (pr.trans p) (rel4.after rm p) (.ref z) (.ob (p.get hR))
          | _ => exact run1.elim
  · exact run1.elim
end
end VL

/-! a numbered dict is walked: it stands locked while the loop runs -/
namespace VL
open PySem PySem.Spec PyProof.Rows L2
def unlk (n : Nat) (r : Option (Res Fl × Ms)) : Option (Res Fl × Ms) := match r with
  | some (.ok f, st) => (match st.M[n]? with
    | some (.dif ks vs) => some (.ok f, { st with M := st.M.set n (.dic ks vs) })
    | _ => none)
  | _ => none
def peekO (A : C Opd) (st : Ms) : Option Nat := match A st with
  | some (.ok (.d (.ob n)), _) => some n
  | _ => none
def forOI (A : C Opd) (n : Nat) (ks : List D) (t : Tgt) (body : Stm) : Stm := bndC A fun x => match x with
  | .d (.ob m) => if m = n then forI (getK ks) t body (ks.length + 1) 0 else failC
  | _ => failC
def forO (A : C Opd) (t : Tgt) (body : Stm) : Stm := fun st => match peekO A st with
  | some n => (match st.M[n]? with
    | some (.dic ks vs) => unlk n (forOI A n ks t body { st with M := st.M.set n (.dif ks vs) })
    | _ => none)
  | none => none
section
variable {K : PySem.W.Frag} {cl : CL} {W : WX} {B : Base} {st : Ms} {G G' H : Hp} {R R' : List Addr} {σ : L2.St}
theorem Rel.setObK {n : Nat} {a : Addr} {o o' : MO} {ho : HO} (r : Rel K cl B st G R σ H) (h1 : st.M[n]? = some o) (h2 : R[n]? = some a) (hk : B.keep a = none) (ro : RepO K cl G R (upd H a ho) a o') :
    Rel K cl B { st with M := st.M.set n o' } G R σ (upd H a ho) := by
  have hG := (r.m.sh n o a h1 h2).1
  have hR : a ∈ R := List.mem_of_getElem? h2
  have hl : n < st.M.length := (List.getElem?_eq_some_iff.mp h1).1
  refine ⟨⟨fun b o e => ?_, r.m.g0, r.m.gn, r.m.r0, r.m.rk, fun b o e => ?_, ?_, r.m.nd, fun m o2 b q1 q2 => ?_⟩, r.len, r.val, fun j o2 q => ?_, r.dis, r.ex⟩
  · rw [upd_ne (ne_of_none e hG)]; exact r.m.same b o e
  · have ne : b ≠ a := fun z => by
      subst z
      rw [hk] at e
      cases e
    rw [upd_ne ne]; exact r.m.kp b o e
  · show R.length = (st.M.set n o').length
    rw [List.length_set]; exact r.m.len
  · have q1 : (st.M.set n o')[m]? = some o2 := q1
    by_cases hm : m = n
    · subst hm
      rw [List.getElem?_set_self hl] at q1
      cases q1
      rw [h2] at q2; cases q2
      exact ⟨hG, ro⟩
    · rw [List.getElem?_set_ne (Ne.symm hm)] at q1
      obtain ⟨q3, q4⟩ := r.m.sh m o2 b q1 q2
      refine ⟨q3, q4.mono (Same.refl _) (Pre.refl _) (upd_ne ?_)⟩
      intro z; subst z
      obtain ⟨l1, e1⟩ := List.getElem?_eq_some_iff.mp q2
      obtain ⟨l2, e2⟩ := List.getElem?_eq_some_iff.mp h2
      exact hm ((List.getElem_inj r.m.nd).mp (e1.trans e2.symm))
  · obtain ⟨b, q1, q2, q3, q4, q5⟩ := r.own j o2 q
    refine ⟨b, q1, q2, q3, q4, q5.mono (Same.refl _) (Pre.refl _) (upd_ne ?_)⟩
    intro z; subst z
    exact q3 hR
theorem lock_in {n : Nat} {d : Addr} {ks vs : List D} (rel : Rel K cl B st G R σ H) (h : st.M[n]? = some (.dic ks vs)) (hR : R[n]? = some d) : ∃ kvs : List (Key × V), H d = some (.dK kvs) ∧ B.keep d = none ∧ ks = kvs.map (fun p => keyD p.1) ∧
    ∀ od, Rel K cl ⟨B.G, upd B.keep d (.frz od (.dK kvs)), R⟩ { st with M := st.M.set n (.dif ks vs) } G R σ (upd H d (.frz od (.dK kvs))) := by
  obtain ⟨hG, kvs, h1, h2, h3⟩ := rel.m.sh n _ d h hR
  have hd : d ∈ R := List.mem_of_getElem? hR
  have hk : B.keep d = none := by
    cases e : B.keep d with
    | none => rfl
    | some o =>
      have q1 := (rel.m.rk d hd o e).2
      have q2 := rel.m.kp d o e
      rw [h1] at q2
      cases q2
      cases q1
  refine ⟨kvs, h1, hk, h2, fun od => ?_⟩
  have r := rel.setObK (o' := .dif ks vs) (ho := .frz od (.dK kvs)) h hR hk ⟨od, kvs, upd_same, h2, h3⟩
  refine ⟨⟨r.m.same, r.m.g0, fun a o e => ?_, Pre.refl _, fun a ha o e => ⟨ha, ?_⟩, fun a o e => ?_, r.m.len, r.m.nd, r.m.sh⟩, r.len, r.val, fun j o e => ?_, r.dis, r.ex⟩
  · have ne : a ≠ d := fun z => by rw [z, hG] at e; cases e
    rcases r.m.gn a o e with q | q
    · exact .inl q
    · exact .inr (by show upd B.keep d _ a = none; rw [upd_ne ne]; exact q)
  · have e : upd B.keep d (.frz od (.dK kvs)) a = some o := e
    by_cases z : a = d
    · rw [z, upd_same] at e; cases e; rfl
    · rw [upd_ne z] at e; exact (r.m.rk a ha o e).2
  · have e : upd B.keep d (.frz od (.dK kvs)) a = some o := e
    by_cases z : a = d
    · rw [z, upd_same] at e ⊢; exact e
    · rw [upd_ne z] at e; exact r.m.kp a o e
  · obtain ⟨p, q1, q2, q3, q4, q5⟩ := r.own j o e
    refine ⟨p, q1, q2, q3, ?_, q5⟩
    have ne : p ≠ d := fun z => q3 (z ▸ hd)
    show upd B.keep d _ p = none
    rw [upd_ne ne]; exact q4
theorem lock_out {n : Nat} {d : Addr} {od : Obj} {kvs : List (Key × V)} {ks vs : List D} (hk : B.keep d = none) (hrk : ∀ a ∈ R, ∀ o, B.keep a = some o → a ∈ B.R ∧ isFz o = true) (hr0 : Pre B.R R) (hR : R[n]? = some d) (rr : Pre R R') (rel : Rel K cl ⟨B.G, upd B.keep d (.frz od (.dK kvs)), R⟩ st G' R' σ H) (h : st.M[n]? = some (.dif ks vs)) :
    H d = some (.frz od (.dK kvs)) ∧ Rel K cl B { st with M := st.M.set n (.dic ks vs) } G' R' σ (upd H d (.dK kvs)) := by
  have hR' := rr.get hR
  have hd : d ∈ R' := List.mem_of_getElem? hR'
  have hH : H d = some (.frz od (.dK kvs)) := rel.m.kp d _ upd_same
  refine ⟨hH, ?_⟩
  have kk : ∀ a o, B.keep a = some o → upd B.keep d (.frz od (.dK kvs)) a = some o := fun a o e => by
    have ne : a ≠ d := fun z => by rw [z, hk] at e; cases e
    rw [upd_ne ne]; exact e
  have hG := (rel.m.sh n _ d h hR').1
  have rel0 : Rel K cl B st G' R' σ H := by
    refine ⟨⟨rel.m.same, rel.m.g0, fun a o e => ?_, hr0.trans rel.m.r0, fun a ha o e => ?_, fun a o e => rel.m.kp a o (kk a o e), rel.m.len, rel.m.nd, rel.m.sh⟩, rel.len, rel.val, fun j o e => ?_, rel.dis, rel.ex⟩
    · have ne : a ≠ d := fun z => by rw [z, hG] at e; cases e
      rcases rel.m.gn a o e with q | q
      · exact .inl q
      · have q : upd B.keep d _ a = none := q
        rw [upd_ne ne] at q
        exact .inr q
    · exact hrk a (rel.m.rk a ha o (kk a o e)).1 o e
    · obtain ⟨p, q1, q2, q3, q4, q5⟩ := rel.own j o e
      refine ⟨p, q1, q2, q3, ?_, q5⟩
      have ne : p ≠ d := fun z => q3 (z ▸ hd)
      have q4 : upd B.keep d _ p = none := q4
      rw [upd_ne ne] at q4
      exact q4
  obtain ⟨_, od', kvs', h1, h2, h3⟩ := rel.m.sh n _ d h hR'
  rw [hH] at h1
  cases h1
  exact rel0.setObK h hR' hk ⟨kvs, upd_same, h2, h3⟩
end
section
variable {X : Cx} {cl : CL} {W : WX} {B : Base} {st : Ms} {G G' H : Hp} {R R' : List Addr} {σ : L2.St} {A : C Opd} {S1 : Stm} {pos : Pos} {n : Nat}
def tLk (D : Ends) (d : Addr) (od : Obj) (u : HO) : Ends := ⟨fun σ' H' => H' d = some (.frz od u) ∧ D.nx σ' (upd H' d u), fun v H' => H' d = some (.frz od u) ∧ D.rt v (upd H' d u), fun σ' H' => H' d = some (.frz od u) ∧ D.bk σ' (upd H' d u), fun σ' H' => H' d = some (.frz od u) ∧ D.ct σ' (upd H' d u)⟩
theorem unlk_run {d : Addr} {od : Obj} {kvs : List (Key × V)} {D : Ends} {o : Option (Res Fl × Ms)} (hk : B.keep d = none) (hrk : ∀ a ∈ R, ∀ o, B.keep a = some o → a ∈ B.R ∧ isFz o = true) (hr0 : Pre B.R R) (hR : R[n]? = some d) (h : RunS X.K cl W B G R (unlk n o) D) :
    RunS X.K cl W ⟨B.G, upd B.keep d (.frz od (.dK kvs)), R⟩ G R o (tLk D d od (.dK kvs)) := by
  unfold unlk at h
  split at h
  · rename_i f st'
    split at h
    · rename_i ks vs e
      cases f with
      | nx => exact fun σ' G' R' H' g r rel => ⟨(lock_out hk hrk hr0 hR r rel e).1, h σ' G' R' _ g r (lock_out hk hrk hr0 hR r rel e).2⟩
      | bk => exact fun σ' G' R' H' g r rel => ⟨(lock_out hk hrk hr0 hR r rel e).1, h σ' G' R' _ g r (lock_out hk hrk hr0 hR r rel e).2⟩
      | ct => exact fun σ' G' R' H' g r rel => ⟨(lock_out hk hrk hr0 hR r rel e).1, h σ' G' R' _ g r (lock_out hk hrk hr0 hR r rel e).2⟩
      | rt x => exact fun σ' G' R' H' v g r rel rv => ⟨(lock_out hk hrk hr0 hR r rel e).1, h σ' G' R' _ v g r (lock_out hk hrk hr0 hR r rel e).2 rv⟩
    · exact h.elim
  · exact h.elim
theorem ss_forO {iter tg : Expr} {body : List Stmt} {t : Tgt} (hp : PassesOwn (model X.prog X.w) X.A X.env X.xe) (hc : X.calm = true) (hi : PE X iter (TO' X.K cl W A)) (hg : PG X tg (gT X.K t)) (hb : PSs X body (TUS X.K cl W S1))
    (hs : ∀ x, foldedSetIterable iter X.env x = pure x := by intro _; rfl) : PS X (.For tg iter body [] pos) (TUS X.K cl W (forO A t S1)) := ps_imp (ps_lock (ps_for hp hc (pi_keys hi) hg hb hs)) fun D σ H h => by
  obtain ⟨B, st, G, R, rel, run⟩ := h
  unfold forO at run
  split at run
  · rename_i n _
    split at run
    · rename_i ks vs hn
      obtain ⟨d, hR⟩ : ∃ d, R[n]? = some d := by
        have := (List.getElem?_eq_some_iff.mp hn).1
        rw [← rel.m.len] at this
        exact ⟨_, List.getElem?_eq_getElem this⟩
      obtain ⟨kvs, h1, hk, hks, hin⟩ := lock_in rel hn hR
      refine ⟨d, .dK kvs, h1, True.intro, fun od => ?_⟩
      have run1 := unlk_run (od := od) (kvs := kvs) hk rel.m.rk rel.m.r0 hR run
      clear run
      have rel1 := hin od
      generalize hB : (⟨B.G, upd B.keep d (.frz od (.dK kvs)), R⟩ : Base) = B' at rel1 run1
      have hkp : B'.keep d = some (.frz od (.dK kvs)) := by rw [← hB]; exact upd_same
      clear hB hin
      show iKeys _ _ _ _
      refine ⟨B', _, G, R, rel1, (RunS.bind run1).mono fun x st1 G1 R1 H1 _ _ _ r1 hh v rv => ?_⟩
      obtain ⟨rel2, _, r2, run2⟩ := hh
      cases x with
      | cell i => exact run2.elim
      | d x => cases x with
      | ob m =>
        simp only at run2
        split at run2
        · rename_i hm
          subst hm
          have rv : RepV X.K G1 R1 v (.ob m) := rv
          cases rv with
          | ob hv =>
            rw [r2.get hR] at hv
            cases hv
            refine ⟨d, od, rfl, .inl ⟨kvs, rel2.m.kp _ _ hkp, ?_⟩⟩
            refine ⟨fun i m σ H => ∃ st G R, Same G1 G ∧ Pre R1 R ∧ Rel X.K cl B' st G R σ H ∧ RunS X.K cl W B' G R (forI (getK ks) t S1 m i st) (tLk D d od (.dK kvs)), ⟨ks.length + 1, st1, G1, R1, Same.refl _, Pre.refl _, rel2, run2⟩, ?_⟩
            rintro i m σ2 H2 ⟨st2, G2, R2, g2, r2, rel2, run2⟩
            have hH := rel2.m.kp _ _ hkp
            cases m with
            | zero => exact run2.elim
            | succ m =>
              unfold forI getK at run2
              try simp only at run2
              split at run2
              · rename_i e
                have e := Option.some.inj e
                rw [List.getElem?_eq_none_iff, hks, List.length_map] at e
                exact .inl ⟨⟨hH, e⟩, run2.nx rel2⟩
              · rename_i dd e
                have e := Option.some.inj e
                rw [hks, List.getElem?_map] at e
                obtain ⟨q, hq, rfl⟩ := Option.map_eq_some_iff.mp e
                refine .inr ⟨⟨hH, (List.getElem?_eq_some_iff.mp hq).1⟩, fun σ' H' => ∃ st G R, Same G1 G ∧ Pre R1 R ∧ Rel X.K cl B' st G R σ' H' ∧ RunS X.K cl W B' G R (forI (getK ks) t S1 m (i + 1) st) (tLk D d od (.dK kvs)), fun σ' H' ⟨st', G', R', q⟩ => ⟨m, Nat.lt_succ_self _, st', G', R', q⟩, fun v H' hy => ?_⟩
                obtain ⟨rfl, k, v', e1, rfl⟩ := hy
                rw [hq] at e1
                cases e1
                split at run2
                · rename_i env ee
                  refine setT_ok rel2 (rep_key k) ee fun σ4 rel4 => ⟨B', { st2 with env := env }, G2, R2, rel4, ?_⟩
                  split at run2
                  · rename_i st5 e5
                    rw [e5]
                    exact fun σ6 G6 R6 H6 g6 r6 rel6 => ⟨st5, G6, R6, g2.trans g6, r2.trans r6, rel6, run2.weak g6 r6⟩
                  · rename_i st5 e5
                    rw [e5]
                    exact fun σ6 G6 R6 H6 g6 r6 rel6 => ⟨st5, G6, R6, g2.trans g6, r2.trans r6, rel6, run2.weak g6 r6⟩
                  · rename_i st5 e5
                    rw [e5]
                    exact run2
                  · rename_i d st5 e5
                    rw [e5]
                    exact run2
                  · rename_i x st5 e5
                    rw [e5]
                    exact run2
                  · exact run2.elim
                · exact run2.elim
              · rename_i e
                cases e
        · exact run2.elim
      | _ => exact run2.elim
    · exact run.elim
  · exact run.elim
end
end VL

/-! is a key in a numbered dict, locked or not; the program's constants -/
namespace VL
open PySem PySem.Spec PyProof.Rows L2
def dicX (st : Ms) : Opd → Option (List D × List D)
  | .d (.ob n) => (match st.M[n]? with
    | some (.dic ks vs) => some (ks, vs)
    | some (.dif ks vs) => some (ks, vs)
    | _ => none)
  | _ => none
def inXF (st : Ms) (x y : Opd) : Option Bool := match dOf st x, dicX st y with
  | some k, some (ks, _) => if isKey k = true then some (ks.any fun z => keyEq z k) else none
  | _, _ => none
def notInXF (st : Ms) (x y : Opd) : Option Bool := (inXF st x y).map (!·)
section
variable {X : Cx} {cl : CL} {W : WX} {B : Base} {st : Ms} {G G' H : Hp} {R R' : List Addr} {σ : L2.St}
variable {a b c e : Expr} {A A' : C Opd} {E E' : C D} {pos apos cpos : Pos}
theorem inX_read {x y : V} {dx dy : Opd} {k : Bool} (rel : Rel X.K cl B st G R σ H) (hx : RepOp X.K G R σ x dx) (hy : RepOp X.K G R σ y dy) (e : inXF st dx dy = some k) : ∃ a o, y = .ref a ∧ DGet H a x o ∧ o.isSome = k := by
  unfold inXF at e
  split at e
  · rename_i d ks vs e1 e2
    split at e
    · rename_i hk
      cases e
      obtain ⟨z, rfl, rfl⟩ := isKey_rep (dOf_ok rel hx e1) hk
      unfold dicX at e2
      split at e2
      · rename_i n
        have hy : RepV X.K G R y (.ob n) := hy
        cases hy with
        | ob hR =>
          rename_i p
          split at e2
          · rename_i ks' vs' e3
            cases e2
            obtain ⟨_, kvs, h1, h2, h3⟩ := rel.m.sh n _ p e3 hR
            refine ⟨p, _, rfl, .inl ⟨kvs, z, .inl h1, rfl, rfl⟩, ?_⟩
            rw [h2, any_key, valV_any]
          · rename_i ks' vs' e3
            cases e2
            obtain ⟨_, od, kvs, h1, h2, h3⟩ := rel.m.sh n _ p e3 hR
            refine ⟨p, _, rfl, .inl ⟨kvs, z, .inr ⟨od, h1⟩, rfl, rfl⟩, ?_⟩
            rw [h2, any_key, valV_any]
          · cases e2
      · cases e2
    · cases e
  · cases e
theorem st_cmpX (hu : X.A.units + 1 < cLine) (ha : PE X a (TO' X.K cl W A)) (hb : PE X b (TO' X.K cl W A')) (hm : behindInMarks .In b = false := by rfl) : PT X (.Compare a [.In] [b] pos) (TUT X.K cl W (cmp2 inXF A A')) := by
  refine pt_imp (pt_cmp (pc_din hu ha hb) hm) fun σ H Q h => ?_
  refine TO_imp (inD_te (neg := false) h) fun x H1 h1 => TO_imp h1 fun y H2 h2 => ?_
  obtain ⟨B, st, G, R, dx, dy, k, rel, rx, ry, e, q⟩ := h2
  obtain ⟨p, o, rfl, g, eo⟩ := inX_read rel rx ry e
  exact ⟨p, o, rfl, g, _, rfl, by rw [eo]; exact q⟩
theorem se_cmpX (hu : X.A.units + 1 < cLine) (ha : PE X a (TO' X.K cl W A)) (hb : PE X b (TO' X.K cl W A')) (hm : behindInMarks .In b = false := by rfl) : PE X (.Compare a [.In] [b] pos) (TU X.K cl W (boolE (cmp2 inXF A A'))) := by
  refine pe_imp (pe_cmp (pc_din hu ha hb) hm) fun σ H Q h => ?_
  have h2 : TUT X.K cl W (cmp2 inXF A A') σ H (fun k H' => Q (.bl k) H') := by
    obtain ⟨B, st, G, R, rel, run⟩ := h
    refine ⟨B, st, G, R, rel, ?_⟩
    refine run.bind.mono fun k st1 G1 R1 H1 _ _ _ _ ⟨rel1, _, _, run1⟩ => ?_
    exact run1.done rel1 _ (.bl _)
  refine TO_imp (inD_te (neg := false) h2) fun x H1 h1 => TO_imp h1 fun y H2 h2 => ?_
  obtain ⟨B, st, G, R, dx, dy, k, rel, rx, ry, e, q⟩ := h2
  obtain ⟨p, o, rfl, g, eo⟩ := inX_read rel rx ry e
  exact ⟨p, o, rfl, g, by rw [eo]; exact q⟩
theorem st_cmpXn (hu : X.A.units + 1 < cLine) (ha : PE X a (TO' X.K cl W A)) (hb : PE X b (TO' X.K cl W A')) (hm : behindInMarks .NotIn b = false := by rfl) : PT X (.Compare a [.NotIn] [b] pos) (TUT X.K cl W (cmp2 notInXF A A')) := by
  refine pt_imp (pt_cmp (pc_dnotin hu ha hb) hm) fun σ H Q h => ?_
  refine TO_imp (inD_te (neg := false) h) fun x H1 h1 => TO_imp h1 fun y H2 h2 => ?_
  obtain ⟨B, st, G, R, dx, dy, k, rel, rx, ry, e, q⟩ := h2
  unfold notInXF at e
  obtain ⟨k', e0, rfl⟩ := Option.map_eq_some_iff.mp e
  obtain ⟨p, o, rfl, g, eo⟩ := inX_read rel rx ry e0
  exact ⟨p, o, rfl, g, _, rfl, by rw [eo]; exact q⟩
theorem se_cmpXn (hu : X.A.units + 1 < cLine) (ha : PE X a (TO' X.K cl W A)) (hb : PE X b (TO' X.K cl W A')) (hm : behindInMarks .NotIn b = false := by rfl) : PE X (.Compare a [.NotIn] [b] pos) (TU X.K cl W (boolE (cmp2 notInXF A A'))) := by
  refine pe_imp (pe_cmp (pc_dnotin hu ha hb) hm) fun σ H Q h => ?_
  have h2 : TUT X.K cl W (cmp2 notInXF A A') σ H (fun k H' => Q (.bl k) H') := by
    obtain ⟨B, st, G, R, rel, run⟩ := h
    refine ⟨B, st, G, R, rel, ?_⟩
    refine run.bind.mono fun k st1 G1 R1 H1 _ _ _ _ ⟨rel1, _, _, run1⟩ => ?_
    exact run1.done rel1 _ (.bl _)
  refine TO_imp (inD_te (neg := false) h2) fun x H1 h1 => TO_imp h1 fun y H2 h2 => ?_
  obtain ⟨B, st, G, R, dx, dy, k, rel, rx, ry, e, q⟩ := h2
  unfold notInXF at e
  obtain ⟨k', e0, rfl⟩ := Option.map_eq_some_iff.mp e
  obtain ⟨p, o, rfl, g, eo⟩ := inX_read rel rx ry e0
  exact ⟨p, o, rfl, g, by rw [eo]; exact q⟩


/-- a constant of the program -/
theorem se_glob {x : Str} {n : Int} {t : Nat} {pos : Pos} (hg : Gl X x) (hm : X.mg x = some (.int n t)) (hd : (x == ("__debug__" : Str)) = false := by decide) : PE X (.Name x pos) (TU X.K cl W (pureC (.int n))) :=
  pe_imp (pe_glob (v := .int n) hg hm ⟨t, rfl⟩ hd) fun σ H Q h => by
    obtain ⟨B, st, G, R, rel, run⟩ := h
    exact run.done rel _ (.int n)
/-- a class whose instances are made by C(e, ..) -/
def OkC (P : Program) (w : World) (K : PySem.W.Frag) (mg : Str → Option Value) (base : Heap) (cl : CL) (k : Nat) (C : Addr) (ps : List Str) (F : Fn) : Prop :=
  ∃ fI fd, Mk K C fI ∧ Binds K fd ps [] ∧ FnOk P w K mg base (L2.CX P w) k fI fd ps (spU K cl ps.length F)
theorem se_makeC {y : Str} {es : List Expr} {Es : C (List D)} {C : Addr} {c : List Nat} {fs : List (List Nat)} {k n : Nat} {ps : List Str} {F : Fn} {p : Pos} (T : ClsT X.K cl c fs C) (h : OkC X.prog X.w X.K X.mg X.base cl k C ps F) (hr : Room (k + 1) X.A) (hg : Gl X y) (hm : X.mg y = some (.ref C))
    (ha : PA X (e :: es) (TUA X.K cl W Es)) (hn : ps.length = n := by rfl) (hdb : (y == ("__debug__" : Str)) = false := by decide) (he : starEach (e :: es) X.env = (false, eval e X.env) :: starEach es X.env := by rfl) (hpl : (backTo pos (starEach es X.env)).any (·.1) = false := by rfl) :
    PE X (.Call (.Name y p) (e :: es) [] pos) (TU X.K cl W (makeE n F c Es)) := by
  obtain ⟨fI, fd, M, hb, hF⟩ := h
  exact se_make T M hF hr hg hm hb ha hn hdb he hpl
end
end VL

/-! evaluation of what VLX1, VLX3–VLX5 bring -/
namespace VL
open PySem PySem.Spec PyProof.Rows L2
section
variable {st : Ms}
@[simp] theorem e_insO_ob (c : List Nat) (n : Nat) : insO st c (.d (.ob n)) = (match st.M[n]? with
  | some (.ins c' fn fv) => if c' = c then some (n, fn, fv) else none
  | _ => none) := rfl
@[simp] theorem e_fldF (c f : List Nat) (x : Opd) : fldF c f st x = (match insO st c x with
  | some (_, fn, fv) => lookF fn fv f
  | none => none) := rfl
@[simp] theorem e_fldE (A : C Opd) (c f : List Nat) : fldE A c f st = bndC A (fun x => fun st => match fldF c f st x with
  | some d => some (.ok (.d d), st)
  | none => none) st := rfl
@[simp] theorem e_fputF (c f : List Nat) (d : D) (x : Opd) : fputF c f d x st = (match insO st c x with
  | some (n, fn, fv) => if fn.length < 1000 then some (.ok .nx, { st with M := st.M.set n (.ins c (putFn fn f) (putFv fn fv f d)) }) else none
  | none => none) := rfl
@[simp] theorem e_fputS (E : C D) (A : C Opd) (c f : List Nat) : fputS E A c f st = bndC E (fun d => bndC A fun x => fputF c f d x) st := rfl
@[simp] theorem e_callF (n : Nat) (F : Fn) (k : Nat) (ds : List D) : callF n F k ds st = (if (D.ob k :: ds).length = n then match F (.ob k :: ds) st.M with
    | some (.ok d, M') => some (.ok d, { st with M := M' })
    | some (.ex x, M') => some (.ex x, { st with M := M' })
    | none => none
  else none) := rfl
@[simp] theorem e_methF (n : Nat) (F : Fn) (c m : List Nat) (Es : C (List D)) (x : Opd) : methF n F c m Es x st = (match insO st c x with
  | some (k, fn, _) => if fn.contains m = false then bndC Es (fun ds => callF n F k ds) st else none
  | none => none) := rfl
@[simp] theorem e_methE (n : Nat) (F : Fn) (c m : List Nat) (A : C Opd) (Es : C (List D)) : methE n F c m A Es st = bndC A (fun x => methF n F c m Es x) st := rfl
@[simp] theorem e_makeF (n : Nat) (F : Fn) (c : List Nat) (ds : List D) : makeF n F c ds st = (if (D.ob st.M.length :: ds).length = n then match F (.ob st.M.length :: ds) (st.M ++ [.ins c [] []]) with
    | some (.ok .non, M') => some (.ok (.ob st.M.length), { st with M := M' })
    | _ => none
  else none) := rfl
@[simp] theorem e_makeE (n : Nat) (F : Fn) (c : List Nat) (Es : C (List D)) : makeE n F c Es st = bndC Es (fun ds => makeF n F c ds) st := rfl
@[simp] theorem e_dicXob (n : Nat) : dicX st (.d (.ob n)) = (match st.M[n]? with
    | some (.dic ks vs) => some (ks, vs)
    | some (.dif ks vs) => some (ks, vs)
    | _ => none) := rfl
@[simp] theorem e_inXF (x y : Opd) : inXF st x y = (match dOf st x, dicX st y with
  | some k, some (ks, _) => if isKey k = true then some (ks.any fun z => keyEq z k) else none
  | _, _ => none) := rfl
@[simp] theorem e_notInXF (x y : Opd) : notInXF st x y = (inXF st x y).map (!·) := rfl
@[simp] theorem e_keyEq_i (i j : Int) : keyEq (.int i) (.int j) = (i == j) := rfl
@[simp] theorem e_isF_non (x : Opd) : isF st x (.d .non) = isNoneO st x := rfl
@[simp] theorem e_isF_bl (x : Opd) (b : Bool) : isF st x (.d (.bl b)) = (match dOf st x with
    | some (.bl a) => some (decide (a = b))
    | _ => none) := rfl
@[simp] theorem e_isntF (x y : Opd) : isntF st x y = (isF st x y).map (!·) := rfl
theorem any_int (ks : List Int) (x : Int) : ((ks.map D.int).any fun z => keyEq z (.int x)) = decide (x ∈ ks) := by
  rw [Bool.eq_iff_iff, List.any_map, List.any_eq_true, decide_eq_true_eq]
  constructor
  · rintro ⟨k, h, e⟩
    have e : (k == x) = true := e
    rw [beq_iff_eq] at e
    exact e ▸ h
  · exact fun h => ⟨x, h, by show (x == x) = true; exact beq_self_eq_true x⟩
theorem any_int' (ks : List Int) (x : Int) : (ks.any ((fun z => keyEq z (.int x)) ∘ D.int)) = decide (x ∈ ks) := by
  have := any_int ks x
  rwa [List.any_map] at this
/-- the loop over a numbered dict -/
theorem forO_eq {A : C Opd} {t : Tgt} {body : Stm} {n : Nat} {ks vs : List D} {f : Fl} {st' : Ms} (h1 : A st = some (.ok (.d (.ob n)), st)) (h1' : A ⟨st.env, st.M.set n (.dif ks vs)⟩ = some (.ok (.d (.ob n)), ⟨st.env, st.M.set n (.dif ks vs)⟩)) (h2 : st.M[n]? = some (.dic ks vs))
    (h3 : forL t body ks ⟨st.env, st.M.set n (.dif ks vs)⟩ = some (.ok f, st')) (h4 : st'.M[n]? = some (.dif ks vs)) : forO A t body st = some (.ok f, { st' with M := st'.M.set n (.dic ks vs) }) := by
  have e1 : peekO A st = some n := by
    unfold peekO
    rw [h1]
  have e2 : forI (getK ks) t body (ks.length + 1) 0 ⟨st.env, st.M.set n (.dif ks vs)⟩ = some (.ok f, st') := by
    rw [forI_list (get := getK ks) (t := t) (body := body) (ds := ks) (fun _ _ => rfl) (ks.length + 1) 0 _ (by omega) (Nat.zero_le _), List.drop_zero]
    exact h3
  unfold forO
  rw [e1]
  simp only [h2]
  unfold forOI bndC
  rw [h1']
  simp only [if_pos]
  rw [e2]
  unfold unlk
  simp only [h4]
end
/-- a loop whose walk reads the store, run through -/
theorem forI_thru {get : Ms → Nat → Option (Option D)} {t : Tgt} {body : Stm} {n : Nat} (I : Nat → Ms → Prop)
    (hs : ∀ (i : Nat) (st : Ms), I i st → (i < n → ∃ d, get st i = some (some d) ∧ ∃ env, setT t d st.env = some env ∧ ∃ s', body ⟨env, st.M⟩ = some (.ok .nx, s') ∧ I (i + 1) s') ∧ (i = n → get st i = some none)) :
    ∀ (m i : Nat) (st : Ms), n < m + i → i ≤ n → I i st → ∃ s', forI get t body m i st = some (.ok .nx, s') ∧ I n s'
  | 0, i, st, hm, hi, _ => by omega
  | m + 1, i, st, hm, hi, h => by
    obtain ⟨h1, h2⟩ := hs i st h
    unfold forI
    by_cases e : i = n
    · rw [h2 e]
      exact ⟨st, rfl, e ▸ h⟩
    · obtain ⟨d, q1, env, q2, s', q3, q4⟩ := h1 (by omega)
      obtain ⟨s2, q5, q6⟩ := forI_thru I hs m (i + 1) s' (by omega) (by omega) q4
      refine ⟨s2, ?_, q6⟩
      simp only [q1, q2, q3]
      exact q5
/-- a loop whose walk reads the store, that runs through or gives back -/
theorem forI_inv {get : Ms → Nat → Option (Option D)} {t : Tgt} {body : Stm} {n : Nat} (I : Nat → Ms → Prop) (Z : Fl → Ms → Prop)
    (hs : ∀ (i : Nat) (st : Ms), I i st → (i < n → ∃ d, get st i = some (some d) ∧ ∃ env, setT t d st.env = some env ∧ ∃ f s', body ⟨env, st.M⟩ = some (.ok f, s') ∧ (match f with
      | .nx => I (i + 1) s'
      | .ct => I (i + 1) s'
      | .bk => Z .nx s'
      | .rt r => Z (.rt r) s')) ∧ (i = n → get st i = some none ∧ Z .nx st)) :
    ∀ (m i : Nat) (st : Ms), n < m + i → i ≤ n → I i st → ∃ f s', forI get t body m i st = some (.ok f, s') ∧ Z f s'
  | 0, i, st, hm, hi, _ => by omega
  | m + 1, i, st, hm, hi, h => by
    obtain ⟨h1, h2⟩ := hs i st h
    unfold forI
    by_cases e : i = n
    · rw [(h2 e).1]
      exact ⟨.nx, st, rfl, (h2 e).2⟩
    · obtain ⟨d, q1, env, q2, f, s', q3, q4⟩ := h1 (by omega)
      cases f with
      | nx =>
        obtain ⟨f, s2, q5, q6⟩ := forI_inv I Z hs m (i + 1) s' (by omega) (by omega) q4
        refine ⟨f, s2, ?_, q6⟩
        simp only [q1, q2, q3]
        exact q5
      | ct =>
        obtain ⟨f, s2, q5, q6⟩ := forI_inv I Z hs m (i + 1) s' (by omega) (by omega) q4
        refine ⟨f, s2, ?_, q6⟩
        simp only [q1, q2, q3]
        exact q5
      | bk => exact ⟨.nx, s', by simp only [q1, q2, q3], q4⟩
      | rt d => exact ⟨.rt d, s', by simp only [q1, q2, q3], q4⟩
theorem lcI_pureM {α : Type} {get : Ms → Nat → Option (Option D)} {t : Tgt} {vs : List Nat} {cond : C Bool} {elt : C D} (g : α → D) (p : α → Bool) (f : α → D) {e0 : List Cell} {M : List MO} {ds : List α} (hg : ∀ env i, get ⟨env, M⟩ i = some ((ds.map g)[i]?))
    (h : ∀ d ∈ ds, ∃ env1, setT t (g d) e0 = some env1 ∧ wipeE env1 vs = e0 ∧ cond ⟨env1, M⟩ = some (.ok (p d), ⟨env1, M⟩) ∧ (p d = true → elt ⟨env1, M⟩ = some (.ok (f d), ⟨env1, M⟩))) (hl : ds.length ≤ LIM) :
    ∀ (m i : Nat) (acc : List D) (env : List Cell), ds.length < m + i → i ≤ ds.length → acc.length ≤ i → wipeE env vs = e0 → ∃ env', lcI get t vs cond elt m i acc ⟨env, M⟩ = some (.ok (acc ++ ((ds.drop i).filter p).map f), ⟨env', M⟩) ∧ wipeE env' vs = e0
  | 0, i, acc, env, hm, hi, _, _ => by omega
  | m + 1, i, acc, env, hm, hi, ha, hw => by
    unfold lcI
    rw [hg]
    by_cases hi2 : i < ds.length
    · rw [List.getElem?_map, List.getElem?_eq_getElem hi2, List.drop_eq_getElem_cons hi2]
      obtain ⟨env1, h1, h2, h3, h4⟩ := h ds[i] (List.getElem_mem hi2)
      cases hp : p ds[i] with
      | true =>
        obtain ⟨env', q1, q2⟩ := lcI_pureM g p f hg h hl m (i + 1) (acc ++ [f ds[i]]) env1 (by omega) (by omega) (by rw [List.length_append, List.length_singleton]; omega) h2
        refine ⟨env', ?_, q2⟩
        rw [hp] at h3
        simp only [Option.map_some, hw, h1, h3, h4 hp]
        rw [if_pos (by omega), q1, List.filter_cons, if_pos hp]
        simp
      | false =>
        obtain ⟨env', q1, q2⟩ := lcI_pureM g p f hg h hl m (i + 1) acc env1 (by omega) (by omega) (by omega) h2
        refine ⟨env', ?_, q2⟩
        rw [hp] at h3
        simp only [Option.map_some, hw, h1, h3]
        rw [q1, List.filter_cons, if_neg (by simp [hp])]
    · rw [List.getElem?_eq_none (by rw [List.length_map]; omega), List.drop_eq_nil_of_le (by omega)]
      exact ⟨env, by simp, hw⟩
/-- a comprehension that changes nothing and whose walk reads the store -/
theorem lc_pureM {α : Type} {c : C ItV} {iv : ItV} {t : Tgt} {vs : List Nat} {cond : C Bool} {elt : C D} {st : Ms} (ds : List α) (g : α → D) (p : α → Bool) (f : α → D) (hc : c st = some (.ok iv, st))
    (hn : ds.length ≤ iv.n) (hg : ∀ env i, iv.get ⟨env, st.M⟩ i = some ((ds.map g)[i]?)) (hv : (vs.all (okV st.env) && tgtIn vs t) = true) (lt : ∀ i ∈ vs, i < st.env.length) (hl : ds.length ≤ LIM)
    (h : ∀ d ∈ ds, ∃ env1, setT t (g d) (wipeE st.env vs) = some env1 ∧ wipeE env1 vs = wipeE st.env vs ∧ cond ⟨env1, st.M⟩ = some (.ok (p d), ⟨env1, st.M⟩) ∧ (p d = true → elt ⟨env1, st.M⟩ = some (.ok (f d), ⟨env1, st.M⟩))) :
    lcE c t vs cond elt st = some (.ok (.nw (.lst ((ds.filter p).map f))), st) := by
  have ww : wipeE (wipeE st.env vs) vs = wipeE st.env vs := by
    apply List.ext_getElem?
    intro i
    by_cases hi : i ∈ vs
    · rw [wipe_hit hi (by rw [wipe_len]; exact lt i hi), wipe_hit hi (lt i hi)]
    · rw [wipe_get hi]
  obtain ⟨env', q1, q2⟩ := lcI_pureM (M := st.M) g p f hg h hl (iv.n + 1) 0 [] (wipeE st.env vs) (by omega) (Nat.zero_le _) (Nat.le_refl _) ww
  have hlen : env'.length = st.env.length := by
    have := congrArg List.length q2
    rw [wipe_len, wipe_len] at this
    exact this
  rw [e_lcE, e_bnd, hc]
  simp only
  rw [if_pos hv, q1]
  simp only
  rw [if_pos hlen, unwipe_back lt q2]
  simp
end VL

/-! the laws' bag of numbers -/
namespace VL
open PySem PySem.Spec PyProof.Rows L2
structure Bag where
  c : List Int
  p : Nat
  r : Int
  s : Int
  k : Int
def Bag.mo (b : Bag) : MO := .lst [.lst (b.c.map .int), .int b.p, .int b.r, .int b.s, .int b.k]
structure Bag.Ok (b : Bag) (t : Nat) : Prop where
  c0 : ∀ x ∈ b.c, 0 ≤ x ∧ x < 10 ^ 60
  cl : b.c.length ≤ 63
  r0 : 0 ≤ b.r
  r1 : b.r < 10 ^ 60
  s0 : 0 ≤ b.s
  s1 : b.s < 2147483647
  k0 : 0 ≤ b.k
  k1 : b.k ≤ t
theorem Bag.Ok.mono {b : Bag} {t u : Nat} (h : b.Ok t) (l : t ≤ u) : b.Ok u := ⟨h.c0, h.cl, h.r0, h.r1, h.s0, h.s1, h.k0, by have := h.k1; omega⟩
def bagB : Stm := seqS (asgV 1 (pureC (.int 7)))
  (seqS (forS (itD (valN (slE (rawV 0) partN (partS (pureC (.int 63)))))) (.one 2) (asgV 1 (numC modF (valN (bin2 addF (opdC (valN (bin2 addF (opdC (valN (bin2 mulF (rawV 1) (opdC (pureC (.int 48271)))))) (opdC (numC modF (varV 2) (pureC (.int 2147483629))))))) (opdC (pureC (.int 1))))) (pureC (.int 2147483647)))))
  (retS (shrN (lstE (consA (valN (lcE (itD (valN (slE (rawV 0) partN (partS (pureC (.int 63)))))) (.one 2) [2] yesC (numC modF (valN (un1 absF (rawV 2))) (numC powF (pureC (.int 10)) (pureC (.int 60)))))) (consA (pureC (.int 0)) (consA (pureC (.int 0)) (consA (varV 1) (consA (pureC (.int 0)) nilA)))))))))
def bagF : Fn := fnC 1 3 bagB
def drawB : Stm := seqS (ifS (andC (cmp2 eqF (opdC (ixE (rawV 0) (pureC (.int 2)))) (opdC (pureC (.int 0)))) (cmp2 ltF (opdC (ixE (rawV 0) (pureC (.int 1)))) (opdC (valN (un1 lenF (opdC (ixE (rawV 0) (pureC (.int 0))))))))) (seqS (sputS (ixE (opdC (ixE (rawV 0) (pureC (.int 0)))) (ixE (rawV 0) (pureC (.int 1)))) (rawV 0) (pureC (.int 2)))
  (sputS (valN (bin2 addF (opdC (ixE (rawV 0) (pureC (.int 1)))) (opdC (pureC (.int 1))))) (rawV 0) (pureC (.int 1)))) (ifS (cmp2 eqF (opdC (ixE (rawV 0) (pureC (.int 2)))) (opdC (pureC (.int 0)))) (seqS (sputS (valN (bin2 addF (opdC (ixE (rawV 0) (pureC (.int 4)))) (opdC (pureC (.int 1))))) (rawV 0) (pureC (.int 4)))
  (seqS (sputS (numC modF (valN (bin2 addF (opdC (valN (bin2 addF (opdC (valN (bin2 addF (opdC (numC powF (ixE (rawV 0) (pureC (.int 3))) (pureC (.int 3)))) (opdC (valN (bin2 mulF (opdC (pureC (.int 69621))) (opdC (ixE (rawV 0) (pureC (.int 3)))))))))) (opdC (valN (bin2 mulF (opdC (pureC (.int 1009))) (opdC (ixE (rawV 0) (pureC (.int 4)))))))))) (opdC (pureC (.int 1))))) (pureC (.int 2147483647))) (rawV 0) (pureC (.int 3)))
  (retS (numC modF (numC divF (ixE (rawV 0) (pureC (.int 3))) (pureC (.int 16))) (varV 1))))) skipS))
  (seqS (asgV 2 (numC modF (ixE (rawV 0) (pureC (.int 2))) (varV 1)))
  (seqS (sputS (numC divF (ixE (rawV 0) (pureC (.int 2))) (varV 1)) (rawV 0) (pureC (.int 2)))
  (retS (varV 2))))
def drawF : Fn := fnC 2 3 drawB
/-- a number drawn -/
def Bag.draw (b : Bag) (m : Int) : Int × Bag :=
  if b.r = 0 then
    match b.c[b.p]? with
    | some x => (x % m, { b with p := b.p + 1, r := x / m })
    | none => ((b.s ^ 3 + 69621 * b.s + 1009 * (b.k + 1) + 1) % 2147483647 / 16 % m, { b with s := (b.s ^ 3 + 69621 * b.s + 1009 * (b.k + 1) + 1) % 2147483647, k := b.k + 1 })
  else (b.r % m, { b with r := b.r / m })
theorem div_lt60 {x m : Int} (h0 : 0 ≤ x) (h1 : x < 10 ^ 60) (hm : 0 < m) : 0 ≤ x / m ∧ x / m < 10 ^ 60 := by
  refine ⟨Int.ediv_nonneg h0 (Int.le_of_lt hm), Int.lt_of_le_of_lt (Int.ediv_le_self _ h0) h1⟩
theorem draw_ok {b : Bag} {t : Nat} {m : Int} {r : List MO} (h : b.Ok t) (hm : 0 < m) (ml : m.natAbs.log2 < 9000) (ht : t < 2 ^ 200) :
    drawF [.ob 0, .int m] (b.mo :: r) = some (.ok (.int (b.draw m).1), (b.draw m).2.mo :: r) ∧ (b.draw m).2.Ok (t + 1) ∧ 0 ≤ (b.draw m).1 ∧ (b.draw m).1 < m := by
  obtain ⟨c, p, q, s, k⟩ := b
  obtain ⟨c0, cl, r0, r1, s0, s1, k0, k1⟩ := h
  simp only at c0 cl r0 r1 s0 s1 k0 k1
  by_cases hq : q = 0
  · subst hq
    cases hx : c[p]? with
    | some x =>
      have hx0 := c0 x (List.mem_of_getElem? hx)
      have hp : p < c.length := (List.getElem?_eq_some_iff.mp hx).1
      obtain ⟨d0, d1⟩ := div_lt60 hx0.1 hx0.2 hm
      have ev : (Bag.mk c p 0 s k).draw m = (x % m, ⟨c, p + 1, x / m, s, k⟩) := by
        simp [Bag.draw, hx]
      rw [ev]
      refine ⟨?_, ⟨c0, cl, d0, d1, s0, s1, k0, by simp only; omega⟩, Int.emod_nonneg _ (by omega), Int.emod_lt_of_pos _ hm⟩
      have hx' : c[p] = x := by rw [List.getElem?_eq_getElem hp] at hx; exact Option.some.inj hx
      simp [drawF, drawB, e_fn, Bag.mo, hp, hx', hm, ml]
    | none =>
      have hp : ¬ p < c.length := fun z => by rw [List.getElem?_eq_getElem z] at hx; cases hx
      have ev : (Bag.mk c p 0 s k).draw m = ((s ^ 3 + 69621 * s + 1009 * (k + 1) + 1) % 2147483647 / 16 % m, ⟨c, p, 0, (s ^ 3 + 69621 * s + 1009 * (k + 1) + 1) % 2147483647, k + 1⟩) := by
        simp [Bag.draw, hx]
      rw [ev]
      refine ⟨?_, ⟨c0, cl, r0, r1, Int.emod_nonneg _ (by decide), Int.emod_lt_of_pos _ (by decide), by simp only; omega, by simp only; omega⟩, Int.emod_nonneg _ (by omega), Int.emod_lt_of_pos _ hm⟩
      have l1 : Nat.log2 69621 + s.natAbs.log2 < 1000000 := by
        have := log2_le (i := s) (k := 31) (by omega)
        have : Nat.log2 69621 = 16 := by decide +kernel
        omega
      have l2 : Nat.log2 1009 + (k + 1).natAbs.log2 < 1000000 := by
        have := log2_le (i := k + 1) (k := 210) (by omega)
        have : Nat.log2 1009 = 9 := by decide +kernel
        omega
      have l3 : s.natAbs < 18446744073709551616 := by omega
      have l4 : Nat.log2 16 < 9000 := by decide +kernel
      have l5 : s.toNat % 2147483647 = s.toNat := by omega
      simp [drawF, drawB, e_fn, Bag.mo, hp, hm, ml, l1, l2, l3, l4]
  · have ev : (Bag.mk c p q s k).draw m = (q % m, ⟨c, p, q / m, s, k⟩) := by
      simp [Bag.draw, hq]
    rw [ev]
    obtain ⟨d0, d1⟩ := div_lt60 r0 r1 hm
    refine ⟨?_, ⟨c0, cl, d0, d1, s0, s1, k0, by simp only; omega⟩, Int.emod_nonneg _ (by omega), Int.emod_lt_of_pos _ hm⟩
    simp [drawF, drawB, e_fn, Bag.mo, hq, hm, ml]
theorem cut_le {α : Type} (xs : List α) (lo hi : Option Int) : (cutL xs lo hi).length ≤ xs.length := by
  unfold cutL
  rw [List.length_take, List.length_drop]; omega
def absI (i : Int) : Int := if i < 0 then -i else i
theorem bag_ok {ns : List Int} (h : ns.length ≤ 63) : ∃ b : Bag, b.Ok 0 ∧ bagF [.scr ns] [] = some (.ok (.ob 0), [b.mo]) := by
  have hc := cut_le ns none (some 63)
  obtain ⟨s', e1, s, x, s0, s1, hx, rfl⟩ := forL_thru (t := .one 2) (ds := (cutL ns none (some 63)).map D.int) (st := ⟨[.v (.scr ns), .v (.int 7), .un], []⟩) (body := asgV 1 (numC modF (valN (bin2 addF (opdC (valN (bin2 addF (opdC (valN (bin2 mulF (rawV 1) (opdC (pureC (.int 48271)))))) (opdC (numC modF (varV 2) (pureC (.int 2147483629))))))) (opdC (pureC (.int 1))))) (pureC (.int 2147483647))))
    (fun _ st => ∃ s x, 0 ≤ s ∧ s < 2147483647 ∧ x.ok = true ∧ st = ⟨[.v (.scr ns), .v (.int s), x], []⟩) ⟨7, .un, by decide, by decide, rfl, rfl⟩ (by
    rintro i d st hd ⟨s, x, s0, s1, hx, rfl⟩
    obtain ⟨c, hc, rfl⟩ := List.mem_map.mp (List.mem_of_getElem? hd)
    have l1 : s.natAbs.log2 + Nat.log2 48271 < 1000000 := by
      have := log2_le (i := s) (k := 31) (by omega)
      have : Nat.log2 48271 = 15 := by decide +kernel
      omega
    refine ⟨_, rfl, _, ?_, (s * 48271 + c % 2147483629 + 1) % 2147483647, .v (.int c), Int.emod_nonneg _ (by decide), Int.emod_lt_of_pos _ (by decide), rfl, rfl⟩
    simp [l1])
  have e2 := lc_map (c := itD (valN (slE (rawV 0) partN (partS (pureC (.int 63)))))) (t := .one 2) (vs := [2]) (elt := numC modF (valN (un1 absF (rawV 2))) (numC powF (pureC (.int 10)) (pureC (.int 60))))
    (st := ⟨[.v (.scr ns), .v (.int s), x], []⟩) (cutL ns none (some 63)) D.int (fun i => .int (absI i % 10 ^ 60)) (iv := ⟨((cutL ns none (some 63)).map D.int).length, getD' (.lst ((cutL ns none (some 63)).map D.int))⟩)
    (by simp) (fun acc s => by simp) (by simp [hx]) (by simp) (by simp [LIM]; omega) (by
      intro c hc
      exact ⟨_, rfl, by simp, by simp [absI]⟩)
  refine ⟨⟨(cutL ns none (some 63)).map (fun i => absI i % 10 ^ 60), 0, 0, s, 0⟩, ⟨?_, by simp; omega, by simp, by simp, s0, s1, by simp, by simp⟩, ?_⟩
  · intro y hy
    obtain ⟨c, _, rfl⟩ := List.mem_map.mp hy
    exact ⟨Int.emod_nonneg _ (by decide), Int.emod_lt_of_pos _ (by decide)⟩
  · simp only [bagF, e_fn, bagB, e_seq, e_ret, e_shrN]
    simp [e1, e2, -e_lcE, LIM, Bag.mo]
theorem draw_ex {b : Bag} {t : Nat} {m : Int} (h : b.Ok t) (hm : 0 < m) (ml : m < 2 ^ 250) (ht : t < 2 ^ 200) :
    ∃ (d : Int) (b' : Bag), (∀ r : List MO, drawF [.ob 0, .int m] (b.mo :: r) = some (.ok (.int d), b'.mo :: r)) ∧ b'.Ok (t + 1) ∧ 0 ≤ d ∧ d < m := by
  have l : m.natAbs.log2 < 9000 := by
    have := log2_le (i := m) (k := 250) (by omega)
    omega
  exact ⟨_, _, fun r => (draw_ok (r := r) h hm l ht).1, (draw_ok (r := []) h hm l ht).2⟩
end VL

/-! the laws' comparison -/
namespace VL
open PySem PySem.Spec PyProof.Rows L2
/-- plain data, at most n deep -/
inductive Pl : Nat → D → Prop
  | non (n : Nat) : Pl n .non
  | bl (n : Nat) (b : Bool) : Pl n (.bl b)
  | int (n : Nat) (i : Int) : Pl n (.int i)
  | str (n : Nat) (t : List Nat) : Pl n (.str t)
  | lst (n : Nat) (ds : List D) : (∀ d ∈ ds, Pl n d) → ds.length ≤ LIM → Pl (n + 1) (.lst ds)
  | tup (n : Nat) (ds : List D) : (∀ d ∈ ds, Pl n d) → ds.length ≤ LIM → Pl (n + 1) (.tup ds)
@[simp] theorem eqF_int {st : Ms} (i j : Int) : eqF st (.d (.int i)) (.d (.int j)) = some (decide (i = j)) := by simp
theorem blsOf_mk {α : Type} (g : α → Bool) (l : List α) : blsOf (l.map fun a => .bl (g a)) = some (l.map g) := by
  rw [← blsOf_map, List.map_map]; rfl
theorem all_true {α : Type} (l : List α) : (l.map fun _ => true).all id = true := by
  rw [List.all_eq_true]
  intro x hx
  obtain ⟨_, _, rfl⟩ := List.mem_map.mp hx
  rfl
def alikeB (F : Fn) : Stm := seqS (ifS (tstE (isiE [.list, .tuple] (rawV 1))) (seqS (ifS (orC (notC (tstE (isiE [.list, .tuple] (rawV 0)))) (cmp2 neF (opdC (isiE [.list] (rawV 0))) (opdC (isiE [.list] (rawV 1))))) (retS (pureC (.bl false))) skipS)
  (retS (andE (boolE (cmp2 eqF (opdC (valN (un1 lenF (rawV 0)))) (opdC (valN (un1 lenF (rawV 1)))))) (valN (un1 allF (opdC (valN (lcE (itR1 (valN (un1 lenF (rawV 1)))) (.one 2) [2] yesC (callE 2 F (consA (ixE (rawV 0) (varV 2)) (consA (ixE (rawV 1) (varV 2)) nilA))))))))))) skipS)
  (seqS (ifS (orC (cmp2 neF (opdC (isiE [.bool] (rawV 0))) (opdC (isiE [.bool] (rawV 1)))) (cmp2 neF (opdC (isiE [.int] (rawV 0))) (opdC (isiE [.int] (rawV 1))))) (retS (pureC (.bl false))) skipS)
  (retS (andE (boolE (cmp2 eqF (opdC (isiE [.str] (rawV 0))) (opdC (isiE [.str] (rawV 1))))) (boolE (cmp2 eqF (rawV 0) (rawV 1))))))
def alikeF : Nat → Fn
  | 0 => fun _ _ => none
  | n + 1 => fnC 2 3 (alikeB (alikeF n))
theorem alike_ok : ∀ (n : Nat) (d : D) (M : List MO), Pl n d → alikeF (n + 1) [d, d] M = some (.ok (.bl true), M)
  | n, d, M, h => by
    have sc : ∀ (n : Nat) (e : D), (e = .non ∨ (∃ b, e = .bl b) ∨ (∃ i, e = .int i) ∨ ∃ t, e = .str t) → alikeF (n + 1) [e, e] M = some (.ok (.bl true), M) := by
      rintro n e (rfl | ⟨b, rfl⟩ | ⟨i, rfl⟩ | ⟨t, rfl⟩) <;> simp [alikeF, alikeB, e_fn, sEq]
    cases h with
    | non n => exact sc _ _ (.inl rfl)
    | bl n b => exact sc _ _ (.inr (.inl ⟨_, rfl⟩))
    | int n i => exact sc _ _ (.inr (.inr (.inl ⟨_, rfl⟩)))
    | str n t => exact sc _ _ (.inr (.inr (.inr ⟨_, rfl⟩)))
    | lst n ds h hl =>
      have hl' : ds.length ≤ 1000000 := hl
      have e := lc_map (c := itR1 (valN (un1 lenF (rawV 1)))) (t := .one 2) (vs := [2]) (elt := callE 2 (alikeF (n + 1)) (consA (ixE (rawV 0) (varV 2)) (consA (ixE (rawV 1) (varV 2)) nilA)))
        (st := ⟨[.v (.lst ds), .v (.lst ds), .un], M⟩) (List.range ds.length) (fun i => .int (0 + (i : Int))) (fun _ => .bl true) (iv := ⟨ds.length, getR 0 ds.length⟩)
        (by simp [rngOk_iff]; omega) (fun acc s => by simp [rngL]) (by simp) (by simp) (by simpa using hl) (by
          intro i hi
          have hi : i < ds.length := List.mem_range.mp hi
          refine ⟨_, rfl, by simp, ?_⟩
          have := alike_ok n ds[i] M (h _ (List.getElem_mem hi))
          simp [hi, this])
      rw [alikeF]
      simp [e_fn, alikeB, e, blsOf_mk (fun _ => true), -e_lcE]
    | tup n ds h hl =>
      have hl' : ds.length ≤ 1000000 := hl
      have e := lc_map (c := itR1 (valN (un1 lenF (rawV 1)))) (t := .one 2) (vs := [2]) (elt := callE 2 (alikeF (n + 1)) (consA (ixE (rawV 0) (varV 2)) (consA (ixE (rawV 1) (varV 2)) nilA)))
        (st := ⟨[.v (.tup ds), .v (.tup ds), .un], M⟩) (List.range ds.length) (fun i => .int (0 + (i : Int))) (fun _ => .bl true) (iv := ⟨ds.length, getR 0 ds.length⟩)
        (by simp [rngOk_iff]; omega) (fun acc s => by simp [rngL]) (by simp) (by simp) (by simpa using hl) (by
          intro i hi
          have hi : i < ds.length := List.mem_range.mp hi
          refine ⟨_, rfl, by simp, ?_⟩
          have := alike_ok n ds[i] M (h _ (List.getElem_mem hi))
          simp [hi, this])
      rw [alikeF]
      simp [e_fn, alikeB, e, blsOf_mk (fun _ => true), -e_lcE]
end VL

/-! equality of data, loops, bits -/
namespace VL
open PySem PySem.Spec PyProof.Rows L2
mutual
/-- data of numbers, texts, None, lists, tuples: no truths -/
def nob : D → Bool
  | .non => true
  | .bl _ => false
  | .int _ => true
  | .str _ => true
  | .lst ds => nobA ds
  | .tup ds => nobA ds
  | .dic _ _ => false
  | .scr _ => false
  | .ob _ => false
  | .dit _ _ => false
  | .dif _ _ => false
def nobA : List D → Bool
  | [] => true
  | d :: ds => nob d && nobA ds
end
theorem nobA_all : ∀ ds : List D, nobA ds = ds.all nob
  | [] => rfl
  | d :: ds => by rw [nobA, List.all_cons, nobA_all ds]
mutual
theorem eqv_iff : ∀ x y : D, nob x = true → nob y = true → (PyData.eqv (toP x) (toP y) = true ↔ x = y)
  | .non, y, _, hy => by cases y <;> simp [toP, PyData.eqv, nob] at hy ⊢
  | .bl _, y, hx, _ => by simp [nob] at hx
  | .int i, y, _, hy => by cases y <;> simp [toP, PyData.eqv, nob] at hy ⊢
  | .str t, y, _, hy => by
    cases y <;> simp [toP, PyData.eqv, nob] at hy ⊢
    exact ⟨fun h => toS_inj h, fun h => by rw [h]⟩
  | .lst ds, y, hx, hy => by
    cases y <;> simp [toP, PyData.eqv, nob] at hx hy ⊢
    exact eqvA_iff ds _ hx hy
  | .tup ds, y, hx, hy => by
    cases y <;> simp [toP, PyData.eqv, nob] at hx hy ⊢
    exact eqvA_iff ds _ hx hy
  | .dic _ _, y, hx, _ => by simp [nob] at hx
  | .scr _, y, hx, _ => by simp [nob] at hx
  | .ob _, y, hx, _ => by simp [nob] at hx
  | .dit _ _, y, hx, _ => by simp [nob] at hx
  | .dif _ _, y, hx, _ => by simp [nob] at hx
theorem eqvA_iff : ∀ xs ys : List D, nobA xs = true → nobA ys = true → (PyData.eqvAll (toPA xs) (toPA ys) = true ↔ xs = ys)
  | [], [], _, _ => by simp [toPA, PyData.eqvAll]
  | [], _ :: _, _, _ => by simp [toPA, PyData.eqvAll]
  | _ :: _, [], _, _ => by simp [toPA, PyData.eqvAll]
  | x :: xs, y :: ys, hx, hy => by
    simp only [nobA, Bool.and_eq_true] at hx hy
    have h1 := eqv_iff x y hx.1 hy.1
    have h2 := eqvA_iff xs ys hx.2 hy.2
    simp only [toPA, PyData.eqvAll, Bool.and_eq_true, h1, h2, List.cons.injEq]
end
/-- data that == reads, at most n deep -/
inductive Sh : Nat → D → Prop
  | non (n : Nat) : Sh n .non
  | bl (n : Nat) (b : Bool) : Sh n (.bl b)
  | int (n : Nat) (i : Int) : Sh n (.int i)
  | str (n : Nat) (t : List Nat) : (∀ c ∈ t, c < 0x110000) → Sh n (.str t)
  | lst (n : Nat) (ds : List D) : (∀ d ∈ ds, Sh n d) → Sh (n + 1) (.lst ds)
  | tup (n : Nat) (ds : List D) : (∀ d ∈ ds, Sh n d) → Sh (n + 1) (.tup ds)
theorem toPA_map : ∀ ds : List D, toPA ds = ds.map toP
  | [] => rfl
  | d :: ds => by rw [toPA, List.map_cons, toPA_map ds]
theorem lay_all {ds : List PyData} (h : ∀ d ∈ ds, d.canLay0 = true) : PyData.canLayAll0 ds = true := by
  induction ds with
  | nil => rfl
  | cons d ds ih =>
    rw [PyData.canLayAll0, h d (List.mem_cons_self ..), ih fun x hx => h x (List.mem_cons_of_mem _ hx)]
    rfl
theorem dep_all {ds : List PyData} {n : Nat} (h : ∀ d ∈ ds, d.depth ≤ n) : PyData.depthAll ds ≤ n := by
  induction ds with
  | nil => rw [PyData.depthAll]; omega
  | cons d ds ih =>
    rw [PyData.depthAll]
    have := h d (List.mem_cons_self ..)
    have := ih fun x hx => h x (List.mem_cons_of_mem _ hx)
    omega
theorem sh_ok : ∀ {n : Nat} {d : D}, Sh n d → (toP d).canLay0 = true ∧ (toP d).depth ≤ n
  | _, _, .non n => ⟨rfl, by simp [toP, PyData.depth]⟩
  | _, _, .bl n b => ⟨rfl, by simp [toP, PyData.depth]⟩
  | _, _, .int n i => ⟨rfl, by simp [toP, PyData.depth]⟩
  | _, _, .str n t h => by
    refine ⟨?_, by simp [toP, PyData.depth]⟩
    rw [toP, PyData.canLay0]
    simpa [PyData.strOk, toS] using h
  | _, _, .lst n ds h => by
    rw [toP, PyData.canLay0, PyData.depth, toPA_map]
    refine ⟨lay_all fun d hd => ?_, Nat.succ_le_succ (dep_all fun d hd => ?_)⟩
    · obtain ⟨e, he, rfl⟩ := List.mem_map.mp hd; exact (sh_ok (h e he)).1
    · obtain ⟨e, he, rfl⟩ := List.mem_map.mp hd; exact (sh_ok (h e he)).2
  | _, _, .tup n ds h => by
    rw [toP, PyData.canLay0, PyData.depth, toPA_map]
    refine ⟨lay_all fun d hd => ?_, Nat.succ_le_succ (dep_all fun d hd => ?_)⟩
    · obtain ⟨e, he, rfl⟩ := List.mem_map.mp hd; exact (sh_ok (h e he)).1
    · obtain ⟨e, he, rfl⟩ := List.mem_map.mp hd; exact (sh_ok (h e he)).2
theorem sh_shaped {n : Nat} {d : D} (h : Sh n d) (hn : n ≤ 64) : SeqAt.shaped (toP d) = true := by
  obtain ⟨h1, h2⟩ := sh_ok h
  unfold SeqAt.shaped
  rw [h1, decide_eq_true (by omega)]; rfl
theorem sh_py {n : Nat} {d : D} (h : Sh n d) (st : Ms) : pyO st (.d d) = some (toP d) := by
  cases h <;> simp [pyO, toP]
theorem deep_ok {n m : Nat} {d e : D} (h : Sh n d) (g : Sh m e) (hn : n ≤ 64) (hm : m ≤ 64) (st : Ms) : deepF st (.d d) (.d e) = some (PyData.eqv (toP d) (toP e)) := by
  unfold deepF
  rw [sh_py h, sh_py g]
  simp only
  rw [if_pos ⟨sh_shaped h hn, sh_shaped g hm⟩]
theorem deep_iff {n m : Nat} {d e : D} (h : Sh n d) (g : Sh m e) (hn : n ≤ 64) (hm : m ≤ 64) (nd : nob d = true) (ne : nob e = true) (st : Ms) [Decidable (d = e)] : deepF st (.d d) (.d e) = some (decide (d = e)) := by
  rw [deep_ok h g hn hm]
  congr 1
  rw [Bool.eq_iff_iff, eqv_iff d e nd ne]
  simp
theorem deep_refl {n : Nat} {d : D} (h : Sh n d) (hn : n ≤ 64) (nd : nob d = true) (st : Ms) : deepF st (.d d) (.d d) = some true := by
  rw [deep_ok h h hn hn, (eqv_iff d d nd nd).mpr rfl]
/-! while -/
theorem while_t {c : C Bool} {body : Stm} {m : Nat} {st st1 st2 : Ms} (h1 : c st = some (.ok true, st1)) (h2 : body st1 = some (.ok .nx, st2)) : whileI c body (m + 1) st = whileI c body m st2 := by
  show bndC c _ st = _
  rw [e_bnd, h1]
  simp only
  rw [h2]
theorem while_f {c : C Bool} {body : Stm} {m : Nat} {st st1 : Ms} (h1 : c st = some (.ok false, st1)) : whileI c body (m + 1) st = some (.ok .nx, st1) := by
  show bndC c _ st = _
  rw [e_bnd, h1]
  rfl
@[simp] theorem e_while (c : C Bool) (body : Stm) (st : Ms) : whileS c body st = whileI c body 1000000 st := (rfl)
/-- a loop that goes on while a measure falls -/
theorem while_thru {c : C Bool} {body : Stm} (I : Nat → Ms → Prop) (hs : ∀ (n : Nat) (s : Ms), I n s → (∃ s1, c s = some (.ok false, s1) ∧ I 0 s1) ∨ ∃ s1 s2 k, c s = some (.ok true, s1) ∧ body s1 = some (.ok .nx, s2) ∧ k < n ∧ I k s2) :
    ∀ (m n : Nat) (s : Ms), n < m → I n s → ∃ s' s0, whileI c body m s = some (.ok .nx, s') ∧ c s0 = some (.ok false, s') ∧ ∃ k, I k s0
  | 0, n, s, hm, hi => by omega
  | m + 1, n, s, hm, hi => by
    rcases hs n s hi with ⟨s1, h1, h2⟩ | ⟨s1, s2, k, h1, h2, h3, h4⟩
    · exact ⟨s1, s, while_f h1, h1, n, hi⟩
    · rw [while_t h1 h2]
      exact while_thru I hs m k s2 (by omega) h4
/-! bits -/
theorem bits_le {i : Int} {k : Nat} (h : i.natAbs < 2 ^ k) : Builtin.Int.intBits i ≤ k := by
  unfold Builtin.Int.intBits
  by_cases h0 : i = 0
  · subst h0; simp
  · have hb : (i == 0) = false := by simpa using h0
    rw [hb]
    have := (Nat.log2_lt (n := i.natAbs) (k := k) (by omega)).mpr h
    simp
    omega
theorem shl_ok {i : Int} {k b : Nat} (h : i.natAbs < 2 ^ b) (hb : b ≤ 100000000) (hk : k ≤ 1000) : shlF i (k : Int) = some (i * 2 ^ k) := by
  unfold shlF
  have := bits_le h
  rw [if_pos ⟨by omega, (leN_iff _ _).mpr (by omega)⟩]
  rfl
theorem bitOr_low {q r : Int} {k : Nat} (hq : 0 ≤ q) (h0 : 0 ≤ r) (h1 : r < 2 ^ k) : orF (q * 2 ^ k) r = some (q * 2 ^ k + r) := by
  unfold orF
  rw [or_low hq h0 h1]
theorem and_mask {x : Int} (hx : 0 ≤ x) (k : Nat) (m : Int) (hm : m = 2 ^ k - 1) : andF x m = some (x % 2 ^ k) := by
  unfold andF
  have hm0 : 0 ≤ m := by
    have : (0 : Int) < 2 ^ k := Int.pow_pos (by decide)
    omega
  have hmt : m.toNat = 2 ^ k - 1 := by
    subst hm
    have : ((2 ^ k : Nat) : Int) = (2 : Int) ^ k := by simp
    omega
  rw [bitAnd_pp hx hm0, hmt, Nat.and_two_pow_sub_one_eq_mod]
  congr 1
  have h2 : ((2 ^ k : Nat) : Int) = (2 : Int) ^ k := by simp
  rw [Int.natCast_emod, h2, Int.toNat_of_nonneg hx]
theorem py_seq {st : Ms} {x : Opd} {ds : List D} (h : seqL st x = some ds) : pyO st x = some (toP (.lst ds)) := by
  unfold pyO
  rw [h, toP]
theorem deep_of {st : Ms} {x y : Opd} {n m : Nat} {d e : D} (hx : pyO st x = some (toP d)) (hy : pyO st y = some (toP e)) (h : Sh n d) (g : Sh m e) (hn : n ≤ 64) (hm : m ≤ 64) : deepF st x y = some (PyData.eqv (toP d) (toP e)) := by
  unfold deepF
  rw [hx, hy]
  simp only
  rw [if_pos ⟨sh_shaped h hn, sh_shaped g hm⟩]
theorem sh_ints (ns : List Int) : Sh 1 (.lst (ns.map .int)) := .lst 0 _ fun d hd => by
  obtain ⟨i, _, rfl⟩ := List.mem_map.mp hd
  exact .int 0 i
theorem sh_nil : Sh 1 (.lst []) := .lst 0 _ fun d hd => (List.not_mem_nil hd).elim
/-- xs == [] -/
theorem eqv_nil (ds : List D) : PyData.eqv (toP (.lst ds)) (toP (.lst [])) = ds.isEmpty := by
  cases ds <;> simp [toP, toPA, PyData.eqv, PyData.eqvAll]
end VL

/-! a comprehension within a comprehension -/
namespace VL
open PySem PySem.Spec PyProof.Rows L2
theorem relook {env : Env} : ∀ {names : List (Str × NameKind)} {x : Str}, names.lookup x = some .cell ∨ names.lookup x = some .free →
    (names.map fun (n, k) => if (k == NameKind.free && env.scope.kind == ScopeKind.function && env.kindOf n == some NameKind.cell) then (n, NameKind.cell) else (n, k)).lookup x = some .cell ∨ (names.map fun (n, k) => if (k == NameKind.free && env.scope.kind == ScopeKind.function && env.kindOf n == some NameKind.cell) then (n, NameKind.cell) else (n, k)).lookup x = some .free
  | [], x, h => by simp at h
  | (n, k) :: r, x, h => by
    have ih := @relook env r x
    rw [List.map_cons]
    generalize (r.map fun (n, k) => if (k == NameKind.free && env.scope.kind == ScopeKind.function && env.kindOf n == some NameKind.cell) then (n, NameKind.cell) else (n, k)) = r' at ih ⊢
    show List.lookup x ((if (k == NameKind.free && env.scope.kind == ScopeKind.function && env.kindOf n == some NameKind.cell) = true then (n, NameKind.cell) else (n, k)) :: _) = _ ∨ List.lookup x ((if (k == NameKind.free && env.scope.kind == ScopeKind.function && env.kindOf n == some NameKind.cell) = true then (n, NameKind.cell) else (n, k)) :: _) = _
    by_cases hc : (k == NameKind.free && env.scope.kind == ScopeKind.function && env.kindOf n == some NameKind.cell) = true
    · rw [if_pos hc]
      cases hx : x == n with
      | true => left; simp [List.lookup_cons, hx]
      | false =>
        simp only [List.lookup_cons, hx] at h ⊢
        exact ih h
    · rw [if_neg hc]
      cases hx : x == n with
      | true =>
        simp only [List.lookup_cons, hx] at h ⊢
        exact h
      | false =>
        simp only [List.lookup_cons, hx] at h ⊢
        exact ih h
theorem blk2 {X : Cx} {s : Shared} {H : Hp} {sc scope : Scope} {C : Addr} {cl : List (Str × Addr)} {fp : List Addr} {own : List (Str × Nat)} (h : BlkOk X.N sc scope own) : BlkOk (X.blk s H sc (compEnvC sc cl C X.env) fp).N (X.blk s H sc (compEnvC sc cl C X.env) fp).env.scope scope own :=
  ⟨h.kind, h.uniq, h.ix, fun y hy e => relook (h.free y hy e), h.own⟩
end VL

/-! comprehensions whose elements change the store (as in VLR3, by other names) -/
namespace VL
open PySem PySem.Spec PyProof.Rows L2
theorem lcL_stx {α : Type} {t : Tgt} {vs : List Nat} {elt : C D} (g : α → D) {e0 : List Cell} (I : Nat → List D → List MO → Prop) : ∀ {ds : List α} {acc : List D} {env : List Cell} {M : List MO} {i : Nat}, wipeE env vs = e0 → I i acc M →
    (∀ (j : Nat) (a : α) (acc : List D) (M : List MO), ds[j]? = some a → I (i + j) acc M → ∃ env1, setT t (g a) e0 = some env1 ∧ wipeE env1 vs = e0 ∧ ∃ y M', elt ⟨env1, M⟩ = some (.ok y, ⟨env1, M'⟩) ∧ I (i + j + 1) (acc ++ [y]) M') → acc.length + ds.length ≤ LIM →
    ∃ env' acc' M', lcL t vs yesC elt (ds.map g) acc ⟨env, M⟩ = some (.ok acc', ⟨env', M'⟩) ∧ wipeE env' vs = e0 ∧ I (i + ds.length) acc' M'
  | [], acc, env, M, i, hw, hi, h, hl => ⟨env, acc, M, rfl, hw, hi⟩
  | a :: ds, acc, env, M, i, hw, hi, h, hl => by
    obtain ⟨env1, h1, h2, y, M', h3, h4⟩ := h 0 a acc M rfl hi
    rw [List.length_cons] at hl
    obtain ⟨env', acc', M'', q1, q2, q3⟩ := lcL_stx g I (ds := ds) (acc := acc ++ [y]) (env := env1) (M := M') (i := i + 1) h2 h4 (fun j b acc M hj hI => by
      have := h (j + 1) b acc M (by simpa using hj) (by rw [show i + (j + 1) = i + 1 + j by omega]; exact hI)
      rw [show i + (j + 1) + 1 = i + 1 + j + 1 by omega] at this
      exact this) (by rw [List.length_append, List.length_singleton]; omega)
    refine ⟨env', acc', M'', ?_, q2, by rw [List.length_cons, show i + (ds.length + 1) = i + 1 + ds.length by omega]; exact q3⟩
    rw [List.map_cons]
    unfold lcL
    simp only [hw, h1, e_yes, h3]
    rw [if_pos (by omega), q1]
theorem lc_stx {α : Type} {c : C ItV} {iv : ItV} {t : Tgt} {vs : List Nat} {elt : C D} {st : Ms} (ds : List α) (g : α → D) (I : Nat → List D → List MO → Prop) (hc : c st = some (.ok iv, st))
    (hi : ∀ acc s, lcI iv.get t vs yesC elt (iv.n + 1) 0 acc s = lcL t vs yesC elt (ds.map g) acc s) (hv : (vs.all (okV st.env) && tgtIn vs t) = true) (lt : ∀ i ∈ vs, i < st.env.length) (hl : ds.length ≤ LIM) (h0 : I 0 [] st.M)
    (h : ∀ (j : Nat) (a : α) (acc : List D) (M : List MO), ds[j]? = some a → I j acc M → ∃ env1, setT t (g a) (wipeE st.env vs) = some env1 ∧ wipeE env1 vs = wipeE st.env vs ∧ ∃ y M', elt ⟨env1, M⟩ = some (.ok y, ⟨env1, M'⟩) ∧ I (j + 1) (acc ++ [y]) M') :
    ∃ acc' M', lcE c t vs yesC elt st = some (.ok (.nw (.lst acc')), ⟨st.env, M'⟩) ∧ I ds.length acc' M' := by
  have ww : wipeE (wipeE st.env vs) vs = wipeE st.env vs := by
    apply List.ext_getElem?
    intro i
    by_cases hi : i ∈ vs
    · rw [wipe_hit hi (by rw [wipe_len]; exact lt i hi), wipe_hit hi (lt i hi)]
    · rw [wipe_get hi]
  obtain ⟨env', acc', M', q1, q2, q3⟩ := lcL_stx (acc := []) (M := st.M) (i := 0) g I ww h0 (fun j a acc M hj hI => by
    rw [Nat.zero_add] at hI ⊢
    exact h j a acc M hj hI) (by simpa using hl)
  have hlen : env'.length = st.env.length := by
    have := congrArg List.length q2
    rw [wipe_len, wipe_len] at this
    exact this
  rw [Nat.zero_add] at q3
  refine ⟨acc', M', ?_, q3⟩
  rw [e_lcE, e_bnd, hc]
  simp only
  rw [if_pos hv, hi, q1]
  simp only
  rw [if_pos hlen, unwipe_back lt q2]
end VL

/-! == of data that holds numbered lists -/
namespace VL
open PySem PySem.Spec PyProof.Rows L2
mutual
/-- numbered lists put in, one level deep -/
def resD (M : List MO) : D → D
  | .lst ds => .lst (resA M ds)
  | .tup ds => .tup (resA M ds)
  | .ob n => match M[n]? with
    | some (.lst ds) => .lst ds
    | _ => .ob n
  | .non => .non
  | .bl b => .bl b
  | .int i => .int i
  | .str t => .str t
  | .dic ks vs => .dic ks vs
  | .scr ns => .scr ns
  | .dit ks vs => .dit ks vs
  | .dif ks vs => .dif ks vs
def resA (M : List MO) : List D → List D
  | [] => []
  | d :: ds => resD M d :: resA M ds
end
section
variable {K : PySem.W.Frag} {cl : CL} {B : Base} {M : List MO} {G H : Hp} {R : List Addr}
mutual
theorem dpR_of (r : RelM K cl B M G R H) : ∀ {v : V} {d : D}, RepV K G R v d → (toP (resD M d)).canLay0 = true → Dp K H v (toP (resD M d))
  | _, _, .non, _ => .non
  | _, _, .bl b, _ => .bl b
  | _, _, .int i, _ => .int i
  | _, _, .str t, _ => .str _
  | _, _, .lst h a, k => by
    rw [resD, toP] at k ⊢
    exact .lst (SqL.of (r.same _ _ h)) (dpaR_of r a (by simpa [PyData.canLay0] using k))
  | _, _, .tup h a, k => by
    rw [resD, toP] at k ⊢
    exact .tup (SqT.of (r.same _ _ h)) (dpaR_of r a (by simpa [PyData.canLay0] using k))
  | _, _, .dic _ _ _, k => by simp [resD, toP, PyData.canLay0] at k
  | _, _, .dit _ _ _, k => by simp [resD, toP, PyData.canLay0] at k
  | _, _, .dif _ _ _, k => by simp [resD, toP, PyData.canLay0] at k
  | _, _, .scr _, k => by simp [resD, toP, PyData.canLay0] at k
  | _, _, .ob (n := n) ha, k => by
    unfold resD at k ⊢
    split at k
    · rename_i ds e
      obtain ⟨_, xs, h1, h2⟩ := r.sh n _ _ e ha
      try simp only [e]
      rw [toP] at k ⊢
      exact .lst (SqL.of h1) (dpa_of r.same h2 (by simpa [PyData.canLay0] using k))
    · simp [toP, PyData.canLay0] at k
theorem dpaR_of (r : RelM K cl B M G R H) : ∀ {vs : List V} {ds : List D}, RepA K G R vs ds → PyData.canLayAll0 (toPA (resA M ds)) = true → DpAll K H vs (toPA (resA M ds))
  | _, _, .nil, _ => .nil
  | _, _, .cons h t, k => by
    rw [resA, toPA] at k ⊢
    rw [PyData.canLayAll0, Bool.and_eq_true] at k
    exact .cons (dpR_of r h k.1) (dpaR_of r t k.2)
end
end
def pyR (st : Ms) (x : Opd) : Option PyData := match seqL st x with
  | some ds => some (toP (.lst (resA st.M ds)))
  | none => match dOf st x with
    | some d => some (toP (resD st.M d))
    | none => none
def eqRF (st : Ms) (x y : Opd) : Option Bool := match pyR st x, pyR st y with
  | some p, some q => if SeqAt.shaped p = true ∧ SeqAt.shaped q = true then some (PyData.eqv p q) else none
  | _, _ => none
section
variable {X : Cx} {cl : CL} {W : WX} {B : Base} {st : Ms} {G H : Hp} {R : List Addr} {σ : L2.St}
theorem pyR_ok {K : PySem.W.Frag} {v : V} {od : Opd} {p : PyData} (r : Rel K cl B st G R σ H) (h : RepOp K G R σ v od) (e : pyR st od = some p) (s : SeqAt.shaped p = true) : Dp K H v p := by
  have k := SeqAt.canLay_of_shaped s
  unfold pyR at e
  split at e
  · rename_i ds e1
    obtain ⟨a, xs, rfl, q, ra⟩ := seqL_ok r h e1
    cases e
    rw [toP] at k ⊢
    exact .lst (SqL.of q) (dpaR_of r.m ra (by simpa [PyData.canLay0] using k))
  · split at e
    · rename_i d e1
      cases e
      exact dpR_of r.m (dOf_ok r h e1) k
    · cases e
theorem op_eqRU (hu : X.A.units + 64 < cLine) : OpR X (compareOp .Eq) (rC2 X.K cl eqRF) := by
  intro pins s σ0 H x y v u Q I rx ry h
  obtain ⟨B, st, G, R, σ, dx, dy, k, rel, hx, hy, e, q⟩ := h
  unfold eqRF at e
  split at e
  · rename_i p p' e1 e2
    split at e
    · rename_i sh
      cases e
      exact op_eqD hu pins s σ0 H x y v u Q I rx ry ⟨p, p', pyR_ok rel hx e1 sh.1, pyR_ok rel hy e2 sh.2, sh.1, sh.2, q⟩
    · cases e
  · cases e
end
end VL

/-! a tuple times a number, the number nought or one too -/
namespace VL
open PySem PySem.Spec PyProof.Rows L2
theorem tup_mul1 (l : Addr) (items : Array Value) (n : Nat) (dd : Option Addr) (sl : Array (Option Value)) (u : Tok) :
    Meets (Builtin.«tuple.__mul__» ⟨[.ref l, .int 1 u], []⟩) (fun _ R s => s.heap.get? l = some { cls := .type "tuple", dict := dd, data := .seq items n, slots := sl } ∧ R (.ok (.ret (Value.ref l))) s) :=
  .of_wp fun prog w A R s h => by
    obtain ⟨hp, g, d, tk, os⟩ := s
    obtain ⟨hl, h⟩ := h
    have f1 := AutoSeq1.idx_int
    have c0 : (decide ((1 : Int) < -(2 ^ 63)) || decide ((1 : Int) ≥ 2 ^ 63)) = false := by decide
    have c1 : (items.isEmpty || (1 : Int) == 1) = true := by simp
    wp_walk using wpAny_loadPart' hl
    repeat (first
      | (refine wpAny_ite_false (decide_eq_false (by rw [c0]; exact Bool.false_ne_true)) ?_; wp_walk using wpAny_loadPart' hl)
      | (refine wpAny_ite_true (decide_eq_true c1) ?_; wp_walk using wpAny_loadPart' hl))
    exact ⟨_, rfl, h⟩
theorem tup_mul0 (l : Addr) (items : Array Value) (n : Nat) (dd : Option Addr) (sl : Array (Option Value)) (x : Int) (u : Tok) (c0 : (decide (x < -(2 ^ 63)) || decide (x ≥ 2 ^ 63)) = false) (c1 : (items.isEmpty || x == 1) = false) (c2 : (decide (x ≤ 0) || items.isEmpty) = true) :
    Meets (Builtin.«tuple.__mul__» ⟨[.ref l, .int x u], []⟩) (fun _ R s => s.heap.get? l = some { cls := .type "tuple", dict := dd, data := .seq items n, slots := sl } ∧
      R (.ok (.ret (Value.ref s.heap.objs.size))) { s with heap := s.heap.push { cls := Value.type "tuple", data := Data.seq #[] }, toks := s.toks }) :=
  .of_wp fun prog w A R s h => by
    obtain ⟨hp, g, d, tk, os⟩ := s
    obtain ⟨hl, h⟩ := h
    have f1 := AutoSeq1.idx_int
    wp_walk using wpAny_loadPart' hl
    repeat (first
      | (refine wpAny_ite_false (decide_eq_false (by rw [c0]; exact Bool.false_ne_true)) ?_; wp_walk using wpAny_loadPart' hl)
      | (refine wpAny_ite_false (decide_eq_false (by rw [c1]; exact Bool.false_ne_true)) ?_; wp_walk using wpAny_loadPart' hl)
      | (refine wpAny_ite_true (decide_eq_true c2) ?_; wp_walk using wpAny_loadPart' hl))
    exact ⟨_, rfl, h⟩
def rRepA (K : PySem.W.Frag) : R2 := fun x y H Q => ∃ l k xs, x = .ref l ∧ y = .int k ∧ SqT K H l xs ∧ xs ≠ [] ∧ -1000 ≤ k ∧ k ≤ 1000 ∧ xs.length ≤ 1000 ∧ (k = 1 → Q (.ref l) H) ∧ (k ≠ 1 → ∀ p, H p = none → Q (.ref p) (upd H p (.tup (List.replicate k.toNat xs).flatten)))
section
variable {X : Cx} {cl : CL} {W : WX}
theorem op_repA : OpR X (binaryOp .Mult) (rRepA X.K) := by
  intro pins s σ H x y v u Q I rx ry h
  obtain ⟨l, k, xs, rfl, rfl, hT, hne, h1, h2, hz, q1, q2⟩ := h
  by_cases hk2 : 2 ≤ k
  · exact op_repT pins s σ H _ _ v u Q I rx ry ⟨l, k, xs, rfl, rfl, hT, hne, hk2, h2, hz, q2 (by omega)⟩
  cases rx
  obtain ⟨t, rfl⟩ := ry
  obtain ⟨its, r, ⟨⟨cls, dd, data, sl⟩, ho, hc, n, hd⟩, hs⟩ := I.tuple hT
  simp only at hc hd
  subst hc hd
  have hle : its.length = xs.length := r.length.symm
  have hn : its ≠ [] := fun e => hne (by
    rw [e] at hle
    exact List.eq_nil_of_length_eq_zero hle.symm)
  have hi : its.toArray.isEmpty = false := by
    cases its with
    | nil => exact absurd rfl hn
    | cons a b => rfl
  by_cases hk1 : k = 1
  · subst hk1
    refine wpAny_binaryOp_repeat_ref (T := "tuple") (U := "int") (by decide) ⟨_, ho, rfl⟩ (fun s' => typeIs_int s' 1 t) noFill_tuple_mul F.fills_int_mul F.slot_int_rmul repeat_tuple F.slot_int_index.lookup
      (call_meets F.slot_int_rmul (typeIs_int s 1 t) F.entry_int_rmul (F.args_int_rmul_2 _ _) (int_rmul_tuple 1 t l its.toArray n dd sl)
        ⟨ho, rfl, ⟨_, ho, rfl⟩, call_meets F.slot_tuple_mul ⟨_, ho, rfl⟩ F.entry_tuple_mul (F.args_tuple_mul_2 _ _) (tup_mul1 l its.toArray n dd sl t) ⟨ho, ?_⟩⟩)
    exact ⟨.ref l, H, I, rfl, q1 rfl⟩
  · have c0 : (decide (k < -(2 ^ 63)) || decide (k ≥ 2 ^ 63)) = false := by
      rw [decide_eq_false (by omega), decide_eq_false (by omega)] <;> rfl
    have c1 : (its.toArray.isEmpty || k == 1) = false := by
      rw [hi, Bool.false_or]
      exact beq_eq_false_iff_ne.mpr hk1
    have c2 : (decide (k ≤ 0) || its.toArray.isEmpty) = true := by
      rw [hi, Bool.or_false]
      exact decide_eq_true (by omega)
    have hk0 : k.toNat = 0 := by omega
    have q2 := q2 hk1
    rw [hk0] at q2
    refine wpAny_binaryOp_repeat_ref (T := "tuple") (U := "int") (by decide) ⟨_, ho, rfl⟩ (fun s' => typeIs_int s' k t) noFill_tuple_mul F.fills_int_mul F.slot_int_rmul repeat_tuple F.slot_int_index.lookup
      (call_meets F.slot_int_rmul (typeIs_int s k t) F.entry_int_rmul (F.args_int_rmul_2 _ _) (int_rmul_tuple k t l its.toArray n dd sl)
        ⟨ho, rfl, ⟨_, ho, rfl⟩, call_meets F.slot_tuple_mul ⟨_, ho, rfl⟩ F.entry_tuple_mul (F.args_tuple_mul_2 _ _) (tup_mul0 l its.toArray n dd sl k t c0 c1 c2) ⟨ho, ?_⟩⟩)
    refine ⟨.ref s.heap.objs.size, _, I.laid (t' := s.toks) (o := .tup []) (fun b ob q => Heap.get?_push_of_some _ q) (Nat.le_refl _) ?_, rfl, q2 _ (I.hok.fresh (Nat.le_refl _))⟩
    exact ⟨Nat.zero_le _, [], .nil, IsTup.new _ _⟩
/-- a tuple as often as said -/
def mulTF (x y : Opd) : C Nv := fun st => match dOf st x, dOf st y with
  | some (.tup ds), some (.int k) => if leN (-k) 1000 = true ∧ leN k 1000 = true ∧ ds.isEmpty = false ∧ ds.length ≤ 1000 then some (.ok (.d (.tup (List.replicate k.toNat ds).flatten)), st) else none
  | _, _ => none
theorem op_mulT : OpR X (binaryOp .Mult) (rU2 X.K cl W mulTF) := by
  intro pins s σ0 H x y v u Q I rx ry h
  obtain ⟨B, st, G, R, σ, dx, dy, rel, hx, hy, run⟩ := h
  unfold mulTF at run
  try simp only at run
  split at run
  · rename_i ds k ex ey
    have h1 := dOf_ok rel hx ex
    have h2 := dOf_ok rel hy ey
    cases h1 with
    | tup ga ra =>
    cases h2
    rename_i pa xs
    split at run
    · rename_i hz
      have z1 := (leN_iff _ _).mp hz.1
      have z2 := (leN_iff _ _).mp hz.2.1
      have hne : xs ≠ [] := fun e => by
        subst e
        cases ra
        exact absurd hz.2.2.1 (by simp)
      refine op_repA pins s σ0 H _ _ v u Q I rx ry ⟨pa, k, xs, rfl, rfl, SqT.of (rel.m.same _ _ ga), hne, by omega, by omega, by rw [ra.length]; exact hz.2.2.2, fun e => ?_, fun _ p hp => fin_tup rel run (ra.rep _) hp⟩
      subst e
      have e1 : (List.replicate (1 : Int).toNat ds).flatten = ds := by simp
      rw [e1] at run
      exact run.done rel _ (.tup ga ra)
    · exact run.elim
  · exact run.elim
variable {a b : Expr} {A A' : C Opd} {pos : Pos}
theorem se_mulT (ha : PE X a (TO' X.K cl W A)) (hb : PE X b (TO' X.K cl W A')) : PE X (.BinOp a .Mult b pos) (TN X.K cl W (bin2 mulTF A A')) := se_bin op_mulT ha hb
@[simp] theorem e_mulTF (st : Ms) (x y : Opd) : mulTF x y st = (match dOf st x, dOf st y with
  | some (.tup ds), some (.int k) => if leN (-k) 1000 = true ∧ leN k 1000 = true ∧ ds.isEmpty = false ∧ ds.length ≤ 1000 then some (.ok (.d (.tup (List.replicate k.toNat ds).flatten)), st) else none
  | _, _ => none) := rfl
end
end VL

/-! a loop whose items are lists of the store, taken apart -/
namespace VL
open PySem PySem.Spec PyProof.Rows L2
def setTM (t : Tgt) (d : D) (st : Ms) : Option (List Cell) := match t, d with
  | .all is, .ob n => match st.M[n]? with
    | some (.lst ds) => if ds.length = is.length then some (setAll is ds st.env) else none
    | _ => none
  | t, d => setT t d st.env
theorem setTM_ok {K : PySem.W.Frag} {cl : CL} {B : Base} {st : Ms} {G : Hp} {R : List Addr} {σ : L2.St} {H : Hp} {Q : L2.St → Hp → Prop} {t : Tgt} {d : D} {v : V} {env : List Cell} (rel : Rel K cl B st G R σ H) (hv : RepV K G R v d) (e : setTM t d st = some env) (q : ∀ σ', Rel K cl B { st with env := env } G R σ' H → Q σ' H) : gT K t v σ H Q := by
  unfold setTM at e
  split at e
  · rename_i is n
    split at e
    · rename_i ds e1
      split at e
      · rename_i hl
        cases e
        obtain ⟨p, xs, ep, h1, h2⟩ := seqD_ok (d := .ob n) (ds := ds) rel hv (by unfold seqD; simp only; rw [e1])
        exact ⟨_, xs, ep, .inr (SqL.of h1), by rw [h2.length]; exact hl, setAll_ok rel h2 hl q⟩
      · cases e
    · cases e
  · exact setT_ok rel hv e q
def forIU (get : Ms → Nat → Option (Option D)) (t : Tgt) (body : Stm) : Nat → Nat → Stm
  | 0, _ => failC
  | m + 1, i => fun st => match get st i with
    | some none => some (.ok .nx, st)
    | some (some d) => match setTM t d st with
      | some env => match body { st with env := env } with
        | some (.ok .nx, st2) => forIU get t body m (i + 1) st2
        | some (.ok .ct, st2) => forIU get t body m (i + 1) st2
        | some (.ok .bk, st2) => some (.ok .nx, st2)
        | some (.ok (.rt d), st2) => some (.ok (.rt d), st2)
        | some (.ex x, st2) => some (.ex x, st2)
        | none => none
      | none => none
    | none => none
def forU (c : C ItV) (t : Tgt) (body : Stm) : Stm := bndC c fun iv => forIU iv.get t body (iv.n + 1) 0
section
variable {X : Cx} {cl : CL} {W : WX}
theorem ss_forU {pos : Pos} {iter tg : Expr} {body : List Stmt} {ci : C ItV} {t : Tgt} {S1 : Stm} (hp : PassesOwn (model X.prog X.w) X.A X.env X.xe) (hc : X.calm = true) (hi : PI X tg iter (TI' X.K cl W ci)) (hg : PG X tg (gT X.K t)) (hb : PSs X body (TUS X.K cl W S1))
    (hs : ∀ x, foldedSetIterable iter X.env x = pure x := by intro _; rfl) : PS X (.For tg iter body [] pos) (TUS X.K cl W (forU ci t S1)) := ps_imp (ps_for hp hc hi hg hb hs) fun D σ H h => by
  obtain ⟨B, st, G, R, rel, run⟩ := h
  refine ⟨B, st, G, R, rel, run.bind.mono fun iv st1 G1 R1 H1 _ _ _ _ ⟨rel1, _, _, run1⟩ J hJ => ?_⟩
  refine ⟨fun i m σ H => ∃ st G R, Same G1 G ∧ Pre R1 R ∧ Rel X.K cl B st G R σ H ∧ RunS X.K cl W B G R (forIU iv.get t S1 m i st) D, ⟨iv.n + 1, st1, G1, R1, Same.refl _, Pre.refl _, rel1, run1⟩, ?_⟩
  rintro i m σ2 H2 ⟨st2, G2, R2, g2, r2, rel2, run2⟩
  cases m with
  | zero => exact run2.elim
  | succ m =>
    unfold forIU at run2
    obtain ⟨j1, j2⟩ := hJ B st2 G2 R2 σ2 H2 i g2 r2 rel2
    split at run2
    · rename_i e
      exact .inl ⟨j2 e, run2.nx rel2⟩
    · rename_i d e
      obtain ⟨go, yl⟩ := j1 d e
      refine .inr ⟨go, fun σ' H' => ∃ st G R, Same G1 G ∧ Pre R1 R ∧ Rel X.K cl B st G R σ' H' ∧ RunS X.K cl W B G R (forIU iv.get t S1 m (i + 1) st) D, fun σ' H' ⟨st', G', R', q⟩ => ⟨m, Nat.lt_succ_self _, st', G', R', q⟩, fun v H' hy => ?_⟩
      obtain ⟨G3, g3, rel3, rv⟩ := yl v H' hy
      split at run2
      · rename_i env ee
        refine setTM_ok rel3 rv ee fun σ4 rel4 => ⟨B, { st2 with env := env }, G3, R2, rel4, ?_⟩
        have run2 := RunS.weak g3 (Pre.refl R2) run2
        split at run2
        · rename_i st5 e5
          rw [e5]
          exact fun σ6 G6 R6 H6 g6 r6 rel6 => ⟨st5, G6, R6, (g2.trans g3).trans g6, r2.trans r6, rel6, run2.weak g6 r6⟩
        · rename_i st5 e5
          rw [e5]
          exact fun σ6 G6 R6 H6 g6 r6 rel6 => ⟨st5, G6, R6, (g2.trans g3).trans g6, r2.trans r6, rel6, run2.weak g6 r6⟩
        · rename_i st5 e5
          rw [e5]
          exact run2
        · rename_i d st5 e5
          rw [e5]
          exact run2
        · rename_i x st5 e5
          rw [e5]
          exact run2
        · exact run2.elim
      · exact run2.elim
    · exact run2.elim
end
end VL

/-! d[k] of a dict of the store that stands locked; a local's own object handed on as a numbered one -/
namespace VL
open PySem PySem.Spec PyProof.Rows L2
def xgC (x : Opd) (k : D) : C D := fun st => match x with
  | .d (.ob n) => (match st.M[n]? with
    | some (.dif ks vs) => (match isKey k, dLook ks vs k with
      | true, some d => some (.ok d, st)
      | _, _ => none)
    | _ => none)
  | _ => none
def xgE (A : C Opd) (E : C D) : C D := bndC A fun x => bndC E fun k => xgC x k
def shrL (i : Nat) : C D := fun st => match st.env[i]? with
  | some (.own o) => some (.ok (.ob st.M.length), ⟨st.env.set i (.v (.ob st.M.length)), st.M ++ [o]⟩)
  | _ => none
section
variable {X : Cx} {cl : CL} {W : WX} {B : Base} {st : Ms} {G G' H : Hp} {R R' : List Addr} {σ : L2.St}
variable {a b c e : Expr} {A A' : C Opd} {E E' : C D} {pos apos cpos : Pos}
theorem se_xg (hu : X.A.units + 1 < cLine) (ha : PE X a (TO' X.K cl W A)) (hb : PE X b (TU X.K cl W E)) (hs : NoSl b := by exact fun _ _ => rfl) : PE X (.Subscript a b pos) (TU X.K cl W (xgE A E)) := by
  refine pe_imp (pe_dget hu ha hb hs) fun σ H Q h => ?_
  obtain ⟨B, st, G, R, rel, run⟩ := h
  refine ⟨B, st, G, R, rel, run.bind.mono fun x st1 G1 R1 H1 _ _ _ _ ⟨rel1, _, _, run1⟩ v rv => ?_⟩
  refine ⟨B, st1, G1, R1, rel1, run1.bind.mono fun y st2 G2 R2 H2 _ g r _ ⟨rel2, _, _, run2⟩ w rw => ?_⟩
  unfold xgC at run2
  split at run2
  · split at run2
    · rename_i ks vs e1
      split at run2
      · rename_i d ek e2
        have hv : RepV X.K G2 R2 v (.ob _) := RepV.mono g r rv
        cases hv with
        | ob h1 =>
          rename_i p
          obtain ⟨_, o, kvs, h2, h3, h4⟩ := rel2.m.sh _ _ p e1 h1
          obtain ⟨k, rfl, rfl⟩ := isKey_rep rw ek
          obtain ⟨oo, q1, q2⟩ := dLook_ok (x := k) h4
          rw [h3] at e2
          rw [e2] at q2
          obtain ⟨z, rfl, q4⟩ := q2
          exact ⟨p, z, rfl, .inl ⟨kvs, k, .inr ⟨o, h2⟩, rfl, q1.symm⟩, run2.done rel2 z q4⟩
      · exact run2.elim
    · exact run2.elim
  · exact run2.elim
theorem Rel.shareL {K : PySem.W.Frag} {i : Nat} {o : MO} (r : Rel K cl B st G R σ H) (e : st.env[i]? = some (.own o)) : ∃ a, σ[i]? = some (some (.ref a)) ∧ Rel K cl B ⟨st.env.set i (.v (.ob st.M.length)), st.M ++ [o]⟩ G (R ++ [a]) σ H ∧ (R ++ [a])[st.M.length]? = some a := by
  obtain ⟨a, h1, h2, h3, h4, h5⟩ := r.own i o e
  have hi := (List.getElem?_eq_some_iff.mp e).1
  have other : ∀ (c : Cell) (j : Nat) (d : Cell), (st.env.set i c)[j]? = some d → (j = i ∧ d = c) ∨ (j ≠ i ∧ st.env[j]? = some d) := fun c j d h => by
    by_cases hj : j = i
    · subst hj
      rw [List.getElem?_set_self hi] at h
      exact .inl ⟨rfl, (Option.some.inj h).symm⟩
    · rw [List.getElem?_set_ne (Ne.symm hj)] at h
      exact .inr ⟨hj, h⟩
  have r0 : Rel K cl B ⟨st.env.set i .un, st.M⟩ G R σ H := by
    refine ⟨r.m, by show σ.length = (st.env.set i .un).length; rw [List.length_set]; exact r.len, fun j d h => ?_, fun j u h => ?_, fun j k u u' b q1 q2 q3 q4 => ?_, fun j x h => ?_⟩
    · rcases other _ j _ h with ⟨_, z⟩ | ⟨_, z⟩
      · cases z
      · exact r.val j d z
    · rcases other _ j _ h with ⟨_, z⟩ | ⟨_, z⟩
      · cases z
      · exact r.own j u z
    · rcases other _ j _ q1 with ⟨_, z⟩ | ⟨_, z⟩
      · cases z
      · rcases other _ k _ q2 with ⟨_, z'⟩ | ⟨_, z'⟩
        · cases z'
        · exact r.dis j k u u' b z z' q3 q4
    · rcases other _ j _ h with ⟨_, z⟩ | ⟨_, z⟩
      · cases z
      · exact r.ex j x z
  have f : Fresh B ⟨st.env.set i .un, st.M⟩ G R σ a := ⟨h2, h3, h4, fun j u h z => by
    rcases other _ j _ h with ⟨_, q⟩ | ⟨hj, q⟩
    · cases q
    · exact hj (r.dis j i u o a q e z h1)⟩
  have r1 := r0.share f h5
  have hob : (R ++ [a])[st.M.length]? = some a := by
    rw [List.getElem?_append_right (by rw [r.m.len]; exact Nat.le_refl _), r.m.len, Nat.sub_self]
    rfl
  refine ⟨a, h1, ?_, hob⟩
  have ev : ∀ (j : Nat) (d : Cell), (st.env.set i (.v (.ob st.M.length)))[j]? = some d → (j = i ∧ d = .v (.ob st.M.length)) ∨ (j ≠ i ∧ (st.env.set i .un)[j]? = some d) := fun j d h => by
    rcases other _ j _ h with z | ⟨hj, z⟩
    · exact .inl z
    · exact .inr ⟨hj, by rw [List.getElem?_set_ne (Ne.symm hj)]; exact z⟩
  refine ⟨r1.m, by show σ.length = (st.env.set i _).length; rw [List.length_set]; exact r.len, fun j d h => ?_, fun j u h => ?_, fun j k u u' b q1 q2 q3 q4 => ?_, fun j x h => ?_⟩
  · rcases ev j _ h with ⟨rfl, z⟩ | ⟨_, z⟩
    · cases z
      exact ⟨_, h1, .ob hob⟩
    · exact r1.val j d z
  · rcases ev j _ h with ⟨_, z⟩ | ⟨_, z⟩
    · cases z
    · exact r1.own j u z
  · rcases ev j _ q1 with ⟨_, z⟩ | ⟨_, z⟩
    · cases z
    · rcases ev k _ q2 with ⟨_, z'⟩ | ⟨_, z'⟩
      · cases z'
      · exact r1.dis j k u u' b z z' q3 q4
  · rcases ev j _ h with ⟨_, z⟩ | ⟨_, z⟩
    · cases z
    · exact r1.ex j x z
theorem se_shrL (i : Nat) {x : Str} {pos : Pos} (hN : X.N[i]? = some x := by rfl) (hv : Vis X.env.scope x := by first | exact Or.inl rfl | exact Or.inr (Or.inl rfl) | exact Or.inr (Or.inr rfl)) (hd : (x == ("__debug__" : Str)) = false := by decide)
    (hcd : (x == ("__classdict__" : Str)) = false := by decide) : PE X (.Name x pos) (TU X.K cl W (shrL i)) := by
  refine pe_imp (pe_var hN hv hd hcd) fun σ H Q h => ?_
  obtain ⟨B, st, G, R, rel, run⟩ := h
  unfold shrL at run
  split at run
  · rename_i o e
    obtain ⟨a, h1, rel2, h3⟩ := rel.shareL e
    exact ⟨.ref a, h1, run G (R ++ [a]) H (Same.refl _) ⟨[a], rfl⟩ rel2 _ (.ob h3)⟩
  · exact run.elim
end
variable {st : Ms}
@[simp] theorem e_xgC (x : Opd) (k : D) : xgC x k st = (match x with
  | .d (.ob n) => (match st.M[n]? with
    | some (.dif ks vs) => (match isKey k, dLook ks vs k with
      | true, some d => some (.ok d, st)
      | _, _ => none)
    | _ => none)
  | _ => none) := rfl
@[simp] theorem e_xgE (A : C Opd) (E : C D) : xgE A E st = bndC A (fun x => bndC E fun k => xgC x k) st := rfl
@[simp] theorem e_shrL (i : Nat) : shrL i st = (match st.env[i]? with
  | some (.own o) => some (.ok (.ob st.M.length), ⟨st.env.set i (.v (.ob st.M.length)), st.M ++ [o]⟩)
  | _ => none) := rfl
end VL

/-! != of data that holds numbered lists -/
namespace VL
open PySem PySem.Spec PyProof.Rows L2
def neRF (st : Ms) (x y : Opd) : Option Bool := (eqRF st x y).map (!·)
theorem op_neRU {X : Cx} {cl : CL} (hu : X.A.units + 64 < cLine) : OpR X (compareOp .NotEq) (rC2 X.K cl neRF) := by
  intro pins s σ0 H x y v u Q I rx ry h
  obtain ⟨B, st, G, R, σ, dx, dy, k, rel, hx, hy, e, q⟩ := h
  unfold neRF at e
  obtain ⟨k', e0, rfl⟩ := Option.map_eq_some_iff.mp e
  unfold eqRF at e0
  split at e0
  · rename_i p p' e1 e2
    split at e0
    · rename_i sh
      cases e0
      exact op_neD hu pins s σ0 H x y v u Q I rx ry ⟨p, p', pyR_ok rel hx e1 sh.1, pyR_ok rel hy e2 sh.2, sh.1, sh.2, q⟩
    · cases e0
  · cases e0
/-- xs != [] -/
theorem neR_nil {st : Ms} {x : Opd} {ds : List D} {n : Nat} (h : seqL st x = some ds) (hs : Sh n (.lst (resA st.M ds))) (hn : n ≤ 64) : neRF st x (.d (.lst [])) = some (!ds.isEmpty) := by
  have e1 : pyR st x = some (toP (.lst (resA st.M ds))) := by unfold pyR; rw [h]
  have e2 : pyR st (.d (.lst [])) = some (toP (.lst [])) := by
    unfold pyR
    rw [show seqL st (.d (.lst [])) = some [] from rfl]
    rfl
  unfold neRF eqRF
  rw [e1, e2]
  simp only
  rw [if_pos ⟨sh_shaped hs hn, sh_shaped sh_nil (by decide)⟩, eqv_nil]
  cases ds <;> rfl
end VL

/-! a, b, c = xs, where xs is a list of the store -/
namespace VL
open PySem PySem.Spec PyProof.Rows L2
def asgU (t : Tgt) (E : C D) : Stm := bndC E fun d => fun st => match setTM t d st with
  | some env => some (.ok .nx, { st with env := env })
  | none => none
section
variable {X : Cx} {cl : CL} {W : WX} {e : Expr} {E : C D} {pos : Pos}
theorem ss_tupU {t : Tgt} {tg : Expr} (he : PE X e (TU X.K cl W E)) (hg : PG X tg (gT X.K t)) (hs : swapsWithSole [tg] e pos.line X.env = pure false := by rfl) (hw : swappedStores [tg] e X.env = pure none := by rfl)
    (h1 : (assignEach [tg] X.env).map (·.2) = [assign tg X.env] := by rfl) : PS X (.Assign [tg] e pos) (TUS X.K cl W (asgU t E)) := ps_imp (ps_asg he hg hs hw h1) fun D σ H h => by
  obtain ⟨B, st, G, R, rel, run⟩ := h
  refine ⟨B, st, G, R, rel, run.bind.mono fun d st1 G1 R1 H1 _ _ _ _ ⟨rel1, _, _, run1⟩ v rv => ?_⟩
  try simp only at run1
  split at run1
  · rename_i env e
    exact setTM_ok rel1 rv e fun σ' rel' => run1 σ' G1 R1 H1 (Same.refl _) (Pre.refl _) rel'
  · exact run1.elim
end
@[simp] theorem e_asgU (t : Tgt) (E : C D) (st : Ms) : asgU t E st = bndC E (fun d => fun st => match setTM t d st with
  | some env => some (.ok .nx, { st with env := env })
  | none => none) st := rfl
@[simp] theorem e_setTM_ob (is : List Nat) (n : Nat) (st : Ms) : setTM (.all is) (.ob n) st = (match st.M[n]? with
    | some (.lst ds) => if ds.length = is.length then some (setAll is ds st.env) else none
    | _ => none) := rfl
end VL

namespace Lw
open PySem PySem.Spec PyProof.Rows L2 VL
def top (i : Nat) : Stmt := PySem.Challenge.pw_knownholds_k07_yards_apart.main.body.getD i (.Pass ⟨0, 0, 0, 0⟩)
abbrev fs_Yard : List (List Nat) := [[115, 116, 97, 114, 116], [102, 114, 101, 101], [119, 111, 114, 100, 115], [98, 101, 103, 117, 110]]
abbrev s_head : Stmt := top 6
abbrev N_head : List Str := ["h", "m"]
theorem sc_head : FnScope N_head ["h", "m"] (defScope s_head) := ⟨rfl, rfl, rfl, by decide +kernel, rfl, by decide +kernel, by decide +kernel⟩
abbrev s_head_parts : Stmt := top 7
abbrev N_head_parts : List Str := ["word"]
theorem sc_head_parts : FnScope N_head_parts ["word"] (defScope s_head_parts) := ⟨rfl, rfl, rfl, by decide +kernel, rfl, by decide +kernel, by decide +kernel⟩
abbrev s_Yard_size_of : Stmt := inClass (top 8) 3
abbrev N_Yard_size_of : List Str := ["self", "at"]
theorem sc_Yard_size_of : FnScope N_Yard_size_of ["self", "at"] (defScope s_Yard_size_of) := ⟨rfl, rfl, rfl, by decide +kernel, rfl, by decide +kernel, by decide +kernel⟩
abbrev s_Yard_make : Stmt := inClass (top 8) 1
abbrev N_Yard_make : List Str := ["self", "h", "m", "at"]
theorem sc_Yard_make : FnScope N_Yard_make ["self", "h", "m"] (defScope s_Yard_make) := ⟨rfl, rfl, rfl, by decide +kernel, rfl, by decide +kernel, by decide +kernel⟩
abbrev s_Yard_set_word : Stmt := inClass (top 8) 5
abbrev N_Yard_set_word : List Str := ["self", "spot", "word"]
theorem sc_Yard_set_word : FnScope N_Yard_set_word ["self", "spot", "word"] (defScope s_Yard_set_word) := ⟨rfl, rfl, rfl, by decide +kernel, rfl, by decide +kernel, by decide +kernel⟩
abbrev s_Yard_word : Stmt := inClass (top 8) 4
abbrev N_Yard_word : List Str := ["self", "spot"]
theorem sc_Yard_word : FnScope N_Yard_word ["self", "spot"] (defScope s_Yard_word) := ⟨rfl, rfl, rfl, by decide +kernel, rfl, by decide +kernel, by decide +kernel⟩
abbrev s_laid : Stmt := top 10
abbrev N_laid : List Str := ["yard", "there", "moved", "pairs", "hold", "at", "k", "h", "m"]
theorem sc_laid : FnScope N_laid ["yard", "there", "moved", "pairs", "hold"] (defScope s_laid) := ⟨rfl, rfl, rfl, by decide +kernel, rfl, by decide +kernel, by decide +kernel⟩
abbrev s_Yard___init__ : Stmt := inClass (top 8) 0
abbrev N_Yard___init__ : List Str := ["self", "start"]
theorem sc_Yard___init__ : FnScope N_Yard___init__ ["self", "start"] (defScope s_Yard___init__) := ⟨rfl, rfl, rfl, by decide +kernel, rfl, by decide +kernel, by decide +kernel⟩
abbrev s_carted : Stmt := top 11
abbrev N_carted : List Str := ["yard", "roots", "there", "moved", "pairs", "hold", "done", "k", "old", "new"]
theorem sc_carted : FnScope N_carted ["yard", "roots"] (defScope s_carted) := ⟨rfl, rfl, rfl, by decide +kernel, rfl, by decide +kernel, by decide +kernel⟩
abbrev s_law_bag : Stmt := top 13
abbrev N_law_bag : List Str := ["script", "stir", "cell"]
theorem sc_law_bag : FnScope N_law_bag ["script"] (defScope s_law_bag) := ⟨rfl, rfl, rfl, by decide +kernel, rfl, by decide +kernel, by decide +kernel⟩
abbrev s_law_draw : Stmt := top 14
abbrev N_law_draw : List Str := ["bag", "many", "found"]
theorem sc_law_draw : FnScope N_law_draw ["bag", "many"] (defScope s_law_draw) := ⟨rfl, rfl, rfl, by decide +kernel, rfl, by decide +kernel, by decide +kernel⟩
abbrev s_law_more : Stmt := top 15
abbrev N_law_more : List Str := ["bag"]
theorem sc_law_more : FnScope N_law_more ["bag"] (defScope s_law_more) := ⟨rfl, rfl, rfl, by decide +kernel, rfl, by decide +kernel, by decide +kernel⟩
abbrev s_law_whole : Stmt := top 16
abbrev N_law_whole : List Str := ["found"]
theorem sc_law_whole : FnScope N_law_whole ["found"] (defScope s_law_whole) := ⟨rfl, rfl, rfl, by decide +kernel, rfl, by decide +kernel, by decide +kernel⟩
abbrev s_law_start : Stmt := top 17
abbrev N_law_start : List Str := ["bag"]
theorem sc_law_start : FnScope N_law_start ["bag"] (defScope s_law_start) := ⟨rfl, rfl, rfl, by decide +kernel, rfl, by decide +kernel, by decide +kernel⟩
abbrev s_law_worth : Stmt := top 18
abbrev N_law_worth : List Str := ["bag"]
theorem sc_law_worth : FnScope N_law_worth ["bag"] (defScope s_law_worth) := ⟨rfl, rfl, rfl, by decide +kernel, rfl, by decide +kernel, by decide +kernel⟩
abbrev s_law_size : Stmt := top 19
abbrev N_law_size : List Str := ["bag"]
theorem sc_law_size : FnScope N_law_size ["bag"] (defScope s_law_size) := ⟨rfl, rfl, rfl, by decide +kernel, rfl, by decide +kernel, by decide +kernel⟩
abbrev s_law_told : Stmt := top 20
abbrev N_law_told : List Str := ["found", "things", "one", "thing", "some", "due", "word"]
theorem sc_law_told : FnScope N_law_told ["found", "things"] (defScope s_law_told) := ⟨rfl, rfl, rfl, by decide +kernel, rfl, by decide +kernel, by decide +kernel⟩
abbrev s_law_many : Stmt := top 21
abbrev N_law_many : List Str := ["bag", "way"]
theorem sc_law_many : FnScope N_law_many ["bag"] (defScope s_law_many) := ⟨rfl, rfl, rfl, by decide +kernel, rfl, by decide +kernel, by decide +kernel⟩
abbrev s_law_hold : Stmt := top 22
abbrev N_law_hold : List Str := ["bag", "things", "k", "chain"]
theorem sc_law_hold : FnScope N_law_hold ["bag", "things", "k", "chain"] (defScope s_law_hold) := ⟨rfl, rfl, rfl, by decide +kernel, rfl, by decide +kernel, by decide +kernel⟩
abbrev s_law_field : Stmt := top 23
abbrev N_law_field : List Str := ["yard", "things", "k", "j", "worth", "at", "holds", "numbers"]
theorem sc_law_field : FnScope N_law_field ["yard", "things", "k", "j", "worth"] (defScope s_law_field) := ⟨rfl, rfl, rfl, by decide +kernel, rfl, by decide +kernel, by decide +kernel⟩
abbrev s_law_filled : Stmt := top 24
abbrev N_law_filled : List Str := ["bag", "yard", "many", "chain", "things", "k", "h", "j", "m"]
theorem sc_law_filled : FnScope N_law_filled ["bag", "yard"] (defScope s_law_filled) := ⟨rfl, rfl, rfl, by decide +kernel, rfl, by decide +kernel, by decide +kernel⟩
abbrev s_law_roots : Stmt := top 25
abbrev N_law_roots : List Str := ["bag", "things", "roots", "way", "many", "k"]
theorem sc_law_roots : FnScope N_law_roots ["bag", "things"] (defScope s_law_roots) := ⟨rfl, rfl, rfl, by decide +kernel, rfl, by decide +kernel, by decide +kernel⟩
abbrev s_law_carted : Stmt := top 26
abbrev N_law_carted : List Str := ["things", "roots", "free", "by", "thing", "moved", "order", "ahead", "done", "due", "hold", "one"]
theorem sc_law_carted : FnScope N_law_carted ["things", "roots", "free"] (defScope s_law_carted) := ⟨rfl, rfl, rfl, by decide +kernel, rfl, by decide +kernel, by decide +kernel⟩
abbrev s_law_pairs : Stmt := top 27
abbrev N_law_pairs : List Str := ["found", "due", "one"]
theorem sc_law_pairs : FnScope N_law_pairs ["found", "due"] (defScope s_law_pairs) := ⟨rfl, rfl, rfl, by decide +kernel, rfl, by decide +kernel, by decide +kernel⟩
abbrev s_law_free : Stmt := top 28
abbrev N_law_free : List Str := ["start", "things", "thing"]
theorem sc_law_free : FnScope N_law_free ["start", "things"] (defScope s_law_free) := ⟨rfl, rfl, rfl, by decide +kernel, rfl, by decide +kernel, by decide +kernel⟩
abbrev s_law_carted_once : Stmt := top 29
abbrev N_law_carted_once : List Str := ["bag", "house", "roots", "due", "handed", "found", "again", "yard", "things", "free"]
theorem sc_law_carted_once : FnScope N_law_carted_once ["bag", "house"] (defScope s_law_carted_once) := ⟨rfl, rfl, rfl, by decide +kernel, rfl, by decide +kernel, by decide +kernel⟩
abbrev s_Yard_told : Stmt := inClass (top 8) 6
abbrev N_Yard_told : List Str := ["self", "found", "at", "low", "h", "m"]
theorem sc_Yard_told : FnScope N_Yard_told ["self"] (defScope s_Yard_told) := ⟨rfl, rfl, rfl, by decide +kernel, rfl, by decide +kernel, by decide +kernel⟩
abbrev s_law_deed : Stmt := top 30
abbrev N_law_deed : List Str := ["bag", "house", "way", "yard", "things", "free", "at", "found", "h", "m", "j"]
theorem sc_law_deed : FnScope N_law_deed ["bag", "house", "way"] (defScope s_law_deed) := ⟨rfl, rfl, rfl, by decide +kernel, rfl, by decide +kernel, by decide +kernel⟩
abbrev s_law : Stmt := top 31
abbrev N_law : List Str := ["script", "bag", "start", "yard", "things", "houses", "k", "house", "way", "made"]
theorem sc_law : FnScope N_law ["script"] (defScope s_law) := ⟨rfl, rfl, rfl, by decide +kernel, rfl, by decide +kernel, by decide +kernel⟩
def B_head : Stm := retS (numC orF (numC shlF (varV 0) (pureC (.int 4))) (varV 1))
def F_head : Fn := fnC 2 2 B_head
def B_head_parts : Stm := retS (tupE (consA (numC shrF (varV 0) (pureC (.int 4))) (consA (numC andF (varV 0) (pureC (.int 15))) nilA)))
def F_head_parts : Fn := fnC 1 1 B_head_parts
def B_Yard_size_of : Stm := seqS (ifS (cmp2 notInXF (rawV 1) (fldE (rawV 0) [89, 97, 114, 100] [98, 101, 103, 117, 110])) (raiseS [78, 111, 84, 104, 105, 110, 103]) skipS)
  (retS (callE 1 F_head_parts (consA (ixE (fldE (rawV 0) [89, 97, 114, 100] [119, 111, 114, 100, 115]) (numC subF (varV 1) (valO (fldE (rawV 0) [89, 97, 114, 100] [115, 116, 97, 114, 116])))) nilA)))
def F_Yard_size_of : Fn := fnC 2 2 B_Yard_size_of
def B_Yard_make : Stm := seqS (asgV 3 (valO (fldE (rawV 0) [89, 97, 114, 100] [102, 114, 101, 101])))
  (seqS (dputS (pureC (.bl true)) (fldE (rawV 0) [89, 97, 114, 100] [98, 101, 103, 117, 110]) (varV 3))
  (seqS (exprS (appE (fldE (rawV 0) [89, 97, 114, 100] [119, 111, 114, 100, 115]) (callE 2 F_head (consA (varV 1) (consA (varV 2) nilA)))))
  (seqS (exprS (extE (fldE (rawV 0) [89, 97, 114, 100] [119, 111, 114, 100, 115]) (opdC (valN (bin2 mulF (opdC (valN (lstE (consA (pureC (.int 0)) nilA)))) (opdC (valN (bin2 addF (rawV 1) (rawV 2)))))))))
  (seqS (fputS (valN (bin2 addF (opdC (valN (bin2 addF (opdC (valN (bin2 addF (rawV 3) (opdC (pureC (.int 1)))))) (rawV 1)))) (rawV 2))) (rawV 0) [89, 97, 114, 100] [102, 114, 101, 101])
  (retS (varV 3))))))
def F_Yard_make : Fn := fnC 3 4 B_Yard_make
def B_Yard_set_word : Stm := seqS (ifS (orC (notC (chainC leF ltF (fldE (rawV 0) [89, 97, 114, 100] [115, 116, 97, 114, 116]) (rawV 1) (fldE (rawV 0) [89, 97, 114, 100] [102, 114, 101, 101]))) (cmp2 inXF (rawV 1) (fldE (rawV 0) [89, 97, 114, 100] [98, 101, 103, 117, 110]))) (raiseS [78, 111, 83, 112, 111, 116]) skipS)
  (sputS (varV 2) (fldE (rawV 0) [89, 97, 114, 100] [119, 111, 114, 100, 115]) (numC subF (varV 1) (valO (fldE (rawV 0) [89, 97, 114, 100] [115, 116, 97, 114, 116]))))
def F_Yard_set_word : Fn := fnC 3 3 B_Yard_set_word
def B_Yard_word : Stm := seqS (ifS (notC (chainC leF ltF (fldE (rawV 0) [89, 97, 114, 100] [115, 116, 97, 114, 116]) (rawV 1) (fldE (rawV 0) [89, 97, 114, 100] [102, 114, 101, 101]))) (raiseS [78, 111, 83, 112, 111, 116]) skipS)
  (retS (ixE (fldE (rawV 0) [89, 97, 114, 100] [119, 111, 114, 100, 115]) (numC subF (varV 1) (valO (fldE (rawV 0) [89, 97, 114, 100] [115, 116, 97, 114, 116])))))
def F_Yard_word : Fn := fnC 2 2 B_Yard_word
def B_laid : Stm := seqS (ifS (cmp2 eqF (rawV 4) (opdC (pureC (.int 0)))) (retS (pureC (.int 0))) skipS)
  (seqS (ifS (cmp2 notInDF (rawV 4) (rawV 2)) (seqS (asgT (.all [7, 8]) (methE 2 F_Yard_size_of [89, 97, 114, 100] [115, 105, 122, 101, 95, 111, 102] (rawV 0) (consA (varV 4) nilA)))
  (seqS (asgV 5 (methE 3 F_Yard_make [89, 97, 114, 100] [109, 97, 107, 101] (rawV 1) (consA (varV 7) (consA (varV 8) nilA))))
  (seqS (dputS (varV 5) (rawV 2) (varV 4))
  (seqS (exprS (appE (rawV 3) (tupE (consA (varV 4) (consA (varV 5) nilA)))))
  (forS (itR2 (valN (bin2 addF (rawV 7) (opdC (pureC (.int 1))))) (valN (bin2 addF (opdC (valN (bin2 addF (rawV 7) (rawV 8)))) (opdC (pureC (.int 1)))))) (.one 6) (exprS (methE 3 F_Yard_set_word [89, 97, 114, 100] [115, 101, 116, 95, 119, 111, 114, 100] (rawV 1) (consA (valN (bin2 addF (rawV 5) (rawV 6))) (consA (methE 2 F_Yard_word [89, 97, 114, 100] [119, 111, 114, 100] (rawV 0) (consA (valN (bin2 addF (rawV 4) (rawV 6))) nilA)) nilA))))))))) skipS)
  (retS (dgE (rawV 2) (varV 4))))
def F_laid : Fn := fnC 5 9 B_laid
def B_Yard___init__ : Stm := seqS (fputS (varV 1) (rawV 0) [89, 97, 114, 100] [115, 116, 97, 114, 116])
  (seqS (fputS (varV 1) (rawV 0) [89, 97, 114, 100] [102, 114, 101, 101])
  (seqS (fputS (shrN (lstE nilA)) (rawV 0) [89, 97, 114, 100] [119, 111, 114, 100, 115])
  (fputS (shrN dnewE) (rawV 0) [89, 97, 114, 100] [98, 101, 103, 117, 110])))
def F_Yard___init__ : Fn := fnC 2 2 B_Yard___init__
def B_carted : Stm := seqS (asgV 2 (makeE 2 F_Yard___init__ [89, 97, 114, 100] (consA (valO (fldE (rawV 0) [89, 97, 114, 100] [102, 114, 101, 101])) nilA)))
  (seqS (asgV 3 (shrN dnewE))
  (seqS (asgV 4 (shrN (lstE nilA)))
  (seqS (forS (itD (varV 1)) (.one 5) (exprS (callE 5 F_laid (consA (varV 0) (consA (varV 2) (consA (varV 3) (consA (varV 4) (consA (varV 5) nilA))))))))
  (seqS (asgV 6 (pureC (.int 0)))
  (seqS (whileS (cmp2 ltF (rawV 6) (opdC (valN (un1 lenF (rawV 4))))) (seqS (asgT (.all [8, 9]) (ixE (rawV 4) (varV 6)))
  (seqS (forS (itR2 (pureC (.int 1)) (valN (bin2 addF (opdC (ixE (opdC (methE 2 F_Yard_size_of [89, 97, 114, 100] [115, 105, 122, 101, 95, 111, 102] (rawV 0) (consA (varV 8) nilA))) (pureC (.int 0)))) (opdC (pureC (.int 1)))))) (.one 7) (exprS (methE 3 F_Yard_set_word [89, 97, 114, 100] [115, 101, 116, 95, 119, 111, 114, 100] (rawV 2) (consA (valN (bin2 addF (rawV 9) (rawV 7))) (consA (callE 5 F_laid (consA (varV 0) (consA (varV 2) (consA (varV 3) (consA (varV 4) (consA (methE 2 F_Yard_word [89, 97, 114, 100] [119, 111, 114, 100] (rawV 0) (consA (valN (bin2 addF (rawV 8) (rawV 7))) nilA)) nilA)))))) nilA)))))
  (asgV 6 (valN (bin2 addF (rawV 6) (opdC (pureC (.int 1)))))))))
  (retS (tupE (consA (varV 2) (consA (varV 4) nilA)))))))))
def F_carted : Fn := fnC 2 10 B_carted
def B_law_bag : Stm := seqS (asgV 1 (pureC (.int 7)))
  (seqS (forS (itD (valN (slE (rawV 0) partN (partS (pureC (.int 63)))))) (.one 2) (asgV 1 (numC modF (valN (bin2 addF (opdC (valN (bin2 addF (opdC (valN (bin2 mulF (rawV 1) (opdC (pureC (.int 48271)))))) (opdC (numC modF (varV 2) (pureC (.int 2147483629))))))) (opdC (pureC (.int 1))))) (pureC (.int 2147483647)))))
  (retS (shrN (lstE (consA (valN (lcE (itD (valN (slE (rawV 0) partN (partS (pureC (.int 63)))))) (.one 2) [2] yesC (numC modF (valN (un1 absF (rawV 2))) (numC powF (pureC (.int 10)) (pureC (.int 60)))))) (consA (pureC (.int 0)) (consA (pureC (.int 0)) (consA (varV 1) (consA (pureC (.int 0)) nilA)))))))))
def F_law_bag : Fn := fnC 1 3 B_law_bag
def B_law_draw : Stm := seqS (ifS (andC (cmp2 eqF (opdC (ixE (rawV 0) (pureC (.int 2)))) (opdC (pureC (.int 0)))) (cmp2 ltF (opdC (ixE (rawV 0) (pureC (.int 1)))) (opdC (valN (un1 lenF (opdC (ixE (rawV 0) (pureC (.int 0))))))))) (seqS (sputS (ixE (opdC (ixE (rawV 0) (pureC (.int 0)))) (ixE (rawV 0) (pureC (.int 1)))) (rawV 0) (pureC (.int 2)))
  (sputS (valN (bin2 addF (opdC (ixE (rawV 0) (pureC (.int 1)))) (opdC (pureC (.int 1))))) (rawV 0) (pureC (.int 1)))) (ifS (cmp2 eqF (opdC (ixE (rawV 0) (pureC (.int 2)))) (opdC (pureC (.int 0)))) (seqS (sputS (valN (bin2 addF (opdC (ixE (rawV 0) (pureC (.int 4)))) (opdC (pureC (.int 1))))) (rawV 0) (pureC (.int 4)))
  (seqS (sputS (numC modF (valN (bin2 addF (opdC (valN (bin2 addF (opdC (valN (bin2 addF (opdC (numC powF (ixE (rawV 0) (pureC (.int 3))) (pureC (.int 3)))) (opdC (valN (bin2 mulF (opdC (pureC (.int 69621))) (opdC (ixE (rawV 0) (pureC (.int 3)))))))))) (opdC (valN (bin2 mulF (opdC (pureC (.int 1009))) (opdC (ixE (rawV 0) (pureC (.int 4)))))))))) (opdC (pureC (.int 1))))) (pureC (.int 2147483647))) (rawV 0) (pureC (.int 3)))
  (retS (numC modF (numC divF (ixE (rawV 0) (pureC (.int 3))) (pureC (.int 16))) (varV 1))))) skipS))
  (seqS (asgV 2 (numC modF (ixE (rawV 0) (pureC (.int 2))) (varV 1)))
  (seqS (sputS (numC divF (ixE (rawV 0) (pureC (.int 2))) (varV 1)) (rawV 0) (pureC (.int 2)))
  (retS (varV 2))))
def F_law_draw : Fn := fnC 2 3 B_law_draw
def B_law_more : Stm := retS (orE (boolE (cmp2 gtF (opdC (ixE (rawV 0) (pureC (.int 2)))) (opdC (pureC (.int 0))))) (boolE (cmp2 ltF (opdC (ixE (rawV 0) (pureC (.int 1)))) (opdC (valN (un1 lenF (opdC (ixE (rawV 0) (pureC (.int 0))))))))))
def F_law_more : Fn := fnC 1 1 B_law_more
def B_law_whole : Stm := retS (andE (isiE [.int] (rawV 0)) (notE (isiE [.bool] (rawV 0))))
def F_law_whole : Fn := fnC 1 1 B_law_whole
def B_law_start : Stm := seqS (ifS (cmp2 eqF (opdC (callE 2 F_law_draw (consA (varV 0) (consA (pureC (.int 3)) nilA)))) (opdC (pureC (.int 2)))) (retS (valN (bin2 addF (opdC (pureC (.int 1))) (opdC (callE 2 F_law_draw (consA (varV 0) (consA (numC powF (pureC (.int 10)) (pureC (.int 59))) nilA))))))) skipS)
  (retS (valN (bin2 addF (opdC (pureC (.int 1))) (opdC (callE 2 F_law_draw (consA (varV 0) (consA (pureC (.int 40)) nilA)))))))
def F_law_start : Fn := fnC 1 1 B_law_start
def B_law_worth : Stm := seqS (ifS (cmp2 eqF (opdC (callE 2 F_law_draw (consA (varV 0) (consA (pureC (.int 4)) nilA)))) (opdC (pureC (.int 3)))) (retS (valN (bin2 mulF (opdC (numC subF (valN (bin2 mulF (opdC (callE 2 F_law_draw (consA (varV 0) (consA (pureC (.int 2)) nilA)))) (opdC (pureC (.int 2))))) (pureC (.int 1)))) (opdC (callE 2 F_law_draw (consA (varV 0) (consA (numC powF (pureC (.int 10)) (pureC (.int 60))) nilA))))))) skipS)
  (retS (numC subF (callE 2 F_law_draw (consA (varV 0) (consA (pureC (.int 21)) nilA))) (pureC (.int 10))))
def F_law_worth : Fn := fnC 1 1 B_law_worth
def B_law_size : Stm := seqS (ifS (cmp2 eqF (opdC (callE 2 F_law_draw (consA (varV 0) (consA (pureC (.int 8)) nilA)))) (opdC (pureC (.int 7)))) (retS (tupE (consA (callE 2 F_law_draw (consA (varV 0) (consA (pureC (.int 10)) nilA))) (consA (callE 2 F_law_draw (consA (varV 0) (consA (pureC (.int 10)) nilA))) nilA)))) skipS)
  (retS (tupE (consA (callE 2 F_law_draw (consA (varV 0) (consA (pureC (.int 4)) nilA))) (consA (callE 2 F_law_draw (consA (varV 0) (consA (pureC (.int 3)) nilA))) nilA))))
def F_law_size : Fn := fnC 1 1 B_law_size
def B_law_told : Stm := seqS (ifS (orC (notC (tstE (isiE [.list] (rawV 0)))) (cmp2 neF (opdC (valN (un1 lenF (rawV 0)))) (opdC (valN (un1 lenF (rawV 1)))))) (retS (pureC (.bl false))) skipS)
  (seqS (forS (itZ (consA (varV 0) (consA (varV 1) nilA))) (.all [2, 3]) (seqS (ifS (orC (notC (tstE (isiE [.tuple] (rawV 2)))) (orC (cmp2 neF (opdC (valN (un1 lenF (rawV 2)))) (opdC (pureC (.int 3)))) (orC (notC (tstE (callE 1 F_law_whole (consA (ixE (rawV 2) (pureC (.int 0))) nilA)))) (cmp2 neF (opdC (ixE (rawV 2) (pureC (.int 0)))) (opdC (ixE (rawV 3) (pureC (.int 0)))))))) (retS (pureC (.bl false))) skipS)
  (forS (itD (valN (lstE (consA (tupE (consA (ixE (rawV 2) (pureC (.int 1))) (consA (ixE (rawV 3) (pureC (.int 1))) nilA))) (consA (tupE (consA (ixE (rawV 2) (pureC (.int 2))) (consA (ixE (rawV 3) (pureC (.int 2))) nilA))) nilA))))) (.all [4, 5]) (seqS (ifS (orC (notC (tstE (isiE [.tuple] (rawV 4)))) (cmp2 neF (opdC (valN (un1 listTF (rawV 4)))) (rawV 5))) (retS (pureC (.bl false))) skipS)
  (ifS (cmp2 neF (opdC (valN (un1 lenF (opdC (valN (lcE (itD (varV 4)) (.one 6) [6] (tstE (callE 1 F_law_whole (consA (varV 6) nilA))) (varV 6))))))) (opdC (valN (un1 lenF (rawV 5))))) (retS (pureC (.bl false))) skipS)))))
  (retS (pureC (.bl true))))
def F_law_told : Fn := fnC 2 7 B_law_told
def B_law_many : Stm := seqS (asgV 1 (callE 2 F_law_draw (consA (varV 0) (consA (pureC (.int 8)) nilA))))
  (seqS (ifS (cmp2 eqF (rawV 1) (opdC (pureC (.int 7)))) (retS (valN (bin2 addF (opdC (pureC (.int 20))) (opdC (callE 2 F_law_draw (consA (varV 0) (consA (pureC (.int 131)) nilA))))))) skipS)
  (retS (valN (bin2 addF (opdC (pureC (.int 1))) (opdC (callE 2 F_law_draw (consA (varV 0) (consA (ixE (opdC (valN (lstE (consA (pureC (.int 6)) (consA (pureC (.int 12)) nilA))))) (numC modF (varV 1) (pureC (.int 2)))) nilA))))))))
def F_law_many : Fn := fnC 1 2 B_law_many
def B_law_hold : Stm := seqS (ifS (andC (cmp2 gtF (rawV 3) (opdC (pureC (.int 0)))) (cmp2 gtF (opdC (callE 2 F_law_draw (consA (varV 0) (consA (pureC (.int 5)) nilA)))) (opdC (pureC (.int 0))))) (retS (ixE (opdC (ixE (rawV 1) (numC modF (valN (bin2 addF (rawV 2) (opdC (ixE (opdC (valN (lstE (consA (pureC (.int 0)) (consA (pureC (.int 1)) (consA (numC subF (valN (un1 lenF (rawV 1))) (pureC (.int 1))) nilA)))))) (varV 3))))) (valN (un1 lenF (rawV 1)))))) (pureC (.int 0)))) skipS)
  (seqS (ifS (cmp2 eqF (opdC (callE 2 F_law_draw (consA (varV 0) (consA (pureC (.int 4)) nilA)))) (opdC (pureC (.int 0)))) (retS (pureC (.int 0))) skipS)
  (retS (ixE (opdC (ixE (rawV 1) (callE 2 F_law_draw (consA (varV 0) (consA (valN (un1 lenF (rawV 1))) nilA))))) (pureC (.int 0)))))
def F_law_hold : Fn := fnC 4 4 B_law_hold
def B_law_field : Stm := seqS (asgT (.all [5, 6, 7]) (ixE (rawV 1) (varV 2)))
  (seqS (exprS (methE 3 F_Yard_set_word [89, 97, 114, 100] [115, 101, 116, 95, 119, 111, 114, 100] (rawV 0) (consA (valN (bin2 addF (opdC (valN (bin2 addF (rawV 5) (opdC (pureC (.int 1)))))) (rawV 3))) (consA (varV 4) nilA))))
  (ifS (cmp2 ltF (rawV 3) (opdC (valN (un1 lenF (rawV 6))))) (sputS (varV 4) (rawV 6) (varV 3)) (sputS (varV 4) (rawV 7) (numC subF (varV 3) (valN (un1 lenF (rawV 6)))))))
def F_law_field : Fn := fnC 5 8 B_law_field
def B_law_filled : Stm := seqS (asgV 2 (callE 1 F_law_many (consA (varV 0) nilA)))
  (seqS (asgV 3 (callE 2 F_law_draw (consA (varV 0) (consA (pureC (.int 3)) nilA))))
  (seqS (asgV 4 (shrN (lstE nilA)))
  (seqS (forS (itR1 (varV 2)) (.one 5) (seqS (asgT (.all [6, 8]) (callE 1 F_law_size (consA (varV 0) nilA)))
  (seqS (asgV 6 (numC max2F (varV 6) (valN (un1 intF (opdC (boolE (cmp2 gtF (rawV 3) (opdC (pureC (.int 0))))))))))
  (exprS (appE (rawV 4) (tupE (consA (methE 3 F_Yard_make [89, 97, 114, 100] [109, 97, 107, 101] (rawV 1) (consA (varV 6) (consA (varV 8) nilA))) (consA (shrN (bin2 mulF (opdC (valN (lstE (consA (pureC (.int 0)) nilA)))) (rawV 6))) (consA (shrN (bin2 mulF (opdC (valN (lstE (consA (pureC (.int 0)) nilA)))) (rawV 8))) nilA)))))))))
  (seqS (forS (itR1 (varV 2)) (.one 5) (seqS (forS (itR1 (valN (un1 lenF (opdC (ixE (opdC (ixE (rawV 4) (varV 5))) (pureC (.int 1))))))) (.one 7) (exprS (callE 5 F_law_field (consA (varV 1) (consA (varV 4) (consA (varV 5) (consA (varV 7) (consA (callE 4 F_law_hold (consA (varV 0) (consA (varV 4) (consA (varV 5) (consA (valN (bin2 mulF (rawV 3) (opdC (valN (un1 intF (opdC (boolE (cmp2 eqF (rawV 7) (opdC (pureC (.int 0))))))))))) nilA))))) nilA))))))))
  (forS (itR1 (valN (un1 lenF (opdC (ixE (opdC (ixE (rawV 4) (varV 5))) (pureC (.int 2))))))) (.one 7) (exprS (callE 5 F_law_field (consA (varV 1) (consA (varV 4) (consA (varV 5) (consA (valN (bin2 addF (opdC (valN (un1 lenF (opdC (ixE (opdC (ixE (rawV 4) (varV 5))) (pureC (.int 1))))))) (rawV 7))) (consA (callE 1 F_law_worth (consA (varV 0) nilA)) nilA))))))))))
  (retS (varV 4))))))
def F_law_filled : Fn := fnC 2 9 B_law_filled
def B_law_roots : Stm := seqS (asgN 2 (lstE nilA))
  (seqS (asgV 3 (callE 2 F_law_draw (consA (varV 0) (consA (pureC (.int 56)) nilA))))
  (seqS (asgV 4 (numC modF (varV 3) (pureC (.int 7))))
  (seqS (ifS (cmp2 eqF (opdC (numC divF (varV 3) (pureC (.int 7)))) (opdC (pureC (.int 7)))) (asgV 4 (valN (bin2 addF (opdC (pureC (.int 7))) (opdC (callE 2 F_law_draw (consA (varV 0) (consA (pureC (.int 390)) nilA))))))) skipS)
  (seqS (forS (itR1 (varV 4)) (.one 5) (exprS (appE (rawV 2) (callE 4 F_law_hold (consA (varV 0) (consA (varV 1) (consA (pureC (.int 0)) (consA (pureC (.int 0)) nilA))))))))
  (retS (varV 2))))))
def F_law_roots : Fn := fnC 2 6 B_law_roots
def B_law_carted : Stm := seqS (asgN 3 dnewE)
  (seqS (forS (itD (varV 0)) (.one 4) (dputS (varV 4) (rawV 3) (ixE (rawV 4) (pureC (.int 0)))))
  (seqS (asgN 5 (dispE (consK (pureC (.int 0)) (pureC (.int 0)) nilK)))
  (seqS (asgN 6 (lstE nilA))
  (seqS (asgN 7 (un1 listTF (rawV 1)))
  (seqS (asgV 8 (pureC (.int 0)))
  (seqS (whileS (cmp2 ltF (rawV 8) (opdC (valN (un1 lenF (rawV 7))))) (seqS (asgV 10 (ixE (rawV 7) (varV 8)))
  (seqS (asgV 8 (valN (bin2 addF (rawV 8) (opdC (pureC (.int 1))))))
  (seqS (ifS (andC (cmp2 notInDF (rawV 10) (rawV 5)) (cmp2 notInDF (rawV 10) (rawV 3))) (retS (pureC .non)) skipS)
  (ifS (cmp2 notInDF (rawV 10) (rawV 5)) (seqS (dputS (varV 2) (rawV 5) (varV 10))
  (seqS (asgV 2 (valN (bin2 addF (opdC (valN (bin2 addF (opdC (valN (bin2 addF (rawV 2) (opdC (pureC (.int 1)))))) (opdC (valN (un1 lenF (opdC (ixE (opdC (dgE (rawV 3) (varV 10))) (pureC (.int 1)))))))))) (opdC (valN (un1 lenF (opdC (ixE (opdC (dgE (rawV 3) (varV 10))) (pureC (.int 2))))))))))
  (seqS (exprS (appE (rawV 6) (varV 10)))
  (exprS (extE (rawV 7) (opdC (ixE (opdC (dgE (rawV 3) (varV 10))) (pureC (.int 1))))))))) skipS)))))
  (seqS (asgV 9 (shrN (lcE (itD (varV 6)) (.one 10) [10] yesC (tupE (consA (dgE (rawV 5) (varV 10)) (consA (shrN (lcE (itD (ixE (opdC (dgE (rawV 3) (varV 10))) (pureC (.int 1)))) (.one 11) [11] yesC (dgE (rawV 5) (varV 11)))) (consA (shrN (un1 listTF (opdC (ixE (opdC (dgE (rawV 3) (varV 10))) (pureC (.int 2)))))) nilA)))))))
  (retS (tupE (consA (varV 9) (consA (valN (lcE (itD (varV 6)) (.one 10) [10] yesC (tupE (consA (varV 10) (consA (dgE (rawV 5) (varV 10)) nilA))))) (consA (varV 2) nilA))))))))))))
def F_law_carted : Fn := fnC 3 12 B_law_carted
def B_law_pairs : Stm := seqS (ifS (orC (notC (tstE (isiE [.list] (rawV 0)))) (cmp2 neF (rawV 0) (rawV 1))) (retS (pureC (.bl false))) skipS)
  (retS (boolE (cmp2 eqF (opdC (valN (un1 lenF (opdC (valN (lcE (itD (varV 0)) (.one 2) [2] (andC (tstE (callE 1 F_law_whole (consA (ixE (rawV 2) (pureC (.int 0))) nilA))) (tstE (callE 1 F_law_whole (consA (ixE (rawV 2) (pureC (.int 1))) nilA)))) (varV 2))))))) (opdC (valN (un1 lenF (rawV 1)))))))
def F_law_pairs : Fn := fnC 2 3 B_law_pairs
def B_law_free : Stm := retS (valN (bin2 addF (rawV 0) (opdC (valN (un1 sumF (opdC (valN (lcE (itD (varV 1)) (.one 2) [2] yesC (valN (bin2 addF (opdC (valN (bin2 addF (opdC (pureC (.int 1))) (opdC (valN (un1 lenF (opdC (ixE (rawV 2) (pureC (.int 1)))))))))) (opdC (valN (un1 lenF (opdC (ixE (rawV 2) (pureC (.int 2)))))))))))))))))
def F_law_free : Fn := fnC 2 3 B_law_free
def B_law_carted_once : Stm := seqS (asgU (.all [7, 8, 9]) (varV 1))
  (seqS (asgV 2 (valN (lstE nilA)))
  (seqS (ifS (cmp2 neRF (rawV 8) (opdC (valN (lstE nilA)))) (asgV 2 (callE 2 F_law_roots (consA (varV 0) (consA (varV 8) nilA)))) skipS)
  (seqS (asgV 3 (callE 3 F_law_carted (consA (varV 8) (consA (varV 2) (consA (varV 9) nilA)))))
  (seqS (asgV 4 (shrN (un1 listTF (rawV 2))))
  (seqS (asgV 5 (callE 2 F_carted (consA (varV 7) (consA (varV 4) nilA))))
  (seqS (ifS (orC (cmp2 neF (rawV 4) (rawV 2)) (orC (notC (tstE (isiE [.tuple] (rawV 5)))) (orC (cmp2 neF (opdC (valN (un1 lenF (rawV 5)))) (opdC (pureC (.int 2)))) (notC (tstE (callE 2 F_law_pairs (consA (ixE (rawV 5) (pureC (.int 1))) (consA (ixE (rawV 3) (pureC (.int 1))) nilA)))))))) (retS (pureC .non)) skipS)
  (seqS (exprS (clrE (rawV 4)))
  (seqS (exprS (clrE (opdC (ixE (rawV 5) (pureC (.int 1))))))
  (seqS (asgV 6 (callE 2 F_carted (consA (varV 7) (consA (valN (un1 listTF (rawV 2))) nilA))))
  (seqS (ifS (notC (tstE (callE 2 F_law_pairs (consA (ixE (rawV 6) (pureC (.int 1))) (consA (ixE (rawV 3) (pureC (.int 1))) nilA))))) (retS (pureC .non)) skipS)
  (retS (shrN (lstE (consA (ixE (rawV 5) (pureC (.int 0))) (consA (ixE (rawV 3) (pureC (.int 0))) (consA (ixE (rawV 3) (pureC (.int 2))) nilA))))))))))))))))
def F_law_carted_once : Fn := fnC 2 10 B_law_carted_once
def B_Yard_told : Stm := seqS (asgN 1 (lstE nilA))
  (seqS (forO (fldE (rawV 0) [89, 97, 114, 100] [98, 101, 103, 117, 110]) (.one 2) (seqS (asgT (.all [4, 5]) (methE 2 F_Yard_size_of [89, 97, 114, 100] [115, 105, 122, 101, 95, 111, 102] (rawV 0) (consA (varV 2) nilA)))
  (seqS (asgV 3 (valN (bin2 addF (opdC (numC subF (varV 2) (valO (fldE (rawV 0) [89, 97, 114, 100] [115, 116, 97, 114, 116])))) (opdC (pureC (.int 1))))))
  (exprS (appE (rawV 1) (tupE (consA (varV 2) (consA (valN (un1 tupF (opdC (valN (slE (fldE (rawV 0) [89, 97, 114, 100] [119, 111, 114, 100, 115]) (partS (varV 3)) (partS (valN (bin2 addF (rawV 3) (rawV 4))))))))) (consA (valN (un1 tupF (opdC (valN (slE (fldE (rawV 0) [89, 97, 114, 100] [119, 111, 114, 100, 115]) (partS (valN (bin2 addF (rawV 3) (rawV 4)))) (partS (valN (bin2 addF (opdC (valN (bin2 addF (rawV 3) (rawV 4)))) (rawV 5))))))))) nilA)))))))))
  (retS (shrL 1)))
def F_Yard_told : Fn := fnC 1 6 B_Yard_told
def B_law_deed : Stm := seqS (asgU (.all [3, 4, 5]) (varV 1))
  (seqS (ifS (cmp2 eqF (rawV 2) (opdC (pureC (.int 1)))) (seqS (asgT (.all [8, 9]) (callE 1 F_law_size (consA (varV 0) nilA)))
  (seqS (exprS (appE (rawV 4) (tupE (consA (methE 3 F_Yard_make [89, 97, 114, 100] [109, 97, 107, 101] (rawV 3) (consA (varV 8) (consA (varV 9) nilA))) (consA (shrN (bin2 mulF (opdC (valN (lstE (consA (pureC (.int 0)) nilA)))) (rawV 8))) (consA (shrN (bin2 mulF (opdC (valN (lstE (consA (pureC (.int 0)) nilA)))) (rawV 9))) nilA))))))
  (sputS (valN (bin2 addF (opdC (valN (bin2 addF (opdC (valN (bin2 addF (rawV 5) (opdC (pureC (.int 1)))))) (rawV 8)))) (rawV 9))) (rawV 1) (pureC (.int 2))))) skipS)
  (seqS (ifS (andC (cmp2 eqF (rawV 2) (opdC (pureC (.int 2)))) (cmp2 neRF (rawV 4) (opdC (valN (lstE nilA))))) (seqS (asgV 6 (callE 2 F_law_draw (consA (varV 0) (consA (valN (un1 lenF (rawV 4))) nilA))))
  (seqS (ifS (cmp2 gtF (opdC (valN (un1 lenF (opdC (ixE (opdC (ixE (rawV 4) (varV 6))) (pureC (.int 1))))))) (opdC (pureC (.int 0)))) (exprS (callE 5 F_law_field (consA (varV 3) (consA (varV 4) (consA (varV 6) (consA (callE 2 F_law_draw (consA (varV 0) (consA (valN (un1 lenF (opdC (ixE (opdC (ixE (rawV 4) (varV 6))) (pureC (.int 1)))))) nilA))) (consA (callE 4 F_law_hold (consA (varV 0) (consA (varV 4) (consA (pureC (.int 0)) (consA (pureC (.int 0)) nilA))))) nilA))))))) skipS)
  (ifS (cmp2 gtF (opdC (valN (un1 lenF (opdC (ixE (opdC (ixE (rawV 4) (varV 6))) (pureC (.int 2))))))) (opdC (pureC (.int 0)))) (seqS (asgV 10 (valN (bin2 addF (opdC (valN (un1 lenF (opdC (ixE (opdC (ixE (rawV 4) (varV 6))) (pureC (.int 1))))))) (opdC (callE 2 F_law_draw (consA (varV 0) (consA (valN (un1 lenF (opdC (ixE (opdC (ixE (rawV 4) (varV 6))) (pureC (.int 2)))))) nilA)))))))
  (exprS (callE 5 F_law_field (consA (varV 3) (consA (varV 4) (consA (varV 6) (consA (varV 10) (consA (callE 1 F_law_worth (consA (varV 0) nilA)) nilA)))))))) skipS))) skipS)
  (seqS (ifS (cmp2 eqF (rawV 2) (opdC (pureC (.int 3)))) (seqS (asgV 7 (methE 1 F_Yard_told [89, 97, 114, 100] [116, 111, 108, 100] (rawV 3) nilA))
  (seqS (ifS (notC (tstE (callE 2 F_law_told (consA (varV 7) (consA (varV 4) nilA))))) (retS (pureC (.bl false))) skipS)
  (exprS (clrE (rawV 7))))) skipS)
  (retS (pureC (.bl true))))))
def F_law_deed : Fn := fnC 3 11 B_law_deed
def B_law : Stm := seqS (asgV 1 (callE 1 F_law_bag (consA (varV 0) nilA)))
  (seqS (asgV 2 (callE 1 F_law_start (consA (varV 1) nilA)))
  (seqS (asgV 3 (makeE 2 F_Yard___init__ [89, 97, 114, 100] (consA (varV 2) nilA)))
  (seqS (asgV 4 (callE 2 F_law_filled (consA (varV 1) (consA (varV 3) nilA))))
  (seqS (asgN 5 (lstE (consA (shrN (lstE (consA (varV 3) (consA (varV 4) (consA (callE 2 F_law_free (consA (varV 2) (consA (varV 4) nilA))) nilA))))) nilA)))
  (seqS (forS (itR1 (pureC (.int 24))) (.one 6) (ifS (orC (cmp2 ltF (rawV 6) (opdC (pureC (.int 3)))) (tstE (callE 1 F_law_more (consA (varV 1) nilA)))) (seqS (asgV 8 (callE 2 F_law_draw (consA (varV 1) (consA (pureC (.int 4)) nilA))))
  (seqS (asgV 7 (ixE (rawV 5) (callE 2 F_law_draw (consA (varV 1) (consA (valN (un1 lenF (rawV 5))) nilA)))))
  (seqS (ifS (andC (cmp2 eqF (rawV 8) (opdC (pureC (.int 0)))) (cmp2 ltF (opdC (valN (un1 lenF (rawV 5)))) (opdC (pureC (.int 5))))) (seqS (asgV 9 (callE 2 F_law_carted_once (consA (varV 1) (consA (varV 7) nilA))))
  (seqS (ifS (cmp2 isF (rawV 9) (opdC (pureC .non))) (retS (pureC (.bl false))) skipS)
  (exprS (appE (rawV 5) (varV 9))))) skipS)
  (seqS (ifS (notC (tstE (callE 3 F_law_deed (consA (varV 1) (consA (varV 7) (consA (varV 8) nilA)))))) (retS (pureC (.bl false))) skipS)
  (seqS (asgV 7 (ixE (rawV 5) (callE 2 F_law_draw (consA (varV 1) (consA (valN (un1 lenF (rawV 5))) nilA)))))
  (ifS (notC (tstE (callE 2 F_law_told (consA (methE 1 F_Yard_told [89, 97, 114, 100] [116, 111, 108, 100] (opdC (ixE (rawV 7) (pureC (.int 0)))) nilA) (consA (ixE (rawV 7) (pureC (.int 1))) nilA))))) (retS (pureC (.bl false))) skipS)))))) skipS))
  (seqS (forS (itD (varV 5)) (.one 7) (ifS (orC (notC (tstE (callE 2 F_law_told (consA (methE 1 F_Yard_told [89, 97, 114, 100] [116, 111, 108, 100] (opdC (ixE (rawV 7) (pureC (.int 0)))) nilA) (consA (ixE (rawV 7) (pureC (.int 1))) nilA))))) (cmp2 neF (fldE (opdC (ixE (rawV 7) (pureC (.int 0)))) [89, 97, 114, 100] [102, 114, 101, 101]) (opdC (ixE (rawV 7) (pureC (.int 2)))))) (retS (pureC (.bl false))) skipS))
  (retS (pureC (.bl true)))))))))
def F_law : Fn := fnC 1 10 B_law
section
variable {P : Program} {w : World} {K : PySem.W.Frag} {mg : Str → Option Value} {base : Heap} {cl : CL}
theorem body_head  (cdv : Value) (fa : Addr) (A : Around) (outer : List Env) (s : Shared) (H : Hp) (E : XK) (hr : Room 0 (A.deeper (envOfC "head" (defScope s_head) s.heap.objs.size fa cdv))) :
    PSs (cxOf (L2.CX P w) P w K mg base N_head "head" (defScope s_head) fa cdv A outer s H E) (defBody s_head) (TUS K cl (fun c d _ H' => E c d H') (B_head)) := by
  unfold B_head
  exact (ss_one (ss_ret (se_or' (se_shl (se_var 0) se_int) (se_var 1))))
theorem ok_head (hd : DefAt K mg "head" s_head ["h", "m"])  : OkD P w K mg base cl 1 "head" ["h", "m"] F_head :=
  ok_def hd sc_head (by decide) fun _ cdv fa A outer s H E hr => body_head  cdv fa A outer s H E hr
theorem body_head_parts  (cdv : Value) (fa : Addr) (A : Around) (outer : List Env) (s : Shared) (H : Hp) (E : XK) (hr : Room 0 (A.deeper (envOfC "head_parts" (defScope s_head_parts) s.heap.objs.size fa cdv))) :
    PSs (cxOf (L2.CX P w) P w K mg base N_head_parts "head_parts" (defScope s_head_parts) fa cdv A outer s H E) (defBody s_head_parts) (TUS K cl (fun c d _ H' => E c d H') (B_head_parts)) := by
  unfold B_head_parts
  exact (ss_one (ss_ret (se_tup (sa_cons (se_shr (se_var 0) se_int) (sa_cons (se_and' (se_var 0) se_int) sa_nil)))))
theorem ok_head_parts (hd : DefAt K mg "head_parts" s_head_parts ["word"])  : OkD P w K mg base cl 1 "head_parts" ["word"] F_head_parts :=
  ok_def hd sc_head_parts (by decide) fun _ cdv fa A outer s H E hr => body_head_parts  cdv fa A outer s H E hr
theorem body_Yard_size_of {C_Yard C_NoThing : Addr} (h_head_parts : OkD P w K mg base cl 1 "head_parts" ["word"] (F_head_parts)) (g_Yard : mg "Yard" = some (.ref C_Yard)) (g_NoThing : mg "NoThing" = some (.ref C_NoThing)) (x_NoThing : XRaise K mg cl "NoThing" [78, 111, 84, 104, 105, 110, 103] C_NoThing) (T_Yard : ClsT K cl [89, 97, 114, 100] fs_Yard C_Yard) (cdv : Value) (fa : Addr) (A : Around) (outer : List Env) (s : Shared) (H : Hp) (E : XK) (hr : Room 1 (A.deeper (envOfC "Yard.size_of" (defScope s_Yard_size_of) s.heap.objs.size fa cdv))) :
    PSs (cxOf (L2.CX P w) P w K mg base N_Yard_size_of "Yard.size_of" (defScope s_Yard_size_of) fa cdv A outer s H E) (defBody s_Yard_size_of) (TUS K cl (fun c d _ H' => E c d H') (B_Yard_size_of)) := by
  unfold B_Yard_size_of
  exact (ss_cons (ss_if (st_cmpXn (hu1 hr) (se_raw 1) (se_fld T_Yard (by rfl) (by decide) (se_raw 0))) (ss_one (ss_raiseX x_NoThing rfl (takes_of rfl rfl rfl rfl) (by rfl))) ss_nil)
  (ss_one (ss_ret (se_callD h_head_parts (hr.mono (by omega)) (by rfl) (takes_of rfl rfl rfl rfl) (sa_cons (se_ix (se_fld T_Yard (by rfl) (by decide) (se_raw 0)) (se_sub (se_var 1) (to_val (se_fld T_Yard (by rfl) (by decide) (se_raw 0))))) sa_nil)))))
theorem ok_Yard_size_of {C_Yard C_NoThing : Addr} (h_head_parts : OkD P w K mg base cl 1 "head_parts" ["word"] (F_head_parts)) (g_Yard : mg "Yard" = some (.ref C_Yard)) (g_NoThing : mg "NoThing" = some (.ref C_NoThing)) (x_NoThing : XRaise K mg cl "NoThing" [78, 111, 84, 104, 105, 110, 103] C_NoThing) (T_Yard : ClsT K cl [89, 97, 114, 100] fs_Yard C_Yard) {f : Addr} {fd : FuncData} (F : Fun K "size_of" "Yard.size_of" s_Yard_size_of f fd) : FnOk P w K mg base (L2.CX P w) 2 f fd ["self", "at"] (spU K cl 2 F_Yard_size_of) :=
  fun_ok F sc_Yard_size_of (by decide) fun cdv A outer s H E hr => body_Yard_size_of h_head_parts g_Yard g_NoThing x_NoThing T_Yard cdv f A outer s H E hr
theorem body_Yard_make {C_Yard : Addr} (h_head : OkD P w K mg base cl 1 "head" ["h", "m"] (F_head)) (g_Yard : mg "Yard" = some (.ref C_Yard)) (T_Yard : ClsT K cl [89, 97, 114, 100] fs_Yard C_Yard) (cdv : Value) (fa : Addr) (A : Around) (outer : List Env) (s : Shared) (H : Hp) (E : XK) (hr : Room 1 (A.deeper (envOfC "Yard.make" (defScope s_Yard_make) s.heap.objs.size fa cdv))) :
    PSs (cxOf (L2.CX P w) P w K mg base N_Yard_make "Yard.make" (defScope s_Yard_make) fa cdv A outer s H E) (defBody s_Yard_make) (TUS K cl (fun c d _ H' => E c d H') (B_Yard_make)) := by
  unfold B_Yard_make
  exact (ss_cons (ss_set (i := 3) sc_Yard_make.nd rfl (by first | exact .inl rfl | exact .inr rfl) (to_val (se_fld T_Yard (by rfl) (by decide) (se_raw 0))))
  (ss_cons (ss_dput (hu1 hr) se_bl (se_fld T_Yard (by rfl) (by decide) (se_raw 0)) (se_var 3))
  (ss_cons (ss_expr (se_app (se_fld T_Yard (by rfl) (by decide) (se_raw 0)) (se_callD h_head (hr.mono (by omega)) (by rfl) (takes_of rfl rfl rfl rfl) (sa_cons (se_var 1) (sa_cons (se_var 2) sa_nil)))))
  (ss_cons (ss_expr (se_ext (se_fld T_Yard (by rfl) (by decide) (se_raw 0)) (to_opd (of_nv (se_mul (to_opd (of_nv (se_lst (sa_cons se_int sa_nil)))) (to_opd (of_nv (se_add (se_raw 1) (se_raw 2)))))))))
  (ss_cons (ss_fput T_Yard (by rfl) (by decide) (of_nv (se_add (to_opd (of_nv (se_add (to_opd (of_nv (se_add (se_raw 3) (to_opd se_int)))) (se_raw 1)))) (se_raw 2))) (se_raw 0))
  (ss_one (ss_ret (se_var 3))))))))
theorem ok_Yard_make {C_Yard : Addr} (h_head : OkD P w K mg base cl 1 "head" ["h", "m"] (F_head)) (g_Yard : mg "Yard" = some (.ref C_Yard)) (T_Yard : ClsT K cl [89, 97, 114, 100] fs_Yard C_Yard) {f : Addr} {fd : FuncData} (F : Fun K "make" "Yard.make" s_Yard_make f fd) : FnOk P w K mg base (L2.CX P w) 2 f fd ["self", "h", "m"] (spU K cl 3 F_Yard_make) :=
  fun_ok F sc_Yard_make (by decide) fun cdv A outer s H E hr => body_Yard_make h_head g_Yard T_Yard cdv f A outer s H E hr
theorem body_Yard_set_word {C_Yard C_NoSpot : Addr} (g_Yard : mg "Yard" = some (.ref C_Yard)) (g_NoSpot : mg "NoSpot" = some (.ref C_NoSpot)) (x_NoSpot : XRaise K mg cl "NoSpot" [78, 111, 83, 112, 111, 116] C_NoSpot) (T_Yard : ClsT K cl [89, 97, 114, 100] fs_Yard C_Yard) (cdv : Value) (fa : Addr) (A : Around) (outer : List Env) (s : Shared) (H : Hp) (E : XK) (hr : Room 0 (A.deeper (envOfC "Yard.set_word" (defScope s_Yard_set_word) s.heap.objs.size fa cdv))) :
    PSs (cxOf (L2.CX P w) P w K mg base N_Yard_set_word "Yard.set_word" (defScope s_Yard_set_word) fa cdv A outer s H E) (defBody s_Yard_set_word) (TUS K cl (fun c d _ H' => E c d H') (B_Yard_set_word)) := by
  unfold B_Yard_set_word
  exact (ss_cons (ss_if (PW.pt (sw_or (st_not (st_chain op_leU op_ltU (se_fld T_Yard (by rfl) (by decide) (se_raw 0)) (se_raw 1) (se_fld T_Yard (by rfl) (by decide) (se_raw 0)))) (sw_or1 (st_cmpX (hu1 hr) (se_raw 1) (se_fld T_Yard (by rfl) (by decide) (se_raw 0)))))) (ss_one (ss_raiseX x_NoSpot rfl (takes_of rfl rfl rfl rfl) (by rfl))) ss_nil)
  (ss_one (ss_sput (se_var 2) (se_fld T_Yard (by rfl) (by decide) (se_raw 0)) (se_sub (se_var 1) (to_val (se_fld T_Yard (by rfl) (by decide) (se_raw 0)))))))
theorem ok_Yard_set_word {C_Yard C_NoSpot : Addr} (g_Yard : mg "Yard" = some (.ref C_Yard)) (g_NoSpot : mg "NoSpot" = some (.ref C_NoSpot)) (x_NoSpot : XRaise K mg cl "NoSpot" [78, 111, 83, 112, 111, 116] C_NoSpot) (T_Yard : ClsT K cl [89, 97, 114, 100] fs_Yard C_Yard) {f : Addr} {fd : FuncData} (F : Fun K "set_word" "Yard.set_word" s_Yard_set_word f fd) : FnOk P w K mg base (L2.CX P w) 1 f fd ["self", "spot", "word"] (spU K cl 3 F_Yard_set_word) :=
  fun_ok F sc_Yard_set_word (by decide) fun cdv A outer s H E hr => body_Yard_set_word g_Yard g_NoSpot x_NoSpot T_Yard cdv f A outer s H E hr
theorem body_Yard_word {C_Yard C_NoSpot : Addr} (g_Yard : mg "Yard" = some (.ref C_Yard)) (g_NoSpot : mg "NoSpot" = some (.ref C_NoSpot)) (x_NoSpot : XRaise K mg cl "NoSpot" [78, 111, 83, 112, 111, 116] C_NoSpot) (T_Yard : ClsT K cl [89, 97, 114, 100] fs_Yard C_Yard) (cdv : Value) (fa : Addr) (A : Around) (outer : List Env) (s : Shared) (H : Hp) (E : XK) (hr : Room 0 (A.deeper (envOfC "Yard.word" (defScope s_Yard_word) s.heap.objs.size fa cdv))) :
    PSs (cxOf (L2.CX P w) P w K mg base N_Yard_word "Yard.word" (defScope s_Yard_word) fa cdv A outer s H E) (defBody s_Yard_word) (TUS K cl (fun c d _ H' => E c d H') (B_Yard_word)) := by
  unfold B_Yard_word
  exact (ss_cons (ss_if (st_not (st_chain op_leU op_ltU (se_fld T_Yard (by rfl) (by decide) (se_raw 0)) (se_raw 1) (se_fld T_Yard (by rfl) (by decide) (se_raw 0)))) (ss_one (ss_raiseX x_NoSpot rfl (takes_of rfl rfl rfl rfl) (by rfl))) ss_nil)
  (ss_one (ss_ret (se_ix (se_fld T_Yard (by rfl) (by decide) (se_raw 0)) (se_sub (se_var 1) (to_val (se_fld T_Yard (by rfl) (by decide) (se_raw 0))))))))
theorem ok_Yard_word {C_Yard C_NoSpot : Addr} (g_Yard : mg "Yard" = some (.ref C_Yard)) (g_NoSpot : mg "NoSpot" = some (.ref C_NoSpot)) (x_NoSpot : XRaise K mg cl "NoSpot" [78, 111, 83, 112, 111, 116] C_NoSpot) (T_Yard : ClsT K cl [89, 97, 114, 100] fs_Yard C_Yard) {f : Addr} {fd : FuncData} (F : Fun K "word" "Yard.word" s_Yard_word f fd) : FnOk P w K mg base (L2.CX P w) 1 f fd ["self", "spot"] (spU K cl 2 F_Yard_word) :=
  fun_ok F sc_Yard_word (by decide) fun cdv A outer s H E hr => body_Yard_word g_Yard g_NoSpot x_NoSpot T_Yard cdv f A outer s H E hr
theorem body_laid {C_Yard : Addr} (h_Yard_size_of : OkM P w K mg base cl 2 C_Yard "size_of" ["self", "at"] (F_Yard_size_of)) (h_Yard_make : OkM P w K mg base cl 2 C_Yard "make" ["self", "h", "m"] (F_Yard_make)) (h_Yard_set_word : OkM P w K mg base cl 1 C_Yard "set_word" ["self", "spot", "word"] (F_Yard_set_word)) (h_Yard_word : OkM P w K mg base cl 1 C_Yard "word" ["self", "spot"] (F_Yard_word)) (m_range : mg "range" = none) (g_Yard : mg "Yard" = some (.ref C_Yard)) (T_Yard : ClsT K cl [89, 97, 114, 100] fs_Yard C_Yard) (cdv : Value) (fa : Addr) (A : Around) (outer : List Env) (s : Shared) (H : Hp) (E : XK) (hr : Room 2 (A.deeper (envOfC "laid" (defScope s_laid) s.heap.objs.size fa cdv))) :
    PSs (cxOf (L2.CX P w) P w K mg base N_laid "laid" (defScope s_laid) fa cdv A outer s H E) (defBody s_laid) (TUS K cl (fun c d _ H' => E c d H') (B_laid)) := by
  unfold B_laid
  exact (ss_cons (ss_if (st_cmp (op_eqU hr.units) (se_raw 4) (to_opd se_int) (nomark _)) (ss_one (ss_ret se_int)) ss_nil)
  (ss_cons (ss_if (st_cmpDn (hu1 hr) (se_raw 4) (se_raw 2)) (ss_cons (ss_tup (se_meth T_Yard h_Yard_size_of (hr.mono (by omega)) (takes_of rfl rfl rfl rfl) (by rfl) (se_raw 0) (sa_cons (se_var 4) sa_nil)) (sg_all rfl (sg_cons (i := 7) sc_laid.nd rfl (by first | exact .inl rfl | exact .inr rfl) (sg_cons (i := 8) sc_laid.nd rfl (by first | exact .inl rfl | exact .inr rfl) sg_nil))))
  (ss_cons (ss_set (i := 5) sc_laid.nd rfl (by first | exact .inl rfl | exact .inr rfl) (se_meth T_Yard h_Yard_make (hr.mono (by omega)) (takes_of rfl rfl rfl rfl) (by rfl) (se_raw 1) (sa_cons (se_var 7) (sa_cons (se_var 8) sa_nil))))
  (ss_cons (ss_dput (hu1 hr) (se_var 5) (se_raw 2) (se_var 4))
  (ss_cons (ss_expr (se_app (se_raw 3) (se_tup (sa_cons (se_var 4) (sa_cons (se_var 5) sa_nil)))))
  (ss_one (ss_for (passes_of rfl) rfl (si_r2 (by rfl) m_range (of_nv (se_add (se_raw 7) (to_opd se_int))) (of_nv (se_add (to_opd (of_nv (se_add (se_raw 7) (se_raw 8)))) (to_opd se_int)))) (sg_one (i := 6) sc_laid.nd rfl (by first | exact .inl rfl | exact .inr rfl)) (ss_one (ss_expr (se_meth T_Yard h_Yard_set_word (hr.mono (by omega)) (takes_of rfl rfl rfl rfl) (by rfl) (se_raw 1) (sa_cons (of_nv (se_add (se_raw 5) (se_raw 6))) (sa_cons (se_meth T_Yard h_Yard_word (hr.mono (by omega)) (takes_of rfl rfl rfl rfl) (by rfl) (se_raw 0) (sa_cons (of_nv (se_add (se_raw 4) (se_raw 6))) sa_nil)) sa_nil))))))))))) ss_nil)
  (ss_one (ss_ret (se_dg (hu1 hr) (se_raw 2) (se_var 4))))))
theorem ok_laid (hd : DefAt K mg "laid" s_laid ["yard", "there", "moved", "pairs", "hold"]) {C_Yard : Addr} (h_Yard_size_of : OkM P w K mg base cl 2 C_Yard "size_of" ["self", "at"] (F_Yard_size_of)) (h_Yard_make : OkM P w K mg base cl 2 C_Yard "make" ["self", "h", "m"] (F_Yard_make)) (h_Yard_set_word : OkM P w K mg base cl 1 C_Yard "set_word" ["self", "spot", "word"] (F_Yard_set_word)) (h_Yard_word : OkM P w K mg base cl 1 C_Yard "word" ["self", "spot"] (F_Yard_word)) (m_range : mg "range" = none) (g_Yard : mg "Yard" = some (.ref C_Yard)) (T_Yard : ClsT K cl [89, 97, 114, 100] fs_Yard C_Yard) : OkD P w K mg base cl 3 "laid" ["yard", "there", "moved", "pairs", "hold"] F_laid :=
  ok_def hd sc_laid (by decide) fun _ cdv fa A outer s H E hr => body_laid h_Yard_size_of h_Yard_make h_Yard_set_word h_Yard_word m_range g_Yard T_Yard cdv fa A outer s H E hr
theorem body_Yard___init__ {C_Yard : Addr} (g_Yard : mg "Yard" = some (.ref C_Yard)) (T_Yard : ClsT K cl [89, 97, 114, 100] fs_Yard C_Yard) (cdv : Value) (fa : Addr) (A : Around) (outer : List Env) (s : Shared) (H : Hp) (E : XK) (hr : Room 0 (A.deeper (envOfC "Yard.__init__" (defScope s_Yard___init__) s.heap.objs.size fa cdv))) :
    PSs (cxOf (L2.CX P w) P w K mg base N_Yard___init__ "Yard.__init__" (defScope s_Yard___init__) fa cdv A outer s H E) (defBody s_Yard___init__) (TUS K cl (fun c d _ H' => E c d H') (B_Yard___init__)) := by
  unfold B_Yard___init__
  exact (ss_cons (ss_fput T_Yard (by rfl) (by decide) (se_var 1) (se_raw 0))
  (ss_cons (ss_fput T_Yard (by rfl) (by decide) (se_var 1) (se_raw 0))
  (ss_cons (ss_fput T_Yard (by rfl) (by decide) (to_shr (se_lst sa_nil)) (se_raw 0))
  (ss_one (ss_fput T_Yard (by rfl) (by decide) (to_shr se_dnew) (se_raw 0))))))
theorem ok_Yard___init__ {C_Yard : Addr} (g_Yard : mg "Yard" = some (.ref C_Yard)) (T_Yard : ClsT K cl [89, 97, 114, 100] fs_Yard C_Yard) {f : Addr} {fd : FuncData} (F : Fun K "__init__" "Yard.__init__" s_Yard___init__ f fd) : FnOk P w K mg base (L2.CX P w) 1 f fd ["self", "start"] (spU K cl 2 F_Yard___init__) :=
  fun_ok F sc_Yard___init__ (by decide) fun cdv A outer s H E hr => body_Yard___init__ g_Yard T_Yard cdv f A outer s H E hr
theorem body_carted {C_Yard : Addr} (h_Yard___init__ : OkC P w K mg base cl 1 C_Yard ["self", "start"] (F_Yard___init__)) (h_laid : OkD P w K mg base cl 3 "laid" ["yard", "there", "moved", "pairs", "hold"] (F_laid)) (h_Yard_size_of : OkM P w K mg base cl 2 C_Yard "size_of" ["self", "at"] (F_Yard_size_of)) (h_Yard_set_word : OkM P w K mg base cl 1 C_Yard "set_word" ["self", "spot", "word"] (F_Yard_set_word)) (h_Yard_word : OkM P w K mg base cl 1 C_Yard "word" ["self", "spot"] (F_Yard_word)) (m_len : mg "len" = none) (m_range : mg "range" = none) (g_Yard : mg "Yard" = some (.ref C_Yard)) (T_Yard : ClsT K cl [89, 97, 114, 100] fs_Yard C_Yard) (cdv : Value) (fa : Addr) (A : Around) (outer : List Env) (s : Shared) (H : Hp) (E : XK) (hr : Room 3 (A.deeper (envOfC "carted" (defScope s_carted) s.heap.objs.size fa cdv))) :
    PSs (cxOf (L2.CX P w) P w K mg base N_carted "carted" (defScope s_carted) fa cdv A outer s H E) (defBody s_carted) (TUS K cl (fun c d _ H' => E c d H') (B_carted)) := by
  unfold B_carted
  exact (ss_cons (ss_set (i := 2) sc_carted.nd rfl (by first | exact .inl rfl | exact .inr rfl) (se_makeC T_Yard h_Yard___init__ (hr.mono (by omega)) (by rfl) g_Yard (sa_cons (to_val (se_fld T_Yard (by rfl) (by decide) (se_raw 0))) sa_nil)))
  (ss_cons (ss_set (i := 3) sc_carted.nd rfl (by first | exact .inl rfl | exact .inr rfl) (to_shr se_dnew))
  (ss_cons (ss_set (i := 4) sc_carted.nd rfl (by first | exact .inl rfl | exact .inr rfl) (to_shr (se_lst sa_nil)))
  (ss_cons (ss_for (passes_of rfl) rfl (si_d (se_var 1)) (sg_one (i := 5) sc_carted.nd rfl (by first | exact .inl rfl | exact .inr rfl)) (ss_one (ss_expr (se_callD h_laid (hr.mono (by omega)) (by rfl) (takes_of rfl rfl rfl rfl) (sa_cons (se_var 0) (sa_cons (se_var 2) (sa_cons (se_var 3) (sa_cons (se_var 4) (sa_cons (se_var 5) sa_nil)))))))))
  (ss_cons (ss_set (i := 6) sc_carted.nd rfl (by first | exact .inl rfl | exact .inr rfl) se_int)
  (ss_cons (ss_while (passes_of rfl) (st_cmp op_ltU (se_raw 6) (to_opd (of_nv (se_bi call_lenU (by rfl) m_len boot_len1 (se_raw 4)))) (nomark _)) (ss_cons (ss_tup (se_ix (se_raw 4) (se_var 6)) (sg_all rfl (sg_cons (i := 8) sc_carted.nd rfl (by first | exact .inl rfl | exact .inr rfl) (sg_cons (i := 9) sc_carted.nd rfl (by first | exact .inl rfl | exact .inr rfl) sg_nil))))
  (ss_cons (ss_for (passes_of rfl) rfl (si_r2 (by rfl) m_range se_int (of_nv (se_add (to_opd (se_ix (to_opd (se_meth T_Yard h_Yard_size_of (hr.mono (by omega)) (takes_of rfl rfl rfl rfl) (by rfl) (se_raw 0) (sa_cons (se_var 8) sa_nil))) se_int)) (to_opd se_int)))) (sg_one (i := 7) sc_carted.nd rfl (by first | exact .inl rfl | exact .inr rfl)) (ss_one (ss_expr (se_meth T_Yard h_Yard_set_word (hr.mono (by omega)) (takes_of rfl rfl rfl rfl) (by rfl) (se_raw 2) (sa_cons (of_nv (se_add (se_raw 9) (se_raw 7))) (sa_cons (se_callD h_laid (hr.mono (by omega)) (by rfl) (takes_of rfl rfl rfl rfl) (sa_cons (se_var 0) (sa_cons (se_var 2) (sa_cons (se_var 3) (sa_cons (se_var 4) (sa_cons (se_meth T_Yard h_Yard_word (hr.mono (by omega)) (takes_of rfl rfl rfl rfl) (by rfl) (se_raw 0) (sa_cons (of_nv (se_add (se_raw 8) (se_raw 7))) sa_nil)) sa_nil)))))) sa_nil))))))
  (ss_one (ss_set (i := 6) sc_carted.nd rfl (by first | exact .inl rfl | exact .inr rfl) (of_nv (se_add (se_raw 6) (to_opd se_int))))))))
  (ss_one (ss_ret (se_tup (sa_cons (se_var 2) (sa_cons (se_var 4) sa_nil)))))))))))
theorem ok_carted (hd : DefAt K mg "carted" s_carted ["yard", "roots"]) {C_Yard : Addr} (h_Yard___init__ : OkC P w K mg base cl 1 C_Yard ["self", "start"] (F_Yard___init__)) (h_laid : OkD P w K mg base cl 3 "laid" ["yard", "there", "moved", "pairs", "hold"] (F_laid)) (h_Yard_size_of : OkM P w K mg base cl 2 C_Yard "size_of" ["self", "at"] (F_Yard_size_of)) (h_Yard_set_word : OkM P w K mg base cl 1 C_Yard "set_word" ["self", "spot", "word"] (F_Yard_set_word)) (h_Yard_word : OkM P w K mg base cl 1 C_Yard "word" ["self", "spot"] (F_Yard_word)) (m_len : mg "len" = none) (m_range : mg "range" = none) (g_Yard : mg "Yard" = some (.ref C_Yard)) (T_Yard : ClsT K cl [89, 97, 114, 100] fs_Yard C_Yard) : OkD P w K mg base cl 4 "carted" ["yard", "roots"] F_carted :=
  ok_def hd sc_carted (by decide) fun _ cdv fa A outer s H E hr => body_carted h_Yard___init__ h_laid h_Yard_size_of h_Yard_set_word h_Yard_word m_len m_range g_Yard T_Yard cdv fa A outer s H E hr
theorem body_law_bag (m_abs : mg "abs" = none) (cdv : Value) (fa : Addr) (A : Around) (outer : List Env) (s : Shared) (H : Hp) (E : XK) (hr : Room 0 (A.deeper (envOfC "_law_bag" (defScope s_law_bag) s.heap.objs.size fa cdv))) :
    PSs (cxOf (L2.CX P w) P w K mg base N_law_bag "_law_bag" (defScope s_law_bag) fa cdv A outer s H E) (defBody s_law_bag) (TUS K cl (fun c d _ H' => E c d H') (B_law_bag)) := by
  unfold B_law_bag
  exact (ss_cons (ss_set (i := 1) sc_law_bag.nd rfl (by first | exact .inl rfl | exact .inr rfl) se_int)
  (ss_cons (ss_for (passes_of rfl) rfl (si_d (of_nv (se_sl (se_raw 0) so_none (so_some se_int)))) (sg_one (i := 2) sc_law_bag.nd rfl (by first | exact .inl rfl | exact .inr rfl)) (ss_one (ss_set (i := 1) sc_law_bag.nd rfl (by first | exact .inl rfl | exact .inr rfl) (se_mod (of_nv (se_add (to_opd (of_nv (se_add (to_opd (of_nv (se_mul (se_raw 1) (to_opd se_int)))) (to_opd (se_mod (se_var 2) se_int))))) (to_opd se_int))) se_int))))
  (ss_one (ss_ret (to_shr (se_lst (sa_cons (of_nv (se_lc (own := [("cell", 2)]) rfl sc_law_bag.nd (si_d (of_nv (se_sl (se_raw 0) so_none (so_some se_int)))) (blkOk_by (own := [("cell", 2)]) (N := N_law_bag) (sc := defScope s_law_bag) (by decide +kernel)) (fun _ _ _ _ _ => sg_one (i := 2) sc_law_bag.nd rfl (by first | exact .inl rfl | exact .inr rfl)) (fun _ _ _ _ _ => sts_nil) (fun _ _ _ _ _ => se_mod (of_nv (se_bi call_absU (by rfl) m_abs boot_abs1 (se_raw 2))) (se_pow se_int se_int)))) (sa_cons se_int (sa_cons se_int (sa_cons (se_var 1) (sa_cons se_int sa_nil)))))))))))
theorem ok_law_bag (hd : DefAt K mg "_law_bag" s_law_bag ["script"]) (m_abs : mg "abs" = none) : OkD P w K mg base cl 1 "_law_bag" ["script"] F_law_bag :=
  ok_def hd sc_law_bag (by decide) fun _ cdv fa A outer s H E hr => body_law_bag m_abs cdv fa A outer s H E hr
theorem body_law_draw (m_len : mg "len" = none) (cdv : Value) (fa : Addr) (A : Around) (outer : List Env) (s : Shared) (H : Hp) (E : XK) (hr : Room 0 (A.deeper (envOfC "_law_draw" (defScope s_law_draw) s.heap.objs.size fa cdv))) :
    PSs (cxOf (L2.CX P w) P w K mg base N_law_draw "_law_draw" (defScope s_law_draw) fa cdv A outer s H E) (defBody s_law_draw) (TUS K cl (fun c d _ H' => E c d H') (B_law_draw)) := by
  unfold B_law_draw
  exact (ss_cons (ss_if (PW.pt (sw_and (st_cmp (op_eqU hr.units) (to_opd (se_ix (se_raw 0) se_int)) (to_opd se_int) (nomark _)) (sw_and1 (st_cmp op_ltU (to_opd (se_ix (se_raw 0) se_int)) (to_opd (of_nv (se_bi call_lenU (by rfl) m_len boot_len1 (to_opd (se_ix (se_raw 0) se_int))))) (nomark _))))) (ss_cons (ss_sput (se_ix (to_opd (se_ix (se_raw 0) se_int)) (se_ix (se_raw 0) se_int)) (se_raw 0) se_int)
  (ss_one (ss_sput (of_nv (se_add (to_opd (se_ix (se_raw 0) se_int)) (to_opd se_int))) (se_raw 0) se_int))) (ss_one (ss_if (st_cmp (op_eqU hr.units) (to_opd (se_ix (se_raw 0) se_int)) (to_opd se_int) (nomark _)) (ss_cons (ss_sput (of_nv (se_add (to_opd (se_ix (se_raw 0) se_int)) (to_opd se_int))) (se_raw 0) se_int)
  (ss_cons (ss_sput (se_mod (of_nv (se_add (to_opd (of_nv (se_add (to_opd (of_nv (se_add (to_opd (se_pow (se_ix (se_raw 0) se_int) se_int)) (to_opd (of_nv (se_mul (to_opd se_int) (to_opd (se_ix (se_raw 0) se_int)))))))) (to_opd (of_nv (se_mul (to_opd se_int) (to_opd (se_ix (se_raw 0) se_int)))))))) (to_opd se_int))) se_int) (se_raw 0) se_int)
  (ss_one (ss_ret (se_mod (se_div (se_ix (se_raw 0) se_int) se_int) (se_var 1)))))) ss_nil)))
  (ss_cons (ss_set (i := 2) sc_law_draw.nd rfl (by first | exact .inl rfl | exact .inr rfl) (se_mod (se_ix (se_raw 0) se_int) (se_var 1)))
  (ss_cons (ss_sput (se_div (se_ix (se_raw 0) se_int) (se_var 1)) (se_raw 0) se_int)
  (ss_one (ss_ret (se_var 2))))))
theorem ok_law_draw (hd : DefAt K mg "_law_draw" s_law_draw ["bag", "many"]) (m_len : mg "len" = none) : OkD P w K mg base cl 1 "_law_draw" ["bag", "many"] F_law_draw :=
  ok_def hd sc_law_draw (by decide) fun _ cdv fa A outer s H E hr => body_law_draw m_len cdv fa A outer s H E hr
theorem body_law_more (m_len : mg "len" = none) (cdv : Value) (fa : Addr) (A : Around) (outer : List Env) (s : Shared) (H : Hp) (E : XK) (hr : Room 0 (A.deeper (envOfC "_law_more" (defScope s_law_more) s.heap.objs.size fa cdv))) :
    PSs (cxOf (L2.CX P w) P w K mg base N_law_more "_law_more" (defScope s_law_more) fa cdv A outer s H E) (defBody s_law_more) (TUS K cl (fun c d _ H' => E c d H') (B_law_more)) := by
  unfold B_law_more
  exact (ss_one (ss_ret (se_or (se_cmp op_gtU (to_opd (se_ix (se_raw 0) se_int)) (to_opd se_int) (nomark _)) (se_one (se_cmp op_ltU (to_opd (se_ix (se_raw 0) se_int)) (to_opd (of_nv (se_bi call_lenU (by rfl) m_len boot_len1 (to_opd (se_ix (se_raw 0) se_int))))) (nomark _))))))
theorem ok_law_more (hd : DefAt K mg "_law_more" s_law_more ["bag"]) (m_len : mg "len" = none) : OkD P w K mg base cl 1 "_law_more" ["bag"] F_law_more :=
  ok_def hd sc_law_more (by decide) fun _ cdv fa A outer s H E hr => body_law_more m_len cdv fa A outer s H E hr
theorem body_law_whole (m_isinstance : mg "isinstance" = none) (m_int : mg "int" = none) (m_bool : mg "bool" = none) (cdv : Value) (fa : Addr) (A : Around) (outer : List Env) (s : Shared) (H : Hp) (E : XK) (hr : Room 0 (A.deeper (envOfC "_law_whole" (defScope s_law_whole) s.heap.objs.size fa cdv))) :
    PSs (cxOf (L2.CX P w) P w K mg base N_law_whole "_law_whole" (defScope s_law_whole) fa cdv A outer s H E) (defBody s_law_whole) (TUS K cl (fun c d _ H' => E c d H') (B_law_whole)) := by
  unfold B_law_whole
  exact (ss_one (ss_ret (se_and (se_isi (n := .int) m_isinstance m_int boot_int1 (by rfl) (by rfl) (se_raw 0)) (se_one (se_not (se_isi (n := .bool) m_isinstance m_bool boot_bool1 (by rfl) (by rfl) (se_raw 0)))))))
theorem ok_law_whole (hd : DefAt K mg "_law_whole" s_law_whole ["found"]) (m_isinstance : mg "isinstance" = none) (m_int : mg "int" = none) (m_bool : mg "bool" = none) : OkD P w K mg base cl 1 "_law_whole" ["found"] F_law_whole :=
  ok_def hd sc_law_whole (by decide) fun _ cdv fa A outer s H E hr => body_law_whole m_isinstance m_int m_bool cdv fa A outer s H E hr
theorem body_law_start (h_law_draw : OkD P w K mg base cl 1 "_law_draw" ["bag", "many"] (F_law_draw)) (cdv : Value) (fa : Addr) (A : Around) (outer : List Env) (s : Shared) (H : Hp) (E : XK) (hr : Room 1 (A.deeper (envOfC "_law_start" (defScope s_law_start) s.heap.objs.size fa cdv))) :
    PSs (cxOf (L2.CX P w) P w K mg base N_law_start "_law_start" (defScope s_law_start) fa cdv A outer s H E) (defBody s_law_start) (TUS K cl (fun c d _ H' => E c d H') (B_law_start)) := by
  unfold B_law_start
  exact (ss_cons (ss_if (st_cmp (op_eqU hr.units) (to_opd (se_callD h_law_draw (hr.mono (by omega)) (by rfl) (takes_of rfl rfl rfl rfl) (sa_cons (se_var 0) (sa_cons se_int sa_nil)))) (to_opd se_int) (nomark _)) (ss_one (ss_ret (of_nv (se_add (to_opd se_int) (to_opd (se_callD h_law_draw (hr.mono (by omega)) (by rfl) (takes_of rfl rfl rfl rfl) (sa_cons (se_var 0) (sa_cons (se_pow se_int se_int) sa_nil)))))))) ss_nil)
  (ss_one (ss_ret (of_nv (se_add (to_opd se_int) (to_opd (se_callD h_law_draw (hr.mono (by omega)) (by rfl) (takes_of rfl rfl rfl rfl) (sa_cons (se_var 0) (sa_cons se_int sa_nil)))))))))
theorem ok_law_start (hd : DefAt K mg "_law_start" s_law_start ["bag"]) (h_law_draw : OkD P w K mg base cl 1 "_law_draw" ["bag", "many"] (F_law_draw)) : OkD P w K mg base cl 2 "_law_start" ["bag"] F_law_start :=
  ok_def hd sc_law_start (by decide) fun _ cdv fa A outer s H E hr => body_law_start h_law_draw cdv fa A outer s H E hr
theorem body_law_worth (h_law_draw : OkD P w K mg base cl 1 "_law_draw" ["bag", "many"] (F_law_draw)) (cdv : Value) (fa : Addr) (A : Around) (outer : List Env) (s : Shared) (H : Hp) (E : XK) (hr : Room 1 (A.deeper (envOfC "_law_worth" (defScope s_law_worth) s.heap.objs.size fa cdv))) :
    PSs (cxOf (L2.CX P w) P w K mg base N_law_worth "_law_worth" (defScope s_law_worth) fa cdv A outer s H E) (defBody s_law_worth) (TUS K cl (fun c d _ H' => E c d H') (B_law_worth)) := by
  unfold B_law_worth
  exact (ss_cons (ss_if (st_cmp (op_eqU hr.units) (to_opd (se_callD h_law_draw (hr.mono (by omega)) (by rfl) (takes_of rfl rfl rfl rfl) (sa_cons (se_var 0) (sa_cons se_int sa_nil)))) (to_opd se_int) (nomark _)) (ss_one (ss_ret (of_nv (se_mul (to_opd (se_sub (of_nv (se_mul (to_opd (se_callD h_law_draw (hr.mono (by omega)) (by rfl) (takes_of rfl rfl rfl rfl) (sa_cons (se_var 0) (sa_cons se_int sa_nil)))) (to_opd se_int))) se_int)) (to_opd (se_callD h_law_draw (hr.mono (by omega)) (by rfl) (takes_of rfl rfl rfl rfl) (sa_cons (se_var 0) (sa_cons (se_pow se_int se_int) sa_nil)))))))) ss_nil)
  (ss_one (ss_ret (se_sub (se_callD h_law_draw (hr.mono (by omega)) (by rfl) (takes_of rfl rfl rfl rfl) (sa_cons (se_var 0) (sa_cons se_int sa_nil))) se_int))))
theorem ok_law_worth (hd : DefAt K mg "_law_worth" s_law_worth ["bag"]) (h_law_draw : OkD P w K mg base cl 1 "_law_draw" ["bag", "many"] (F_law_draw)) : OkD P w K mg base cl 2 "_law_worth" ["bag"] F_law_worth :=
  ok_def hd sc_law_worth (by decide) fun _ cdv fa A outer s H E hr => body_law_worth h_law_draw cdv fa A outer s H E hr
theorem body_law_size (h_law_draw : OkD P w K mg base cl 1 "_law_draw" ["bag", "many"] (F_law_draw)) (cdv : Value) (fa : Addr) (A : Around) (outer : List Env) (s : Shared) (H : Hp) (E : XK) (hr : Room 1 (A.deeper (envOfC "_law_size" (defScope s_law_size) s.heap.objs.size fa cdv))) :
    PSs (cxOf (L2.CX P w) P w K mg base N_law_size "_law_size" (defScope s_law_size) fa cdv A outer s H E) (defBody s_law_size) (TUS K cl (fun c d _ H' => E c d H') (B_law_size)) := by
  unfold B_law_size
  exact (ss_cons (ss_if (st_cmp (op_eqU hr.units) (to_opd (se_callD h_law_draw (hr.mono (by omega)) (by rfl) (takes_of rfl rfl rfl rfl) (sa_cons (se_var 0) (sa_cons se_int sa_nil)))) (to_opd se_int) (nomark _)) (ss_one (ss_ret (se_tup (sa_cons (se_callD h_law_draw (hr.mono (by omega)) (by rfl) (takes_of rfl rfl rfl rfl) (sa_cons (se_var 0) (sa_cons se_int sa_nil))) (sa_cons (se_callD h_law_draw (hr.mono (by omega)) (by rfl) (takes_of rfl rfl rfl rfl) (sa_cons (se_var 0) (sa_cons se_int sa_nil))) sa_nil))))) ss_nil)
  (ss_one (ss_ret (se_tup (sa_cons (se_callD h_law_draw (hr.mono (by omega)) (by rfl) (takes_of rfl rfl rfl rfl) (sa_cons (se_var 0) (sa_cons se_int sa_nil))) (sa_cons (se_callD h_law_draw (hr.mono (by omega)) (by rfl) (takes_of rfl rfl rfl rfl) (sa_cons (se_var 0) (sa_cons se_int sa_nil))) sa_nil))))))
theorem ok_law_size (hd : DefAt K mg "_law_size" s_law_size ["bag"]) (h_law_draw : OkD P w K mg base cl 1 "_law_draw" ["bag", "many"] (F_law_draw)) : OkD P w K mg base cl 2 "_law_size" ["bag"] F_law_size :=
  ok_def hd sc_law_size (by decide) fun _ cdv fa A outer s H E hr => body_law_size h_law_draw cdv fa A outer s H E hr
theorem body_law_told (h_law_whole : OkD P w K mg base cl 1 "_law_whole" ["found"] (F_law_whole)) (m_isinstance : mg "isinstance" = none) (m_list : mg "list" = none) (m_len : mg "len" = none) (m_zip : mg "zip" = none) (m_tuple : mg "tuple" = none) (cdv : Value) (fa : Addr) (A : Around) (outer : List Env) (s : Shared) (H : Hp) (E : XK) (hr : Room 1 (A.deeper (envOfC "_law_told" (defScope s_law_told) s.heap.objs.size fa cdv))) :
    PSs (cxOf (L2.CX P w) P w K mg base N_law_told "_law_told" (defScope s_law_told) fa cdv A outer s H E) (defBody s_law_told) (TUS K cl (fun c d _ H' => E c d H') (B_law_told)) := by
  unfold B_law_told
  exact (ss_cons (ss_if (PW.pt (sw_or (st_not (st_val (se_isi (n := .list) m_isinstance m_list boot_list1 (by rfl) (by rfl) (se_raw 0)))) (sw_or1 (st_cmp (op_neU hr.units) (to_opd (of_nv (se_bi call_lenU (by rfl) m_len boot_len1 (se_raw 0)))) (to_opd (of_nv (se_bi call_lenU (by rfl) m_len boot_len1 (se_raw 1)))) (nomark _))))) (ss_one (ss_ret se_bl)) ss_nil)
  (ss_cons (ss_for (passes_of rfl) rfl (si_zip (by rfl) m_zip (sa_cons (se_var 0) (sa_cons (se_var 1) sa_nil))) (sg_all rfl (sg_cons (i := 2) sc_law_told.nd rfl (by first | exact .inl rfl | exact .inr rfl) (sg_cons (i := 3) sc_law_told.nd rfl (by first | exact .inl rfl | exact .inr rfl) sg_nil))) (ss_cons (ss_if (PW.pt (sw_or (st_not (st_val (se_isi (n := .tuple) m_isinstance m_tuple boot_tuple1 (by rfl) (by rfl) (se_raw 2)))) (sw_or (st_cmp (op_neU hr.units) (to_opd (of_nv (se_bi call_lenU (by rfl) m_len boot_len1 (se_raw 2)))) (to_opd se_int) (nomark _)) (sw_or (st_not (st_val (se_callD h_law_whole (hr.mono (by omega)) (by rfl) (takes_of rfl rfl rfl rfl) (sa_cons (se_ix (se_raw 2) se_int) sa_nil)))) (sw_or1 (st_cmp (op_neU hr.units) (to_opd (se_ix (se_raw 2) se_int)) (to_opd (se_ix (se_raw 3) se_int)) (nomark _))))))) (ss_one (ss_ret se_bl)) ss_nil)
  (ss_one (ss_for (passes_of rfl) rfl (si_d (of_nv (se_lst (sa_cons (se_tup (sa_cons (se_ix (se_raw 2) se_int) (sa_cons (se_ix (se_raw 3) se_int) sa_nil))) (sa_cons (se_tup (sa_cons (se_ix (se_raw 2) se_int) (sa_cons (se_ix (se_raw 3) se_int) sa_nil))) sa_nil))))) (sg_all rfl (sg_cons (i := 4) sc_law_told.nd rfl (by first | exact .inl rfl | exact .inr rfl) (sg_cons (i := 5) sc_law_told.nd rfl (by first | exact .inl rfl | exact .inr rfl) sg_nil))) (ss_cons (ss_if (PW.pt (sw_or (st_not (st_val (se_isi (n := .tuple) m_isinstance m_tuple boot_tuple1 (by rfl) (by rfl) (se_raw 4)))) (sw_or1 (st_cmp (op_neU hr.units) (to_opd (of_nv (se_ty (call_listTU rfl) (by rfl) m_list boot_list1 (se_raw 4)))) (se_raw 5) (nomark _))))) (ss_one (ss_ret se_bl)) ss_nil)
  (ss_one (ss_if (st_cmp (op_neU hr.units) (to_opd (of_nv (se_bi call_lenU (by rfl) m_len boot_len1 (to_opd (of_nv (se_lc (own := [("word", 6)]) rfl sc_law_told.nd (si_d (se_var 4)) (blkOk_by (own := [("word", 6)]) (N := N_law_told) (sc := defScope s_law_told) (by decide +kernel)) (fun _ _ _ _ _ => sg_one (i := 6) sc_law_told.nd rfl (by first | exact .inl rfl | exact .inr rfl)) (fun _ _ _ _ _ => sts_one (st_val (se_callD h_law_whole (hr.mono (by omega)) (by rfl) takes0 (sa_cons (se_var 6) sa_nil)))) (fun _ _ _ _ _ => se_var 6))))))) (to_opd (of_nv (se_bi call_lenU (by rfl) m_len boot_len1 (se_raw 5)))) (nomark _)) (ss_one (ss_ret se_bl)) ss_nil)))))))
  (ss_one (ss_ret se_bl))))
theorem ok_law_told (hd : DefAt K mg "_law_told" s_law_told ["found", "things"]) (h_law_whole : OkD P w K mg base cl 1 "_law_whole" ["found"] (F_law_whole)) (m_isinstance : mg "isinstance" = none) (m_list : mg "list" = none) (m_len : mg "len" = none) (m_zip : mg "zip" = none) (m_tuple : mg "tuple" = none) : OkD P w K mg base cl 2 "_law_told" ["found", "things"] F_law_told :=
  ok_def hd sc_law_told (by decide) fun _ cdv fa A outer s H E hr => body_law_told h_law_whole m_isinstance m_list m_len m_zip m_tuple cdv fa A outer s H E hr
theorem body_law_many (h_law_draw : OkD P w K mg base cl 1 "_law_draw" ["bag", "many"] (F_law_draw)) (cdv : Value) (fa : Addr) (A : Around) (outer : List Env) (s : Shared) (H : Hp) (E : XK) (hr : Room 1 (A.deeper (envOfC "_law_many" (defScope s_law_many) s.heap.objs.size fa cdv))) :
    PSs (cxOf (L2.CX P w) P w K mg base N_law_many "_law_many" (defScope s_law_many) fa cdv A outer s H E) (defBody s_law_many) (TUS K cl (fun c d _ H' => E c d H') (B_law_many)) := by
  unfold B_law_many
  exact (ss_cons (ss_set (i := 1) sc_law_many.nd rfl (by first | exact .inl rfl | exact .inr rfl) (se_callD h_law_draw (hr.mono (by omega)) (by rfl) (takes_of rfl rfl rfl rfl) (sa_cons (se_var 0) (sa_cons se_int sa_nil))))
  (ss_cons (ss_if (st_cmp (op_eqU hr.units) (se_raw 1) (to_opd se_int) (nomark _)) (ss_one (ss_ret (of_nv (se_add (to_opd se_int) (to_opd (se_callD h_law_draw (hr.mono (by omega)) (by rfl) (takes_of rfl rfl rfl rfl) (sa_cons (se_var 0) (sa_cons se_int sa_nil)))))))) ss_nil)
  (ss_one (ss_ret (of_nv (se_add (to_opd se_int) (to_opd (se_callD h_law_draw (hr.mono (by omega)) (by rfl) (takes_of rfl rfl rfl rfl) (sa_cons (se_var 0) (sa_cons (se_ix (to_opd (of_nv (se_lst (sa_cons se_int (sa_cons se_int sa_nil))))) (se_mod (se_var 1) se_int)) sa_nil))))))))))
theorem ok_law_many (hd : DefAt K mg "_law_many" s_law_many ["bag"]) (h_law_draw : OkD P w K mg base cl 1 "_law_draw" ["bag", "many"] (F_law_draw)) : OkD P w K mg base cl 2 "_law_many" ["bag"] F_law_many :=
  ok_def hd sc_law_many (by decide) fun _ cdv fa A outer s H E hr => body_law_many h_law_draw cdv fa A outer s H E hr
theorem body_law_hold (h_law_draw : OkD P w K mg base cl 1 "_law_draw" ["bag", "many"] (F_law_draw)) (m_len : mg "len" = none) (cdv : Value) (fa : Addr) (A : Around) (outer : List Env) (s : Shared) (H : Hp) (E : XK) (hr : Room 1 (A.deeper (envOfC "_law_hold" (defScope s_law_hold) s.heap.objs.size fa cdv))) :
    PSs (cxOf (L2.CX P w) P w K mg base N_law_hold "_law_hold" (defScope s_law_hold) fa cdv A outer s H E) (defBody s_law_hold) (TUS K cl (fun c d _ H' => E c d H') (B_law_hold)) := by
  unfold B_law_hold
  exact (ss_cons (ss_if (PW.pt (sw_and (st_cmp op_gtU (se_raw 3) (to_opd se_int) (nomark _)) (sw_and1 (st_cmp op_gtU (to_opd (se_callD h_law_draw (hr.mono (by omega)) (by rfl) (takes_of rfl rfl rfl rfl) (sa_cons (se_var 0) (sa_cons se_int sa_nil)))) (to_opd se_int) (nomark _))))) (ss_one (ss_ret (se_ix (to_opd (se_ix (se_raw 1) (se_mod (of_nv (se_add (se_raw 2) (to_opd (se_ix (to_opd (of_nv (se_lst (sa_cons se_int (sa_cons se_int (sa_cons (se_sub (of_nv (se_bi call_lenU (by rfl) m_len boot_len1 (se_raw 1))) se_int) sa_nil)))))) (se_var 3))))) (of_nv (se_bi call_lenU (by rfl) m_len boot_len1 (se_raw 1)))))) se_int))) ss_nil)
  (ss_cons (ss_if (st_cmp (op_eqU hr.units) (to_opd (se_callD h_law_draw (hr.mono (by omega)) (by rfl) (takes_of rfl rfl rfl rfl) (sa_cons (se_var 0) (sa_cons se_int sa_nil)))) (to_opd se_int) (nomark _)) (ss_one (ss_ret se_int)) ss_nil)
  (ss_one (ss_ret (se_ix (to_opd (se_ix (se_raw 1) (se_callD h_law_draw (hr.mono (by omega)) (by rfl) (takes_of rfl rfl rfl rfl) (sa_cons (se_var 0) (sa_cons (of_nv (se_bi call_lenU (by rfl) m_len boot_len1 (se_raw 1))) sa_nil))))) se_int)))))
theorem ok_law_hold (hd : DefAt K mg "_law_hold" s_law_hold ["bag", "things", "k", "chain"]) (h_law_draw : OkD P w K mg base cl 1 "_law_draw" ["bag", "many"] (F_law_draw)) (m_len : mg "len" = none) : OkD P w K mg base cl 2 "_law_hold" ["bag", "things", "k", "chain"] F_law_hold :=
  ok_def hd sc_law_hold (by decide) fun _ cdv fa A outer s H E hr => body_law_hold h_law_draw m_len cdv fa A outer s H E hr
theorem body_law_field {C_Yard : Addr} (h_Yard_set_word : OkM P w K mg base cl 1 C_Yard "set_word" ["self", "spot", "word"] (F_Yard_set_word)) (m_len : mg "len" = none) (g_Yard : mg "Yard" = some (.ref C_Yard)) (T_Yard : ClsT K cl [89, 97, 114, 100] fs_Yard C_Yard) (cdv : Value) (fa : Addr) (A : Around) (outer : List Env) (s : Shared) (H : Hp) (E : XK) (hr : Room 1 (A.deeper (envOfC "_law_field" (defScope s_law_field) s.heap.objs.size fa cdv))) :
    PSs (cxOf (L2.CX P w) P w K mg base N_law_field "_law_field" (defScope s_law_field) fa cdv A outer s H E) (defBody s_law_field) (TUS K cl (fun c d _ H' => E c d H') (B_law_field)) := by
  unfold B_law_field
  exact (ss_cons (ss_tup (se_ix (se_raw 1) (se_var 2)) (sg_all rfl (sg_cons (i := 5) sc_law_field.nd rfl (by first | exact .inl rfl | exact .inr rfl) (sg_cons (i := 6) sc_law_field.nd rfl (by first | exact .inl rfl | exact .inr rfl) (sg_cons (i := 7) sc_law_field.nd rfl (by first | exact .inl rfl | exact .inr rfl) sg_nil)))))
  (ss_cons (ss_expr (se_meth T_Yard h_Yard_set_word (hr.mono (by omega)) (takes_of rfl rfl rfl rfl) (by rfl) (se_raw 0) (sa_cons (of_nv (se_add (to_opd (of_nv (se_add (se_raw 5) (to_opd se_int)))) (se_raw 3))) (sa_cons (se_var 4) sa_nil))))
  (ss_one (ss_if (st_cmp op_ltU (se_raw 3) (to_opd (of_nv (se_bi call_lenU (by rfl) m_len boot_len1 (se_raw 6)))) (nomark _)) (ss_one (ss_sput (se_var 4) (se_raw 6) (se_var 3))) (ss_one (ss_sput (se_var 4) (se_raw 7) (se_sub (se_var 3) (of_nv (se_bi call_lenU (by rfl) m_len boot_len1 (se_raw 6))))))))))
theorem ok_law_field (hd : DefAt K mg "_law_field" s_law_field ["yard", "things", "k", "j", "worth"]) {C_Yard : Addr} (h_Yard_set_word : OkM P w K mg base cl 1 C_Yard "set_word" ["self", "spot", "word"] (F_Yard_set_word)) (m_len : mg "len" = none) (g_Yard : mg "Yard" = some (.ref C_Yard)) (T_Yard : ClsT K cl [89, 97, 114, 100] fs_Yard C_Yard) : OkD P w K mg base cl 2 "_law_field" ["yard", "things", "k", "j", "worth"] F_law_field :=
  ok_def hd sc_law_field (by decide) fun _ cdv fa A outer s H E hr => body_law_field h_Yard_set_word m_len g_Yard T_Yard cdv fa A outer s H E hr
theorem body_law_filled {C_Yard : Addr} (h_law_many : OkD P w K mg base cl 2 "_law_many" ["bag"] (F_law_many)) (h_law_draw : OkD P w K mg base cl 1 "_law_draw" ["bag", "many"] (F_law_draw)) (h_law_size : OkD P w K mg base cl 2 "_law_size" ["bag"] (F_law_size)) (h_Yard_make : OkM P w K mg base cl 2 C_Yard "make" ["self", "h", "m"] (F_Yard_make)) (h_law_field : OkD P w K mg base cl 2 "_law_field" ["yard", "things", "k", "j", "worth"] (F_law_field)) (h_law_hold : OkD P w K mg base cl 2 "_law_hold" ["bag", "things", "k", "chain"] (F_law_hold)) (h_law_worth : OkD P w K mg base cl 2 "_law_worth" ["bag"] (F_law_worth)) (m_range : mg "range" = none) (m_max : mg "max" = none) (m_int : mg "int" = none) (m_len : mg "len" = none) (g_Yard : mg "Yard" = some (.ref C_Yard)) (T_Yard : ClsT K cl [89, 97, 114, 100] fs_Yard C_Yard) (cdv : Value) (fa : Addr) (A : Around) (outer : List Env) (s : Shared) (H : Hp) (E : XK) (hr : Room 2 (A.deeper (envOfC "_law_filled" (defScope s_law_filled) s.heap.objs.size fa cdv))) :
    PSs (cxOf (L2.CX P w) P w K mg base N_law_filled "_law_filled" (defScope s_law_filled) fa cdv A outer s H E) (defBody s_law_filled) (TUS K cl (fun c d _ H' => E c d H') (B_law_filled)) := by
  unfold B_law_filled
  exact (ss_cons (ss_set (i := 2) sc_law_filled.nd rfl (by first | exact .inl rfl | exact .inr rfl) (se_callD h_law_many (hr.mono (by omega)) (by rfl) (takes_of rfl rfl rfl rfl) (sa_cons (se_var 0) sa_nil)))
  (ss_cons (ss_set (i := 3) sc_law_filled.nd rfl (by first | exact .inl rfl | exact .inr rfl) (se_callD h_law_draw (hr.mono (by omega)) (by rfl) (takes_of rfl rfl rfl rfl) (sa_cons (se_var 0) (sa_cons se_int sa_nil))))
  (ss_cons (ss_set (i := 4) sc_law_filled.nd rfl (by first | exact .inl rfl | exact .inr rfl) (to_shr (se_lst sa_nil)))
  (ss_cons (ss_for (passes_of rfl) rfl (si_r1 (by rfl) m_range (se_var 2)) (sg_one (i := 5) sc_law_filled.nd rfl (by first | exact .inl rfl | exact .inr rfl)) (ss_cons (ss_tup (se_callD h_law_size (hr.mono (by omega)) (by rfl) (takes_of rfl rfl rfl rfl) (sa_cons (se_var 0) sa_nil)) (sg_all rfl (sg_cons (i := 6) sc_law_filled.nd rfl (by first | exact .inl rfl | exact .inr rfl) (sg_cons (i := 8) sc_law_filled.nd rfl (by first | exact .inl rfl | exact .inr rfl) sg_nil))))
  (ss_cons (ss_set (i := 6) sc_law_filled.nd rfl (by first | exact .inl rfl | exact .inr rfl) (se_max2 (by rfl) m_max (se_var 6) (of_nv (se_ty call_intU (by rfl) m_int boot_int1 (to_opd (se_cmp op_gtU (se_raw 3) (to_opd se_int) (nomark _)))))))
  (ss_one (ss_expr (se_app (se_raw 4) (se_tup (sa_cons (se_meth T_Yard h_Yard_make (hr.mono (by omega)) (takes_of rfl rfl rfl rfl) (by rfl) (se_raw 1) (sa_cons (se_var 6) (sa_cons (se_var 8) sa_nil))) (sa_cons (to_shr (se_mul (to_opd (of_nv (se_lst (sa_cons se_int sa_nil)))) (se_raw 6))) (sa_cons (to_shr (se_mul (to_opd (of_nv (se_lst (sa_cons se_int sa_nil)))) (se_raw 8))) sa_nil))))))))))
  (ss_cons (ss_for (passes_of rfl) rfl (si_r1 (by rfl) m_range (se_var 2)) (sg_one (i := 5) sc_law_filled.nd rfl (by first | exact .inl rfl | exact .inr rfl)) (ss_cons (ss_for (passes_of rfl) rfl (si_r1 (by rfl) m_range (of_nv (se_bi call_lenU (by rfl) m_len boot_len1 (to_opd (se_ix (to_opd (se_ix (se_raw 4) (se_var 5))) se_int))))) (sg_one (i := 7) sc_law_filled.nd rfl (by first | exact .inl rfl | exact .inr rfl)) (ss_one (ss_expr (se_callD h_law_field (hr.mono (by omega)) (by rfl) (takes_of rfl rfl rfl rfl) (sa_cons (se_var 1) (sa_cons (se_var 4) (sa_cons (se_var 5) (sa_cons (se_var 7) (sa_cons (se_callD h_law_hold (hr.mono (by omega)) (by rfl) (takes_of rfl rfl rfl rfl) (sa_cons (se_var 0) (sa_cons (se_var 4) (sa_cons (se_var 5) (sa_cons (of_nv (se_mul (se_raw 3) (to_opd (of_nv (se_ty call_intU (by rfl) m_int boot_int1 (to_opd (se_cmp (op_eqU hr.units) (se_raw 7) (to_opd se_int) (nomark _)))))))) sa_nil))))) sa_nil)))))))))
  (ss_one (ss_for (passes_of rfl) rfl (si_r1 (by rfl) m_range (of_nv (se_bi call_lenU (by rfl) m_len boot_len1 (to_opd (se_ix (to_opd (se_ix (se_raw 4) (se_var 5))) se_int))))) (sg_one (i := 7) sc_law_filled.nd rfl (by first | exact .inl rfl | exact .inr rfl)) (ss_one (ss_expr (se_callD h_law_field (hr.mono (by omega)) (by rfl) (takes_of rfl rfl rfl rfl) (sa_cons (se_var 1) (sa_cons (se_var 4) (sa_cons (se_var 5) (sa_cons (of_nv (se_add (to_opd (of_nv (se_bi call_lenU (by rfl) m_len boot_len1 (to_opd (se_ix (to_opd (se_ix (se_raw 4) (se_var 5))) se_int))))) (se_raw 7))) (sa_cons (se_callD h_law_worth (hr.mono (by omega)) (by rfl) (takes_of rfl rfl rfl rfl) (sa_cons (se_var 0) sa_nil)) sa_nil))))))))))))
  (ss_one (ss_ret (se_var 4))))))))
theorem ok_law_filled (hd : DefAt K mg "_law_filled" s_law_filled ["bag", "yard"]) {C_Yard : Addr} (h_law_many : OkD P w K mg base cl 2 "_law_many" ["bag"] (F_law_many)) (h_law_draw : OkD P w K mg base cl 1 "_law_draw" ["bag", "many"] (F_law_draw)) (h_law_size : OkD P w K mg base cl 2 "_law_size" ["bag"] (F_law_size)) (h_Yard_make : OkM P w K mg base cl 2 C_Yard "make" ["self", "h", "m"] (F_Yard_make)) (h_law_field : OkD P w K mg base cl 2 "_law_field" ["yard", "things", "k", "j", "worth"] (F_law_field)) (h_law_hold : OkD P w K mg base cl 2 "_law_hold" ["bag", "things", "k", "chain"] (F_law_hold)) (h_law_worth : OkD P w K mg base cl 2 "_law_worth" ["bag"] (F_law_worth)) (m_range : mg "range" = none) (m_max : mg "max" = none) (m_int : mg "int" = none) (m_len : mg "len" = none) (g_Yard : mg "Yard" = some (.ref C_Yard)) (T_Yard : ClsT K cl [89, 97, 114, 100] fs_Yard C_Yard) : OkD P w K mg base cl 3 "_law_filled" ["bag", "yard"] F_law_filled :=
  ok_def hd sc_law_filled (by decide) fun _ cdv fa A outer s H E hr => body_law_filled h_law_many h_law_draw h_law_size h_Yard_make h_law_field h_law_hold h_law_worth m_range m_max m_int m_len g_Yard T_Yard cdv fa A outer s H E hr
theorem body_law_roots (h_law_draw : OkD P w K mg base cl 1 "_law_draw" ["bag", "many"] (F_law_draw)) (h_law_hold : OkD P w K mg base cl 2 "_law_hold" ["bag", "things", "k", "chain"] (F_law_hold)) (m_range : mg "range" = none) (cdv : Value) (fa : Addr) (A : Around) (outer : List Env) (s : Shared) (H : Hp) (E : XK) (hr : Room 2 (A.deeper (envOfC "_law_roots" (defScope s_law_roots) s.heap.objs.size fa cdv))) :
    PSs (cxOf (L2.CX P w) P w K mg base N_law_roots "_law_roots" (defScope s_law_roots) fa cdv A outer s H E) (defBody s_law_roots) (TUS K cl (fun c d _ H' => E c d H') (B_law_roots)) := by
  unfold B_law_roots
  exact (ss_cons (ss_setN (i := 2) sc_law_roots.nd rfl (by first | exact .inl rfl | exact .inr rfl) (se_lst sa_nil))
  (ss_cons (ss_set (i := 3) sc_law_roots.nd rfl (by first | exact .inl rfl | exact .inr rfl) (se_callD h_law_draw (hr.mono (by omega)) (by rfl) (takes_of rfl rfl rfl rfl) (sa_cons (se_var 0) (sa_cons se_int sa_nil))))
  (ss_cons (ss_set (i := 4) sc_law_roots.nd rfl (by first | exact .inl rfl | exact .inr rfl) (se_mod (se_var 3) se_int))
  (ss_cons (ss_if (st_cmp (op_eqU hr.units) (to_opd (se_div (se_var 3) se_int)) (to_opd se_int) (nomark _)) (ss_one (ss_set (i := 4) sc_law_roots.nd rfl (by first | exact .inl rfl | exact .inr rfl) (of_nv (se_add (to_opd se_int) (to_opd (se_callD h_law_draw (hr.mono (by omega)) (by rfl) (takes_of rfl rfl rfl rfl) (sa_cons (se_var 0) (sa_cons se_int sa_nil)))))))) ss_nil)
  (ss_cons (ss_for (passes_of rfl) rfl (si_r1 (by rfl) m_range (se_var 4)) (sg_one (i := 5) sc_law_roots.nd rfl (by first | exact .inl rfl | exact .inr rfl)) (ss_one (ss_expr (se_app (se_raw 2) (se_callD h_law_hold (hr.mono (by omega)) (by rfl) (takes_of rfl rfl rfl rfl) (sa_cons (se_var 0) (sa_cons (se_var 1) (sa_cons se_int (sa_cons se_int sa_nil)))))))))
  (ss_one (ss_ret (se_var 2))))))))
theorem ok_law_roots (hd : DefAt K mg "_law_roots" s_law_roots ["bag", "things"]) (h_law_draw : OkD P w K mg base cl 1 "_law_draw" ["bag", "many"] (F_law_draw)) (h_law_hold : OkD P w K mg base cl 2 "_law_hold" ["bag", "things", "k", "chain"] (F_law_hold)) (m_range : mg "range" = none) : OkD P w K mg base cl 3 "_law_roots" ["bag", "things"] F_law_roots :=
  ok_def hd sc_law_roots (by decide) fun _ cdv fa A outer s H E hr => body_law_roots h_law_draw h_law_hold m_range cdv fa A outer s H E hr
theorem body_law_carted (m_list : mg "list" = none) (m_len : mg "len" = none) (cdv : Value) (fa : Addr) (A : Around) (outer : List Env) (s : Shared) (H : Hp) (E : XK) (hr : Room 0 (A.deeper (envOfC "_law_carted" (defScope s_law_carted) s.heap.objs.size fa cdv))) :
    PSs (cxOf (L2.CX P w) P w K mg base N_law_carted "_law_carted" (defScope s_law_carted) fa cdv A outer s H E) (defBody s_law_carted) (TUS K cl (fun c d _ H' => E c d H') (B_law_carted)) := by
  unfold B_law_carted
  exact (ss_cons (ss_setN (i := 3) sc_law_carted.nd rfl (by first | exact .inl rfl | exact .inr rfl) se_dnew)
  (ss_cons (ss_for (passes_of rfl) rfl (si_d (se_var 0)) (sg_one (i := 4) sc_law_carted.nd rfl (by first | exact .inl rfl | exact .inr rfl)) (ss_one (ss_dput (hu1 hr) (se_var 4) (se_raw 3) (se_ix (se_raw 4) se_int))))
  (ss_cons (ss_setN (i := 5) sc_law_carted.nd rfl (by first | exact .inl rfl | exact .inr rfl) (se_disp (pk_cons1 se_int se_int pk_nil1)))
  (ss_cons (ss_setN (i := 6) sc_law_carted.nd rfl (by first | exact .inl rfl | exact .inr rfl) (se_lst sa_nil))
  (ss_cons (ss_setN (i := 7) sc_law_carted.nd rfl (by first | exact .inl rfl | exact .inr rfl) (se_ty (call_listTU rfl) (by rfl) m_list boot_list1 (se_raw 1)))
  (ss_cons (ss_set (i := 8) sc_law_carted.nd rfl (by first | exact .inl rfl | exact .inr rfl) se_int)
  (ss_cons (ss_while (passes_of rfl) (st_cmp op_ltU (se_raw 8) (to_opd (of_nv (se_bi call_lenU (by rfl) m_len boot_len1 (se_raw 7)))) (nomark _)) (ss_cons (ss_set (i := 10) sc_law_carted.nd rfl (by first | exact .inl rfl | exact .inr rfl) (se_ix (se_raw 7) (se_var 8)))
  (ss_cons (ss_set (i := 8) sc_law_carted.nd rfl (by first | exact .inl rfl | exact .inr rfl) (of_nv (se_add (se_raw 8) (to_opd se_int))))
  (ss_cons (ss_if (PW.pt (sw_and (st_cmpDn (hu1 hr) (se_raw 10) (se_raw 5)) (sw_and1 (st_cmpDn (hu1 hr) (se_raw 10) (se_raw 3))))) (ss_one (ss_ret se_non)) ss_nil)
  (ss_one (ss_if (st_cmpDn (hu1 hr) (se_raw 10) (se_raw 5)) (ss_cons (ss_dput (hu1 hr) (se_var 2) (se_raw 5) (se_var 10))
  (ss_cons (ss_set (i := 2) sc_law_carted.nd rfl (by first | exact .inl rfl | exact .inr rfl) (of_nv (se_add (to_opd (of_nv (se_add (to_opd (of_nv (se_add (se_raw 2) (to_opd se_int)))) (to_opd (of_nv (se_bi call_lenU (by rfl) m_len boot_len1 (to_opd (se_ix (to_opd (se_dg (hu1 hr) (se_raw 3) (se_var 10))) se_int)))))))) (to_opd (of_nv (se_bi call_lenU (by rfl) m_len boot_len1 (to_opd (se_ix (to_opd (se_dg (hu1 hr) (se_raw 3) (se_var 10))) se_int))))))))
  (ss_cons (ss_expr (se_app (se_raw 6) (se_var 10)))
  (ss_one (ss_expr (se_ext (se_raw 7) (to_opd (se_ix (to_opd (se_dg (hu1 hr) (se_raw 3) (se_var 10))) se_int)))))))) ss_nil))))))
  (ss_cons (ss_setLcS (i := 9) (own := [("hold", 10)]) rfl sc_law_carted.nd rfl rfl (sw_true rfl rfl rfl (by decide +kernel)) (si_d (se_var 6)) (blkOk_by (own := [("hold", 10)]) (N := N_law_carted) (sc := defScope s_law_carted) (by decide +kernel)) (fun _ _ _ _ _ => sg_one (i := 10) sc_law_carted.nd rfl (by first | exact .inl rfl | exact .inr rfl)) (fun _ _ _ _ _ => sts_nil) (fun _ _ _ _ _ => se_tup (sa_cons (se_dg (hu1 hr) (se_raw 5) (se_var 10)) (sa_cons (to_shr (se_lc (own := [("one", 11)]) rfl sc_law_carted.nd (si_d (se_ix (to_opd (se_dg (hu1 hr) (se_raw 3) (se_var 10))) se_int)) (blk2 (blkOk_by (own := [("one", 11)]) (N := N_law_carted) (by decide +kernel))) (fun _ _ _ _ _ => sg_one (i := 11) sc_law_carted.nd rfl (by first | exact .inl rfl | exact .inr rfl)) (fun _ _ _ _ _ => sts_nil) (fun _ _ _ _ _ => se_dg (hu1 hr) (se_raw 5) (se_var 11)))) (sa_cons (to_shr (se_ty (call_listTU rfl) (by rfl) m_list boot_list1 (to_opd (se_ix (to_opd (se_dg (hu1 hr) (se_raw 3) (se_var 10))) se_int)))) sa_nil)))))
  (ss_one (ss_ret (se_tup (sa_cons (se_var 9) (sa_cons (of_nv (se_lc (own := [("hold", 10)]) rfl sc_law_carted.nd (si_d (se_var 6)) (blkOk_by (own := [("hold", 10)]) (N := N_law_carted) (sc := defScope s_law_carted) (by decide +kernel)) (fun _ _ _ _ _ => sg_one (i := 10) sc_law_carted.nd rfl (by first | exact .inl rfl | exact .inr rfl)) (fun _ _ _ _ _ => sts_nil) (fun _ _ _ _ _ => se_tup (sa_cons (se_var 10) (sa_cons (se_dg (hu1 hr) (se_raw 5) (se_var 10)) sa_nil))))) (sa_cons (se_var 2) sa_nil))))))))))))))
theorem ok_law_carted (hd : DefAt K mg "_law_carted" s_law_carted ["things", "roots", "free"]) (m_list : mg "list" = none) (m_len : mg "len" = none) : OkD P w K mg base cl 1 "_law_carted" ["things", "roots", "free"] F_law_carted :=
  ok_def hd sc_law_carted (by decide) fun _ cdv fa A outer s H E hr => body_law_carted m_list m_len cdv fa A outer s H E hr
theorem body_law_pairs (h_law_whole : OkD P w K mg base cl 1 "_law_whole" ["found"] (F_law_whole)) (m_isinstance : mg "isinstance" = none) (m_list : mg "list" = none) (m_len : mg "len" = none) (cdv : Value) (fa : Addr) (A : Around) (outer : List Env) (s : Shared) (H : Hp) (E : XK) (hr : Room 1 (A.deeper (envOfC "_law_pairs" (defScope s_law_pairs) s.heap.objs.size fa cdv))) :
    PSs (cxOf (L2.CX P w) P w K mg base N_law_pairs "_law_pairs" (defScope s_law_pairs) fa cdv A outer s H E) (defBody s_law_pairs) (TUS K cl (fun c d _ H' => E c d H') (B_law_pairs)) := by
  unfold B_law_pairs
  exact (ss_cons (ss_if (PW.pt (sw_or (st_not (st_val (se_isi (n := .list) m_isinstance m_list boot_list1 (by rfl) (by rfl) (se_raw 0)))) (sw_or1 (st_cmp (op_neU hr.units) (se_raw 0) (se_raw 1) (nomark _))))) (ss_one (ss_ret se_bl)) ss_nil)
  (ss_one (ss_ret (se_cmp (op_eqU hr.units) (to_opd (of_nv (se_bi call_lenU (by rfl) m_len boot_len1 (to_opd (of_nv (se_lc (own := [("one", 2)]) rfl sc_law_pairs.nd (si_d (se_var 0)) (blkOk_by (own := [("one", 2)]) (N := N_law_pairs) (sc := defScope s_law_pairs) (by decide +kernel)) (fun _ _ _ _ _ => sg_one (i := 2) sc_law_pairs.nd rfl (by first | exact .inl rfl | exact .inr rfl)) (fun _ _ _ _ _ => sts_one (PW.pt (sw_and (st_val (se_callD h_law_whole (hr.mono (by omega)) (by rfl) takes0 (sa_cons (se_ix (se_raw 2) se_int) sa_nil))) (sw_and1 (st_val (se_callD h_law_whole (hr.mono (by omega)) (by rfl) takes0 (sa_cons (se_ix (se_raw 2) se_int) sa_nil))))))) (fun _ _ _ _ _ => se_var 2))))))) (to_opd (of_nv (se_bi call_lenU (by rfl) m_len boot_len1 (se_raw 1)))) (nomark _)))))
theorem ok_law_pairs (hd : DefAt K mg "_law_pairs" s_law_pairs ["found", "due"]) (h_law_whole : OkD P w K mg base cl 1 "_law_whole" ["found"] (F_law_whole)) (m_isinstance : mg "isinstance" = none) (m_list : mg "list" = none) (m_len : mg "len" = none) : OkD P w K mg base cl 2 "_law_pairs" ["found", "due"] F_law_pairs :=
  ok_def hd sc_law_pairs (by decide) fun _ cdv fa A outer s H E hr => body_law_pairs h_law_whole m_isinstance m_list m_len cdv fa A outer s H E hr
theorem body_law_free (m_sum : mg "sum" = none) (m_len : mg "len" = none) (cdv : Value) (fa : Addr) (A : Around) (outer : List Env) (s : Shared) (H : Hp) (E : XK) (hr : Room 0 (A.deeper (envOfC "_law_free" (defScope s_law_free) s.heap.objs.size fa cdv))) :
    PSs (cxOf (L2.CX P w) P w K mg base N_law_free "_law_free" (defScope s_law_free) fa cdv A outer s H E) (defBody s_law_free) (TUS K cl (fun c d _ H' => E c d H') (B_law_free)) := by
  unfold B_law_free
  exact (ss_one (ss_ret (of_nv (se_add (se_raw 0) (to_opd (of_nv (se_bi (call_sumU rfl) (by rfl) m_sum boot_sum1 (to_opd (of_nv (se_lc (own := [("thing", 2)]) rfl sc_law_free.nd (si_d (se_var 1)) (blkOk_by (own := [("thing", 2)]) (N := N_law_free) (sc := defScope s_law_free) (by decide +kernel)) (fun _ _ _ _ _ => sg_one (i := 2) sc_law_free.nd rfl (by first | exact .inl rfl | exact .inr rfl)) (fun _ _ _ _ _ => sts_nil) (fun _ _ _ _ _ => of_nv (se_add (to_opd (of_nv (se_add (to_opd se_int) (to_opd (of_nv (se_bi call_lenU (by rfl) m_len boot_len1 (to_opd (se_ix (se_raw 2) se_int)))))))) (to_opd (of_nv (se_bi call_lenU (by rfl) m_len boot_len1 (to_opd (se_ix (se_raw 2) se_int)))))))))))))))))
theorem ok_law_free (hd : DefAt K mg "_law_free" s_law_free ["start", "things"]) (m_sum : mg "sum" = none) (m_len : mg "len" = none) : OkD P w K mg base cl 1 "_law_free" ["start", "things"] F_law_free :=
  ok_def hd sc_law_free (by decide) fun _ cdv fa A outer s H E hr => body_law_free m_sum m_len cdv fa A outer s H E hr
theorem body_law_carted_once (h_law_roots : OkD P w K mg base cl 3 "_law_roots" ["bag", "things"] (F_law_roots)) (h_law_carted : OkD P w K mg base cl 1 "_law_carted" ["things", "roots", "free"] (F_law_carted)) (h_carted : OkD P w K mg base cl 4 "carted" ["yard", "roots"] (F_carted)) (h_law_pairs : OkD P w K mg base cl 2 "_law_pairs" ["found", "due"] (F_law_pairs)) (m_list : mg "list" = none) (m_isinstance : mg "isinstance" = none) (m_tuple : mg "tuple" = none) (m_len : mg "len" = none) (cdv : Value) (fa : Addr) (A : Around) (outer : List Env) (s : Shared) (H : Hp) (E : XK) (hr : Room 4 (A.deeper (envOfC "_law_carted_once" (defScope s_law_carted_once) s.heap.objs.size fa cdv))) :
    PSs (cxOf (L2.CX P w) P w K mg base N_law_carted_once "_law_carted_once" (defScope s_law_carted_once) fa cdv A outer s H E) (defBody s_law_carted_once) (TUS K cl (fun c d _ H' => E c d H') (B_law_carted_once)) := by
  unfold B_law_carted_once
  exact (ss_cons (ss_tupU (se_var 1) (sg_all rfl (sg_cons (i := 7) sc_law_carted_once.nd rfl (by first | exact .inl rfl | exact .inr rfl) (sg_cons (i := 8) sc_law_carted_once.nd rfl (by first | exact .inl rfl | exact .inr rfl) (sg_cons (i := 9) sc_law_carted_once.nd rfl (by first | exact .inl rfl | exact .inr rfl) sg_nil)))))
  (ss_cons (ss_set (i := 2) sc_law_carted_once.nd rfl (by first | exact .inl rfl | exact .inr rfl) (of_nv (se_lst sa_nil)))
  (ss_cons (ss_if (st_cmp (op_neRU hr.units) (se_raw 8) (to_opd (of_nv (se_lst sa_nil))) (nomark _)) (ss_one (ss_set (i := 2) sc_law_carted_once.nd rfl (by first | exact .inl rfl | exact .inr rfl) (se_callD h_law_roots (hr.mono (by omega)) (by rfl) (takes_of rfl rfl rfl rfl) (sa_cons (se_var 0) (sa_cons (se_var 8) sa_nil))))) ss_nil)
  (ss_cons (ss_set (i := 3) sc_law_carted_once.nd rfl (by first | exact .inl rfl | exact .inr rfl) (se_callD h_law_carted (hr.mono (by omega)) (by rfl) (takes_of rfl rfl rfl rfl) (sa_cons (se_var 8) (sa_cons (se_var 2) (sa_cons (se_var 9) sa_nil)))))
  (ss_cons (ss_set (i := 4) sc_law_carted_once.nd rfl (by first | exact .inl rfl | exact .inr rfl) (to_shr (se_ty (call_listTU rfl) (by rfl) m_list boot_list1 (se_raw 2))))
  (ss_cons (ss_set (i := 5) sc_law_carted_once.nd rfl (by first | exact .inl rfl | exact .inr rfl) (se_callD h_carted (hr.mono (by omega)) (by rfl) (takes_of rfl rfl rfl rfl) (sa_cons (se_var 7) (sa_cons (se_var 4) sa_nil))))
  (ss_cons (ss_if (PW.pt (sw_or (st_cmp (op_neU hr.units) (se_raw 4) (se_raw 2) (nomark _)) (sw_or (st_not (st_val (se_isi (n := .tuple) m_isinstance m_tuple boot_tuple1 (by rfl) (by rfl) (se_raw 5)))) (sw_or (st_cmp (op_neU hr.units) (to_opd (of_nv (se_bi call_lenU (by rfl) m_len boot_len1 (se_raw 5)))) (to_opd se_int) (nomark _)) (sw_or1 (st_not (st_val (se_callD h_law_pairs (hr.mono (by omega)) (by rfl) (takes_of rfl rfl rfl rfl) (sa_cons (se_ix (se_raw 5) se_int) (sa_cons (se_ix (se_raw 3) se_int) sa_nil)))))))))) (ss_one (ss_ret se_non)) ss_nil)
  (ss_cons (ss_expr (se_clr (se_raw 4)))
  (ss_cons (ss_expr (se_clr (to_opd (se_ix (se_raw 5) se_int))))
  (ss_cons (ss_set (i := 6) sc_law_carted_once.nd rfl (by first | exact .inl rfl | exact .inr rfl) (se_callD h_carted (hr.mono (by omega)) (by rfl) (takes_of rfl rfl rfl rfl) (sa_cons (se_var 7) (sa_cons (of_nv (se_ty (call_listTU rfl) (by rfl) m_list boot_list1 (se_raw 2))) sa_nil))))
  (ss_cons (ss_if (st_not (st_val (se_callD h_law_pairs (hr.mono (by omega)) (by rfl) (takes_of rfl rfl rfl rfl) (sa_cons (se_ix (se_raw 6) se_int) (sa_cons (se_ix (se_raw 3) se_int) sa_nil))))) (ss_one (ss_ret se_non)) ss_nil)
  (ss_one (ss_ret (to_shr (se_lst (sa_cons (se_ix (se_raw 5) se_int) (sa_cons (se_ix (se_raw 3) se_int) (sa_cons (se_ix (se_raw 3) se_int) sa_nil))))))))))))))))))
theorem ok_law_carted_once (hd : DefAt K mg "_law_carted_once" s_law_carted_once ["bag", "house"]) (h_law_roots : OkD P w K mg base cl 3 "_law_roots" ["bag", "things"] (F_law_roots)) (h_law_carted : OkD P w K mg base cl 1 "_law_carted" ["things", "roots", "free"] (F_law_carted)) (h_carted : OkD P w K mg base cl 4 "carted" ["yard", "roots"] (F_carted)) (h_law_pairs : OkD P w K mg base cl 2 "_law_pairs" ["found", "due"] (F_law_pairs)) (m_list : mg "list" = none) (m_isinstance : mg "isinstance" = none) (m_tuple : mg "tuple" = none) (m_len : mg "len" = none) : OkD P w K mg base cl 5 "_law_carted_once" ["bag", "house"] F_law_carted_once :=
  ok_def hd sc_law_carted_once (by decide) fun _ cdv fa A outer s H E hr => body_law_carted_once h_law_roots h_law_carted h_carted h_law_pairs m_list m_isinstance m_tuple m_len cdv fa A outer s H E hr
theorem body_Yard_told {C_Yard : Addr} (h_Yard_size_of : OkM P w K mg base cl 2 C_Yard "size_of" ["self", "at"] (F_Yard_size_of)) (m_tuple : mg "tuple" = none) (g_Yard : mg "Yard" = some (.ref C_Yard)) (T_Yard : ClsT K cl [89, 97, 114, 100] fs_Yard C_Yard) (cdv : Value) (fa : Addr) (A : Around) (outer : List Env) (s : Shared) (H : Hp) (E : XK) (hr : Room 2 (A.deeper (envOfC "Yard.told" (defScope s_Yard_told) s.heap.objs.size fa cdv))) :
    PSs (cxOf (L2.CX P w) P w K mg base N_Yard_told "Yard.told" (defScope s_Yard_told) fa cdv A outer s H E) (defBody s_Yard_told) (TUS K cl (fun c d _ H' => E c d H') (B_Yard_told)) := by
  unfold B_Yard_told
  exact (ss_cons (ss_setN (i := 1) sc_Yard_told.nd rfl (by first | exact .inl rfl | exact .inr rfl) (se_lst sa_nil))
  (ss_cons (ss_forO (passes_of rfl) rfl (se_fld T_Yard (by rfl) (by decide) (se_raw 0)) (sg_one (i := 2) sc_Yard_told.nd rfl (by first | exact .inl rfl | exact .inr rfl)) (ss_cons (ss_tup (se_meth T_Yard h_Yard_size_of (hr.mono (by omega)) (takes_of rfl rfl rfl rfl) (by rfl) (se_raw 0) (sa_cons (se_var 2) sa_nil)) (sg_all rfl (sg_cons (i := 4) sc_Yard_told.nd rfl (by first | exact .inl rfl | exact .inr rfl) (sg_cons (i := 5) sc_Yard_told.nd rfl (by first | exact .inl rfl | exact .inr rfl) sg_nil))))
  (ss_cons (ss_set (i := 3) sc_Yard_told.nd rfl (by first | exact .inl rfl | exact .inr rfl) (of_nv (se_add (to_opd (se_sub (se_var 2) (to_val (se_fld T_Yard (by rfl) (by decide) (se_raw 0))))) (to_opd se_int))))
  (ss_one (ss_expr (se_app (se_raw 1) (se_tup (sa_cons (se_var 2) (sa_cons (of_nv (se_ty call_tupU (by rfl) m_tuple boot_tuple1 (to_opd (of_nv (se_sl (se_fld T_Yard (by rfl) (by decide) (se_raw 0)) (so_some (se_var 3)) (so_some (of_nv (se_add (se_raw 3) (se_raw 4))))))))) (sa_cons (of_nv (se_ty call_tupU (by rfl) m_tuple boot_tuple1 (to_opd (of_nv (se_sl (se_fld T_Yard (by rfl) (by decide) (se_raw 0)) (so_some (of_nv (se_add (se_raw 3) (se_raw 4)))) (so_some (of_nv (se_add (to_opd (of_nv (se_add (se_raw 3) (se_raw 4)))) (se_raw 5))))))))) sa_nil))))))))))
  (ss_one (ss_ret (se_shrL 1)))))
theorem ok_Yard_told {C_Yard : Addr} (h_Yard_size_of : OkM P w K mg base cl 2 C_Yard "size_of" ["self", "at"] (F_Yard_size_of)) (m_tuple : mg "tuple" = none) (g_Yard : mg "Yard" = some (.ref C_Yard)) (T_Yard : ClsT K cl [89, 97, 114, 100] fs_Yard C_Yard) {f : Addr} {fd : FuncData} (F : Fun K "told" "Yard.told" s_Yard_told f fd) : FnOk P w K mg base (L2.CX P w) 3 f fd ["self"] (spU K cl 1 F_Yard_told) :=
  fun_ok F sc_Yard_told (by decide) fun cdv A outer s H E hr => body_Yard_told h_Yard_size_of m_tuple g_Yard T_Yard cdv f A outer s H E hr
theorem body_law_deed {C_Yard : Addr} (h_law_size : OkD P w K mg base cl 2 "_law_size" ["bag"] (F_law_size)) (h_Yard_make : OkM P w K mg base cl 2 C_Yard "make" ["self", "h", "m"] (F_Yard_make)) (h_law_draw : OkD P w K mg base cl 1 "_law_draw" ["bag", "many"] (F_law_draw)) (h_law_field : OkD P w K mg base cl 2 "_law_field" ["yard", "things", "k", "j", "worth"] (F_law_field)) (h_law_hold : OkD P w K mg base cl 2 "_law_hold" ["bag", "things", "k", "chain"] (F_law_hold)) (h_law_worth : OkD P w K mg base cl 2 "_law_worth" ["bag"] (F_law_worth)) (h_Yard_told : OkM P w K mg base cl 3 C_Yard "told" ["self"] (F_Yard_told)) (h_law_told : OkD P w K mg base cl 2 "_law_told" ["found", "things"] (F_law_told)) (m_len : mg "len" = none) (g_Yard : mg "Yard" = some (.ref C_Yard)) (T_Yard : ClsT K cl [89, 97, 114, 100] fs_Yard C_Yard) (cdv : Value) (fa : Addr) (A : Around) (outer : List Env) (s : Shared) (H : Hp) (E : XK) (hr : Room 3 (A.deeper (envOfC "_law_deed" (defScope s_law_deed) s.heap.objs.size fa cdv))) :
    PSs (cxOf (L2.CX P w) P w K mg base N_law_deed "_law_deed" (defScope s_law_deed) fa cdv A outer s H E) (defBody s_law_deed) (TUS K cl (fun c d _ H' => E c d H') (B_law_deed)) := by
  unfold B_law_deed
  exact (ss_cons (ss_tupU (se_var 1) (sg_all rfl (sg_cons (i := 3) sc_law_deed.nd rfl (by first | exact .inl rfl | exact .inr rfl) (sg_cons (i := 4) sc_law_deed.nd rfl (by first | exact .inl rfl | exact .inr rfl) (sg_cons (i := 5) sc_law_deed.nd rfl (by first | exact .inl rfl | exact .inr rfl) sg_nil)))))
  (ss_cons (ss_if (st_cmp (op_eqU hr.units) (se_raw 2) (to_opd se_int) (nomark _)) (ss_cons (ss_tup (se_callD h_law_size (hr.mono (by omega)) (by rfl) (takes_of rfl rfl rfl rfl) (sa_cons (se_var 0) sa_nil)) (sg_all rfl (sg_cons (i := 8) sc_law_deed.nd rfl (by first | exact .inl rfl | exact .inr rfl) (sg_cons (i := 9) sc_law_deed.nd rfl (by first | exact .inl rfl | exact .inr rfl) sg_nil))))
  (ss_cons (ss_expr (se_app (se_raw 4) (se_tup (sa_cons (se_meth T_Yard h_Yard_make (hr.mono (by omega)) (takes_of rfl rfl rfl rfl) (by rfl) (se_raw 3) (sa_cons (se_var 8) (sa_cons (se_var 9) sa_nil))) (sa_cons (to_shr (se_mul (to_opd (of_nv (se_lst (sa_cons se_int sa_nil)))) (se_raw 8))) (sa_cons (to_shr (se_mul (to_opd (of_nv (se_lst (sa_cons se_int sa_nil)))) (se_raw 9))) sa_nil))))))
  (ss_one (ss_sput (of_nv (se_add (to_opd (of_nv (se_add (to_opd (of_nv (se_add (se_raw 5) (to_opd se_int)))) (se_raw 8)))) (se_raw 9))) (se_raw 1) se_int)))) ss_nil)
  (ss_cons (ss_if (PW.pt (sw_and (st_cmp (op_eqU hr.units) (se_raw 2) (to_opd se_int) (nomark _)) (sw_and1 (st_cmp (op_neRU hr.units) (se_raw 4) (to_opd (of_nv (se_lst sa_nil))) (nomark _))))) (ss_cons (ss_set (i := 6) sc_law_deed.nd rfl (by first | exact .inl rfl | exact .inr rfl) (se_callD h_law_draw (hr.mono (by omega)) (by rfl) (takes_of rfl rfl rfl rfl) (sa_cons (se_var 0) (sa_cons (of_nv (se_bi call_lenU (by rfl) m_len boot_len1 (se_raw 4))) sa_nil))))
  (ss_cons (ss_if (st_cmp op_gtU (to_opd (of_nv (se_bi call_lenU (by rfl) m_len boot_len1 (to_opd (se_ix (to_opd (se_ix (se_raw 4) (se_var 6))) se_int))))) (to_opd se_int) (nomark _)) (ss_one (ss_expr (se_callD h_law_field (hr.mono (by omega)) (by rfl) (takes_of rfl rfl rfl rfl) (sa_cons (se_var 3) (sa_cons (se_var 4) (sa_cons (se_var 6) (sa_cons (se_callD h_law_draw (hr.mono (by omega)) (by rfl) (takes_of rfl rfl rfl rfl) (sa_cons (se_var 0) (sa_cons (of_nv (se_bi call_lenU (by rfl) m_len boot_len1 (to_opd (se_ix (to_opd (se_ix (se_raw 4) (se_var 6))) se_int)))) sa_nil))) (sa_cons (se_callD h_law_hold (hr.mono (by omega)) (by rfl) (takes_of rfl rfl rfl rfl) (sa_cons (se_var 0) (sa_cons (se_var 4) (sa_cons se_int (sa_cons se_int sa_nil))))) sa_nil)))))))) ss_nil)
  (ss_one (ss_if (st_cmp op_gtU (to_opd (of_nv (se_bi call_lenU (by rfl) m_len boot_len1 (to_opd (se_ix (to_opd (se_ix (se_raw 4) (se_var 6))) se_int))))) (to_opd se_int) (nomark _)) (ss_cons (ss_set (i := 10) sc_law_deed.nd rfl (by first | exact .inl rfl | exact .inr rfl) (of_nv (se_add (to_opd (of_nv (se_bi call_lenU (by rfl) m_len boot_len1 (to_opd (se_ix (to_opd (se_ix (se_raw 4) (se_var 6))) se_int))))) (to_opd (se_callD h_law_draw (hr.mono (by omega)) (by rfl) (takes_of rfl rfl rfl rfl) (sa_cons (se_var 0) (sa_cons (of_nv (se_bi call_lenU (by rfl) m_len boot_len1 (to_opd (se_ix (to_opd (se_ix (se_raw 4) (se_var 6))) se_int)))) sa_nil)))))))
  (ss_one (ss_expr (se_callD h_law_field (hr.mono (by omega)) (by rfl) (takes_of rfl rfl rfl rfl) (sa_cons (se_var 3) (sa_cons (se_var 4) (sa_cons (se_var 6) (sa_cons (se_var 10) (sa_cons (se_callD h_law_worth (hr.mono (by omega)) (by rfl) (takes_of rfl rfl rfl rfl) (sa_cons (se_var 0) sa_nil)) sa_nil))))))))) ss_nil)))) ss_nil)
  (ss_cons (ss_if (st_cmp (op_eqU hr.units) (se_raw 2) (to_opd se_int) (nomark _)) (ss_cons (ss_set (i := 7) sc_law_deed.nd rfl (by first | exact .inl rfl | exact .inr rfl) (se_meth0 T_Yard h_Yard_told (hr.mono (by omega)) (takes_of rfl rfl rfl rfl) (by rfl) (se_raw 3)))
  (ss_cons (ss_if (st_not (st_val (se_callD h_law_told (hr.mono (by omega)) (by rfl) (takes_of rfl rfl rfl rfl) (sa_cons (se_var 7) (sa_cons (se_var 4) sa_nil))))) (ss_one (ss_ret se_bl)) ss_nil)
  (ss_one (ss_expr (se_clr (se_raw 7)))))) ss_nil)
  (ss_one (ss_ret se_bl))))))
theorem ok_law_deed (hd : DefAt K mg "_law_deed" s_law_deed ["bag", "house", "way"]) {C_Yard : Addr} (h_law_size : OkD P w K mg base cl 2 "_law_size" ["bag"] (F_law_size)) (h_Yard_make : OkM P w K mg base cl 2 C_Yard "make" ["self", "h", "m"] (F_Yard_make)) (h_law_draw : OkD P w K mg base cl 1 "_law_draw" ["bag", "many"] (F_law_draw)) (h_law_field : OkD P w K mg base cl 2 "_law_field" ["yard", "things", "k", "j", "worth"] (F_law_field)) (h_law_hold : OkD P w K mg base cl 2 "_law_hold" ["bag", "things", "k", "chain"] (F_law_hold)) (h_law_worth : OkD P w K mg base cl 2 "_law_worth" ["bag"] (F_law_worth)) (h_Yard_told : OkM P w K mg base cl 3 C_Yard "told" ["self"] (F_Yard_told)) (h_law_told : OkD P w K mg base cl 2 "_law_told" ["found", "things"] (F_law_told)) (m_len : mg "len" = none) (g_Yard : mg "Yard" = some (.ref C_Yard)) (T_Yard : ClsT K cl [89, 97, 114, 100] fs_Yard C_Yard) : OkD P w K mg base cl 4 "_law_deed" ["bag", "house", "way"] F_law_deed :=
  ok_def hd sc_law_deed (by decide) fun _ cdv fa A outer s H E hr => body_law_deed h_law_size h_Yard_make h_law_draw h_law_field h_law_hold h_law_worth h_Yard_told h_law_told m_len g_Yard T_Yard cdv fa A outer s H E hr
theorem body_law {C_Yard : Addr} (h_law_bag : OkD P w K mg base cl 1 "_law_bag" ["script"] (F_law_bag)) (h_law_start : OkD P w K mg base cl 2 "_law_start" ["bag"] (F_law_start)) (h_Yard___init__ : OkC P w K mg base cl 1 C_Yard ["self", "start"] (F_Yard___init__)) (h_law_filled : OkD P w K mg base cl 3 "_law_filled" ["bag", "yard"] (F_law_filled)) (h_law_free : OkD P w K mg base cl 1 "_law_free" ["start", "things"] (F_law_free)) (h_law_more : OkD P w K mg base cl 1 "_law_more" ["bag"] (F_law_more)) (h_law_draw : OkD P w K mg base cl 1 "_law_draw" ["bag", "many"] (F_law_draw)) (h_law_carted_once : OkD P w K mg base cl 5 "_law_carted_once" ["bag", "house"] (F_law_carted_once)) (h_law_deed : OkD P w K mg base cl 4 "_law_deed" ["bag", "house", "way"] (F_law_deed)) (h_law_told : OkD P w K mg base cl 2 "_law_told" ["found", "things"] (F_law_told)) (h_Yard_told : OkM P w K mg base cl 3 C_Yard "told" ["self"] (F_Yard_told)) (m_range : mg "range" = none) (m_len : mg "len" = none) (g_Yard : mg "Yard" = some (.ref C_Yard)) (T_Yard : ClsT K cl [89, 97, 114, 100] fs_Yard C_Yard) (cdv : Value) (fa : Addr) (A : Around) (outer : List Env) (s : Shared) (H : Hp) (E : XK) (hr : Room 5 (A.deeper (envOfC "law" (defScope s_law) s.heap.objs.size fa cdv))) :
    PSs (cxOf (L2.CX P w) P w K mg base N_law "law" (defScope s_law) fa cdv A outer s H E) (defBody s_law) (TUS K cl (fun c d _ H' => E c d H') (B_law)) := by
  unfold B_law
  exact (ss_cons (ss_set (i := 1) sc_law.nd rfl (by first | exact .inl rfl | exact .inr rfl) (se_callD h_law_bag (hr.mono (by omega)) (by rfl) (takes_of rfl rfl rfl rfl) (sa_cons (se_var 0) sa_nil)))
  (ss_cons (ss_set (i := 2) sc_law.nd rfl (by first | exact .inl rfl | exact .inr rfl) (se_callD h_law_start (hr.mono (by omega)) (by rfl) (takes_of rfl rfl rfl rfl) (sa_cons (se_var 1) sa_nil)))
  (ss_cons (ss_set (i := 3) sc_law.nd rfl (by first | exact .inl rfl | exact .inr rfl) (se_makeC T_Yard h_Yard___init__ (hr.mono (by omega)) (by rfl) g_Yard (sa_cons (se_var 2) sa_nil)))
  (ss_cons (ss_set (i := 4) sc_law.nd rfl (by first | exact .inl rfl | exact .inr rfl) (se_callD h_law_filled (hr.mono (by omega)) (by rfl) (takes_of rfl rfl rfl rfl) (sa_cons (se_var 1) (sa_cons (se_var 3) sa_nil))))
  (ss_cons (ss_setN (i := 5) sc_law.nd rfl (by first | exact .inl rfl | exact .inr rfl) (se_lst (sa_cons (to_shr (se_lst (sa_cons (se_var 3) (sa_cons (se_var 4) (sa_cons (se_callD h_law_free (hr.mono (by omega)) (by rfl) (takes_of rfl rfl rfl rfl) (sa_cons (se_var 2) (sa_cons (se_var 4) sa_nil))) sa_nil))))) sa_nil)))
  (ss_cons (ss_for (passes_of rfl) rfl (si_r1 (by rfl) m_range se_int) (sg_one (i := 6) sc_law.nd rfl (by first | exact .inl rfl | exact .inr rfl)) (ss_one (ss_if (PW.pt (sw_or (st_cmp op_ltU (se_raw 6) (to_opd se_int) (nomark _)) (sw_or1 (st_val (se_callD h_law_more (hr.mono (by omega)) (by rfl) (takes_of rfl rfl rfl rfl) (sa_cons (se_var 1) sa_nil)))))) (ss_cons (ss_set (i := 8) sc_law.nd rfl (by first | exact .inl rfl | exact .inr rfl) (se_callD h_law_draw (hr.mono (by omega)) (by rfl) (takes_of rfl rfl rfl rfl) (sa_cons (se_var 1) (sa_cons se_int sa_nil))))
  (ss_cons (ss_set (i := 7) sc_law.nd rfl (by first | exact .inl rfl | exact .inr rfl) (se_ix (se_raw 5) (se_callD h_law_draw (hr.mono (by omega)) (by rfl) (takes_of rfl rfl rfl rfl) (sa_cons (se_var 1) (sa_cons (of_nv (se_bi call_lenU (by rfl) m_len boot_len1 (se_raw 5))) sa_nil)))))
  (ss_cons (ss_if (PW.pt (sw_and (st_cmp (op_eqU hr.units) (se_raw 8) (to_opd se_int) (nomark _)) (sw_and1 (st_cmp op_ltU (to_opd (of_nv (se_bi call_lenU (by rfl) m_len boot_len1 (se_raw 5)))) (to_opd se_int) (nomark _))))) (ss_cons (ss_set (i := 9) sc_law.nd rfl (by first | exact .inl rfl | exact .inr rfl) (se_callD h_law_carted_once (hr.mono (by omega)) (by rfl) (takes_of rfl rfl rfl rfl) (sa_cons (se_var 1) (sa_cons (se_var 7) sa_nil))))
  (ss_cons (ss_if (st_cmp op_isU (se_raw 9) (to_opd se_non) (nomark _)) (ss_one (ss_ret se_bl)) ss_nil)
  (ss_one (ss_expr (se_app (se_raw 5) (se_var 9)))))) ss_nil)
  (ss_cons (ss_if (st_not (st_val (se_callD h_law_deed (hr.mono (by omega)) (by rfl) (takes_of rfl rfl rfl rfl) (sa_cons (se_var 1) (sa_cons (se_var 7) (sa_cons (se_var 8) sa_nil)))))) (ss_one (ss_ret se_bl)) ss_nil)
  (ss_cons (ss_set (i := 7) sc_law.nd rfl (by first | exact .inl rfl | exact .inr rfl) (se_ix (se_raw 5) (se_callD h_law_draw (hr.mono (by omega)) (by rfl) (takes_of rfl rfl rfl rfl) (sa_cons (se_var 1) (sa_cons (of_nv (se_bi call_lenU (by rfl) m_len boot_len1 (se_raw 5))) sa_nil)))))
  (ss_one (ss_if (st_not (st_val (se_callD h_law_told (hr.mono (by omega)) (by rfl) (takes_of rfl rfl rfl rfl) (sa_cons (se_meth0 T_Yard h_Yard_told (hr.mono (by omega)) (takes_of rfl rfl rfl rfl) (by rfl) (to_opd (se_ix (se_raw 7) se_int))) (sa_cons (se_ix (se_raw 7) se_int) sa_nil))))) (ss_one (ss_ret se_bl)) ss_nil))))))) ss_nil)))
  (ss_cons (ss_for (passes_of rfl) rfl (si_d (se_var 5)) (sg_one (i := 7) sc_law.nd rfl (by first | exact .inl rfl | exact .inr rfl)) (ss_one (ss_if (PW.pt (sw_or (st_not (st_val (se_callD h_law_told (hr.mono (by omega)) (by rfl) (takes_of rfl rfl rfl rfl) (sa_cons (se_meth0 T_Yard h_Yard_told (hr.mono (by omega)) (takes_of rfl rfl rfl rfl) (by rfl) (to_opd (se_ix (se_raw 7) se_int))) (sa_cons (se_ix (se_raw 7) se_int) sa_nil))))) (sw_or1 (st_cmp (op_neU hr.units) (se_fld T_Yard (by rfl) (by decide) (to_opd (se_ix (se_raw 7) se_int))) (to_opd (se_ix (se_raw 7) se_int)) (nomark _))))) (ss_one (ss_ret se_bl)) ss_nil)))
  (ss_one (ss_ret se_bl)))))))))
theorem ok_law {C_Yard : Addr} (h_law_bag : OkD P w K mg base cl 1 "_law_bag" ["script"] (F_law_bag)) (h_law_start : OkD P w K mg base cl 2 "_law_start" ["bag"] (F_law_start)) (h_Yard___init__ : OkC P w K mg base cl 1 C_Yard ["self", "start"] (F_Yard___init__)) (h_law_filled : OkD P w K mg base cl 3 "_law_filled" ["bag", "yard"] (F_law_filled)) (h_law_free : OkD P w K mg base cl 1 "_law_free" ["start", "things"] (F_law_free)) (h_law_more : OkD P w K mg base cl 1 "_law_more" ["bag"] (F_law_more)) (h_law_draw : OkD P w K mg base cl 1 "_law_draw" ["bag", "many"] (F_law_draw)) (h_law_carted_once : OkD P w K mg base cl 5 "_law_carted_once" ["bag", "house"] (F_law_carted_once)) (h_law_deed : OkD P w K mg base cl 4 "_law_deed" ["bag", "house", "way"] (F_law_deed)) (h_law_told : OkD P w K mg base cl 2 "_law_told" ["found", "things"] (F_law_told)) (h_Yard_told : OkM P w K mg base cl 3 C_Yard "told" ["self"] (F_Yard_told)) (m_range : mg "range" = none) (m_len : mg "len" = none) (g_Yard : mg "Yard" = some (.ref C_Yard)) (T_Yard : ClsT K cl [89, 97, 114, 100] fs_Yard C_Yard) {f : Addr} {fd : FuncData} (F : Fun K "law" "law" s_law f fd) : FnOk P w K mg base (L2.CX P w) 6 f fd ["script"] (spU K cl 1 F_law) :=
  fun_ok F sc_law (by decide) fun cdv A outer s H E hr => body_law h_law_bag h_law_start h_Yard___init__ h_law_filled h_law_free h_law_more h_law_draw h_law_carted_once h_law_deed h_law_told h_Yard_told m_range m_len g_Yard T_Yard cdv f A outer s H E hr
end
theorem all_mk {l : PySem.W.OpenLaw} {w : World} {K : PySem.W.Frag} {h : Heap} {mg : Str → Option Value} {f0 f1 f2 f3 f4 f5 f6 f7 f8 f9 f10 f11 f12 f13 f14 f15 f16 f17 f18 f19 f20 f21 f22 f23 f24 f25 f26 f27 f28 : Addr} (X : K.In h) (G : h.Ns mainGlobals mg)
    {C_Yard C_NoThing C_NoSpot : Addr}
    {od0 an0 od1 an1 od2 an2 od3 an3 od4 an4 od5 an5 od6 an6 od7 an7 od8 an8 od9 an9 od10 an10 od11 an11 od12 an12 od13 an13 od14 an14 od15 an15 od16 an16 od17 an17 od18 an18 od19 an19 od20 an20 od21 an21 od22 an22 od23 an23 od24 an24 od25 an25 od26 an26 od27 an27 od28 an28 : Option Addr} {sl0 sl1 sl2 sl3 sl4 sl5 sl6 sl7 sl8 sl9 sl10 sl11 sl12 sl13 sl14 sl15 sl16 sl17 sl18 sl19 sl20 sl21 sl22 sl23 sl24 sl25 sl26 sl27 sl28 : Array (Option Value)} {oc0 kV0 dc0 pm0 cd0 ct0 oc1 kV1 dc1 pm1 cd1 ct1 oc2 kV2 dc2 pm2 cd2 ct2 oc3 kV3 dc3 pm3 cd3 ct3 oc4 kV4 dc4 pm4 cd4 ct4 oc5 kV5 dc5 pm5 cd5 ct5 oc6 kV6 dc6 pm6 cd6 ct6 oc7 kV7 dc7 pm7 cd7 ct7 oc8 kV8 dc8 pm8 cd8 ct8 oc9 kV9 dc9 pm9 cd9 ct9 oc10 kV10 dc10 pm10 cd10 ct10 oc11 kV11 dc11 pm11 cd11 ct11 oc12 kV12 dc12 pm12 cd12 ct12 oc13 kV13 dc13 pm13 cd13 ct13 oc14 kV14 dc14 pm14 cd14 ct14 oc15 kV15 dc15 pm15 cd15 ct15 oc16 kV16 dc16 pm16 cd16 ct16 oc17 kV17 dc17 pm17 cd17 ct17 oc18 kV18 dc18 pm18 cd18 ct18 oc19 kV19 dc19 pm19 cd19 ct19 oc20 kV20 dc20 pm20 cd20 ct20 oc21 kV21 dc21 pm21 cd21 ct21 oc22 kV22 dc22 pm22 cd22 ct22 oc23 kV23 dc23 pm23 cd23 ct23 oc24 kV24 dc24 pm24 cd24 ct24 oc25 kV25 dc25 pm25 cd25 ct25 oc26 kV26 dc26 pm26 cd26 ct26 oc27 kV27 dc27 pm27 cd27 ct27 oc28 kV28 dc28 pm28 cd28 ct28 : Value}
    (a0 : PySem.W.nsIn K mainGlobals "head" = some (some (.ref f0))) (l0 : K.lookup f0 = some ⟨oc0, od0, .func (PySem.W.fnOf "head" "head" (defArgs s_head) (defBody s_head) (defScope s_head) .none kV0 dc0 pm0 an0 cd0 ct0), sl0⟩) (c0 : PySem.W.codeIn K cd0 "head" = true) (k0 : PySem.W.keepIn K (.ref f0) = true)
    (a1 : PySem.W.nsIn K mainGlobals "head_parts" = some (some (.ref f1))) (l1 : K.lookup f1 = some ⟨oc1, od1, .func (PySem.W.fnOf "head_parts" "head_parts" (defArgs s_head_parts) (defBody s_head_parts) (defScope s_head_parts) .none kV1 dc1 pm1 an1 cd1 ct1), sl1⟩) (c1 : PySem.W.codeIn K cd1 "head_parts" = true) (k1 : PySem.W.keepIn K (.ref f1) = true)
    (a2 : PySem.W.findIn K (.ref C_Yard) "size_of" = some (some (.ref f2))) (i2 : PySem.W.isFn K (.ref f2) = true) (l2 : K.lookup f2 = some ⟨oc2, od2, .func (PySem.W.fnOf "size_of" "Yard.size_of" (defArgs s_Yard_size_of) (defBody s_Yard_size_of) (defScope s_Yard_size_of) .none kV2 dc2 pm2 an2 cd2 ct2), sl2⟩) (c2 : PySem.W.codeIn K cd2 "Yard.size_of" = true) (k2 : PySem.W.keepIn K (.ref f2) = true)
    (a3 : PySem.W.findIn K (.ref C_Yard) "make" = some (some (.ref f3))) (i3 : PySem.W.isFn K (.ref f3) = true) (l3 : K.lookup f3 = some ⟨oc3, od3, .func (PySem.W.fnOf "make" "Yard.make" (defArgs s_Yard_make) (defBody s_Yard_make) (defScope s_Yard_make) .none kV3 dc3 pm3 an3 cd3 ct3), sl3⟩) (c3 : PySem.W.codeIn K cd3 "Yard.make" = true) (k3 : PySem.W.keepIn K (.ref f3) = true)
    (a4 : PySem.W.findIn K (.ref C_Yard) "set_word" = some (some (.ref f4))) (i4 : PySem.W.isFn K (.ref f4) = true) (l4 : K.lookup f4 = some ⟨oc4, od4, .func (PySem.W.fnOf "set_word" "Yard.set_word" (defArgs s_Yard_set_word) (defBody s_Yard_set_word) (defScope s_Yard_set_word) .none kV4 dc4 pm4 an4 cd4 ct4), sl4⟩) (c4 : PySem.W.codeIn K cd4 "Yard.set_word" = true) (k4 : PySem.W.keepIn K (.ref f4) = true)
    (a5 : PySem.W.findIn K (.ref C_Yard) "word" = some (some (.ref f5))) (i5 : PySem.W.isFn K (.ref f5) = true) (l5 : K.lookup f5 = some ⟨oc5, od5, .func (PySem.W.fnOf "word" "Yard.word" (defArgs s_Yard_word) (defBody s_Yard_word) (defScope s_Yard_word) .none kV5 dc5 pm5 an5 cd5 ct5), sl5⟩) (c5 : PySem.W.codeIn K cd5 "Yard.word" = true) (k5 : PySem.W.keepIn K (.ref f5) = true)
    (a6 : PySem.W.nsIn K mainGlobals "laid" = some (some (.ref f6))) (l6 : K.lookup f6 = some ⟨oc6, od6, .func (PySem.W.fnOf "laid" "laid" (defArgs s_laid) (defBody s_laid) (defScope s_laid) .none kV6 dc6 pm6 an6 cd6 ct6), sl6⟩) (c6 : PySem.W.codeIn K cd6 "laid" = true) (k6 : PySem.W.keepIn K (.ref f6) = true)
    (a7 : PySem.W.findIn K (.ref C_Yard) "__init__" = some (some (.ref f7))) (i7 : PySem.W.isFn K (.ref f7) = true) (l7 : K.lookup f7 = some ⟨oc7, od7, .func (PySem.W.fnOf "__init__" "Yard.__init__" (defArgs s_Yard___init__) (defBody s_Yard___init__) (defScope s_Yard___init__) .none kV7 dc7 pm7 an7 cd7 ct7), sl7⟩) (c7 : PySem.W.codeIn K cd7 "Yard.__init__" = true) (k7 : PySem.W.keepIn K (.ref f7) = true)
    (a8 : PySem.W.nsIn K mainGlobals "carted" = some (some (.ref f8))) (l8 : K.lookup f8 = some ⟨oc8, od8, .func (PySem.W.fnOf "carted" "carted" (defArgs s_carted) (defBody s_carted) (defScope s_carted) .none kV8 dc8 pm8 an8 cd8 ct8), sl8⟩) (c8 : PySem.W.codeIn K cd8 "carted" = true) (k8 : PySem.W.keepIn K (.ref f8) = true)
    (a9 : PySem.W.nsIn K mainGlobals "_law_bag" = some (some (.ref f9))) (l9 : K.lookup f9 = some ⟨oc9, od9, .func (PySem.W.fnOf "_law_bag" "_law_bag" (defArgs s_law_bag) (defBody s_law_bag) (defScope s_law_bag) .none kV9 dc9 pm9 an9 cd9 ct9), sl9⟩) (c9 : PySem.W.codeIn K cd9 "_law_bag" = true) (k9 : PySem.W.keepIn K (.ref f9) = true)
    (a10 : PySem.W.nsIn K mainGlobals "_law_draw" = some (some (.ref f10))) (l10 : K.lookup f10 = some ⟨oc10, od10, .func (PySem.W.fnOf "_law_draw" "_law_draw" (defArgs s_law_draw) (defBody s_law_draw) (defScope s_law_draw) .none kV10 dc10 pm10 an10 cd10 ct10), sl10⟩) (c10 : PySem.W.codeIn K cd10 "_law_draw" = true) (k10 : PySem.W.keepIn K (.ref f10) = true)
    (a11 : PySem.W.nsIn K mainGlobals "_law_more" = some (some (.ref f11))) (l11 : K.lookup f11 = some ⟨oc11, od11, .func (PySem.W.fnOf "_law_more" "_law_more" (defArgs s_law_more) (defBody s_law_more) (defScope s_law_more) .none kV11 dc11 pm11 an11 cd11 ct11), sl11⟩) (c11 : PySem.W.codeIn K cd11 "_law_more" = true) (k11 : PySem.W.keepIn K (.ref f11) = true)
    (a12 : PySem.W.nsIn K mainGlobals "_law_whole" = some (some (.ref f12))) (l12 : K.lookup f12 = some ⟨oc12, od12, .func (PySem.W.fnOf "_law_whole" "_law_whole" (defArgs s_law_whole) (defBody s_law_whole) (defScope s_law_whole) .none kV12 dc12 pm12 an12 cd12 ct12), sl12⟩) (c12 : PySem.W.codeIn K cd12 "_law_whole" = true) (k12 : PySem.W.keepIn K (.ref f12) = true)
    (a13 : PySem.W.nsIn K mainGlobals "_law_start" = some (some (.ref f13))) (l13 : K.lookup f13 = some ⟨oc13, od13, .func (PySem.W.fnOf "_law_start" "_law_start" (defArgs s_law_start) (defBody s_law_start) (defScope s_law_start) .none kV13 dc13 pm13 an13 cd13 ct13), sl13⟩) (c13 : PySem.W.codeIn K cd13 "_law_start" = true) (k13 : PySem.W.keepIn K (.ref f13) = true)
    (a14 : PySem.W.nsIn K mainGlobals "_law_worth" = some (some (.ref f14))) (l14 : K.lookup f14 = some ⟨oc14, od14, .func (PySem.W.fnOf "_law_worth" "_law_worth" (defArgs s_law_worth) (defBody s_law_worth) (defScope s_law_worth) .none kV14 dc14 pm14 an14 cd14 ct14), sl14⟩) (c14 : PySem.W.codeIn K cd14 "_law_worth" = true) (k14 : PySem.W.keepIn K (.ref f14) = true)
    (a15 : PySem.W.nsIn K mainGlobals "_law_size" = some (some (.ref f15))) (l15 : K.lookup f15 = some ⟨oc15, od15, .func (PySem.W.fnOf "_law_size" "_law_size" (defArgs s_law_size) (defBody s_law_size) (defScope s_law_size) .none kV15 dc15 pm15 an15 cd15 ct15), sl15⟩) (c15 : PySem.W.codeIn K cd15 "_law_size" = true) (k15 : PySem.W.keepIn K (.ref f15) = true)
    (a16 : PySem.W.nsIn K mainGlobals "_law_told" = some (some (.ref f16))) (l16 : K.lookup f16 = some ⟨oc16, od16, .func (PySem.W.fnOf "_law_told" "_law_told" (defArgs s_law_told) (defBody s_law_told) (defScope s_law_told) .none kV16 dc16 pm16 an16 cd16 ct16), sl16⟩) (c16 : PySem.W.codeIn K cd16 "_law_told" = true) (k16 : PySem.W.keepIn K (.ref f16) = true)
    (a17 : PySem.W.nsIn K mainGlobals "_law_many" = some (some (.ref f17))) (l17 : K.lookup f17 = some ⟨oc17, od17, .func (PySem.W.fnOf "_law_many" "_law_many" (defArgs s_law_many) (defBody s_law_many) (defScope s_law_many) .none kV17 dc17 pm17 an17 cd17 ct17), sl17⟩) (c17 : PySem.W.codeIn K cd17 "_law_many" = true) (k17 : PySem.W.keepIn K (.ref f17) = true)
    (a18 : PySem.W.nsIn K mainGlobals "_law_hold" = some (some (.ref f18))) (l18 : K.lookup f18 = some ⟨oc18, od18, .func (PySem.W.fnOf "_law_hold" "_law_hold" (defArgs s_law_hold) (defBody s_law_hold) (defScope s_law_hold) .none kV18 dc18 pm18 an18 cd18 ct18), sl18⟩) (c18 : PySem.W.codeIn K cd18 "_law_hold" = true) (k18 : PySem.W.keepIn K (.ref f18) = true)
    (a19 : PySem.W.nsIn K mainGlobals "_law_field" = some (some (.ref f19))) (l19 : K.lookup f19 = some ⟨oc19, od19, .func (PySem.W.fnOf "_law_field" "_law_field" (defArgs s_law_field) (defBody s_law_field) (defScope s_law_field) .none kV19 dc19 pm19 an19 cd19 ct19), sl19⟩) (c19 : PySem.W.codeIn K cd19 "_law_field" = true) (k19 : PySem.W.keepIn K (.ref f19) = true)
    (a20 : PySem.W.nsIn K mainGlobals "_law_filled" = some (some (.ref f20))) (l20 : K.lookup f20 = some ⟨oc20, od20, .func (PySem.W.fnOf "_law_filled" "_law_filled" (defArgs s_law_filled) (defBody s_law_filled) (defScope s_law_filled) .none kV20 dc20 pm20 an20 cd20 ct20), sl20⟩) (c20 : PySem.W.codeIn K cd20 "_law_filled" = true) (k20 : PySem.W.keepIn K (.ref f20) = true)
    (a21 : PySem.W.nsIn K mainGlobals "_law_roots" = some (some (.ref f21))) (l21 : K.lookup f21 = some ⟨oc21, od21, .func (PySem.W.fnOf "_law_roots" "_law_roots" (defArgs s_law_roots) (defBody s_law_roots) (defScope s_law_roots) .none kV21 dc21 pm21 an21 cd21 ct21), sl21⟩) (c21 : PySem.W.codeIn K cd21 "_law_roots" = true) (k21 : PySem.W.keepIn K (.ref f21) = true)
    (a22 : PySem.W.nsIn K mainGlobals "_law_carted" = some (some (.ref f22))) (l22 : K.lookup f22 = some ⟨oc22, od22, .func (PySem.W.fnOf "_law_carted" "_law_carted" (defArgs s_law_carted) (defBody s_law_carted) (defScope s_law_carted) .none kV22 dc22 pm22 an22 cd22 ct22), sl22⟩) (c22 : PySem.W.codeIn K cd22 "_law_carted" = true) (k22 : PySem.W.keepIn K (.ref f22) = true)
    (a23 : PySem.W.nsIn K mainGlobals "_law_pairs" = some (some (.ref f23))) (l23 : K.lookup f23 = some ⟨oc23, od23, .func (PySem.W.fnOf "_law_pairs" "_law_pairs" (defArgs s_law_pairs) (defBody s_law_pairs) (defScope s_law_pairs) .none kV23 dc23 pm23 an23 cd23 ct23), sl23⟩) (c23 : PySem.W.codeIn K cd23 "_law_pairs" = true) (k23 : PySem.W.keepIn K (.ref f23) = true)
    (a24 : PySem.W.nsIn K mainGlobals "_law_free" = some (some (.ref f24))) (l24 : K.lookup f24 = some ⟨oc24, od24, .func (PySem.W.fnOf "_law_free" "_law_free" (defArgs s_law_free) (defBody s_law_free) (defScope s_law_free) .none kV24 dc24 pm24 an24 cd24 ct24), sl24⟩) (c24 : PySem.W.codeIn K cd24 "_law_free" = true) (k24 : PySem.W.keepIn K (.ref f24) = true)
    (a25 : PySem.W.nsIn K mainGlobals "_law_carted_once" = some (some (.ref f25))) (l25 : K.lookup f25 = some ⟨oc25, od25, .func (PySem.W.fnOf "_law_carted_once" "_law_carted_once" (defArgs s_law_carted_once) (defBody s_law_carted_once) (defScope s_law_carted_once) .none kV25 dc25 pm25 an25 cd25 ct25), sl25⟩) (c25 : PySem.W.codeIn K cd25 "_law_carted_once" = true) (k25 : PySem.W.keepIn K (.ref f25) = true)
    (a26 : PySem.W.findIn K (.ref C_Yard) "told" = some (some (.ref f26))) (i26 : PySem.W.isFn K (.ref f26) = true) (l26 : K.lookup f26 = some ⟨oc26, od26, .func (PySem.W.fnOf "told" "Yard.told" (defArgs s_Yard_told) (defBody s_Yard_told) (defScope s_Yard_told) .none kV26 dc26 pm26 an26 cd26 ct26), sl26⟩) (c26 : PySem.W.codeIn K cd26 "Yard.told" = true) (k26 : PySem.W.keepIn K (.ref f26) = true)
    (a27 : PySem.W.nsIn K mainGlobals "_law_deed" = some (some (.ref f27))) (l27 : K.lookup f27 = some ⟨oc27, od27, .func (PySem.W.fnOf "_law_deed" "_law_deed" (defArgs s_law_deed) (defBody s_law_deed) (defScope s_law_deed) .none kV27 dc27 pm27 an27 cd27 ct27), sl27⟩) (c27 : PySem.W.codeIn K cd27 "_law_deed" = true) (k27 : PySem.W.keepIn K (.ref f27) = true)
    (a28 : PySem.W.nsIn K mainGlobals "law" = some (some (.ref f28))) (l28 : K.lookup f28 = some ⟨oc28, od28, .func (PySem.W.fnOf "law" "law" (defArgs s_law) (defBody s_law) (defScope s_law) .none kV28 dc28 pm28 an28 cd28 ct28), sl28⟩) (c28 : PySem.W.codeIn K cd28 "law" = true) (k28 : PySem.W.keepIn K (.ref f28) = true)
    (z_range : PySem.W.nsIn K mainGlobals "range" = some none)
    (z_len : PySem.W.nsIn K mainGlobals "len" = some none)
    (z_abs : PySem.W.nsIn K mainGlobals "abs" = some none)
    (z_isinstance : PySem.W.nsIn K mainGlobals "isinstance" = some none)
    (z_int : PySem.W.nsIn K mainGlobals "int" = some none)
    (z_bool : PySem.W.nsIn K mainGlobals "bool" = some none)
    (z_list : PySem.W.nsIn K mainGlobals "list" = some none)
    (z_zip : PySem.W.nsIn K mainGlobals "zip" = some none)
    (z_tuple : PySem.W.nsIn K mainGlobals "tuple" = some none)
    (z_max : PySem.W.nsIn K mainGlobals "max" = some none)
    (z_sum : PySem.W.nsIn K mainGlobals "sum" = some none)
    (a_Yard : PySem.W.nsIn K mainGlobals "Yard" = some (some (.ref C_Yard)))
    (a_NoThing : PySem.W.nsIn K mainGlobals "NoThing" = some (some (.ref C_NoThing)))
    (a_NoSpot : PySem.W.nsIn K mainGlobals "NoSpot" = some (some (.ref C_NoSpot)))
    (x1_NoThing : PySem.W.excIn K C_NoThing [.type "ValueError", .type "Exception", .type "BaseException", .type "object"] "ValueError.__new__" = true)
    (x2_NoThing : PySem.W.keepIn K (.ref C_NoThing) = true)
    (x3_NoThing : PySem.W.subIn K (.ref C_NoThing) (.type "BaseException") = some true)
    (x4_NoThing : PySem.W.typeIn K (.ref C_NoThing) = some (.type "type"))
    (x1_NoSpot : PySem.W.excIn K C_NoSpot [.type "ValueError", .type "Exception", .type "BaseException", .type "object"] "ValueError.__new__" = true)
    (x2_NoSpot : PySem.W.keepIn K (.ref C_NoSpot) = true)
    (x3_NoSpot : PySem.W.subIn K (.ref C_NoSpot) (.type "BaseException") = some true)
    (x4_NoSpot : PySem.W.typeIn K (.ref C_NoSpot) = some (.type "type"))
    (pg_Yard : PySem.W.plainGet K C_Yard Str.empty = true)
    (hd_Yard : PySem.W.hasDictIn K C_Yard = true)
    (po_Yard : PySem.W.plainOver K C_Yard = true)
    (sa_Yard : PySem.W.findIn K (.ref C_Yard) "__setattr__" = some (some (.builtin "object.__setattr__")))
    (mk_Yard : PySem.W.makesIn K C_Yard = true)
    (kc_Yard : PySem.W.keepIn K (.ref C_Yard) = true)
    (n_Yard_start : PySem.W.findIn K (.ref C_Yard) "start" = some none)
    (n_Yard_free : PySem.W.findIn K (.ref C_Yard) "free" = some none)
    (n_Yard_words : PySem.W.findIn K (.ref C_Yard) "words" = some none)
    (n_Yard_begun : PySem.W.findIn K (.ref C_Yard) "begun" = some none)
    : DefAt K mg "law" s_law ["script"] ∧ ∀ (base : Heap) (f : Addr) (fd : FuncData), Fun K "law" "law" s_law f fd → FnOk l.prog w K mg base (L2.CX l.prog w) 6 f fd ["script"] (spU K (clN K) 1 F_law) := by
  have g_Yard : mg "Yard" = some (.ref C_Yard) := PySem.W.mg_of X G a_Yard
  have g_NoThing : mg "NoThing" = some (.ref C_NoThing) := PySem.W.mg_of X G a_NoThing
  have g_NoSpot : mg "NoSpot" = some (.ref C_NoSpot) := PySem.W.mg_of X G a_NoSpot
  have cx_NoThing : clN K [78, 111, 84, 104, 105, 110, 103] = some C_NoThing := clN_of a_NoThing (by decide) (by decide +kernel)
  have x_NoThing : XRaise K mg (clN K) "NoThing" [78, 111, 84, 104, 105, 110, 103] C_NoThing := ⟨g_NoThing, cx_NoThing, x1_NoThing, x2_NoThing, x3_NoThing, x4_NoThing⟩
  have cx_NoSpot : clN K [78, 111, 83, 112, 111, 116] = some C_NoSpot := clN_of a_NoSpot (by decide) (by decide +kernel)
  have x_NoSpot : XRaise K mg (clN K) "NoSpot" [78, 111, 83, 112, 111, 116] C_NoSpot := ⟨g_NoSpot, cx_NoSpot, x1_NoSpot, x2_NoSpot, x3_NoSpot, x4_NoSpot⟩
  have cx_Yard : clN K [89, 97, 114, 100] = some C_Yard := clN_of a_Yard (by decide) (by decide +kernel)
  have T_Yard : ClsT K (clN K) [89, 97, 114, 100] fs_Yard C_Yard := ⟨by decide, cx_Yard, ⟨pg_Yard, hd_Yard, po_Yard, sa_Yard⟩, fun f hf => by
    simp only [List.mem_cons, List.not_mem_nil, or_false] at hf
    rcases hf with rfl | rfl | rfl | rfl
    · exact n_Yard_start
    · exact n_Yard_free
    · exact n_Yard_words
    · exact n_Yard_begun
    ⟩
  have m_range := PySem.W.mg_none_of X G z_range
  have m_len := PySem.W.mg_none_of X G z_len
  have m_abs := PySem.W.mg_none_of X G z_abs
  have m_isinstance := PySem.W.mg_none_of X G z_isinstance
  have m_int := PySem.W.mg_none_of X G z_int
  have m_bool := PySem.W.mg_none_of X G z_bool
  have m_list := PySem.W.mg_none_of X G z_list
  have m_zip := PySem.W.mg_none_of X G z_zip
  have m_tuple := PySem.W.mg_none_of X G z_tuple
  have m_max := PySem.W.mg_none_of X G z_max
  have m_sum := PySem.W.mg_none_of X G z_sum
  have d_head : DefAt K mg "head" s_head ["h", "m"] := def_mk X G a0 l0 c0 k0 fun _ _ _ _ _ _ us hl => match us, hl with | [_, _], _ => rfl
  have d_head_parts : DefAt K mg "head_parts" s_head_parts ["word"] := def_mk X G a1 l1 c1 k1 fun _ _ _ _ _ _ us hl => match us, hl with | [_], _ => rfl
  have Fn_Yard_size_of := fun_mk (st := s_Yard_size_of) l2 c2 k2
  have bn_Yard_size_of := Fn_Yard_size_of.binds (ps := ["self", "at"]) fun _ _ _ _ _ _ us hl => match us, hl with | [_, _], _ => rfl
  have Fn_Yard_make := fun_mk (st := s_Yard_make) l3 c3 k3
  have bn_Yard_make := Fn_Yard_make.binds (ps := ["self", "h", "m"]) fun _ _ _ _ _ _ us hl => match us, hl with | [_, _, _], _ => rfl
  have Fn_Yard_set_word := fun_mk (st := s_Yard_set_word) l4 c4 k4
  have bn_Yard_set_word := Fn_Yard_set_word.binds (ps := ["self", "spot", "word"]) fun _ _ _ _ _ _ us hl => match us, hl with | [_, _, _], _ => rfl
  have Fn_Yard_word := fun_mk (st := s_Yard_word) l5 c5 k5
  have bn_Yard_word := Fn_Yard_word.binds (ps := ["self", "spot"]) fun _ _ _ _ _ _ us hl => match us, hl with | [_, _], _ => rfl
  have d_laid : DefAt K mg "laid" s_laid ["yard", "there", "moved", "pairs", "hold"] := def_mk X G a6 l6 c6 k6 fun _ _ _ _ _ _ us hl => match us, hl with | [_, _, _, _, _], _ => rfl
  have Fn_Yard___init__ := fun_mk (st := s_Yard___init__) l7 c7 k7
  have bn_Yard___init__ := Fn_Yard___init__.binds (ps := ["self", "start"]) fun _ _ _ _ _ _ us hl => match us, hl with | [_, _], _ => rfl
  have d_carted : DefAt K mg "carted" s_carted ["yard", "roots"] := def_mk X G a8 l8 c8 k8 fun _ _ _ _ _ _ us hl => match us, hl with | [_, _], _ => rfl
  have d_law_bag : DefAt K mg "_law_bag" s_law_bag ["script"] := def_mk X G a9 l9 c9 k9 fun _ _ _ _ _ _ us hl => match us, hl with | [_], _ => rfl
  have d_law_draw : DefAt K mg "_law_draw" s_law_draw ["bag", "many"] := def_mk X G a10 l10 c10 k10 fun _ _ _ _ _ _ us hl => match us, hl with | [_, _], _ => rfl
  have d_law_more : DefAt K mg "_law_more" s_law_more ["bag"] := def_mk X G a11 l11 c11 k11 fun _ _ _ _ _ _ us hl => match us, hl with | [_], _ => rfl
  have d_law_whole : DefAt K mg "_law_whole" s_law_whole ["found"] := def_mk X G a12 l12 c12 k12 fun _ _ _ _ _ _ us hl => match us, hl with | [_], _ => rfl
  have d_law_start : DefAt K mg "_law_start" s_law_start ["bag"] := def_mk X G a13 l13 c13 k13 fun _ _ _ _ _ _ us hl => match us, hl with | [_], _ => rfl
  have d_law_worth : DefAt K mg "_law_worth" s_law_worth ["bag"] := def_mk X G a14 l14 c14 k14 fun _ _ _ _ _ _ us hl => match us, hl with | [_], _ => rfl
  have d_law_size : DefAt K mg "_law_size" s_law_size ["bag"] := def_mk X G a15 l15 c15 k15 fun _ _ _ _ _ _ us hl => match us, hl with | [_], _ => rfl
  have d_law_told : DefAt K mg "_law_told" s_law_told ["found", "things"] := def_mk X G a16 l16 c16 k16 fun _ _ _ _ _ _ us hl => match us, hl with | [_, _], _ => rfl
  have d_law_many : DefAt K mg "_law_many" s_law_many ["bag"] := def_mk X G a17 l17 c17 k17 fun _ _ _ _ _ _ us hl => match us, hl with | [_], _ => rfl
  have d_law_hold : DefAt K mg "_law_hold" s_law_hold ["bag", "things", "k", "chain"] := def_mk X G a18 l18 c18 k18 fun _ _ _ _ _ _ us hl => match us, hl with | [_, _, _, _], _ => rfl
  have d_law_field : DefAt K mg "_law_field" s_law_field ["yard", "things", "k", "j", "worth"] := def_mk X G a19 l19 c19 k19 fun _ _ _ _ _ _ us hl => match us, hl with | [_, _, _, _, _], _ => rfl
  have d_law_filled : DefAt K mg "_law_filled" s_law_filled ["bag", "yard"] := def_mk X G a20 l20 c20 k20 fun _ _ _ _ _ _ us hl => match us, hl with | [_, _], _ => rfl
  have d_law_roots : DefAt K mg "_law_roots" s_law_roots ["bag", "things"] := def_mk X G a21 l21 c21 k21 fun _ _ _ _ _ _ us hl => match us, hl with | [_, _], _ => rfl
  have d_law_carted : DefAt K mg "_law_carted" s_law_carted ["things", "roots", "free"] := def_mk X G a22 l22 c22 k22 fun _ _ _ _ _ _ us hl => match us, hl with | [_, _, _], _ => rfl
  have d_law_pairs : DefAt K mg "_law_pairs" s_law_pairs ["found", "due"] := def_mk X G a23 l23 c23 k23 fun _ _ _ _ _ _ us hl => match us, hl with | [_, _], _ => rfl
  have d_law_free : DefAt K mg "_law_free" s_law_free ["start", "things"] := def_mk X G a24 l24 c24 k24 fun _ _ _ _ _ _ us hl => match us, hl with | [_, _], _ => rfl
  have d_law_carted_once : DefAt K mg "_law_carted_once" s_law_carted_once ["bag", "house"] := def_mk X G a25 l25 c25 k25 fun _ _ _ _ _ _ us hl => match us, hl with | [_, _], _ => rfl
  have Fn_Yard_told := fun_mk (st := s_Yard_told) l26 c26 k26
  have bn_Yard_told := Fn_Yard_told.binds (ps := ["self"]) fun _ _ _ _ _ _ us hl => match us, hl with | [_], _ => rfl
  have d_law_deed : DefAt K mg "_law_deed" s_law_deed ["bag", "house", "way"] := def_mk X G a27 l27 c27 k27 fun _ _ _ _ _ _ us hl => match us, hl with | [_, _, _], _ => rfl
  have d_law : DefAt K mg "law" s_law ["script"] := def_mk X G a28 l28 c28 k28 fun _ _ _ _ _ _ us hl => match us, hl with | [_], _ => rfl
  refine ⟨d_law, fun base f fd F => ?_⟩
  have h_head := ok_head (P := l.prog) (w := w) (base := base) (cl := clN K) d_head 
  have h_head_parts := ok_head_parts (P := l.prog) (w := w) (base := base) (cl := clN K) d_head_parts 
  have h_Yard_size_of : OkM l.prog w K mg base (clN K) 2 C_Yard "size_of" ["self", "at"] F_Yard_size_of := ⟨f2, _, ⟨a2, i2, k2⟩, bn_Yard_size_of, ok_Yard_size_of h_head_parts g_Yard g_NoThing x_NoThing T_Yard Fn_Yard_size_of⟩
  clear Fn_Yard_size_of bn_Yard_size_of
  have h_Yard_make : OkM l.prog w K mg base (clN K) 2 C_Yard "make" ["self", "h", "m"] F_Yard_make := ⟨f3, _, ⟨a3, i3, k3⟩, bn_Yard_make, ok_Yard_make h_head g_Yard T_Yard Fn_Yard_make⟩
  clear Fn_Yard_make bn_Yard_make
  have h_Yard_set_word : OkM l.prog w K mg base (clN K) 1 C_Yard "set_word" ["self", "spot", "word"] F_Yard_set_word := ⟨f4, _, ⟨a4, i4, k4⟩, bn_Yard_set_word, ok_Yard_set_word g_Yard g_NoSpot x_NoSpot T_Yard Fn_Yard_set_word⟩
  clear Fn_Yard_set_word bn_Yard_set_word
  have h_Yard_word : OkM l.prog w K mg base (clN K) 1 C_Yard "word" ["self", "spot"] F_Yard_word := ⟨f5, _, ⟨a5, i5, k5⟩, bn_Yard_word, ok_Yard_word g_Yard g_NoSpot x_NoSpot T_Yard Fn_Yard_word⟩
  clear Fn_Yard_word bn_Yard_word
  have h_laid := ok_laid (P := l.prog) (w := w) (base := base) (cl := clN K) d_laid h_Yard_size_of h_Yard_make h_Yard_set_word h_Yard_word m_range g_Yard T_Yard
  have h_Yard___init__ : OkC l.prog w K mg base (clN K) 1 C_Yard ["self", "start"] F_Yard___init__ := ⟨f7, _, ⟨mk_Yard, a7, i7, kc_Yard⟩, bn_Yard___init__, ok_Yard___init__ g_Yard T_Yard Fn_Yard___init__⟩
  clear Fn_Yard___init__ bn_Yard___init__
  have h_carted := ok_carted (P := l.prog) (w := w) (base := base) (cl := clN K) d_carted h_Yard___init__ h_laid h_Yard_size_of h_Yard_set_word h_Yard_word m_len m_range g_Yard T_Yard
  have h_law_bag := ok_law_bag (P := l.prog) (w := w) (base := base) (cl := clN K) d_law_bag m_abs
  have h_law_draw := ok_law_draw (P := l.prog) (w := w) (base := base) (cl := clN K) d_law_draw m_len
  have h_law_more := ok_law_more (P := l.prog) (w := w) (base := base) (cl := clN K) d_law_more m_len
  have h_law_whole := ok_law_whole (P := l.prog) (w := w) (base := base) (cl := clN K) d_law_whole m_isinstance m_int m_bool
  have h_law_start := ok_law_start (P := l.prog) (w := w) (base := base) (cl := clN K) d_law_start h_law_draw
  have h_law_worth := ok_law_worth (P := l.prog) (w := w) (base := base) (cl := clN K) d_law_worth h_law_draw
  have h_law_size := ok_law_size (P := l.prog) (w := w) (base := base) (cl := clN K) d_law_size h_law_draw
  have h_law_told := ok_law_told (P := l.prog) (w := w) (base := base) (cl := clN K) d_law_told h_law_whole m_isinstance m_list m_len m_zip m_tuple
  have h_law_many := ok_law_many (P := l.prog) (w := w) (base := base) (cl := clN K) d_law_many h_law_draw
  have h_law_hold := ok_law_hold (P := l.prog) (w := w) (base := base) (cl := clN K) d_law_hold h_law_draw m_len
  have h_law_field := ok_law_field (P := l.prog) (w := w) (base := base) (cl := clN K) d_law_field h_Yard_set_word m_len g_Yard T_Yard
  have h_law_filled := ok_law_filled (P := l.prog) (w := w) (base := base) (cl := clN K) d_law_filled h_law_many h_law_draw h_law_size h_Yard_make h_law_field h_law_hold h_law_worth m_range m_max m_int m_len g_Yard T_Yard
  have h_law_roots := ok_law_roots (P := l.prog) (w := w) (base := base) (cl := clN K) d_law_roots h_law_draw h_law_hold m_range
  have h_law_carted := ok_law_carted (P := l.prog) (w := w) (base := base) (cl := clN K) d_law_carted m_list m_len
  have h_law_pairs := ok_law_pairs (P := l.prog) (w := w) (base := base) (cl := clN K) d_law_pairs h_law_whole m_isinstance m_list m_len
  have h_law_free := ok_law_free (P := l.prog) (w := w) (base := base) (cl := clN K) d_law_free m_sum m_len
  have h_law_carted_once := ok_law_carted_once (P := l.prog) (w := w) (base := base) (cl := clN K) d_law_carted_once h_law_roots h_law_carted h_carted h_law_pairs m_list m_isinstance m_tuple m_len
  have h_Yard_told : OkM l.prog w K mg base (clN K) 3 C_Yard "told" ["self"] F_Yard_told := ⟨f26, _, ⟨a26, i26, k26⟩, bn_Yard_told, ok_Yard_told h_Yard_size_of m_tuple g_Yard T_Yard Fn_Yard_told⟩
  clear Fn_Yard_told bn_Yard_told
  have h_law_deed := ok_law_deed (P := l.prog) (w := w) (base := base) (cl := clN K) d_law_deed h_law_size h_Yard_make h_law_draw h_law_field h_law_hold h_law_worth h_Yard_told h_law_told m_len g_Yard T_Yard
  exact ok_law h_law_bag h_law_start h_Yard___init__ h_law_filled h_law_free h_law_more h_law_draw h_law_carted_once h_law_deed h_law_told h_Yard_told m_range m_len g_Yard T_Yard F
end Lw

namespace Lw
open PySem PySem.Spec PyProof.Rows L2 VL
/-! things in a yard: plain words -/
abbrev Th := List Int × List Int
def sz (t : Th) : Int := 1 + t.1.length + t.2.length
def tot : List Th → Int
  | [] => 0
  | t :: r => sz t + tot r
def hdw (t : Th) : Int := 16 * t.1.length + t.2.length
def wordsOf : List Th → List Int
  | [] => []
  | t :: r => hdw t :: (t.1 ++ t.2 ++ wordsOf r)
def atsOf : Int → List Th → List Int
  | _, [] => []
  | s, t :: r => s :: atsOf (s + sz t) r
theorem sz_pos (t : Th) : 1 ≤ sz t := by unfold sz; omega
theorem tot_nn : ∀ l : List Th, 0 ≤ tot l
  | [] => Int.le_refl _
  | t :: r => by have := tot_nn r; have := sz_pos t; unfold tot; omega
theorem tot_app : ∀ l r : List Th, tot (l ++ r) = tot l + tot r
  | [], r => by show tot r = 0 + tot r; omega
  | t :: l, r => by show sz t + tot (l ++ r) = sz t + tot l + tot r; rw [tot_app l r]; omega
theorem words_app : ∀ l r : List Th, wordsOf (l ++ r) = wordsOf l ++ wordsOf r
  | [], r => rfl
  | t :: l, r => by show hdw t :: (t.1 ++ t.2 ++ wordsOf (l ++ r)) = hdw t :: (t.1 ++ t.2 ++ wordsOf l) ++ wordsOf r; rw [words_app l r]; simp
theorem words_len : ∀ l : List Th, ((wordsOf l).length : Int) = tot l
  | [] => rfl
  | t :: r => by
    have := words_len r
    unfold wordsOf tot sz
    rw [List.length_cons, List.length_append, List.length_append]
    omega
theorem ats_app : ∀ (l r : List Th) (s : Int), atsOf s (l ++ r) = atsOf s l ++ atsOf (s + tot l) r
  | [], r, s => by show atsOf s r = [] ++ atsOf (s + 0) r; rw [Int.add_zero]; rfl
  | t :: l, r, s => by
    show s :: atsOf (s + sz t) (l ++ r) = s :: atsOf (s + sz t) l ++ atsOf (s + (sz t + tot l)) r
    rw [ats_app l r, ← Int.add_assoc]; rfl
theorem ats_len : ∀ (l : List Th) (s : Int), (atsOf s l).length = l.length
  | [], _ => rfl
  | t :: r, s => by show (atsOf (s + sz t) r).length + 1 = _; rw [ats_len r]; rfl
theorem ats_mem : ∀ {l : List Th} {s x : Int}, x ∈ atsOf s l → s ≤ x ∧ x < s + tot l
  | [], _, _, h => (List.not_mem_nil h).elim
  | t :: r, s, x, h => by
    have := sz_pos t
    have := tot_nn r
    unfold tot
    rcases List.mem_cons.mp h with rfl | h
    · omega
    · have := ats_mem h
      omega
theorem view : ∀ (ths : List Th) (s x : Int), (x < s ∨ s + tot ths ≤ x) ∨ ∃ l t r, ths = l ++ t :: r ∧ s + tot l ≤ x ∧ x < s + tot l + sz t
  | [], s, x => .inl (by unfold tot; omega)
  | t :: r, s, x => by
    by_cases h1 : x < s
    · exact .inl (.inl h1)
    · by_cases h2 : x < s + sz t
      · exact .inr ⟨[], t, r, rfl, by unfold tot; omega, by unfold tot; omega⟩
      · rcases view r (s + sz t) x with h | ⟨l, t', r', rfl, h3, h4⟩
        · refine .inl (.inr ?_)
          unfold tot
          omega
        · exact .inr ⟨t :: l, t', r', rfl, by unfold tot; omega, by unfold tot; omega⟩
section
variable {l r : List Th} {t : Th} {s x : Int}
theorem word_at (h1 : s + tot l ≤ x) (h2 : x < s + tot l + sz t) : (wordsOf (l ++ t :: r))[(x - s).toNat]? = (hdw t :: (t.1 ++ t.2))[(x - s - tot l).toNat]? := by
  have hl := words_len l
  have h0 := tot_nn l
  rw [words_app, List.getElem?_append_right (by omega)]
  have e : (x - s).toNat - (wordsOf l).length = (x - s - tot l).toNat := by omega
  rw [e]
  show (hdw t :: (t.1 ++ t.2 ++ wordsOf r))[_]? = _
  have : (hdw t :: (t.1 ++ t.2 ++ wordsOf r)) = (hdw t :: (t.1 ++ t.2)) ++ wordsOf r := rfl
  rw [this, List.getElem?_append_left]
  rw [List.length_cons, List.length_append]
  unfold sz at h2
  omega
theorem word_set {v : Int} (h1 : s + tot l ≤ x) (h2 : x < s + tot l + sz t) : (wordsOf (l ++ t :: r)).set (x - s).toNat v = wordsOf l ++ ((hdw t :: (t.1 ++ t.2)).set (x - s - tot l).toNat v ++ wordsOf r) := by
  have hl := words_len l
  have h0 := tot_nn l
  rw [words_app, List.set_append_right _ _ (by omega)]
  have e : (x - s).toNat - (wordsOf l).length = (x - s - tot l).toNat := by omega
  rw [e]
  have : wordsOf (t :: r) = (hdw t :: (t.1 ++ t.2)) ++ wordsOf r := rfl
  rw [this, List.set_append_left]
  rw [List.length_cons, List.length_append]
  unfold sz at h2
  omega
theorem ats_no (h1 : s + tot l < x) (h2 : x < s + tot l + sz t) : x ∉ atsOf s (l ++ t :: r) := fun h => by
  rw [ats_app] at h
  rcases List.mem_append.mp h with h | h
  · have := ats_mem h; omega
  · rcases List.mem_cons.mp h with h | h
    · omega
    · have := ats_mem h; omega
theorem ats_yes : s + tot l ∈ atsOf s (l ++ t :: r) := by
  rw [ats_app]
  exact List.mem_append_right _ (List.mem_cons_self ..)
end
/-! the yard in the store -/
def yO (s f : Int) (w b : Nat) : MO := .ins [89, 97, 114, 100] fs_Yard [.int s, .int f, .ob w, .ob b]
structure Yd (M : List MO) (y w b : Nat) (s : Int) (ths : List Th) : Prop where
  y : M[y]? = some (yO s (s + tot ths) w b)
  w : M[w]? = some (.lst ((wordsOf ths).map .int))
  b : M[b]? = some (.dic ((atsOf s ths).map .int) (ths.map fun _ => .bl true))
theorem ar (h m : Int) (h0 : 0 ≤ h) (h9 : h < 10) (m0 : 0 ≤ m) (m9 : m < 10) : shlF h 4 = some (16 * h) ∧ orF (16 * h) m = some (16 * h + m) ∧ shrF (16 * h + m) 4 = some h ∧ andF (16 * h + m) 15 = some m := by
  have q : ∀ a b : Fin 10, shlF (a.val : Int) 4 = some (16 * (a.val : Int)) ∧ orF (16 * (a.val : Int)) (b.val : Int) = some (16 * (a.val : Int) + (b.val : Int)) ∧ shrF (16 * (a.val : Int) + (b.val : Int)) 4 = some (a.val : Int) ∧ andF (16 * (a.val : Int) + (b.val : Int)) 15 = some (b.val : Int) := by decide +kernel
  obtain ⟨a, ha⟩ : ∃ a : Fin 10, (a.val : Int) = h := ⟨⟨h.toNat, by omega⟩, by simp; omega⟩
  obtain ⟨b, hb⟩ : ∃ b : Fin 10, (b.val : Int) = m := ⟨⟨m.toNat, by omega⟩, by simp; omega⟩
  rw [← ha, ← hb]
  exact q a b
theorem head_ok {h m : Int} {M : List MO} (h0 : 0 ≤ h) (h9 : h < 10) (m0 : 0 ≤ m) (m9 : m < 10) : F_head [.int h, .int m] M = some (.ok (.int (16 * h + m)), M) := by
  obtain ⟨a1, a2, _⟩ := ar h m h0 h9 m0 m9
  simp [F_head, B_head, e_fn, a1, a2]
theorem parts_ok {h m : Int} {M : List MO} (h0 : 0 ≤ h) (h9 : h < 10) (m0 : 0 ≤ m) (m9 : m < 10) : F_head_parts [.int (16 * h + m)] M = some (.ok (.tup [.int h, .int m]), M) := by
  obtain ⟨_, _, a3, a4⟩ := ar h m h0 h9 m0 m9
  simp [F_head_parts, B_head_parts, e_fn, a3, a4, LIM, -e_shrF]
theorem whole_ok {i : Int} {M : List MO} : F_law_whole [.int i] M = some (.ok (.bl true), M) := by
  simp [F_law_whole, B_law_whole, e_fn, TyD.isa]
section
variable {M : List MO} {y w b : Nat} {s : Int} {ths : List Th}
theorem word_in (Y : Yd M y w b s ths) {x v : Int} (h1 : s ≤ x) (h2 : (wordsOf ths)[(x - s).toNat]? = some v) : F_Yard_word [.ob y, .int x] M = some (.ok (.int v), M) := by
  have h3 := (List.getElem?_eq_some_iff.mp h2).1
  have hl := words_len ths
  have c1 : decide (s ≤ x) = true := decide_eq_true h1
  have c2 : decide (x < s + tot ths) = true := decide_eq_true (by omega)
  have e : atI ((wordsOf ths).map D.int) (x - s) = some (.int v) := by
    rw [atI_nn (by omega), List.getElem?_map, h2]; rfl
  simp [F_Yard_word, B_Yard_word, e_fn, Y.y, Y.w, yO, lookF, chainC, e, show s ≤ x from h1, show x < s + tot ths by omega]
theorem word_out (Y : Yd M y w b s ths) {x : Int} (h : x < s ∨ s + tot ths ≤ x) : F_Yard_word [.ob y, .int x] M = some (.ex [78, 111, 83, 112, 111, 116], M) := by
  rcases h with h | h
  · simp [F_Yard_word, B_Yard_word, e_fn, Y.y, yO, lookF, chainC, show ¬ s ≤ x by omega]
  · by_cases hs : s ≤ x
    · simp [F_Yard_word, B_Yard_word, e_fn, Y.y, yO, lookF, chainC, hs, show ¬ x < s + tot ths by omega]
    · simp [F_Yard_word, B_Yard_word, e_fn, Y.y, yO, lookF, chainC, hs]
theorem set_in (Y : Yd M y w b s ths) {x v : Int} (h1 : s ≤ x) (h2 : x < s + tot ths) (h3 : x ∉ atsOf s ths) : F_Yard_set_word [.ob y, .int x, .int v] M = some (.ok .non, M.set w (.lst (((wordsOf ths).set (x - s).toNat v).map .int))) := by
  have hl := words_len ths
  have e : ixN (wordsOf ths).length (x - s) = some (x - s).toNat := ixN_nn (by omega) (by omega)
  simp [F_Yard_set_word, B_Yard_set_word, e_fn, Y.y, Y.w, Y.b, yO, lookF, chainC, any_int', e, h1, h2, h3, List.map_set]
theorem set_out (Y : Yd M y w b s ths) {x v : Int} (h : (x < s ∨ s + tot ths ≤ x) ∨ x ∈ atsOf s ths) : F_Yard_set_word [.ob y, .int x, .int v] M = some (.ex [78, 111, 83, 112, 111, 116], M) := by
  by_cases h1 : s ≤ x
  · by_cases h2 : x < s + tot ths
    · have h3 : x ∈ atsOf s ths := by
        rcases h with h | h
        · omega
        · exact h
      simp [F_Yard_set_word, B_Yard_set_word, e_fn, Y.y, Y.w, Y.b, yO, lookF, chainC, any_int', h1, h2, h3]
    · simp [F_Yard_set_word, B_Yard_set_word, e_fn, Y.y, Y.w, Y.b, yO, lookF, chainC, h1, h2]
  · simp [F_Yard_set_word, B_Yard_set_word, e_fn, Y.y, Y.w, Y.b, yO, lookF, chainC, h1]
def tok (t : Th) : Prop := t.1.length < 10 ∧ t.2.length < 10
theorem size_ok {l r : List Th} {t : Th} {f : Int} {ks : List Int} {vs : List D} (ht : tok t) (h1 : M[y]? = some (yO s f w b)) (h2 : M[w]? = some (.lst ((wordsOf (l ++ t :: r)).map .int))) (h3 : M[b]? = some (.dif (ks.map .int) vs)) (h4 : s + tot l ∈ ks) :
    F_Yard_size_of [.ob y, .int (s + tot l)] M = some (.ok (.tup [.int t.1.length, .int t.2.length]), M) := by
  have e0 := word_at (l := l) (t := t) (r := r) (s := s) (x := s + tot l) (Int.le_refl _) (by have := sz_pos t; omega)
  have z : (s + tot l - s - tot l).toNat = 0 := by omega
  rw [z] at e0
  have e : atI ((wordsOf (l ++ t :: r)).map D.int) (s + tot l - s) = some (.int (hdw t)) := by
    have := tot_nn l
    rw [atI_nn (by omega), List.getElem?_map, e0]; rfl
  have e2 := parts_ok (M := M) (h := t.1.length) (m := t.2.length) (by omega) (by have := ht.1; omega) (by omega) (by have := ht.2; omega)
  simp [F_Yard_size_of, B_Yard_size_of, e_fn, h1, h2, h3, yO, lookF, any_int', e, h4, hdw, e2]
def toldD : Int → List Th → List D
  | _, [] => []
  | s, t :: r => .tup [.int s, .tup (t.1.map .int), .tup (t.2.map .int)] :: toldD (s + sz t) r
theorem toldD_app : ∀ (l : List Th) (t : Th) (s : Int), toldD s (l ++ [t]) = toldD s l ++ [.tup [.int (s + tot l), .tup (t.1.map .int), .tup (t.2.map .int)]]
  | [], t, s => by show [_] = [] ++ [_]; unfold tot; rw [Int.add_zero]; rfl
  | a :: l, t, s => by
    show _ :: toldD (s + sz a) (l ++ [t]) = _ :: (toldD (s + sz a) l ++ _)
    rw [toldD_app l t, Int.add_assoc]
    rfl
theorem toldD_len : ∀ (l : List Th) (s : Int), (toldD s l).length = l.length
  | [], _ => rfl
  | t :: r, s => by show (toldD (s + sz t) r).length + 1 = _; rw [toldD_len r]; rfl
theorem cut_mid {α : Type} (a m c : List α) {i j : Int} (hi : i = a.length) (hj : j = a.length + m.length) : cutL (a ++ (m ++ c)) (some i) (some j) = m := by
  subst hi hj
  have e1 : HT.sIx (a ++ (m ++ c)).length 0 (some (a.length : Int)) = a.length := by
    unfold HT.sIx
    simp only [List.length_append]
    rw [if_neg (by omega)]; omega
  have e2 : HT.sIx (a ++ (m ++ c)).length (a ++ (m ++ c)).length (some ((a.length : Int) + m.length)) = a.length + m.length := by
    unfold HT.sIx
    simp only [List.length_append]
    rw [if_neg (by omega)]; omega
  unfold cutL
  rw [e1, e2, List.drop_left, Nat.add_sub_cancel_left, List.take_left]
theorem told_ok (Y : Yd M y w b s ths) (hyb : y ≠ b) (hwb : w ≠ b) (ht : ∀ t ∈ ths, tok t) (hl : ths.length < 1000) : F_Yard_told [.ob y] M = some (.ok (.ob M.length), M ++ [.lst (toldD s ths)]) := by
  have hb := (List.getElem?_eq_some_iff.mp Y.b).1
  have hM1y : (M.set b (.dif ((atsOf s ths).map .int) (ths.map fun _ => .bl true)))[y]? = some (yO s (s + tot ths) w b) := by rw [List.getElem?_set_ne (Ne.symm hyb)]; exact Y.y
  have hM1w : (M.set b (.dif ((atsOf s ths).map .int) (ths.map fun _ => .bl true)))[w]? = some (.lst ((wordsOf ths).map .int)) := by rw [List.getElem?_set_ne (Ne.symm hwb)]; exact Y.w
  have hM1b : (M.set b (.dif ((atsOf s ths).map .int) (ths.map fun _ => .bl true)))[b]? = some (.dif ((atsOf s ths).map .int) (ths.map fun _ => .bl true)) := List.getElem?_set_self hb
  have hback : (M.set b (.dif ((atsOf s ths).map .int) (ths.map fun _ => .bl true))).set b (.dic ((atsOf s ths).map .int) (ths.map fun _ => .bl true)) = M := by
    rw [List.set_set]
    exact List.ext_getElem? fun n => by
      by_cases hn : b = n
      · subst hn
        rw [List.getElem?_set_self hb, Y.b]
      · rw [List.getElem?_set_ne hn]
  generalize hM1 : M.set b (.dif ((atsOf s ths).map .int) (ths.map fun _ => .bl true)) = M1 at hM1y hM1w hM1b hback
  obtain ⟨s', e1, x2, x3, x4, x5, l, r, h1, h2, rfl⟩ := forL_thru (t := .one 2) (ds := (atsOf s ths).map D.int) (st := ⟨[.v (.ob y), .own (.lst []), .un, .un, .un, .un], M1⟩)
    (body := seqS (asgT (.all [4, 5]) (methE 2 F_Yard_size_of [89, 97, 114, 100] [115, 105, 122, 101, 95, 111, 102] (rawV 0) (consA (varV 2) nilA)))
  (seqS (asgV 3 (valN (bin2 addF (opdC (numC subF (varV 2) (valO (fldE (rawV 0) [89, 97, 114, 100] [115, 116, 97, 114, 116])))) (opdC (pureC (.int 1))))))
  (exprS (appE (rawV 1) (tupE (consA (varV 2) (consA (valN (un1 tupF (opdC (valN (slE (fldE (rawV 0) [89, 97, 114, 100] [119, 111, 114, 100, 115]) (partS (varV 3)) (partS (valN (bin2 addF (rawV 3) (rawV 4))))))))) (consA (valN (un1 tupF (opdC (valN (slE (fldE (rawV 0) [89, 97, 114, 100] [119, 111, 114, 100, 115]) (partS (valN (bin2 addF (rawV 3) (rawV 4)))) (partS (valN (bin2 addF (opdC (valN (bin2 addF (rawV 3) (rawV 4)))) (rawV 5))))))))) nilA))))))))
    (fun i st => ∃ (x2 x3 x4 x5 : Cell) (l r : List Th), ths = l ++ r ∧ l.length = i ∧ st = ⟨[.v (.ob y), .own (.lst (toldD s l)), x2, x3, x4, x5], M1⟩) ⟨.un, .un, .un, .un, [], ths, rfl, rfl, rfl⟩ (by
      rintro i d st hd ⟨x2, x3, x4, x5, l, r, h1, h2, rfl⟩
      have hi : i < (atsOf s ths).length := by
        have := (List.getElem?_eq_some_iff.mp hd).1
        rwa [List.length_map] at this
      cases r with
      | nil =>
        rw [List.append_nil] at h1
        subst h1
        rw [ats_len] at hi
        omega
      | cons t r =>
        have hat : (atsOf s ths)[i]? = some (s + tot l) := by
          rw [h1, ats_app, List.getElem?_append_right (by rw [ats_len]; omega), ats_len, h2, Nat.sub_self]; rfl
        rw [List.getElem?_map, hat] at hd
        cases hd
        have htt : tok t := ht t (by rw [h1]; simp)
        have e2 := size_ok (M := M1) (y := y) (w := w) (b := b) (s := s) (l := l) (r := r) (t := t) (f := s + tot ths) htt hM1y (by rw [← h1]; exact hM1w) hM1b (by rw [h1]; exact ats_yes)
        have hws : wordsOf ths = (wordsOf l ++ [hdw t]) ++ (t.1 ++ (t.2 ++ wordsOf r)) := by
          rw [h1, words_app]
          simp [wordsOf]
        have hws2 : wordsOf ths = (wordsOf l ++ [hdw t] ++ t.1) ++ (t.2 ++ wordsOf r) := by
          rw [hws]; simp
        have hl := words_len l
        have c1 : cutL ((wordsOf ths).map D.int) (some (s + tot l - s + 1)) (some (s + tot l - s + 1 + t.1.length)) = t.1.map D.int := by
          rw [cut_map, hws, cut_mid _ _ _ (by rw [List.length_append, List.length_singleton]; omega) (by rw [List.length_append, List.length_singleton]; omega)]
        have c2 : cutL ((wordsOf ths).map D.int) (some (s + tot l - s + 1 + t.1.length)) (some (s + tot l - s + 1 + t.1.length + t.2.length)) = t.2.map D.int := by
          rw [cut_map, hws2, cut_mid _ _ _ (by rw [List.length_append, List.length_append, List.length_singleton]; omega) (by rw [List.length_append, List.length_append, List.length_singleton]; omega)]
        have hll : (toldD s l).length < 1000000 := by
          rw [toldD_len]
          have : l.length ≤ ths.length := by rw [h1, List.length_append]; omega
          omega
        refine ⟨_, rfl, _, ?_, .v (.int (s + tot l)), .v (.int (s + tot l - s + 1)), .v (.int t.1.length), .v (.int t.2.length), l ++ [t], r, by rw [h1]; simp, by rw [List.length_append, h2]; rfl, rfl⟩
        have hm : ¬ [115, 105, 122, 101, 95, 111, 102] ∈ fs_Yard := by decide
        simp [hM1y, hM1w, yO, lookF, e2, c1, c2, hll, toldD_app, LIM])
  have hr : r = [] := by
    rw [List.length_map, ats_len] at h2
    have := congrArg List.length h1
    rw [List.length_append] at this
    exact List.eq_nil_of_length_eq_zero (by omega)
  subst hr
  rw [List.append_nil] at h1
  subst h1
  have e3 := forO_eq (A := fldE (rawV 0) [89, 97, 114, 100] [98, 101, 103, 117, 110]) (st := ⟨[.v (.ob y), .own (.lst []), .un, .un, .un, .un], M⟩) (by simp [Y.y, yO, lookF]) (by rw [hM1]; simp [hM1y, yO, lookF]) Y.b (by rw [hM1]; exact e1) hM1b
  simp only [F_Yard_told, B_Yard_told, e_fn]
  simp [e3, hback]
end
end Lw

namespace Lw
open PySem PySem.Spec PyProof.Rows L2 VL
section
variable {M : List MO} {y w b : Nat} {s : Int} {ths : List Th}
theorem words_small : ∀ {ths : List Th}, (∀ t ∈ ths, tok t) → (wordsOf ths).length ≤ 19 * ths.length
  | [], _ => Nat.le_refl _
  | t :: r, h => by
    have := words_small (ths := r) fun x hx => h x (List.mem_cons_of_mem _ hx)
    have := h t (List.mem_cons_self ..)
    unfold tok at this
    unfold wordsOf
    rw [List.length_cons, List.length_append, List.length_append, List.length_cons]
    omega
theorem putK_new {ks : List Int} {x : Int} (h : x ∉ ks) : dPutK (ks.map D.int) (.int x) = (ks ++ [x]).map D.int := by
  unfold dPutK
  rw [any_int, decide_eq_false h, if_neg Bool.false_ne_true, List.map_append]; rfl
theorem putV_new {ks : List Int} {vs : List D} {x : Int} {d : D} (h : x ∉ ks) : dPutV (ks.map D.int) vs (.int x) d = vs ++ [d] := by
  unfold dPutV
  rw [any_int, decide_eq_false h, if_neg Bool.false_ne_true]
theorem rep_flat (n : Nat) (x : Int) : (List.replicate n [D.int x]).flatten = (List.replicate n x).map D.int := by
  induction n with
  | zero => rfl
  | succ n ih => rw [List.replicate_succ, List.replicate_succ, List.flatten_cons, ih]; rfl
def zr (n : Nat) : List Int := List.replicate n 0
theorem make_ok (Y : Yd M y w b s ths) (hyb : y ≠ b) (hwb : w ≠ b) (hyw : y ≠ w) (ht : ∀ t ∈ ths, tok t) (hl : ths.length < 1000) {h m : Nat} (hh : h < 10) (hm : m < 10) :
    ∃ M', F_Yard_make [.ob y, .int h, .int m] M = some (.ok (.int (s + tot ths)), M') ∧ Yd M' y w b s (ths ++ [(zr h, zr m)]) ∧ M'.length = M.length ∧ ∀ n, n ≠ y → n ≠ w → n ≠ b → M'[n]? = M[n]? := by
  have hy := (List.getElem?_eq_some_iff.mp Y.y).1
  have hw := (List.getElem?_eq_some_iff.mp Y.w).1
  have hb := (List.getElem?_eq_some_iff.mp Y.b).1
  have hno : s + tot ths ∉ atsOf s ths := fun z => by have := ats_mem z; omega
  have hwl := words_small ht
  have e1 : ∀ M, F_head [.int h, .int m] M = some (.ok (.int (16 * (h : Int) + m)), M) := fun M => head_ok (by omega) (by omega) (by omega) (by omega)
  have pk := putK_new hno
  have pv := putV_new (vs := ths.map fun _ => D.bl true) (d := .bl true) hno
  have al := ats_len ths s
  have c1 : ths.length < 1000000 := by omega
  have c2 : (wordsOf ths).length < 1000000 := by omega
  have c3 : (wordsOf ths).length + 1 + (h + m) ≤ 1000000 := by omega
  have c4 : (h : Int) + m ≤ 1000000 := by omega
  have c5 : -((h : Int) + m) ≤ 1000000 := by omega
  have c6 : ((h : Int) + m).toNat = h + m := by omega
  have c7 : h + m ≤ 1000000 := by omega
  have rf := rep_flat (h + m) 0
  refine ⟨(((M.set b (.dic ((atsOf s ths ++ [s + tot ths]).map .int) ((ths.map fun _ => .bl true) ++ [.bl true]))).set w (.lst ((wordsOf ths ++ [16 * (h : Int) + m] ++ zr (h + m)).map .int)))).set y (yO s (s + tot ths + 1 + h + m) w b), ?_, ?_, by simp, ?_⟩
  · have g1 : ∀ o, (M.set b o)[y]? = M[y]? := fun o => List.getElem?_set_ne (Ne.symm hyb)
    have g2 : ∀ o, (M.set b o)[w]? = M[w]? := fun o => List.getElem?_set_ne (Ne.symm hwb)
    have g3 : ∀ (M : List MO) o, (M.set w o)[y]? = M[y]? := fun _ o => List.getElem?_set_ne (Ne.symm hyw)
    have g4 : ∀ o1 o2, ((M.set b o1).set w o2)[w]? = some o2 := fun o1 o2 => List.getElem?_set_self (by simpa using hw)
    simp [F_Yard_make, B_Yard_make, e_fn, Y.y, Y.w, Y.b, yO, lookF, putFn, putFv, pk, pv, al, e1, g1, g2, g3, g4, LIM, c1, c2, c3, c4, c5, c6, c7, rf, zr]
  · have ea : ((M.set b (.dic ((atsOf s ths ++ [s + tot ths]).map .int) ((ths.map fun _ => .bl true) ++ [.bl true]))).set w (.lst ((wordsOf ths ++ [16 * (h : Int) + m] ++ zr (h + m)).map .int))).length = M.length := by simp
    have ez : sz (zr h, zr m) = 1 + h + m := by simp [sz, zr]
    have ew : wordsOf [(zr h, zr m)] = [16 * (h : Int) + m] ++ zr (h + m) := by
      simp [wordsOf, hdw, zr, List.replicate_append_replicate]
    refine ⟨?_, ?_, ?_⟩
    · rw [List.getElem?_set_self (by rw [ea]; exact hy), tot_app]
      have : s + (tot ths + tot [(zr h, zr m)]) = s + tot ths + 1 + h + m := by
        unfold tot tot
        rw [ez]
        omega
      rw [this]
    · rw [List.getElem?_set_ne hyw, List.getElem?_set_self (by simpa using hw), words_app, ew, ← List.append_assoc]
    · rw [List.getElem?_set_ne hyb, List.getElem?_set_ne hwb, List.getElem?_set_self hb, ats_app]
      simp [atsOf]
  · intro n h1 h2 h3
    rw [List.getElem?_set_ne (Ne.symm h1), List.getElem?_set_ne (Ne.symm h2), List.getElem?_set_ne (Ne.symm h3)]
end
end Lw

namespace Lw
open PySem PySem.Spec PyProof.Rows L2 VL
/-! the carter in plain words: which things, in which order, where to -/
theorem ats_szs : ∀ {l r : List Th} {s : Int}, l.map sz = r.map sz → atsOf s l = atsOf s r
  | [], [], _, _ => rfl
  | [], _ :: _, _, h => by cases h
  | _ :: _, [], _, h => by cases h
  | a :: l, b :: r, s, h => by
    rw [List.map_cons, List.map_cons, List.cons.injEq] at h
    show s :: atsOf (s + sz a) l = s :: atsOf (s + sz b) r
    rw [h.1, ats_szs h.2]
theorem tot_szs : ∀ {l r : List Th}, l.map sz = r.map sz → tot l = tot r
  | [], [], _ => rfl
  | [], _ :: _, h => by cases h
  | _ :: _, [], h => by cases h
  | a :: l, b :: r, h => by
    rw [List.map_cons, List.map_cons, List.cons.injEq] at h
    unfold tot
    rw [h.1, tot_szs h.2]
theorem ats_get : ∀ {l : List Th} {s : Int} {i : Nat}, i < l.length → (atsOf s l)[i]? = some (s + tot (l.take i))
  | [], _, _, h => by cases h
  | a :: l, s, 0, _ => by show some s = some (s + tot []); unfold tot; rw [Int.add_zero]
  | a :: l, s, i + 1, h => by
    show (atsOf (s + sz a) l)[i]? = some (s + tot (a :: l.take i))
    rw [ats_get (by simpa using h)]
    unfold tot
    rw [Int.add_assoc]
    cases l.take i <;> rfl
theorem ats_nodup : ∀ (l : List Th) (s : Int), (atsOf s l).Nodup
  | [], _ => List.nodup_nil
  | a :: l, s => by
    show (s :: atsOf (s + sz a) l).Nodup
    rw [List.nodup_cons]
    refine ⟨fun h => ?_, ats_nodup l _⟩
    have := ats_mem h
    have := sz_pos a
    omega
def findT : Int → List Th → Int → Option Th
  | _, [], _ => none
  | s, t :: r, x => if x = s then some t else findT (s + sz t) r x
theorem findT_mem : ∀ {ths : List Th} {s x : Int} {t : Th}, findT s ths x = some t → ∃ l r, ths = l ++ t :: r ∧ x = s + tot l
  | [], _, _, _, h => by cases h
  | a :: r, s, x, t, h => by
    unfold findT at h
    split at h
    · cases h
      exact ⟨[], r, rfl, by unfold tot; omega⟩
    · obtain ⟨l, r', rfl, e⟩ := findT_mem h
      exact ⟨a :: l, r', rfl, by unfold tot; omega⟩
theorem findT_at : ∀ {l r : List Th} {s : Int} {t : Th}, findT s (l ++ t :: r) (s + tot l) = some t
  | [], r, s, t => by show findT s (t :: r) _ = _; unfold findT; rw [if_pos (by unfold tot; omega)]
  | a :: l, r, s, t => by
    show findT s (a :: (l ++ t :: r)) _ = _
    unfold findT
    have h1 := sz_pos a
    have h2 := tot_nn l
    have e : s + tot (a :: l) = s + sz a + tot l := by show s + (sz a + tot l) = _; omega
    rw [e, if_neg (by omega)]
    exact findT_at
theorem findT_none : ∀ {ths : List Th} {s x : Int}, findT s ths x = none → x ∉ atsOf s ths
  | [], _, _, _, h => (List.not_mem_nil h).elim
  | a :: r, s, x, h, hm => by
    unfold findT at h
    split at h
    · cases h
    · rename_i hx
      rcases List.mem_cons.mp hm with e | e
      · exact hx e
      · exact findT_none h e
theorem findT_in {ths : List Th} {s x : Int} {t : Th} (h : findT s ths x = some t) : x ∈ atsOf s ths ∧ t ∈ ths := by
  obtain ⟨l, r, rfl, rfl⟩ := findT_mem h
  exact ⟨ats_yes, by simp⟩
theorem findT_pos {ths : List Th} {s x : Int} {t : Th} (hs : 0 < s) (h : findT s ths x = some t) : x ≠ 0 := fun z => by
  have := ats_mem (findT_in h).1
  omega
section
variable (s f : Int) (ths : List Th)
def visit (ord : List Int) (h : Int) : Option (List Int) := if h = 0 ∨ h ∈ ord then some ord else match findT s ths h with
  | some _ => some (ord ++ [h])
  | none => none
def visits : List Int → List Int → Option (List Int)
  | ord, [] => some ord
  | ord, h :: hs => match visit s ths ord h with
    | some o => visits o hs
    | none => none
def hold1 (h : Int) : List Int := match findT s ths h with
  | some t => t.1
  | none => []
def goesO : Nat → List Int → Nat → Option (List Int)
  | 0, _, _ => none
  | n + 1, ord, d => match ord[d]? with
    | none => some ord
    | some h => match visits s ths ord (hold1 s ths h) with
      | some o => goesO n o (d + 1)
      | none => none
def cartO (roots : List Int) : Option (List Int) := match visits s ths [] roots with
  | some o => goesO s ths (ths.length + 2) o 0
  | none => none
def olds (ord : List Int) : List Th := ord.map fun h => (findT s ths h).getD ([], [])
def mv (ord : List Int) (h : Int) : Int := if h = 0 then 0 else f + tot ((olds s ths ord).take (ord.idxOf h))
end
section
variable {s f : Int} {ths : List Th}
theorem olds_app (a b : List Int) : olds s ths (a ++ b) = olds s ths a ++ olds s ths b := List.map_append
theorem olds_len (a : List Int) : (olds s ths a).length = a.length := List.length_map ..
theorem mv_app {ord x : List Int} {h : Int} (hm : h = 0 ∨ h ∈ ord) : mv s f ths (ord ++ x) h = mv s f ths ord h := by
  unfold mv
  by_cases h0 : h = 0
  · rw [if_pos h0, if_pos h0]
  · have hm : h ∈ ord := hm.resolve_left h0
    rw [if_neg h0, if_neg h0, olds_app, List.idxOf_append, if_pos hm, List.take_append_of_le_length]
    rw [olds_len]
    exact Nat.le_of_lt (List.idxOf_lt_length_of_mem hm)
/-- what goes on: every root a thing's or nought's -/
structure Or (ord : List Int) : Prop where
  nd : ord.Nodup
  nz : 0 ∉ ord
  th : ∀ h ∈ ord, ∃ t, findT s ths h = some t
theorem visit_pre {ord o : List Int} {h : Int} (e : visit s ths ord h = some o) : (∃ x, o = ord ++ x) ∧ (h = 0 ∨ h ∈ o) := by
  unfold visit at e
  split at e
  · cases e
    rename_i q
    exact ⟨⟨[], by simp⟩, q⟩
  · split at e
    · cases e
      exact ⟨⟨[h], rfl⟩, .inr (by simp)⟩
    · cases e
theorem visits_pre : ∀ {hs ord o : List Int}, visits s ths ord hs = some o → ∃ x, o = ord ++ x
  | [], ord, o, e => by cases e; exact ⟨[], by simp⟩
  | h :: hs, ord, o, e => by
    unfold visits at e
    split at e
    · rename_i o1 e1
      obtain ⟨x, rfl⟩ := (visit_pre e1).1
      obtain ⟨y, rfl⟩ := visits_pre e
      exact ⟨x ++ y, by simp⟩
    · cases e
theorem Or.visit {ord o : List Int} {h : Int} (O : Or (s := s) (ths := ths) ord) (e : visit s ths ord h = some o) : Or (s := s) (ths := ths) o := by
  unfold Lw.visit at e
  split at e
  · cases e; exact O
  · rename_i hn
    rw [not_or] at hn
    split at e
    · rename_i t et
      cases e
      refine ⟨List.nodup_append.mpr ⟨O.nd, by simp, fun a ha b hb => ?_⟩, ?_, ?_⟩
      · rw [List.mem_singleton] at hb
        subst hb
        intro z; subst z
        exact hn.2 ha
      · rw [List.mem_append, List.mem_singleton]
        rintro (z | z)
        · exact O.nz z
        · exact hn.1 z.symm
      · intro a ha
        rcases List.mem_append.mp ha with ha | ha
        · exact O.th a ha
        · rw [List.mem_singleton] at ha
          subst ha
          exact ⟨t, et⟩
    · cases e
theorem Or.visits : ∀ {hs ord o : List Int}, Or (s := s) (ths := ths) ord → visits s ths ord hs = some o → Or (s := s) (ths := ths) o
  | [], ord, o, O, e => by cases e; exact O
  | h :: hs, ord, o, O, e => by
    unfold Lw.visits at e
    split at e
    · rename_i o1 e1
      exact Or.visits (O.visit e1) e
    · cases e
theorem nd_le : ∀ {a b : List Int}, a.Nodup → (∀ x ∈ a, x ∈ b) → a.length ≤ b.length
  | [], _, _, _ => Nat.zero_le _
  | x :: a, b, nd, h => by
    rw [List.nodup_cons] at nd
    have hx := h x (by simp)
    have := nd_le (a := a) (b := b.erase x) nd.2 fun y hy => by
      have ne : y ≠ x := fun z => nd.1 (z ▸ hy)
      exact (List.mem_erase_of_ne ne).mpr (h y (by simp [hy]))
    rw [List.length_erase_of_mem hx] at this
    have := List.length_pos_of_mem hx
    rw [List.length_cons]
    omega
theorem Or.le {ord : List Int} (O : Or (s := s) (ths := ths) ord) : ord.length ≤ ths.length := by
  rw [← ats_len ths s]
  refine nd_le O.nd fun x hx => ?_
  obtain ⟨t, e⟩ := O.th x hx
  exact (findT_in e).1
theorem or_nil : Or (s := s) (ths := ths) [] := ⟨List.nodup_nil, by simp, by simp⟩
end
end Lw

namespace Lw
open PySem PySem.Spec PyProof.Rows L2 VL
/-! the carter's store: what was, and five objects behind it -/
def CG (M0 : List MO) (f : Int) (nt : List Th) (K V P : List D) : List MO := M0 ++ [yO f (f + tot nt) (M0.length + 1) (M0.length + 2), .lst ((wordsOf nt).map .int), .dic ((atsOf f nt).map .int) (nt.map fun _ => .bl true), .dic K V, .lst P]
def pairD (p : Int × Int) : D := .tup [.int p.1, .int p.2]
def CS (M0 : List MO) (f : Int) (nt : List Th) (ord : List Int) : List MO := CG M0 f nt (ord.map .int) ((atsOf f nt).map .int) ((ord.zip (atsOf f nt)).map pairD)
section
variable {M0 M : List MO} {f s : Int} {nt nt' ths : List Th} {K V P K' V' P' : List D} {y w b : Nat}
theorem cg_lt {n : Nat} (h : n < M0.length) : (CG M0 f nt K V P)[n]? = M0[n]? := List.getElem?_append_left h
theorem cg_ge (n : Nat) : (CG M0 f nt K V P)[M0.length + n]? = [yO f (f + tot nt) (M0.length + 1) (M0.length + 2), .lst ((wordsOf nt).map .int), .dic ((atsOf f nt).map .int) (nt.map fun _ => .bl true), .dic K V, .lst P][n]? := by
  unfold CG
  rw [List.getElem?_append_right (by omega), Nat.add_sub_cancel_left]
theorem cg0 : (CG M0 f nt K V P)[M0.length]? = some (yO f (f + tot nt) (M0.length + 1) (M0.length + 2)) := cg_ge 0
theorem cg1 : (CG M0 f nt K V P)[M0.length + 1]? = some (.lst ((wordsOf nt).map .int)) := cg_ge 1
theorem cg2 : (CG M0 f nt K V P)[M0.length + 2]? = some (.dic ((atsOf f nt).map .int) (nt.map fun _ => .bl true)) := cg_ge 2
theorem cg3 : (CG M0 f nt K V P)[M0.length + 3]? = some (.dic K V) := cg_ge 3
theorem cg4 : (CG M0 f nt K V P)[M0.length + 4]? = some (.lst P) := cg_ge 4
theorem cg_len : (CG M0 f nt K V P).length = M0.length + 5 := by unfold CG; rw [List.length_append]; rfl
theorem cg_new : Yd (CG M0 f nt K V P) M0.length (M0.length + 1) (M0.length + 2) f nt := ⟨cg0, cg1, cg2⟩
theorem Yd.lt (Y : Yd M y w b s ths) : y < M.length ∧ w < M.length ∧ b < M.length := ⟨(List.getElem?_eq_some_iff.mp Y.y).1, (List.getElem?_eq_some_iff.mp Y.w).1, (List.getElem?_eq_some_iff.mp Y.b).1⟩
theorem cg_old (Y : Yd M0 y w b s ths) : Yd (CG M0 f nt K V P) y w b s ths := by
  obtain ⟨h1, h2, h3⟩ := Y.lt
  exact ⟨by rw [cg_lt h1]; exact Y.y, by rw [cg_lt h2]; exact Y.w, by rw [cg_lt h3]; exact Y.b⟩
theorem cg_set (n : Nat) (o : MO) : (CG M0 f nt K V P).set (M0.length + n) o = M0 ++ ([yO f (f + tot nt) (M0.length + 1) (M0.length + 2), .lst ((wordsOf nt).map .int), .dic ((atsOf f nt).map .int) (nt.map fun _ => .bl true), .dic K V, .lst P].set n o) := by
  unfold CG
  rw [List.set_append_right _ _ (by omega), Nat.add_sub_cancel_left]
theorem cg_s1 (h : nt'.map sz = nt.map sz) : (CG M0 f nt K V P).set (M0.length + 1) (.lst ((wordsOf nt').map .int)) = CG M0 f nt' K V P := by
  rw [cg_set]
  have hl : nt'.length = nt.length := by have := congrArg List.length h; simpa using this
  have hc : (nt'.map fun _ => D.bl true) = nt.map fun _ => D.bl true := by
    rw [List.map_const', List.map_const', hl]
  unfold CG
  rw [tot_szs h, ats_szs h, hc]
  rfl
theorem cg_s3 : (CG M0 f nt K V P).set (M0.length + 3) (.dic K' V') = CG M0 f nt K' V' P := by rw [cg_set]; rfl
theorem cg_s4 : (CG M0 f nt K V P).set (M0.length + 4) (.lst P') = CG M0 f nt K V P' := by rw [cg_set]; rfl
theorem cg_ext (hl : M.length = M0.length + 5) (Y : Yd M M0.length (M0.length + 1) (M0.length + 2) f nt) (h3 : M[M0.length + 3]? = some (.dic K V)) (h4 : M[M0.length + 4]? = some (.lst P)) (h : ∀ n, n < M0.length → M[n]? = M0[n]?) : M = CG M0 f nt K V P := by
  apply List.ext_getElem?
  intro n
  by_cases hn : n < M0.length
  · rw [h n hn, cg_lt hn]
  · obtain ⟨k, rfl⟩ : ∃ k, n = M0.length + k := ⟨n - M0.length, by omega⟩
    match k with
    | 0 => rw [show M0.length + 0 = M0.length from rfl, Y.y, cg0]
    | 1 => rw [Y.w, cg1]
    | 2 => rw [Y.b, cg2]
    | 3 => rw [h3, cg3]
    | 4 => rw [h4, cg4]
    | k + 5 => rw [List.getElem?_eq_none (by omega), List.getElem?_eq_none (by rw [cg_len]; omega)]
end
/-! a yard asked and filled -/
section
variable {M : List MO} {f s x v : Int} {ths l r : List Th} {a t : Th} {y w b k : Nat}
theorem sizeU_ok (Y : Yd M y w b s ths) (hk : ∀ t ∈ ths, tok t) (hf : findT s ths x = some t) : F_Yard_size_of [.ob y, .int x] M = some (.ok (.tup [.int t.1.length, .int t.2.length]), M) := by
  obtain ⟨l, r, rfl, rfl⟩ := findT_mem hf
  have ht : tok t := hk t (by simp)
  have e0 := word_at (l := l) (t := t) (r := r) (s := s) (x := s + tot l) (Int.le_refl _) (by have := sz_pos t; omega)
  have z : (s + tot l - s - tot l).toNat = 0 := by omega
  rw [z] at e0
  have e : atI ((wordsOf (l ++ t :: r)).map D.int) (s + tot l - s) = some (.int (hdw t)) := by
    have := tot_nn l
    rw [atI_nn (by omega), List.getElem?_map, e0]; rfl
  have e2 := parts_ok (M := M) (h := t.1.length) (m := t.2.length) (by omega) (by have := ht.1; omega) (by omega) (by have := ht.2; omega)
  have h4 : s + tot l ∈ atsOf s (l ++ t :: r) := ats_yes
  simp [F_Yard_size_of, B_Yard_size_of, e_fn, Y.y, Y.w, Y.b, yO, lookF, any_int', e, h4, hdw, e2]
theorem sizeU_no (Y : Yd M y w b s ths) (hf : findT s ths x = none) : F_Yard_size_of [.ob y, .int x] M = some (.ex [78, 111, 84, 104, 105, 110, 103], M) := by
  have h4 := findT_none hf
  simp [F_Yard_size_of, B_Yard_size_of, e_fn, Y.y, Y.w, Y.b, yO, lookF, any_int', h4]
theorem wordF (Y : Yd M y w b s ths) (hf : findT s ths x = some t) (hk : (t.1 ++ t.2)[k]? = some v) : F_Yard_word [.ob y, .int (x + (1 + k))] M = some (.ok (.int v), M) := by
  obtain ⟨l, r, rfl, rfl⟩ := findT_mem hf
  have l0 := tot_nn l
  have hlt := (List.getElem?_eq_some_iff.mp hk).1
  rw [List.length_append] at hlt
  refine word_in Y (by omega) ?_
  rw [word_at (by omega) (by unfold sz; omega)]
  rw [show (s + tot l + (1 + (k : Int)) - s - tot l).toNat = k + 1 by omega, List.getElem?_cons_succ, hk]
theorem set_words {k : Nat} (hk : x = s + tot l + 1 + k) :
    (k < a.1.length → (wordsOf (l ++ a :: r)).set (x - s).toNat v = wordsOf (l ++ (a.1.set k v, a.2) :: r)) ∧
    (∀ m, k = a.1.length + m → m < a.2.length → (wordsOf (l ++ a :: r)).set (x - s).toNat v = wordsOf (l ++ (a.1, a.2.set m v) :: r)) := by
  have l0 := tot_nn l
  have z : (x - s - tot l).toNat = k + 1 := by omega
  constructor
  · intro h
    rw [word_set (by omega) (by unfold sz; omega), z, List.set_cons_succ, List.set_append_left _ _ h, words_app]
    simp [wordsOf, hdw]
  · intro m hm h
    rw [word_set (by omega) (by unfold sz; omega), z, List.set_cons_succ, List.set_append_right _ _ (by omega), words_app, show k - a.1.length = m by omega]
    simp [wordsOf, hdw]
theorem sz_h {k : Nat} : sz (a.1.set k v, a.2) = sz a := by simp [sz]
theorem sz_n {k : Nat} : sz (a.1, a.2.set k v) = sz a := by simp [sz]
theorem setH (Y : Yd M y w b s (l ++ a :: r)) (hk : k < a.1.length) : F_Yard_set_word [.ob y, .int (s + tot l + (1 + k)), .int v] M = some (.ok .non, M.set w (.lst ((wordsOf (l ++ (a.1.set k v, a.2) :: r)).map .int))) := by
  have l0 := tot_nn l
  have r0 := tot_nn r
  have e := (set_words (l := l) (r := r) (a := a) (s := s) (v := v) (x := s + tot l + (1 + (k : Int))) (k := k) (by omega)).1 hk
  rw [← e]
  refine set_in Y (by omega) ?_ (ats_no (by omega) (by unfold sz; omega))
  rw [tot_app]
  show _ < s + (tot l + (sz a + tot r))
  unfold sz
  omega
theorem setN (Y : Yd M y w b s (l ++ a :: r)) (hk : k < a.2.length) : F_Yard_set_word [.ob y, .int (s + tot l + (1 + (a.1.length + k : Nat))), .int v] M = some (.ok .non, M.set w (.lst ((wordsOf (l ++ (a.1, a.2.set k v) :: r)).map .int))) := by
  have l0 := tot_nn l
  have r0 := tot_nn r
  have e := (set_words (l := l) (r := r) (a := a) (s := s) (v := v) (x := s + tot l + (1 + (a.1.length + k : Nat))) (k := a.1.length + k) (by omega)).2 k rfl hk
  rw [← e]
  refine set_in Y (by omega) ?_ (ats_no (by omega) (by unfold sz; omega))
  rw [tot_app]
  show _ < s + (tot l + (sz a + tot r))
  unfold sz
  omega
theorem szs_mid {u : Th} (h : sz u = sz a) : (l ++ u :: r).map sz = (l ++ a :: r).map sz := by
  rw [List.map_append, List.map_append, List.map_cons, List.map_cons, h]
end
theorem dlook_int : ∀ {ks vs : List Int} {h : Int}, ks.length = vs.length → h ∈ ks → dLook (ks.map .int) (vs.map .int) (.int h) = (vs[ks.idxOf h]?).map .int
  | [], _, _, _, h => (List.not_mem_nil h).elim
  | k :: ks, [], _, hl, _ => by cases hl
  | k :: ks, v :: vs, h, hl, hm => by
    show (if keyEq (.int k) (.int h) = true then _ else _) = _
    rw [e_keyEq_i]
    by_cases e : k = h
    · subst e
      rw [if_pos (by simp), List.idxOf_cons_self]
      rfl
    · rw [if_neg (by simpa using e), List.idxOf_cons, cond_eq_ite, if_neg (by simpa using e)]
      rcases List.mem_cons.mp hm with q | q
      · exact absurd q.symm e
      · rw [dlook_int (by simpa using hl) q]
        rfl
end Lw

namespace Lw
open PySem PySem.Spec PyProof.Rows L2 VL
/-- the new things: as many, each as wide as its old one, the numbers of it; the holds of the first d, and of the next one's the first j -/
structure Good (s f : Int) (ths : List Th) (ord : List Int) (nt : List Th) (d j : Nat) : Prop where
  o : Or (s := s) (ths := ths) ord
  len : nt.length = ord.length
  th : ∀ (i : Nat) (h : Int), ord[i]? = some h → ∃ t u, findT s ths h = some t ∧ nt[i]? = some u ∧ u.1.length = t.1.length ∧ u.2 = t.2 ∧
    ∀ (k : Nat) (a : Int), (i < d ∨ (i = d ∧ k < j)) → t.1[k]? = some a → u.1[k]? = some (mv s f ths ord a) ∧ (a = 0 ∨ a ∈ ord)
section
variable {s f : Int} {ths nt : List Th} {ord : List Int} {d j : Nat}
theorem Good.szs (G : Good s f ths ord nt d j) : nt.map sz = (olds s ths ord).map sz := by
  apply List.ext_getElem?
  intro i
  by_cases hi : i < ord.length
  · obtain ⟨t, u, h1, h2, h3, h4, _⟩ := G.th i ord[i] (List.getElem?_eq_getElem hi)
    rw [List.getElem?_map, h2, olds, List.map_map, List.getElem?_map, List.getElem?_eq_getElem hi]
    simp only [Option.map_some, Function.comp_apply, h1, Option.getD_some]
    unfold sz
    rw [h3, h4]
  · rw [List.getElem?_eq_none (by rw [List.length_map, G.len]; omega), List.getElem?_eq_none (by rw [List.length_map, olds_len]; omega)]
theorem Good.tok (G : Good s f ths ord nt d j) (hk : ∀ t ∈ ths, tok t) : ∀ u ∈ nt, Lw.tok u := by
  intro u hu
  obtain ⟨i, hi, e⟩ := List.mem_iff_getElem.mp hu
  have hi2 : i < ord.length := by rw [← G.len]; exact hi
  obtain ⟨t, u', h1, h2, h3, h4, _⟩ := G.th i ord[i] (List.getElem?_eq_getElem hi2)
  rw [List.getElem?_eq_getElem hi, e] at h2
  cases h2
  have := hk t (findT_in h1).2
  unfold Lw.tok at this ⊢
  rw [h3, h4]
  exact this
theorem Good.at (G : Good s f ths ord nt d j) {h : Int} (h0 : h ≠ 0) (hm : h ∈ ord) : (atsOf f nt)[ord.idxOf h]? = some (mv s f ths ord h) := by
  have hl := List.idxOf_lt_length_of_mem hm
  unfold mv
  rw [if_neg h0, ats_szs G.szs, ats_get (by rw [olds_len]; exact hl)]
theorem take_szs {a b : List Th} (h : a.map sz = b.map sz) (n : Nat) : (a.take n).map sz = (b.take n).map sz := by
  rw [List.map_take, List.map_take, h]
/-- a thing put behind -/
theorem Good.push (G : Good s f ths ord nt d j) {h : Int} {t : Th} (hd : d ≤ ord.length) (hj : d = ord.length → j = 0) (hf : findT s ths h = some t) (h0 : h ≠ 0) (hm : h ∉ ord) :
    Good s f ths (ord ++ [h]) (nt ++ [(zr t.1.length, t.2)]) d j ∧ mv s f ths (ord ++ [h]) h = f + tot nt := by
  refine ⟨⟨G.o.visit (h := h) (o := ord ++ [h]) ?_, by simp [G.len], fun i x hx => ?_⟩, ?_⟩
  · unfold visit
    rw [if_neg (by simp [h0, hm]), hf]
  · by_cases hi : i < ord.length
    · rw [List.getElem?_append_left hi] at hx
      obtain ⟨t', u, h1, h2, h3, h4, h5⟩ := G.th i x hx
      refine ⟨t', u, h1, by rw [List.getElem?_append_left (by rw [G.len]; exact hi)]; exact h2, h3, h4, fun k a q e => ?_⟩
      obtain ⟨g1, g2⟩ := h5 k a q e
      refine ⟨by rw [mv_app g2]; exact g1, ?_⟩
      rcases g2 with g2 | g2
      · exact .inl g2
      · exact .inr (List.mem_append_left _ g2)
    · have hi2 : i = ord.length := by
        have := (List.getElem?_eq_some_iff.mp hx).1
        rw [List.length_append, List.length_singleton] at this
        omega
      subst hi2
      rw [List.getElem?_append_right (Nat.le_refl _), Nat.sub_self] at hx
      cases hx
      refine ⟨t, (zr t.1.length, t.2), hf, by rw [← G.len, List.getElem?_append_right (Nat.le_refl _), Nat.sub_self]; rfl, by simp [zr], rfl, fun k a q e => ?_⟩
      rcases q with q | ⟨q, q2⟩
      · omega
      · have := hj q.symm
        omega
  · unfold mv
    rw [if_neg h0, List.idxOf_append, if_neg hm, List.idxOf_cons_self, Nat.zero_add, olds_app, List.take_left' (olds_len ord), tot_szs G.szs]
/-- one hold more laid -/
theorem Good.step (G : Good s f ths ord nt d j) {h a : Int} {t u : Th} (hd : ord[d]? = some h) (hf : findT s ths h = some t) (hu : nt[d]? = some u) (ha : t.1[j]? = some a) (hm : a = 0 ∨ a ∈ ord) :
    Good s f ths ord (nt.set d (u.1.set j (mv s f ths ord a), u.2)) d (j + 1) := by
  have hdl := (List.getElem?_eq_some_iff.mp hd).1
  have hjl := (List.getElem?_eq_some_iff.mp ha).1
  refine ⟨G.o, by rw [List.length_set, G.len], fun i x hx => ?_⟩
  obtain ⟨t', u', h1, h2, h3, h4, h5⟩ := G.th i x hx
  by_cases hi : i = d
  · subst hi
    rw [hd] at hx
    cases hx
    rw [hf] at h1
    cases h1
    rw [hu] at h2
    cases h2
    refine ⟨t, (u.1.set j (mv s f ths ord a), u.2), hf, List.getElem?_set_self (by rw [G.len]; exact hdl), by simp [h3], h4, fun k b q e => ?_⟩
    by_cases hk : k = j
    · subst hk
      rw [ha] at e
      cases e
      exact ⟨List.getElem?_set_self (by rw [h3]; exact hjl), hm⟩
    · obtain ⟨g1, g2⟩ := h5 k b (by omega) e
      exact ⟨by rw [List.getElem?_set_ne (Ne.symm hk)]; exact g1, g2⟩
  · refine ⟨t', u', h1, by rw [List.getElem?_set_ne (Ne.symm hi)]; exact h2, h3, h4, fun k b q e => h5 k b (by omega) e⟩
/-- a thing's holds all laid -/
theorem Good.next (G : Good s f ths ord nt d j) {h : Int} {t : Th} (hd : ord[d]? = some h) (hf : findT s ths h = some t) (hj : t.1.length ≤ j) : Good s f ths ord nt (d + 1) 0 := by
  refine ⟨G.o, G.len, fun i x hx => ?_⟩
  obtain ⟨t', u', h1, h2, h3, h4, h5⟩ := G.th i x hx
  refine ⟨t', u', h1, h2, h3, h4, fun k b q e => h5 k b ?_ e⟩
  by_cases hi : i = d
  · subst hi
    rw [hd] at hx
    cases hx
    rw [hf] at h1
    cases h1
    have := (List.getElem?_eq_some_iff.mp e).1
    exact .inr ⟨rfl, by omega⟩
  · exact .inl (by omega)
theorem good_nil : Good s f ths [] [] 0 0 := ⟨or_nil, rfl, by simp⟩
end
theorem hm1 : ¬ [115, 105, 122, 101, 95, 111, 102] ∈ fs_Yard := by decide
theorem hm2 : ¬ [109, 97, 107, 101] ∈ fs_Yard := by decide
theorem hm3 : ¬ [115, 101, 116, 95, 119, 111, 114, 100] ∈ fs_Yard := by decide
theorem hm4 : ¬ [119, 111, 114, 100] ∈ fs_Yard := by decide
section
variable {M0 : List MO} {s f : Int} {ths nt : List Th} {ord : List Int} {d j y w b : Nat} {h : Int} {K V P : List D}
def numB : Stm := exprS (methE 3 F_Yard_set_word [89, 97, 114, 100] [115, 101, 116, 95, 119, 111, 114, 100] (rawV 1) (consA (valN (bin2 addF (rawV 5) (rawV 6))) (consA (methE 2 F_Yard_word [89, 97, 114, 100] [119, 111, 114, 100] (rawV 0) (consA (valN (bin2 addF (rawV 4) (rawV 6))) nilA)) nilA)))
theorem num_step {t : Th} {i : Nat} {v : Int} {c7 c8 : Cell} {ns : List Int} (Y : Yd M0 y w b s ths) (hf : findT s ths h = some t) (hi : t.2[i]? = some v) (hn : ns.length = t.2.length) :
    numB ⟨[.v (.ob y), .v (.ob M0.length), .v (.ob (M0.length + 3)), .v (.ob (M0.length + 4)), .v (.int h), .v (.int (f + tot nt)), .v (.int (t.1.length + 1 + i)), c7, c8], CG M0 f (nt ++ [(zr t.1.length, ns)]) K V P⟩
      = some (.ok .nx, ⟨[.v (.ob y), .v (.ob M0.length), .v (.ob (M0.length + 3)), .v (.ob (M0.length + 4)), .v (.int h), .v (.int (f + tot nt)), .v (.int (t.1.length + 1 + i)), c7, c8], CG M0 f (nt ++ [(zr t.1.length, ns.set i v)]) K V P⟩) := by
  have hil := (List.getElem?_eq_some_iff.mp hi).1
  have Y1 : Yd (CG M0 f (nt ++ [(zr t.1.length, ns)]) K V P) y w b s ths := cg_old Y
  have N1 : Yd (CG M0 f (nt ++ [(zr t.1.length, ns)]) K V P) M0.length (M0.length + 1) (M0.length + 2) f (nt ++ [(zr t.1.length, ns)]) := cg_new
  have e1 := wordF (k := t.1.length + i) (v := v) Y1 hf (by rw [List.getElem?_append_right (by omega), Nat.add_sub_cancel_left]; exact hi)
  have q1 : h + (1 + ((t.1.length + i : Nat) : Int)) = h + ((t.1.length : Int) + 1 + i) := by omega
  rw [q1] at e1
  have e2 := setN (v := v) (k := i) N1 (by show i < ns.length; omega)
  have zl : (zr t.1.length).length = t.1.length := by simp [zr]
  have q2 : f + tot nt + (1 + (((zr t.1.length, ns).1.length + i : Nat) : Int)) = f + tot nt + ((t.1.length : Int) + 1 + i) := by
    show f + tot nt + (1 + (((zr t.1.length).length + i : Nat) : Int)) = _
    rw [zl]; omega
  rw [q2] at e2
  rw [cg_s1 (szs_mid (sz_n (a := (zr t.1.length, ns))))] at e2
  have e2 : F_Yard_set_word [.ob M0.length, .int (f + tot nt + ((t.1.length : Int) + 1 + i)), .int v] (CG M0 f (nt ++ [(zr t.1.length, ns)]) K V P) = some (.ok .non, CG M0 f (nt ++ [(zr t.1.length, ns.set i v)]) K V P) := e2
  have y0 : (CG M0 f (nt ++ [(zr t.1.length, ns)]) K V P)[y]? = some (yO s (s + tot ths) w b) := Y1.y
  simp [numB, y0, cg0, yO, hm3, hm4, e1, e2]
theorem num_loop {t : Th} {c6 c7 c8 : Cell} (Y : Yd M0 y w b s ths) (hf : findT s ths h = some t) :
    ∃ c6', forL (.one 6) numB (rngL (t.1.length + 1) t.2.length) ⟨[.v (.ob y), .v (.ob M0.length), .v (.ob (M0.length + 3)), .v (.ob (M0.length + 4)), .v (.int h), .v (.int (f + tot nt)), c6, c7, c8], CG M0 f (nt ++ [(zr t.1.length, zr t.2.length)]) K V P⟩
      = some (.ok .nx, ⟨[.v (.ob y), .v (.ob M0.length), .v (.ob (M0.length + 3)), .v (.ob (M0.length + 4)), .v (.int h), .v (.int (f + tot nt)), c6', c7, c8], CG M0 f (nt ++ [(zr t.1.length, t.2)]) K V P⟩) := by
  obtain ⟨s', e, ns, hl, hg, c6', rfl⟩ := forL_thru (t := .one 6) (body := numB) (ds := rngL (t.1.length + 1) t.2.length) (st := ⟨[.v (.ob y), .v (.ob M0.length), .v (.ob (M0.length + 3)), .v (.ob (M0.length + 4)), .v (.int h), .v (.int (f + tot nt)), c6, c7, c8], CG M0 f (nt ++ [(zr t.1.length, zr t.2.length)]) K V P⟩)
    (fun i st => ∃ ns : List Int, ns.length = t.2.length ∧ (∀ k, k < i → ns[k]? = t.2[k]?) ∧ ∃ c6, st = ⟨[.v (.ob y), .v (.ob M0.length), .v (.ob (M0.length + 3)), .v (.ob (M0.length + 4)), .v (.int h), .v (.int (f + tot nt)), c6, c7, c8], CG M0 f (nt ++ [(zr t.1.length, ns)]) K V P⟩)
    ⟨zr t.2.length, by simp [zr], fun k hk => by omega, c6, rfl⟩ (by
      rintro i x st hx ⟨ns, hl, hg, c6, rfl⟩
      rw [rngL_get] at hx
      split at hx
      · rename_i hi
        cases hx
        refine ⟨_, rfl, _, num_step Y hf (List.getElem?_eq_getElem hi) hl, ns.set i t.2[i], by simp [hl], fun k hk => ?_, _, rfl⟩
        by_cases hki : k = i
        · subst hki
          rw [List.getElem?_set_self (by omega), List.getElem?_eq_getElem hi]
        · rw [List.getElem?_set_ne (Ne.symm hki), hg k (by omega)]
      · cases hx)
  have : ns = t.2 := by
    apply List.ext_getElem?
    intro k
    by_cases hk : k < t.2.length
    · exact hg k (by rw [rngL_len]; exact hk)
    · rw [List.getElem?_eq_none (by omega), List.getElem?_eq_none (by omega)]
  subst this
  exact ⟨c6', e⟩
end
end Lw

namespace Lw
open PySem PySem.Spec PyProof.Rows L2 VL
abbrev noThing : List Nat := [78, 111, 84, 104, 105, 110, 103]
section
variable {M0 : List MO} {s f : Int} {ths nt : List Th} {ord : List Int} {d j y w b : Nat} {h : Int}
theorem zip_push (G : Good s f ths ord nt d j) (t : Th) : (ord ++ [h]).zip (atsOf f (nt ++ [t])) = ord.zip (atsOf f nt) ++ [(h, f + tot nt)] := by
  rw [ats_app, List.zip_append (by rw [ats_len, G.len])]
  rfl
theorem rng_ok {a c : Int} (h1 : -1000000 ≤ a) (h2 : a ≤ 1000000) (h3 : -1000000 ≤ c) (h4 : c ≤ 1000000) : rngOk a c = true := by
  simp [rngOk]; omega
theorem laid_B : B_laid = seqS (ifS (cmp2 eqF (rawV 4) (opdC (pureC (.int 0)))) (retS (pureC (.int 0))) skipS)
  (seqS (ifS (cmp2 notInDF (rawV 4) (rawV 2)) (seqS (asgT (.all [7, 8]) (methE 2 F_Yard_size_of [89, 97, 114, 100] [115, 105, 122, 101, 95, 111, 102] (rawV 0) (consA (varV 4) nilA)))
  (seqS (asgV 5 (methE 3 F_Yard_make [89, 97, 114, 100] [109, 97, 107, 101] (rawV 1) (consA (varV 7) (consA (varV 8) nilA))))
  (seqS (dputS (varV 5) (rawV 2) (varV 4))
  (seqS (exprS (appE (rawV 3) (tupE (consA (varV 4) (consA (varV 5) nilA)))))
  (forS (itR2 (valN (bin2 addF (rawV 7) (opdC (pureC (.int 1))))) (valN (bin2 addF (opdC (valN (bin2 addF (rawV 7) (rawV 8)))) (opdC (pureC (.int 1)))))) (.one 6) numB))))) skipS)
  (retS (dgE (rawV 2) (varV 4)))) := rfl
theorem laid_ok (Y : Yd M0 y w b s ths) (hk : ∀ t ∈ ths, tok t) (hn : ths.length < 1000) (s0 : 0 < s) (G : Good s f ths ord nt d j) (hd : d ≤ ord.length) (hj : d = ord.length → j = 0) (h : Int) :
    match visit s ths ord h with
    | some o => ∃ x, o = ord ++ x ∧ ∃ z, F_laid [.ob y, .ob M0.length, .ob (M0.length + 3), .ob (M0.length + 4), .int h] (CS M0 f nt ord) = some (.ok (.int (mv s f ths o h)), CS M0 f (nt ++ z) o) ∧ Good s f ths o (nt ++ z) d j ∧ (h = 0 ∨ h ∈ o)
    | none => F_laid [.ob y, .ob M0.length, .ob (M0.length + 3), .ob (M0.length + 4), .int h] (CS M0 f nt ord) = some (.ex noThing, CS M0 f nt ord) := by
  have g3 : (CS M0 f nt ord)[M0.length + 3]? = some (.dic (ord.map .int) ((atsOf f nt).map .int)) := cg3
  have yo : (CS M0 f nt ord)[y]? = some (yO s (s + tot ths) w b) := (cg_old Y).y
  have y1 : (CS M0 f nt ord)[M0.length]? = some (yO f (f + tot nt) (M0.length + 1) (M0.length + 2)) := cg0
  by_cases h0 : h = 0
  · subst h0
    have e : visit s ths ord 0 = some ord := if_pos (.inl rfl)
    rw [e]
    refine ⟨[], by simp, [], ?_, by simpa using G, .inl rfl⟩
    have : mv s f ths ord 0 = 0 := if_pos rfl
    rw [this, List.append_nil]
    simp [F_laid, B_laid, e_fn]
  · by_cases hm : h ∈ ord
    · have e : visit s ths ord h = some ord := if_pos (.inr hm)
      rw [e]
      refine ⟨[], by simp, [], ?_, by simpa using G, .inr hm⟩
      have e2 := dlook_int (vs := atsOf f nt) (by rw [ats_len, G.len]) hm
      rw [G.at h0 hm] at e2
      simp [F_laid, B_laid, e_fn, h0, g3, any_int', hm, e2]
    · cases hf : findT s ths h with
      | none =>
        have e : visit s ths ord h = none := by unfold visit; rw [if_neg (by simp [h0, hm]), hf]
        rw [e]
        show _ = _
        have e1 := sizeU_no (M := CS M0 f nt ord) (cg_old Y) hf
        simp [F_laid, B_laid, e_fn, h0, g3, any_int', hm, yo, yO, hm1, e1]
      | some t =>
        have e : visit s ths ord h = some (ord ++ [h]) := by unfold visit; rw [if_neg (by simp [h0, hm]), hf]
        rw [e]
        obtain ⟨G', hv⟩ := G.push hd hj hf h0 hm
        refine ⟨[h], rfl, [(zr t.1.length, t.2)], ?_, G', .inr (by simp)⟩
        have ht := hk t (findT_in hf).2
        have hlt : nt.length ≤ ths.length := by rw [G.len]; exact G.o.le
        have ht1 := ht.1
        have ht2 := ht.2
        have e1 := sizeU_ok (M := CS M0 f nt ord) (cg_old Y) hk hf
        obtain ⟨M1, e2, Y1, hl1, fr1⟩ := make_ok (M := CS M0 f nt ord) (y := M0.length) (w := M0.length + 1) (b := M0.length + 2) (ths := nt) (s := f) cg_new (by omega) (by omega) (by omega) (G.tok hk) (by omega) ht.1 ht.2
        have hM1 : M1 = CG M0 f (nt ++ [(zr t.1.length, zr t.2.length)]) (ord.map .int) ((atsOf f nt).map .int) ((ord.zip (atsOf f nt)).map pairD) :=
          cg_ext (by rw [hl1]; exact cg_len) Y1 (by rw [fr1 _ (by omega) (by omega) (by omega)]; exact cg3) (by rw [fr1 _ (by omega) (by omega) (by omega)]; exact cg4) (fun n hn => by rw [fr1 _ (by omega) (by omega) (by omega)]; exact cg_lt hn)
        subst hM1
        have pk := putK_new hm
        have pv := putV_new (vs := (atsOf f nt).map D.int) (d := .int (f + tot nt)) hm
        have hal : (atsOf f nt).map D.int ++ [D.int (f + tot nt)] = (atsOf f (nt ++ [(zr t.1.length, zr t.2.length)])).map D.int := by
          rw [ats_app, List.map_append]; rfl
        have hpl : (ord.zip (atsOf f nt)).map pairD ++ [.tup [.int h, .int (f + tot nt)]] = ((ord ++ [h]).zip (atsOf f (nt ++ [(zr t.1.length, zr t.2.length)]))).map pairD := by
          rw [zip_push G, List.map_append]; rfl
        have hol : ord.length < 1000 := by rw [← G.len]; omega
        have hzl : ((ord.zip (atsOf f nt))).length < 1000 := by rw [List.length_zip]; omega
        obtain ⟨c6, e3⟩ := num_loop (nt := nt) (f := f) (K := (ord ++ [h]).map .int) (V := (atsOf f (nt ++ [(zr t.1.length, zr t.2.length)])).map .int) (P := ((ord ++ [h]).zip (atsOf f (nt ++ [(zr t.1.length, zr t.2.length)]))).map pairD) (c6 := .un) (c7 := .v (.int t.1.length)) (c8 := .v (.int t.2.length)) Y hf
        have hz : (nt ++ [(zr t.1.length, zr t.2.length)]).map sz = (nt ++ [(zr t.1.length, t.2)]).map sz := by
          rw [List.map_append, List.map_append]
          congr 1
          simp [sz, zr]
        have haz : atsOf f (nt ++ [(zr t.1.length, zr t.2.length)]) = atsOf f (nt ++ [(zr t.1.length, t.2)]) := ats_szs hz
        have e4 := dlook_int (ks := ord ++ [h]) (vs := atsOf f (nt ++ [(zr t.1.length, zr t.2.length)])) (h := h) (by rw [ats_len, List.length_append, List.length_append, G.len]; rfl) (by simp)
        rw [haz, G'.at h0 (by simp)] at e4
        have e5 : ∀ K V P, (CG M0 f (nt ++ [(zr t.1.length, t.2)]) K V P)[M0.length + 3]? = some (.dic K V) := fun _ _ _ => cg3
        have e6 : ∀ K V P, (CG M0 f (nt ++ [(zr t.1.length, zr t.2.length)]) K V P)[M0.length + 3]? = some (.dic K V) := fun _ _ _ => cg3
        have e7 : ∀ K V P, (CG M0 f (nt ++ [(zr t.1.length, zr t.2.length)]) K V P)[M0.length + 4]? = some (.lst P) := fun _ _ _ => cg4
        have ro := rng_ok (a := (t.1.length : Int) + 1) (c := (t.1.length : Int) + t.2.length + 1) (by omega) (by omega) (by omega) (by omega)
        have hnum : ((t.1.length : Int) + t.2.length + 1 - (t.1.length + 1)).toNat = t.2.length := by omega
        have c1 : ord.length < 1000000 := by omega
        have c2 : min ord.length (atsOf f nt).length < 1000000 := by omega
        rw [F_laid, laid_B, e_fn]
        generalize numB = NB at e3 ⊢
        simp only [CS] at *
        rw [haz] at e3 hal hpl
        simp [h0, g3, any_int', hm, yo, y1, yO, hm1, hm2, e1, e2, e3, e4, e5, e6, e7, cg_s3, cg_s4, pk, pv, hal, hpl, ro, hnum, LIM, c1, c2, -List.map_append]
end
end Lw

namespace Lw
open PySem PySem.Spec PyProof.Rows L2 VL
theorem yinit_ok (M0 : List MO) (s : Int) : F_Yard___init__ [.ob M0.length, .int s] (M0 ++ [.ins [89, 97, 114, 100] [] []]) = some (.ok .non, M0 ++ [yO s s (M0.length + 1) (M0.length + 2), .lst [], .dic [] []]) := by
  have g : ∀ (x : MO) (r : List MO), (M0 ++ x :: r)[M0.length]? = some x := fun x r => by
    rw [List.getElem?_append_right (Nat.le_refl _), Nat.sub_self]; rfl
  have st : ∀ (x y : MO) (r : List MO), (M0 ++ x :: r).set M0.length y = M0 ++ y :: r := fun x y r => by
    rw [List.set_append_right _ _ (Nat.le_refl _), Nat.sub_self]; rfl
  simp [F_Yard___init__, B_Yard___init__, e_fn, g, st, putFn, putFv, yO, LIM]
def rootB : Stm := exprS (callE 5 F_laid (consA (varV 0) (consA (varV 2) (consA (varV 3) (consA (varV 4) (consA (varV 5) nilA))))))
def holdB : Stm := exprS (methE 3 F_Yard_set_word [89, 97, 114, 100] [115, 101, 116, 95, 119, 111, 114, 100] (rawV 2) (consA (valN (bin2 addF (rawV 9) (rawV 7))) (consA (callE 5 F_laid (consA (varV 0) (consA (varV 2) (consA (varV 3) (consA (varV 4) (consA (methE 2 F_Yard_word [89, 97, 114, 100] [119, 111, 114, 100] (rawV 0) (consA (valN (bin2 addF (rawV 8) (rawV 7))) nilA)) nilA)))))) nilA)))
def doneC : C Bool := cmp2 ltF (rawV 6) (opdC (valN (un1 lenF (rawV 4))))
def doneB : Stm := seqS (asgT (.all [8, 9]) (ixE (rawV 4) (varV 6)))
  (seqS (forS (itR2 (pureC (.int 1)) (valN (bin2 addF (opdC (ixE (opdC (methE 2 F_Yard_size_of [89, 97, 114, 100] [115, 105, 122, 101, 95, 111, 102] (rawV 0) (consA (varV 8) nilA))) (pureC (.int 0)))) (opdC (pureC (.int 1)))))) (.one 7) holdB)
  (asgV 6 (valN (bin2 addF (rawV 6) (opdC (pureC (.int 1)))))))
theorem carted_B : B_carted = seqS (asgV 2 (makeE 2 F_Yard___init__ [89, 97, 114, 100] (consA (valO (fldE (rawV 0) [89, 97, 114, 100] [102, 114, 101, 101])) nilA)))
  (seqS (asgV 3 (shrN dnewE))
  (seqS (asgV 4 (shrN (lstE nilA)))
  (seqS (forS (itD (varV 1)) (.one 5) rootB)
  (seqS (asgV 6 (pureC (.int 0)))
  (seqS (whileS doneC doneB)
  (retS (tupE (consA (varV 2) (consA (varV 4) nilA))))))))) := rfl
def cEnv (y : Nat) (RD : D) (L : Nat) (c5 c6 c7 c8 c9 : Cell) : List Cell := [.v (.ob y), .v RD, .v (.ob L), .v (.ob (L + 3)), .v (.ob (L + 4)), c5, c6, c7, c8, c9]
section
variable {M0 : List MO} {s f : Int} {ths nt : List Th} {ord : List Int} {d j y w b : Nat} {h : Int} {RD : D} {c5 c6 c7 c8 c9 : Cell} {roots : List Int}
def nextI (get : Ms → Nat → Option (Option D)) (t : Tgt) (body : Stm) (m i : Nat) (r : Option (Res Fl × Ms)) : Option (Res Fl × Ms) := match r with
      | some (.ok .nx, st2) => forI get t body m (i + 1) st2
      | some (.ok .ct, st2) => forI get t body m (i + 1) st2
      | some (.ok .bk, st2) => some (.ok .nx, st2)
      | some (.ok (.rt d), st2) => some (.ok (.rt d), st2)
      | some (.ex x, st2) => some (.ex x, st2)
      | none => none
theorem forI_cons {get : Ms → Nat → Option (Option D)} {t : Tgt} {body : Stm} {m i : Nat} {st : Ms} {d : D} {env : List Cell} {r : Option (Res Fl × Ms)} (h1 : get st i = some (some d)) (h2 : setT t d st.env = some env) (h3 : body ⟨env, st.M⟩ = r) :
    forI get t body (m + 1) i st = nextI get t body m i r := by
  rw [← h3]
  clear h3
  conv => lhs; unfold forI
  simp only [h1, h2]
  rfl
theorem while_x {c : C Bool} {body : Stm} {m : Nat} {st st1 st2 : Ms} {x : List Nat} (h1 : c st = some (.ok true, st1)) (h2 : body st1 = some (.ex x, st2)) : whileI c body (m + 1) st = some (.ex x, st2) := by
  show bndC c _ st = _
  rw [e_bnd, h1]
  simp only
  rw [h2]
theorem forI_nil {get : Ms → Nat → Option (Option D)} {t : Tgt} {body : Stm} {m i : Nat} {st : Ms} (h1 : get st i = some none) : forI get t body (m + 1) i st = some (.ok .nx, st) := by
  unfold forI
  simp only [h1]
theorem roots_loop (Y : Yd M0 y w b s ths) (hk : ∀ t ∈ ths, tok t) (hn : ths.length < 1000) (s0 : 0 < s) (hR : ∀ env nt ord i, getD' RD ⟨env, CS M0 f nt ord⟩ i = some ((roots.map D.int)[i]?)) :
    ∀ (hs : List Int) (i m : Nat) (ord : List Int) (nt : List Th) (c5 : Cell), roots.drop i = hs → hs.length < m → Good s f ths ord nt 0 0 →
    match visits s ths ord hs with
    | some o => ∃ nt' c5', forI (getD' RD) (.one 5) rootB m i ⟨cEnv y RD M0.length c5 c6 c7 c8 c9, CS M0 f nt ord⟩ = some (.ok .nx, ⟨cEnv y RD M0.length c5' c6 c7 c8 c9, CS M0 f nt' o⟩) ∧ Good s f ths o nt' 0 0
    | none => ∃ env o nt', forI (getD' RD) (.one 5) rootB m i ⟨cEnv y RD M0.length c5 c6 c7 c8 c9, CS M0 f nt ord⟩ = some (.ex noThing, ⟨env, CS M0 f nt' o⟩)
  | [], i, m, ord, nt, c5, hi, hm, G => by
    cases m with
    | zero => omega
    | succ m =>
      refine ⟨nt, c5, forI_nil ?_, G⟩
      rw [hR, List.getElem?_eq_none]
      rw [List.length_map]
      exact List.drop_eq_nil_iff.mp hi
  | h :: hs, i, m, ord, nt, c5, hi, hm, G => by
    cases m with
    | zero => omega
    | succ m =>
      have hg : roots[i]? = some h := by
        have := congrArg (·[0]?) hi
        simpa using this
      have hs' : roots.drop (i + 1) = hs := by
        rw [← List.drop_drop, hi]; rfl
      have L := laid_ok Y hk hn s0 G (Nat.zero_le _) (fun _ => rfl) h
      have hd : getD' RD ⟨cEnv y RD M0.length c5 c6 c7 c8 c9, CS M0 f nt ord⟩ i = some (some (.int h)) := by rw [hR, List.getElem?_map, hg]; rfl
      unfold visits
      cases hv : visit s ths ord h with
      | none =>
        rw [hv] at L
        refine ⟨cEnv y RD M0.length (.v (.int h)) c6 c7 c8 c9, ord, nt, ?_⟩
        rw [forI_cons (r := some (.ex noThing, ⟨cEnv y RD M0.length (.v (.int h)) c6 c7 c8 c9, CS M0 f nt ord⟩)) hd (show setT (.one 5) _ _ = some (cEnv y RD M0.length (.v (.int h)) c6 c7 c8 c9) from rfl) ?_]
        · rfl
        · simp [rootB, cEnv, L]
      | some o1 =>
        rw [hv] at L
        obtain ⟨x, rfl, z, e1, G1, _⟩ := L
        have ih := roots_loop Y hk hn s0 hR hs (i + 1) m (ord ++ x) (nt ++ z) (.v (.int h)) hs' (by simpa using hm) G1
        have st : forI (getD' RD) (.one 5) rootB (m + 1) i ⟨cEnv y RD M0.length c5 c6 c7 c8 c9, CS M0 f nt ord⟩ = forI (getD' RD) (.one 5) rootB m (i + 1) ⟨cEnv y RD M0.length (.v (.int h)) c6 c7 c8 c9, CS M0 f (nt ++ z) (ord ++ x)⟩ := by
          rw [forI_cons (r := some (.ok .nx, ⟨cEnv y RD M0.length (.v (.int h)) c6 c7 c8 c9, CS M0 f (nt ++ z) (ord ++ x)⟩)) hd (show setT (.one 5) _ _ = some (cEnv y RD M0.length (.v (.int h)) c6 c7 c8 c9) from rfl) ?_]
          · rfl
          · simp [rootB, cEnv, e1]
        rw [st]
        exact ih
theorem cs_w {u u' : Th} {l r : List Th} (h : sz u' = sz u) : (CS M0 f (l ++ u :: r) ord).set (M0.length + 1) (.lst ((wordsOf (l ++ u' :: r)).map .int)) = CS M0 f (l ++ u' :: r) ord := by
  have z := szs_mid (l := l) (r := r) h
  unfold CS
  rw [cg_s1 z, ats_szs z]
theorem at_split {α : Type} {l : List α} {i : Nat} {a : α} (h : l[i]? = some a) : ∃ x z, l = x ++ a :: z ∧ x.length = i := by
  obtain ⟨hi, e⟩ := List.getElem?_eq_some_iff.mp h
  refine ⟨l.take i, l.drop (i + 1), ?_, by rw [List.length_take]; omega⟩
  rw [← e, ← List.drop_eq_getElem_cons hi, List.take_append_drop]
theorem nd_idx {l : List Int} (nd : l.Nodup) {i : Nat} {a : Int} (h : l[i]? = some a) : l.idxOf a = i := by
  obtain ⟨x, z, rfl, hl⟩ := at_split h
  have : a ∉ x := fun hm => by
    rw [List.nodup_append] at nd
    exact nd.2.2 a hm a (by simp) rfl
  rw [List.idxOf_append, if_neg this, List.idxOf_cons_self, hl]; omega
theorem Good.mv_at (G : Good s f ths ord nt d j) {i : Nat} {h : Int} (h1 : ord[i]? = some h) : mv s f ths ord h = f + tot (nt.take i) ∧ h ≠ 0 := by
  have hm : h ∈ ord := List.mem_of_getElem? h1
  have h0 : h ≠ 0 := fun z => G.o.nz (z ▸ hm)
  refine ⟨?_, h0⟩
  unfold mv
  rw [if_neg h0, nd_idx G.o.nd h1, tot_szs (take_szs G.szs i)]
theorem hold_loop (Y : Yd M0 y w b s ths) (hk : ∀ t ∈ ths, tok t) (hn : ths.length < 1000) (s0 : 0 < s) {t : Th} (hf : findT s ths h = some t) {new : Int} :
    ∀ (hs : List Int) (j : Nat) (ord : List Int) (nt : List Th) (c5 c7 : Cell), t.1.drop j = hs → Good s f ths ord nt d j → ord[d]? = some h → new = mv s f ths ord h →
    match visits s ths ord hs with
    | some o => ∃ nt' c7', forL (.one 7) holdB ((rngL 1 t.1.length).drop j) ⟨cEnv y RD M0.length c5 c6 c7 (.v (.int h)) (.v (.int new)), CS M0 f nt ord⟩ = some (.ok .nx, ⟨cEnv y RD M0.length c5 c6 c7' (.v (.int h)) (.v (.int new)), CS M0 f nt' o⟩) ∧ Good s f ths o nt' d t.1.length
    | none => ∃ env o nt', forL (.one 7) holdB ((rngL 1 t.1.length).drop j) ⟨cEnv y RD M0.length c5 c6 c7 (.v (.int h)) (.v (.int new)), CS M0 f nt ord⟩ = some (.ex noThing, ⟨env, CS M0 f nt' o⟩)
  | [], j, ord, nt, c5, c7, hj, G, hd, hw => by
    have hl := List.drop_eq_nil_iff.mp hj
    refine ⟨nt, c7, ?_, ?_⟩
    · rw [List.drop_eq_nil_iff.mpr (by rw [rngL_len]; exact hl)]; rfl
    · refine ⟨G.o, G.len, fun i x hx => ?_⟩
      obtain ⟨t', u, h1, h2, h3, h4, h5⟩ := G.th i x hx
      exact ⟨t', u, h1, h2, h3, h4, fun k a q e => h5 k a (by omega) e⟩
  | a :: hs, j, ord, nt, c5, c7, hj, G, hd, hw => by
    have hg : t.1[j]? = some a := by
      have := congrArg (·[0]?) hj
      simpa using this
    have hs' : t.1.drop (j + 1) = hs := by
      rw [← List.drop_drop, hj]; rfl
    have hjl := (List.getElem?_eq_some_iff.mp hg).1
    have hdl := (List.getElem?_eq_some_iff.mp hd).1
    have L := laid_ok Y hk hn s0 G (by omega) (fun z => by omega) a
    have hr : (rngL 1 t.1.length).drop j = .int (1 + j) :: (rngL 1 t.1.length).drop (j + 1) := by
      rw [List.drop_eq_getElem_cons (by rw [rngL_len]; exact hjl)]
      congr 1
      have := rngL_get 1 t.1.length j
      rw [List.getElem?_eq_getElem (by rw [rngL_len]; exact hjl), if_pos hjl] at this
      exact Option.some.inj this
    have yo : ∀ nt ord, (CS M0 f nt ord)[y]? = some (yO s (s + tot ths) w b) := fun nt ord => (cg_old Y).y
    have y1 : ∀ nt ord, (CS M0 f nt ord)[M0.length]? = some (yO f (f + tot nt) (M0.length + 1) (M0.length + 2)) := fun nt ord => cg0
    have e0 : ∀ nt ord, F_Yard_word [.ob y, .int (h + (1 + (j : Int)))] (CS M0 f nt ord) = some (.ok (.int a), CS M0 f nt ord) := fun nt ord => wordF (cg_old Y) hf (by rw [List.getElem?_append_left hjl]; exact hg)
    unfold visits
    rw [hr]
    cases hv : visit s ths ord a with
    | none =>
      rw [hv] at L
      refine ⟨cEnv y RD M0.length c5 c6 (.v (.int (1 + j))) (.v (.int h)) (.v (.int new)), ord, nt, ?_⟩
      show (match setT (.one 7) (D.int (1 + (j : Int))) (cEnv y RD M0.length c5 c6 c7 (.v (.int h)) (.v (.int new))) with
      | some env => _
      | none => none) = _
      have : holdB ⟨cEnv y RD M0.length c5 c6 (.v (.int (1 + j))) (.v (.int h)) (.v (.int new)), CS M0 f nt ord⟩ = some (.ex noThing, ⟨cEnv y RD M0.length c5 c6 (.v (.int (1 + j))) (.v (.int h)) (.v (.int new)), CS M0 f nt ord⟩) := by
        simp [holdB, cEnv, yo, y1, yO, hm3, hm4, e0, L]
      show (match holdB ⟨cEnv y RD M0.length c5 c6 (.v (.int (1 + j))) (.v (.int h)) (.v (.int new)), CS M0 f nt ord⟩ with
        | some (.ok .nx, st2) => forL (.one 7) holdB _ st2
        | some (.ok .ct, st2) => forL (.one 7) holdB _ st2
        | some (.ok .bk, st2) => some (.ok .nx, st2)
        | some (.ok (.rt d), st2) => some (.ok (.rt d), st2)
        | some (.ex x, st2) => some (.ex x, st2)
        | none => none) = _
      rw [this]
    | some o1 =>
      rw [hv] at L
      obtain ⟨x, rfl, z, e1, G1, hm1⟩ := L
      have hd1 : (ord ++ x)[d]? = some h := by rw [List.getElem?_append_left hdl]; exact hd
      obtain ⟨t', u, q1, q2, q3, q4, _⟩ := G1.th d h hd1
      rw [hf] at q1
      cases q1
      have hm : h = 0 ∨ h ∈ ord := .inr (List.mem_of_getElem? hd)
      have hw1 : new = mv s f ths (ord ++ x) h := by rw [mv_app hm]; exact hw
      obtain ⟨l, r, hnt, hll⟩ := at_split q2
      have hmv := (G1.mv_at hd1).1
      have htk : (nt ++ z).take d = l := by rw [hnt, List.take_left' hll]
      rw [htk, ← hw1] at hmv
      have N1 : Yd (CS M0 f (l ++ u :: r) (ord ++ x)) M0.length (M0.length + 1) (M0.length + 2) f (l ++ u :: r) := cg_new
      have e2 := setH (k := j) (v := mv s f ths (ord ++ x) a) N1 (by rw [q3]; exact hjl)
      rw [← hmv, cs_w sz_h] at e2
      have G2 := G1.step hd1 hf q2 hg hm1
      have hset : (nt ++ z).set d (u.1.set j (mv s f ths (ord ++ x) a), u.2) = l ++ (u.1.set j (mv s f ths (ord ++ x) a), u.2) :: r := by
        rw [hnt, ← hll, List.set_append_right _ _ (Nat.le_refl _), Nat.sub_self]; rfl
      rw [hset] at G2
      rw [hnt] at e1
      have ih := hold_loop Y hk hn s0 hf (new := new) hs (j + 1) (ord ++ x) _ c5 (.v (.int (1 + j))) hs' G2 hd1 hw1
      have st : forL (.one 7) holdB (.int (1 + j) :: (rngL 1 t.1.length).drop (j + 1)) ⟨cEnv y RD M0.length c5 c6 c7 (.v (.int h)) (.v (.int new)), CS M0 f nt ord⟩ = forL (.one 7) holdB ((rngL 1 t.1.length).drop (j + 1)) ⟨cEnv y RD M0.length c5 c6 (.v (.int (1 + j))) (.v (.int h)) (.v (.int new)), CS M0 f (l ++ (u.1.set j (mv s f ths (ord ++ x) a), u.2) :: r) (ord ++ x)⟩ := by
        refine forL_cons (env := cEnv y RD M0.length c5 c6 (.v (.int (1 + j))) (.v (.int h)) (.v (.int new))) rfl ?_
        simp [holdB, cEnv, yo, y1, yO, hm3, hm4, e0, e1, e2]
      rw [st]
      exact ih
theorem done_loop (Y : Yd M0 y w b s ths) (hk : ∀ t ∈ ths, tok t) (hn : ths.length < 1000) (s0 : 0 < s) :
    ∀ (n m d : Nat) (ord : List Int) (nt : List Th) (c7 c8 c9 : Cell), n ≤ m → ths.length + 1 < n + d → Good s f ths ord nt d 0 → d ≤ ord.length →
    match goesO s ths n ord d with
    | some o => ∃ nt' c6' c7' c8' c9', whileI doneC doneB m ⟨cEnv y RD M0.length c5 (.v (.int d)) c7 c8 c9, CS M0 f nt ord⟩ = some (.ok .nx, ⟨cEnv y RD M0.length c5 c6' c7' c8' c9', CS M0 f nt' o⟩) ∧ Good s f ths o nt' o.length 0
    | none => ∃ env o nt', whileI doneC doneB m ⟨cEnv y RD M0.length c5 (.v (.int d)) c7 c8 c9, CS M0 f nt ord⟩ = some (.ex noThing, ⟨env, CS M0 f nt' o⟩)
  | 0, m, d, ord, nt, c7, c8, c9, hm, hf, G, hd => by
    have := G.o.le
    omega
  | n + 1, m, d, ord, nt, c7, c8, c9, hm, hf, G, hd => by
    obtain ⟨m, rfl⟩ : ∃ k, m = k + 1 := ⟨m - 1, by omega⟩
    have g4 : (CS M0 f nt ord)[M0.length + 4]? = some (.lst ((ord.zip (atsOf f nt)).map pairD)) := cg4
    have hzl : ((ord.zip (atsOf f nt)).map pairD).length = ord.length := by
      rw [List.length_map, List.length_zip, ats_len, G.len]; omega
    unfold goesO
    by_cases hdl : d = ord.length
    · subst hdl
      rw [List.getElem?_eq_none (Nat.le_refl _)]
      refine ⟨nt, .v (.int ord.length), c7, c8, c9, while_f ?_, G⟩
      simp only [doneC]
      simp [cEnv, g4, ats_len, G.len]
    · have hlt : d < ord.length := by omega
      have hc : doneC ⟨cEnv y RD M0.length c5 (.v (.int d)) c7 c8 c9, CS M0 f nt ord⟩ = some (.ok true, ⟨cEnv y RD M0.length c5 (.v (.int d)) c7 c8 c9, CS M0 f nt ord⟩) := by
        simp only [doneC]
        simp [cEnv, g4, ats_len, G.len, hlt]
      obtain ⟨h, hh⟩ : ∃ h, ord[d]? = some h := ⟨_, List.getElem?_eq_getElem hlt⟩
      obtain ⟨t, u, hf', q2, q3, q4, _⟩ := G.th d h hh
      obtain ⟨hmv, h0⟩ := G.mv_at hh
      have hp : ((ord.zip (atsOf f nt)).map pairD)[d]? = some (.tup [.int h, .int (mv s f ths ord h)]) := by
        rw [List.getElem?_map, (List.getElem?_zip_eq_some (z := (h, mv s f ths ord h))).mpr ⟨hh, by show (atsOf f nt)[d]? = some (mv s f ths ord h); rw [ats_get (by rw [G.len]; exact hlt), hmv]⟩]
        rfl
      have ht := hk t (findT_in hf').2
      have e1 : F_Yard_size_of [.ob y, .int h] (CS M0 f nt ord) = _ := sizeU_ok (cg_old Y) hk hf'
      have yo : (CS M0 f nt ord)[y]? = some (yO s (s + tot ths) w b) := (cg_old Y).y
      have ro := rng_ok (a := 1) (c := (t.1.length : Int) + 1) (by omega) (by omega) (by omega) (by have := ht.1; omega)
      have hnum : ((t.1.length : Int) + 1 - 1).toNat = t.1.length := by omega
      have L := hold_loop (f := f) (RD := RD) (d := d) (c6 := .v (.int d)) Y hk hn s0 hf' (new := mv s f ths ord h) t.1 0 ord nt c5 c7 rfl G hh rfl
      have h1 : hold1 s ths h = t.1 := by unfold hold1; rw [hf']
      rw [hh]
      simp only [h1]
      rw [List.drop_zero] at L
      cases hv : visits s ths ord t.1 with
      | none =>
        rw [hv] at L
        obtain ⟨env, o, nt', e2⟩ := L
        refine ⟨env, o, nt', ?_⟩
        have : doneB ⟨cEnv y RD M0.length c5 (.v (.int d)) c7 c8 c9, CS M0 f nt ord⟩ = some (.ex noThing, ⟨env, CS M0 f nt' o⟩) := by
          unfold doneB
          generalize holdB = HB at e2 ⊢
          simp only [cEnv] at e2 ⊢
          simp [g4, hp, yo, yO, hm1, e1, ro, e2]
        exact while_x hc this
      | some o1 =>
        rw [hv] at L
        obtain ⟨nt1, c7', e2, G1⟩ := L
        obtain ⟨x, rfl⟩ := visits_pre hv
        have hh1 : (ord ++ x)[d]? = some h := by rw [List.getElem?_append_left hlt]; exact hh
        have G2 := G1.next hh1 hf' (Nat.le_refl _)
        have hB : doneB ⟨cEnv y RD M0.length c5 (.v (.int d)) c7 c8 c9, CS M0 f nt ord⟩ = some (.ok .nx, ⟨cEnv y RD M0.length c5 (.v (.int ((d + 1 : Nat) : Int))) c7' (.v (.int h)) (.v (.int (mv s f ths ord h))), CS M0 f nt1 (ord ++ x)⟩) := by
          unfold doneB
          generalize holdB = HB at e2 ⊢
          simp only [cEnv] at e2 ⊢
          simp [g4, hp, yo, yO, hm1, e1, ro, e2]
        rw [while_t hc hB]
        exact done_loop Y hk hn s0 n m (d + 1) (ord ++ x) nt1 _ _ _ (by omega) (by omega) G2 (by rw [List.length_append]; omega)
theorem carted_ok (Y : Yd M0 y w b s ths) (hk : ∀ t ∈ ths, tok t) (hn : ths.length < 1000) (s0 : 0 < s) (hrl : roots.length < 1000000) (hs : ∀ env nt ord, seqD ⟨env, CS M0 (s + tot ths) nt ord⟩ RD = some (roots.map D.int)) :
    match cartO s ths roots with
    | some o => ∃ nt, F_carted [.ob y, RD] M0 = some (.ok (.tup [.ob M0.length, .ob (M0.length + 4)]), CS M0 (s + tot ths) nt o) ∧ Good s (s + tot ths) ths o nt o.length 0
    | none => ∃ Z, F_carted [.ob y, RD] M0 = some (.ex noThing, M0 ++ Z) := by
  have hR : ∀ env nt ord i, getD' RD ⟨env, CS M0 (s + tot ths) nt ord⟩ i = some ((roots.map D.int)[i]?) := fun env nt ord i => by
    unfold getD'
    rw [hs]
  have ey := yinit_ok M0 (s + tot ths)
  have c0 : M0 ++ [yO (s + tot ths) (s + tot ths) (M0.length + 1) (M0.length + 2), .lst [], .dic [] [], .dic [] [], .lst []] = CS M0 (s + tot ths) [] [] := by
    show _ = M0 ++ [yO (s + tot ths) (s + tot ths + 0) (M0.length + 1) (M0.length + 2), _, _, _, _]
    rw [Int.add_zero]; rfl
  have hs0 := hs (cEnv y RD M0.length .un .un .un .un .un) [] []
  have L := roots_loop (f := s + tot ths) (c6 := .un) (c7 := .un) (c8 := .un) (c9 := .un) Y hk hn s0 hR roots 0 (roots.length + 1) [] [] .un rfl (by omega) good_nil
  unfold cartO
  cases hv : visits s ths [] roots with
  | none =>
    rw [hv] at L
    obtain ⟨env, o, nt', e1⟩ := L
    refine ⟨[yO (s + tot ths) (s + tot ths + tot nt') (M0.length + 1) (M0.length + 2), .lst ((wordsOf nt').map .int), .dic ((atsOf (s + tot ths) nt').map .int) (nt'.map fun _ => .bl true), .dic (o.map .int) ((atsOf (s + tot ths) nt').map .int), .lst ((o.zip (atsOf (s + tot ths) nt')).map pairD)], ?_⟩
    rw [F_carted, carted_B, e_fn]
    generalize rootB = RB at e1 ⊢
    generalize doneB = DB
    generalize doneC = DC
    simp only [cEnv] at e1 hs0
    have yo : M0[y]? = some (yO s (s + tot ths) w b) := Y.y
    rw [← c0] at e1 hs0
    simp [yo, yO, lookF, ey, List.append_assoc, LIM] at e1 hs0 ⊢
    simp [hs0, e1]
    rfl
  | some o1 =>
    rw [hv] at L
    obtain ⟨nt1, c5, e1, G1⟩ := L
    have L2 := done_loop (f := s + tot ths) (RD := RD) (c5 := c5) Y hk hn s0 (ths.length + 2) 1000000 0 o1 nt1 .un .un .un (by omega) (by omega) G1 (Nat.zero_le _)
    show (match goesO s ths (ths.length + 2) o1 0 with
      | some o => _
      | none => _)
    have yo : M0[y]? = some (yO s (s + tot ths) w b) := Y.y
    cases hv2 : goesO s ths (ths.length + 2) o1 0 with
    | none =>
      rw [hv2] at L2
      obtain ⟨env, o, nt', e2⟩ := L2
      refine ⟨[yO (s + tot ths) (s + tot ths + tot nt') (M0.length + 1) (M0.length + 2), .lst ((wordsOf nt').map .int), .dic ((atsOf (s + tot ths) nt').map .int) (nt'.map fun _ => .bl true), .dic (o.map .int) ((atsOf (s + tot ths) nt').map .int), .lst ((o.zip (atsOf (s + tot ths) nt')).map pairD)], ?_⟩
      rw [F_carted, carted_B, e_fn]
      generalize rootB = RB at e1 ⊢
      generalize doneB = DB at e2 ⊢
      generalize doneC = DC at e2 ⊢
      simp only [cEnv] at e1 e2 hs0
      rw [← c0] at e1 hs0
      simp [yo, yO, lookF, ey, List.append_assoc, LIM] at e1 hs0 ⊢
      simp [hs0, e1]
      rw [Int.natCast_zero] at e2
      simp [e2]
      rfl
    | some o2 =>
      rw [hv2] at L2
      obtain ⟨nt2, c6', c7', c8', c9', e2, G2⟩ := L2
      refine ⟨nt2, ?_, G2⟩
      rw [F_carted, carted_B, e_fn]
      generalize rootB = RB at e1 ⊢
      generalize doneB = DB at e2 ⊢
      generalize doneC = DC at e2 ⊢
      simp only [cEnv] at e1 e2 hs0
      rw [← c0] at e1 hs0
      simp [yo, yO, lookF, ey, List.append_assoc, LIM] at e1 hs0 ⊢
      simp [hs0, e1]
      rw [Int.natCast_zero] at e2
      simp [e2, LIM]
end
end Lw

namespace Lw
open PySem PySem.Spec PyProof.Rows L2 VL
/-! the things kept by the law -/
def thD : Int → List Th → List (Nat × Nat) → List D
  | s, t :: r, p :: rs => .tup [.int s, .ob p.1, .ob p.2] :: thD (s + sz t) r rs
  | _, _, _ => []
theorem thD_len : ∀ {ths : List Th} {rs : List (Nat × Nat)} {s : Int}, rs.length = ths.length → (thD s ths rs).length = ths.length
  | [], [], _, _ => rfl
  | [], p :: rs, _, h => by cases h
  | t :: r, [], _, h => by cases h
  | t :: r, p :: rs, s, h => by
    show (thD (s + sz t) r rs).length + 1 = r.length + 1
    rw [thD_len (by simpa using h)]
theorem thD_get : ∀ {l r : List Th} {t : Th} {rs : List (Nat × Nat)} {s : Int}, rs.length = (l ++ t :: r).length → ∃ p, rs[l.length]? = some p ∧ (thD s (l ++ t :: r) rs)[l.length]? = some (.tup [.int (s + tot l), .ob p.1, .ob p.2])
  | [], r, t, [], _, h => by cases h
  | [], r, t, p :: rs, s, h => ⟨p, rfl, by show some _ = some _; unfold tot; rw [Int.add_zero]⟩
  | a :: l, r, t, [], _, h => by cases h
  | a :: l, r, t, p :: rs, s, h => by
    obtain ⟨q, h1, h2⟩ := thD_get (l := l) (r := r) (t := t) (rs := rs) (s := s + sz a) (by simpa using h)
    refine ⟨q, by simpa using h1, ?_⟩
    show (_ :: thD (s + sz a) (l ++ t :: r) rs)[l.length + 1]? = _
    rw [List.getElem?_cons_succ, h2]
    unfold tot
    rw [Int.add_assoc]
    cases l <;> rfl
theorem thD_app : ∀ {ths : List Th} {rs : List (Nat × Nat)} {s : Int} {t : Th} {p : Nat × Nat}, rs.length = ths.length → thD s (ths ++ [t]) (rs ++ [p]) = thD s ths rs ++ [.tup [.int (s + tot ths), .ob p.1, .ob p.2]]
  | [], [], s, t, p, _ => by show [_] = [] ++ [_]; unfold tot; rw [Int.add_zero]; rfl
  | [], p :: rs, _, _, _, h => by cases h
  | t :: r, [], _, _, _, h => by cases h
  | a :: r, q :: rs, s, t, p, h => by
    show _ :: thD (s + sz a) (r ++ [t]) (rs ++ [p]) = _ :: (thD (s + sz a) r rs ++ _)
    rw [thD_app (by simpa using h), Int.add_assoc]
    rfl
theorem thD_sz : ∀ {l r : List Th} {t u : Th} {rs : List (Nat × Nat)} {s : Int}, sz t = sz u → thD s (l ++ t :: r) rs = thD s (l ++ u :: r) rs
  | [], r, t, u, [], _, h => rfl
  | [], r, t, u, p :: rs, s, h => by show _ :: thD (s + sz t) r rs = _ :: thD (s + sz u) r rs; rw [h]
  | a :: l, r, t, u, [], _, h => rfl
  | a :: l, r, t, u, p :: rs, s, h => by show _ :: thD (s + sz a) (l ++ t :: r) rs = _ :: thD (s + sz a) (l ++ u :: r) rs; rw [thD_sz h]
structure Ts (M : List MO) (t : Nat) (s : Int) (ths : List Th) (rs : List (Nat × Nat)) : Prop where
  t : M[t]? = some (.lst (thD s ths rs))
  l : rs.length = ths.length
  r : ∀ (k : Nat) (p : Nat × Nat) (a : Th), rs[k]? = some p → ths[k]? = some a → M[p.1]? = some (.lst (a.1.map .int)) ∧ M[p.2]? = some (.lst (a.2.map .int))
section
variable {M M1 : List MO} {y w b t : Nat} {s x : Int} {ths l r : List Th} {rs : List (Nat × Nat)} {a : Th}
theorem split_at : ∀ {ths : List Th} {i : Nat}, i < ths.length → ∃ l a r, ths = l ++ a :: r ∧ l.length = i
  | a :: r, 0, _ => ⟨[], a, r, rfl, rfl⟩
  | b :: ths, i + 1, h => by
    obtain ⟨l, a, r, rfl, rfl⟩ := split_at (ths := ths) (i := i) (by simpa using h)
    exact ⟨b :: l, a, r, rfl, rfl⟩
theorem rngOk_ok {n : Nat} (h : n < 1000) : rngOk 0 (n : Int) = true := by
  simp [rngOk]; omega
theorem thD_at (T : Ts M t s (l ++ a :: r) rs) : ∃ i j : Nat, M[i]? = some (.lst (a.1.map .int)) ∧ M[j]? = some (.lst (a.2.map .int)) ∧ rs[l.length]? = some (i, j) ∧ (thD s (l ++ a :: r) rs)[l.length]? = some (.tup [.int (s + tot l), .ob i, .ob j]) := by
  obtain ⟨p, h1, h2⟩ := thD_get (s := s) T.l
  obtain ⟨h3, h4⟩ := T.r l.length p a h1 (by rw [List.getElem?_append_right (Nat.le_refl _), Nat.sub_self]; rfl)
  exact ⟨p.1, p.2, h3, h4, h1, h2⟩
/-- who owns what -/
structure Ow (o : Nat → Nat) (c y w b t : Nat) (rs : List (Nat × Nat)) : Prop where
  y : o y = c + 1
  w : o w = c + 9
  b : o b = c + 17
  t : o t = c + 25
  r : ∀ (k : Nat) (p : Nat × Nat), rs[k]? = some p → o p.1 = c + 33 + 16 * k ∧ o p.2 = c + 41 + 16 * k
theorem ats_sz : ∀ {l r : List Th} {a u : Th} {s : Int}, sz a = sz u → atsOf s (l ++ a :: r) = atsOf s (l ++ u :: r)
  | [], r, a, u, s, h => by show s :: atsOf (s + sz a) r = s :: atsOf (s + sz u) r; rw [h]
  | b :: l, r, a, u, s, h => by show s :: atsOf (s + sz b) (l ++ a :: r) = s :: atsOf (s + sz b) (l ++ u :: r); rw [ats_sz h]
theorem tot_sz {l r : List Th} {a u : Th} (h : sz a = sz u) : tot (l ++ a :: r) = tot (l ++ u :: r) := by
  rw [tot_app, tot_app]
  show tot l + (sz a + tot r) = tot l + (sz u + tot r)
  rw [h]
/-- a word set, and the list of the law's that stands for it -/
theorem put_ok {o : Nat → Nat} {c : Nat} {u : Th} {n : Nat} {ws : List Int} (Y : Yd M y w b s (l ++ a :: r)) (T : Ts M t s (l ++ a :: r) rs) (O : Ow o c y w b t rs) (h1 : u.1.length = a.1.length) (h2 : u.2.length = a.2.length)
    (hn : ∃ p, rs[l.length]? = some p ∧ ((n = p.1 ∧ ws = u.1 ∧ u.2 = a.2) ∨ (n = p.2 ∧ ws = u.2 ∧ u.1 = a.1))) :
    Yd ((M.set w (.lst ((wordsOf (l ++ u :: r)).map .int))).set n (.lst (ws.map .int))) y w b s (l ++ u :: r) ∧ Ts ((M.set w (.lst ((wordsOf (l ++ u :: r)).map .int))).set n (.lst (ws.map .int))) t s (l ++ u :: r) rs ∧
      ∀ m, (∀ k, o m ≠ c + 1 + 8 * k) → ((M.set w (.lst ((wordsOf (l ++ u :: r)).map .int))).set n (.lst (ws.map .int)))[m]? = M[m]? := by
  obtain ⟨p, hp, hn⟩ := hn
  have hs : sz a = sz u := by unfold sz; rw [h1, h2]
  have hol := O.r _ _ hp
  have on : ∃ k, o n = c + 33 + 8 * k := by
    rcases hn with ⟨rfl, _⟩ | ⟨rfl, _⟩
    · exact ⟨2 * l.length, by omega⟩
    · exact ⟨2 * l.length + 1, by omega⟩
  obtain ⟨kn, on⟩ := on
  have nw : n ≠ w := fun z => by have := O.w; rw [z] at on; omega
  have ny : n ≠ y := fun z => by have := O.y; rw [z] at on; omega
  have nb : n ≠ b := fun z => by have := O.b; rw [z] at on; omega
  have nt : n ≠ t := fun z => by have := O.t; rw [z] at on; omega
  have wy : w ≠ y := fun z => by have := O.y; have := O.w; rw [z] at this; omega
  have wb : w ≠ b := fun z => by have := O.b; have := O.w; rw [z] at this; omega
  have wt : w ≠ t := fun z => by have := O.t; have := O.w; rw [z] at this; omega
  have hlw := (List.getElem?_eq_some_iff.mp Y.w).1
  obtain ⟨t1, t2⟩ := T.r l.length p a hp (by rw [List.getElem?_append_right (Nat.le_refl _), Nat.sub_self]; rfl)
  have hln : n < M.length := by
    rcases hn with ⟨rfl, _⟩ | ⟨rfl, _⟩
    · exact (List.getElem?_eq_some_iff.mp t1).1
    · exact (List.getElem?_eq_some_iff.mp t2).1
  have get : ∀ m, m ≠ w → m ≠ n → ((M.set w (.lst ((wordsOf (l ++ u :: r)).map .int))).set n (.lst (ws.map .int)))[m]? = M[m]? := fun m q1 q2 => by
    rw [List.getElem?_set_ne (Ne.symm q2), List.getElem?_set_ne (Ne.symm q1)]
  refine ⟨⟨?_, ?_, ?_⟩, ⟨?_, ?_, ?_⟩, fun m hm => get m (fun z => ?_) (fun z => ?_)⟩
  · rw [get y (Ne.symm wy) (Ne.symm ny), Y.y, tot_sz hs]
  · rw [List.getElem?_set_ne nw, List.getElem?_set_self hlw]
  · rw [get b (Ne.symm wb) (Ne.symm nb), Y.b, ats_sz hs]
    simp
  · rw [get t (Ne.symm wt) (Ne.symm nt), T.t, thD_sz hs]
  · rw [T.l]; simp
  · intro k q d hq hd
    have oq := O.r k q hq
    have q1w : q.1 ≠ w := fun z => by have := O.w; rw [z] at oq; omega
    have q2w : q.2 ≠ w := fun z => by have := O.w; rw [z] at oq; omega
    by_cases hk : k = l.length
    · subst hk
      rw [hp] at hq
      cases hq
      rw [List.getElem?_append_right (Nat.le_refl _), Nat.sub_self] at hd
      cases hd
      have p12 : p.1 ≠ p.2 := fun z => by rw [z] at oq; omega
      rcases hn with ⟨rfl, rfl, e⟩ | ⟨rfl, rfl, e⟩
      · refine ⟨List.getElem?_set_self (by simpa using hln), ?_⟩
        rw [get _ q2w (Ne.symm p12), t2, e]
      · refine ⟨?_, List.getElem?_set_self (by simpa using hln)⟩
        rw [get _ q1w p12, t1, e]
    · have hd' : (l ++ a :: r)[k]? = some d := by
        by_cases hkl : k < l.length
        · rw [List.getElem?_append_left hkl] at hd ⊢; exact hd
        · rw [List.getElem?_append_right (by omega)] at hd ⊢
          obtain ⟨j, hj⟩ : ∃ j, k - l.length = j + 1 := ⟨k - l.length - 1, by omega⟩
          rw [hj] at hd ⊢
          exact hd
      obtain ⟨g1, g2⟩ := T.r k q d hq hd'
      have n1 : q.1 ≠ n := fun z => by
        rcases hn with ⟨rfl, _⟩ | ⟨rfl, _⟩
        · rw [z] at oq; omega
        · rw [z] at oq; omega
      have n2 : q.2 ≠ n := fun z => by
        rcases hn with ⟨rfl, _⟩ | ⟨rfl, _⟩
        · rw [z] at oq; omega
        · rw [z] at oq; omega
      rw [get _ q1w n1, get _ q2w n2]
      exact ⟨g1, g2⟩
  · subst z
    exact hm 1 O.w
  · subst z
    exact hm (4 + kn) (by omega)
theorem Ts.fr (T : Ts M t s ths rs) (h1 : M1[t]? = M[t]?) (h2 : ∀ (k : Nat) (p : Nat × Nat), rs[k]? = some p → M1[p.1]? = M[p.1]? ∧ M1[p.2]? = M[p.2]?) : Ts M1 t s ths rs :=
  ⟨h1.trans T.t, T.l, fun k p d hp hd => by
    obtain ⟨g1, g2⟩ := T.r k p d hp hd
    obtain ⟨e1, e2⟩ := h2 k p hp
    rw [e1, e2]
    exact ⟨g1, g2⟩⟩
theorem Yd.fr (Y : Yd M y w b s ths) (h1 : M1[y]? = M[y]?) (h2 : M1[w]? = M[w]?) (h3 : M1[b]? = M[b]?) : Yd M1 y w b s ths := ⟨h1.trans Y.y, h2.trans Y.w, h3.trans Y.b⟩
theorem tok_set {k : Nat} {v : Int} (h : tok a) : tok (a.1.set k v, a.2) ∧ tok (a.1, a.2.set k v) := by
  unfold tok at *
  simp only [List.length_set]
  exact ⟨h, h⟩
end
structure Sd (o : Nat → Nat) (M : List MO) (c y w b t : Nat) (s : Int) (ths : List Th) (rs : List (Nat × Nat)) : Prop where
  Y : Yd M y w b s ths
  T : Ts M t s ths rs
  O : Ow o c y w b t rs
  k : ∀ a ∈ ths, tok a
section
variable {o o' : Nat → Nat} {M M' : List MO} {c y w b t : Nat} {s : Int} {ths : List Th} {rs : List (Nat × Nat)}
theorem Sd.fr (S : Sd o M c y w b t s ths rs) (h : ∀ m k, o m = c + 1 + 8 * k → M'[m]? = M[m]?) : Sd o M' c y w b t s ths rs :=
  ⟨S.Y.fr (h y 0 S.O.y) (h w 1 S.O.w) (h b 2 S.O.b), S.T.fr (h t 3 S.O.t) fun k p hp => by
    obtain ⟨h1, h2⟩ := S.O.r k p hp
    exact ⟨h _ (4 + 2 * k) (by omega), h _ (5 + 2 * k) (by omega)⟩, S.O, S.k⟩
theorem Sd.lt (S : Sd o M c y w b t s ths rs) : y < M.length ∧ w < M.length ∧ b < M.length ∧ t < M.length ∧ ∀ (k : Nat) (p : Nat × Nat), rs[k]? = some p → p.1 < M.length ∧ p.2 < M.length :=
  ⟨(List.getElem?_eq_some_iff.mp S.Y.y).1, (List.getElem?_eq_some_iff.mp S.Y.w).1, (List.getElem?_eq_some_iff.mp S.Y.b).1, (List.getElem?_eq_some_iff.mp S.T.t).1, fun k p hp => by
    have hk := (List.getElem?_eq_some_iff.mp hp).1
    rw [S.T.l] at hk
    obtain ⟨h1, h2⟩ := S.T.r k p _ hp (List.getElem?_eq_getElem hk)
    exact ⟨(List.getElem?_eq_some_iff.mp h1).1, (List.getElem?_eq_some_iff.mp h2).1⟩⟩
theorem Sd.ow (S : Sd o M c y w b t s ths rs) (h : ∀ m, m < M.length → o' m = o m) : Sd o' M c y w b t s ths rs := by
  obtain ⟨h1, h2, h3, h4, h5⟩ := S.lt
  exact ⟨S.Y, S.T, ⟨by rw [h _ h1]; exact S.O.y, by rw [h _ h2]; exact S.O.w, by rw [h _ h3]; exact S.O.b, by rw [h _ h4]; exact S.O.t, fun k p hp => by
    obtain ⟨g1, g2⟩ := h5 k p hp
    rw [h _ g1, h _ g2]
    exact S.O.r k p hp⟩, S.k⟩
end
end Lw

namespace Lw
open PySem PySem.Spec PyProof.Rows L2 VL
theorem draw_eq : F_law_draw = drawF := rfl
theorem bag_eq : F_law_bag = bagF := rfl
/-- what may change: the bag, and the houses C; what was keeps its owner -/
structure FrH (C : Nat → Prop) (o : Nat → Nat) (M : List MO) (o' : Nat → Nat) (M' : List MO) : Prop where
  l : M.length ≤ M'.length
  ow : ∀ m, m < M.length → o' m = o m
  ms : ∀ m, m < M.length → m ≠ 0 → (∀ c k, C c → o m ≠ c + 1 + 8 * k) → M'[m]? = M[m]?
section
variable {C : Nat → Prop} {o o1 o2 : Nat → Nat} {M M1 M2 : List MO} {c y w b t : Nat} {s : Int} {ths l r : List Th} {rs : List (Nat × Nat)} {a : Th}
theorem FrH.refl : FrH C o M o M := ⟨Nat.le_refl _, fun _ _ => rfl, fun _ _ _ _ => rfl⟩
theorem FrH.trans (h : FrH C o M o1 M1) (g : FrH C o1 M1 o2 M2) : FrH C o M o2 M2 :=
  ⟨Nat.le_trans h.l g.l, fun m hm => by rw [g.ow m (Nat.lt_of_lt_of_le hm h.l), h.ow m hm], fun m hm h0 hc => by
    rw [g.ms m (Nat.lt_of_lt_of_le hm h.l) h0 (fun c k q => by rw [h.ow m hm]; exact hc c k q), h.ms m hm h0 hc]⟩
theorem FrH.wide {C' : Nat → Prop} (h : FrH C o M o1 M1) (hC : ∀ c, C c → C' c) : FrH C' o M o1 M1 := ⟨h.l, h.ow, fun m hm h0 hc => h.ms m hm h0 fun c k q => hc c k (hC c q)⟩
theorem Sd.keep (S : Sd o M c y w b t s ths rs) (h : FrH C o M o1 M1) (o0 : o 0 = 0) (hc : ∀ c', C c' → c' ≠ c ∧ c' < 8) (c8 : c < 8) : Sd o1 M1 c y w b t s ths rs := by
  obtain ⟨h1, h2, h3, h4, h5⟩ := S.lt
  have eq : ∀ m k, m < M.length → o m = c + 1 + 8 * k → M1[m]? = M[m]? := fun m k hm hk => h.ms m hm (fun z => by rw [z, o0] at hk; omega) fun c' k' q z => by
    have := hc c' q
    omega
  refine ⟨S.Y.fr (eq y 0 h1 S.O.y) (eq w 1 h2 S.O.w) (eq b 2 h3 S.O.b), S.T.fr (eq t 3 h4 S.O.t) fun k p hp => ?_, ⟨by rw [h.ow _ h1]; exact S.O.y, by rw [h.ow _ h2]; exact S.O.w, by rw [h.ow _ h3]; exact S.O.b, by rw [h.ow _ h4]; exact S.O.t, fun k p hp => ?_⟩, S.k⟩
  · obtain ⟨g1, g2⟩ := S.O.r k p hp
    obtain ⟨l1, l2⟩ := h5 k p hp
    exact ⟨eq _ (4 + 2 * k) l1 (by omega), eq _ (5 + 2 * k) l2 (by omega)⟩
  · obtain ⟨l1, l2⟩ := h5 k p hp
    rw [h.ow _ l1, h.ow _ l2]
    exact S.O.r k p hp
/-- the bag alone -/
theorem fr_bag {x x' : MO} {r : List MO} : FrH C o (x :: r) o (x' :: r) := ⟨Nat.le_refl _, fun _ _ => rfl, fun m hm h0 _ => by
  cases m with
  | zero => exact absurd rfl h0
  | succ m => rfl⟩
/-- something behind -/
theorem fr_app (Z : List MO) : FrH C o M o (M ++ Z) := ⟨by rw [List.length_append]; omega, fun _ _ => rfl, fun m hm _ _ => List.getElem?_append_left hm⟩
theorem Sd.bag {x x' : MO} {r : List MO} (S : Sd o (x :: r) c y w b t s ths rs) (o0 : o 0 = 0) (c8 : c < 8) : Sd o (x' :: r) c y w b t s ths rs :=
  S.keep (C := fun _ => False) fr_bag o0 (fun _ h => h.elim) c8
theorem Sd.ne (S : Sd o M c y w b t s ths rs) : y ≠ b ∧ w ≠ b ∧ y ≠ w ∧ t ≠ y ∧ t ≠ w ∧ t ≠ b := by
  have h1 := S.O.y
  have h2 := S.O.w
  have h3 := S.O.b
  have h4 := S.O.t
  refine ⟨fun z => ?_, fun z => ?_, fun z => ?_, fun z => ?_, fun z => ?_, fun z => ?_⟩ <;> (have := congrArg o z; omega)
/-- a thing made, and the law's own word of it -/
theorem add_ok (S : Sd o M c y w b t s ths rs) (o0 : o 0 = 0) (hM : 0 < M.length) (hn : ths.length < 900) {h m : Nat} (hh : h < 10) (hm : m < 10) :
    ∃ M1, F_Yard_make [.ob y, .int h, .int m] M = some (.ok (.int (s + tot ths)), M1) ∧ M1.length = M.length ∧ M1[t]? = some (.lst (thD s ths rs)) ∧
      ∃ o', o' 0 = 0 ∧ Sd o' ((M1 ++ [MO.lst ((zr h).map .int), MO.lst ((zr m).map .int)]).set t (MO.lst (thD s ths rs ++ [D.tup [.int (s + tot ths), .ob M.length, .ob (M.length + 1)]]))) c y w b t s (ths ++ [(zr h, zr m)]) (rs ++ [(M.length, M.length + 1)]) ∧
        FrH (fun c' => c' = c) o M o' ((M1 ++ [MO.lst ((zr h).map .int), MO.lst ((zr m).map .int)]).set t (MO.lst (thD s ths rs ++ [D.tup [.int (s + tot ths), .ob M.length, .ob (M.length + 1)]]))) ∧ M1[0]? = M[0]? := by
  have oy := S.O.y
  have ow := S.O.w
  have ob := S.O.b
  have ot := S.O.t
  obtain ⟨n1, n2, n3, n4, n5, n6⟩ := S.ne
  obtain ⟨M1, e1, Y1, hl, hfr⟩ := make_ok S.Y n1 n2 n3 S.k (by omega) hh hm
  have lt := S.lt
  have fr1 : ∀ m, o m ≠ c + 1 → o m ≠ c + 9 → o m ≠ c + 17 → M1[m]? = M[m]? := fun m h1 h2 h3 => hfr m (fun z => h1 (z ▸ oy)) (fun z => h2 (z ▸ ow)) (fun z => h3 (z ▸ ob))
  have ht1 : M1[t]? = some (.lst (thD s ths rs)) := by rw [fr1 t (by omega) (by omega) (by omega)]; exact S.T.t
  have fr2' : ∀ (V : MO) (q : Nat), q < M.length → q ≠ t → ((M1 ++ [MO.lst ((zr h).map .int), MO.lst ((zr m).map .int)]).set t V)[q]? = M1[q]? := fun V q h1 h2 => by
    rw [List.getElem?_set_ne (Ne.symm h2), List.getElem?_append_left (by omega)]
  refine ⟨M1, e1, hl, ht1, fun m => if m = M.length then c + 33 + 16 * rs.length else if m = M.length + 1 then c + 41 + 16 * rs.length else o m, ?_, ?_, ?_, ?_⟩
  · show (if 0 = M.length then _ else if 0 = M.length + 1 then _ else o 0) = 0
    rw [if_neg (by omega), if_neg (by omega), o0]
  all_goals try generalize hV : MO.lst (thD s ths rs ++ [D.tup [.int (s + tot ths), .ob M.length, .ob (M.length + 1)]]) = V
  all_goals try have fr2 := fr2' V
  · refine ⟨⟨?_, ?_, ?_⟩, ⟨?_, ?_, ?_⟩, ⟨?_, ?_, ?_, ?_, ?_⟩, ?_⟩
    · rw [fr2 y lt.1 (Ne.symm n4)]; exact Y1.y
    · rw [fr2 w lt.2.1 (Ne.symm n5)]; exact Y1.w
    · rw [fr2 b lt.2.2.1 (Ne.symm n6)]; exact Y1.b
    · rw [List.getElem?_set_self (by rw [List.length_append]; have := lt.2.2.2.1; omega), ← hV, thD_app S.T.l]
    · rw [List.length_append, List.length_append, S.T.l]; rfl
    · intro k p a hp ha
      by_cases hk : k < rs.length
      · rw [List.getElem?_append_left hk] at hp
        rw [List.getElem?_append_left (by rw [← S.T.l]; exact hk)] at ha
        obtain ⟨g1, g2⟩ := S.O.r k p hp
        obtain ⟨l1, l2⟩ := lt.2.2.2.2 k p hp
        obtain ⟨q1, q2⟩ := S.T.r k p a hp ha
        rw [fr2 p.1 l1 (fun z => by have := congrArg o z; omega), fr2 p.2 l2 (fun z => by have := congrArg o z; omega), fr1 p.1 (by omega) (by omega) (by omega), fr1 p.2 (by omega) (by omega) (by omega)]
        exact ⟨q1, q2⟩
      · have hk2 : k = rs.length := by
          have := (List.getElem?_eq_some_iff.mp hp).1
          rw [List.length_append, List.length_singleton] at this
          omega
        subst hk2
        rw [List.getElem?_append_right (Nat.le_refl _), Nat.sub_self] at hp
        rw [S.T.l, List.getElem?_append_right (Nat.le_refl _), Nat.sub_self] at ha
        cases hp
        cases ha
        have lt4 := lt.2.2.2.1
        constructor
        · rw [List.getElem?_set_ne (by omega), List.getElem?_append_right (by omega), hl, Nat.sub_self]; rfl
        · rw [List.getElem?_set_ne (by omega), List.getElem?_append_right (by omega), hl, Nat.add_sub_cancel_left]; rfl
    · show (if y = M.length then _ else if y = M.length + 1 then _ else o y) = _
      rw [if_neg (by omega), if_neg (by omega), oy]
    · show (if w = M.length then _ else if w = M.length + 1 then _ else o w) = _
      rw [if_neg (by omega), if_neg (by omega), ow]
    · show (if b = M.length then _ else if b = M.length + 1 then _ else o b) = _
      rw [if_neg (by omega), if_neg (by omega), ob]
    · show (if t = M.length then _ else if t = M.length + 1 then _ else o t) = _
      rw [if_neg (by omega), if_neg (by omega), ot]
    · intro k p hp
      by_cases hk : k < rs.length
      · rw [List.getElem?_append_left hk] at hp
        obtain ⟨l1, l2⟩ := lt.2.2.2.2 k p hp
        show (if p.1 = M.length then _ else if p.1 = M.length + 1 then _ else o p.1) = _ ∧ (if p.2 = M.length then _ else if p.2 = M.length + 1 then _ else o p.2) = _
        rw [if_neg (by omega), if_neg (by omega), if_neg (by omega), if_neg (by omega)]
        exact S.O.r k p hp
      · have hk2 : k = rs.length := by
          have := (List.getElem?_eq_some_iff.mp hp).1
          rw [List.length_append, List.length_singleton] at this
          omega
        subst hk2
        rw [List.getElem?_append_right (Nat.le_refl _), Nat.sub_self] at hp
        cases hp
        show (if M.length = M.length then _ else _) = _ ∧ (if M.length + 1 = M.length then _ else if M.length + 1 = M.length + 1 then _ else _) = _
        rw [if_pos rfl, if_neg (by omega), if_pos rfl]
        exact ⟨rfl, rfl⟩
    · intro a ha
      rcases List.mem_append.mp ha with ha | ha
      · exact S.k a ha
      · rw [List.mem_singleton.mp ha]
        unfold tok zr
        simp only [List.length_replicate]
        exact ⟨hh, hm⟩
  · refine ⟨by rw [List.length_set, List.length_append]; omega, fun q hq => ?_, fun q hq h0 hc => ?_⟩
    · show (if q = M.length then _ else if q = M.length + 1 then _ else o q) = _
      rw [if_neg (by omega), if_neg (by omega)]
    · rw [fr2 q hq (fun z => hc c 3 rfl (by rw [z, ot])), fr1 q (hc c 0 rfl) (fun z => hc c 1 rfl (by omega)) (fun z => hc c 2 rfl (by omega))]
  · exact fr1 0 (by omega) (by omega) (by omega)
/-- a field laid, and the law's own word of it -/
theorem field_ok (S : Sd o M c y w b t s (l ++ a :: r) rs) (v : Int) {j : Nat} (hj : j < a.1.length + a.2.length) :
    ∃ M' u, F_law_field [.ob y, .ob t, .int l.length, .int j, .int v] M = some (.ok .non, M') ∧ Sd o M' c y w b t s (l ++ u :: r) rs ∧ u.1.length = a.1.length ∧ u.2.length = a.2.length ∧ M'.length = M.length ∧
      (u = if j < a.1.length then (a.1.set j v, a.2) else (a.1, a.2.set (j - a.1.length) v)) ∧ ∀ m, (∀ k, o m ≠ c + 1 + 8 * k) → M'[m]? = M[m]? := by
  obtain ⟨i1, i2, q1, q2, q3, q4⟩ := thD_at S.T
  have l0 := tot_nn l
  have r0 := tot_nn r
  have ha : tok a := S.k a (by simp)
  have htot : tot (l ++ a :: r) = tot l + (sz a + tot r) := by rw [tot_app]; rfl
  have e1 := set_in S.Y (x := s + tot l + 1 + (j : Int)) (v := v) (by omega) (by unfold sz at htot; omega) (ats_no (by omega) (by unfold sz; omega))
  have hw := S.O.w
  have hr := S.O.r _ _ q3
  simp only at hr
  have ht := S.O.t
  have nt : t ≠ w := S.ne.2.2.2.2.1
  have n1 : i1 ≠ w := fun z => by have := congrArg o z; omega
  have n2 : i2 ≠ w := fun z => by have := congrArg o z; omega
  have T1 : ∀ ob : MO, (M.set w ob)[t]? = some (.lst (thD s (l ++ a :: r) rs)) := fun ob => by rw [List.getElem?_set_ne (Ne.symm nt)]; exact S.T.t
  have g1 : ∀ ob : MO, (M.set w ob)[i1]? = some (.lst (a.1.map .int)) := fun ob => by rw [List.getElem?_set_ne (Ne.symm n1)]; exact q1
  have g2 : ∀ ob : MO, (M.set w ob)[i2]? = some (.lst (a.2.map .int)) := fun ob => by rw [List.getElem?_set_ne (Ne.symm n2)]; exact q2
  have Tt := S.T.t
  have Yy := S.Y.y
  by_cases h1 : j < a.1.length
  · have e2 := (set_words (l := l) (r := r) (a := a) (s := s) (v := v) (x := s + tot l + 1 + (j : Int)) (k := j) rfl).1 h1
    rw [e2] at e1
    obtain ⟨p1, p2, p3⟩ := put_ok (u := (a.1.set j v, a.2)) (n := i1) (ws := a.1.set j v) S.Y S.T S.O (by simp) rfl ⟨_, q3, .inl ⟨rfl, rfl, rfl⟩⟩
    refine ⟨_, (a.1.set j v, a.2), ?_, ⟨p1, p2, S.O, ?_⟩, by simp, rfl, by simp, by rw [if_pos h1], p3⟩
    · simp [F_law_field, B_law_field, e_fn, Tt, q4, Yy, yO, hm3, e1, g1, h1, List.map_set]
    · intro x hx
      rcases List.mem_append.mp hx with hx | hx
      · exact S.k x (by simp [hx])
      · rcases List.mem_cons.mp hx with rfl | hx
        · exact (tok_set ha).1
        · exact S.k x (by simp [hx])
  · obtain ⟨m, rfl⟩ : ∃ m, j = a.1.length + m := ⟨j - a.1.length, by omega⟩
    have h2 : m < a.2.length := by omega
    have e2 := (set_words (l := l) (r := r) (a := a) (s := s) (v := v) (x := s + tot l + 1 + ((a.1.length + m : Nat) : Int)) (k := a.1.length + m) rfl).2 m rfl h2
    rw [e2] at e1
    obtain ⟨p1, p2, p3⟩ := put_ok (u := (a.1, a.2.set m v)) (n := i2) (ws := a.2.set m v) S.Y S.T S.O rfl (by simp) ⟨_, q3, .inr ⟨rfl, rfl, rfl⟩⟩
    refine ⟨_, (a.1, a.2.set m v), ?_, ⟨p1, p2, S.O, ?_⟩, rfl, by simp, by simp, by rw [if_neg h1, Nat.add_sub_cancel_left], p3⟩
    · have z1 : s + tot l + 1 + ((a.1.length : Int) + m) = s + tot l + 1 + ((a.1.length + m : Nat) : Int) := by omega
      have z2 : ((a.1.length : Int) + m - a.1.length) = (m : Int) := by omega
      have z3 : ¬ ((a.1.length : Int) + m < a.1.length) := by omega
      rw [← z1] at e1
      simp [F_law_field, B_law_field, e_fn, Tt, q4, Yy, yO, hm3, e1, g1, g2, z2, z3, h2, List.map_set]
    · intro x hx
      rcases List.mem_append.mp hx with hx | hx
      · exact S.k x (by simp [hx])
      · rcases List.mem_cons.mp hx with rfl | hx
        · exact (tok_set ha).2
        · exact S.k x (by simp [hx])
end
end Lw

namespace Lw
open PySem PySem.Spec PyProof.Rows L2 VL
section
variable {b : Bag} {t : Nat}
theorem start_ok (ok : b.Ok t) (ht : t < 900000) : ∃ (d : Int) (b' : Bag), (∀ r : List MO, F_law_start [.ob 0] (b.mo :: r) = some (.ok (.int d), b'.mo :: r)) ∧ b'.Ok (t + 2) ∧ 0 < d := by
  obtain ⟨d1, b1, e1, k1, g0, g1⟩ := draw_ex (m := 3) ok (by decide) (by decide +kernel) (by omega)
  by_cases h : d1 = 2
  · obtain ⟨d2, b2, e2, k2, f0, _⟩ := draw_ex (m := 10 ^ 59) k1 (by decide) (by decide +kernel) (by omega)
    refine ⟨1 + d2, b2, fun r => ?_, k2.mono (by omega), by omega⟩
    simp [F_law_start, B_law_start, e_fn, draw_eq, e1, h]
    have e2 := e2 r
    simp at e2
    simp [e2]
  · obtain ⟨d2, b2, e2, k2, f0, _⟩ := draw_ex (m := 40) k1 (by decide) (by decide +kernel) (by omega)
    exact ⟨1 + d2, b2, fun r => by simp [F_law_start, B_law_start, e_fn, draw_eq, e1, e2, h], k2.mono (by omega), by omega⟩
theorem worth_ok (ok : b.Ok t) (ht : t < 900000) : ∃ (d : Int) (b' : Bag), (∀ r : List MO, F_law_worth [.ob 0] (b.mo :: r) = some (.ok (.int d), b'.mo :: r)) ∧ b'.Ok (t + 3) := by
  obtain ⟨d1, b1, e1, k1, g0, g1⟩ := draw_ex (m := 4) ok (by decide) (by decide +kernel) (by omega)
  by_cases h : d1 = 3
  · obtain ⟨d2, b2, e2, k2, h0, h1⟩ := draw_ex (m := 2) k1 (by decide) (by decide +kernel) (by omega)
    obtain ⟨d3, b3, e3, k3, i0, i1⟩ := draw_ex (m := 10 ^ 60) k2 (by decide) (by decide +kernel) (by omega)
    have l1 : d2.natAbs.log2 + Nat.log2 2 < 1000000 := by
      have := log2_le (i := d2) (k := 5) (by omega)
      have : Nat.log2 2 = 1 := by decide +kernel
      omega
    have l2 : (d2 * 2 - 1).natAbs.log2 + d3.natAbs.log2 < 1000000 := by
      have := log2_le (i := d2 * 2 - 1) (k := 5) (by omega)
      have := log2_le (i := d3) (k := 250) (by
        have : (10 : Int) ^ 60 < 2 ^ 251 := by decide +kernel
        omega)
      omega
    refine ⟨(d2 * 2 - 1) * d3, b3, fun r => ?_, k3.mono (by omega)⟩
    have e3 := e3 r
    simp at e3
    simp [F_law_worth, B_law_worth, e_fn, draw_eq, e1, e2, h, l1]
    simp [e3, l2]
  · obtain ⟨d2, b2, e2, k2, _, _⟩ := draw_ex (m := 21) k1 (by decide) (by decide +kernel) (by omega)
    exact ⟨d2 - 10, b2, fun r => by simp [F_law_worth, B_law_worth, e_fn, draw_eq, e1, e2, h], k2.mono (by omega)⟩
theorem size_of_ok (ok : b.Ok t) (ht : t < 900000) : ∃ (h m : Nat) (b' : Bag), (∀ r : List MO, F_law_size [.ob 0] (b.mo :: r) = some (.ok (.tup [.int h, .int m]), b'.mo :: r)) ∧ b'.Ok (t + 3) ∧ h < 10 ∧ m < 10 := by
  obtain ⟨d1, b1, e1, k1, g0, g1⟩ := draw_ex (m := 8) ok (by decide) (by decide +kernel) (by omega)
  by_cases h : d1 = 7
  · obtain ⟨d2, b2, e2, k2, h0, h1⟩ := draw_ex (m := 10) k1 (by decide) (by decide +kernel) (by omega)
    obtain ⟨d3, b3, e3, k3, i0, i1⟩ := draw_ex (m := 10) k2 (by decide) (by decide +kernel) (by omega)
    exact ⟨d2.toNat, d3.toNat, b3, fun r => by simp [F_law_size, B_law_size, e_fn, draw_eq, e1, e2, e3, h, LIM, Int.max_eq_left h0, Int.max_eq_left i0], k3.mono (by omega), by omega, by omega⟩
  · obtain ⟨d2, b2, e2, k2, h0, h1⟩ := draw_ex (m := 4) k1 (by decide) (by decide +kernel) (by omega)
    obtain ⟨d3, b3, e3, k3, i0, i1⟩ := draw_ex (m := 3) k2 (by decide) (by decide +kernel) (by omega)
    exact ⟨d2.toNat, d3.toNat, b3, fun r => by simp [F_law_size, B_law_size, e_fn, draw_eq, e1, e2, e3, h, LIM, Int.max_eq_left h0, Int.max_eq_left i0], k3.mono (by omega), by omega, by omega⟩
theorem more_ok (b : Bag) (r : List MO) : ∃ k : Bool, F_law_more [.ob 0] (b.mo :: r) = some (.ok (.bl k), b.mo :: r) := by
  by_cases h : 0 < b.r
  · exact ⟨true, by simp [F_law_more, B_law_more, e_fn, Bag.mo, h]⟩
  · exact ⟨decide ((b.p : Int) < (b.c.length : Int)), by simp [F_law_more, B_law_more, e_fn, Bag.mo, h, LIM]⟩
end
section
variable {M : List MO} {t : Nat} {s : Int} {ths : List Th} {rs : List (Nat × Nat)}
theorem sum_sz : ∀ ths : List Th, (ths.map sz).sum = tot ths
  | [] => rfl
  | t :: r => by rw [List.map_cons, List.sum_cons, sum_sz r]; rfl
theorem free_ok (T : Ts M t s ths rs) (hn : ths.length < 1000) : F_law_free [.int s, .ob t] M = some (.ok (.int (s + tot ths)), M) := by
  have l1 := thD_len (s := s) T.l
  have e1 : ((thD s ths rs).zip ths).map Prod.fst = thD s ths rs := List.map_fst_zip (by omega)
  have e2 : ((thD s ths rs).zip ths).map (fun p => D.int (sz p.2)) = (ths.map sz).map D.int := by
    have : ((thD s ths rs).zip ths).map Prod.snd = ths := List.map_snd_zip (by omega)
    rw [List.map_map]
    conv => rhs; rw [← this]
    rw [List.map_map]; rfl
  have e := lc_pureM (c := itD (varV 1)) (t := .one 2) (vs := [2]) (elt := valN (bin2 addF (opdC (valN (bin2 addF (opdC (pureC (.int 1))) (opdC (valN (un1 lenF (opdC (ixE (rawV 2) (pureC (.int 1)))))))))) (opdC (valN (un1 lenF (opdC (ixE (rawV 2) (pureC (.int 2))))))))) (st := ⟨[.v (.int s), .v (.ob t), .un], M⟩) ((thD s ths rs).zip ths) Prod.fst (fun _ => true) (fun p => .int (sz p.2)) (cond := yesC) (iv := ⟨ths.length, getD' (.ob t)⟩)
    (by simp [T.t, l1]) (by rw [List.length_zip]; simp only; omega) (fun env i => by rw [e1]; simp [getD', T.t]) (by simp) (by simp) (by rw [List.length_zip]; unfold LIM; omega) (by
      intro p hp
      obtain ⟨k, hk, he⟩ := List.mem_iff_getElem.mp hp
      rw [List.length_zip] at hk
      obtain ⟨l, a, r, h1, h2⟩ := split_at (ths := ths) (i := k) (by omega)
      subst h2
      subst h1
      obtain ⟨i, j, q1, q2, q3, q4⟩ := thD_at T
      have hp1 : p = (.tup [.int (s + tot l), .ob i, .ob j], a) := by
        rw [← he]
        have g1 : (thD s (l ++ a :: r) rs)[l.length]'(by omega) = .tup [.int (s + tot l), .ob i, .ob j] := by
          have := List.getElem?_eq_some_iff.mp q4
          exact this.2
        have g2 : (l ++ a :: r)[l.length]'(by omega) = a := by simp
        rw [List.getElem_zip, g1, g2]
      subst hp1
      exact ⟨_, rfl, by simp, by simp, by simp [q1, q2, sz]⟩)
  rw [List.filter_eq_self.mpr (by simp), e2] at e
  have e4 := intsOf_map (ths.map sz)
  simp only [F_law_free, B_law_free, e_fn]
  simp [e, -e_lcE, e4, sum_sz, -List.map_map]
end
end Lw

namespace Lw
open PySem PySem.Spec PyProof.Rows L2 VL
/-- holds hold nothing, or a thing -/
def Vd (s : Int) (ths : List Th) : Prop := ∀ t ∈ ths, ∀ a ∈ t.1, a = 0 ∨ a ∈ atsOf s ths
section
variable {b : Bag} {u : Nat}
theorem many_ok (ok : b.Ok u) (hu : u < 900000) : ∃ (n : Nat) (b' : Bag), (∀ r : List MO, F_law_many [.ob 0] (b.mo :: r) = some (.ok (.int n), b'.mo :: r)) ∧ b'.Ok (u + 2) ∧ 1 ≤ n ∧ n ≤ 400 := by
  obtain ⟨d1, b1, e1, k1, g0, g1⟩ := draw_ex (m := 8) ok (by decide) (by decide +kernel) (by omega)
  by_cases h : d1 = 7
  · subst h
    obtain ⟨d2, b2, e2, k2, h0, h1⟩ := draw_ex (m := 131) k1 (by decide) (by decide +kernel) (by omega)
    refine ⟨(20 + d2).toNat, b2, fun r => ?_, k2.mono (by omega), by omega, by omega⟩
    have z : ((20 + d2).toNat : Int) = 20 + d2 := by omega
    rw [z]
    simp [F_law_many, B_law_many, e_fn, draw_eq, e1, e2]
  · have q : d1 % 2 = 0 ∨ d1 % 2 = 1 := by omega
    rcases q with q | q
    · obtain ⟨d2, b2, e2, k2, h0, h1⟩ := draw_ex (m := 6) k1 (by decide) (by decide +kernel) (by omega)
      refine ⟨(1 + d2).toNat, b2, fun r => ?_, k2.mono (by omega), by omega, by omega⟩
      have z : ((1 + d2).toNat : Int) = 1 + d2 := by omega
      rw [z]
      simp [F_law_many, B_law_many, e_fn, draw_eq, e1, e2, h, q, LIM]
    · obtain ⟨d2, b2, e2, k2, h0, h1⟩ := draw_ex (m := 12) k1 (by decide) (by decide +kernel) (by omega)
      refine ⟨(1 + d2).toNat, b2, fun r => ?_, k2.mono (by omega), by omega, by omega⟩
      have z : ((1 + d2).toNat : Int) = 1 + d2 := by omega
      rw [z]
      simp [F_law_many, B_law_many, e_fn, draw_eq, e1, e2, h, q, LIM]
end
section
variable {o : Nat → Nat} {M r : List MO} {c y w bb t u : Nat} {s : Int} {ths : List Th} {rs : List (Nat × Nat)} {b : Bag}
theorem thing_at (T : Ts M t s ths rs) {i : Int} (h0 : 0 ≤ i) (h1 : i < ths.length) : ∃ a hd nd, atI (thD s ths rs) i = some (.tup [.int a, .ob hd, .ob nd]) ∧ a ∈ atsOf s ths := by
  obtain ⟨l, a, r, h2, h3⟩ := split_at (ths := ths) (i := i.toNat) (by omega)
  subst h2
  obtain ⟨i1, i2, _, _, _, q4⟩ := thD_at T
  rw [h3] at q4
  exact ⟨s + tot l, i1, i2, by rw [atI_nn h0, q4], ats_yes⟩
def restB : Stm := seqS (ifS (cmp2 eqF (opdC (callE 2 F_law_draw (consA (varV 0) (consA (pureC (.int 4)) nilA)))) (opdC (pureC (.int 0)))) (retS (pureC (.int 0))) skipS)
  (retS (ixE (opdC (ixE (rawV 1) (callE 2 F_law_draw (consA (varV 0) (consA (valN (un1 lenF (rawV 1))) nilA))))) (pureC (.int 0))))
theorem hold_B : B_law_hold = seqS (ifS (andC (cmp2 gtF (rawV 3) (opdC (pureC (.int 0)))) (cmp2 gtF (opdC (callE 2 F_law_draw (consA (varV 0) (consA (pureC (.int 5)) nilA)))) (opdC (pureC (.int 0))))) (retS (ixE (opdC (ixE (rawV 1) (numC modF (valN (bin2 addF (rawV 2) (opdC (ixE (opdC (valN (lstE (consA (pureC (.int 0)) (consA (pureC (.int 1)) (consA (numC subF (valN (un1 lenF (rawV 1))) (pureC (.int 1))) nilA)))))) (varV 3))))) (valN (un1 lenF (rawV 1)))))) (pureC (.int 0)))) skipS) restB := rfl
theorem hold_ok (S : Sd o (b.mo :: r) c y w bb t s ths rs) (o0 : o 0 = 0) (ok : b.Ok u) (hu : u < 900000) (hl : 0 < ths.length) (hn : ths.length < 1000) {k ch : Int} (k0 : 0 ≤ k) (k1 : k < 1000) (hc : ch = 0 ∨ ch = 1 ∨ ch = 2) :
    ∃ (a : Int) (b' : Bag), F_law_hold [.ob 0, .ob t, .int k, .int ch] (b.mo :: r) = some (.ok (.int a), b'.mo :: r) ∧ b'.Ok (u + 3) ∧ (a = 0 ∨ a ∈ atsOf s ths) := by
  obtain ⟨t', rfl⟩ : ∃ t', t = t' + 1 := by
    cases t with
    | zero => have := S.O.t; omega
    | succ t' => exact ⟨t', rfl⟩
  have Tt : r[t']? = some (.lst (thD s ths rs)) := S.T.t
  have dl := thD_len (s := s) S.T.l
  -- behind the first
  have rest : ∀ (b : Bag) (u : Nat), b.Ok u → u < 900010 → ∃ (a : Int) (b' : Bag), restB ⟨[.v (.ob 0), .v (.ob (t' + 1)), .v (.int k), .v (.int ch)], b.mo :: r⟩ = some (.ok (.rt (.int a)), ⟨[.v (.ob 0), .v (.ob (t' + 1)), .v (.int k), .v (.int ch)], b'.mo :: r⟩) ∧ b'.Ok (u + 2) ∧ (a = 0 ∨ a ∈ atsOf s ths) := by
    intro b u ok hu
    obtain ⟨d1, b1, e1, k1, g0, g1⟩ := draw_ex (m := 4) ok (by decide) (by decide +kernel) (by omega)
    by_cases h : d1 = 0
    · exact ⟨0, b1, by simp [restB, draw_eq, e1, h], k1.mono (by omega), .inl rfl⟩
    · obtain ⟨d2, b2, e2, k2, h0, h1⟩ := draw_ex (m := (ths.length : Int)) k1 (by omega) (Int.lt_trans (show (ths.length : Int) < 1000 by omega) (by decide +kernel)) (by omega)
      obtain ⟨a, hd, nd, z1, z2⟩ := thing_at S.T h0 h1
      exact ⟨a, b2, by simp [restB, draw_eq, e1, e2, h, Tt, dl, z1], k2.mono (by omega), .inr z2⟩
  rw [F_law_hold, hold_B, e_fn]
  generalize restB = RB at rest ⊢
  by_cases h : 0 < ch
  · obtain ⟨d1, b1, e1, k1', g0, g1⟩ := draw_ex (m := 5) ok (by decide) (by decide +kernel) (by omega)
    by_cases hd : 0 < d1
    · have lp : (0 : Int) < ths.length := by omega
      have md : ∀ z : Int, 0 ≤ z % ths.length ∧ z % ths.length < ths.length := fun z => ⟨Int.emod_nonneg _ (by omega), Int.emod_lt_of_pos _ lp⟩
      have hc : ch = 1 ∨ ch = 2 := by omega
      rcases hc with rfl | rfl
      · obtain ⟨a, hd', nd, z1, z2⟩ := thing_at S.T (md (k + 1)).1 (md (k + 1)).2
        refine ⟨a, b1, ?_, k1'.mono (by omega), .inr z2⟩
        simp [draw_eq, e1, hd, Tt, dl, z1, LIM, hl]
      · obtain ⟨a, hd', nd, z1, z2⟩ := thing_at S.T (md (k + ((ths.length : Int) - 1))).1 (md (k + ((ths.length : Int) - 1))).2
        refine ⟨a, b1, ?_, k1'.mono (by omega), .inr z2⟩
        simp [draw_eq, e1, hd, Tt, dl, z1, LIM, hl]
    · obtain ⟨a, b', e2, k2, z⟩ := rest b1 (u + 1) k1' (by omega)
      refine ⟨a, b', ?_, k2.mono (by omega), z⟩
      simp [draw_eq, e1, hd, h, e2]
  · obtain ⟨a, b', e2, k2, z⟩ := rest b u ok (by omega)
    refine ⟨a, b', ?_, k2.mono (by omega), z⟩
    simp [h, e2]
end
end Lw

namespace Lw
open PySem PySem.Spec PyProof.Rows L2 VL
theorem cons_of {M : List MO} {x : MO} (h : M[0]? = some x) : ∃ r, M = x :: r := by
  cases M with
  | nil => cases h
  | cons y r => cases h; exact ⟨r, rfl⟩
/-- the first house, and the bag -/
def H1 (u : Nat) (s : Int) (ths : List Th) (M : List MO) : Prop := ∃ (b : Bag) (r : List MO) (o : Nat → Nat) (rs : List (Nat × Nat)), M = b.mo :: r ∧ b.Ok u ∧ o 0 = 0 ∧ Sd o M 0 1 2 3 4 s ths rs
theorem H1.mono {u v : Nat} {s : Int} {ths : List Th} {M : List MO} (h : H1 u s ths M) (l : u ≤ v) : H1 v s ths M := by
  obtain ⟨b, r, o, rs, e, ok, o0, S⟩ := h
  exact ⟨b, r, o, rs, e, ok.mono l, o0, S⟩
section
variable {u : Nat} {s : Int} {ths l r : List Th} {a : Th} {M : List MO} {c0 c1 c2 c3 c4 c5 c6 c7 c8 : Cell}
theorem vd_zr {ths : List Th} {h m : Nat} (v : ∀ t ∈ ths, ∀ a ∈ t.1, a = (0 : Int)) : ∀ t ∈ ths ++ [(zr h, zr m)], ∀ a ∈ t.1, a = (0 : Int) := by
  intro t ht a ha
  rcases List.mem_append.mp ht with ht | ht
  · exact v t ht a ha
  · rw [List.mem_singleton.mp ht] at ha
    exact List.eq_of_mem_replicate ha
def mkB : Stm := seqS (asgT (.all [6, 8]) (callE 1 F_law_size (consA (varV 0) nilA)))
  (seqS (asgV 6 (numC max2F (varV 6) (valN (un1 intF (opdC (boolE (cmp2 gtF (rawV 3) (opdC (pureC (.int 0))))))))))
  (exprS (appE (rawV 4) (tupE (consA (methE 3 F_Yard_make [89, 97, 114, 100] [109, 97, 107, 101] (rawV 1) (consA (varV 6) (consA (varV 8) nilA))) (consA (shrN (bin2 mulF (opdC (valN (lstE (consA (pureC (.int 0)) nilA)))) (rawV 6))) (consA (shrN (bin2 mulF (opdC (valN (lstE (consA (pureC (.int 0)) nilA)))) (rawV 8))) nilA)))))))
theorem mk_step (h : H1 u s ths M) (hu : u < 800000) (hn : ths.length < 900) {ch : Int} (hc : ch = 0 ∨ ch = 1 ∨ ch = 2) (hk : c6.ok = true ∧ c8.ok = true) :
    ∃ M' c6' c8' hh mm, mkB ⟨[.v (.ob 0), .v (.ob 1), c2, .v (.int ch), .v (.ob 4), c5, c6, c7, c8], M⟩ = some (.ok .nx, ⟨[.v (.ob 0), .v (.ob 1), c2, .v (.int ch), .v (.ob 4), c5, .v c6', c7, .v c8'], M'⟩) ∧ H1 (u + 3) s (ths ++ [(zr hh, zr mm)]) M' := by
  obtain ⟨b, r, o, rs, rfl, ok, o0, S⟩ := h
  obtain ⟨hh, mm, b', e1, ok', b1, b2⟩ := size_of_ok ok (by omega)
  have e1 := e1 r
  have S' : Sd o (b'.mo :: r) 0 1 2 3 4 s ths rs := S.bag o0 (by decide)
  have rf := fun n => rep_flat n 0
  obtain ⟨h3, hh3, b3⟩ : ∃ h3 : Nat, (if (if 0 < ch then (1 : Int) else 0) > (hh : Int) then (if 0 < ch then (1 : Int) else 0) else (hh : Int)) = (h3 : Int) ∧ h3 < 10 := by
    by_cases hp : 0 < ch
    · rw [if_pos hp]
      by_cases hq : (1 : Int) > hh
      · exact ⟨1, by rw [if_pos hq]; rfl, by decide⟩
      · exact ⟨hh, by rw [if_neg hq], b1⟩
    · rw [if_neg hp]
      exact ⟨hh, by rw [if_neg (by omega)], b1⟩
  obtain ⟨M1, a1, a2, a3, o', a4, a5, a6, a7⟩ := add_ok S' o0 (by simp) hn b3 b2
  have Yy := S'.Y.y
  have Tt := S'.T.t
  have ln : (thD s ths rs).length < 1000000 := by rw [thD_len S'.T.l]; omega
  generalize hMM : b'.mo :: r = MM at *
  have h0M : ∀ V : MO, ((M1 ++ [MO.lst ((zr h3).map .int), MO.lst ((zr mm).map .int)]).set 4 V)[0]? = some b'.mo := fun V => by
    rw [List.getElem?_set_ne (by decide)]
    have : M1[0]? = some b'.mo := by rw [a7, ← hMM]; rfl
    rw [List.getElem?_append_left (List.getElem?_eq_some_iff.mp this).1]
    exact this
  obtain ⟨r3, a8⟩ := cons_of (h0M (MO.lst (thD s ths rs ++ [D.tup [.int (s + tot ths), .ob MM.length, .ob (MM.length + 1)]])))
  have g4 : ∀ x, (M1 ++ x)[4]? = some (.lst (thD s ths rs)) := fun x => by
    rw [List.getElem?_append_left (List.getElem?_eq_some_iff.mp a3).1]; exact a3
  have c1 : (h3 : Int) ≤ 1000000 := by omega
  have c2' : (mm : Int) ≤ 1000000 := by omega
  have c3' : -(h3 : Int) ≤ 1000000 := by omega
  have c4' : -(mm : Int) ≤ 1000000 := by omega
  have c5' : h3 ≤ 1000000 := by omega
  have c6' : mm ≤ 1000000 := by omega
  refine ⟨_, .int h3, .int mm, h3, mm, ?_, b', r3, o', _, a8, ok', a4, a5⟩
  simp [mkB, e1, hh3, Yy, Tt, yO, hm2, a1, a2, a3, rf, zr, c1, c2', c3', c4', c5', c6', LIM, ln, g4]
def hoB : Stm := exprS (callE 5 F_law_field (consA (varV 1) (consA (varV 4) (consA (varV 5) (consA (varV 7) (consA (callE 4 F_law_hold (consA (varV 0) (consA (varV 4) (consA (varV 5) (consA (valN (bin2 mulF (rawV 3) (opdC (valN (un1 intF (opdC (boolE (cmp2 eqF (rawV 7) (opdC (pureC (.int 0))))))))))) nilA))))) nilA))))))
def nuB : Stm := exprS (callE 5 F_law_field (consA (varV 1) (consA (varV 4) (consA (varV 5) (consA (valN (bin2 addF (opdC (valN (un1 lenF (opdC (ixE (opdC (ixE (rawV 4) (varV 5))) (pureC (.int 1))))))) (rawV 7))) (consA (callE 1 F_law_worth (consA (varV 0) nilA)) nilA))))))
theorem vd_mid {u : Th} (hs : sz u = sz a) (V : Vd s (l ++ a :: r)) (hu : ∀ x ∈ u.1, x = 0 ∨ x ∈ atsOf s (l ++ a :: r)) : Vd s (l ++ u :: r) := by
  intro t ht x hx
  rw [← ats_sz hs.symm]
  rcases List.mem_append.mp ht with ht | ht
  · exact V t (by simp [ht]) x hx
  · rcases List.mem_cons.mp ht with rfl | ht
    · exact hu x hx
    · exact V t (by simp [ht]) x hx
theorem fr_cons {b : Bag} {r M' : List MO} {o : Nat → Nat} {c : Nat} (o0 : o 0 = 0) (h : ∀ m, (∀ k, o m ≠ c + 1 + 8 * k) → M'[m]? = (b.mo :: r)[m]?) : ∃ r', M' = b.mo :: r' := cons_of (by rw [h 0 (fun k => by omega)]; rfl)
theorem ho_step (h : H1 u s (l ++ a :: r) M) (V : Vd s (l ++ a :: r)) (hu : u < 800000) (hn : (l ++ a :: r).length < 900) {ch : Int} (hc : ch = 0 ∨ ch = 1 ∨ ch = 2) {j : Nat} (hj : j < a.1.length) :
    ∃ M' a', hoB ⟨[.v (.ob 0), .v (.ob 1), c2, .v (.int ch), .v (.ob 4), .v (.int l.length), c6, .v (.int j), c8], M⟩ = some (.ok .nx, ⟨[.v (.ob 0), .v (.ob 1), c2, .v (.int ch), .v (.ob 4), .v (.int l.length), c6, .v (.int j), c8], M'⟩) ∧ H1 (u + 3) s (l ++ a' :: r) M' ∧ Vd s (l ++ a' :: r) ∧ a'.1.length = a.1.length ∧ a'.2.length = a.2.length := by
  obtain ⟨b, r0, o, rs, rfl, ok, o0, S⟩ := h
  have hck : ch * (if j = 0 then 1 else 0) = 0 ∨ ch * (if j = 0 then 1 else 0) = 1 ∨ ch * (if j = 0 then 1 else 0) = 2 := by
    by_cases hj : j = 0
    · rw [if_pos hj, Int.mul_one]; exact hc
    · rw [if_neg hj, Int.mul_zero]; exact .inl rfl
  have hk : (l.length : Int) < 1000 := by rw [List.length_append] at hn; omega
  obtain ⟨v, b', e1, ok', hv⟩ := hold_ok (k := l.length) (ch := ch * (if j = 0 then 1 else 0)) S o0 ok (by omega) (by rw [List.length_append, List.length_cons]; omega) (by omega) (by omega) hk hck
  have S' : Sd o (b'.mo :: r0) 0 1 2 3 4 s (l ++ a :: r) rs := S.bag o0 (by decide)
  obtain ⟨M', a', e2, S2, q1, q2, q3, q4, q5⟩ := field_ok S' v (j := j) (by omega)
  obtain ⟨r1, hr1⟩ := fr_cons o0 q5
  rw [if_pos hj] at q4
  refine ⟨M', a', ?_, ⟨b', r1, o, rs, hr1, ok', o0, S2⟩, vd_mid (by unfold sz; rw [q1, q2]) V ?_, q1, q2⟩
  · have lg : ch.natAbs.log2 + (if j = 0 then (1 : Int) else 0).natAbs.log2 < 1000000 := by
      have : ∀ i : Int, i = 0 ∨ i = 1 ∨ i = 2 → i.natAbs.log2 ≤ 1 := by
        rintro i (rfl | rfl | rfl) <;> decide +kernel
      have h1 := this ch hc
      have h2 := this (if j = 0 then (1 : Int) else 0) (by by_cases hj : j = 0 <;> simp [hj])
      omega
    by_cases hj0 : j = 0
    · subst hj0
      simp at e1 lg e2
      simp [hoB, lg, e1, e2]
    · simp [hj0] at e1 lg e2
      simp [hoB, hj0, lg, e1, e2]
  · rw [q4]
    intro x hx
    rcases List.mem_or_eq_of_mem_set hx with hx | rfl
    · exact V a (by simp) x hx
    · exact hv
theorem nu_step (h : H1 u s (l ++ a :: r) M) (V : Vd s (l ++ a :: r)) (hu : u < 800000) {ch : D} {j : Nat} (hj : j < a.2.length) :
    ∃ M' a', nuB ⟨[.v (.ob 0), .v (.ob 1), c2, .v ch, .v (.ob 4), .v (.int l.length), c6, .v (.int j), c8], M⟩ = some (.ok .nx, ⟨[.v (.ob 0), .v (.ob 1), c2, .v ch, .v (.ob 4), .v (.int l.length), c6, .v (.int j), c8], M'⟩) ∧ H1 (u + 3) s (l ++ a' :: r) M' ∧ Vd s (l ++ a' :: r) ∧ a'.1.length = a.1.length ∧ a'.2.length = a.2.length := by
  obtain ⟨b, r0, o, rs, rfl, ok, o0, S⟩ := h
  obtain ⟨v, b', e1, ok'⟩ := worth_ok ok (by omega)
  have e1 := e1 r0
  have S' : Sd o (b'.mo :: r0) 0 1 2 3 4 s (l ++ a :: r) rs := S.bag o0 (by decide)
  obtain ⟨M', a', e2, S2, q1, q2, q3, q4, q5⟩ := field_ok S' v (j := a.1.length + j) (by omega)
  obtain ⟨r1, hr1⟩ := fr_cons o0 q5
  rw [if_neg (by omega)] at q4
  obtain ⟨i1, i2, t1, t2, t3, t4⟩ := thD_at S.T
  have Tt := S.T.t
  refine ⟨M', a', ?_, ⟨b', r1, o, rs, hr1, ok', o0, S2⟩, vd_mid (by unfold sz; rw [q1, q2]) V ?_, q1, q2⟩
  · have z : ((a.1.length + j : Nat) : Int) = (a.1.length : Int) + j := by omega
    rw [z] at e2
    generalize b.mo :: r0 = MM at *
    simp [nuB, Tt, t4, t1, e1, e2]
  · rw [q4]
    intro x hx
    exact V a (by simp) x hx
end
end Lw

namespace Lw
open PySem PySem.Spec PyProof.Rows L2 VL
section
variable {u : Nat} {s : Int} {ths l r : List Th} {a : Th} {M : List MO} {c0 c1 c2 c3 c4 c5 c6 c7 c8 : Cell}
theorem ho_loop (h : H1 u s (l ++ a :: r) M) (V : Vd s (l ++ a :: r)) (hu : u < 700000) (hn : (l ++ a :: r).length < 900) (ha : a.1.length < 10) {ch : Int} (hc : ch = 0 ∨ ch = 1 ∨ ch = 2) :
    ∃ M' a' c7', forL (.one 7) hoB (rngL 0 a.1.length) ⟨[.v (.ob 0), .v (.ob 1), c2, .v (.int ch), .v (.ob 4), .v (.int l.length), c6, c7, c8], M⟩ = some (.ok .nx, ⟨[.v (.ob 0), .v (.ob 1), c2, .v (.int ch), .v (.ob 4), .v (.int l.length), c6, c7', c8], M'⟩) ∧ H1 (u + 30) s (l ++ a' :: r) M' ∧ Vd s (l ++ a' :: r) ∧ a'.1.length = a.1.length ∧ a'.2.length = a.2.length := by
  obtain ⟨s', e, M', a', c7', rfl, q1, q2, q3, q4⟩ := forL_thru (t := .one 7) (body := hoB) (ds := rngL 0 a.1.length) (st := ⟨[.v (.ob 0), .v (.ob 1), c2, .v (.int ch), .v (.ob 4), .v (.int l.length), c6, c7, c8], M⟩)
    (fun i st => ∃ M' a' c7', st = ⟨[.v (.ob 0), .v (.ob 1), c2, .v (.int ch), .v (.ob 4), .v (.int l.length), c6, c7', c8], M'⟩ ∧ H1 (u + 3 * i) s (l ++ a' :: r) M' ∧ Vd s (l ++ a' :: r) ∧ a'.1.length = a.1.length ∧ a'.2.length = a.2.length) ⟨M, a, c7, rfl, h, V, rfl, rfl⟩ (by
      rintro i x st hx ⟨M', a', c7', rfl, q1, q2, q3, q4⟩
      rw [rngL_get] at hx
      split at hx
      · rename_i hi
        cases hx
        rw [Int.zero_add]
        obtain ⟨M2, a2, e, p1, p2, p3, p4⟩ := ho_step (c2 := c2) (c6 := c6) (c8 := c8) q1 q2 (by omega) (by simpa using hn) hc (j := i) (by rw [q3]; exact hi)
        exact ⟨_, rfl, _, e, M2, a2, _, rfl, by rw [show u + 3 * (i + 1) = u + 3 * i + 3 by omega]; exact p1, p2, p3.trans q3, p4.trans q4⟩
      · cases hx)
  rw [rngL_len] at q1
  exact ⟨M', a', c7', e, q1.mono (by omega), q2, q3, q4⟩
theorem nu_loop (h : H1 u s (l ++ a :: r) M) (V : Vd s (l ++ a :: r)) (hu : u < 700000) (ha : a.2.length < 10) {ch : D} :
    ∃ M' a' c7', forL (.one 7) nuB (rngL 0 a.2.length) ⟨[.v (.ob 0), .v (.ob 1), c2, .v ch, .v (.ob 4), .v (.int l.length), c6, c7, c8], M⟩ = some (.ok .nx, ⟨[.v (.ob 0), .v (.ob 1), c2, .v ch, .v (.ob 4), .v (.int l.length), c6, c7', c8], M'⟩) ∧ H1 (u + 30) s (l ++ a' :: r) M' ∧ Vd s (l ++ a' :: r) ∧ a'.1.length = a.1.length ∧ a'.2.length = a.2.length := by
  obtain ⟨s', e, M', a', c7', rfl, q1, q2, q3, q4⟩ := forL_thru (t := .one 7) (body := nuB) (ds := rngL 0 a.2.length) (st := ⟨[.v (.ob 0), .v (.ob 1), c2, .v ch, .v (.ob 4), .v (.int l.length), c6, c7, c8], M⟩)
    (fun i st => ∃ M' a' c7', st = ⟨[.v (.ob 0), .v (.ob 1), c2, .v ch, .v (.ob 4), .v (.int l.length), c6, c7', c8], M'⟩ ∧ H1 (u + 3 * i) s (l ++ a' :: r) M' ∧ Vd s (l ++ a' :: r) ∧ a'.1.length = a.1.length ∧ a'.2.length = a.2.length) ⟨M, a, c7, rfl, h, V, rfl, rfl⟩ (by
      rintro i x st hx ⟨M', a', c7', rfl, q1, q2, q3, q4⟩
      rw [rngL_get] at hx
      split at hx
      · rename_i hi
        cases hx
        rw [Int.zero_add]
        obtain ⟨M2, a2, e, p1, p2, p3, p4⟩ := nu_step (c2 := c2) (c6 := c6) (c8 := c8) (ch := ch) q1 q2 (by omega) (j := i) (by rw [q4]; exact hi)
        exact ⟨_, rfl, _, e, M2, a2, _, rfl, by rw [show u + 3 * (i + 1) = u + 3 * i + 3 by omega]; exact p1, p2, p3.trans q3, p4.trans q4⟩
      · cases hx)
  rw [rngL_len] at q1
  exact ⟨M', a', c7', e, q1.mono (by omega), q2, q3, q4⟩
def fiB : Stm := seqS (forS (itR1 (valN (un1 lenF (opdC (ixE (opdC (ixE (rawV 4) (varV 5))) (pureC (.int 1))))))) (.one 7) hoB)
  (forS (itR1 (valN (un1 lenF (opdC (ixE (opdC (ixE (rawV 4) (varV 5))) (pureC (.int 2))))))) (.one 7) nuB)
theorem fi_step (h : H1 u s ths M) (V : Vd s ths) (hu : u < 600000) (hn : ths.length < 900) {ch : Int} (hc : ch = 0 ∨ ch = 1 ∨ ch = 2) {k : Nat} (hk : k < ths.length) :
    ∃ M' ths' c7', fiB ⟨[.v (.ob 0), .v (.ob 1), c2, .v (.int ch), .v (.ob 4), .v (.int k), c6, c7, c8], M⟩ = some (.ok .nx, ⟨[.v (.ob 0), .v (.ob 1), c2, .v (.int ch), .v (.ob 4), .v (.int k), c6, c7', c8], M'⟩) ∧ H1 (u + 60) s ths' M' ∧ Vd s ths' ∧ ths'.length = ths.length := by
  obtain ⟨l, a, r, rfl, rfl⟩ := split_at hk
  have look : ∀ {a : Th} {u : Nat} {M : List MO}, H1 u s (l ++ a :: r) M → tok a ∧ ∃ i j ts, M[4]? = some (.lst ts) ∧ ts[l.length]? = some (.tup [.int (s + tot l), .ob i, .ob j]) ∧ M[i]? = some (.lst (a.1.map .int)) ∧ M[j]? = some (.lst (a.2.map .int)) := by
    rintro a u M ⟨b, r0, o, rs, rfl, ok, o0, S⟩
    obtain ⟨i1, i2, t1, t2, t3, t4⟩ := thD_at S.T
    exact ⟨S.k a (by simp), i1, i2, _, S.T.t, t4, t1, t2⟩
  obtain ⟨ha, i1, j1, ts1, g1, g2, g3, g4⟩ := look h
  obtain ⟨M1, a1, c71, e1, h1, V1, l1, l2⟩ := ho_loop (c2 := c2) (c6 := c6) (c7 := c7) (c8 := c8) h V (by omega) hn ha.1 hc
  obtain ⟨ha1, i2, j2, ts2, f1, f2, f3, f4⟩ := look h1
  obtain ⟨M2, a2, c72, e2, h2, V2, k1, k2⟩ := nu_loop (c2 := c2) (c6 := c6) (c7 := c71) (c8 := c8) (ch := .int ch) h1 V1 (by omega) ha1.2
  refine ⟨M2, _, c72, ?_, h2, V2, by simp⟩
  have r1 := rngOk_ok (n := a.1.length) (by have := ha.1; omega)
  have r2 := rngOk_ok (n := a1.2.length) (by have := ha1.2; omega)
  unfold fiB
  generalize hoB = HB at e1 ⊢
  generalize nuB = NB at e2 ⊢
  simp [g1, g2, g3, r1, e1, f1, f2, f4, r2, e2]
theorem filled_B : B_law_filled = seqS (asgV 2 (callE 1 F_law_many (consA (varV 0) nilA)))
  (seqS (asgV 3 (callE 2 F_law_draw (consA (varV 0) (consA (pureC (.int 3)) nilA))))
  (seqS (asgV 4 (shrN (lstE nilA)))
  (seqS (forS (itR1 (varV 2)) (.one 5) mkB)
  (seqS (forS (itR1 (varV 2)) (.one 5) fiB)
  (retS (varV 4)))))) := rfl
def o4 (m : Nat) : Nat := match m with
  | 1 => 1
  | 2 => 9
  | 3 => 17
  | 4 => 25
  | _ => 0
theorem h1_start (b : Bag) (ok : b.Ok u) (s : Int) : H1 u s [] [b.mo, yO s s 2 3, .lst [], .dic [] [], .lst []] := by
  refine ⟨b, _, o4, [], rfl, ok, rfl, ⟨⟨?_, rfl, rfl⟩, ⟨rfl, rfl, fun k p a h => by simp at h⟩, ⟨rfl, rfl, rfl, rfl, fun k p h => by simp at h⟩, fun a h => (List.not_mem_nil h).elim⟩⟩
  show some (yO s s 2 3) = some (yO s (s + 0) 2 3)
  rw [Int.add_zero]
theorem filled_ok {b : Bag} (ok : b.Ok u) (hu : u < 100000) (s : Int) : ∃ M' ths, F_law_filled [.ob 0, .ob 1] [b.mo, yO s s 2 3, .lst [], .dic [] []] = some (.ok (.ob 4), M') ∧ H1 (u + 30000) s ths M' ∧ Vd s ths ∧ 1 ≤ ths.length ∧ ths.length ≤ 400 := by
  obtain ⟨n, b1, e1, ok1, n1, n2⟩ := many_ok ok (by omega)
  obtain ⟨ch, b2, e2, ok2, g0, g1⟩ := draw_ex (m := 3) ok1 (by decide) (by decide +kernel) (by omega)
  have hc : ch = 0 ∨ ch = 1 ∨ ch = 2 := by omega
  have e1 := e1 [yO s s 2 3, .lst [], .dic [] []]
  have e2 := e2 [yO s s 2 3, .lst [], .dic [] []]
  obtain ⟨s1, e3, M3, ths, c5, c6, c8, rfl, h3, z3, l3, k3⟩ := forL_thru (t := .one 5) (body := mkB) (ds := rngL 0 n) (st := ⟨[.v (.ob 0), .v (.ob 1), .v (.int n), .v (.int ch), .v (.ob 4), .un, .un, .un, .un], [b2.mo, yO s s 2 3, .lst [], .dic [] [], .lst []]⟩)
    (fun i st => ∃ M' ths c5 c6 c8, st = ⟨[.v (.ob 0), .v (.ob 1), .v (.int n), .v (.int ch), .v (.ob 4), c5, c6, .un, c8], M'⟩ ∧ H1 (u + 3 + 3 * i) s ths M' ∧ (∀ t ∈ ths, ∀ a ∈ t.1, a = (0 : Int)) ∧ ths.length = i ∧ c6.ok = true ∧ c8.ok = true)
    ⟨_, [], .un, .un, .un, rfl, h1_start b2 (ok2.mono (by omega)) s, by simp, rfl, rfl, rfl⟩ (by
      rintro i x st hx ⟨M', ths, c5, c6, c8, rfl, q1, q2, q3, q4⟩
      rw [rngL_get] at hx
      split at hx
      · rename_i hi
        cases hx
        obtain ⟨M2, x6, x8, hh, mm, e, p1⟩ := mk_step (c2 := .v (.int n)) (c5 := .v (.int (0 + (i : Int)))) (c6 := c6) (c7 := .un) (c8 := c8) q1 (by omega) (by omega) hc q4
        exact ⟨_, rfl, _, e, M2, _, _, _, _, rfl, by rw [show u + 3 + 3 * (i + 1) = u + 3 + 3 * i + 3 by omega]; exact p1, vd_zr q2, by rw [List.length_append, q3]; rfl, rfl, rfl⟩
      · cases hx)
  rw [rngL_len] at h3 l3
  have V3 : Vd s ths := fun t ht a ha => .inl (z3 t ht a ha)
  obtain ⟨s1, e4, M4, ths4, c5', c7', rfl, h4, V4, l4⟩ := forL_thru (t := .one 5) (body := fiB) (ds := rngL 0 n) (st := ⟨[.v (.ob 0), .v (.ob 1), .v (.int n), .v (.int ch), .v (.ob 4), c5, c6, .un, c8], M3⟩)
    (fun i st => ∃ M' ths' c5 c7, st = ⟨[.v (.ob 0), .v (.ob 1), .v (.int n), .v (.int ch), .v (.ob 4), c5, c6, c7, c8], M'⟩ ∧ H1 (u + 3 + 3 * n + 60 * i) s ths' M' ∧ Vd s ths' ∧ ths'.length = n)
    ⟨_, ths, c5, .un, rfl, h3, V3, l3⟩ (by
      rintro i x st hx ⟨M', ths', c5, c7, rfl, q1, q2, q3⟩
      rw [rngL_get] at hx
      split at hx
      · rename_i hi
        cases hx
        rw [Int.zero_add]
        obtain ⟨M2, ths2, x7, e, p1, p2, p3⟩ := fi_step (c2 := .v (.int n)) (c6 := c6) (c7 := c7) (c8 := c8) q1 q2 (by omega) (by omega) hc (k := i) (by omega)
        exact ⟨_, rfl, _, e, M2, ths2, _, _, rfl, by rw [show u + 3 + 3 * n + 60 * (i + 1) = u + 3 + 3 * n + 60 * i + 60 by omega]; exact p1, p2, p3.trans q3⟩
      · cases hx)
  rw [rngL_len] at h4
  refine ⟨M4, ths4, ?_, h4.mono (by omega), V4, by omega, by omega⟩
  have r1 := rngOk_ok (n := n) (by omega)
  rw [F_law_filled, filled_B, e_fn]
  have e3' : forI (getR 0 n) (.one 5) mkB (n + 1) 0 ⟨[.v (.ob 0), .v (.ob 1), .v (.int n), .v (.int ch), .v (.ob 4), .un, .un, .un, .un], [b2.mo, yO s s 2 3, .lst [], .dic [] [], .lst []]⟩ = some (.ok .nx, ⟨[.v (.ob 0), .v (.ob 1), .v (.int n), .v (.int ch), .v (.ob 4), c5, c6, .un, c8], M3⟩) := by
    rw [e_for_rng _ _ _ _ _ _ (by omega)]; exact e3
  have e4' : forI (getR 0 n) (.one 5) fiB (n + 1) 0 ⟨[.v (.ob 0), .v (.ob 1), .v (.int n), .v (.int ch), .v (.ob 4), c5, c6, .un, c8], M3⟩ = some (.ok .nx, ⟨[.v (.ob 0), .v (.ob 1), .v (.int n), .v (.int ch), .v (.ob 4), c5', c6, c7', c8], M4⟩) := by
    rw [e_for_rng _ _ _ _ _ _ (by omega)]; exact e4
  generalize mkB = MB at e3' ⊢
  generalize fiB = FB at e4' ⊢
  simp [e1, draw_eq, e2, r1, e3', e4', LIM]
end
end Lw

namespace Lw
open PySem PySem.Spec PyProof.Rows L2 VL
section
variable {o : Nat → Nat} {M r : List MO} {c y w bb t u : Nat} {s : Int} {ths : List Th} {rs : List (Nat × Nat)} {b : Bag}
theorem roots_ok (S : Sd o (b.mo :: r) c y w bb t s ths rs) (c8 : c < 8) (o0 : o 0 = 0) (ok : b.Ok u) (hu : u < 800000) (hl : 0 < ths.length) (hn : ths.length < 1000) :
    ∃ (roots : List Int) (b' : Bag), F_law_roots [.ob 0, .ob t] (b.mo :: r) = some (.ok (.lst (roots.map .int)), b'.mo :: r) ∧ b'.Ok (u + 1300) ∧ (∀ a ∈ roots, a = 0 ∨ a ∈ atsOf s ths) ∧ roots.length ≤ 401 := by
  obtain ⟨d1, b1, e1, k1, g0, g1⟩ := draw_ex (m := 56) ok (by decide) (by decide +kernel) (by omega)
  obtain ⟨n, b2, c3, e2, k2, n1, hc3⟩ : ∃ (n : Nat) (b2 : Bag) (_ : Unit), (ifS (cmp2 eqF (opdC (numC divF (varV 3) (pureC (.int 7)))) (opdC (pureC (.int 7)))) (asgV 4 (valN (bin2 addF (opdC (pureC (.int 7))) (opdC (callE 2 F_law_draw (consA (varV 0) (consA (pureC (.int 390)) nilA))))))) skipS) ⟨[.v (.ob 0), .v (.ob t), .own (.lst []), .v (.int d1), .v (.int (d1 % 7)), .un], b1.mo :: r⟩
      = some (.ok .nx, ⟨[.v (.ob 0), .v (.ob t), .own (.lst []), .v (.int d1), .v (.int n), .un], b2.mo :: r⟩) ∧ b2.Ok (u + 2) ∧ n ≤ 401 ∧ True := by
    by_cases h : d1 / 7 = 7
    · obtain ⟨d2, b2, e2, k2, h0, h1⟩ := draw_ex (m := 390) k1 (by decide) (by decide +kernel) (by omega)
      refine ⟨(7 + d2).toNat, b2, (), ?_, k2, by omega, trivial⟩
      have z : ((7 + d2).toNat : Int) = 7 + d2 := by omega
      rw [z]
      have lg : Nat.log2 7 < 9000 := by decide +kernel
      simp [h, draw_eq, e2, lg]
    · refine ⟨(d1 % 7).toNat, b1, (), ?_, k1.mono (by omega), by omega, trivial⟩
      have z : ((d1 % 7).toNat : Int) = d1 % 7 := by omega
      rw [z]
      have lg : Nat.log2 7 < 9000 := by decide +kernel
      simp [h, lg]
  obtain ⟨s1, e3, acc, b3, c5, rfl, q1, q2, q3⟩ := forL_thru (t := .one 5) (body := exprS (appE (rawV 2) (callE 4 F_law_hold (consA (varV 0) (consA (varV 1) (consA (pureC (.int 0)) (consA (pureC (.int 0)) nilA)))))))
    (ds := rngL 0 n) (st := ⟨[.v (.ob 0), .v (.ob t), .own (.lst []), .v (.int d1), .v (.int n), .un], b2.mo :: r⟩)
    (fun i st => ∃ (acc : List Int) (b3 : Bag) (c5 : Cell), st = ⟨[.v (.ob 0), .v (.ob t), .own (.lst (acc.map .int)), .v (.int d1), .v (.int n), c5], b3.mo :: r⟩ ∧ b3.Ok (u + 2 + 3 * i) ∧ (∀ a ∈ acc, a = 0 ∨ a ∈ atsOf s ths) ∧ acc.length = i)
    ⟨[], b2, .un, rfl, k2, by simp, rfl⟩ (by
      rintro i x st hx ⟨acc, b3, c5, rfl, q1, q2, q3⟩
      rw [rngL_get] at hx
      split at hx
      · rename_i hi
        cases hx
        have S3 : Sd o (b3.mo :: r) c y w bb t s ths rs := S.bag o0 c8
        obtain ⟨a, b4, e4, k4, z⟩ := hold_ok (k := 0) (ch := 0) S3 o0 q1 (by omega) hl hn (by decide) (by decide) (.inl rfl)
        refine ⟨_, rfl, _, ?_, acc ++ [a], b4, .v (.int (0 + (i : Int))), rfl, by rw [show u + 2 + 3 * (i + 1) = u + 2 + 3 * i + 3 by omega]; exact k4, ?_, by rw [List.length_append, q3]; rfl⟩
        · have ll : acc.length < 1000000 := by omega
          simp [e4, LIM, ll]
        · intro x hx
          rcases List.mem_append.mp hx with hx | hx
          · exact q2 x hx
          · rw [List.mem_singleton] at hx
            subst hx
            exact z
      · cases hx)
  rw [rngL_len] at q1 q3
  refine ⟨acc, b3, ?_, q1.mono (by omega), q2, by omega⟩
  have r1 := rngOk_ok (n := n) (by omega)
  have e3' : forI (getR 0 n) (.one 5) (exprS (appE (rawV 2) (callE 4 F_law_hold (consA (varV 0) (consA (varV 1) (consA (pureC (.int 0)) (consA (pureC (.int 0)) nilA))))))) (n + 1) 0 ⟨[.v (.ob 0), .v (.ob t), .own (.lst []), .v (.int d1), .v (.int n), .un], b2.mo :: r⟩ = some (.ok .nx, ⟨[.v (.ob 0), .v (.ob t), .own (.lst (acc.map .int)), .v (.int d1), .v (.int n), c5], b3.mo :: r⟩) := by
    rw [e_for_rng _ _ _ _ _ _ (by omega)]; exact e3
  unfold F_law_roots B_law_roots
  rw [e_fn]
  generalize exprS (appE (rawV 2) (callE 4 F_law_hold (consA (varV 0) (consA (varV 1) (consA (pureC (.int 0)) (consA (pureC (.int 0)) nilA)))))) = RB at e3' ⊢
  generalize ifS (cmp2 eqF (opdC (numC divF (varV 3) (pureC (.int 7)))) (opdC (pureC (.int 7)))) (asgV 4 (valN (bin2 addF (opdC (pureC (.int 7))) (opdC (callE 2 F_law_draw (consA (varV 0) (consA (pureC (.int 390)) nilA))))))) skipS = IB at e2 ⊢
  simp [draw_eq, e1, e2, e3', r1, LIM]
end
end Lw

namespace Lw
open PySem PySem.Spec PyProof.Rows L2 VL
def lwC : C Bool := cmp2 ltF (rawV 8) (opdC (valN (un1 lenF (rawV 7))))
def lwB : Stm := seqS (asgV 10 (ixE (rawV 7) (varV 8)))
  (seqS (asgV 8 (valN (bin2 addF (rawV 8) (opdC (pureC (.int 1))))))
  (seqS (ifS (andC (cmp2 notInDF (rawV 10) (rawV 5)) (cmp2 notInDF (rawV 10) (rawV 3))) (retS (pureC .non)) skipS)
  (ifS (cmp2 notInDF (rawV 10) (rawV 5)) (seqS (dputS (varV 2) (rawV 5) (varV 10))
  (seqS (asgV 2 (valN (bin2 addF (opdC (valN (bin2 addF (opdC (valN (bin2 addF (rawV 2) (opdC (pureC (.int 1)))))) (opdC (valN (un1 lenF (opdC (ixE (opdC (dgE (rawV 3) (varV 10))) (pureC (.int 1)))))))))) (opdC (valN (un1 lenF (opdC (ixE (opdC (dgE (rawV 3) (varV 10))) (pureC (.int 2))))))))))
  (seqS (exprS (appE (rawV 6) (varV 10)))
  (exprS (extE (rawV 7) (opdC (ixE (opdC (dgE (rawV 3) (varV 10))) (pureC (.int 1))))))))) skipS)))
theorem while_r {c : C Bool} {body : Stm} {m : Nat} {st st1 st2 : Ms} {d : D} (h1 : c st = some (.ok true, st1)) (h2 : body st1 = some (.ok (.rt d), st2)) : whileI c body (m + 1) st = some (.ok (.rt d), st2) := by
  show bndC c _ st = _
  rw [e_bnd, h1]
  simp only
  rw [h2]
theorem dlook_gen : ∀ {ks : List Int} {vs : List D} {h : Int}, ks.length = vs.length → h ∈ ks → dLook (ks.map .int) vs (.int h) = vs[ks.idxOf h]?
  | [], _, _, _, h => (List.not_mem_nil h).elim
  | k :: ks, [], _, hl, _ => by cases hl
  | k :: ks, v :: vs, h, hl, hm => by
    show (if keyEq (.int k) (.int h) = true then _ else _) = _
    rw [e_keyEq_i]
    by_cases e : k = h
    · subst e
      rw [if_pos (by simp), List.idxOf_cons_self]
      rfl
    · rw [if_neg (by simpa using e), List.idxOf_cons, cond_eq_ite, if_neg (by simpa using e)]
      rcases List.mem_cons.mp hm with q | q
      · exact absurd q.symm e
      · rw [dlook_gen (by simpa using hl) q]
        rfl
section
variable {M : List MO} {t : Nat} {s f : Int} {ths nt : List Th} {rs : List (Nat × Nat)} {ord ahead : List Int} {RD : D} {c4 c9 c10 c11 : Cell} {dn : Nat}
theorem by_look (T : Ts M t s ths rs) {h : Int} {a : Th} (hf : findT s ths h = some a) : ∃ i j : Nat, dLook ((atsOf s ths).map .int) (thD s ths rs) (.int h) = some (.tup [.int h, .ob i, .ob j]) ∧ M[i]? = some (.lst (a.1.map .int)) ∧ M[j]? = some (.lst (a.2.map .int)) := by
  obtain ⟨l, r, rfl, rfl⟩ := findT_mem hf
  obtain ⟨i, j, q1, q2, q3, q4⟩ := thD_at T
  refine ⟨i, j, ?_, q1, q2⟩
  have hi : (atsOf s (l ++ a :: r))[l.length]? = some (s + tot l) := by
    rw [ats_get (by rw [List.length_append, List.length_cons]; omega), List.take_left' rfl]
  rw [dlook_gen (by rw [ats_len, thD_len T.l]) (findT_in hf).1, nd_idx (ats_nodup _ _) hi, q4]
theorem mv_look {a : Int} (hm : a = 0 ∨ a ∈ ord) (h0 : 0 ∉ ord) : dLook ((0 :: ord).map .int) ((0 :: atsOf f (olds s ths ord)).map .int) (.int a) = some (.int (mv s f ths ord a)) := by
  have e := dlook_int (ks := 0 :: ord) (vs := 0 :: atsOf f (olds s ths ord)) (h := a) (by rw [List.length_cons, List.length_cons, ats_len, olds_len]) (by
    rcases hm with rfl | hm
    · simp
    · simp [hm])
  rw [e]
  by_cases ha : a = 0
  · subst ha
    rw [List.idxOf_cons_self]
    show some (D.int 0) = some (.int (if (0 : Int) = 0 then 0 else _))
    rw [if_pos rfl]
  · have hm := hm.resolve_left ha
    rw [List.idxOf_cons, cond_eq_ite, if_neg (by simpa using Ne.symm ha), List.getElem?_cons_succ, ats_get (by rw [olds_len]; exact List.idxOf_lt_length_of_mem hm)]
    unfold mv
    rw [if_neg ha]
    rfl
def lEnv (t : Nat) (RD : D) (s f : Int) (ths : List Th) (rs : List (Nat × Nat)) (ord ahead : List Int) (dn : Nat) (c4 c9 c10 c11 : Cell) : List Cell :=
  [.v (.ob t), .v RD, .v (.int (f + tot (olds s ths ord))), .own (.dic ((atsOf s ths).map .int) (thD s ths rs)), c4, .own (.dic ((0 :: ord).map .int) ((0 :: atsOf f (olds s ths ord)).map .int)), .own (.lst (ord.map .int)), .own (.lst (ahead.map .int)), .v (.int dn), c9, c10, c11]
theorem lw_c (c10 : Cell) : lwC ⟨lEnv t RD s f ths rs ord ahead dn c4 c9 c10 c11, M⟩ = some (.ok (decide (dn < ahead.length)), ⟨lEnv t RD s f ths rs ord ahead dn c4 c9 c10 c11, M⟩) := by
  simp only [lwC]
  simp [lEnv]
theorem lw_step (T : Ts M t s ths rs) (hk : ∀ t ∈ ths, tok t) (hn : ths.length < 1000) (O : Or (s := s) (ths := ths) ord) {h : Int} (hh : ahead[dn]? = some h) (hl : ahead.length ≤ 500000) :
    match visit s ths ord h with
    | some o => lwB ⟨lEnv t RD s f ths rs ord ahead dn c4 c9 c10 c11, M⟩ = some (.ok .nx, ⟨lEnv t RD s f ths rs o (ahead ++ (o.drop ord.length).flatMap (hold1 s ths)) (dn + 1) c4 c9 (.v (.int h)) c11, M⟩)
    | none => ∃ env, lwB ⟨lEnv t RD s f ths rs ord ahead dn c4 c9 c10 c11, M⟩ = some (.ok (.rt .non), ⟨env, M⟩) := by
  have hix : (ahead.map D.int)[dn]? = some (.int h) := by rw [List.getElem?_map, hh]; rfl
  have keys := any_int (0 :: ord) h
  rw [List.map_cons] at keys
  by_cases hm : h = 0 ∨ h ∈ ord
  · have e : visit s ths ord h = some ord := if_pos hm
    rw [e]
    have hm2 : h ∈ 0 :: ord := by simpa using hm
    rw [decide_eq_true hm2] at keys
    simp only [lwB]
    simp only [lEnv, List.map_cons, List.drop_length, List.flatMap_nil, List.append_nil]
    simp [hh, keys, -List.any_cons, -List.any_map]
  · have hm2 : h ∉ 0 :: ord := by simpa using hm
    rw [decide_eq_false hm2] at keys
    cases hf : findT s ths h with
    | none =>
      have e : visit s ths ord h = none := by unfold visit; rw [if_neg hm, hf]
      rw [e]
      have k2 := any_int (atsOf s ths) h
      rw [decide_eq_false (findT_none hf)] at k2
      refine ⟨lEnv t RD s f ths rs ord ahead (dn + 1) c4 c9 (.v (.int h)) c11, ?_⟩
      simp only [lwB]
      simp only [lEnv, List.map_cons]
      simp [hh, keys, k2, -List.any_cons, -List.any_map]
    | some a =>
      have e : visit s ths ord h = some (ord ++ [h]) := by unfold visit; rw [if_neg hm, hf]
      rw [e]
      have k2 := any_int (atsOf s ths) h
      rw [decide_eq_true (findT_in hf).1] at k2
      obtain ⟨i, j, q1, q2, q3⟩ := by_look T hf
      have pk := putK_new hm2
      have pv := putV_new (vs := (0 :: atsOf f (olds s ths ord)).map D.int) (d := .int (f + tot (olds s ths ord))) hm2
      have ol : olds s ths (ord ++ [h]) = olds s ths ord ++ [a] := by
        rw [olds_app]
        show _ ++ [(findT s ths h).getD ([], [])] = _
        rw [hf]; rfl
      have hal : (0 :: atsOf f (olds s ths ord)).map D.int ++ [D.int (f + tot (olds s ths ord))] = (0 :: atsOf f (olds s ths (ord ++ [h]))).map D.int := by
        rw [ol, ats_app, ← List.cons_append, List.map_append]; rfl
      rw [hal] at pv
      have hfr : f + tot (olds s ths ord) + 1 + a.1.length + a.2.length = f + tot (olds s ths (ord ++ [h])) := by
        rw [ol, tot_app]
        show _ = f + (tot (olds s ths ord) + (sz a + 0))
        unfold sz
        omega
      have hfm : ((ord ++ [h]).drop ord.length).flatMap (hold1 s ths) = a.1 := by
        rw [List.drop_left' rfl]
        simp [hold1, hf]
      have hol : ord.length + 1 < 1000000 := by have := O.le; omega
      have hol2 : ord.length < 1000000 := by omega
      have ht := hk a (findT_in hf).2
      have hel : ahead.length + a.1.length ≤ 1000000 := by have := ht.1; omega
      show lwB _ = _
      rw [hfm]
      have pk' : dPutK ((0 :: ord).map D.int) (.int h) = (0 :: (ord ++ [h])).map D.int := pk
      rw [List.map_cons, List.map_cons] at pk' pv
      simp only [lwB]
      simp only [lEnv, List.map_cons, List.map_append] at pk' pv ⊢
      simp [hh, keys, k2, q1, q2, q3, pk', pv, hfr, LIM, hol, hol2, hel, -List.any_cons, -List.any_map]
theorem lw_seg (T : Ts M t s ths rs) (hk : ∀ t ∈ ths, tok t) (hn : ths.length < 1000) : ∀ (hs : List Int) (ord ahead : List Int) (dn m : Nat) (rest : List Int) (c10 : Cell), Or (s := s) (ths := ths) ord → ahead.drop dn = hs ++ rest → ahead.length + hs.length * 10 ≤ 400000 → c10.ok = true →
    match visits s ths ord hs with
    | some o => ∃ c10', whileI lwC lwB (m + hs.length) ⟨lEnv t RD s f ths rs ord ahead dn c4 c9 c10 c11, M⟩ = whileI lwC lwB m ⟨lEnv t RD s f ths rs o (ahead ++ (o.drop ord.length).flatMap (hold1 s ths)) (dn + hs.length) c4 c9 c10' c11, M⟩ ∧ c10'.ok = true
    | none => ∃ env, whileI lwC lwB (m + hs.length) ⟨lEnv t RD s f ths rs ord ahead dn c4 c9 c10 c11, M⟩ = some (.ok (.rt .non), ⟨env, M⟩)
  | [], ord, ahead, dn, m, rest, c10, O, hd, hl, hc => by
    refine ⟨c10, ?_, hc⟩
    rw [List.drop_length, List.flatMap_nil, List.append_nil]
    rfl
  | h :: hs, ord, ahead, dn, m, rest, c10, O, hd, hl, hc => by
    have hh : ahead[dn]? = some h := by
      have := congrArg (·[0]?) hd
      simpa using this
    have hdl := (List.getElem?_eq_some_iff.mp hh).1
    have hd' : ahead.drop (dn + 1) = hs ++ rest := by
      rw [← List.drop_drop, hd]; rfl
    rw [List.length_cons] at hl
    have L := lw_step (f := f) (RD := RD) (c4 := c4) (c9 := c9) (c10 := c10) (c11 := c11) T hk hn O hh (by omega)
    have hc0 := lw_c (t := t) (RD := RD) (s := s) (f := f) (ths := ths) (rs := rs) (ord := ord) (ahead := ahead) (dn := dn) (M := M) (c4 := c4) (c9 := c9) (c11 := c11) c10
    rw [decide_eq_true hdl] at hc0
    unfold visits
    rw [show m + (h :: hs).length = m + hs.length + 1 by rw [List.length_cons]; omega]
    cases hv : visit s ths ord h with
    | none =>
      rw [hv] at L
      obtain ⟨env, e⟩ := L
      exact ⟨env, while_r hc0 e⟩
    | some o1 =>
      rw [hv] at L
      have L : lwB _ = _ := L
      obtain ⟨x, rfl⟩ := (visit_pre hv).1
      rw [while_t hc0 L]
      have fml : ((ord ++ x).drop ord.length).flatMap (hold1 s ths) = x.flatMap (hold1 s ths) := by rw [List.drop_left' rfl]
      have fl : (x.flatMap (hold1 s ths)).length ≤ 10 := by
        unfold visit at hv
        split at hv
        · have : x = [] := by
            have := Option.some.inj hv
            have := congrArg List.length this
            rw [List.length_append] at this
            exact List.eq_nil_of_length_eq_zero (by omega)
          subst this
          simp
        · split at hv
          · rename_i a ha
            have hx := List.append_cancel_left (Option.some.inj hv)
            subst hx
            have := (hk a (findT_in ha).2).1
            simp [hold1, ha]
            omega
          · cases hv
      rw [fml]
      have ih := lw_seg T hk hn hs (ord ++ x) (ahead ++ x.flatMap (hold1 s ths)) (dn + 1) m (rest ++ x.flatMap (hold1 s ths)) (.v (.int h)) (O.visit hv) (by rw [List.drop_append_of_le_length (by omega), hd', List.append_assoc]) (by rw [List.length_append]; omega) rfl
      simp only
      cases hv2 : visits s ths (ord ++ x) hs with
      | none => rw [hv2] at ih; exact ih
      | some o =>
        rw [hv2] at ih
        obtain ⟨c10', e, h10⟩ := ih
        refine ⟨c10', ?_, h10⟩
        rw [e]
        obtain ⟨z, rfl⟩ := visits_pre hv2
        have e1 : (ord ++ x ++ z).drop (ord ++ x).length = z := List.drop_left' rfl
        have e2 : (ord ++ x ++ z).drop ord.length = x ++ z := by rw [List.append_assoc]; exact List.drop_left' rfl
        rw [e1, e2, List.flatMap_append, ← List.append_assoc, List.length_cons, show dn + 1 + hs.length = dn + (hs.length + 1) by omega]
theorem lw_main (T : Ts M t s ths rs) (hk : ∀ t ∈ ths, tok t) (hn : ths.length < 1000) : ∀ (n d : Nat) (ord ahead : List Int) (dn m : Nat) (c10 : Cell), Or (s := s) (ths := ths) ord → d ≤ ord.length → ths.length + 1 < n + d → ahead.drop dn = (ord.drop d).flatMap (hold1 s ths) → dn ≤ ahead.length → n * 10 ≤ m → ahead.length + n * 100 ≤ 300000 → c10.ok = true →
    match goesO s ths n ord d with
    | some o => ∃ ahead' c10', whileI lwC lwB (m + 1) ⟨lEnv t RD s f ths rs ord ahead dn c4 c9 c10 c11, M⟩ = some (.ok .nx, ⟨lEnv t RD s f ths rs o ahead' ahead'.length c4 c9 c10' c11, M⟩) ∧ c10'.ok = true
    | none => ∃ env, whileI lwC lwB (m + 1) ⟨lEnv t RD s f ths rs ord ahead dn c4 c9 c10 c11, M⟩ = some (.ok (.rt .non), ⟨env, M⟩)
  | 0, d, ord, ahead, dn, m, c10, O, hd, hf, ha, hdn, hm, hl, hc => by
    have := O.le
    omega
  | n + 1, d, ord, ahead, dn, m, c10, O, hd, hf, ha, hdn, hm, hl, hc => by
    unfold goesO
    by_cases hdl : d = ord.length
    · subst hdl
      rw [List.getElem?_eq_none (Nat.le_refl _)]
      rw [List.drop_length, List.flatMap_nil, List.drop_eq_nil_iff] at ha
      have hdn2 : dn = ahead.length := by omega
      subst hdn2
      have hc0 := lw_c (t := t) (RD := RD) (s := s) (f := f) (ths := ths) (rs := rs) (ord := ord) (ahead := ahead) (dn := ahead.length) (M := M) (c4 := c4) (c9 := c9) (c11 := c11) c10
      rw [decide_eq_false (Nat.lt_irrefl _)] at hc0
      exact ⟨ahead, c10, while_f hc0, hc⟩
    · have hlt : d < ord.length := by omega
      obtain ⟨h, hh⟩ : ∃ h, ord[d]? = some h := ⟨_, List.getElem?_eq_getElem hlt⟩
      have hcut : ord.drop d = h :: ord.drop (d + 1) := by
        rw [List.drop_eq_getElem_cons hlt]
        rw [List.getElem?_eq_getElem hlt] at hh
        rw [Option.some.inj hh]
      obtain ⟨a, hfa⟩ := O.th h (List.mem_of_getElem? hh)
      have h9 : (hold1 s ths h).length < 10 := by
        have := (hk a (findT_in hfa).2).1
        unfold hold1
        rw [hfa]
        exact this
      rw [hcut, List.flatMap_cons] at ha
      have L := lw_seg (RD := RD) (f := f) (c4 := c4) (c9 := c9) (c11 := c11) T hk hn (hold1 s ths h) ord ahead dn (m - (hold1 s ths h).length + 1) _ c10 O ha (by omega) hc
      rw [show m - (hold1 s ths h).length + 1 + (hold1 s ths h).length = m + 1 by omega] at L
      rw [hh]
      simp only
      cases hv : visits s ths ord (hold1 s ths h) with
      | none => rw [hv] at L; exact L
      | some o1 =>
        rw [hv] at L
        obtain ⟨c10', e, h10⟩ := L
        simp only
        rw [e]
        obtain ⟨x, rfl⟩ := visits_pre hv
        have hal : (hold1 s ths h).length ≤ (ahead.drop dn).length := by rw [ha, List.length_append]; omega
        rw [List.length_drop] at hal
        have fx : (x.flatMap (hold1 s ths)).length ≤ 10 * x.length := by
          have hx : ∀ y ∈ x, (hold1 s ths y).length ≤ 10 := fun y hy => by
            unfold hold1
            split
            · rename_i b hb
              have := (hk b (findT_in hb).2).1
              omega
            · exact Nat.zero_le _
          clear hv e
          induction x with
          | nil => exact Nat.zero_le _
          | cons y x ih =>
            rw [List.flatMap_cons, List.length_append, List.length_cons]
            have := ih fun z hz => hx z (by simp [hz])
            have := hx y (by simp)
            omega
        have hxl : x.length ≤ 10 := by
          have : ∀ (hs : List Int) (o : List Int) (x : List Int), visits s ths o hs = some (o ++ x) → x.length ≤ hs.length := by
            intro hs
            induction hs with
            | nil =>
              intro o x e
              have := congrArg List.length (Option.some.inj e)
              rw [List.length_append] at this
              show x.length ≤ 0
              omega
            | cons g hs ih =>
              intro o x e
              unfold visits at e
              split at e
              · rename_i o1 e1
                obtain ⟨y, rfl⟩ := (visit_pre e1).1
                obtain ⟨z, ez⟩ := visits_pre e
                have h1 := ih (o ++ y) z (by rw [e, ez])
                have hy : y.length ≤ 1 := by
                  unfold visit at e1
                  split at e1
                  · have := congrArg List.length (Option.some.inj e1)
                    rw [List.length_append] at this
                    omega
                  · split at e1
                    · rw [← List.append_cancel_left (Option.some.inj e1)]; simp
                    · cases e1
                have hlen := congrArg List.length ez
                rw [List.length_append, List.length_append, List.length_append] at hlen
                rw [List.length_cons]
                omega
              · cases e
          have := this _ _ _ hv
          omega
        have hfm : ((ord ++ x).drop ord.length).flatMap (hold1 s ths) = x.flatMap (hold1 s ths) := by rw [List.drop_left' rfl]
        rw [hfm]
        refine lw_main T hk hn n (d + 1) (ord ++ x) _ (dn + (hold1 s ths h).length) (m - (hold1 s ths h).length) c10' (O.visits hv) (by rw [List.length_append]; omega) (by omega) ?_ (by rw [List.length_append]; omega) (by omega) (by rw [List.length_append]; omega) h10
        rw [List.drop_append_of_le_length (by omega), List.drop_append_of_le_length (by omega), List.flatMap_append, ← List.drop_drop, ha, List.drop_left' rfl]
end
end Lw

namespace Lw
open PySem PySem.Spec PyProof.Rows L2 VL
theorem nobs : ∀ ns : List Int, nob (.lst (ns.map .int)) = true := fun ns => by
  show nobA (ns.map .int) = true
  rw [nobA_all, List.all_eq_true]
  intro d hd
  obtain ⟨i, _, rfl⟩ := List.mem_map.mp hd
  rfl
theorem ne_ints {st : Ms} {i : Nat} {ns : List Int} (h : st.M[i]? = some (.lst (ns.map .int))) : neF st (.d (.lst (ns.map .int))) (.d (.ob i)) = some false := by
  have e : deepF st (.d (.lst (ns.map .int))) (.d (.ob i)) = some true := by
    rw [deep_of (d := .lst (ns.map .int)) (e := .lst (ns.map .int)) (py_seq rfl) (py_seq (by simp [h])) (sh_ints ns) (sh_ints ns) (by decide) (by decide)]
    rw [(eqv_iff _ _ (nobs ns) (nobs ns)).mpr rfl]
  unfold neF eqF
  simp only [e_dOfd]
  rw [show sEq (D.lst (ns.map .int)) (D.ob i) = none from rfl]
  simp only [e]
  rfl
theorem neF_int {st : Ms} (i j : Int) : neF st (.d (.int i)) (.d (.int j)) = some (!decide (i = j)) := rfl
def innerB : Stm := seqS (ifS (orC (notC (tstE (isiE [.tuple] (rawV 4)))) (cmp2 neF (opdC (valN (un1 listTF (rawV 4)))) (rawV 5))) (retS (pureC (.bl false))) skipS)
  (ifS (cmp2 neF (opdC (valN (un1 lenF (opdC (valN (lcE (itD (varV 4)) (.one 6) [6] (tstE (callE 1 F_law_whole (consA (varV 6) nilA))) (varV 6))))))) (opdC (valN (un1 lenF (rawV 5))))) (retS (pureC (.bl false))) skipS)
theorem inner_ok {M : List MO} {i : Nat} {ns : List Int} {c0 c1 c2 c3 : Cell} (h : M[i]? = some (.lst (ns.map .int))) (hl : ns.length < 1000) : innerB ⟨[c0, c1, c2, c3, .v (.tup (ns.map .int)), .v (.ob i), .un], M⟩ = some (.ok .nx, ⟨[c0, c1, c2, c3, .v (.tup (ns.map .int)), .v (.ob i), .un], M⟩) := by
  have e1 := ne_ints (st := ⟨[c0, c1, c2, c3, .v (.tup (ns.map .int)), .v (.ob i), .un], M⟩) h
  have e2 := lc_pure (c := itD (varV 4)) (t := .one 6) (vs := [6]) (cond := tstE (callE 1 F_law_whole (consA (varV 6) nilA))) (elt := varV 6) (st := ⟨[c0, c1, c2, c3, .v (.tup (ns.map .int)), .v (.ob i), .un], M⟩) ns D.int (fun _ => true) D.int (iv := ⟨(ns.map D.int).length, getD' (.tup (ns.map D.int))⟩)
    (by simp) (fun acc s => by simp) (by simp) (by simp) (by unfold LIM; omega) (by
      intro c hc
      exact ⟨_, rfl, by simp, by simp [whole_ok], by simp⟩)
  rw [List.filter_eq_self.mpr (by simp)] at e2
  simp only [innerB]
  simp [e1, e2, -e_lcE, -e_neF, neF_int, h]
def outerB : Stm := seqS (ifS (orC (notC (tstE (isiE [.tuple] (rawV 2)))) (orC (cmp2 neF (opdC (valN (un1 lenF (rawV 2)))) (opdC (pureC (.int 3)))) (orC (notC (tstE (callE 1 F_law_whole (consA (ixE (rawV 2) (pureC (.int 0))) nilA)))) (cmp2 neF (opdC (ixE (rawV 2) (pureC (.int 0)))) (opdC (ixE (rawV 3) (pureC (.int 0)))))))) (retS (pureC (.bl false))) skipS)
  (forS (itD (valN (lstE (consA (tupE (consA (ixE (rawV 2) (pureC (.int 1))) (consA (ixE (rawV 3) (pureC (.int 1))) nilA))) (consA (tupE (consA (ixE (rawV 2) (pureC (.int 2))) (consA (ixE (rawV 3) (pureC (.int 2))) nilA))) nilA))))) (.all [4, 5]) innerB)
theorem outer_ok {M : List MO} {i j : Nat} {a : Th} {at_ : Int} {c0 c1 c4 c5 : Cell} (h1 : M[i]? = some (.lst (a.1.map .int))) (h2 : M[j]? = some (.lst (a.2.map .int))) (ha : tok a) :
    outerB ⟨[c0, c1, .v (.tup [.int at_, .tup (a.1.map .int), .tup (a.2.map .int)]), .v (.tup [.int at_, .ob i, .ob j]), c4, c5, .un], M⟩ = some (.ok .nx, ⟨[c0, c1, .v (.tup [.int at_, .tup (a.1.map .int), .tup (a.2.map .int)]), .v (.tup [.int at_, .ob i, .ob j]), .v (.tup (a.2.map .int)), .v (.ob j), .un], M⟩) := by
  have ha1 := ha.1
  have ha2 := ha.2
  have hf : forL (.all [4, 5]) innerB [.tup [.tup (a.1.map .int), .ob i], .tup [.tup (a.2.map .int), .ob j]] ⟨[c0, c1, .v (.tup [.int at_, .tup (a.1.map .int), .tup (a.2.map .int)]), .v (.tup [.int at_, .ob i, .ob j]), c4, c5, .un], M⟩ = some (.ok .nx, ⟨[c0, c1, .v (.tup [.int at_, .tup (a.1.map .int), .tup (a.2.map .int)]), .v (.tup [.int at_, .ob i, .ob j]), .v (.tup (a.2.map .int)), .v (.ob j), .un], M⟩) := by
    rw [forL_cons rfl (inner_ok h1 (by omega)), forL_cons rfl (inner_ok h2 (by omega))]
    rfl
  unfold outerB
  generalize innerB = IB at hf ⊢
  simp [whole_ok, LIM, hf]
theorem told_B : B_law_told = seqS (ifS (orC (notC (tstE (isiE [.list] (rawV 0)))) (cmp2 neF (opdC (valN (un1 lenF (rawV 0)))) (opdC (valN (un1 lenF (rawV 1)))))) (retS (pureC (.bl false))) skipS)
  (seqS (forS (itZ (consA (varV 0) (consA (varV 1) nilA))) (.all [2, 3]) outerB) (retS (pureC (.bl true)))) := rfl
theorem toldD_get : ∀ {l r : List Th} {a : Th} {s : Int}, (toldD s (l ++ a :: r))[l.length]? = some (.tup [.int (s + tot l), .tup (a.1.map .int), .tup (a.2.map .int)])
  | [], r, a, s => by show some _ = some _; unfold tot; rw [Int.add_zero]
  | b :: l, r, a, s => by
    show (_ :: toldD (s + sz b) (l ++ a :: r))[l.length + 1]? = _
    rw [List.getElem?_cons_succ, toldD_get]
    rw [Int.add_assoc]; rfl
theorem ctold_ok {M : List MO} {t n : Nat} {s : Int} {ths : List Th} {rs : List (Nat × Nat)} (hn : M[n]? = some (.lst (toldD s ths))) (T : Ts M t s ths rs) (ht : ∀ t ∈ ths, tok t) : F_law_told [.ob n, .ob t] M = some (.ok (.bl true), M) := by
  have l1 := thD_len (s := s) T.l
  have l2 := toldD_len ths s
  obtain ⟨s', e1, c2, c3, c4, c5, rfl⟩ := forI_thru (get := getZ (.ob n) (.ob t)) (t := .all [2, 3]) (body := outerB) (n := ths.length)
    (fun i st => ∃ c2 c3 c4 c5 : Cell, st = ⟨[.v (.ob n), .v (.ob t), c2, c3, c4, c5, .un], M⟩) (by
      rintro i st ⟨c2, c3, c4, c5, rfl⟩
      constructor
      · intro hi
        obtain ⟨l, a, r, h1, h2⟩ := split_at hi
        subst h2
        subst h1
        obtain ⟨p, q, h3, h4, h5, h6⟩ := thD_at T
        refine ⟨.tup [.tup [.int (s + tot l), .tup (a.1.map .int), .tup (a.2.map .int)], .tup [.int (s + tot l), .ob p, .ob q]], ?_, _, rfl, _, outer_ok h3 h4 (ht a (by simp)), _, _, _, _, rfl⟩
        unfold getZ
        simp [hn, T.t, toldD_get, h6]
      · intro hi
        subst hi
        unfold getZ
        simp [hn, T.t, l1, l2, List.getElem?_eq_none]) (ths.length + 1) 0 ⟨[.v (.ob n), .v (.ob t), .un, .un, .un, .un, .un], M⟩ (by omega) (Nat.zero_le _) ⟨_, _, _, _, rfl⟩
  simp only [F_law_told, e_fn]
  rw [told_B]
  generalize outerB = OB at e1 ⊢
  simp [hn, T.t, l1, l2, e1]
end Lw

namespace Lw
open PySem PySem.Spec PyProof.Rows L2 VL
/-- the law's lists of some things, one behind another -/
def flatM : List Th → List MO
  | [] => []
  | u :: r => .lst (u.1.map .int) :: .lst (u.2.map .int) :: flatM r
theorem flatM_len : ∀ l : List Th, (flatM l).length = 2 * l.length
  | [] => rfl
  | u :: r => by show (flatM r).length + 1 + 1 = _; rw [flatM_len r, List.length_cons]; omega
theorem flatM_app : ∀ l r : List Th, flatM (l ++ r) = flatM l ++ flatM r
  | [], r => rfl
  | u :: l, r => by show _ :: _ :: flatM (l ++ r) = _ :: _ :: (flatM l ++ flatM r); rw [flatM_app l r]
theorem flatM_get : ∀ {l : List Th} {i : Nat} {u : Th}, l[i]? = some u → (flatM l)[2 * i]? = some (.lst (u.1.map .int)) ∧ (flatM l)[2 * i + 1]? = some (.lst (u.2.map .int))
  | [], _, _, h => by simp at h
  | a :: l, 0, u, h => by cases h; exact ⟨rfl, rfl⟩
  | a :: l, i + 1, u, h => by
    obtain ⟨h1, h2⟩ := flatM_get (l := l) (i := i) (u := u) (by simpa using h)
    rw [show 2 * (i + 1) = 2 * i + 1 + 1 by omega]
    exact ⟨h1, h2⟩
def rsOf (base : Nat) (n : Nat) : List (Nat × Nat) := (List.range n).map fun i => (base + 2 * i, base + 2 * i + 1)
theorem rsOf_len (base n : Nat) : (rsOf base n).length = n := by simp [rsOf]
theorem rsOf_succ (base n : Nat) : rsOf base (n + 1) = rsOf base n ++ [(base + 2 * n, base + 2 * n + 1)] := by
  unfold rsOf
  rw [List.range_succ, List.map_append]; rfl
theorem rsOf_get {base n k : Nat} {p : Nat × Nat} (h : (rsOf base n)[k]? = some p) : k < n ∧ p = (base + 2 * k, base + 2 * k + 1) := by
  have hk := (List.getElem?_eq_some_iff.mp h).1
  rw [rsOf_len] at hk
  unfold rsOf at h
  rw [List.getElem?_map, List.getElem?_range hk] at h
  exact ⟨hk, (Option.some.inj h).symm⟩
/-- what the law's due things look like in the store -/
theorem ts_flat (M : List MO) (f : Int) (nt : List Th) (Z : List MO) : Ts (M ++ flatM nt ++ .lst (thD f nt (rsOf M.length nt.length)) :: Z) (M.length + 2 * nt.length) f nt (rsOf M.length nt.length) := by
  have hl : (M ++ flatM nt).length = M.length + 2 * nt.length := by rw [List.length_append, flatM_len]
  refine ⟨?_, rsOf_len _ _, fun k p a hp ha => ?_⟩
  · rw [List.getElem?_append_right (by omega), hl, Nat.sub_self]; rfl
  · obtain ⟨hk, rfl⟩ := rsOf_get hp
    obtain ⟨h1, h2⟩ := flatM_get ha
    constructor
    · rw [List.getElem?_append_left (by omega), List.getElem?_append_right (by omega), Nat.add_sub_cancel_left, h1]
    · rw [List.getElem?_append_left (by omega), List.getElem?_append_right (by omega), show M.length + 2 * k + 1 - M.length = 2 * k + 1 by omega, h2]
def byB : Stm := dputS (varV 4) (rawV 3) (ixE (rawV 4) (pureC (.int 0)))
def tailS (A B : C Nv) : Stm := seqS (asgV 9 (shrN A)) (retS (tupE (consA (varV 9) (consA (valN B) (consA (varV 2) nilA)))))
def dueE : C Nv := lcE (itD (varV 6)) (.one 10) [10] yesC (tupE (consA (dgE (rawV 5) (varV 10)) (consA (shrN (lcE (itD (ixE (opdC (dgE (rawV 3) (varV 10))) (pureC (.int 1)))) (.one 11) [11] yesC (dgE (rawV 5) (varV 11)))) (consA (shrN (un1 listTF (opdC (ixE (opdC (dgE (rawV 3) (varV 10))) (pureC (.int 2)))))) nilA))))
def prsE : C Nv := lcE (itD (varV 6)) (.one 10) [10] yesC (tupE (consA (varV 10) (consA (dgE (rawV 5) (varV 10)) nilA)))
theorem lcarted_B : B_law_carted = seqS (asgN 3 dnewE)
  (seqS (forS (itD (varV 0)) (.one 4) byB)
  (seqS (asgN 5 (dispE (consK (pureC (.int 0)) (pureC (.int 0)) nilK)))
  (seqS (asgN 6 (lstE nilA))
  (seqS (asgN 7 (un1 listTF (rawV 1)))
  (seqS (asgV 8 (pureC (.int 0)))
  (seqS (whileS lwC lwB) (tailS dueE prsE))))))) := rfl
section
variable {M : List MO} {t : Nat} {s f : Int} {ths nt : List Th} {rs : List (Nat × Nat)} {ord ahead : List Int} {RD : D} {c4 c5 c6 c7 c8 c9 c10 c11 : Cell} {dn : Nat}
theorem by_loop (T : Ts M t s ths rs) (hn : ths.length < 1000) {x1 x2 : Cell} : ∃ c4', forI (getD' (.ob t)) (.one 4) byB (ths.length + 1) 0 ⟨[.v (.ob t), x1, x2, .own (.dic [] []), c4, c5, c6, c7, c8, c9, c10, c11], M⟩ = some (.ok .nx, ⟨[.v (.ob t), x1, x2, .own (.dic ((atsOf s ths).map .int) (thD s ths rs)), c4', c5, c6, c7, c8, c9, c10, c11], M⟩) := by
  have dl := thD_len (s := s) T.l
  obtain ⟨s', e, l, r, c4', h1, h2, rfl⟩ := forI_thru (get := getD' (.ob t)) (t := .one 4) (body := byB) (n := ths.length)
    (fun i st => ∃ (l r : List Th) (c4' : Cell), ths = l ++ r ∧ l.length = i ∧ st = ⟨[.v (.ob t), x1, x2, .own (.dic ((atsOf s l).map .int) ((thD s ths rs).take i)), c4', c5, c6, c7, c8, c9, c10, c11], M⟩) (by
      rintro i st ⟨l, r, c4', h1, h2, rfl⟩
      constructor
      · intro hi
        cases r with
        | nil => rw [List.append_nil] at h1; subst h1; omega
        | cons a r =>
          subst h2
          obtain ⟨p, q, h3, h4, h5, h6⟩ := thD_at (h1 ▸ T)
          rw [← h1] at h6
          refine ⟨.tup [.int (s + tot l), .ob p, .ob q], ?_, _, rfl, _, ?_, l ++ [a], r, .v (.tup [.int (s + tot l), .ob p, .ob q]), by rw [h1]; simp, by rw [List.length_append]; rfl, rfl⟩
          · unfold getD'
            simp [T.t, h6]
          · have hno : s + tot l ∉ atsOf s l := fun z => by have := ats_mem z; omega
            have pk := putK_new hno
            have pv := putV_new (vs := (thD s ths rs).take l.length) (d := .tup [.int (s + tot l), .ob p, .ob q]) hno
            have hll : l.length < 1000000 := by
              have := congrArg List.length h1
              rw [List.length_append] at this
              omega
            have al := ats_len l s
            have htk : (thD s ths rs).take l.length ++ [.tup [.int (s + tot l), .ob p, .ob q]] = (thD s ths rs).take (l.length + 1) := by
              rw [List.take_succ, h6]; rfl
            have hat : (atsOf s l ++ [s + tot l]) = atsOf s (l ++ [a]) := by rw [ats_app]; rfl
            rw [hat] at pk
            simp only [byB]
            simp [pk, pv, hll, al, htk, LIM]
      · intro hi
        subst hi
        unfold getD'
        simp [T.t, dl]) (ths.length + 1) 0 ⟨[.v (.ob t), x1, x2, .own (.dic [] []), c4, c5, c6, c7, c8, c9, c10, c11], M⟩ (by omega) (Nat.zero_le _) ⟨[], ths, c4, rfl, rfl, rfl⟩
  have hr : r = [] := by
    have := congrArg List.length h1
    rw [List.length_append] at this
    exact List.eq_nil_of_length_eq_zero (by omega)
  subst hr
  rw [List.append_nil] at h1
  subst h1
  have htk : (thD s ths rs).take ths.length = thD s ths rs := by rw [← dl, List.take_length]
  rw [htk] at e
  exact ⟨c4', e⟩
theorem Good.full (G : Good s f ths ord nt ord.length 0) {i : Nat} {h : Int} {a : Th} (hh : ord[i]? = some h) (hf : findT s ths h = some a) : nt[i]? = some (a.1.map (mv s f ths ord), a.2) ∧ ∀ x ∈ a.1, x = 0 ∨ x ∈ ord := by
  obtain ⟨t', u, h1, h2, h3, h4, h5⟩ := G.th i h hh
  rw [hf] at h1
  cases h1
  have hi := (List.getElem?_eq_some_iff.mp hh).1
  constructor
  · rw [h2]
    congr 1
    refine Prod.ext ?_ h4
    apply List.ext_getElem?
    intro k
    by_cases hk : k < a.1.length
    · rw [List.getElem?_map, List.getElem?_eq_getElem hk]
      exact (h5 k a.1[k] (.inl hi) (List.getElem?_eq_getElem hk)).1
    · rw [List.getElem?_eq_none (by omega), List.getElem?_eq_none (by rw [List.length_map]; omega)]
  · intro x hx
    obtain ⟨k, hk, e⟩ := List.mem_iff_getElem.mp hx
    exact (h5 k x (.inl hi) (by rw [List.getElem?_eq_getElem hk, e])).2
def mEnv (t : Nat) (RD : D) (s f : Int) (ths : List Th) (rs : List (Nat × Nat)) (ord : List Int) (c6 c7 c8 c4 c9 c10 c11 : Cell) : List Cell :=
  [.v (.ob t), .v RD, .v (.int (f + tot (olds s ths ord))), .own (.dic ((atsOf s ths).map .int) (thD s ths rs)), c4, .own (.dic ((0 :: ord).map .int) ((0 :: atsOf f (olds s ths ord)).map .int)), c6, c7, c8, c9, c10, c11]
theorem due_ok (T : Ts M t s ths rs) (hk : ∀ t ∈ ths, tok t) (hn : ths.length < 1000) (G : Good s f ths ord nt ord.length 0) (hc : c10.ok = true) :
    dueE ⟨mEnv t RD s f ths rs ord (.own (.lst (ord.map .int))) c7 c8 c4 c9 c10 .un, M⟩ = some (.ok (.nw (.lst (thD f nt (rsOf M.length nt.length)))), ⟨mEnv t RD s f ths rs ord (.v (.lst (ord.map .int))) c7 c8 c4 c9 c10 .un, M ++ flatM nt⟩) := by
  have hol := G.o.le
  have hlen := G.len
  obtain ⟨acc, M', e, q1, q2⟩ := lc_stx (c := itD (varV 6)) (t := .one 10) (vs := [10])
    (elt := tupE (consA (dgE (rawV 5) (varV 10)) (consA (shrN (lcE (itD (ixE (opdC (dgE (rawV 3) (varV 10))) (pureC (.int 1)))) (.one 11) [11] yesC (dgE (rawV 5) (varV 11)))) (consA (shrN (un1 listTF (opdC (ixE (opdC (dgE (rawV 3) (varV 10))) (pureC (.int 2)))))) nilA))))
    (st := ⟨mEnv t RD s f ths rs ord (.v (.lst (ord.map .int))) c7 c8 c4 c9 c10 .un, M⟩) ord D.int (fun j acc M' => acc = thD f (nt.take j) (rsOf M.length j) ∧ M' = M ++ flatM (nt.take j)) (iv := ⟨(ord.map D.int).length, getD' (.lst (ord.map .int))⟩)
    (by simp [mEnv]) (fun acc s => by simp) (by simp [mEnv, hc]) (by simp [mEnv]) (by unfold LIM; omega) ⟨rfl, by simp [flatM]⟩ (by
      rintro j h acc M' hj ⟨rfl, rfl⟩
      obtain ⟨a, hfa⟩ := G.o.th h (List.mem_of_getElem? hj)
      have ha := hk a (findT_in hfa).2
      obtain ⟨hnt, hval⟩ := G.full hj hfa
      obtain ⟨hmv, h0⟩ := G.mv_at hj
      obtain ⟨i1, i2, b1, b2, b3⟩ := by_look T hfa
      have hjl : j < nt.length := (List.getElem?_eq_some_iff.mp hnt).1
      have g1 : ∀ Z, (M ++ Z)[i1]? = some (.lst (a.1.map .int)) := fun Z => by rw [List.getElem?_append_left (List.getElem?_eq_some_iff.mp b2).1]; exact b2
      have g2 : ∀ Z, (M ++ Z)[i2]? = some (.lst (a.2.map .int)) := fun Z => by rw [List.getElem?_append_left (List.getElem?_eq_some_iff.mp b3).1]; exact b3
      have m1 := mv_look (s := s) (f := f) (ths := ths) (ord := ord) (a := h) (.inr (List.mem_of_getElem? hj)) G.o.nz
      refine ⟨_, rfl, by simp [mEnv], .tup [.int (mv s f ths ord h), .ob (M ++ flatM (nt.take j)).length, .ob ((M ++ flatM (nt.take j)).length + 1)], M ++ flatM (nt.take (j + 1)), ?_, ?_, rfl⟩
      · have e2 := lc_pureM (c := itD (ixE (opdC (dgE (rawV 3) (varV 10))) (pureC (.int 1)))) (t := .one 11) (vs := [11]) (elt := dgE (rawV 5) (varV 11)) (cond := yesC)
          (st := ⟨mEnv t RD s f ths rs ord (.v (.lst (ord.map .int))) c7 c8 c4 c9 (.v (.int h)) .un, M ++ flatM (nt.take j)⟩) a.1 D.int (fun _ => true) (fun x => .int (mv s f ths ord x)) (iv := ⟨(a.1.map D.int).length, getD' (.ob i1)⟩)
          (by simp [mEnv, b1, g1]) (by simp) (fun env i => by unfold getD'; simp [g1]) (by simp [mEnv]) (by simp [mEnv]) (by have := ha.1; unfold LIM; omega) (by
            intro x hx
            have m2 := mv_look (s := s) (f := f) (ths := ths) (hval x hx) G.o.nz
            rw [List.map_cons, List.map_cons] at m2
            exact ⟨_, rfl, by simp [mEnv], rfl, fun _ => by simp [mEnv, m2]⟩)
        rw [List.filter_eq_self.mpr (by simp)] at e2
        have happ : M ++ flatM (nt.take j) ++ [MO.lst (a.1.map fun x => .int (mv s f ths ord x)), MO.lst (a.2.map .int)] = M ++ flatM (nt.take (j + 1)) := by
          rw [List.take_succ, hnt, flatM_app, List.append_assoc]
          simp [flatM, Function.comp_def]
        rw [← happ]
        rw [List.map_cons, List.map_cons] at m1
        generalize hEE : lcE (itD (ixE (opdC (dgE (rawV 3) (varV 10))) (pureC (.int 1)))) (.one 11) [11] yesC (dgE (rawV 5) (varV 11)) = EE at e2 ⊢
        simp only [mEnv, List.map_cons] at e2 ⊢
        have g2' := fun Z : List MO => g2 (flatM (nt.take j) ++ Z)
        simp only [← List.append_assoc] at g2'
        simp [m1, e2, b1, g2', LIM, -List.append_assoc]
        exact List.append_assoc _ _ _
      · rw [List.take_succ, hnt, rsOf_succ]
        show _ = thD f (nt.take j ++ [_]) _
        rw [thD_app (by rw [rsOf_len, List.length_take]; omega)]
        have hM : (M ++ flatM (nt.take j)).length = M.length + 2 * j := by rw [List.length_append, flatM_len, List.length_take]; omega
        rw [hM, ← hmv])
  have hfin : nt.take ord.length = nt := by rw [← hlen, List.take_length]
  rw [hfin] at q1 q2
  rw [← hlen] at q1
  rw [q1, q2] at e
  have := e
  unfold dueE
  rw [← e]
  rfl
theorem prs_ok (G : Good s f ths ord nt ord.length 0) (hn : ths.length < 1000) (hc : c10.ok = true) (Z : List MO) :
    prsE ⟨mEnv t RD s f ths rs ord (.v (.lst (ord.map .int))) c7 c8 c4 c9 c10 c11, Z⟩ = some (.ok (.nw (.lst ((ord.zip (atsOf f nt)).map pairD))), ⟨mEnv t RD s f ths rs ord (.v (.lst (ord.map .int))) c7 c8 c4 c9 c10 c11, Z⟩) := by
  have hol := G.o.le
  have e := lc_map (c := itD (varV 6)) (t := .one 10) (vs := [10]) (elt := tupE (consA (varV 10) (consA (dgE (rawV 5) (varV 10)) nilA)))
    (st := ⟨mEnv t RD s f ths rs ord (.v (.lst (ord.map .int))) c7 c8 c4 c9 c10 c11, Z⟩) ord D.int (fun h => pairD (h, mv s f ths ord h)) (iv := ⟨(ord.map D.int).length, getD' (.lst (ord.map .int))⟩)
    (by simp [mEnv]) (fun acc s => by simp) (by simp [mEnv, hc]) (by simp [mEnv]) (by unfold LIM; omega) (by
      intro h hh
      have m1 := mv_look (s := s) (f := f) (ths := ths) (ord := ord) (a := h) (.inr hh) G.o.nz
      rw [List.map_cons, List.map_cons] at m1
      exact ⟨_, rfl, by simp [mEnv], by simp [mEnv, m1, LIM, pairD]⟩)
  unfold prsE
  rw [e]
  congr 5
  apply List.ext_getElem?
  intro i
  by_cases hi : i < ord.length
  · have hx := List.getElem?_eq_getElem hi
    rw [List.getElem?_map, hx, List.getElem?_map, (List.getElem?_zip_eq_some (z := (ord[i], mv s f ths ord ord[i]))).mpr ⟨hx, by
      show (atsOf f nt)[i]? = some (mv s f ths ord ord[i])
      rw [ats_get (by rw [G.len]; exact hi), (G.mv_at hx).1]⟩]
    rfl
  · rw [List.getElem?_eq_none (by rw [List.length_map]; omega), List.getElem?_eq_none (by rw [List.length_map, List.length_zip, ats_len, G.len]; omega)]
theorem lcarted_ok {roots : List Int} (T : Ts M t s ths rs) (hk : ∀ t ∈ ths, tok t) (hn : ths.length < 1000) (hrl : roots.length ≤ 20000) :
    (∀ o nt, cartO s ths roots = some o → Good s f ths o nt o.length 0 → F_law_carted [.ob t, .lst (roots.map .int), .int f] M = some (.ok (.tup [.ob (M.length + 2 * nt.length), .lst ((o.zip (atsOf f nt)).map pairD), .int (f + tot nt)]), M ++ flatM nt ++ [.lst (thD f nt (rsOf M.length nt.length))]))
    ∧ (cartO s ths roots = none → F_law_carted [.ob t, .lst (roots.map .int), .int f] M = some (.ok .non, M)) := by
  obtain ⟨c4, e1⟩ := by_loop (c4 := .un) (c5 := .un) (c6 := .un) (c7 := .un) (c8 := .un) (c9 := .un) (c10 := .un) (c11 := .un) (x1 := .v (.lst (roots.map .int))) (x2 := .v (.int f)) T hn
  have e0 : lEnv t (.lst (roots.map .int)) s f ths rs [] roots 0 c4 .un .un .un = [.v (.ob t), .v (.lst (roots.map .int)), .v (.int f), .own (.dic ((atsOf s ths).map .int) (thD s ths rs)), c4, .own (.dic [.int 0] [.int 0]), .own (.lst []), .own (.lst (roots.map .int)), .v (.int 0), .un, .un, .un] := by
    show [_, _, Cell.v (.int (f + 0)), _, _, _, _, _, _, _, _, _] = _
    rw [Int.add_zero]; rfl
  have L1 := lw_seg (RD := .lst (roots.map .int)) (f := f) (c4 := c4) (c9 := .un) (c11 := .un) T hk hn roots [] roots 0 (1000000 - roots.length) [] .un or_nil (by simp) (by omega) rfl
  rw [show 1000000 - roots.length + roots.length = 1000000 by omega] at L1
  have dl := thD_len (s := s) T.l
  -- the way to the loop
  have pre : ∀ (r : Option (Res Fl × Ms)), whileI lwC lwB 1000000 ⟨lEnv t (.lst (roots.map .int)) s f ths rs [] roots 0 c4 .un .un .un, M⟩ = r →
      F_law_carted [.ob t, .lst (roots.map .int), .int f] M = (match (match r with
        | some (.ok .nx, st) => tailS dueE prsE st
        | some (.ok x, st) => some (.ok x, st)
        | some (.ex x, st) => some (.ex x, st)
        | none => none) with
      | some (.ok (.rt d), st') => some (.ok d, st'.M)
      | some (.ok .nx, st') => some (.ok .non, st'.M)
      | some (.ex x, st') => some (.ex x, st'.M)
      | _ => none) := by
    intro r hr
    rw [e0] at hr
    rw [F_law_carted, lcarted_B, e_fn]
    generalize byB = BB at e1 ⊢
    generalize lwC = LC at hr ⊢
    generalize lwB = LB at hr ⊢
    generalize tailS dueE prsE = TS
    have k1 : dPutK [] (D.int 0) = [.int 0] := rfl
    have k2 : dPutV [] [] (D.int 0) (.int 0) = [.int 0] := rfl
    simp [T.t, dl, e1, mergeD, LIM, k1, k2, hr]
    rcases r with _ | ⟨_ | x, st⟩
    · rfl
    · rename_i a
      cases a <;> rfl
    · rfl
  unfold cartO
  cases hv : visits s ths [] roots with
  | none =>
    rw [hv] at L1
    obtain ⟨env, e2⟩ := L1
    refine ⟨(by intro o nt h; cases h), fun _ => ?_⟩
    rw [pre _ e2]
  | some o1 =>
    rw [hv] at L1
    obtain ⟨c10, e2, h10⟩ := L1
    simp only [List.drop_nil, List.length_nil, Nat.zero_add, List.drop_zero] at e2
    have O1 := or_nil.visits hv
    have ol := O1.le
    have fx : (o1.flatMap (hold1 s ths)).length ≤ 10 * o1.length := by
      have hx : ∀ y ∈ o1, (hold1 s ths y).length ≤ 10 := fun y hy => by
        unfold hold1
        split
        · rename_i b hb
          have := (hk b (findT_in hb).2).1
          omega
        · exact Nat.zero_le _
      clear hv e2 O1 ol
      induction o1 with
      | nil => exact Nat.zero_le _
      | cons y x ih =>
        rw [List.flatMap_cons, List.length_append, List.length_cons]
        have := ih fun z hz => hx z (by simp [hz])
        have := hx y (by simp)
        omega
    have L2 := lw_main (RD := .lst (roots.map .int)) (f := f) (c4 := c4) (c9 := .un) (c11 := .un) (M := M) T hk hn (ths.length + 2) 0 o1 (roots ++ o1.flatMap (hold1 s ths)) roots.length (1000000 - roots.length - 1) c10 O1 (Nat.zero_le _) (by omega) (by rw [List.drop_left' rfl, List.drop_zero]) (by rw [List.length_append]; omega) (by omega) (by rw [List.length_append]; omega) h10
    rw [show 1000000 - roots.length - 1 + 1 = 1000000 - roots.length by omega] at L2
    cases hv2 : goesO s ths (ths.length + 2) o1 0 with
    | none =>
      rw [hv2] at L2
      obtain ⟨env, e3⟩ := L2
      refine ⟨(by intro o nt h; simp only at h; rw [hv2] at h; cases h), fun _ => ?_⟩
      rw [pre _ (e2.trans e3)]
    | some o2 =>
      rw [hv2] at L2
      obtain ⟨ahead, c10', e3, h11⟩ := L2
      refine ⟨fun o nt h G => ?_, fun h => by simp only at h; rw [hv2] at h; cases h⟩
      have ho : o2 = o := by
        simp only at h
        rw [hv2] at h
        exact Option.some.inj h
      subst ho
      rw [pre _ (e2.trans e3)]
      have d1 := due_ok (c4 := c4) (RD := .lst (roots.map .int)) (c7 := .own (.lst (ahead.map .int))) (c8 := .v (.int ahead.length)) (c9 := .un) T hk hn G h11
      have p1 := prs_ok (t := t) (rs := rs) (RD := .lst (roots.map .int)) (c4 := c4) (c7 := .own (.lst (ahead.map .int))) (c8 := .v (.int ahead.length)) (c9 := .v (.ob (M.length + 2 * nt.length))) (c11 := .un) G hn h11 (M ++ flatM nt ++ [.lst (thD f nt (rsOf M.length nt.length))])
      have hl : (M ++ flatM nt).length = M.length + 2 * nt.length := by rw [List.length_append, flatM_len]
      have hsz := G.szs
      have htot : f + tot (olds s ths o2) = f + tot nt := by rw [tot_szs G.szs]
      simp only [tailS]
      generalize dueE = DE at d1 ⊢
      generalize prsE = PE at p1 ⊢
      simp only [mEnv, lEnv] at d1 p1 ⊢
      simp only [htot, List.map_cons] at d1 p1 ⊢
      simp [d1, p1, hl, LIM, -List.append_assoc]
end
end Lw

namespace Lw
open PySem PySem.Spec PyProof.Rows L2 VL
theorem sh_prs (ps : List (Int × Int)) : Sh 2 (.lst (ps.map pairD)) := .lst 1 _ fun d hd => by
  obtain ⟨p, _, rfl⟩ := List.mem_map.mp hd
  exact .tup 0 _ fun e he => by
    simp at he
    rcases he with rfl | rfl <;> exact .int 0 _
theorem nob_prs (ps : List (Int × Int)) : nob (.lst (ps.map pairD)) = true := by
  show nobA (ps.map pairD) = true
  rw [nobA_all, List.all_eq_true]
  intro d hd
  obtain ⟨i, _, rfl⟩ := List.mem_map.mp hd
  rfl
theorem ne_prs {st : Ms} {i : Nat} {ps : List (Int × Int)} (h : st.M[i]? = some (.lst (ps.map pairD))) : neF st (.d (.ob i)) (.d (.lst (ps.map pairD))) = some false := by
  have e : deepF st (.d (.ob i)) (.d (.lst (ps.map pairD))) = some true := by
    rw [deep_of (d := .lst (ps.map pairD)) (e := .lst (ps.map pairD)) (py_seq (by simp [h])) (py_seq rfl) (sh_prs ps) (sh_prs ps) (by decide) (by decide)]
    rw [(eqv_iff _ _ (nob_prs ps) (nob_prs ps)).mpr rfl]
  unfold neF eqF
  simp only [e_dOfd]
  rw [show sEq (D.ob i) (D.lst (ps.map pairD)) = none from rfl]
  simp only [e]
  rfl
theorem ne_lints {st : Ms} (ns : List Int) : neF st (.d (.lst (ns.map .int))) (.d (.lst (ns.map .int))) = some false := by
  have e : deepF st (.d (.lst (ns.map .int))) (.d (.lst (ns.map .int))) = some true := by
    rw [deep_of (d := .lst (ns.map .int)) (e := .lst (ns.map .int)) (py_seq rfl) (py_seq rfl) (sh_ints ns) (sh_ints ns) (by decide) (by decide)]
    rw [(eqv_iff _ _ (nobs ns) (nobs ns)).mpr rfl]
  unfold neF eqF
  simp only [e_dOfd]
  rw [show sEq (D.lst (ns.map .int)) (D.lst (ns.map .int)) = none from rfl]
  simp only [e]
  rfl
theorem pairs_ok {M : List MO} {p : Nat} {ps : List (Int × Int)} (h : M[p]? = some (.lst (ps.map pairD))) (hl : ps.length ≤ 100000) : F_law_pairs [.ob p, .lst (ps.map pairD)] M = some (.ok (.bl true), M) := by
  have e1 := ne_prs (st := ⟨[.v (.ob p), .v (.lst (ps.map pairD)), .un], M⟩) h
  have e2 := lc_pureM (c := itD (varV 0)) (t := .one 2) (vs := [2]) (cond := andC (tstE (callE 1 F_law_whole (consA (ixE (rawV 2) (pureC (.int 0))) nilA))) (tstE (callE 1 F_law_whole (consA (ixE (rawV 2) (pureC (.int 1))) nilA)))) (elt := varV 2)
    (st := ⟨[.v (.ob p), .v (.lst (ps.map pairD)), .un], M⟩) ps pairD (fun _ => true) pairD (iv := ⟨ps.length, getD' (.ob p)⟩)
    (by simp [h]) (by simp) (fun env i => by unfold getD'; simp [h]) (by simp) (by simp) (by unfold LIM; omega) (by
      intro q hq
      exact ⟨_, rfl, by simp, by simp [pairD, whole_ok], fun _ => by simp⟩)
  rw [List.filter_eq_self.mpr (by simp)] at e2
  unfold F_law_pairs B_law_pairs
  rw [e_fn]
  generalize lcE (itD (varV 0)) (.one 2) [2] (andC (tstE (callE 1 F_law_whole (consA (ixE (rawV 2) (pureC (.int 0))) nilA))) (tstE (callE 1 F_law_whole (consA (ixE (rawV 2) (pureC (.int 1))) nilA)))) (varV 2) = LE at e2 ⊢
  simp [e1, e2, h, -e_neF]
section
variable {s f : Int} {ths nt nt' : List Th} {ord : List Int}
theorem good_uniq (G : Good s f ths ord nt ord.length 0) (G' : Good s f ths ord nt' ord.length 0) : nt = nt' := by
  apply List.ext_getElem?
  intro i
  by_cases hi : i < ord.length
  · obtain ⟨t, ht⟩ := G.o.th ord[i] (List.getElem_mem hi)
    rw [(G.full (List.getElem?_eq_getElem hi) ht).1, (G'.full (List.getElem?_eq_getElem hi) ht).1]
  · rw [List.getElem?_eq_none (by rw [G.len]; omega), List.getElem?_eq_none (by rw [G'.len]; omega)]
theorem findT_some : ∀ {ths : List Th} {s x : Int}, x ∈ atsOf s ths → ∃ t, findT s ths x = some t := by
  intro ths s x h
  cases e : findT s ths x with
  | none => exact absurd h (findT_none e)
  | some t => exact ⟨t, rfl⟩
theorem visits_all : ∀ (hs : List Int) (ord : List Int), (∀ a ∈ hs, a = 0 ∨ a ∈ atsOf s ths) → ∃ o, visits s ths ord hs = some o
  | [], ord, _ => ⟨ord, rfl⟩
  | h :: hs, ord, hv => by
    unfold visits
    have : ∃ o, visit s ths ord h = some o := by
      unfold visit
      split
      · exact ⟨_, rfl⟩
      · rename_i hn
        rw [not_or] at hn
        obtain ⟨t, ht⟩ := findT_some ((hv h (by simp)).resolve_left hn.1)
        rw [ht]
        exact ⟨_, rfl⟩
    obtain ⟨o, e⟩ := this
    rw [e]
    exact visits_all hs o fun a ha => hv a (by simp [ha])
theorem goes_all (V : Vd s ths) : ∀ (n : Nat) (ord : List Int) (d : Nat), Or (s := s) (ths := ths) ord → d ≤ ord.length → ths.length + 1 < n + d → ∃ o, goesO s ths n ord d = some o
  | 0, ord, d, O, h1, h2 => by have := O.le; omega
  | n + 1, ord, d, O, h1, h2 => by
    unfold goesO
    by_cases hd : d < ord.length
    · rw [List.getElem?_eq_getElem hd]
      simp only
      obtain ⟨o, e⟩ := visits_all (s := s) (ths := ths) (hold1 s ths ord[d]) ord (by
        intro a ha
        unfold hold1 at ha
        split at ha
        · rename_i t ht
          exact V t (findT_in ht).2 a ha
        · exact (List.not_mem_nil ha).elim)
      rw [e]
      obtain ⟨x, rfl⟩ := visits_pre e
      exact goes_all V n _ (d + 1) (O.visits e) (by rw [List.length_append]; omega) (by omega)
    · rw [List.getElem?_eq_none (by omega)]
      exact ⟨_, rfl⟩
theorem cart_all (V : Vd s ths) {roots : List Int} (h : ∀ a ∈ roots, a = 0 ∨ a ∈ atsOf s ths) : ∃ o, cartO s ths roots = some o := by
  unfold cartO
  obtain ⟨o, e⟩ := visits_all roots [] h
  rw [e]
  exact goes_all V _ o 0 (or_nil.visits e) (Nat.zero_le _) (by omega)
end
section
variable {M : List MO} {y w b t : Nat} {s f : Int} {ths nt : List Th} {rs : List (Nat × Nat)} {ord roots : List Int}
theorem Yd.app (Y : Yd M y w b s ths) (Z : List MO) : Yd (M ++ Z) y w b s ths := by
  obtain ⟨h1, h2, h3⟩ := Y.lt
  exact Y.fr (List.getElem?_append_left h1) (List.getElem?_append_left h2) (List.getElem?_append_left h3)
theorem Ts.app (T : Ts M t s ths rs) (Z : List MO) : Ts (M ++ Z) t s ths rs :=
  T.fr (List.getElem?_append_left (List.getElem?_eq_some_iff.mp T.t).1) fun k p hp => by
    have hk := (List.getElem?_eq_some_iff.mp hp).1
    rw [T.l] at hk
    obtain ⟨h1, h2⟩ := T.r k p _ hp (List.getElem?_eq_getElem hk)
    exact ⟨List.getElem?_append_left (List.getElem?_eq_some_iff.mp h1).1, List.getElem?_append_left (List.getElem?_eq_some_iff.mp h2).1⟩
end
end Lw

namespace Lw
open PySem PySem.Spec PyProof.Rows L2 VL
/-! a house made by the carter -/
def onew (o : Nat → Nat) (c L B n : Nat) (m : Nat) : Nat := if m = L then c + 1 else if m = L + 1 then c + 9 else if m = L + 2 then c + 17 else if m = B + 2 * n then c + 25 else if B ≤ m ∧ m < B + 2 * n then c + 33 + 8 * (m - B) else o m
section
variable {o : Nat → Nat} {M : List MO} {c L B : Nat} {s f : Int} {ths nt : List Th} {ord roots : List Int}
theorem new_sd (Y : Yd M L (L + 1) (L + 2) f nt) (T : Ts M (B + 2 * nt.length) f nt (rsOf B nt.length)) (hd : L + 2 < B ∨ B + 2 * nt.length < L) (hk : ∀ t ∈ nt, tok t) :
    Sd (onew o c L B nt.length) M c L (L + 1) (L + 2) (B + 2 * nt.length) f nt (rsOf B nt.length) := by
  refine ⟨Y, T, ⟨?_, ?_, ?_, ?_, fun k p hp => ?_⟩, hk⟩
  · unfold onew; rw [if_pos rfl]
  · unfold onew; rw [if_neg (by omega), if_pos rfl]
  · unfold onew; rw [if_neg (by omega), if_neg (by omega), if_pos rfl]
  · unfold onew; rw [if_neg (by omega), if_neg (by omega), if_neg (by omega), if_pos rfl]
  · obtain ⟨hk, rfl⟩ := rsOf_get hp
    unfold onew
    constructor
    · rw [if_neg (by omega), if_neg (by omega), if_neg (by omega), if_neg (by omega), if_pos (by omega)]; omega
    · rw [if_neg (by omega), if_neg (by omega), if_neg (by omega), if_neg (by omega), if_pos (by omega)]; omega
theorem onew_old {n m : Nat} (h1 : m < L) (h2 : m < B) : onew o c L B n m = o m := by
  unfold onew
  rw [if_neg (by omega), if_neg (by omega), if_neg (by omega), if_neg (by omega), if_neg (by omega)]
theorem goes_pre : ∀ (n : Nat) (ord : List Int) (d : Nat) {z : List Int}, goesO s ths n ord d = some z → ∃ x, z = ord ++ x
  | 0, _, _, _, h => by cases h
  | n + 1, ord, d, z, h => by
    unfold goesO at h
    split at h
    · cases h; exact ⟨[], by simp⟩
    · split at h
      · rename_i o1 e1
        obtain ⟨x, rfl⟩ := visits_pre e1
        obtain ⟨w, rfl⟩ := goes_pre n _ _ h
        exact ⟨x ++ w, by simp⟩
      · cases h
theorem cart_pos {a : Int} {r z : List Int} (ha : a ≠ 0) (h : cartO s ths (a :: r) = some z) : z ≠ [] := by
  unfold cartO at h
  split at h
  · rename_i o1 e1
    obtain ⟨x, rfl⟩ := goes_pre _ _ _ h
    unfold visits at e1
    split at e1
    · rename_i o2 e2
      obtain ⟨y, rfl⟩ := visits_pre e1
      have := (visit_pre e2).2.resolve_left ha
      intro hz
      have : a ∈ o2 ++ y ++ x := by simp [this]
      rw [hz] at this
      exact List.not_mem_nil this
    · cases e1
  · cases h
/-- the new things' holds lead to new things -/
theorem good_vd (G : Good s f ths ord nt ord.length 0) : Vd f nt := by
  intro u hu x hx
  obtain ⟨i, hi, e⟩ := List.mem_iff_getElem.mp hu
  have hio : i < ord.length := by rw [← G.len]; exact hi
  obtain ⟨a, ha⟩ := G.o.th ord[i] (List.getElem_mem hio)
  obtain ⟨h1, h2⟩ := G.full (List.getElem?_eq_getElem hio) ha
  rw [List.getElem?_eq_getElem hi, e] at h1
  have h1 := Option.some.inj h1
  subst h1
  obtain ⟨z, hz, rfl⟩ := List.mem_map.mp hx
  rcases h2 z hz with h0 | h0
  · subst h0
    exact .inl (if_pos rfl)
  · by_cases hz0 : z = 0
    · subst hz0; exact .inl (if_pos rfl)
    · exact .inr (List.mem_of_getElem? (G.at hz0 h0))
end
theorem tot_small {ths : List Th} (h : ∀ t ∈ ths, tok t) : tot ths ≤ 19 * ths.length := by
  have := words_small h
  have := words_len ths
  omega
end Lw

namespace Lw
open PySem PySem.Spec PyProof.Rows L2 VL
structure Hse where
  x : Nat
  y : Nat
  w : Nat
  b : Nat
  t : Nat
  s : Int
  ths : List Th
  rs : List (Nat × Nat)
def hsO (h : Hse) : MO := .lst [.ob h.y, .ob h.t, .int (h.s + tot h.ths)]
structure Hok (o : Nat → Nat) (M : List MO) (i : Nat) (h : Hse) : Prop where
  S : Sd o M i h.y h.w h.b h.t h.s h.ths h.rs
  x : M[h.x]? = some (hsO h)
  ox : o h.x = 6 + 8 * i
  v : Vd h.s h.ths
  s0 : 0 < h.s
/-- the houses that stand -/
structure KS (u n : Nat) (hs : List Hse) (M : List MO) : Prop where
  ex : ∃ (bag : Bag) (r : List MO) (o : Nat → Nat), M = bag.mo :: r ∧ bag.Ok u ∧ o 0 = 0 ∧ ∀ (i : Nat) (h : Hse), hs[i]? = some h → Hok o M i h
  l : hs.length ≤ 5
  n : ∀ h ∈ hs, h.ths.length ≤ n
section
variable {u n : Nat} {hs : List Hse} {M M1 : List MO} {o o1 : Nat → Nat} {C : Nat → Prop}
theorem KS.mono {v m : Nat} (K : KS u n hs M) (h1 : u ≤ v) (h2 : n ≤ m) : KS v m hs M := by
  obtain ⟨⟨bg, r, o, e, ok, o0, H⟩, l, hn⟩ := K
  exact ⟨⟨bg, r, o, e, ok.mono h1, o0, H⟩, l, fun h hh => Nat.le_trans (hn h hh) h2⟩
theorem Hok.keep {i : Nat} {h : Hse} (H : Hok o M i h) (F : FrH C o M o1 M1) (o0 : o 0 = 0) (hi : i < 5) (hC : ∀ c, C c → c ≠ i ∧ c < 5) : Hok o1 M1 i h := by
  have hx := (List.getElem?_eq_some_iff.mp H.x).1
  have ox := H.ox
  refine ⟨H.S.keep F o0 (fun c hc => ⟨(hC c hc).1, by have := (hC c hc).2; omega⟩) (by omega), ?_, ?_, H.v, H.s0⟩
  · rw [F.ms h.x hx (fun z => by rw [z, o0] at ox; omega) fun c k hc z => by
      have := (hC c hc).2
      omega]
    exact H.x
  · rw [F.ow h.x hx]; exact ox
theorem KS.app (K : KS u n hs M) (Z : List MO) : KS u n hs (M ++ Z) := by
  obtain ⟨⟨bg, r, o, rfl, ok, o0, H⟩, l, hn⟩ := K
  exact ⟨⟨bg, r ++ Z, o, rfl, ok, o0, fun i h hi => (H i h hi).keep (C := fun _ => False) (fr_app Z) o0 (by have := (List.getElem?_eq_some_iff.mp hi).1; omega) (fun _ z => z.elim)⟩, l, hn⟩
theorem KS.draw (K : KS u n hs M) (hu : u < 1000000) {m : Int} (hm : 0 < m) (ml : m < 2 ^ 250) : ∃ (d : Int) (M' : List MO), F_law_draw [.ob 0, .int m] M = some (.ok (.int d), M') ∧ KS (u + 1) n hs M' ∧ 0 ≤ d ∧ d < m := by
  obtain ⟨⟨bg, r, o, rfl, ok, o0, H⟩, l, hn⟩ := K
  obtain ⟨d, g, e, k, d0, d1⟩ := draw_ex ok hm ml (by omega)
  exact ⟨d, _, e r, ⟨⟨g, r, o, rfl, k, o0, fun i h hi => (H i h hi).keep (C := fun _ => False) fr_bag o0 (by have := (List.getElem?_eq_some_iff.mp hi).1; omega) (fun _ z => z.elim)⟩, l, hn⟩, d0, d1⟩
theorem KS.told (K : KS u n hs M) (hn : n < 1000) {i : Nat} {h : Hse} (hi : hs[i]? = some h) : ∃ ds, F_Yard_told [.ob h.y] M = some (.ok (.ob M.length), M ++ [.lst ds]) ∧ F_law_told [.ob M.length, .ob h.t] (M ++ [.lst ds]) = some (.ok (.bl true), M ++ [.lst ds]) ∧ M[h.y]? = some (yO h.s (h.s + tot h.ths) h.w h.b) ∧ M[h.x]? = some (hsO h) := by
  have hl := K.n h (List.mem_of_getElem? hi)
  obtain ⟨⟨bg, r, o, e, ok, o0, H⟩, l, hn'⟩ := K
  have S := (H i h hi).S
  obtain ⟨n1, n2, n3, n4, n5, n6⟩ := S.ne
  refine ⟨toldD h.s h.ths, told_ok S.Y n1 n2 S.k (by omega), ctold_ok (s := h.s) (rs := h.rs) ?_ (S.T.app _) S.k, S.Y.y, (H i h hi).x⟩
  rw [List.getElem?_append_right (Nat.le_refl _), Nat.sub_self]; rfl
end
theorem hm5 : ¬ [116, 111, 108, 100] ∈ fs_Yard := by decide
theorem ne_ob_ints {st : Ms} {i : Nat} {ns : List Int} (h : st.M[i]? = some (.lst (ns.map .int))) : neF st (.d (.ob i)) (.d (.lst (ns.map .int))) = some false := by
  have e : deepF st (.d (.ob i)) (.d (.lst (ns.map .int))) = some true := by
    rw [deep_of (d := .lst (ns.map .int)) (e := .lst (ns.map .int)) (py_seq (by simp [h])) (py_seq rfl) (sh_ints ns) (sh_ints ns) (by decide) (by decide)]
    rw [(eqv_iff _ _ (nobs ns) (nobs ns)).mpr rfl]
  unfold neF eqF
  simp only [e_dOfd]
  rw [show sEq (D.ob i) (D.lst (ns.map .int)) = none from rfl]
  simp only [e]
  rfl
theorem resA_map (M : List MO) : ∀ l : List D, resA M l = l.map (resD M)
  | [] => rfl
  | d :: l => by rw [resA, resA_map M l]; rfl
section
variable {c y w b t u : Nat} {s : Int} {o : Nat → Nat} {M M' : List MO} {ths : List Th}
theorem sh_thD {rs : List (Nat × Nat)} (T : Ts M t s ths rs) : Sh 3 (.lst (resA M (thD s ths rs))) := .lst 2 _ fun d hd => by
  rw [resA_map] at hd
  obtain ⟨e, he, rfl⟩ := List.mem_map.mp hd
  obtain ⟨i, hi, rfl⟩ := List.mem_iff_getElem.mp he
  rw [thD_len T.l] at hi
  obtain ⟨l, a, r, h1, h2⟩ := split_at hi
  obtain ⟨p, q, q1, q2, q3, q4⟩ := thD_at (h1 ▸ T)
  have hx : (thD s ths rs)[i] = .tup [.int (s + tot l), .ob p, .ob q] := by
    have h3 : (thD s ths rs)[i]? = some (.tup [.int (s + tot l), .ob p, .ob q]) := by
      rw [← h2]
      have := q4
      rw [← h1] at this
      exact this
    exact (List.getElem?_eq_some_iff.mp h3).2
  rw [hx]
  have : resD M (.tup [.int (s + tot l), .ob p, .ob q]) = .tup [.int (s + tot l), .lst (a.1.map .int), .lst (a.2.map .int)] := by
    simp [resD, resA, q1, q2]
  rw [this]
  refine .tup 1 _ fun e he => ?_
  simp at he
  rcases he with rfl | rfl | rfl
  · exact .int 1 _
  · exact sh_ints _
  · exact sh_ints _
theorem neR_things {rs : List (Nat × Nat)} (T : Ts M t s ths rs) (env : List Cell) : neRF ⟨env, M⟩ (.d (.ob t)) (.d (.lst [])) = some (!ths.isEmpty) := by
  have := neR_nil (st := ⟨env, M⟩) (x := .d (.ob t)) (ds := thD s ths rs) (n := 3) (by simp [T.t]) (sh_thD T) (by decide)
  rw [this]
  have hl := thD_len (s := s) T.l
  cases hd : thD s ths rs with
  | nil => rw [hd] at hl; cases ths with
    | nil => rfl
    | cons a l => simp at hl
  | cons a l => rw [hd] at hl; cases ths with
    | nil => simp at hl
    | cons => rfl
end
theorem fr_field {c : Nat} {o : Nat → Nat} {M M2 : List MO} (hl : M2.length = M.length) (h : ∀ m, (∀ k, o m ≠ c + 1 + 8 * k) → M2[m]? = M[m]?) : FrH (fun c' => c' = c) o M o M2 :=
  ⟨by omega, fun _ _ => rfl, fun m hm h0 hc => h m fun k => hc c k rfl⟩
end Lw

namespace Lw
open PySem PySem.Spec PyProof.Rows L2 VL
def rtB : Stm := ifS (cmp2 neRF (rawV 8) (opdC (valN (lstE nilA)))) (asgV 2 (callE 2 F_law_roots (consA (varV 0) (consA (varV 8) nilA)))) skipS
theorem once_B : B_law_carted_once = seqS (asgU (.all [7, 8, 9]) (varV 1))
  (seqS (asgV 2 (valN (lstE nilA)))
  (seqS rtB
  (seqS (asgV 3 (callE 3 F_law_carted (consA (varV 8) (consA (varV 2) (consA (varV 9) nilA)))))
  (seqS (asgV 4 (shrN (un1 listTF (rawV 2))))
  (seqS (asgV 5 (callE 2 F_carted (consA (varV 7) (consA (varV 4) nilA))))
  (seqS (ifS (orC (cmp2 neF (rawV 4) (rawV 2)) (orC (notC (tstE (isiE [.tuple] (rawV 5)))) (orC (cmp2 neF (opdC (valN (un1 lenF (rawV 5)))) (opdC (pureC (.int 2)))) (notC (tstE (callE 2 F_law_pairs (consA (ixE (rawV 5) (pureC (.int 1))) (consA (ixE (rawV 3) (pureC (.int 1))) nilA)))))))) (retS (pureC .non)) skipS)
  (seqS (exprS (clrE (rawV 4)))
  (seqS (exprS (clrE (opdC (ixE (rawV 5) (pureC (.int 1))))))
  (seqS (asgV 6 (callE 2 F_carted (consA (varV 7) (consA (valN (un1 listTF (rawV 2))) nilA))))
  (seqS (ifS (notC (tstE (callE 2 F_law_pairs (consA (ixE (rawV 6) (pureC (.int 1))) (consA (ixE (rawV 3) (pureC (.int 1))) nilA))))) (retS (pureC .non)) skipS)
  (retS (shrN (lstE (consA (ixE (rawV 5) (pureC (.int 0))) (consA (ixE (rawV 3) (pureC (.int 0))) (consA (ixE (rawV 3) (pureC (.int 2))) nilA)))))))))))))))) := rfl
theorem rt_ok {bg : Bag} {r : List MO} {o : Nat → Nat} {c u : Nat} {h : Hse} (S : Sd o (bg.mo :: r) c h.y h.w h.b h.t h.s h.ths h.rs) (c8 : c < 8) (o0 : o 0 = 0) (ok : bg.Ok u) (hu : u < 700000) (hn : h.ths.length < 1000) {x1 x7 x9 : Cell} :
    ∃ (roots : List Int) (g1 : Bag), rtB ⟨[.v (.ob 0), x1, .v (.lst []), .un, .un, .un, .un, x7, .v (.ob h.t), x9], bg.mo :: r⟩ = some (.ok .nx, ⟨[.v (.ob 0), x1, .v (.lst (roots.map .int)), .un, .un, .un, .un, x7, .v (.ob h.t), x9], g1.mo :: r⟩) ∧ g1.Ok (u + 1300) ∧ (∀ a ∈ roots, a = 0 ∨ a ∈ atsOf h.s h.ths) ∧ roots.length ≤ 401 := by
  have ne := fun env => neR_things S.T env
  cases hths : h.ths with
  | nil =>
    refine ⟨[], bg, ?_, ok.mono (by omega), by simp, by simp⟩
    have ne' := ne [.v (.ob 0), x1, .v (.lst []), .un, .un, .un, .un, x7, .v (.ob h.t), x9]
    rw [hths] at ne'
    simp only [rtB]
    simp [ne', LIM]
  | cons x xs =>
    have hp : 0 < h.ths.length := by rw [hths]; simp
    obtain ⟨roots, b', e, k, hv, hrl⟩ := roots_ok S c8 o0 ok (by omega) hp (by omega)
    refine ⟨roots, b', ?_, k, by rw [← hths]; exact hv, hrl⟩
    have ne' := ne [.v (.ob 0), x1, .v (.lst []), .un, .un, .un, .un, x7, .v (.ob h.t), x9]
    rw [hths] at ne'
    simp only [rtB]
    simp [ne', e, LIM]
def onew7 (o : Nat → Nat) (c L B n X : Nat) (m : Nat) : Nat := if m = X then 6 + 8 * c else onew o c L B n m
theorem once_ok {u n : Nat} {hs : List Hse} {M : List MO} (K : KS u n hs M) (hu : u < 600000) (hn : n < 900) (hl : hs.length < 5) {i : Nat} {h : Hse} (hi : hs[i]? = some h) :
    ∃ (h' : Hse) (M' : List MO), F_law_carted_once [.ob 0, .ob h.x] M = some (.ok (.ob h'.x), M') ∧ KS (u + 1300) n (hs ++ [h']) M' := by
  have hil := (List.getElem?_eq_some_iff.mp hi).1
  have hnl := K.n h (List.mem_of_getElem? hi)
  obtain ⟨⟨bg, r, o, rfl, ok, o0, H⟩, l, hn'⟩ := K
  have Hi := H i h hi
  have S := Hi.S
  obtain ⟨roots, g1, e1, k1, hv, hrl⟩ := rt_ok (x1 := .v (.ob h.x)) (x7 := .v (.ob h.y)) (x9 := .v (.int (h.s + tot h.ths))) S (by omega) o0 ok (by omega) (by omega)
  have F1 : FrH (fun _ => False) o (bg.mo :: r) o (g1.mo :: r) := fr_bag
  have H1 : ∀ (j : Nat) (g : Hse), hs[j]? = some g → Hok o (g1.mo :: r) j g := fun j g hg => (H j g hg).keep F1 o0 (by have := (List.getElem?_eq_some_iff.mp hg).1; omega) (fun _ z => z.elim)
  have S1 := (H1 i h hi).S
  have hx0 := Hi.x
  obtain ⟨oo, ho⟩ := cart_all Hi.v hv
  generalize hM1 : g1.mo :: r = M1 at *
  have C0 := carted_ok (RD := .lst (roots.map .int)) S1.Y S1.k (by omega) Hi.s0 (by omega) (fun _ _ _ => rfl)
  rw [ho] at C0
  obtain ⟨nt, _, G⟩ := C0
  have e2 := (lcarted_ok (f := h.s + tot h.ths) S1.T S1.k (by omega) (by omega)).1 oo nt ho G
  have hntl : nt.length ≤ h.ths.length := by rw [G.len]; exact G.o.le
  have htz := tot_nn h.ths
  -- the store behind the law's own carter
  have T2 := ts_flat M1 (h.s + tot h.ths) nt []
  have Y2 : Yd (M1 ++ flatM nt ++ [MO.lst (thD (h.s + tot h.ths) nt (rsOf M1.length nt.length))]) h.y h.w h.b h.s h.ths := by rw [List.append_assoc]; exact S1.Y.app _
  have l2 : (M1 ++ flatM nt ++ [MO.lst (thD (h.s + tot h.ths) nt (rsOf M1.length nt.length))]).length = M1.length + 2 * nt.length + 1 := by rw [List.length_append, List.length_append, flatM_len]; rfl
  have p2 : ∃ A, M1 ++ flatM nt ++ [MO.lst (thD (h.s + tot h.ths) nt (rsOf M1.length nt.length))] = M1 ++ A := ⟨_, List.append_assoc _ _ _⟩
  generalize hM2 : M1 ++ flatM nt ++ [MO.lst (thD (h.s + tot h.ths) nt (rsOf M1.length nt.length))] = M2 at *
  obtain ⟨A, hA⟩ := p2
  -- handed
  have q3 : (M2 ++ [MO.lst (roots.map .int)])[M2.length]? = some (.lst (roots.map .int)) := by rw [List.getElem?_append_right (Nat.le_refl _), Nat.sub_self]; rfl
  have l3 : (M2 ++ [MO.lst (roots.map .int)]).length = M2.length + 1 := by rw [List.length_append]; rfl
  have Y3 : Yd (M2 ++ [MO.lst (roots.map .int)]) h.y h.w h.b h.s h.ths := Y2.app _
  have T3 : Ts (M2 ++ [MO.lst (roots.map .int)]) (M1.length + 2 * nt.length) (h.s + tot h.ths) nt (rsOf M1.length nt.length) := T2.app _
  generalize hM3 : M2 ++ [MO.lst (roots.map .int)] = M3 at *
  have C3 := carted_ok (roots := roots) (RD := .ob M2.length) Y3 S1.k (by omega) Hi.s0 (by omega) (fun env nt ord => by
    have : (CS M3 (h.s + tot h.ths) nt ord)[M2.length]? = some (.lst (roots.map .int)) := by
      show (CG M3 _ nt _ _ _)[M2.length]? = _
      rw [cg_lt (by omega)]; exact q3
    rw [e_seqD_ob]
    simp only [this])
  rw [ho] at C3
  obtain ⟨nt', e3, G'⟩ := C3
  have := good_uniq G G'
  subst this
  have hpl : (oo.zip (atsOf (h.s + tot h.ths) nt)).length ≤ 100000 := by
    rw [List.length_zip]; have := G.o.le; omega
  have e4 := pairs_ok (M := CS M3 (h.s + tot h.ths) nt oo) (p := M3.length + 4) (ps := oo.zip (atsOf (h.s + tot h.ths) nt)) cg4 hpl
  have hC3 : (CS M3 (h.s + tot h.ths) nt oo)[M2.length]? = some (.lst (roots.map .int)) := by
    show (CG M3 _ nt _ _ _)[M2.length]? = _
    rw [cg_lt (by omega)]; exact q3
  have ne3 := fun env => ne_ob_ints (st := ⟨env, CS M3 (h.s + tot h.ths) nt oo⟩) hC3
  have hC4 : (CS M3 (h.s + tot h.ths) nt oo)[M3.length + 4]? = some (.lst ((oo.zip (atsOf (h.s + tot h.ths) nt)).map pairD)) := cg4
  have lC3 : (CS M3 (h.s + tot h.ths) nt oo).length = M3.length + 5 := cg_len
  have YN : Yd (CS M3 (h.s + tot h.ths) nt oo) M3.length (M3.length + 1) (M3.length + 2) (h.s + tot h.ths) nt := cg_new
  have YO : Yd (CS M3 (h.s + tot h.ths) nt oo) h.y h.w h.b h.s h.ths := cg_old Y3
  have TN : Ts (CS M3 (h.s + tot h.ths) nt oo) (M1.length + 2 * nt.length) (h.s + tot h.ths) nt (rsOf M1.length nt.length) := T3.app _
  have old3 : ∀ m, m < M1.length → (CS M3 (h.s + tot h.ths) nt oo)[m]? = M1[m]? := fun m hm => by
    show (CG M3 _ nt _ _ _)[m]? = _
    rw [cg_lt (by omega), ← hM3, List.getElem?_append_left (by omega), hA, List.getElem?_append_left hm]
  obtain ⟨yl, wl, bl⟩ := S1.Y.lt
  -- the lists emptied
  generalize hM4 : CS M3 (h.s + tot h.ths) nt oo = M4 at *
  have g5 : ∀ m, m ≠ M2.length → m ≠ M3.length + 4 → ((M4.set M2.length (.lst [])).set (M3.length + 4) (.lst []))[m]? = M4[m]? := fun m h1 h2 => by
    rw [List.getElem?_set_ne (Ne.symm h2), List.getElem?_set_ne (Ne.symm h1)]
  have g45 : (M4.set M2.length (.lst []))[M3.length + 4]? = some (.lst ((oo.zip (atsOf (h.s + tot h.ths) nt)).map pairD)) := by rw [List.getElem?_set_ne (by omega)]; exact hC4
  have l5 : ((M4.set M2.length (.lst [])).set (M3.length + 4) (.lst [])).length = M3.length + 5 := by rw [List.length_set, List.length_set, lC3]
  have Y5 : Yd ((M4.set M2.length (.lst [])).set (M3.length + 4) (.lst [])) h.y h.w h.b h.s h.ths := YO.fr (g5 _ (by omega) (by omega)) (g5 _ (by omega) (by omega)) (g5 _ (by omega) (by omega))
  have YN5 : Yd ((M4.set M2.length (.lst [])).set (M3.length + 4) (.lst [])) M3.length (M3.length + 1) (M3.length + 2) (h.s + tot h.ths) nt := YN.fr (g5 _ (by omega) (by omega)) (g5 _ (by omega) (by omega)) (g5 _ (by omega) (by omega))
  have TN5 : Ts ((M4.set M2.length (.lst [])).set (M3.length + 4) (.lst [])) (M1.length + 2 * nt.length) (h.s + tot h.ths) nt (rsOf M1.length nt.length) := TN.fr (g5 _ (by omega) (by omega)) fun k p hp => by
    obtain ⟨hk, rfl⟩ := rsOf_get hp
    exact ⟨g5 _ (by simp only; omega) (by simp only; omega), g5 _ (by simp only; omega) (by simp only; omega)⟩
  generalize hM5 : (M4.set M2.length (.lst [])).set (M3.length + 4) (.lst []) = M5 at *
  have C5 := carted_ok (RD := .lst (roots.map .int)) Y5 S1.k (by omega) Hi.s0 (by omega) (fun _ _ _ => rfl)
  rw [ho] at C5
  obtain ⟨nt', e5, G5⟩ := C5
  have := good_uniq G G5
  subst this
  have e6 := pairs_ok (M := CS M5 (h.s + tot h.ths) nt oo) (p := M5.length + 4) (ps := oo.zip (atsOf (h.s + tot h.ths) nt)) cg4 hpl
  have l6 : (CS M5 (h.s + tot h.ths) nt oo).length = M3.length + 10 := by
    have : (CS M5 (h.s + tot h.ths) nt oo).length = M5.length + 5 := cg_len
    omega
  obtain ⟨A6, hA6⟩ : ∃ A6, CS M5 (h.s + tot h.ths) nt oo = M5 ++ A6 := ⟨_, rfl⟩
  refine ⟨⟨M3.length + 10, M3.length, M3.length + 1, M3.length + 2, M1.length + 2 * nt.length, h.s + tot h.ths, nt, rsOf M1.length nt.length⟩, CS M5 (h.s + tot h.ths) nt oo ++ [hsO ⟨M3.length + 10, M3.length, M3.length + 1, M3.length + 2, M1.length + 2 * nt.length, h.s + tot h.ths, nt, rsOf M1.length nt.length⟩], ?_, ⟨g1, ?_⟩, by rw [List.length_append]; simp only [List.length_singleton]; omega, fun g hg => ?_⟩
  · rw [F_law_carted_once, once_B, e_fn]
    generalize rtB = RB at e1 ⊢
    simp only [hsO] at hx0
    generalize bg.mo :: r = M0 at *
    generalize hPP : (oo.zip (atsOf (h.s + tot h.ths) nt)).map pairD = PP at *
    generalize hRR : roots.map D.int = RR at *
    simp [hx0, e1, e2, hM3, e3, ne3, hC3, e4, g45, hM5, neF_int, LIM, -e_neF]
    simp [e5, e6, l6, hsO, LIM]
  · have hfr : FrH (fun _ => False) o M1 (onew7 o hs.length M3.length M1.length nt.length (M3.length + 10)) (CS M5 (h.s + tot h.ths) nt oo ++ [hsO ⟨M3.length + 10, M3.length, M3.length + 1, M3.length + 2, M1.length + 2 * nt.length, h.s + tot h.ths, nt, rsOf M1.length nt.length⟩]) := by
      refine ⟨by rw [List.length_append, l6]; omega, fun m hm => ?_, fun m hm _ _ => ?_⟩
      · unfold onew7
        rw [if_neg (by omega), onew_old (by omega) hm]
      · rw [List.getElem?_append_left (by rw [l6]; omega), hA6, List.getElem?_append_left (by omega), g5 m (by omega) (by omega), old3 m hm]
    have hM1p : 0 < M1.length := by rw [← hM1]; simp
    have o7 : onew7 o hs.length M3.length M1.length nt.length (M3.length + 10) 0 = 0 := by
      unfold onew7
      rw [if_neg (by omega), onew_old (by omega) hM1p]; exact o0
    have h0 : (CS M5 (h.s + tot h.ths) nt oo ++ [hsO ⟨M3.length + 10, M3.length, M3.length + 1, M3.length + 2, M1.length + 2 * nt.length, h.s + tot h.ths, nt, rsOf M1.length nt.length⟩])[0]? = some g1.mo := by
      rw [List.getElem?_append_left (by rw [l6]; omega), hA6, List.getElem?_append_left (by omega), g5 0 (by omega) (by omega), old3 0 hM1p, ← hM1]; rfl
    obtain ⟨r', hr'⟩ := cons_of h0
    refine ⟨r', onew7 o hs.length M3.length M1.length nt.length (M3.length + 10), hr', k1, o7, fun j g hg => ?_⟩
    · by_cases hj : j < hs.length
      · rw [List.getElem?_append_left hj] at hg
        exact (H1 j g hg).keep hfr o0 (by omega) (fun _ z => z.elim)
      · have hj2 : j = hs.length := by
          have := (List.getElem?_eq_some_iff.mp hg).1
          rw [List.length_append, List.length_singleton] at this
          omega
        subst hj2
        rw [List.getElem?_append_right (Nat.le_refl _), Nat.sub_self] at hg
        cases hg
        have YF : Yd (CS M5 (h.s + tot h.ths) nt oo ++ [hsO ⟨M3.length + 10, M3.length, M3.length + 1, M3.length + 2, M1.length + 2 * nt.length, h.s + tot h.ths, nt, rsOf M1.length nt.length⟩]) M3.length (M3.length + 1) (M3.length + 2) (h.s + tot h.ths) nt := by
          rw [hA6]
          exact (YN5.app _).app _
        have TF : Ts (CS M5 (h.s + tot h.ths) nt oo ++ [hsO ⟨M3.length + 10, M3.length, M3.length + 1, M3.length + 2, M1.length + 2 * nt.length, h.s + tot h.ths, nt, rsOf M1.length nt.length⟩]) (M1.length + 2 * nt.length) (h.s + tot h.ths) nt (rsOf M1.length nt.length) := by
          rw [hA6]
          exact (TN5.app _).app _
        have SF := new_sd (o := o) (c := hs.length) YF TF (.inr (by omega)) (G.tok S1.k)
        have SF' : Sd (onew7 o hs.length M3.length M1.length nt.length (M3.length + 10)) (CS M5 (h.s + tot h.ths) nt oo ++ [hsO ⟨M3.length + 10, M3.length, M3.length + 1, M3.length + 2, M1.length + 2 * nt.length, h.s + tot h.ths, nt, rsOf M1.length nt.length⟩]) hs.length M3.length (M3.length + 1) (M3.length + 2) (M1.length + 2 * nt.length) (h.s + tot h.ths) nt (rsOf M1.length nt.length) := by
          refine ⟨SF.Y, SF.T, ?_, SF.k⟩
          have q : ∀ m, m ≠ M3.length + 10 → onew7 o hs.length M3.length M1.length nt.length (M3.length + 10) m = onew o hs.length M3.length M1.length nt.length m := fun m hm => if_neg hm
          refine ⟨by rw [q _ (by omega)]; exact SF.O.y, by rw [q _ (by omega)]; exact SF.O.w, by rw [q _ (by omega)]; exact SF.O.b, by rw [q _ (by omega)]; exact SF.O.t, fun k p hp => ?_⟩
          obtain ⟨hk, rfl⟩ := rsOf_get hp
          rw [q _ (by simp only; omega), q _ (by simp only; omega)]
          exact SF.O.r _ _ hp
        refine ⟨SF', ?_, ?_, good_vd G, by have := Hi.s0; show 0 < h.s + tot h.ths; omega⟩
        · show (_ ++ [_])[M3.length + 10]? = _
          rw [List.getElem?_append_right (by rw [l6]; exact Nat.le_refl _), l6, Nat.sub_self]; rfl
        · unfold onew7
          rw [if_pos rfl]
  · rcases List.mem_append.mp hg with hg | hg
    · exact hn' g hg
    · rw [List.mem_singleton.mp hg]
      show nt.length ≤ n
      omega
end Lw

namespace Lw
open PySem PySem.Spec PyProof.Rows L2 VL
/-- a house that is worked in, from (o, M) on -/
def WS (c y w b t : Nat) (s : Int) (o : Nat → Nat) (M : List MO) (u : Nat) (ths : List Th) (M' : List MO) : Prop := ∃ (bag : Bag) (r : List MO) (o' : Nat → Nat) (rs : List (Nat × Nat)), M' = bag.mo :: r ∧ bag.Ok u ∧ o' 0 = 0 ∧ Sd o' M' c y w b t s ths rs ∧ Vd s ths ∧ FrH (fun c' => c' = c) o M o' M'
theorem WS.mono {c y w b t u v : Nat} {s : Int} {o : Nat → Nat} {M M' : List MO} {ths : List Th} (h : WS c y w b t s o M u ths M') (l : u ≤ v) : WS c y w b t s o M v ths M' := by
  obtain ⟨g, r, o', rs, e, ok, o0, S, V, F⟩ := h
  exact ⟨g, r, o', rs, e, ok.mono l, o0, S, V, F⟩
section
variable {c y w b t u : Nat} {s : Int} {o : Nat → Nat} {M M' : List MO} {ths : List Th}
def mkB7 : Stm := seqS (asgT (.all [8, 9]) (callE 1 F_law_size (consA (varV 0) nilA)))
  (seqS (exprS (appE (rawV 4) (tupE (consA (methE 3 F_Yard_make [89, 97, 114, 100] [109, 97, 107, 101] (rawV 3) (consA (varV 8) (consA (varV 9) nilA))) (consA (shrN (bin2 mulF (opdC (valN (lstE (consA (pureC (.int 0)) nilA)))) (rawV 8))) (consA (shrN (bin2 mulF (opdC (valN (lstE (consA (pureC (.int 0)) nilA)))) (rawV 9))) nilA))))))
  (sputS (valN (bin2 addF (opdC (valN (bin2 addF (opdC (valN (bin2 addF (rawV 5) (opdC (pureC (.int 1)))))) (rawV 8)))) (rawV 9))) (rawV 1) (pureC (.int 2))))
theorem mk7_step (h : WS c y w b t s o M u ths M') (o0 : o 0 = 0) (hu : u < 700000) (hn : ths.length < 800) {x : Nat} (hx : M'[x]? = some (.lst [.ob y, .ob t, .int (s + tot ths)])) (hox : ∃ k, o x = 6 + 8 * k) (hxM : x < M.length) (hc5 : c < 5) {c2 c6 c7 c8 c9 c10 : Cell} :
    ∃ M2 ths2 c8' c9', mkB7 ⟨[.v (.ob 0), .v (.ob x), c2, .v (.ob y), .v (.ob t), .v (.int (s + tot ths)), c6, c7, c8, c9, c10], M'⟩ = some (.ok .nx, ⟨[.v (.ob 0), .v (.ob x), c2, .v (.ob y), .v (.ob t), .v (.int (s + tot ths)), c6, c7, .v c8', .v c9', c10], M2.set x (.lst [.ob y, .ob t, .int (s + tot ths2)])⟩) ∧ WS c y w b t s o M (u + 3) ths2 M2 ∧ ths2.length = ths.length + 1 := by
  obtain ⟨bg, r, o1, rs, rfl, ok, o10, S, V, F⟩ := h
  obtain ⟨hh, mm, b', e1, ok', b1, b2⟩ := size_of_ok ok (by omega)
  have e1 := e1 r
  have FB : FrH (fun c' => c' = c) o1 (bg.mo :: r) o1 (b'.mo :: r) := fr_bag
  have S' : Sd o1 (b'.mo :: r) c y w b t s ths rs := by
    have h1 := S.O.y
    have h4 := S.lt
    exact S.fr fun m k hm => by
      cases m with
      | zero => omega
      | succ m => rfl
  have rf := fun n => rep_flat n 0
  obtain ⟨M1, a1, a2, a3, o', a4, a5, a6, a7⟩ := add_ok S' o10 (by simp) (by omega) b1 b2
  have Yy := S'.Y.y
  have Tt := S'.T.t
  have ln : (thD s ths rs).length < 1000000 := by rw [thD_len S'.T.l]; omega
  have tne : t ≠ 0 := fun z => by have := S.O.t; rw [z, o10] at this; omega
  generalize hMM : b'.mo :: r = MM at *
  have h0M : ∀ V : MO, ((M1 ++ [MO.lst ((zr hh).map .int), MO.lst ((zr mm).map .int)]).set t V)[0]? = some b'.mo := fun V => by
    rw [List.getElem?_set_ne tne]
    have : M1[0]? = some b'.mo := by rw [a7, ← hMM]; rfl
    rw [List.getElem?_append_left (List.getElem?_eq_some_iff.mp this).1]
    exact this
  obtain ⟨r3, a8⟩ := cons_of (h0M (MO.lst (thD s ths rs ++ [D.tup [.int (s + tot ths), .ob MM.length, .ob (MM.length + 1)]])))
  have g4 : ∀ x, (M1 ++ x)[t]? = some (.lst (thD s ths rs)) := fun x => by
    rw [List.getElem?_append_left (List.getElem?_eq_some_iff.mp a3).1]; exact a3
  have c1 : (hh : Int) ≤ 1000000 := by omega
  have c2' : (mm : Int) ≤ 1000000 := by omega
  have c3' : -(hh : Int) ≤ 1000000 := by omega
  have c4' : -(mm : Int) ≤ 1000000 := by omega
  have c5' : hh ≤ 1000000 := by omega
  have c6' : mm ≤ 1000000 := by omega
  obtain ⟨kx, hox⟩ := hox
  have ox1 : o1 x = 6 + 8 * kx := by rw [F.ow x hxM]; exact hox
  have hxl := (List.getElem?_eq_some_iff.mp hx).1
  have hxt : x ≠ t := fun z => by have := S.O.t; rw [← z, ox1] at this; omega
  have hx0 : x ≠ 0 := fun z => by rw [z, o10] at ox1; omega
  have hxMM : x < MM.length := by rw [← hMM]; rw [List.length_cons] at hxl ⊢; exact hxl
  have hx1 : ∀ V, ((M1 ++ [MO.lst ((zr hh).map .int), MO.lst ((zr mm).map .int)]).set t V)[x]? = some (.lst [.ob y, .ob t, .int (s + tot ths)]) := fun V => by
    have a6' := a6.ms x hxMM hx0 (fun c' k hc z => by rw [ox1, hc] at z; omega)
    rw [List.getElem?_set_ne (Ne.symm hxt)] at a6' ⊢
    rw [a6', ← hMM]
    cases x with
    | zero => exact absurd rfl hx0
    | succ x => exact hx
  have htot : s + tot ths + 1 + hh + mm = s + tot (ths ++ [(zr hh, zr mm)]) := by
    rw [tot_app]
    show _ = s + (tot ths + (sz (zr hh, zr mm) + 0))
    simp only [sz, zr, List.length_replicate]
    omega
  refine ⟨_, ths ++ [(zr hh, zr mm)], .int hh, .int mm, ?_, ⟨b', r3, o', _, a8, ok', a4, a5, ?_, (F.trans FB).trans a6⟩, by rw [List.length_append]; rfl⟩
  · simp only [zr, List.map_replicate] at hx1
    simp only [zr] at htot
    simp [mkB7, e1, Yy, Tt, yO, hm2, a1, a2, a3, rf, zr, c1, c2', c3', c4', c5', c6', LIM, ln, g4, hx1, htot]
  · intro x hx a ha
    rcases List.mem_append.mp hx with hx | hx
    · rcases V x hx a ha with z | z
      · exact .inl z
      · exact .inr (by rw [ats_app]; exact List.mem_append_left _ z)
    · rw [List.mem_singleton.mp hx] at ha
      exact .inl (List.eq_of_mem_replicate ha)
def wh1 : Stm := ifS (cmp2 gtF (opdC (valN (un1 lenF (opdC (ixE (opdC (ixE (rawV 4) (varV 6))) (pureC (.int 1))))))) (opdC (pureC (.int 0)))) (exprS (callE 5 F_law_field (consA (varV 3) (consA (varV 4) (consA (varV 6) (consA (callE 2 F_law_draw (consA (varV 0) (consA (valN (un1 lenF (opdC (ixE (opdC (ixE (rawV 4) (varV 6))) (pureC (.int 1)))))) nilA))) (consA (callE 4 F_law_hold (consA (varV 0) (consA (varV 4) (consA (pureC (.int 0)) (consA (pureC (.int 0)) nilA))))) nilA))))))) skipS
def wh2 : Stm := ifS (cmp2 gtF (opdC (valN (un1 lenF (opdC (ixE (opdC (ixE (rawV 4) (varV 6))) (pureC (.int 2))))))) (opdC (pureC (.int 0)))) (seqS (asgV 10 (valN (bin2 addF (opdC (valN (un1 lenF (opdC (ixE (opdC (ixE (rawV 4) (varV 6))) (pureC (.int 1))))))) (opdC (callE 2 F_law_draw (consA (varV 0) (consA (valN (un1 lenF (opdC (ixE (opdC (ixE (rawV 4) (varV 6))) (pureC (.int 2)))))) nilA)))))))
  (exprS (callE 5 F_law_field (consA (varV 3) (consA (varV 4) (consA (varV 6) (consA (varV 10) (consA (callE 1 F_law_worth (consA (varV 0) nilA)) nilA)))))))) skipS
theorem wh1_step {l rr : List Th} {a : Th} (h : WS c y w b t s o M u (l ++ a :: rr) M') (c8 : c < 8) (hu : u < 700000) (hn : (l ++ a :: rr).length < 900) {x1 x2 x5 x7 x8 x9 x10 : Cell} :
    ∃ M2 a', wh1 ⟨[.v (.ob 0), x1, x2, .v (.ob y), .v (.ob t), x5, .v (.int l.length), x7, x8, x9, x10], M'⟩ = some (.ok .nx, ⟨[.v (.ob 0), x1, x2, .v (.ob y), .v (.ob t), x5, .v (.int l.length), x7, x8, x9, x10], M2⟩) ∧ WS c y w b t s o M (u + 4) (l ++ a' :: rr) M2 ∧ sz a' = sz a := by
  have h0 := h
  obtain ⟨bg, r, o1, rs, rfl, ok, o10, S, V, F⟩ := h
  have Tt := S.T.t
  obtain ⟨i1, i2, t1, t2, t3, t4⟩ := thD_at S.T
  by_cases hp : 0 < a.1.length
  · have ta := S.k a (by simp)
    obtain ⟨d, g1, e1, k1, d0, d1⟩ := draw_ex (m := (a.1.length : Int)) ok (by omega) (Int.lt_trans (show (a.1.length : Int) < 1000 by have := ta.1; omega) (by decide +kernel)) (by omega)
    obtain ⟨j, rfl⟩ : ∃ j : Nat, d = (j : Int) := ⟨d.toNat, by omega⟩
    have hj : j < a.1.length := by omega
    have e1 := e1 r
    have S1 : Sd o1 (g1.mo :: r) c y w b t s (l ++ a :: rr) rs := S.bag o10 c8
    obtain ⟨v, g2, e2, k2, hv⟩ := hold_ok (k := 0) (ch := 0) S1 o10 k1 (by omega) (by rw [List.length_append, List.length_cons]; omega) (by omega) (by decide) (by decide) (.inl rfl)
    have S2 : Sd o1 (g2.mo :: r) c y w b t s (l ++ a :: rr) rs := S.bag o10 c8
    obtain ⟨M2, a', e3, S3, q1, q2, q3, q4, q5⟩ := field_ok S2 v (j := j) (by omega)
    obtain ⟨r1, hr1⟩ := fr_cons o10 q5
    rw [if_pos hj] at q4
    refine ⟨M2, a', ?_, ⟨g2, r1, o1, rs, hr1, k2.mono (by omega), o10, S3, vd_mid (by unfold sz; rw [q1, q2]) V ?_, (F.trans (fr_bag (x' := g2.mo))).trans (fr_field q3 q5)⟩, by unfold sz; rw [q1, q2]⟩
    · generalize bg.mo :: r = M0 at *
      simp only [wh1]
      simp [Tt, t4, t1, hp, draw_eq, e1, e2, e3, LIM]
    · rw [q4]
      intro x hx
      rcases List.mem_or_eq_of_mem_set hx with hx | rfl
      · exact V a (by simp) x hx
      · exact hv
  · refine ⟨bg.mo :: r, a, ?_, h0.mono (by omega), rfl⟩
    have hz : a.1.length = 0 := by omega
    generalize bg.mo :: r = M0 at *
    simp only [wh1]
    simp [Tt, t4, t1, hz, LIM]
theorem wh2_step {l rr : List Th} {a : Th} (h : WS c y w b t s o M u (l ++ a :: rr) M') (c8 : c < 8) (hu : u < 700000) (hn : (l ++ a :: rr).length < 900) {x1 x2 x5 x7 x8 x9 x10 : Cell} :
    ∃ M2 a' x10', wh2 ⟨[.v (.ob 0), x1, x2, .v (.ob y), .v (.ob t), x5, .v (.int l.length), x7, x8, x9, x10], M'⟩ = some (.ok .nx, ⟨[.v (.ob 0), x1, x2, .v (.ob y), .v (.ob t), x5, .v (.int l.length), x7, x8, x9, x10'], M2⟩) ∧ WS c y w b t s o M (u + 4) (l ++ a' :: rr) M2 ∧ sz a' = sz a := by
  have h0 := h
  obtain ⟨bg, r, o1, rs, rfl, ok, o10, S, V, F⟩ := h
  have Tt := S.T.t
  obtain ⟨i1, i2, t1, t2, t3, t4⟩ := thD_at S.T
  by_cases hp : 0 < a.2.length
  · have ta := S.k a (by simp)
    obtain ⟨d, g1, e1, k1, d0, d1⟩ := draw_ex (m := (a.2.length : Int)) ok (by omega) (Int.lt_trans (show (a.2.length : Int) < 1000 by have := ta.2; omega) (by decide +kernel)) (by omega)
    obtain ⟨j, rfl⟩ : ∃ j : Nat, d = (j : Int) := ⟨d.toNat, by omega⟩
    have hj : j < a.2.length := by omega
    have e1 := e1 r
    obtain ⟨v, g2, e2, k2⟩ := worth_ok k1 (by omega)
    have e2 := e2 r
    have S2 : Sd o1 (g2.mo :: r) c y w b t s (l ++ a :: rr) rs := S.bag o10 c8
    obtain ⟨M2, a', e3, S3, q1, q2, q3, q4, q5⟩ := field_ok S2 v (j := a.1.length + j) (by omega)
    obtain ⟨r1, hr1⟩ := fr_cons o10 q5
    rw [if_neg (by omega)] at q4
    have z : ((a.1.length + j : Nat) : Int) = (a.1.length : Int) + j := by omega
    rw [z] at e3
    refine ⟨M2, a', .v (.int ((a.1.length : Int) + j)), ?_, ⟨g2, r1, o1, rs, hr1, k2.mono (by omega), o10, S3, vd_mid (by unfold sz; rw [q1, q2]) V ?_, (F.trans (fr_bag (x' := g2.mo))).trans (fr_field q3 q5)⟩, by unfold sz; rw [q1, q2]⟩
    · generalize bg.mo :: r = M0 at *
      simp only [wh2]
      simp [Tt, t4, t1, t2, hp, draw_eq, e1, e2, e3, LIM]
    · rw [q4]
      intro x hx
      exact V a (by simp) x hx
  · refine ⟨bg.mo :: r, a, x10, ?_, h0.mono (by omega), rfl⟩
    have hz : a.2.length = 0 := by omega
    generalize bg.mo :: r = M0 at *
    simp only [wh2]
    simp [Tt, t4, t2, hz, LIM]
end
end Lw

namespace Lw
open PySem PySem.Spec PyProof.Rows L2 VL
def fdB : Stm := seqS (asgV 6 (callE 2 F_law_draw (consA (varV 0) (consA (valN (un1 lenF (rawV 4))) nilA)))) (seqS wh1 wh2)
def tdB : Stm := seqS (asgV 7 (methE 1 F_Yard_told [89, 97, 114, 100] [116, 111, 108, 100] (rawV 3) nilA))
  (seqS (ifS (notC (tstE (callE 2 F_law_told (consA (varV 7) (consA (varV 4) nilA))))) (retS (pureC (.bl false))) skipS)
  (exprS (clrE (rawV 7))))
theorem deed_B : B_law_deed = seqS (asgU (.all [3, 4, 5]) (varV 1))
  (seqS (ifS (cmp2 eqF (rawV 2) (opdC (pureC (.int 1)))) mkB7 skipS)
  (seqS (ifS (andC (cmp2 eqF (rawV 2) (opdC (pureC (.int 2)))) (cmp2 neRF (rawV 4) (opdC (valN (lstE nilA))))) fdB skipS)
  (seqS (ifS (cmp2 eqF (rawV 2) (opdC (pureC (.int 3)))) tdB skipS)
  (retS (pureC (.bl true)))))) := rfl
theorem Sd.setx {o : Nat → Nat} {M : List MO} {c y w b t x i : Nat} {s : Int} {ths : List Th} {rs : List (Nat × Nat)} {v : MO} (S : Sd o M c y w b t s ths rs) (ox : o x = 6 + 8 * i) (hc : c < 5) : Sd o (M.set x v) c y w b t s ths rs :=
  S.fr fun m k hm => List.getElem?_set_ne fun z => by rw [z] at ox; omega
theorem KS.upd {u n : Nat} {hs : List Hse} {M M' : List MO} {i : Nat} {h : Hse} (K : KS u n hs M) (hi : hs[i]? = some h) {bag : Bag} {r : List MO} {o o' : Nat → Nat} {rs : List (Nat × Nat)} {ths : List Th} {v m : Nat}
    (H : ∀ (j : Nat) (g : Hse), hs[j]? = some g → Hok o M j g) (o0 : o 0 = 0) (F : FrH (fun c => c = i) o M o' M') (e : M' = bag.mo :: r) (ok : bag.Ok v) (o0' : o' 0 = 0) (S : Sd o' M' i h.y h.w h.b h.t h.s ths rs) (V : Vd h.s ths) (hm : n ≤ m) (hl : ths.length ≤ m) (ht : tot ths = tot h.ths ∨ True) :
    KS v m (hs.set i { h with ths := ths, rs := rs }) (M'.set h.x (hsO { h with ths := ths, rs := rs })) := by
  have hil := (List.getElem?_eq_some_iff.mp hi).1
  have h5 := K.l
  have Hi := H i h hi
  have hxl := (List.getElem?_eq_some_iff.mp Hi.x).1
  have ox : o' h.x = 6 + 8 * i := by rw [F.ow h.x hxl]; exact Hi.ox
  have hx0 : h.x ≠ 0 := fun z => by rw [z, o0'] at ox; omega
  obtain ⟨r2, hr2⟩ : ∃ r2, M'.set h.x (hsO { h with ths := ths, rs := rs }) = bag.mo :: r2 := by
    rw [e]
    cases hx : h.x with
    | zero => exact absurd hx hx0
    | succ k => exact ⟨_, rfl⟩
  refine ⟨⟨bag, r2, o', hr2, ok, o0', fun j g hg => ?_⟩, by rw [List.length_set]; exact h5, fun g hg => ?_⟩
  · by_cases hj : j = i
    · subst hj
      rw [List.getElem?_set_self hil] at hg
      cases hg
      exact ⟨S.setx ox (by omega), List.getElem?_set_self (Nat.lt_of_lt_of_le hxl F.l), ox, V, Hi.s0⟩
    · rw [List.getElem?_set_ne (Ne.symm hj)] at hg
      have hjl := (List.getElem?_eq_some_iff.mp hg).1
      have G := (H j g hg).keep F o0 (by omega) (fun c hc => ⟨by rw [hc]; exact Ne.symm hj, by rw [hc]; omega⟩)
      refine ⟨G.S.setx ox (by omega), ?_, G.ox, G.v, G.s0⟩
      rw [List.getElem?_set_ne (fun z => by have := G.ox; rw [← z, ox] at this; omega)]
      exact G.x
  · rcases List.mem_or_eq_of_mem_set hg with hg | rfl
    · exact Nat.le_trans (K.n g hg) hm
    · exact hl
theorem deed_ok {u n : Nat} {hs : List Hse} {M : List MO} (K : KS u n hs M) (hu : u < 500000) (hn : n < 700) {i : Nat} {h : Hse} (hi : hs[i]? = some h) {way : Int} (hw : 0 ≤ way ∧ way < 4) :
    ∃ (hs' : List Hse) (M' : List MO), F_law_deed [.ob 0, .ob h.x, .int way] M = some (.ok (.bl true), M') ∧ KS (u + 20) (n + 1) hs' M' ∧ hs'.map (fun g => D.ob g.x) = hs.map (fun g => D.ob g.x) := by
  have hil := (List.getElem?_eq_some_iff.mp hi).1
  have hnl := K.n h (List.mem_of_getElem? hi)
  have h5 := K.l
  have K0 := K
  obtain ⟨⟨bg, r, o, rfl, ok, o0, H⟩, l, hn'⟩ := K
  have Hi := H i h hi
  have S := Hi.S
  have hx0 := Hi.x
  have hxl := (List.getElem?_eq_some_iff.mp hx0).1
  have W0 : WS i h.y h.w h.b h.t h.s o (bg.mo :: r) u h.ths (bg.mo :: r) := ⟨bg, r, o, h.rs, rfl, ok, o0, S, Hi.v, FrH.refl⟩
  have hmap : ∀ (ths : List Th) (rs : List (Nat × Nat)), (hs.set i { h with ths := ths, rs := rs }).map (fun g => D.ob g.x) = hs.map (fun g => D.ob g.x) := fun ths rs => by
    apply List.ext_getElem?
    intro j
    rw [List.getElem?_map, List.getElem?_map]
    by_cases hj : j = i
    · subst hj
      rw [List.getElem?_set_self hil, hi]; rfl
    · rw [List.getElem?_set_ne (Ne.symm hj)]
  rw [F_law_deed, deed_B]
  simp only [hsO] at hx0
  by_cases w1 : way = 1
  · subst w1
    obtain ⟨M2, ths2, d8, d9, e, W2, l2⟩ := mk7_step W0 o0 (by omega) (by omega) hx0 ⟨i, Hi.ox⟩ hxl (by omega) (c2 := .v (.int 1)) (c6 := .un) (c7 := .un) (c8 := .un) (c9 := .un) (c10 := .un)
    obtain ⟨g2, r2, o2, rs2, e2, k2, o20, S2, V2, F2⟩ := W2
    refine ⟨hs.set i { h with ths := ths2, rs := rs2 }, M2.set h.x (hsO { h with ths := ths2, rs := rs2 }), ?_, (K0.upd hi H o0 F2 e2 k2 o20 S2 V2 (m := n + 1) (by omega) (by omega) (.inr trivial)).mono (by omega) (Nat.le_refl _), hmap _ _⟩
    rw [e_fn]
    generalize fdB = FB
    generalize tdB = TB
    generalize mkB7 = MB at e ⊢
    simp [hx0, e, hsO]
  · by_cases w2 : way = 2
    · subst w2
      have ne := fun env => neR_things S.T env
      have htl := thD_len (s := h.s) S.T.l
      cases hths : h.ths with
      | nil =>
        rw [hths] at ne
        refine ⟨hs, bg.mo :: r, ?_, K0.mono (by omega) (by omega), rfl⟩
        rw [e_fn]
        generalize fdB = FB
        generalize tdB = TB
        generalize mkB7 = MB
        simp [hx0, ne, LIM]
      | cons q qs =>
        have hp : 0 < h.ths.length := by rw [hths]; simp
        obtain ⟨d, g1, e1, k1, d0, d1⟩ := draw_ex (m := (h.ths.length : Int)) ok (by omega) (Int.lt_trans (show (h.ths.length : Int) < 1000 by omega) (by decide +kernel)) (by omega)
        have e1 := e1 r
        obtain ⟨lx, a, rr, h1, h2⟩ := split_at (ths := h.ths) (i := d.toNat) (by omega)
        have hd : d = (lx.length : Int) := by omega
        have W1 : WS i h.y h.w h.b h.t h.s o (bg.mo :: r) (u + 1) (lx ++ a :: rr) (g1.mo :: r) := ⟨g1, r, o, h.rs, rfl, k1, o0, by rw [← h1]; exact S.bag o0 (by omega), by rw [← h1]; exact Hi.v, fr_bag⟩
        obtain ⟨M2, a', e2, W2, z2⟩ := wh1_step W1 (by omega) (by omega) (by rw [← h1]; omega) (x1 := .v (.ob h.x)) (x2 := .v (.int 2)) (x5 := .v (.int (h.s + tot h.ths))) (x7 := .un) (x8 := .un) (x9 := .un) (x10 := .un)
        have hl2 : (lx ++ a' :: rr).length = h.ths.length := by rw [h1]; simp
        obtain ⟨M3, a'', x10', e3, W3, z3⟩ := wh2_step W2 (by omega) (by omega) (by rw [hl2]; omega) (x1 := .v (.ob h.x)) (x2 := .v (.int 2)) (x5 := .v (.int (h.s + tot h.ths))) (x7 := .un) (x8 := .un) (x9 := .un) (x10 := .un)
        obtain ⟨g3, r3, o3, rs3, e4, k3, o30, S3, V3, F3⟩ := W3
        have hl3 : (lx ++ a'' :: rr).length = h.ths.length := by rw [h1]; simp
        have KF := K0.upd hi H o0 F3 e4 k3 o30 S3 V3 (m := n + 1) (by omega) (by omega) (.inr trivial)
        have htot : tot (lx ++ a'' :: rr) = tot h.ths := by
          rw [h1]
          exact tot_szs (szs_mid (z3.trans z2))
        have hxx : M3.set h.x (hsO { h with ths := lx ++ a'' :: rr, rs := rs3 }) = M3 := by
          have hx3 : M3[h.x]? = some (hsO { h with ths := lx ++ a'' :: rr, rs := rs3 }) := by
            rw [F3.ms h.x hxl (fun z => by have := Hi.ox; rw [z, o0] at this; omega) (fun c k hc z => by have := Hi.ox; rw [hc] at z; omega), Hi.x]
            simp only [hsO, htot]
          apply List.ext_getElem?
          intro j
          by_cases hj : h.x = j
          · subst hj
            rw [List.getElem?_set_self (List.getElem?_eq_some_iff.mp hx3).1, hx3]
          · rw [List.getElem?_set_ne hj]
        rw [hxx] at KF
        refine ⟨_, M3, ?_, KF.mono (by omega) (Nat.le_refl _), hmap _ _⟩
        have hne : h.ths.isEmpty = false := by rw [hths]; rfl
        rw [e_fn]
        subst hd
        have Tt := S.T.t
        generalize bg.mo :: r = M0 at *
        generalize g1.mo :: r = M1 at *
        simp only [fdB]
        generalize tdB = TB
        generalize mkB7 = MB
        generalize wh1 = A1 at e2 ⊢
        generalize wh2 = A2 at e3 ⊢
        simp [hx0, ne, hne, Tt, htl, draw_eq, e1, e2, e3, LIM]
    · by_cases w3 : way = 3
      · subst w3
        obtain ⟨ds, f1, f2, f3, _⟩ := K0.told (by omega) hi
        refine ⟨hs, (bg.mo :: r) ++ [.lst []], ?_, (K0.app [.lst []]).mono (by omega) (by omega), rfl⟩
        rw [e_fn]
        generalize bg.mo :: r = M0 at *
        have g1 : (M0 ++ [MO.lst ds])[M0.length]? = some (.lst ds) := by rw [List.getElem?_append_right (Nat.le_refl _), Nat.sub_self]; rfl
        have hset : (M0 ++ [MO.lst ds]).set M0.length (.lst []) = M0 ++ [.lst []] := by rw [List.set_append_right _ _ (Nat.le_refl _), Nat.sub_self]; rfl
        generalize hL : M0.length = L at *
        generalize hMD : M0 ++ [MO.lst ds] = MD at *
        generalize fdB = FB
        generalize mkB7 = MB
        simp only [tdB]
        simp [hx0, f3, yO, hm5, f1, f2, g1, hset]
      · refine ⟨hs, bg.mo :: r, ?_, K0.mono (by omega) (by omega), rfl⟩
        rw [e_fn]
        generalize fdB = FB
        generalize tdB = TB
        generalize mkB7 = MB
        simp [hx0, w1, w2, w3]
/-! the law -/
def ctB : Stm := seqS (asgV 9 (callE 2 F_law_carted_once (consA (varV 1) (consA (varV 7) nilA))))
  (seqS (ifS (cmp2 isF (rawV 9) (opdC (pureC .non))) (retS (pureC (.bl false))) skipS)
  (exprS (appE (rawV 5) (varV 9))))
def ckB : Stm := ifS (notC (tstE (callE 2 F_law_told (consA (methE 1 F_Yard_told [89, 97, 114, 100] [116, 111, 108, 100] (opdC (ixE (rawV 7) (pureC (.int 0)))) nilA) (consA (ixE (rawV 7) (pureC (.int 1))) nilA))))) (retS (pureC (.bl false))) skipS
def dyB : Stm := seqS (asgV 8 (callE 2 F_law_draw (consA (varV 1) (consA (pureC (.int 4)) nilA))))
  (seqS (asgV 7 (ixE (rawV 5) (callE 2 F_law_draw (consA (varV 1) (consA (valN (un1 lenF (rawV 5))) nilA)))))
  (seqS (ifS (andC (cmp2 eqF (rawV 8) (opdC (pureC (.int 0)))) (cmp2 ltF (opdC (valN (un1 lenF (rawV 5)))) (opdC (pureC (.int 5))))) ctB skipS)
  (seqS (ifS (notC (tstE (callE 3 F_law_deed (consA (varV 1) (consA (varV 7) (consA (varV 8) nilA)))))) (retS (pureC (.bl false))) skipS)
  (seqS (asgV 7 (ixE (rawV 5) (callE 2 F_law_draw (consA (varV 1) (consA (valN (un1 lenF (rawV 5))) nilA)))))
  ckB))))
def turnB : Stm := ifS (orC (cmp2 ltF (rawV 6) (opdC (pureC (.int 3)))) (tstE (callE 1 F_law_more (consA (varV 1) nilA)))) dyB skipS
def lastB : Stm := ifS (orC (notC (tstE (callE 2 F_law_told (consA (methE 1 F_Yard_told [89, 97, 114, 100] [116, 111, 108, 100] (opdC (ixE (rawV 7) (pureC (.int 0)))) nilA) (consA (ixE (rawV 7) (pureC (.int 1))) nilA))))) (cmp2 neF (fldE (opdC (ixE (rawV 7) (pureC (.int 0)))) [89, 97, 114, 100] [102, 114, 101, 101]) (opdC (ixE (rawV 7) (pureC (.int 2)))))) (retS (pureC (.bl false))) skipS
theorem law_B : B_law = seqS (asgV 1 (callE 1 F_law_bag (consA (varV 0) nilA)))
  (seqS (asgV 2 (callE 1 F_law_start (consA (varV 1) nilA)))
  (seqS (asgV 3 (makeE 2 F_Yard___init__ [89, 97, 114, 100] (consA (varV 2) nilA)))
  (seqS (asgV 4 (callE 2 F_law_filled (consA (varV 1) (consA (varV 3) nilA))))
  (seqS (asgN 5 (lstE (consA (shrN (lstE (consA (varV 3) (consA (varV 4) (consA (callE 2 F_law_free (consA (varV 2) (consA (varV 4) nilA))) nilA))))) nilA)))
  (seqS (forS (itR1 (pureC (.int 24))) (.one 6) turnB)
  (seqS (forS (itD (varV 5)) (.one 7) lastB)
  (retS (pureC (.bl true)))))))))  := rfl
end Lw

namespace Lw
open PySem PySem.Spec PyProof.Rows L2 VL
abbrev obs (hs : List Hse) : List D := hs.map fun g => D.ob g.x
def hEnv (c0 c2 c3 c4 : Cell) (hs : List Hse) (c6 c7 c8 c9 : Cell) : List Cell := [c0, .v (.ob 0), c2, c3, c4, .own (.lst (obs hs)), c6, c7, c8, c9]
section
variable {u n : Nat} {hs : List Hse} {M : List MO} {c0 c2 c3 c4 c6 c7 c8 c9 : Cell}
theorem ck_step (K : KS u n hs M) (hn : n < 1000) {i : Nat} {h : Hse} (hi : hs[i]? = some h) :
    ∃ M', ckB ⟨hEnv c0 c2 c3 c4 hs c6 (.v (.ob h.x)) c8 c9, M⟩ = some (.ok .nx, ⟨hEnv c0 c2 c3 c4 hs c6 (.v (.ob h.x)) c8 c9, M'⟩) ∧ KS u n hs M' := by
  obtain ⟨ds, f1, f2, f3, f4⟩ := K.told hn hi
  refine ⟨_, ?_, K.app [.lst ds]⟩
  have f5 : (M ++ [MO.lst ds])[h.x]? = some (hsO h) := by rw [List.getElem?_append_left (List.getElem?_eq_some_iff.mp f4).1]; exact f4
  simp only [hsO] at f4 f5
  generalize hL : M.length = L at *
  generalize hMD : M ++ [MO.lst ds] = MD at *
  simp only [ckB]
  simp [hEnv, f1, f2, f3, f4, f5, yO, hm5]
theorem pick (K : KS u n hs M) (hu : u < 1000000) (hp : 0 < hs.length) : ∃ (d : Int) (M' : List MO) (i : Nat) (h : Hse), F_law_draw [.ob 0, .int hs.length] M = some (.ok (.int d), M') ∧ KS (u + 1) n hs M' ∧ hs[i]? = some h ∧ atI (obs hs) d = some (.ob h.x) := by
  have h5 := K.l
  obtain ⟨d, M', e, K', d0, d1⟩ := K.draw hu (m := (hs.length : Int)) (by omega) (Int.lt_trans (show (hs.length : Int) < 1000 by omega) (by decide +kernel))
  have hd : d.toNat < hs.length := by omega
  exact ⟨d, M', d.toNat, hs[d.toNat], e, K', List.getElem?_eq_getElem hd, by rw [atI_nn d0, List.getElem?_map, List.getElem?_eq_getElem hd]; rfl⟩
theorem dy_step (K : KS u n hs M) (hu : u < 400000) (hn : n < 600) (hp : 0 < hs.length) :
    ∃ (hs' : List Hse) (M' : List MO) (c7' c8' c9' : Cell), dyB ⟨hEnv c0 c2 c3 c4 hs c6 c7 c8 c9, M⟩ = some (.ok .nx, ⟨hEnv c0 c2 c3 c4 hs' c6 c7' c8' c9', M'⟩) ∧ KS (u + 1400) (n + 1) hs' M' ∧ 0 < hs'.length := by
  have h5 := K.l
  obtain ⟨way, M1, e1, K1, w0, w1⟩ := K.draw (by omega) (m := 4) (by decide) (by decide +kernel)
  obtain ⟨d, M2, i, h, e2, K2, hi, e3⟩ := pick K1 (by omega) hp
  have hil := (List.getElem?_eq_some_iff.mp hi).1
  -- a yard more
  obtain ⟨hs1, M3, c9', e4, K3, hi3⟩ : ∃ (hs1 : List Hse) (M3 : List MO) (c9' : Cell), (ifS (andC (cmp2 eqF (rawV 8) (opdC (pureC (.int 0)))) (cmp2 ltF (opdC (valN (un1 lenF (rawV 5)))) (opdC (pureC (.int 5))))) ctB skipS) ⟨hEnv c0 c2 c3 c4 hs c6 (.v (.ob h.x)) (.v (.int way)) c9, M2⟩ = some (.ok .nx, ⟨hEnv c0 c2 c3 c4 hs1 c6 (.v (.ob h.x)) (.v (.int way)) c9', M3⟩) ∧ KS (u + 1 + 1 + 1300) n hs1 M3 ∧ hs1[i]? = some h := by
    by_cases q1 : way = 0
    · by_cases q2 : hs.length < 5
      · obtain ⟨h', M3, e, K3⟩ := once_ok K2 (by omega) (by omega) q2 hi
        have hob : obs (hs ++ [h']) = obs hs ++ [.ob h'.x] := by simp [obs]
        refine ⟨hs ++ [h'], M3, .v (.ob h'.x), ?_, K3, by rw [List.getElem?_append_left hil]; exact hi⟩
        have q3 : hs.length < 1000000 := by omega
        have q4 : (hs.length : Int) < 5 := by omega
        simp only [hEnv, hob]
        simp only [ctB]
        simp [q1, q4, e, q2, isNoneO, q3, LIM, -List.map_append]
      · refine ⟨hs, M2, c9, ?_, K2.mono (by omega) (Nat.le_refl _), hi⟩
        have q4 : ¬ (hs.length : Int) < 5 := by omega
        generalize ctB = CB
        simp only [hEnv]
        simp [q1, q4]
    · refine ⟨hs, M2, c9, ?_, K2.mono (by omega) (Nat.le_refl _), hi⟩
      generalize ctB = CB
      simp only [hEnv]
      simp [q1]
  obtain ⟨hs2, M4, e5, K4, hx⟩ := deed_ok K3 (by omega) (by omega) hi3 ⟨w0, w1⟩ (way := way)
  have hl2 : hs2.length = hs1.length := by have := congrArg List.length hx; simpa using this
  have hp2 : 0 < hs2.length := by
    have := (List.getElem?_eq_some_iff.mp hi3).1
    omega
  obtain ⟨d', M5, j, g, e6, K5, hj, e7⟩ := pick K4 (by omega) hp2
  obtain ⟨M6, e8, K6⟩ := ck_step (c0 := c0) (c2 := c2) (c3 := c3) (c4 := c4) (c6 := c6) (c8 := .v (.int way)) (c9 := c9') K5 (by omega) hj
  refine ⟨hs2, M6, .v (.ob g.x), .v (.int way), c9', ?_, K6.mono (by omega) (Nat.le_refl _), hp2⟩
  have hobl : (obs hs).length = hs.length := by simp [obs]
  have hobl2 : (obs hs2).length = hs2.length := by simp [obs]
  have hx' : obs hs2 = obs hs1 := hx
  unfold dyB
  generalize hIF : ifS (andC (cmp2 eqF (rawV 8) (opdC (pureC (.int 0)))) (cmp2 ltF (opdC (valN (un1 lenF (rawV 5)))) (opdC (pureC (.int 5))))) ctB skipS = IF at e4 ⊢
  generalize ckB = CK at e8 ⊢
  simp only [hEnv] at e4 e8 ⊢
  rw [← hx'] at e4
  generalize obs hs = A at *
  generalize obs hs2 = B at *
  simp [e1, hobl, e2, e3, e4, e5, hobl2, e6, e7, e8]
end
theorem law_ok : LawOk F_law := by
  intro ns hns
  obtain ⟨b0, k0, e0⟩ := bag_ok hns
  obtain ⟨s, b1, e1, k1, s0⟩ := start_ok k0 (by omega)
  obtain ⟨M3, ths, e3, h3, V, l1, l2⟩ := filled_ok k1 (by omega) s
  have e1 := e1 []
  have ey : F_Yard___init__ [.ob 1, .int s] [b1.mo, .ins [89, 97, 114, 100] [] []] = some (.ok .non, [b1.mo, yO s s 2 3, .lst [], .dic [] []]) := yinit_ok [b1.mo] s
  obtain ⟨b3, r3, o3, rs3, hM3, ok3, o03, S3⟩ := h3
  have ef := free_ok S3.T (by omega)
  have hg : M3[4]? = some (.lst (thD s ths rs3)) := S3.T.t
  have hM3l : 4 < M3.length := (List.getElem?_eq_some_iff.mp hg).1
  -- the first house
  have hfr : FrH (fun _ => False) o3 M3 (fun m => if m = M3.length then 6 else o3 m) (M3 ++ [hsO ⟨M3.length, 1, 2, 3, 4, s, ths, rs3⟩]) :=
    ⟨by rw [List.length_append]; omega, fun m hm => if_neg (by omega), fun m hm _ _ => List.getElem?_append_left hm⟩
  have K0 : KS (0 + 2 + 30000) ths.length [⟨M3.length, 1, 2, 3, 4, s, ths, rs3⟩] (M3 ++ [hsO ⟨M3.length, 1, 2, 3, 4, s, ths, rs3⟩]) := by
    refine ⟨⟨b3, r3 ++ [hsO ⟨M3.length, 1, 2, 3, 4, s, ths, rs3⟩], fun m => if m = M3.length then 6 else o3 m, by rw [hM3]; rfl, ok3, ?_, fun i h hi => ?_⟩, by simp, fun h hh => by rw [List.mem_singleton.mp hh]; exact Nat.le_refl _⟩
    · show (if 0 = M3.length then 6 else o3 0) = 0
      rw [if_neg (by omega)]; exact o03
    · cases i with
      | succ i => simp at hi
      | zero =>
        cases hi
        refine ⟨S3.keep hfr o03 (fun _ z => z.elim) (by decide), ?_, ?_, V, s0⟩
        · show (M3 ++ [_])[M3.length]? = _
          rw [List.getElem?_append_right (Nat.le_refl _), Nat.sub_self]; rfl
        · show (if M3.length = M3.length then 6 else o3 M3.length) = 6 + 8 * 0
          rw [if_pos rfl]
  obtain ⟨s4, e4, hs, M4, c6, c7, c8, c9, rfl, K4, hp4⟩ := forL_thru (t := .one 6) (body := turnB) (ds := rngL 0 24) (st := ⟨hEnv (.v (.scr ns)) (.v (.int s)) (.v (.ob 1)) (.v (.ob 4)) [⟨M3.length, 1, 2, 3, 4, s, ths, rs3⟩] .un .un .un .un, M3 ++ [hsO ⟨M3.length, 1, 2, 3, 4, s, ths, rs3⟩]⟩)
    (fun i st => ∃ (hs : List Hse) (M' : List MO) (c6 c7 c8 c9 : Cell), st = ⟨hEnv (.v (.scr ns)) (.v (.int s)) (.v (.ob 1)) (.v (.ob 4)) hs c6 c7 c8 c9, M'⟩ ∧ KS (0 + 2 + 30000 + 1400 * i) (ths.length + i) hs M' ∧ 0 < hs.length)
    ⟨_, _, .un, .un, .un, .un, rfl, K0, by simp⟩ (by
      rintro i x st hx ⟨hs, M', c6, c7, c8, c9, rfl, K, hp⟩
      rw [rngL_get] at hx
      split at hx
      · rename_i hi
        cases hx
        obtain ⟨hs', M2, d7, d8, d9, e, K2, hp2⟩ := dy_step (c0 := .v (.scr ns)) (c2 := .v (.int s)) (c3 := .v (.ob 1)) (c4 := .v (.ob 4)) (c6 := .v (.int (0 + (i : Int)))) (c7 := c7) (c8 := c8) (c9 := c9) K (by omega) (by omega) hp
        obtain ⟨bg, r, o, hMM, _⟩ := K.ex
        obtain ⟨mo, em⟩ := more_ok bg r
        rw [← hMM] at em
        by_cases hk : (i : Int) < 3
        · refine ⟨_, rfl, _, ?_, hs', M2, .v (.int (0 + (i : Int))), d7, d8, d9, rfl, by rw [show 0 + 2 + 30000 + 1400 * (i + 1) = 0 + 2 + 30000 + 1400 * i + 1400 by omega]; exact K2, hp2⟩
          unfold turnB
          generalize dyB = GB at e ⊢
          simp only [hEnv] at e ⊢
          simp only [Int.zero_add] at e ⊢
          simp [hk, e]
        · cases mo with
          | true =>
            refine ⟨_, rfl, _, ?_, hs', M2, .v (.int (0 + (i : Int))), d7, d8, d9, rfl, by rw [show 0 + 2 + 30000 + 1400 * (i + 1) = 0 + 2 + 30000 + 1400 * i + 1400 by omega]; exact K2, hp2⟩
            unfold turnB
            generalize dyB = GB at e ⊢
            simp only [hEnv] at e ⊢
            simp only [Int.zero_add] at e ⊢
            simp [hk, em, e]
          | false =>
            refine ⟨_, rfl, _, ?_, hs, M', .v (.int (0 + (i : Int))), c7, c8, c9, rfl, K.mono (by omega) (by omega), hp⟩
            unfold turnB
            generalize dyB = GB
            simp only [hEnv]
            simp only [Int.zero_add]
            simp [hk, em]
      · cases hx)
  rw [rngL_len] at K4
  obtain ⟨s5, e5, M5, c7', rfl, K5⟩ := forL_thru (t := .one 7) (body := lastB) (ds := obs hs) (st := ⟨[.v (.scr ns), .v (.ob 0), .v (.int s), .v (.ob 1), .v (.ob 4), .v (.lst (obs hs)), c6, c7, c8, c9], M4⟩)
    (fun i st => ∃ (M' : List MO) (c7 : Cell), st = ⟨[.v (.scr ns), .v (.ob 0), .v (.int s), .v (.ob 1), .v (.ob 4), .v (.lst (obs hs)), c6, c7, c8, c9], M'⟩ ∧ KS (0 + 2 + 30000 + 1400 * 24) (ths.length + 24) hs M') ⟨M4, c7, rfl, K4⟩ (by
      rintro i x st hx ⟨M', c7, rfl, K⟩
      rw [List.getElem?_map] at hx
      cases hg : hs[i]? with
      | none => rw [hg] at hx; cases hx
      | some h =>
        rw [hg] at hx
        cases hx
        obtain ⟨ds, f1, f2, f3, f4⟩ := K.told (by omega) hg
        refine ⟨_, rfl, _, ?_, M' ++ [.lst ds], .v (.ob h.x), rfl, K.app _⟩
        have f5 : (M' ++ [MO.lst ds])[h.x]? = some (hsO h) := by rw [List.getElem?_append_left (List.getElem?_eq_some_iff.mp f4).1]; exact f4
        have f6 : (M' ++ [MO.lst ds])[h.y]? = some (yO h.s (h.s + tot h.ths) h.w h.b) := by rw [List.getElem?_append_left (List.getElem?_eq_some_iff.mp f3).1]; exact f3
        simp only [hsO] at f4 f5
        generalize hL : M'.length = L at *
        generalize hMD : M' ++ [MO.lst ds] = MD at *
        generalize obs hs = A
        simp only [lastB]
        simp [f1, f2, f3, f4, f5, f6, yO, hm5, lookF])
  refine ⟨M5, ?_⟩
  have ro : rngOk 0 24 = true := rngOk_ok (n := 24) (by omega)
  have e4' : forI (getR 0 24) (.one 6) turnB 25 0 _ = _ := (e_for_rng _ _ _ _ _ _ (by omega)).trans e4
  rw [F_law, law_B, e_fn]
  generalize turnB = TB at e4' ⊢
  generalize lastB = EB at e5 ⊢
  simp only [hEnv] at e4'
  simp only [yO] at e3 ey
  have hobs : obs [⟨M3.length, 1, 2, 3, 4, s, ths, rs3⟩] = [D.ob M3.length] := rfl
  rw [hobs] at e4'
  simp only [hsO] at e4'
  generalize obs hs = A at *
  simp [bag_eq, e0, e1, ey, e3, ef, ro, e4', e5, LIM]
end Lw

open PySem PySem.W PyProof.Rows in
set_option maxRecDepth 100000 in
set_option maxHeartbeats 0 in
theorem PySem.Challenge.cw_knownholds_k07_yards_apart_holds : PySem.Challenge.rw_knownholds_k07_yards_apart.Holds := by
  w_on; o_law; k_head; (case hw => w_witness2)
  k_fill
  refine VL.walkX (l := PySem.Challenge.rw_knownholds_k07_yards_apart) (k := 6) (F := Lw.F_law) (sd := Lw.s_law) Lw.law_ok rfl rfl ⟨rfl, by decide, by decide⟩ (fun w h Y => PySem.W.kIn_of Y) rfl ?G
  case G =>
    intro w mg h KX G
    refine' Lw.all_mk (l := PySem.Challenge.rw_knownholds_k07_yards_apart) KX G ?a0 ?l0 ?c0 ?k0 ?a1 ?l1 ?c1 ?k1 ?a2 ?i2 ?l2 ?c2 ?k2 ?a3 ?i3 ?l3 ?c3 ?k3 ?a4 ?i4 ?l4 ?c4 ?k4 ?a5 ?i5 ?l5 ?c5 ?k5 ?a6 ?l6 ?c6 ?k6 ?a7 ?i7 ?l7 ?c7 ?k7 ?a8 ?l8 ?c8 ?k8 ?a9 ?l9 ?c9 ?k9 ?a10 ?l10 ?c10 ?k10 ?a11 ?l11 ?c11 ?k11 ?a12 ?l12 ?c12 ?k12 ?a13 ?l13 ?c13 ?k13 ?a14 ?l14 ?c14 ?k14 ?a15 ?l15 ?c15 ?k15 ?a16 ?l16 ?c16 ?k16 ?a17 ?l17 ?c17 ?k17 ?a18 ?l18 ?c18 ?k18 ?a19 ?l19 ?c19 ?k19 ?a20 ?l20 ?c20 ?k20 ?a21 ?l21 ?c21 ?k21 ?a22 ?l22 ?c22 ?k22 ?a23 ?l23 ?c23 ?k23 ?a24 ?l24 ?c24 ?k24 ?a25 ?l25 ?c25 ?k25 ?a26 ?i26 ?l26 ?c26 ?k26 ?a27 ?l27 ?c27 ?k27 ?a28 ?l28 ?c28 ?k28 ?z_range ?z_len ?z_abs ?z_isinstance ?z_int ?z_bool ?z_list ?z_zip ?z_tuple ?z_max ?z_sum ?a_Yard ?a_NoThing ?a_NoSpot ?x1_NoThing ?x2_NoThing ?x3_NoThing ?x4_NoThing ?x1_NoSpot ?x2_NoSpot ?x3_NoSpot ?x4_NoSpot ?pg_Yard ?hd_Yard ?po_Yard ?sa_Yard ?mk_Yard ?kc_Yard ?n_Yard_start ?n_Yard_free ?n_Yard_words ?n_Yard_begun
    (case a_Yard => k_is)
    (case a_NoThing => k_is)
    (case a_NoSpot => k_is)
    (case a0 => k_is)
    (case l0 => k_is)
    (case c0 => k_is)
    (case k0 => k_is)
    (case a1 => k_is)
    (case l1 => k_is)
    (case c1 => k_is)
    (case k1 => k_is)
    (case a2 => k_is)
    (case i2 => k_is)
    (case l2 => k_is)
    (case c2 => k_is)
    (case k2 => k_is)
    (case a3 => k_is)
    (case i3 => k_is)
    (case l3 => k_is)
    (case c3 => k_is)
    (case k3 => k_is)
    (case a4 => k_is)
    (case i4 => k_is)
    (case l4 => k_is)
    (case c4 => k_is)
    (case k4 => k_is)
    (case a5 => k_is)
    (case i5 => k_is)
    (case l5 => k_is)
    (case c5 => k_is)
    (case k5 => k_is)
    (case a6 => k_is)
    (case l6 => k_is)
    (case c6 => k_is)
    (case k6 => k_is)
    (case a7 => k_is)
    (case i7 => k_is)
    (case l7 => k_is)
    (case c7 => k_is)
    (case k7 => k_is)
    (case a8 => k_is)
    (case l8 => k_is)
    (case c8 => k_is)
    (case k8 => k_is)
    (case a9 => k_is)
    (case l9 => k_is)
    (case c9 => k_is)
    (case k9 => k_is)
    (case a10 => k_is)
    (case l10 => k_is)
    (case c10 => k_is)
    (case k10 => k_is)
    (case a11 => k_is)
    (case l11 => k_is)
    (case c11 => k_is)
    (case k11 => k_is)
    (case a12 => k_is)
    (case l12 => k_is)
    (case c12 => k_is)
    (case k12 => k_is)
    (case a13 => k_is)
    (case l13 => k_is)
    (case c13 => k_is)
    (case k13 => k_is)
    (case a14 => k_is)
    (case l14 => k_is)
    (case c14 => k_is)
    (case k14 => k_is)
    (case a15 => k_is)
    (case l15 => k_is)
    (case c15 => k_is)
    (case k15 => k_is)
    (case a16 => k_is)
    (case l16 => k_is)
    (case c16 => k_is)
    (case k16 => k_is)
    (case a17 => k_is)
    (case l17 => k_is)
    (case c17 => k_is)
    (case k17 => k_is)
    (case a18 => k_is)
    (case l18 => k_is)
    (case c18 => k_is)
    (case k18 => k_is)
    (case a19 => k_is)
    (case l19 => k_is)
    (case c19 => k_is)
    (case k19 => k_is)
    (case a20 => k_is)
    (case l20 => k_is)
    (case c20 => k_is)
    (case k20 => k_is)
    (case a21 => k_is)
    (case l21 => k_is)
    (case c21 => k_is)
    (case k21 => k_is)
    (case a22 => k_is)
    (case l22 => k_is)
    (case c22 => k_is)
    (case k22 => k_is)
    (case a23 => k_is)
    (case l23 => k_is)
    (case c23 => k_is)
    (case k23 => k_is)
    (case a24 => k_is)
    (case l24 => k_is)
    (case c24 => k_is)
    (case k24 => k_is)
    (case a25 => k_is)
    (case l25 => k_is)
    (case c25 => k_is)
    (case k25 => k_is)
    (case a26 => k_is)
    (case i26 => k_is)
    (case l26 => k_is)
    (case c26 => k_is)
    (case k26 => k_is)
    (case a27 => k_is)
    (case l27 => k_is)
    (case c27 => k_is)
    (case k27 => k_is)
    (case a28 => k_is)
    (case l28 => k_is)
    (case c28 => k_is)
    (case k28 => k_is)
    (case z_range => k_is)
    (case z_len => k_is)
    (case z_abs => k_is)
    (case z_isinstance => k_is)
    (case z_int => k_is)
    (case z_bool => k_is)
    (case z_list => k_is)
    (case z_zip => k_is)
    (case z_tuple => k_is)
    (case z_max => k_is)
    (case z_sum => k_is)
    (case x1_NoThing => k_exc)
    (case x2_NoThing => k_is)
    (case x3_NoThing => k_is)
    (case x4_NoThing => k_is)
    (case x1_NoSpot => k_exc)
    (case x2_NoSpot => k_is)
    (case x3_NoSpot => k_is)
    (case x4_NoSpot => k_is)
    (case pg_Yard => k_is)
    (case hd_Yard => k_is)
    (case po_Yard => k_is)
    (case sa_Yard => k_is)
    (case mk_Yard => k_is)
    (case kc_Yard => k_is)
    (case n_Yard_start => k_is)
    (case n_Yard_free => k_is)
    (case n_Yard_words => k_is)
    (case n_Yard_begun => k_is)

