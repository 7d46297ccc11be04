import PyProof.Rows.All
import Wide.All
import OpenK.AllK
import Wide.FinOn
import HandS.ForMost
import HandS.Exc
import HandS.TryOnly
import HandS.WordsExc
import HandS.TupAny
import HandS.HeadHook2
import HandS.Star
import HandS.IsInst
import HandS.List
import HandS.WideBits
import HandS.Deep
import HandS.TupLe
import HandS.Flow
import PyProof.NeData
import PyProof.P3Eq
import PyProof.P3In
import HandS.Text
import HandS.Style
import HandS.NoneIn
import HandS.Defaults
import HandS.HeadEnd
import HandS.Ends
import HandS.TupMul
import KE.GoesNew
import KE.KDictZip
import KE.GoesEnumKw
import HandS.DictSubView0
import HandS.Head0
import HandS.Head1
import HandS.Head2
import HandS.HeadHook1
import KE.KDictPairs
import KE.KDictLaws
import KE.KTup
import PyProof.ListNew
import PyProof.CollectIter
import KE.KStar
import PyProof.TupleOfGen
import HandS.ExcInit
import HandS.ExcField
import KE.KExcSuper
import KE.KStateDown
import PySem.Challenge.RW_sealedruns_k01_lexemes_and_names
/-! text MiA -/
set_option Elab.async false
set_option linter.all false
set_option maxRecDepth 100000
set_option maxHeartbeats 4000000
/-! MiA: data by value over the hand layer's judgements: frozen data (RD), owned lists and dicts (OR), the slots' relation (SRF). -/
namespace Mi
open PySem PySem.Spec PyProof.Rows L2

abbrev D := PyData
abbrev Fg := PySem.W.Frag

/-- a key as data -/
def kD : Key → D
  | .inl i => .int i
  | .inr x => .str x

/-- a pair whose first is a text -/
def isPairD : D → Bool
  | .tuple [.str _, _] => true
  | _ => false
/-- a row of such pairs, not empty: what `dict(..)` may be asked of -/
def pairy (ds : List D) : Bool := !ds.isEmpty && ds.all isPairD
/-- a row that may be a module's constant -/
def constB : List D → Bool
  | .str _ :: _ => true
  | _ => false
/-- how a tuple's object is known: of a row of pairs it is known that the object has no dict of its own -/
inductive TupG (K : Fg) (G : Hp) (a : Addr) (vs : List V) (ds : List D) : Prop
  | pl : pairy ds = false → G a = some (.tup vs) → TupG K G a vs ds
  | fz {o : Obj} : pairy ds = true → o.dict = none → G a = some (.frz o (.tup vs)) → TupG K G a vs ds
  | kk {o : Obj} {its : Array Value} {n : Nat} : constB ds = true → K.lookup a = some o → o.cls = .type "tuple" → o.data = .seq its n → its.size ≤ sizeLine → Vals vs its.toList → TupG K G a vs ds
theorem TupG.sqT {K : Fg} {G : Hp} {a : Addr} {vs : List V} {ds : List D} : TupG K G a vs ds → SqT K G a vs
  | .pl _ h => .inl (.inl h)
  | .fz _ _ h => .inl (.inr ⟨_, h⟩)
  | .kk _ h1 h2 h3 h4 h5 => .inr ⟨_, _, _, h1, h2, h3, h4, h5⟩
theorem TupG.mono {K : Fg} {G G' : Hp} {a : Addr} {vs : List V} {ds : List D} (e : Same G G') : TupG K G a vs ds → TupG K G' a vs ds
  | .pl p h => .pl p (e _ _ h)
  | .fz p d h => .fz p d (e _ _ h)
  | .kk h0 h1 h2 h3 h4 h5 => .kk h0 h1 h2 h3 h4 h5
/-- a new tuple, as it is told -/
def tupO (b : Bool) (o : Obj) (xs : List V) : HO := if b then .frz o (.tup xs) else .tup xs
theorem TupG.of {K : Fg} {G : Hp} {a : Addr} {vs : List V} {ds : List D} {o : Obj} (ho : o.dict = none) (h : G a = some (tupO (pairy ds) o vs)) : TupG K G a vs ds := by
  unfold tupO at h
  cases q : pairy ds with
  | true => rw [q, if_pos rfl] at h; exact .fz q ho h
  | false => rw [q, if_neg (by decide)] at h; exact .pl q h
mutual
/-- the value stands for the datum, in the frozen part G of the heap -/
inductive RD (K : Fg) (G : Hp) : D → V → Prop
  | non : RD K G .none .non
  | bl (b : Bool) : RD K G (.bool b) (.bl b)
  | int (i : Int) : RD K G (.int i) (.int i)
  | str (x : Str) : RD K G (.str x) (.str x)
  | lst {a : Addr} {vs : List V} {ds : List D} : G a = some (.lst vs) → RDs K G ds vs → RD K G (.list ds) (.ref a)
  | tup {a : Addr} {vs : List V} {ds : List D} : TupG K G a vs ds → RDs K G ds vs → RD K G (.tuple ds) (.ref a)
  | dk {a : Addr} {kvs : List (Key × V)} {ds : List (D × D)} : G a = some (.dK kvs) → RDk K G ds kvs → RD K G (.dict ds) (.ref a)
  | dt {a : Addr} {kvs : List (List Key × V)} {ds : List (D × D)} : G a = some (.dT kvs) → RDt K G ds kvs → RD K G (.dict ((.none, .none) :: ds)) (.ref a)
inductive RDs (K : Fg) (G : Hp) : List D → List V → Prop
  | nil : RDs K G [] []
  | cons {d : D} {v : V} {ds : List D} {vs : List V} : RD K G d v → RDs K G ds vs → RDs K G (d :: ds) (v :: vs)
inductive RDk (K : Fg) (G : Hp) : List (D × D) → List (Key × V) → Prop
  | nil : RDk K G [] []
  | cons {k : Key} {d : D} {v : V} {ds : List (D × D)} {vs : List (Key × V)} : RD K G d v → RDk K G ds vs → RDk K G ((kD k, d) :: ds) ((k, v) :: vs)
inductive RDt (K : Fg) (G : Hp) : List (D × D) → List (List Key × V) → Prop
  | nil : RDt K G [] []
  | cons {k : List Key} {d : D} {v : V} {ds : List (D × D)} {vs : List (List Key × V)} : RD K G d v → RDt K G ds vs → RDt K G ((.tuple (k.map kD), d) :: ds) ((k, v) :: vs)
end

theorem same_sqT {K : Fg} {G G' : Hp} {a : Addr} {xs : List V} (e : Same G G') (h : SqT K G a xs) : SqT K G' a xs := by
  rcases h with (h | ⟨o, h⟩) | h
  · exact .inl (.inl (e _ _ h))
  · exact .inl (.inr ⟨o, e _ _ h⟩)
  · exact .inr h

mutual
theorem RD.mono {K : Fg} {G G' : Hp} (e : Same G G') : ∀ {d : D} {v : V}, RD K G d v → RD K G' d v
  | _, _, .non => .non
  | _, _, .bl b => .bl b
  | _, _, .int i => .int i
  | _, _, .str x => .str x
  | _, _, .lst h r => .lst (e _ _ h) (RDs.mono e r)
  | _, _, .tup h r => .tup (h.mono e) (RDs.mono e r)
  | _, _, .dk h r => .dk (e _ _ h) (RDk.mono e r)
  | _, _, .dt h r => .dt (e _ _ h) (RDt.mono e r)
theorem RDs.mono {K : Fg} {G G' : Hp} (e : Same G G') : ∀ {d : List D} {v : List V}, RDs K G d v → RDs K G' d v
  | _, _, .nil => .nil
  | _, _, .cons h r => .cons (RD.mono e h) (RDs.mono e r)
theorem RDk.mono {K : Fg} {G G' : Hp} (e : Same G G') : ∀ {d : List (D × D)} {v : List (Key × V)}, RDk K G d v → RDk K G' d v
  | _, _, .nil => .nil
  | _, _, .cons h r => .cons (RD.mono e h) (RDk.mono e r)
theorem RDt.mono {K : Fg} {G G' : Hp} (e : Same G G') : ∀ {d : List (D × D)} {v : List (List Key × V)}, RDt K G d v → RDt K G' d v
  | _, _, .nil => .nil
  | _, _, .cons h r => .cons (RD.mono e h) (RDt.mono e r)
end

section
variable {K : Fg} {G : Hp}
theorem RDs.length : ∀ {ds : List D} {vs : List V}, RDs K G ds vs → vs.length = ds.length
  | _, _, .nil => rfl
  | _, _, .cons _ r => by simp [RDs.length r]
theorem RDs.get : ∀ {ds : List D} {vs : List V} {i : Nat} {d : D}, RDs K G ds vs → ds[i]? = some d → ∃ v, vs[i]? = some v ∧ RD K G d v
  | _, _, _, _, .nil, e => by simp at e
  | _, _, 0, _, .cons h _, e => by simp at e; subst e; exact ⟨_, rfl, h⟩
  | _, _, i + 1, d, .cons _ r, e => by
    obtain ⟨v, h1, h2⟩ := RDs.get (i := i) (d := d) r (by simpa using e)
    exact ⟨v, by simpa using h1, h2⟩
theorem RDs.get' : ∀ {ds : List D} {vs : List V} {i : Nat} {v : V}, RDs K G ds vs → vs[i]? = some v → ∃ d, ds[i]? = some d ∧ RD K G d v
  | _, _, _, _, .nil, e => by simp at e
  | _, _, 0, _, .cons h _, e => by simp at e; subst e; exact ⟨_, rfl, h⟩
  | _, _, i + 1, d, .cons _ r, e => by
    obtain ⟨v, h1, h2⟩ := RDs.get' (i := i) (v := d) r (by simpa using e)
    exact ⟨v, by simpa using h1, h2⟩
theorem RDs.append : ∀ {ds es : List D} {vs us : List V}, RDs K G ds vs → RDs K G es us → RDs K G (ds ++ es) (vs ++ us)
  | _, _, _, _, .nil, s => s
  | _, _, _, _, .cons h r, s => .cons h (RDs.append r s)
theorem RDs.take : ∀ {ds : List D} {vs : List V} (n : Nat), RDs K G ds vs → RDs K G (ds.take n) (vs.take n)
  | _, _, 0, _ => .nil
  | _, _, _ + 1, .nil => .nil
  | _, _, n + 1, .cons h r => .cons h (RDs.take n r)
theorem RDs.drop : ∀ {ds : List D} {vs : List V} (n : Nat), RDs K G ds vs → RDs K G (ds.drop n) (vs.drop n)
  | _, _, 0, r => r
  | _, _, _ + 1, .nil => .nil
  | _, _, n + 1, .cons _ r => RDs.drop n r
theorem RDs.snoc {ds : List D} {vs : List V} {d : D} {v : V} (r : RDs K G ds vs) (h : RD K G d v) : RDs K G (ds ++ [d]) (vs ++ [v]) := r.append (.cons h .nil)
theorem RDs.dropLast {ds : List D} {vs : List V} (r : RDs K G ds vs) : RDs K G ds.dropLast vs.dropLast := by
  rw [List.dropLast_eq_take, List.dropLast_eq_take, r.length]
  exact r.take _
theorem RDs.reverse : ∀ {ds : List D} {vs : List V}, RDs K G ds vs → RDs K G ds.reverse vs.reverse
  | _, _, .nil => .nil
  | _, _, .cons h r => by
    rw [List.reverse_cons, List.reverse_cons]
    exact (RDs.reverse r).snoc h
theorem RDs.set : ∀ {ds : List D} {vs : List V} (i : Nat) {d : D} {v : V}, RDs K G ds vs → RD K G d v → RDs K G (ds.set i d) (vs.set i v)
  | _, _, _, _, _, .nil, _ => .nil
  | _, _, 0, _, _, .cons _ r, h => .cons h r
  | _, _, i + 1, _, _, .cons g r, h => .cons g (RDs.set i r h)
theorem RDs.isEmpty {ds : List D} {vs : List V} (r : RDs K G ds vs) : vs.isEmpty = ds.isEmpty := by cases r <;> rfl
/-- no slot of an own dict in RD's values: what a sealed datum tells of its value -/
theorem RD.ofInt {i : Int} {v : V} (h : RD K G (.int i) v) : v = .int i := by cases h; rfl
theorem RD.ofStr {x : Str} {v : V} (h : RD K G (.str x) v) : v = .str x := by cases h; rfl
theorem RD.ofBool {b : Bool} {v : V} (h : RD K G (.bool b) v) : v = .bl b := by cases h; rfl
theorem RD.ofNone {v : V} (h : RD K G .none v) : v = .non := by cases h; rfl
theorem RD.ofTup {ds : List D} {v : V} (h : RD K G (.tuple ds) v) : ∃ a vs, v = .ref a ∧ TupG K G a vs ds ∧ RDs K G ds vs := by
  cases h with
  | tup h r => exact ⟨_, _, rfl, h, r⟩
end

/-! ### owned objects -/
/-- a field of an owned dict: a datum, or an owned list -/
inductive Fld where
  | d (x : D)
  | l (xs : List D)
/-- an owned object -/
inductive MO where
  | lst (xs : List D)
  | dk (kvs : List (Key × D))
  | dt (kvs : List (List Key × D))
  | dn (kvs : List (Key × Fld))
/-- what a slot holds -/
inductive SV where
  | d (x : D)
  | o (m : MO)
  | b (m : MO)
  | scr (ns : List Int)
/-- an expression's value: a datum, an alias of a slot's object, a new object -/
inductive EV where
  | d (x : D)
  | al (i : Nat)
  | fr (m : MO)
abbrev Env' := List (Option SV)

/-- fields of an owned dict; the addresses of its own lists -/
def FRs (K : Fg) (G H : Hp) : List (Key × Fld) → List (Key × V) → List Addr → Prop
  | [], [], F => F = []
  | (k, .d x) :: r, (k', v) :: s, F => k = k' ∧ RD K G x v ∧ FRs K G H r s F
  | (k, .l xs) :: r, (k', v) :: s, F => k = k' ∧ ∃ a vs F', v = .ref a ∧ F = a :: F' ∧ H a = some (.lst vs) ∧ RDs K G xs vs ∧ FRs K G H r s F'
  | _, _, _ => False
def OR (K : Fg) (G H : Hp) : MO → V → List Addr → Prop
  | .lst xs, v, F => ∃ a vs, v = .ref a ∧ F = [a] ∧ H a = some (.lst vs) ∧ RDs K G xs vs
  | .dk kvs, v, F => ∃ a vs, v = .ref a ∧ F = [a] ∧ H a = some (.dK vs) ∧ RDk K G (kvs.map fun p => (kD p.1, p.2)) vs
  | .dn kvs, v, F => ∃ a vs F', v = .ref a ∧ F = a :: F' ∧ F.Nodup ∧ H a = some (.dK vs) ∧ FRs K G H kvs vs F'
  | .dt kvs, v, F => ∃ a vs, v = .ref a ∧ F = [a] ∧ H a = some (.dT vs) ∧ RDt K G (kvs.map fun p => (.tuple (p.1.map kD), p.2)) vs

theorem FRs.keep {K : Fg} {G G' H H' : Hp} (e : Same G G') : ∀ {kvs : List (Key × Fld)} {vs : List (Key × V)} {F : List Addr}, FRs K G H kvs vs F → (∀ a ∈ F, H' a = H a) → FRs K G' H' kvs vs F
  | [], [], _, h, _ => h
  | (k, .d x) :: r, (k', v) :: s, F, h, hk => ⟨h.1, h.2.1.mono e, FRs.keep e h.2.2 hk⟩
  | (k, .l xs) :: r, (k', v) :: s, F, h, hk => by
    obtain ⟨h0, a, vs, F', h1, h2, h3, h4, h5⟩ := h
    subst h2
    exact ⟨h0, a, vs, F', h1, rfl, (hk a List.mem_cons_self).trans h3, h4.mono e, FRs.keep e h5 fun b hb => hk b (List.mem_cons_of_mem _ hb)⟩
theorem FRs.some {K : Fg} {G H : Hp} : ∀ {kvs : List (Key × Fld)} {vs : List (Key × V)} {F : List Addr}, FRs K G H kvs vs F → ∀ a ∈ F, H a ≠ none
  | [], [], F, h, a, ha => by
    have h' : F = [] := h
    rw [h'] at ha; cases ha
  | (k, .d x) :: r, (k', v) :: s, F, h, a, ha => FRs.some h.2.2 a ha
  | (k, .l xs) :: r, (k', v) :: s, F, h, a, ha => by
    obtain ⟨h0, b, vs, F', h1, h2, h3, h4, h5⟩ := h
    subst h2
    rcases List.mem_cons.mp ha with rfl | ha
    · rw [h3]; simp
    · exact FRs.some h5 a ha
theorem OR.keep {K : Fg} {G G' H H' : Hp} {m : MO} {v : V} {F : List Addr} (e : Same G G') (h : OR K G H m v F) (hk : ∀ a ∈ F, H' a = H a) : OR K G' H' m v F := by
  cases m with
  | lst xs =>
    obtain ⟨a, vs, h1, h2, h3, h4⟩ := h
    subst h2
    exact ⟨a, vs, h1, rfl, (hk a List.mem_cons_self).trans h3, h4.mono e⟩
  | dk kvs =>
    obtain ⟨a, vs, h1, h2, h3, h4⟩ := h
    subst h2
    exact ⟨a, vs, h1, rfl, (hk a List.mem_cons_self).trans h3, h4.mono e⟩
  | dn kvs =>
    obtain ⟨a, vs, F', h1, h2, h3, h4, h5⟩ := h
    subst h2
    exact ⟨a, vs, F', h1, rfl, h3, (hk a List.mem_cons_self).trans h4, h5.keep e fun b hb => hk b (List.mem_cons_of_mem _ hb)⟩
  | dt kvs =>
    obtain ⟨a, vs, h1, h2, h3, h4⟩ := h
    subst h2
    exact ⟨a, vs, h1, rfl, (hk a List.mem_cons_self).trans h3, h4.mono e⟩
theorem OR.some {K : Fg} {G H : Hp} {m : MO} {v : V} {F : List Addr} (h : OR K G H m v F) : ∀ a ∈ F, H a ≠ none := by
  cases m with
  | lst xs =>
    obtain ⟨b, vs, h1, h2, h3, h4⟩ := h
    subst h2
    intro a ha
    rw [List.mem_singleton.mp ha, h3]; simp
  | dk kvs =>
    obtain ⟨b, vs, h1, h2, h3, h4⟩ := h
    subst h2
    intro a ha
    rw [List.mem_singleton.mp ha, h3]; simp
  | dn kvs =>
    obtain ⟨b, vs, F', h1, h2, h3, h4, h5⟩ := h
    subst h2
    intro a ha
    rcases List.mem_cons.mp ha with rfl | ha
    · rw [h4]; simp
    · exact h5.some a ha
  | dt kvs =>
    obtain ⟨b, vs, h1, h2, h3, h4⟩ := h
    subst h2
    intro a ha
    rw [List.mem_singleton.mp ha, h3]; simp

/-! ### the slots -/
def SVR (K : Fg) (G H : Hp) (sv : SV) (v : V) (F : List Addr) : Prop :=
  match sv with
  | .d x => RD K G x v ∧ F = []
  | .o m => OR K G H m v F
  | .b m => OR K G H m v F
  | .scr ns => (∃ a, v = .ref a ∧ SqL K G a (ns.map V.int)) ∧ F = []
def SV.isB : SV → Bool
  | .b _ => true
  | _ => false
/-- P: what must stay (the callers' own objects); B: the addresses of borrowed objects; G: frozen; F: the slots' own addresses -/
structure SRF (K : Fg) (P : Hp) (B : Nat → Option V) (G : Hp) (ρ : Env') (σ : L2.St) (H : Hp) (F : Nat → List Addr) : Prop where
  sub : Same G H
  pre : Same P H
  len : ρ.length = σ.length
  slot : ∀ (i : Nat) (sv : SV), ρ[i]? = some (some sv) → ∃ v, σ[i]? = some (some v) ∧ SVR K G H sv v (F i) ∧ (sv.isB = true → B i = some v)
  fre : ∀ (i : Nat) (a : Addr), a ∈ F i → G a = none ∧ P a = none ∧ H a ≠ none
  dis : ∀ (i j : Nat) (a : Addr), a ∈ F i → a ∈ F j → i = j
  pg : ∀ a, P a ≠ none → G a = none
/-- an expression's value -/
def EvR (K : Fg) (P G H : Hp) (σ : L2.St) (F : Nat → List Addr) : EV → V → Prop
  | .d x, w => RD K G x w
  | .al i, w => σ[i]? = some (some w)
  | .fr m, w => ∃ Fm, OR K G H m w Fm ∧ ∀ a ∈ Fm, G a = none ∧ P a = none ∧ ∀ i, a ∉ F i

/-- frozen and new things come, all else stays -/
structure Grow (G H G' H' : Hp) : Prop where
  gg : Same G G'
  hh : Same H H'
  sub : Same G' H'
  new : ∀ a, G' a ≠ none → G a = none → H a = none
theorem Grow.refl {G H : Hp} (h : Same G H) : Grow G H G H := ⟨Same.refl _, Same.refl _, h, fun a h1 h2 => absurd h2 h1⟩
theorem Grow.trans {G H G1 H1 G2 H2 : Hp} (a : Grow G H G1 H1) (b : Grow G1 H1 G2 H2) : Grow G H G2 H2 :=
  ⟨a.gg.trans b.gg, a.hh.trans b.hh, b.sub, fun c h1 h2 => by
    cases q : G1 c with
    | none =>
      have h3 := b.new c h1 q
      exact a.hh.free h3
    | some o => exact a.new c (by rw [q]; simp) h2⟩
theorem same_upd {G : Hp} {p : Addr} {o : HO} (hp : G p = none) : Same G (upd G p o) := fun b u h => by
  rw [upd_ne (ne_of_none h hp)]; exact h
/-- a new object, frozen -/
theorem Grow.newG {G H : Hp} {p : Addr} {o : HO} (s : Same G H) (hp : H p = none) : Grow G H (upd G p o) (upd H p o) := by
  refine ⟨same_upd (s.free hp), same_upd hp, fun b u h => ?_, fun a h1 h2 => ?_⟩
  · by_cases hb : b = p
    · subst hb; rw [upd_same] at h ⊢; exact h
    · rw [upd_ne hb] at h ⊢; exact s b u h
  · by_cases hb : a = p
    · rw [hb]; exact hp
    · rw [upd_ne hb] at h1; exact absurd h2 h1
/-- a new object, not frozen -/
theorem Grow.newH {G H : Hp} {p : Addr} {o : HO} (s : Same G H) (hp : H p = none) : Grow G H G (upd H p o) :=
  ⟨Same.refl _, same_upd hp, s.trans (same_upd hp), fun a h1 h2 => absurd h2 h1⟩

section
variable {K : Fg} {P : Hp} {B : Nat → Option V} {G G' : Hp} {ρ : Env'} {σ : L2.St} {H H' : Hp} {F : Nat → List Addr}
theorem SVR.keep {sv : SV} {v : V} {Fi : List Addr} (e : Same G G') (h : SVR K G H sv v Fi) (hk : ∀ a ∈ Fi, H' a = H a) : SVR K G' H' sv v Fi := by
  cases sv with
  | d x => exact ⟨h.1.mono e, h.2⟩
  | o m => exact OR.keep e h hk
  | b m => exact OR.keep e h hk
  | scr ns =>
    obtain ⟨⟨a, h1, h2⟩, h3⟩ := h
    exact ⟨⟨a, h1, e.seq h2⟩, h3⟩
theorem SRF.grow (s : SRF K P B G ρ σ H F) (g : Grow G H G' H') : SRF K P B G' ρ σ H' F := by
  have keepF : ∀ i a, a ∈ F i → H' a = H a := fun i a ha => by
    obtain ⟨_, _, h⟩ := s.fre i a ha
    cases q : H a with
    | none => exact absurd q h
    | some o => exact g.hh a o q
  refine ⟨g.sub, s.pre.trans g.hh, s.len, fun i sv e => ?_, fun i a ha => ?_, s.dis, fun a ha => ?_⟩
  · obtain ⟨v, h1, h2, h3⟩ := s.slot i sv e
    exact ⟨v, h1, h2.keep g.gg (keepF i), h3⟩
  · obtain ⟨h1, h2, h3⟩ := s.fre i a ha
    refine ⟨?_, h2, by rw [keepF i a ha]; exact h3⟩
    cases q : G' a with
    | none => rfl
    | some o => exact absurd (g.new a (by rw [q]; simp) h1) h3
  · have h1 := s.pg a ha
    cases q : G' a with
    | none => rfl
    | some o =>
      have h2 := g.new a (by rw [q]; simp) h1
      cases r : P a with
      | none => exact absurd r ha
      | some u => rw [s.pre a u r] at h2; cases h2
theorem EvR.mono {ev : EV} {w : V} (h : EvR K P G H σ F ev w) (hf : ∀ m, ev ≠ .fr m) (e : Same G G') {F' : Nat → List Addr} : EvR K P G' H' σ F' ev w := by
  cases ev with
  | d x => exact RD.mono e h
  | al i => exact h
  | fr m => exact absurd rfl (hf m)
end
end Mi
/-! text MiB -/
set_option Elab.async false
set_option linter.all false
set_option maxRecDepth 100000
set_option maxHeartbeats 4000000
/-! MiB: computations over slots; what an expression, a test, a list of arguments, a statement computes. -/
namespace Mi
open PySem PySem.Spec PyProof.Rows L2

/-- an error: its class by its name, its fields -/
structure Ex where
  cls : Str
  fs : List (Str × D)
/-- a computation's end: a value, an error, or nothing is said -/
inductive R (α : Type) where
  | ok (a : α) (ρ : Env')
  | exc (x : Ex) (ρ : Env')
  | bad
def R.bind {α β : Type} (r : R α) (f : α → Env' → R β) : R β := match r with
  | .ok a ρ => f a ρ
  | .exc x ρ => .exc x ρ
  | .bad => .bad
def R.ofO {α : Type} (o : Option α) (ρ : Env') : R α := match o with
  | some a => .ok a ρ
  | none => .bad
@[simp] theorem R.bind_ok {α β : Type} (a : α) (ρ : Env') (f : α → Env' → R β) : (R.ok a ρ).bind f = f a ρ := rfl
@[simp] theorem R.bind_exc {α β : Type} (x : Ex) (ρ : Env') (f : α → Env' → R β) : (R.exc x ρ : R α).bind f = .exc x ρ := rfl
@[simp] theorem R.bind_bad {α β : Type} (f : α → Env' → R β) : (R.bad : R α).bind f = .bad := rfl
@[simp] theorem R.ofO_some {α : Type} (a : α) (ρ : Env') : R.ofO (some a) ρ = .ok a ρ := rfl
@[simp] theorem R.ofO_none {α : Type} (ρ : Env') : R.ofO (none : Option α) ρ = .bad := rfl

/-- the error lies as this one -/
def ExR (K : Fg) (G : Hp) (x : Ex) (cls : Value) (d : Option Addr) : Prop :=
  cls = .ref (He.ga K x.cls) ∧ match d with
    | none => x.fs = []
    | some dx => ∃ vs : List (Str × V), G dx = some (.xd vs) ∧ vs.map (·.1) = x.fs.map (·.1) ∧ RDs K G (x.fs.map (·.2)) (vs.map (·.2))
theorem ExR.mono {K : Fg} {G G' : Hp} {x : Ex} {cls : Value} {d : Option Addr} (e : Same G G') (h : ExR K G x cls d) : ExR K G' x cls d := by
  obtain ⟨h1, h2⟩ := h
  refine ⟨h1, ?_⟩
  cases d with
  | none => exact h2
  | some dx =>
    obtain ⟨vs, h3, h4, h5⟩ := h2
    exact ⟨vs, e _ _ h3, h4, h5.mono e⟩

abbrev Rel (α β : Type) := Hp → Hp → Hp → L2.St → (Nat → List Addr) → α → β → Prop
section
variable {α β γ δ : Type}
/-- behind a computation that ended so -/
def Po (rel : Rel α β) (K : Fg) (W : WX) (P : Hp) (B : Nat → Option V) (G : Hp) (σ : L2.St) (r : R α) (Q : β → Hp → Prop) : Prop :=
  match r with
  | .ok a ρ' => ∀ G' H' F' w, Same G G' → SRF K P B G' ρ' σ H' F' → rel P G' H' σ F' a w → Q w H'
  | .exc x ρ' => ∀ G' H' F' cls d, Same G G' → SRF K P B G' ρ' σ H' F' → ExR K G' x cls d → W cls d σ H'
  | .bad => False
/-- a computation as a reading -/
def tG (rel : Rel α β) (K : Fg) (W : WX) (m : Env' → R α) (σ : L2.St) (H : Hp) (Q : β → Hp → Prop) : Prop :=
  ∃ P B G ρ F, SRF K P B G ρ σ H F ∧ Po rel K W P B G σ (m ρ) Q
variable {rel : Rel α β} {rel' : Rel γ δ} {K : Fg} {W : WX} {P : Hp} {B : Nat → Option V} {G G' : Hp} {σ : L2.St} {ρ : Env'} {H : Hp} {F : Nat → List Addr}
theorem Po.mono {r : R α} {Q : β → Hp → Prop} (e : Same G G') (h : Po rel K W P B G σ r Q) : Po rel K W P B G' σ r Q := by
  cases r with
  | ok a ρ' => exact fun G1 H1 F1 w e1 => h G1 H1 F1 w (e.trans e1)
  | exc x ρ' => exact fun G1 H1 F1 c d e1 => h G1 H1 F1 c d (e.trans e1)
  | bad => exact h
theorem Po.imp {r : R α} {Q Q' : β → Hp → Prop} (h : Po rel K W P B G σ r Q) (q : ∀ w H, Q w H → Q' w H) : Po rel K W P B G σ r Q' := by
  cases r with
  | ok a ρ' => exact fun G1 H1 F1 w e1 s r => q _ _ (h G1 H1 F1 w e1 s r)
  | exc x ρ' => exact h
  | bad => exact h
theorem Po.bind {r : R α} {f : α → Env' → R γ} {Q : δ → Hp → Prop} (h : Po rel' K W P B G σ (r.bind f) Q) :
    Po rel K W P B G σ r (fun x H1 => ∃ G1 ρ1 F1 a, Same G G1 ∧ SRF K P B G1 ρ1 σ H1 F1 ∧ rel P G1 H1 σ F1 a x ∧ Po rel' K W P B G1 σ (f a ρ1) Q) := by
  cases r with
  | ok a ρ' => exact fun G1 H1 F1 w e1 s1 r1 => ⟨G1, ρ', F1, a, e1, s1, r1, h.mono e1⟩
  | exc x ρ' => exact h
  | bad => exact h
/-- from a bound computation to its first part -/
theorem tG.first {m : Env' → R α} {f : α → Env' → R γ} {Q : δ → Hp → Prop} (h : tG rel' K W (fun ρ => (m ρ).bind f) σ H Q) :
    tG rel K W m σ H (fun x H1 => ∃ P B G1 ρ1 F1 a, SRF K P B G1 ρ1 σ H1 F1 ∧ rel P G1 H1 σ F1 a x ∧ Po rel' K W P B G1 σ (f a ρ1) Q) := by
  obtain ⟨P, B, G, ρ, F, s, h⟩ := h
  exact ⟨P, B, G, ρ, F, s, (Po.bind h).imp fun w H1 ⟨G1, ρ1, F1, a, _, s1, r1, h1⟩ => ⟨P, B, G1, ρ1, F1, a, s1, r1, h1⟩⟩
end

/-! ### judgements -/
theorem _root_.L2.PE.imp {X : Cx} {e : Expr} {t t' : TE} (h : PE X e t) (w : ∀ σ H Q, t' σ H Q → t σ H Q) : PE X e t' := ⟨fun pins s σ H Q I q => h.run pins s σ H Q I (w σ H Q q)⟩
theorem _root_.L2.PT.imp {X : Cx} {e : Expr} {t t' : TT} (h : PT X e t) (w : ∀ σ H Q, t' σ H Q → t σ H Q) : PT X e t' := ⟨fun pins s σ H Q I q => h.run pins s σ H Q I (w σ H Q q)⟩
theorem _root_.L2.PA.imp {X : Cx} {es : List Expr} {t t' : TA} (h : PA X es t) (w : ∀ σ H Q, t' σ H Q → t σ H Q) : PA X es t' := ⟨fun pos pins s σ H Q I q => h.run pos pins s σ H Q I (w σ H Q q)⟩
theorem _root_.L2.PS.imp {X : Cx} {st : Stmt} {t t' : TS} (h : PS X st t) (w : ∀ D σ H, t' D σ H → t D σ H) : PS X st t' := ⟨fun pins s σ H D I q => h.run pins s σ H D I (w D σ H q)⟩
theorem _root_.L2.PSs.imp {X : Cx} {st : List Stmt} {t t' : TS} (h : PSs X st t) (w : ∀ D σ H, t' D σ H → t D σ H) : PSs X st t' := ⟨fun pins s σ H D I q => h.run pins s σ H D I (w D σ H q)⟩

abbrev EvRs (K : Fg) : Rel (List EV) (List V) := fun P G H σ F es ws => es.length = ws.length ∧ ∀ (i : Nat) ev w, es[i]? = some ev → ws[i]? = some w → (∀ m, ev ≠ .fr m) ∧ EvR K P G H σ F ev w
abbrev BoR : Rel Bool Bool := fun _ _ _ _ _ a b => a = b
abbrev tE (K : Fg) (W : WX) (m : Env' → R EV) : TE := tG (EvR K) K W m
abbrev tT (K : Fg) (W : WX) (m : Env' → R Bool) : TT := tG BoR K W m
abbrev tA (K : Fg) (W : WX) (m : Env' → R (List EV)) : TA := tG (EvRs K) K W m
abbrev tO (K : Fg) (W : WX) (m : Env' → R (Option Int)) : TO := tG (fun _ _ _ _ _ a b => a = b) K W m
def AE (X : Cx) (W : WX) (m : Env' → R EV) (e : Expr) : Prop := PE X e (tE X.K W m)
def AT (X : Cx) (W : WX) (m : Env' → R Bool) (e : Expr) : Prop := PT X e (tT X.K W m)
def AA (X : Cx) (W : WX) (m : Env' → R (List EV)) (es : List Expr) : Prop := PA X es (tA X.K W m)
def AO (X : Cx) (W : WX) (m : Env' → R (Option Int)) (e : Option Expr) : Prop := PO X e (tO X.K W m)

/-! ### looking at values -/
def fldD : Fld → D
  | .d x => x
  | .l xs => .list xs
/-- an object as a datum -/
def snapM : MO → D
  | .lst xs => .list xs
  | .dk kvs => .dict (kvs.map fun p => (kD p.1, p.2))
  | .dt kvs => .dict ((.none, .none) :: kvs.map fun p => (.tuple (p.1.map kD), p.2))
  | .dn kvs => .dict (kvs.map fun p => (kD p.1, fldD p.2))
/-- .. that may be read as it stands (one with own lists within isn't) -/
def snapR : MO → Option D
  | .dn _ => none
  | m => some (snapM m)
def SV.obj? : SV → Option MO
  | .o m => some m
  | .b m => some m
  | _ => none
/-- a value as a datum, as it is now -/
def dV (ρ : Env') : EV → Option D
  | .d x => some x
  | .fr m => snapR m
  | .al i => match ρ[i]? with
    | some (some sv) => sv.obj?.bind snapR
    | _ => none
/-- what may be read: frozen, or an owned object whose parts are frozen -/
inductive ShR (K : Fg) (G H : Hp) : D → V → Prop
  | d {x : D} {w : V} : RD K G x w → ShR K G H x w
  | l {a : Addr} {xs : List D} {vs : List V} : H a = some (.lst vs) → RDs K G xs vs → ShR K G H (.list xs) (.ref a)
  | k {a : Addr} {kvs : List (D × D)} {vs : List (Key × V)} : H a = some (.dK vs) → RDk K G kvs vs → ShR K G H (.dict kvs) (.ref a)
  | t {a : Addr} {kvs : List (D × D)} {vs : List (List Key × V)} : H a = some (.dT vs) → RDt K G kvs vs → ShR K G H (.dict ((.none, .none) :: kvs)) (.ref a)

section
variable {K : Fg} {P : Hp} {B : Nat → Option V} {G G' : Hp} {ρ : Env'} {σ : L2.St} {H H' : Hp} {F : Nat → List Addr}
theorem ShR.ofOR {m : MO} {w : V} {Fm : List Addr} {d : D} (h : OR K G H m w Fm) (e : snapR m = some d) : ShR K G H d w := by
  cases m with
  | lst xs =>
    cases e
    obtain ⟨a, vs, rfl, _, h3, h4⟩ := h
    exact .l h3 h4
  | dk kvs =>
    cases e
    obtain ⟨a, vs, rfl, _, h3, h4⟩ := h
    exact .k h3 h4
  | dt kvs =>
    cases e
    obtain ⟨a, vs, rfl, _, h3, h4⟩ := h
    exact .t h3 h4
  | dn kvs => cases e
theorem SVR.obj {sv : SV} {v : V} {Fi : List Addr} {m : MO} (h : SVR K G H sv v Fi) (e : sv.obj? = some m) : OR K G H m v Fi := by
  cases sv with
  | d x => cases e
  | o m' => cases e; exact h
  | b m' => cases e; exact h
  | scr ns => cases e
theorem ShR.of {ev : EV} {w : V} {d : D} (s : SRF K P B G ρ σ H F) (h : EvR K P G H σ F ev w) (e : dV ρ ev = some d) : ShR K G H d w := by
  cases ev with
  | d x => cases e; exact .d h
  | fr m =>
    obtain ⟨Fm, h1, _⟩ := h
    exact .ofOR h1 e
  | al i =>
    unfold dV at e
    cases q : ρ[i]? with
    | none => simp only [q] at e; cases e
    | some o =>
      cases o with
      | none => simp only [q] at e; cases e
      | some sv =>
        simp only [q] at e
        obtain ⟨v, h1, h2, _⟩ := s.slot i sv q
        have hw : σ[i]? = some (some w) := h
        rw [h1] at hw; cases hw
        cases q2 : sv.obj? with
        | none => rw [q2] at e; cases e
        | some m =>
          rw [q2] at e
          exact .ofOR (h2.obj q2) e
theorem ShR.lst {ds : List D} {w : V} (s : Same G H) (h : ShR K G H (.list ds) w) : ∃ a vs, w = .ref a ∧ H a = some (.lst vs) ∧ RDs K G ds vs := by
  cases h with
  | d h =>
    cases h with
    | lst h1 h2 => exact ⟨_, _, rfl, s _ _ h1, h2⟩
  | l h1 h2 => exact ⟨_, _, rfl, h1, h2⟩
theorem ShR.tup {ds : List D} {w : V} (h : ShR K G H (.tuple ds) w) : ∃ a vs, w = .ref a ∧ TupG K G a vs ds ∧ RDs K G ds vs := by
  cases h with
  | d h =>
    cases h with
    | tup h1 h2 => exact ⟨_, _, rfl, h1, h2⟩
theorem ShR.int {i : Int} {w : V} (h : ShR K G H (.int i) w) : w = .int i := by cases h with | d h => exact h.ofInt
theorem ShR.str {x : Str} {w : V} (h : ShR K G H (.str x) w) : w = .str x := by cases h with | d h => exact h.ofStr
theorem ShR.bool {b : Bool} {w : V} (h : ShR K G H (.bool b) w) : w = .bl b := by cases h with | d h => exact h.ofBool
theorem ShR.none {w : V} (h : ShR K G H .none w) : w = .non := by cases h with | d h => exact h.ofNone
end
end Mi
/-! text MiBt -/
set_option Elab.async false
set_option linter.all false
set_option maxRecDepth 100000
set_option maxHeartbeats 4000000
/-! MiBt: new tuples, told with their object. -/
namespace Mi
open PySem PySem.Spec PyProof.Rows L2

section
variable {P : Program} {w : World} {H : Hp} {h : Heap} {a : Addr}
theorem ok_tupO {b : Bool} {o : Obj} {xs : List V} (e : h.get? a = some o) (k : ObjOk P w H h a (.tup xs)) : ObjOk P w H h a (tupO b o xs) := by
  unfold tupO
  cases b with
  | true => exact ⟨e, k⟩
  | false => exact k
end
theorem TupG.ty {K : Fg} {H : Hp} {a : Addr} {vs : List V} {ds : List D} : TupG K H a vs ds → TyX K H (.ref a) (.type "tuple")
  | .pl _ h => .base (.tup h)
  | .fz _ _ h => .fTuple h
  | .kk _ h1 h2 _ _ _ => .kTuple h1 h2

/-- a tuple's display -/
def tTupF (t : TA) : TE := fun σ H Q => t σ H fun xs H1 => xs.length ≤ sizeLine ∧ ∃ b : Bool, ∀ (p : Addr) (o : Obj), H1 p = none → o.dict = none → Q (.ref p) (upd H1 p (tupO b o xs))
section
variable {X : Cx} {es : List Expr} {t : TA} {pos : Pos}
theorem pe_tupF {x1} (h : PA X es t) : PE X (.Tuple es x1 pos) (tTupF t) := by
  refine ⟨fun pins s σ H Q I hq => ?_⟩
  refine wpAny_Tuple_spliced (thn (h.run pos pins s σ H _ I hq) fun us s1 ⟨xs, H1, I1, r, z, b, q⟩ => ⟨by rw [← r.length]; exact z, ?_⟩)
  have hf : H1 s1.heap.objs.size = none := I1.hok.fresh (Nat.le_refl _)
  exact ⟨.ref s1.heap.objs.size, _, I1.laid (t' := s1.toks) (o := tupO b { cls := .type "tuple", data := .seq us.toArray } xs) (fun b u e => Heap.get?_push_of_some _ e) (Nat.le_refl _)
    (ok_tupO (Heap.get?_push_size _ rfl) ⟨z, us, r, ⟨_, Heap.get?_push_size _ rfl, rfl, _, rfl⟩⟩), rfl, q _ _ hf rfl⟩
/-- t + u -/
def rCatF (K : Fg) : R2 := fun x y H Q => ∃ a b xs ys, x = .ref a ∧ y = .ref b ∧ SqT K H a xs ∧ SqT K H b ys ∧ xs.length + ys.length ≤ sizeLine ∧
  (xs = [] → Q (.ref b) H) ∧ (xs ≠ [] → ys = [] → Q (.ref a) H) ∧ (xs ≠ [] → ys ≠ [] → ∃ b : Bool, ∀ (p : Addr) (o : Obj), H p = none → o.dict = none → Q (.ref p) (upd H p (tupO b o (xs ++ ys))))
theorem op_catF : OpR X (binaryOp .Add) (rCatF X.K) := by
  intro pins s σ H x y v u Q I rx ry h
  obtain ⟨a, b, xs, ys, rfl, rfl, ha, hb, hz, q0, q1, q2⟩ := h
  by_cases hx : xs = []
  · exact op_catA pins s σ H _ _ v u Q I rx ry ⟨a, b, xs, ys, rfl, rfl, ha, hb, hz, q0, q1, fun z => absurd hx z⟩
  by_cases hy : ys = []
  · exact op_catA pins s σ H _ _ v u Q I rx ry ⟨a, b, xs, ys, rfl, rfl, ha, hb, hz, q0, q1, fun _ z => absurd hy z⟩
  cases rx
  cases ry
  obtain ⟨its, r1, p1, _⟩ := I.tuple ha
  obtain ⟨its2, r2, p2, _⟩ := I.tuple hb
  obtain ⟨bb, q2⟩ := q2 hx hy
  refine HT.cat_tup p1 p2 (fun z => hx (r1.nil_iff.mp z)) (fun z => absurd (r2.nil_iff.mp z) hy) (fun z => ?_) (by rw [← r1.length, ← r2.length]; exact hz)
  refine ⟨.ref s.heap.objs.size, _, I.laid (t' := s.toks) (o := tupO bb _ (xs ++ ys)) (fun b ob q => Heap.get?_push_of_some _ q) (Nat.le_refl _) (ok_tupO (Heap.get?_push_size _ rfl) ?_), rfl, q2 _ _ (I.hok.fresh (Nat.le_refl _)) rfl⟩
  exact ⟨by rw [List.length_append]; exact hz, _, r1.append r2, IsTup.new _ _⟩
/-- t[lo:hi] -/
def rSlF (K : Fg) : V → Option Int → Option Int → Hp → VK → Prop := fun x lo hi H Q => ∃ a xs, x = .ref a ∧ SqT K H a xs ∧
  (HT.sIx xs.length 0 lo = 0 ∧ HT.sIx xs.length xs.length hi = xs.length → Q (.ref a) H) ∧
  (¬ (HT.sIx xs.length 0 lo = 0 ∧ HT.sIx xs.length xs.length hi = xs.length) → ∃ b : Bool, ∀ (p : Addr) (o : Obj), H p = none → o.dict = none → Q (.ref p) (upd H p (tupO b o (cutV xs lo hi))))
theorem sl_tupF : SlR X (rSlF X.K) := by
  intro pins s σ H x v vl vu lo hi sl Q I rx hs pl pu h
  obtain ⟨a, xs, rfl, hx, q1, q2⟩ := h
  by_cases hw : HT.sIx xs.length 0 lo = 0 ∧ HT.sIx xs.length xs.length hi = xs.length
  · exact sl_tupA pins s σ H _ v vl vu lo hi sl Q I rx hs pl pu ⟨a, xs, rfl, hx, q1, fun z => absurd hw z⟩
  · obtain ⟨b, q⟩ := q2 hw
    cases rx
    obtain ⟨its, r, ht, hz⟩ := I.tuple hx
    have hlen : its.toArray.size = xs.length := by rw [List.size_toArray]; exact r.length.symm
    refine ⟨"tuple", _, PyProof.Rows.slot_tuple_getitem.lookup, ht.typeIs, ?_⟩
    refine HT.getItem_tuple_cut ht hs pl pu (by rw [hlen]; exact hw) ?_ (by rw [hlen]; exact hz)
    rw [hlen]
    refine ⟨.ref s.heap.objs.size, _, I.laid (t' := s.toks) (o := tupO b _ (cutV xs lo hi)) (fun b ob q => Heap.get?_push_of_some _ q) (Nat.le_refl _) (ok_tupO (Heap.get?_push_size _ rfl) ?_), rfl, q _ _ (I.hok.fresh (Nat.le_refl _)) rfl⟩
    exact ⟨Nat.le_trans (cutV_length xs lo hi) hz, _, (r.drop (HT.sIx xs.length 0 lo)).take (HT.sIx xs.length xs.length hi - HT.sIx xs.length 0 lo), IsTup.new _ _⟩
/-- tuple(xs) -/
theorem call_tupleF : CallR X (.type "tuple") (fun xs H Q => ∃ p ys, xs = [.ref p] ∧ ((SqL X.K H p ys ∧ ∃ b : Bool, ∀ (l : Addr) (o : Obj), H l = none → o.dict = none → Q (.ref l) (upd H l (tupO b o ys))) ∨ (SqT X.K H p ys ∧ Q (.ref p) H))) := by
  intro pins s σ H xs us Q I r h
  obtain ⟨p, ys, rfl, h⟩ := h
  rcases h with ⟨hq, b, q⟩ | ⟨hq, q⟩
  · obtain ⟨u, rfl, rx⟩ := vals1 r
    cases rx
    obtain ⟨its, r', pl, hz⟩ := I.list hq
    have hlen := r'.length
    refine call_tuple_list pl.isList (fun h' kp => ?_) (by simp only [List.size_toArray] <;> omega)
    have I1 : Inv X pins σ H { s with heap := h' } := I.kept (t' := s.toks) kp
    have I2 : Inv X pins σ (upd H h'.objs.size (tupO b { cls := .type "tuple", data := .seq its.toArray } ys)) { s with heap := h'.push { cls := .type "tuple", data := .seq its.toArray } } :=
      I1.laid (t' := s.toks) (fun b o e => Heap.get?_push_of_some _ e) (Nat.le_refl _) (ok_tupO (Heap.get?_push_size _ rfl) (show ObjOk X.prog X.w _ _ _ (.tup ys) from ⟨hz, its, r', IsTup.new _ _⟩))
    exact ⟨.ref h'.objs.size, _, I2, rfl, q _ _ (I1.hok.fresh (Nat.le_refl _)) rfl⟩
  · exact call_tuple_of pins s σ H _ us Q I r ⟨p, ys, rfl, .inr ⟨hq, q⟩⟩
end
end Mi
/-! text MiC -/
set_option Elab.async false
set_option linter.all false
set_option maxRecDepth 100000
set_option maxHeartbeats 4000000
/-! MiC: freezing; operators on data; names, constants, operators, comparisons. -/
namespace Mi
open PySem PySem.Spec PyProof.Rows L2

def fzV : EV → EV
  | .fr m => .d (snapM m)
  | e => e
section
variable {K : Fg} {W : WX} {P : Hp} {B : Nat → Option V} {G G' : Hp} {ρ : Env'} {σ : L2.St} {H H' : Hp} {F : Nat → List Addr}
theorem FRs.frozen : ∀ {kvs : List (Key × Fld)} {vs : List (Key × V)} {Fm : List Addr}, Same G G' → FRs K G H kvs vs Fm → (∀ a ∈ Fm, G' a = H a) → RDk K G' (kvs.map fun p => (kD p.1, fldD p.2)) vs
  | [], [], _, _, _, _ => .nil
  | (k, .d x) :: r, (k', v) :: s, Fm, e, h, hk => by
    obtain ⟨rfl, h1, h2⟩ := h
    exact .cons (h1.mono e) (FRs.frozen e h2 hk)
  | (k, .l xs) :: r, (k', v) :: s, Fm, e, h, hk => by
    obtain ⟨rfl, a, vs, F', rfl, rfl, h3, h4, h5⟩ := h
    exact .cons (.lst ((hk a List.mem_cons_self).trans h3) (h4.mono e)) (FRs.frozen e h5 fun b hb => hk b (List.mem_cons_of_mem _ hb))
theorem OR.frozen {m : MO} {w : V} {Fm : List Addr} (e : Same G G') (h : OR K G H m w Fm) (hk : ∀ a ∈ Fm, G' a = H a) : RD K G' (snapM m) w := by
  cases m with
  | lst xs =>
    obtain ⟨a, vs, rfl, rfl, h3, h4⟩ := h
    exact .lst ((hk a List.mem_cons_self).trans h3) (h4.mono e)
  | dk kvs =>
    obtain ⟨a, vs, rfl, rfl, h3, h4⟩ := h
    exact .dk ((hk a List.mem_cons_self).trans h3) (h4.mono e)
  | dn kvs =>
    obtain ⟨a, vs, F', rfl, rfl, _, h4, h5⟩ := h
    exact .dk ((hk a List.mem_cons_self).trans h4) (h5.frozen e fun b hb => hk b (List.mem_cons_of_mem _ hb))
  | dt kvs =>
    obtain ⟨a, vs, rfl, rfl, h3, h4⟩ := h
    exact .dt ((hk a List.mem_cons_self).trans h3) (h4.mono e)
/-- a new object is frozen; the heap stays -/
theorem freeze {m : MO} {w : V} {Fm : List Addr} (s : SRF K P B G ρ σ H F) (h : OR K G H m w Fm) (hf : ∀ a ∈ Fm, G a = none ∧ P a = none ∧ ∀ i, a ∉ F i) :
    ∃ G', Same G G' ∧ SRF K P B G' ρ σ H F ∧ RD K G' (snapM m) w := by
  have e : Same G (fun a => if a ∈ Fm then H a else G a) := fun b u q => by
    show (if b ∈ Fm then H b else G b) = some u
    by_cases hb : b ∈ Fm
    · rw [(hf b hb).1] at q; cases q
    · rw [if_neg hb]; exact q
  refine ⟨_, e, ⟨fun b u q => ?_, s.pre, s.len, fun i sv q => ?_, fun i a ha => ?_, s.dis, fun a ha => ?_⟩, h.frozen e fun a ha => if_pos ha⟩
  · by_cases hb : b ∈ Fm
    · have q' : (if b ∈ Fm then H b else G b) = some u := q
      rw [if_pos hb] at q'; exact q'
    · have q' : (if b ∈ Fm then H b else G b) = some u := q
      rw [if_neg hb] at q'; exact s.sub b u q'
  · obtain ⟨v, h1, h2, h3⟩ := s.slot i sv q
    exact ⟨v, h1, h2.keep e fun _ _ => rfl, h3⟩
  · obtain ⟨h1, h2, h3⟩ := s.fre i a ha
    refine ⟨?_, h2, h3⟩
    show (if a ∈ Fm then H a else G a) = none
    rw [if_neg fun hb => (hf a hb).2.2 i ha]; exact h1
  · show (if a ∈ Fm then H a else G a) = none
    rw [if_neg fun hb => ha (hf a hb).2.1]; exact s.pg a ha
theorem fz_ok {ev : EV} {w : V} (s : SRF K P B G ρ σ H F) (h : EvR K P G H σ F ev w) :
    ∃ G', Same G G' ∧ SRF K P B G' ρ σ H F ∧ EvR K P G' H σ F (fzV ev) w ∧ ∀ m, fzV ev ≠ .fr m := by
  cases ev with
  | d x => exact ⟨G, Same.refl _, s, h, fun m z => nomatch z⟩
  | al i => exact ⟨G, Same.refl _, s, h, fun m z => nomatch z⟩
  | fr m =>
    obtain ⟨Fm, h1, h2⟩ := h
    obtain ⟨G', e, s', r⟩ := freeze s h1 h2
    exact ⟨G', e, s', r, fun m z => nomatch z⟩

/-- what an operation may hand on: things grow, the value is new or frozen -/
def NewR (K : Fg) (H G' H' : Hp) : EV → V → Prop
  | .d x, w => RD K G' x w
  | .fr m, w => ∃ Fm, OR K G' H' m w Fm ∧ ∀ a ∈ Fm, G' a = none ∧ H a = none
  | .al _, _ => False
def Res (K : Fg) (G H : Hp) (ev : EV) (Q : VK) : Prop := ∀ w G' H', Grow G H G' H' → NewR K H G' H' ev w → Q w H'
theorem SRF.new {ev : EV} {w : V} (s : SRF K P B G ρ σ H F) (g : Grow G H G' H') (n : NewR K H G' H' ev w) : EvR K P G' H' σ F ev w := by
  cases ev with
  | d x => exact n
  | al i => exact n.elim
  | fr m =>
    obtain ⟨Fm, h1, h2⟩ := n
    refine ⟨Fm, h1, fun a ha => ⟨(h2 a ha).1, ?_, fun i hi => (s.fre i a hi).2.2 (h2 a ha).2⟩⟩
    cases q : P a with
    | none => rfl
    | some o =>
      have := s.pre a o q
      rw [(h2 a ha).2] at this; cases this
theorem res_of {ev : EV} {Q : VK} (s : SRF K P B G ρ σ H F) (h : Po (EvR K) K W P B G σ (.ok ev ρ) Q) : Res K G H ev Q :=
  fun w G' H' g n => h G' H' F w g.gg (s.grow g) (s.new g n)
theorem res_of' {o : Option EV} {Q : VK} (s : SRF K P B G ρ σ H F) (h : Po (EvR K) K W P B G σ (R.ofO o ρ) Q) : ∃ ev, o = some ev ∧ Res K G H ev Q := by
  cases o with
  | none => exact h.elim
  | some ev => exact ⟨ev, rfl, res_of s h⟩
theorem Res.same {d : D} {Q : VK} {w : V} (h : Res K G H (.d d) Q) (s : Same G H) (r : RD K G d w) : Q w H := h w G H (Grow.refl s) r
theorem Res.newT {ds : List D} {vs : List V} {Q : VK} {p : Addr} {ob : Obj} (h : Res K G H (.d (.tuple ds)) Q) (s : Same G H) (hp : H p = none) (ho : ob.dict = none) (r : RDs K G ds vs) : Q (.ref p) (upd H p (tupO (pairy ds) ob vs)) :=
  h _ (upd G p (tupO (pairy ds) ob vs)) _ (Grow.newG s hp) (.tup (.of ho upd_same) (r.mono (same_upd (s.free hp))))
theorem Res.newTp {ds : List D} {vs : List V} {Q : VK} {p : Addr} (h : Res K G H (.d (.tuple ds)) Q) (s : Same G H) (hp : H p = none) (hn : pairy ds = false) (r : RDs K G ds vs) : Q (.ref p) (upd H p (.tup vs)) :=
  h _ (upd G p (.tup vs)) _ (Grow.newG s hp) (.tup (.pl hn upd_same) (r.mono (same_upd (s.free hp))))
theorem Res.newL {ds : List D} {vs : List V} {Q : VK} {p : Addr} (h : Res K G H (.fr (.lst ds)) Q) (s : Same G H) (hp : H p = none) (r : RDs K G ds vs) : Q (.ref p) (upd H p (.lst vs)) :=
  h _ G _ (Grow.newH s hp) ⟨[p], ⟨p, vs, rfl, rfl, upd_same, r⟩, fun a ha => by rw [List.mem_singleton.mp ha]; exact ⟨s.free hp, hp⟩⟩
end

/-! ### operators on data -/
/-- a two-place operation computes f -/
def Op2 (X : Cx) (sem : Value → Value → Sem Value) (f : D → D → Option EV) : Prop :=
  ∃ r : R2, OpR X sem r ∧ ∀ (G H : Hp) (x y : V) (a b : D) (ev : EV) (Q : VK), Same G H → ShR X.K G H a x → ShR X.K G H b y → f a b = some ev → Res X.K G H ev Q → r x y H Q
def Op1 (X : Cx) (sem : Value → Sem Value) (f : D → Option EV) : Prop :=
  ∃ r : V → Hp → VK → Prop, UnR X sem r ∧ ∀ (G H : Hp) (x : V) (a : D) (ev : EV) (Q : VK), Same G H → ShR X.K G H a x → f a = some ev → Res X.K G H ev Q → r x H Q
def op2 (f : D → D → Option EV) (e1 e2 : EV) (ρ : Env') : R EV := R.ofO ((dV ρ (fzV e1)).bind fun a => (dV ρ e2).bind fun b => f a b) ρ
def mBin (f : D → D → Option EV) (m1 m2 : Env' → R EV) : Env' → R EV := fun ρ => (m1 ρ).bind fun e1 ρ1 => (m2 ρ1).bind fun e2 ρ2 => op2 f e1 e2 ρ2
def op1 (f : D → Option EV) (e1 : EV) (ρ : Env') : R EV := R.ofO ((dV ρ e1).bind f) ρ
def mUn (f : D → Option EV) (m1 : Env' → R EV) : Env' → R EV := fun ρ => (m1 ρ).bind fun e1 ρ1 => op1 f e1 ρ1

section
variable {X : Cx} {W : WX} {a b c : Expr} {m1 m2 m3 : Env' → R EV} {pos : Pos}
/-- two expressions, then a step on their data -/
theorem two_step {f : D → D → Option EV} {r : R2} (hr : ∀ (G H : Hp) (x y : V) (a b : D) (ev : EV) (Q : VK), Same G H → ShR X.K G H a x → ShR X.K G H b y → f a b = some ev → Res X.K G H ev Q → r x y H Q)
    {σ : L2.St} {H : Hp} {Q : VK} (h : tE X.K W (mBin f m1 m2) σ H Q) : tOp r (tE X.K W m1) (tE X.K W m2) σ H Q := by
  obtain ⟨P, B, G, ρ, F, s, h⟩ := h
  refine ⟨P, B, G, ρ, F, s, (Po.bind (rel := EvR X.K) h).imp fun x H1 ⟨G1, ρ1, F1, e1, _, s1, r1, h1⟩ => ?_⟩
  obtain ⟨G2, g2, s2, r2, n2⟩ := fz_ok s1 r1
  refine ⟨P, B, G2, ρ1, F1, s2, (Po.bind (rel := EvR X.K) (h1.mono g2)).imp fun y H3 ⟨G3, ρ3, F3, e3, g3, s3, r3, h3⟩ => ?_⟩
  have r2' := r2.mono n2 (H' := H3) (F' := F3) g3
  obtain ⟨ev, he, res⟩ := res_of' s3 h3
  cases q1 : dV ρ3 (fzV e1) with
  | none => rw [q1] at he; cases he
  | some d1 =>
    rw [q1] at he
    cases q2 : dV ρ3 e3 with
    | none => rw [q2] at he; cases he
    | some d2 =>
      rw [q2] at he
      exact hr G3 H3 x y d1 d2 ev Q s3.sub (.of s3 r2' q1) (.of s3 r3 q2) he res
theorem ae_bin {op : Operator} {f : D → D → Option EV} (ho : Op2 X (binaryOp op) f) (h1 : AE X W m1 a) (h2 : AE X W m2 b) : AE X W (mBin f m1 m2) (.BinOp a op b pos) := by
  obtain ⟨r, hr, hf⟩ := ho
  exact (pe_op hr h1 h2).imp fun σ H Q h => two_step hf h
theorem ae_un {op : UnaryOp} {f : D → Option EV} (ho : Op1 X (unaryOp op) f) (h1 : AE X W m1 a) : AE X W (mUn f m1) (.UnaryOp op a pos) := by
  obtain ⟨r, hr, hf⟩ := ho
  refine (pe_un hr h1).imp fun σ H Q h => ?_
  obtain ⟨P, B, G, ρ, F, s, h⟩ := h
  refine ⟨P, B, G, ρ, F, s, (Po.bind (rel := EvR X.K) h).imp fun x H1 ⟨G1, ρ1, F1, e1, _, s1, r1, h1⟩ => ?_⟩
  obtain ⟨ev, he, res⟩ := res_of' s1 h1
  cases q1 : dV ρ1 e1 with
  | none => rw [q1] at he; cases he
  | some d1 =>
    rw [q1] at he
    exact hf G1 H1 x d1 ev Q s1.sub (.of s1 r1 q1) he res
theorem ae_cmp {op : CmpOp} {f : D → D → Option EV} (ho : Op2 X (compareOp op) f) (h1 : AE X W m1 a) (h2 : AE X W m2 b) (hm : behindInMarks op b = false) : AE X W (mBin f m1 m2) (.Compare a [op] [b] pos) := by
  obtain ⟨r, hr, hf⟩ := ho
  exact (pe_cmpR hr h1 h2 hm).imp fun σ H Q h => two_step hf h

/-! ### tests -/
def evB : EV → Option Bool
  | .d (.bool b) => some b
  | _ => none
/-- a truth value as a test -/
def mTB (m : Env' → R EV) : Env' → R Bool := fun ρ => (m ρ).bind fun e ρ1 => R.ofO (evB e) ρ1
theorem tb_step {m : Env' → R EV} {σ : L2.St} {H : Hp} {Q : Bool → Hp → Prop} (h : tT X.K W (mTB m) σ H Q) : tE X.K W m σ H (fun x H' => ∃ k, x = .bl k ∧ Q k H') := by
  obtain ⟨P, B, G, ρ, F, s, h⟩ := h
  refine ⟨P, B, G, ρ, F, s, (Po.bind (rel := EvR X.K) h).imp fun x H1 ⟨G1, ρ1, F1, e1, _, s1, r1, h1⟩ => ?_⟩
  cases e1 with
  | d x' =>
    cases x' with
    | bool k => exact ⟨k, RD.ofBool r1, h1 G1 H1 F1 k (Same.refl _) s1 rfl⟩
    | _ => exact h1.elim
  | _ => exact h1.elim
theorem at_cmp {op : CmpOp} {f : D → D → Option EV} (ho : Op2 X (compareOp op) f) (h1 : AE X W m1 a) (h2 : AE X W m2 b) (hm : behindInMarks op b = false) : AT X W (mTB (mBin f m1 m2)) (.Compare a [op] [b] pos) := by
  obtain ⟨r, hr, hf⟩ := ho
  refine (pt_cmpR hr h1 h2 hm).imp fun σ H Q h => ?_
  exact two_step hf (tb_step h)
/-- a op b op' c -/
def mChain (f g : D → D → Option EV) (m1 m2 m3 : Env' → R EV) : Env' → R EV := fun ρ => (m1 ρ).bind fun e1 ρ1 => (m2 ρ1).bind fun e2 ρ2 =>
  match (dV ρ2 (fzV e1)).bind fun a => (dV ρ2 (fzV e2)).bind fun b => f a b with
  | some (.d (.bool true)) => (m3 ρ2).bind fun e3 ρ3 => op2 g (fzV e2) e3 ρ3
  | some (.d (.bool false)) => .ok (.d (.bool false)) ρ2
  | _ => .bad
theorem chain_step {f g : D → D → Option EV} {r r' : R2} (hr : ∀ (G H : Hp) (x y : V) (a b : D) (ev : EV) (Q : VK), Same G H → ShR X.K G H a x → ShR X.K G H b y → f a b = some ev → Res X.K G H ev Q → r x y H Q)
    (hr' : ∀ (G H : Hp) (x y : V) (a b : D) (ev : EV) (Q : VK), Same G H → ShR X.K G H a x → ShR X.K G H b y → g a b = some ev → Res X.K G H ev Q → r' x y H Q)
    {σ : L2.St} {H : Hp} {Q : VK} (h : tE X.K W (mChain f g m1 m2 m3) σ H Q) : tChain r r' (tE X.K W m1) (tE X.K W m2) (tE X.K W m3) σ H Q := by
  obtain ⟨P, B, G, ρ, F, s, h⟩ := h
  refine ⟨P, B, G, ρ, F, s, (Po.bind (rel := EvR X.K) h).imp fun x H1 ⟨G1, ρ1, F1, e1, _, s1, r1, h1⟩ => ?_⟩
  obtain ⟨G2, g2, s2, r2, n2⟩ := fz_ok s1 r1
  refine ⟨P, B, G2, ρ1, F1, s2, (Po.bind (rel := EvR X.K) (h1.mono g2)).imp fun y H3 ⟨G3, ρ3, F3, e3, g3, s3, r3, h3⟩ => ?_⟩
  have r2' := r2.mono n2 (H' := H3) (F' := F3) g3
  obtain ⟨G4, g4, s4, r4, n4⟩ := fz_ok s3 r3
  have r2'' := r2'.mono n2 (H' := H3) (F' := F3) g4
  have h4 := h3.mono g4
  cases q1 : dV ρ3 (fzV e1) with
  | none => simp only [q1] at h4; exact h4.elim
  | some d1 =>
    simp only [q1] at h4
    cases q2 : dV ρ3 (fzV e3) with
    | none => simp only [q2] at h4; exact h4.elim
    | some d2 =>
      simp only [q2] at h4
      have o1 := ShR.of s4 r2'' q1
      have o2 := ShR.of s4 r4 q2
      cases q3 : f d1 d2 with
      | none => simp only [q3, Option.bind_some] at h4; exact h4.elim
      | some ev =>
        simp only [q3, Option.bind_some] at h4
        cases ev with
        | al i => exact h4.elim
        | fr m => exact h4.elim
        | d z =>
          cases z with
          | bool k =>
            refine hr G4 H3 x y d1 d2 _ _ s4.sub o1 o2 q3 fun w G5 H5 g5 n5 => ⟨k, RD.ofBool n5, ?_⟩
            cases k with
            | true =>
              rw [if_pos rfl]
              have s5 := s4.grow g5
              have r5 : EvR X.K P G5 H5 σ F3 (fzV e3) y := r4.mono n4 g5.gg
              refine ⟨P, B, G5, ρ3, F3, s5, (Po.bind (rel := EvR X.K) (h4.mono g5.gg)).imp fun z H6 ⟨G6, ρ6, F6, e6, g6, s6, r6, h6⟩ => ?_⟩
              have r5' := r5.mono n4 (H' := H6) (F' := F6) g6
              obtain ⟨ev, he, res⟩ := res_of' s6 h6
              have ef : fzV (fzV e3) = fzV e3 := by cases e3 <;> rfl
              rw [ef] at he
              cases q5 : dV ρ6 (fzV e3) with
              | none => rw [q5] at he; cases he
              | some d5 =>
                rw [q5] at he
                cases q6 : dV ρ6 e6 with
                | none => rw [q6] at he; cases he
                | some d6 =>
                  rw [q6] at he
                  exact hr' G6 H6 y z d5 d6 ev Q s6.sub (.of s6 r5' q5) (.of s6 r6 q6) he res
            | false =>
              rw [if_neg Bool.false_ne_true]
              exact h4 G5 H5 F3 (.bl false) g5.gg (s4.grow g5) (.bl false)
          | _ => exact h4.elim
theorem ae_chain {op op' : CmpOp} {f g : D → D → Option EV} (ho : Op2 X (compareOp op) f) (ho' : Op2 X (compareOp op') g) (h1 : AE X W m1 a) (h2 : AE X W m2 b) (h3 : AE X W m3 c)
    (hm : lastMarks [op, op'] [b, c] = false := by with_unfolding_all rfl) : AE X W (mChain f g m1 m2 m3) (.Compare a [op, op'] [b, c] pos) := by
  obtain ⟨r, hr, hf⟩ := ho
  obtain ⟨r', hr', hf'⟩ := ho'
  exact (pe_chain hr hr' h1 h2 h3 hm).imp fun σ H Q h => chain_step hf hf' h
theorem at_chain {op op' : CmpOp} {f g : D → D → Option EV} (ho : Op2 X (compareOp op) f) (ho' : Op2 X (compareOp op') g) (h1 : AE X W m1 a) (h2 : AE X W m2 b) (h3 : AE X W m3 c)
    (hm : lastMarks [op, op'] [b, c] = false := by with_unfolding_all rfl) : AT X W (mTB (mChain f g m1 m2 m3)) (.Compare a [op, op'] [b, c] pos) := by
  obtain ⟨r, hr, hf⟩ := ho
  obtain ⟨r', hr', hf'⟩ := ho'
  exact (pt_chain hr hr' h1 h2 h3 hm).imp fun σ H Q h => chain_step hf hf' (tb_step h)

/-- truth of a datum -/
def truD : D → Option Bool
  | .none => some false
  | .bool b => some b
  | .int i => some (i != 0)
  | .str x => if x.length ≤ sizeLine then some ((x.length : Int) != 0) else none
  | .list xs => some (!xs.isEmpty)
  | .tuple xs => some (!xs.isEmpty)
  | .dict _ => none
def mTru (m : Env' → R EV) : Env' → R Bool := fun ρ => (m ρ).bind fun e ρ1 => R.ofO ((dV ρ1 e).bind truD) ρ1
theorem at_truth (h1 : AE X W m1 a) (he : ∀ whole, isTrue a X.env whole = (do let v ← whole; standAt a.pos; holding [v] (truthy v)) := by intro _; rfl) : AT X W (mTru m1) a := by
  refine (pt_truth h1 he).imp fun σ H Q h => ?_
  obtain ⟨P, B, G, ρ, F, s, h⟩ := h
  refine ⟨P, B, G, ρ, F, s, (Po.bind (rel := EvR X.K) h).imp fun x H1 ⟨G1, ρ1, F1, e1, _, s1, r1, h1⟩ => ?_⟩
  cases q1 : dV ρ1 e1 with
  | none => simp only [q1] at h1; exact h1.elim
  | some d =>
    simp only [q1, Option.bind_some] at h1
    have o := ShR.of s1 r1 q1
    cases q2 : truD d with
    | none => simp only [q2] at h1; exact h1.elim
    | some k =>
      simp only [q2] at h1
      refine ⟨k, ?_, h1 G1 H1 F1 k (Same.refl _) s1 rfl⟩
      cases d with
      | none => cases q2; rw [o.none]; rfl
      | bool b => cases q2; rw [o.bool]; rfl
      | int i => cases q2; rw [o.int]; rfl
      | str z =>
        rw [o.str]
        by_cases hz : z.length ≤ sizeLine
        · simp only [truD, if_pos hz] at q2
          cases q2
          exact ⟨hz, rfl⟩
        · simp only [truD, if_neg hz] at q2
          cases q2
      | list xs =>
        cases q2
        obtain ⟨p, vs, rfl, hp, hr⟩ := o.lst s1.sub
        exact .inl ⟨vs, SqL.of hp, by rw [hr.isEmpty]⟩
      | tuple xs =>
        cases q2
        obtain ⟨p, vs, rfl, hp, hr⟩ := o.tup
        exact .inr (.inl ⟨vs, (hp.mono s1.sub).sqT, by rw [hr.isEmpty]⟩)
      | dict _ => cases q2
def mNot (m : Env' → R Bool) : Env' → R Bool := fun ρ => (m ρ).bind fun b ρ1 => .ok (!b) ρ1
def mAnd (m n : Env' → R Bool) : Env' → R Bool := fun ρ => (m ρ).bind fun b ρ1 => if b then n ρ1 else .ok false ρ1
def mOr (m n : Env' → R Bool) : Env' → R Bool := fun ρ => (m ρ).bind fun b ρ1 => if b then .ok true ρ1 else n ρ1
def AW (X : Cx) (W : WX) (m : Env' → R Bool) (e : Expr) : Prop := PW X e (tT X.K W m)
theorem _root_.L2.PW.imp {e : Expr} {t t' : TT} (h : PW X e t) (w : ∀ σ H Q, t' σ H Q → t σ H Q) : PW X e t' := ⟨fun wh pins s σ H Q I q => h.run wh pins s σ H Q I (w σ H Q q)⟩
variable {n1 n2 : Env' → R Bool} {rest : List Expr}
theorem aw_and1 (h : AT X W n1 a) : AW X W n1 (.BoolOp .And [a] pos) := pw_and1 h
theorem aw_or1 (h : AT X W n1 a) : AW X W n1 (.BoolOp .Or [a] pos) := pw_or1 h
theorem AW.t {e : Expr} (h : AW X W n1 e) : AT X W n1 e := PW.pt h
theorem aw_and (h : AT X W n1 a) (h2 : AW X W n2 (.BoolOp .And (b :: rest) pos)) : AW X W (mAnd n1 n2) (.BoolOp .And (a :: b :: rest) pos) := by
  refine PW.imp (pw_and h h2) fun σ H Q h => ?_
  obtain ⟨P, B, G, ρ, F, s, h⟩ := h
  refine ⟨P, B, G, ρ, F, s, (Po.bind (rel := BoR) h).imp fun x H1 ⟨G1, ρ1, F1, e1, _, s1, r1, h1⟩ => ?_⟩
  subst r1
  cases e1 with
  | true => rw [if_pos rfl]; rw [if_pos rfl] at h1; exact ⟨P, B, G1, ρ1, F1, s1, h1⟩
  | false => rw [if_neg Bool.false_ne_true]; rw [if_neg Bool.false_ne_true] at h1; exact h1 G1 H1 F1 false (Same.refl _) s1 rfl
theorem aw_or (h : AT X W n1 a) (h2 : AW X W n2 (.BoolOp .Or (b :: rest) pos)) : AW X W (mOr n1 n2) (.BoolOp .Or (a :: b :: rest) pos) := by
  refine PW.imp (pw_or h h2) fun σ H Q h => ?_
  obtain ⟨P, B, G, ρ, F, s, h⟩ := h
  refine ⟨P, B, G, ρ, F, s, (Po.bind (rel := BoR) h).imp fun x H1 ⟨G1, ρ1, F1, e1, _, s1, r1, h1⟩ => ?_⟩
  subst r1
  cases e1 with
  | false => rw [if_neg Bool.false_ne_true]; rw [if_neg Bool.false_ne_true] at h1; exact ⟨P, B, G1, ρ1, F1, s1, h1⟩
  | true => rw [if_pos rfl]; rw [if_pos rfl] at h1; exact h1 G1 H1 F1 true (Same.refl _) s1 rfl
theorem at_not (h : AT X W n1 a) : AT X W (mNot n1) (.UnaryOp .Not a pos) := by
  refine PT.imp (pt_not h) fun σ H Q h => ?_
  obtain ⟨P, B, G, ρ, F, s, h⟩ := h
  refine ⟨P, B, G, ρ, F, s, (Po.bind (rel := BoR) h).imp fun x H1 ⟨G1, ρ1, F1, e1, _, s1, r1, h1⟩ => ?_⟩
  subst r1
  exact h1 G1 H1 F1 _ (Same.refl _) s1 rfl
/-- as values: truth values alone -/
def mAndV (m n : Env' → R EV) : Env' → R EV := fun ρ => (m ρ).bind fun e ρ1 => match evB e with
  | some true => n ρ1
  | some false => .ok (.d (.bool false)) ρ1
  | none => .bad
def mOrV (m n : Env' → R EV) : Env' → R EV := fun ρ => (m ρ).bind fun e ρ1 => match evB e with
  | some true => .ok (.d (.bool true)) ρ1
  | some false => n ρ1
  | none => .bad
def mNotV (m : Env' → R EV) : Env' → R EV := fun ρ => (m ρ).bind fun e ρ1 => match evB e with
  | some b => .ok (.d (.bool (!b))) ρ1
  | none => .bad
theorem evB_some {e : EV} {b : Bool} (h : evB e = some b) : e = .d (.bool b) := by
  cases e with
  | d x =>
    cases x with
    | bool c => cases h; rfl
    | _ => cases h
  | _ => cases h
theorem ae_one {op : BoolOp} (h : AE X W m1 a) : AE X W m1 (.BoolOp op [a] pos) := pe_one h
theorem ae_and (h : AE X W m1 a) (h2 : AE X W m2 (.BoolOp .And (b :: rest) pos)) : AE X W (mAndV m1 m2) (.BoolOp .And (a :: b :: rest) pos) := by
  refine PE.imp (pe_and h h2) fun σ H Q h => ?_
  obtain ⟨P, B, G, ρ, F, s, h⟩ := h
  refine ⟨P, B, G, ρ, F, s, (Po.bind (rel := EvR X.K) h).imp fun x H1 ⟨G1, ρ1, F1, e1, _, s1, r1, h1⟩ => ?_⟩
  cases q : evB e1 with
  | none => simp only [q] at h1; exact h1.elim
  | some k =>
    simp only [q] at h1
    rw [evB_some q] at r1
    refine ⟨k, RD.ofBool r1, ?_⟩
    cases k with
    | true => rw [if_pos rfl]; exact ⟨P, B, G1, ρ1, F1, s1, h1⟩
    | false => rw [if_neg Bool.false_ne_true]; exact h1 G1 H1 F1 _ (Same.refl _) s1 (.bl false)
theorem ae_or (h : AE X W m1 a) (h2 : AE X W m2 (.BoolOp .Or (b :: rest) pos)) : AE X W (mOrV m1 m2) (.BoolOp .Or (a :: b :: rest) pos) := by
  refine PE.imp (pe_or h h2) fun σ H Q h => ?_
  obtain ⟨P, B, G, ρ, F, s, h⟩ := h
  refine ⟨P, B, G, ρ, F, s, (Po.bind (rel := EvR X.K) h).imp fun x H1 ⟨G1, ρ1, F1, e1, _, s1, r1, h1⟩ => ?_⟩
  cases q : evB e1 with
  | none => simp only [q] at h1; exact h1.elim
  | some k =>
    simp only [q] at h1
    rw [evB_some q] at r1
    refine ⟨k, RD.ofBool r1, ?_⟩
    cases k with
    | false => rw [if_neg Bool.false_ne_true]; exact ⟨P, B, G1, ρ1, F1, s1, h1⟩
    | true => rw [if_pos rfl]; exact h1 G1 H1 F1 _ (Same.refl _) s1 (.bl true)
theorem ae_not (h : AE X W m1 a) : AE X W (mNotV m1) (.UnaryOp .Not a pos) := by
  refine PE.imp (pe_not h) fun σ H Q h => ?_
  obtain ⟨P, B, G, ρ, F, s, h⟩ := h
  refine ⟨P, B, G, ρ, F, s, (Po.bind (rel := EvR X.K) h).imp fun x H1 ⟨G1, ρ1, F1, e1, _, s1, r1, h1⟩ => ?_⟩
  cases q : evB e1 with
  | none => simp only [q] at h1; exact h1.elim
  | some k =>
    simp only [q] at h1
    rw [evB_some q] at r1
    exact ⟨k, RD.ofBool r1, h1 G1 H1 F1 _ (Same.refl _) s1 (.bl _)⟩
def mIf (t : Env' → R Bool) (m n : Env' → R EV) : Env' → R EV := fun ρ => (t ρ).bind fun b ρ1 => if b then m ρ1 else n ρ1
theorem ae_if (h : AT X W n1 c) (h1 : AE X W m1 a) (h2 : AE X W m2 b) : AE X W (mIf n1 m1 m2) (.IfExp c a b pos) := by
  refine PE.imp (pe_ifExp h h1 h2) fun σ H Q h => ?_
  obtain ⟨P, B, G, ρ, F, s, h⟩ := h
  refine ⟨P, B, G, ρ, F, s, (Po.bind (rel := BoR) h).imp fun x H1 ⟨G1, ρ1, F1, e1, _, s1, r1, h1⟩ => ?_⟩
  subst r1
  cases e1 with
  | true => rw [if_pos rfl]; rw [if_pos rfl] at h1; exact ⟨P, B, G1, ρ1, F1, s1, h1⟩
  | false => rw [if_neg Bool.false_ne_true]; rw [if_neg Bool.false_ne_true] at h1; exact ⟨P, B, G1, ρ1, F1, s1, h1⟩

/-! ### names and constants -/
def getV (i : Nat) (ρ : Env') : R EV := match ρ[i]? with
  | some (some (.d x)) => .ok (.d x) ρ
  | some (some _) => .ok (.al i) ρ
  | _ => .bad
theorem ae_var (i : Nat) {x : Str} (hN : X.N[i]? = some x := by rfl) (hv : Vis X.env.scope x := by first | exact Or.inl rfl | exact Or.inr (Or.inl rfl) | exact Or.inr (Or.inr rfl)) (hd : (x == ("__debug__" : Str)) = false := by decide)
    (hcd : (x == ("__classdict__" : Str)) = false := by decide) : AE X W (getV i) (.Name x pos) := by
  refine PE.imp (pe_var hN hv hd hcd) fun σ H Q h => ?_
  obtain ⟨P, B, G, ρ, F, s, h⟩ := h
  unfold getV at h
  cases q : ρ[i]? with
  | none => simp only [q] at h; exact h.elim
  | some o =>
    cases o with
    | none => simp only [q] at h; exact h.elim
    | some sv =>
      obtain ⟨v, h1, h2, _⟩ := s.slot i sv q
      refine ⟨v, h1, ?_⟩
      cases sv with
      | d y => simp only [q] at h; exact h G H F v (Same.refl _) s h2.1
      | o y => simp only [q] at h; exact h G H F v (Same.refl _) s h1
      | b y => simp only [q] at h; exact h G H F v (Same.refl _) s h1
      | scr y => simp only [q] at h; exact h G H F v (Same.refl _) s h1
def cst (d : D) : Env' → R EV := fun ρ => .ok (.d d) ρ
theorem ae_cst {e : Expr} {d : D} {v : V} (h : PE X e (tC v)) (r : ∀ G, RD X.K G d v) : AE X W (cst d) e := by
  refine PE.imp h fun σ H Q h => ?_
  obtain ⟨P, B, G, ρ, F, s, h⟩ := h
  exact h G H F v (Same.refl _) s (r G)
theorem ae_int {i : Int} {j} : AE X W (cst (.int i)) (.Constant (.int i) j pos) := ae_cst pe_int fun _ => .int i
theorem ae_bl {b : Bool} {j} : AE X W (cst (.bool b)) (.Constant (.bool b) j pos) := ae_cst pe_bl fun _ => .bl b
theorem ae_non {j} : AE X W (cst .none) (.Constant .none j pos) := ae_cst pe_non fun _ => .non
theorem ae_str {x : Str} {j} : AE X W (cst (.str x)) (.Constant (.str x) j pos) := ae_cst pe_str fun _ => .str x
/-- a constant of the module -/
theorem ae_glob {x : Str} {d : D} {v : V} {u : Value} (hg : Gl X x) (hm : X.mg x = some u) (r : RelV v u) (rd : ∀ G, RD X.K G d v) (hd : (x == ("__debug__" : Str)) = false := by decide) : AE X W (cst d) (.Name x pos) :=
  ae_cst (pe_glob hg hm r hd) rd
end
end Mi
/-! text MiD -/
set_option Elab.async false
set_option linter.all false
set_option maxRecDepth 100000
set_option maxHeartbeats 4000000
/-! MiD: the operators. -/
namespace Mi
open PySem PySem.Spec PyProof.Rows L2

/-! ### whole numbers, texts, sequences -/
def fAdd : D → D → Option EV
  | .int i, .int j => some (.d (.int (i + j)))
  | .str x, .str y => if x.length + y.length ≤ sizeLine then some (.d (.str (x ++ y))) else none
  | .tuple xs, .tuple ys => if xs.length + ys.length ≤ sizeLine then some (.d (.tuple (xs ++ ys))) else none
  | .list xs, .list ys => if xs.length + ys.length ≤ sizeLine then some (.fr (.lst (xs ++ ys))) else none
  | _, _ => none
def fSub : D → D → Option EV
  | .int i, .int j => some (.d (.int (i - j)))
  | _, _ => none
def fMul : D → D → Option EV
  | .int i, .int j => if (-(2 ^ 64) < i ∧ i < 2 ^ 64) ∨ (-(2 ^ 64) < j ∧ j < 2 ^ 64) then some (.d (.int (i * j))) else none
  | _, _ => none
def fDiv : D → D → Option EV
  | .int i, .int j => if 0 < j ∧ j < 1073741824 then some (.d (.int (i / j))) else none
  | _, _ => none
def fMod : D → D → Option EV
  | .int i, .int j => if 0 < j then some (.d (.int (i % j))) else none
  | _, _ => none
def fPow : D → D → Option EV
  | .int i, .int j => if 0 ≤ j ∧ j ≤ 1000000 ∧ i.natAbs < 2 ^ 64 then some (.d (.int (i ^ j.toNat))) else none
  | _, _ => none
def fShl : D → D → Option EV
  | .int i, .int j => if 0 ≤ j ∧ j ≤ 1000000 ∧ i.natAbs < 2 ^ 64 then some (.d (.int (i * 2 ^ j.toNat))) else none
  | _, _ => none
def fCmp (p : Int → Int → Bool) : D → D → Option EV
  | .int i, .int j => some (.d (.bool (p i j)))
  | _, _ => none
abbrev fLt := fCmp fun i j => decide (i < j)
abbrev fLe := fCmp fun i j => decide (i ≤ j)
abbrev fGt := fCmp fun i j => decide (j < i)
abbrev fGe := fCmp fun i j => decide (j ≤ i)
def fNeg : D → Option EV
  | .int i => some (.d (.int (-i)))
  | _ => none
section
variable {X : Cx}
theorem o_cmp {op : CmpOp} {p : Int → Int → Bool} (h : OpR X (compareOp op) (rI0 fun i j => .bl (p i j))) : Op2 X (compareOp op) (fCmp p) := by
  refine ⟨_, h, fun G H x y a b ev Q s ha hb e res => ?_⟩
  cases a <;> cases b <;> first
    | (cases e; rw [ha.int, hb.int]; exact ⟨_, _, rfl, rfl, res.same s (.bl _)⟩)
    | cases e
theorem o_lt : Op2 X (compareOp .Lt) fLt := o_cmp op_lt
theorem o_le : Op2 X (compareOp .LtE) fLe := o_cmp op_le
theorem o_gt : Op2 X (compareOp .Gt) fGt := o_cmp op_gt
theorem o_ge : Op2 X (compareOp .GtE) fGe := o_cmp op_ge
theorem o_sub : Op2 X (binaryOp .Sub) fSub := by
  refine ⟨_, op_sub, fun G H x y a b ev Q s ha hb e res => ?_⟩
  cases a <;> cases b <;> first
    | (cases e; rw [ha.int, hb.int]; exact ⟨_, _, rfl, rfl, res.same s (.int _)⟩)
    | cases e
theorem o_intC {op : Operator} {C : Int → Int → Prop} {g : Int → Int → Int} {f : D → D → Option EV} (h : OpR X (binaryOp op) (rI C fun i j => .int (g i j)))
    (hf : ∀ a b ev, f a b = some ev → ∃ i j, a = .int i ∧ b = .int j ∧ C i j ∧ ev = .d (.int (g i j))) : Op2 X (binaryOp op) f := by
  refine ⟨_, h, fun G H x y a b ev Q s ha hb e res => ?_⟩
  obtain ⟨i, j, rfl, rfl, hc, rfl⟩ := hf a b ev e
  rw [ha.int, hb.int]
  exact ⟨_, _, rfl, rfl, hc, res.same s (.int _)⟩
theorem o_mul : Op2 X (binaryOp .Mult) fMul := o_intC op_mul fun a b ev e => by
  unfold fMul at e
  split at e
  · split at e
    · rename_i hc
      cases e; exact ⟨_, _, rfl, rfl, hc, rfl⟩
    · cases e
  · cases e
theorem o_div : Op2 X (binaryOp .FloorDiv) fDiv := o_intC op_fdiv fun a b ev e => by
  unfold fDiv at e
  split at e
  · split at e
    · rename_i hc
      cases e; exact ⟨_, _, rfl, rfl, hc, rfl⟩
    · cases e
  · cases e
theorem o_mod : Op2 X (binaryOp .Mod) fMod := o_intC op_mod fun a b ev e => by
  unfold fMod at e
  split at e
  · split at e
    · rename_i hc
      cases e; exact ⟨_, _, rfl, rfl, hc, rfl⟩
    · cases e
  · cases e
theorem o_pow : Op2 X (binaryOp .Pow) fPow := o_intC op_pow fun a b ev e => by
  unfold fPow at e
  split at e
  · split at e
    · rename_i hc
      cases e; exact ⟨_, _, rfl, rfl, hc, rfl⟩
    · cases e
  · cases e
theorem o_shl : Op2 X (binaryOp .LShift) fShl := o_intC op_shl fun a b ev e => by
  unfold fShl at e
  split at e
  · split at e
    · rename_i hc
      cases e; exact ⟨_, _, rfl, rfl, hc, rfl⟩
    · cases e
  · cases e
theorem o_neg : Op1 X (unaryOp .USub) fNeg := by
  refine ⟨_, un_neg, fun G H x a ev Q s ha e res => ?_⟩
  cases a <;> first
    | (cases e; rw [ha.int]; exact ⟨_, rfl, res.same s (.int _)⟩)
    | cases e
theorem o_add : Op2 X (binaryOp .Add) fAdd := by
  refine ⟨_, op_add.or (op_add_str.or (op_catF.or op_cat)), fun G H x y a b ev Q s ha hb e res => ?_⟩
  cases a <;> cases b <;> first
    | (cases e; done)
    | skip
  · cases e; rw [ha.int, hb.int]; exact .inl ⟨_, _, rfl, rfl, res.same s (.int _)⟩
  · rename_i p q
    unfold fAdd at e
    by_cases hz : p.length + q.length ≤ sizeLine
    · simp only [if_pos hz] at e; cases e
      rw [ha.str, hb.str]; exact .inr (.inl ⟨_, _, rfl, rfl, hz, res.same s (.str _)⟩)
    · simp only [if_neg hz] at e; cases e
  · rename_i p q
    unfold fAdd at e
    by_cases hz : p.length + q.length ≤ sizeLine
    · simp only [if_pos hz] at e; cases e
      obtain ⟨l, vs, rfl, hl, hr⟩ := ha.lst s
      obtain ⟨l', vs', rfl, hl', hr'⟩ := hb.lst s
      exact .inr (.inr (.inr ⟨l, l', vs, vs', rfl, rfl, hl, hl', by rw [hr.length, hr'.length]; exact hz, fun p hp => res.newL s hp (hr.append hr')⟩))
    · simp only [if_neg hz] at e; cases e
  · rename_i p q
    unfold fAdd at e
    by_cases hz : p.length + q.length ≤ sizeLine
    · simp only [if_pos hz] at e; cases e
      obtain ⟨l, vs, rfl, hl, hr⟩ := ha.tup
      obtain ⟨l', vs', rfl, hl', hr'⟩ := hb.tup
      refine .inr (.inr (.inl ⟨l, l', vs, vs', rfl, rfl, (hl.mono s).sqT, (hl'.mono s).sqT, by rw [hr.length, hr'.length]; exact hz, fun e0 => ?_, fun _ e0 => ?_, fun _ _ => ⟨_, fun p o hp ho => res.newT s hp ho (hr.append hr')⟩⟩))
      · have r2 := hr.append hr'
        subst e0
        cases hr
        exact res.same s (.tup hl' r2)
      · subst e0
        cases hr'
        rw [List.append_nil] at res
        exact res.same s (.tup hl hr)
    · simp only [if_neg hz] at e; cases e
end

/-! ### equality -/
section
variable {X : Cx} {G H : Hp}
mutual
theorem RD.dp {K : Fg} (s : Same G H) : ∀ {d : D} {v : V}, RD K G d v → d.canLay0 = true → Dp K H v d
  | _, _, .non, _ => .non
  | _, _, .bl b, _ => .bl b
  | _, _, .int i, _ => .int i
  | _, _, .str x, _ => .str x
  | _, _, .lst h r, e => .lst (SqL.of (s _ _ h)) (RDs.dp s r e)
  | _, _, .tup h r, e => .tup (h.mono s).sqT (RDs.dp s r e)
  | _, _, .dk h r, e => nomatch e
  | _, _, .dt h r, e => nomatch e
theorem RDs.dp {K : Fg} (s : Same G H) : ∀ {ds : List D} {vs : List V}, RDs K G ds vs → PyData.canLayAll0 ds = true → DpAll K H vs ds
  | _, _, .nil, _ => .nil
  | _, _, .cons (d := d) (ds := ds) h r, e => by
    have e' : (d.canLay0 && PyData.canLayAll0 ds) = true := e
    rw [Bool.and_eq_true] at e'
    exact .cons (RD.dp s h e'.1) (RDs.dp s r e'.2)
end
theorem ShR.dp {K : Fg} (s : Same G H) {d : D} {w : V} (h : ShR K G H d w) (e : d.canLay0 = true) : Dp K H w d := by
  cases h with
  | d h => exact h.dp s e
  | l h1 h2 => exact .lst (SqL.of h1) (h2.dp s e)
  | k h1 h2 => exact nomatch e
  | t h1 h2 => exact nomatch e
end
def D.isSc : D → Bool
  | .none => true
  | .bool _ => true
  | .int _ => true
  | .str _ => true
  | _ => false
def eqG (a b : D) : Option Bool := if (a.canLay0 && b.canLay0 && decide (min a.depth b.depth ≤ 2000)) = true then some (PyData.eqv a b) else none
def eqO : D → D → Option Bool
  | .list xs, .list ys => if (xs.isEmpty || ys.isEmpty) = true then some (xs.isEmpty && ys.isEmpty) else eqG (.list xs) (.list ys)
  | .tuple xs, .tuple ys => if (xs.isEmpty || ys.isEmpty) = true then some (xs.isEmpty && ys.isEmpty) else eqG (.tuple xs) (.tuple ys)
  | .none, .none => some true
  | .none, .bool _ => some false
  | .none, .int _ => some false
  | .none, .str _ => some false
  | .none, .list _ => some false
  | .none, .tuple _ => some false
  | .bool _, .none => some false
  | .bool a, .bool b => some (a == b)
  | .bool a, .int j => some ((if a then 1 else 0) == j)
  | .bool _, .str _ => some false
  | .bool _, .list _ => some false
  | .bool _, .tuple _ => some false
  | .int _, .none => some false
  | .int i, .bool b => some (i == (if b then 1 else 0))
  | .int i, .int j => some (i == j)
  | .int _, .str _ => some false
  | .int _, .list _ => some false
  | .int _, .tuple _ => some false
  | .str _, .none => some false
  | .str _, .bool _ => some false
  | .str _, .int _ => some false
  | .str x, .str y => some (x == y)
  | .str _, .list _ => some false
  | .str _, .tuple _ => some false
  | .list _, .none => some false
  | .list _, .bool _ => some false
  | .list _, .int _ => some false
  | .list _, .str _ => some false
  | .list _, .tuple _ => some false
  | .tuple _, .none => some false
  | .tuple _, .bool _ => some false
  | .tuple _, .int _ => some false
  | .tuple _, .str _ => some false
  | .tuple _, .list _ => some false
  | .dict _, _ => none
  | _, .dict _ => none
def fEq (a b : D) : Option EV := (eqO a b).map fun k => .d (.bool k)
def fNe (a b : D) : Option EV := (eqO a b).map fun k => .d (.bool !k)
section
variable {X : Cx} {G H : Hp} {pins : List (Addr × Obj)} {σ : L2.St} {s : Shared}
open SeqAt in
theorem eq_at (hu : X.A.units + 2100 < cLine) (I : Inv X pins σ H s) (sm : Same G H) {a b : D} {x y : V} {v u : Value} {k : Bool} (ha : ShR X.K G H a x) (hb : ShR X.K G H b y) (rx : RelV x v) (ry : RelV y u) (e : eqO a b = some k) :
    RcAt X.A s v u k ∧ RcNeAt X.A s v u (!k) := by
  have hu0 : X.A.units < cLine := by omega
  have gen : ∀ {a b : D}, ShR X.K G H a x → ShR X.K G H b y → eqG a b = some k → RcAt X.A s v u k ∧ RcNeAt X.A s v u (!k) := fun {a b} ha hb e => by
    unfold eqG at e
    split at e
    · rename_i hc
      cases e
      simp only [Bool.and_eq_true, decide_eq_true_eq] at hc
      obtain ⟨as, r1⟩ := Dp.reads I _ _ _ (ha.dp sm hc.1.1) rx
      obtain ⟨bs, r2⟩ := Dp.reads I _ _ _ (hb.dp sm hc.1.2) ry
      exact ⟨rcAt_reads r1 r2 hc.1.1 hc.1.2 (by omega), rcNeAt_reads r1 r2 hc.1.1 hc.1.2 (by omega)⟩
    · cases e
  have lst : ∀ {xs : List D} {x : V} {v : Value}, ShR X.K G H (.list xs) x → RelV x v → ∃ (l : Addr) (its : List Value), v = .ref l ∧ s.heap.IsList l its.toArray ∧ its.length = xs.length := fun {xs x v} h r => by
    obtain ⟨l, vs, rfl, hl, hr⟩ := h.lst sm
    cases r
    obtain ⟨its, rv, pl, hz⟩ := I.list (SqL.of (K := X.K) hl)
    exact ⟨l, its, rfl, pl.isList, rv.length.symm.trans hr.length⟩
  have tup : ∀ {xs : List D} {x : V} {v : Value}, ShR X.K G H (.tuple xs) x → RelV x v → ∃ (l : Addr) (its : List Value), v = .ref l ∧ s.heap.IsTuple l its.toArray ∧ its.length = xs.length := fun {xs x v} h r => by
    obtain ⟨l, vs, rfl, hl, hr⟩ := h.tup
    cases r
    obtain ⟨its, rv, pl, hz⟩ := I.tuple (hl.mono sm).sqT
    exact ⟨l, its, rfl, pl, rv.length.symm.trans hr.length⟩
  cases a with
  | none =>
    rw [ha.none] at rx; cases rx
    cases b with
    | none => rw [hb.none] at ry; cases ry; cases e; exact ⟨.none_none, .none_none⟩
    | bool c => rw [hb.bool] at ry; cases ry; cases e; exact ⟨.none_bool _, .none_bool _⟩
    | int j => rw [hb.int] at ry; obtain ⟨t, rfl⟩ := ry; cases e; exact ⟨.none_int _ _, .none_int _ _⟩
    | str j => rw [hb.str] at ry; obtain ⟨t, rfl⟩ := ry; cases e; exact ⟨.none_str _ _, .none_str _ _⟩
    | list ys => obtain ⟨l, its, rfl, h, _⟩ := lst hb ry; cases e; exact ⟨.none_list h hu0, .none_list h hu0⟩
    | tuple ys => obtain ⟨l, its, rfl, h, _⟩ := tup hb ry; cases e; exact ⟨.none_tuple h hu0, .none_tuple h hu0⟩
    | dict _ => cases e
  | bool i =>
    rw [ha.bool] at rx; cases rx
    cases b with
    | none => rw [hb.none] at ry; cases ry; cases e; exact ⟨.bool_none _, .bool_none _⟩
    | bool c => rw [hb.bool] at ry; cases ry; cases e; exact ⟨.bool_bool _ _, .bool_bool _ _⟩
    | int j => rw [hb.int] at ry; obtain ⟨t, rfl⟩ := ry; cases e; exact ⟨.bool_int _ _ _, .bool_int _ _ _⟩
    | str j => rw [hb.str] at ry; obtain ⟨t, rfl⟩ := ry; cases e; exact ⟨.bool_str _ _ _, .bool_str _ _ _⟩
    | list ys => obtain ⟨l, its, rfl, h, _⟩ := lst hb ry; cases e; exact ⟨.bool_list _ h hu0, .bool_list _ h hu0⟩
    | tuple ys => obtain ⟨l, its, rfl, h, _⟩ := tup hb ry; cases e; exact ⟨.bool_tuple _ h hu0, .bool_tuple _ h hu0⟩
    | dict _ => cases e
  | int i =>
    rw [ha.int] at rx; obtain ⟨t0, rfl⟩ := rx
    cases b with
    | none => rw [hb.none] at ry; cases ry; cases e; exact ⟨.int_none _ _, .int_none _ _⟩
    | bool c => rw [hb.bool] at ry; cases ry; cases e; exact ⟨.int_bool _ _ _, .int_bool _ _ _⟩
    | int j => rw [hb.int] at ry; obtain ⟨t, rfl⟩ := ry; cases e; exact ⟨.int_int _ _ _ _, .int_int _ _ _ _⟩
    | str j => rw [hb.str] at ry; obtain ⟨t, rfl⟩ := ry; cases e; exact ⟨.int_str _ _ _ _, .int_str _ _ _ _⟩
    | list ys => obtain ⟨l, its, rfl, h, _⟩ := lst hb ry; cases e; exact ⟨.int_list _ _ h hu0, .int_list _ _ h hu0⟩
    | tuple ys => obtain ⟨l, its, rfl, h, _⟩ := tup hb ry; cases e; exact ⟨.int_tuple _ _ h hu0, .int_tuple _ _ h hu0⟩
    | dict _ => cases e
  | str i =>
    rw [ha.str] at rx; obtain ⟨t0, rfl⟩ := rx
    cases b with
    | none => rw [hb.none] at ry; cases ry; cases e; exact ⟨.str_none _ _, .str_none _ _⟩
    | bool c => rw [hb.bool] at ry; cases ry; cases e; exact ⟨.str_bool _ _ _, .str_bool _ _ _⟩
    | int j => rw [hb.int] at ry; obtain ⟨t, rfl⟩ := ry; cases e; exact ⟨.str_int _ _ _ _, .str_int _ _ _ _⟩
    | str j => rw [hb.str] at ry; obtain ⟨t, rfl⟩ := ry; cases e; exact ⟨.str_str _ _ _ _, .str_str _ _ _ _⟩
    | list ys => obtain ⟨l, its, rfl, h, _⟩ := lst hb ry; cases e; exact ⟨.str_list _ _ h hu0, .str_list _ _ h hu0⟩
    | tuple ys => obtain ⟨l, its, rfl, h, _⟩ := tup hb ry; cases e; exact ⟨.str_tuple _ _ h hu0, .str_tuple _ _ h hu0⟩
    | dict _ => cases e
  | list xs =>
    obtain ⟨l, its, hv, h, hn⟩ := lst ha rx
    cases b with
    | none => rw [hb.none] at ry; cases ry; cases e; rw [hv]; exact ⟨.list_none h hu0, .list_none h hu0⟩
    | bool c => rw [hb.bool] at ry; cases ry; cases e; rw [hv]; exact ⟨.list_bool _ h hu0, .list_bool _ h hu0⟩
    | int j => rw [hb.int] at ry; obtain ⟨t, rfl⟩ := ry; cases e; rw [hv]; exact ⟨.list_int _ _ h hu0, .list_int _ _ h hu0⟩
    | str j => rw [hb.str] at ry; obtain ⟨t, rfl⟩ := ry; cases e; rw [hv]; exact ⟨.list_str _ _ h hu0, .list_str _ _ h hu0⟩
    | list ys =>
      obtain ⟨l', its', hv', h', hn'⟩ := lst hb ry
      have e : (if (xs.isEmpty || ys.isEmpty) = true then some (xs.isEmpty && ys.isEmpty) else eqG (.list xs) (.list ys)) = some k := e
      split at e
      · rename_i hc
        cases e
        rw [hv, hv']
        cases its with
        | nil =>
          have hxs : xs = [] := List.eq_nil_of_length_eq_zero hn.symm
          subst hxs
          cases its' with
          | nil =>
            have hys : ys = [] := List.eq_nil_of_length_eq_zero hn'.symm
            subst hys
            exact ⟨RcAt.lists (e := fun _ => true) h h' rfl hu0 fun j h1 => absurd h1 (Nat.not_lt_zero _), RcNeAt.lists (e := fun _ => true) h h' rfl hu0 fun j h1 => absurd h1 (Nat.not_lt_zero _)⟩
          | cons z zs =>
            cases ys with
            | nil => cases hn'
            | cons y ys => exact ⟨RcAt.lists_lengths h h' (by simp) hu0, RcNeAt.lists_lengths h h' (by simp) hu0⟩
        | cons z zs =>
          cases xs with
          | nil => cases hn
          | cons x xs =>
            cases ys with
            | cons y ys => cases hc
            | nil =>
              cases its' with
              | cons _ _ => cases hn'
              | nil => exact ⟨RcAt.lists_lengths h h' (by simp) hu0, RcNeAt.lists_lengths h h' (by simp) hu0⟩
      · exact gen ha hb e
    | tuple ys => obtain ⟨l', its', hv', h', _⟩ := tup hb ry; cases e; rw [hv, hv']; exact ⟨.list_tuple h h' hu0, .list_tuple h h' hu0⟩
    | dict _ => cases e
  | tuple xs =>
    obtain ⟨l, its, hv, h, hn⟩ := tup ha rx
    cases b with
    | none => rw [hb.none] at ry; cases ry; cases e; rw [hv]; exact ⟨.tuple_none h hu0, .tuple_none h hu0⟩
    | bool c => rw [hb.bool] at ry; cases ry; cases e; rw [hv]; exact ⟨.tuple_bool _ h hu0, .tuple_bool _ h hu0⟩
    | int j => rw [hb.int] at ry; obtain ⟨t, rfl⟩ := ry; cases e; rw [hv]; exact ⟨.tuple_int _ _ h hu0, .tuple_int _ _ h hu0⟩
    | str j => rw [hb.str] at ry; obtain ⟨t, rfl⟩ := ry; cases e; rw [hv]; exact ⟨.tuple_str _ _ h hu0, .tuple_str _ _ h hu0⟩
    | list ys => obtain ⟨l', its', hv', h', _⟩ := lst hb ry; cases e; rw [hv, hv']; exact ⟨.tuple_list h h' hu0, .tuple_list h h' hu0⟩
    | tuple ys =>
      obtain ⟨l', its', hv', h', hn'⟩ := tup hb ry
      have e : (if (xs.isEmpty || ys.isEmpty) = true then some (xs.isEmpty && ys.isEmpty) else eqG (.tuple xs) (.tuple ys)) = some k := e
      split at e
      · rename_i hc
        cases e
        rw [hv, hv']
        have no : ∀ j (h1 : j < its.toArray.size) (h2 : j < its'.toArray.size), False := fun j h1 h2 => by
          rw [List.size_toArray] at h1 h2
          cases xs with
          | nil => rw [hn] at h1; exact Nat.not_lt_zero _ h1
          | cons x xs =>
            cases ys with
            | nil => rw [hn'] at h2; exact Nat.not_lt_zero _ h2
            | cons y ys => cases hc
        have ek : ((List.range (min its.toArray.size its'.toArray.size)).all (fun _ => true) && its.toArray.size == its'.toArray.size) = (xs.isEmpty && ys.isEmpty) := by
          rw [List.size_toArray, List.size_toArray, hn, hn']
          cases xs with
          | nil => cases ys <;> simp
          | cons x xs =>
            cases ys with
            | nil => simp
            | cons y ys => cases hc
        rw [← ek]
        exact ⟨RcAt.tuples (e := fun _ => true) h h' hu0 fun j h1 h2 => (no j h1 h2).elim, RcNeAt.tuples (e := fun _ => true) h h' hu0 fun j h1 h2 => (no j h1 h2).elim⟩
      · exact gen ha hb e
    | dict _ => cases e
  | dict _ => cases e
def rEqM (X : Cx) (neg : Bool) : R2 := fun x y H Q => ∃ G a b k, Same G H ∧ ShR X.K G H a x ∧ ShR X.K G H b y ∧ eqO a b = some k ∧ Q (.bl (if neg then !k else k)) H
theorem op_eqM (hu : X.A.units + 2100 < cLine) : OpR X (compareOp .Eq) (rEqM X false) := by
  intro pins s σ H x y v u Q I rx ry ⟨G, a, b, k, sm, ha, hb, e, q⟩
  exact (eq_at hu I sm ha hb rx ry e).1 _ _ _ _ ⟨.bl k, H, I, rfl, q⟩
theorem op_neM (hu : X.A.units + 2100 < cLine) : OpR X (compareOp .NotEq) (rEqM X true) := by
  intro pins s σ H x y v u Q I rx ry ⟨G, a, b, k, sm, ha, hb, e, q⟩
  exact (eq_at hu I sm ha hb rx ry e).2 _ _ _ _ ⟨.bl (!k), H, I, rfl, q⟩
theorem o_eq (hu : X.A.units + 2100 < cLine) : Op2 X (compareOp .Eq) fEq := by
  refine ⟨_, op_eqM hu, fun G H x y a b ev Q s ha hb e res => ?_⟩
  unfold fEq at e
  cases q : eqO a b with
  | none => rw [q] at e; cases e
  | some k => rw [q] at e; cases e; exact ⟨G, a, b, k, s, ha, hb, q, res.same s (.bl k)⟩
theorem o_ne (hu : X.A.units + 2100 < cLine) : Op2 X (compareOp .NotEq) fNe := by
  refine ⟨_, op_neM hu, fun G H x y a b ev Q s ha hb e res => ?_⟩
  unfold fNe at e
  cases q : eqO a b with
  | none => rw [q] at e; cases e
  | some k => rw [q] at e; cases e; exact ⟨G, a, b, k, s, ha, hb, q, res.same s (.bl _)⟩
/-- is None, is not None (the right one written None), is True .. -/
def isNonD : D → Bool
  | .none => true
  | _ => false
def fIs : D → D → Option EV
  | a, .none => some (.d (.bool (isNonD a)))
  | .bool a, .bool b => some (.d (.bool (a == b)))
  | _, _ => none
def fIsNot : D → D → Option EV
  | a, .none => some (.d (.bool (!isNonD a)))
  | .bool a, .bool b => some (.d (.bool (a != b)))
  | _, _ => none
theorem ShR.non_iff {K : Fg} {a : D} {x : V} (h : ShR K G H a x) : decide (x = .non) = isNonD a := by
  cases h with
  | d h => cases h <;> simp [isNonD]
  | _ => simp [isNonD]
theorem o_is : Op2 X (compareOp .Is) fIs := by
  refine ⟨_, op_isN.or op_is_bl, fun G H x y a b ev Q s ha hb e res => ?_⟩
  cases b with
  | none =>
    have e' : EV.d (.bool (isNonD a)) = ev := by cases a <;> exact Option.some.inj e
    subst e'
    refine .inl ⟨hb.none, ?_⟩
    rw [ha.non_iff]
    exact res.same s (.bl _)
  | bool c =>
    cases a with
    | bool b =>
      cases e
      rw [ha.bool, hb.bool]
      refine .inr ⟨_, _, rfl, rfl, ?_⟩
      have e2 : decide (b = c) = (b == c) := by cases b <;> cases c <;> rfl
      rw [e2]
      exact res.same s (.bl _)
    | _ => cases e
  | _ => cases a <;> cases e
theorem o_isnot : Op2 X (compareOp .IsNot) fIsNot := by
  refine ⟨_, op_notN.or op_isnot_bl, fun G H x y a b ev Q s ha hb e res => ?_⟩
  cases b with
  | none =>
    have e' : EV.d (.bool (!isNonD a)) = ev := by cases a <;> exact Option.some.inj e
    subst e'
    refine .inl ⟨hb.none, ?_⟩
    rw [ha.non_iff]
    exact res.same s (.bl _)
  | bool c =>
    cases a with
    | bool b =>
      cases e
      rw [ha.bool, hb.bool]
      refine .inr ⟨_, _, rfl, rfl, ?_⟩
      have e2 : (!decide (b = c)) = (b != c) := by cases b <;> cases c <;> rfl
      rw [e2]
      exact res.same s (.bl _)
    | _ => cases e
  | _ => cases a <;> cases e
end
end Mi
/-! text MiE -/
set_option Elab.async false
set_option linter.all false
set_option maxRecDepth 100000
set_option maxHeartbeats 4000000
/-! MiE: arguments, displays, subscripts, slices, built-in calls. -/
namespace Mi
open PySem PySem.Spec PyProof.Rows L2

/-! ### lists of values -/
def dVs (ρ : Env') : List EV → Option (List D)
  | [] => some []
  | e :: es => (dV ρ e).bind fun d => (dVs ρ es).bind fun ds => some (d :: ds)
inductive ShRs (K : Fg) (G H : Hp) : List D → List V → Prop
  | nil : ShRs K G H [] []
  | cons {d : D} {w : V} {ds : List D} {ws : List V} : ShR K G H d w → ShRs K G H ds ws → ShRs K G H (d :: ds) (w :: ws)
/-- all are data -/
def evDs : List EV → Option (List D)
  | [] => some []
  | .d x :: es => (evDs es).bind fun ds => some (x :: ds)
  | _ :: _ => none
section
variable {K : Fg} {W : WX} {P : Hp} {B : Nat → Option V} {G G' : Hp} {ρ : Env'} {σ : L2.St} {H H' : Hp} {F F' : Nat → List Addr}
theorem EvRs.nil : EvRs K P G H σ F [] [] := ⟨rfl, fun i ev w h => by simp at h⟩
theorem EvRs.cons {e : EV} {w : V} {es : List EV} {ws : List V} (h : EvR K P G H σ F e w) (n : ∀ m, e ≠ .fr m) (r : EvRs K P G H σ F es ws) : EvRs K P G H σ F (e :: es) (w :: ws) := by
  refine ⟨by simp [r.1], fun i ev u h1 h2 => ?_⟩
  cases i with
  | zero => simp at h1 h2; subst h1 h2; exact ⟨n, h⟩
  | succ i => exact r.2 i ev u (by simpa using h1) (by simpa using h2)
theorem EvRs.head {e : EV} {w : V} {es : List EV} {ws : List V} (r : EvRs K P G H σ F (e :: es) (w :: ws)) : EvR K P G H σ F e w ∧ (∀ m, e ≠ .fr m) ∧ EvRs K P G H σ F es ws := by
  obtain ⟨h1, h2⟩ := r.2 0 e w rfl rfl
  exact ⟨h2, h1, by simpa using r.1, fun i ev u a b => r.2 (i + 1) ev u (by simpa using a) (by simpa using b)⟩
theorem EvRs.mono {es : List EV} {ws : List V} (r : EvRs K P G H σ F es ws) (e : Same G G') : EvRs K P G' H' σ F' es ws :=
  ⟨r.1, fun i ev w h1 h2 => ⟨(r.2 i ev w h1 h2).1, (r.2 i ev w h1 h2).2.mono (r.2 i ev w h1 h2).1 e⟩⟩
theorem EvRs.append {es es' : List EV} {ws ws' : List V} (r : EvRs K P G H σ F es ws) (r' : EvRs K P G H σ F es' ws') : EvRs K P G H σ F (es ++ es') (ws ++ ws') := by
  refine ⟨by simp [r.1, r'.1], fun i ev w h1 h2 => ?_⟩
  by_cases hi : i < es.length
  · rw [List.getElem?_append_left hi] at h1
    rw [List.getElem?_append_left (by rw [← r.1]; exact hi)] at h2
    exact r.2 i ev w h1 h2
  · rw [List.getElem?_append_right (by omega)] at h1
    rw [List.getElem?_append_right (by rw [← r.1]; omega), ← r.1] at h2
    exact r'.2 _ ev w h1 h2
theorem EvRs.ofDs : ∀ {ds : List D} {ws : List V}, RDs K G ds ws → EvRs K P G H σ F (ds.map .d) ws
  | _, _, .nil => EvRs.nil
  | _, _, .cons h r => EvRs.cons (e := .d _) h (fun m z => nomatch z) (EvRs.ofDs r)
theorem EvRs.ds : ∀ {es : List EV} {ws : List V} {ds : List D}, EvRs K P G H σ F es ws → evDs es = some ds → RDs K G ds ws
  | [], [], ds, _, e => by cases e; exact .nil
  | [], _ :: _, ds, r, e => absurd r.1 (by simp)
  | .d x :: es, [], ds, r, e => absurd r.1 (by simp)
  | .d x :: es, w :: ws, ds, r, e => by
    obtain ⟨h1, h2, h3⟩ := r.head
    unfold evDs at e
    cases q : evDs es with
    | none => rw [q] at e; cases e
    | some ds' => rw [q] at e; cases e; exact .cons h1 (EvRs.ds h3 q)
  | .al i :: es, ws, ds, r, e => by cases e
  | .fr m :: es, ws, ds, r, e => by cases e
theorem EvRs.sh : ∀ {es : List EV} {ws : List V} {ds : List D}, SRF K P B G ρ σ H F → EvRs K P G H σ F es ws → dVs ρ es = some ds → ShRs K G H ds ws
  | [], [], ds, _, _, e => by cases e; exact .nil
  | [], _ :: _, ds, _, r, e => absurd r.1 (by simp)
  | _ :: _, [], ds, _, r, e => absurd r.1 (by simp)
  | ev :: es, w :: ws, ds, s, r, e => by
    obtain ⟨h1, h2, h3⟩ := r.head
    unfold dVs at e
    cases q : dV ρ ev with
    | none => rw [q] at e; cases e
    | some d =>
      cases q2 : dVs ρ es with
      | none => rw [q, q2] at e; cases e
      | some ds' => rw [q, q2] at e; cases e; exact .cons (.of s h1 q) (EvRs.sh s h3 q2)
end
def aNil : Env' → R (List EV) := fun ρ => .ok [] ρ
def aCons (m : Env' → R EV) (ms : Env' → R (List EV)) : Env' → R (List EV) := fun ρ => (m ρ).bind fun e ρ1 => (ms ρ1).bind fun es ρ2 => .ok (fzV e :: es) ρ2
/-- *e: the items of a tuple or list -/
def starD : D → Option (List D)
  | .list xs => some xs
  | .tuple xs => some xs
  | _ => none
def aStar (m : Env' → R EV) (ms : Env' → R (List EV)) : Env' → R (List EV) := fun ρ => (m ρ).bind fun e ρ1 => match (dV ρ1 e).bind starD with
  | some xs => (ms ρ1).bind fun es ρ2 => .ok (xs.map .d ++ es) ρ2
  | none => .bad
section
variable {X : Cx} {W : WX} {e o : Expr} {es : List Expr} {m m1 m2 : Env' → R EV} {ms : Env' → R (List EV)} {pos p : Pos}
theorem aa_nil : AA X W aNil [] := pa_nil.imp fun σ H Q ⟨P, B, G, ρ, F, s, h⟩ => h G H F [] (Same.refl _) s EvRs.nil
theorem aa_cons (h1 : AE X W m e) (h2 : AA X W ms es) (hs : starEach (e :: es) X.env = (false, eval e X.env) :: starEach es X.env := by rfl) : AA X W (aCons m ms) (e :: es) := by
  refine (pa_cons h1 h2 hs).imp fun σ H Q h => ?_
  obtain ⟨P, B, G, ρ, F, s, h⟩ := h
  refine ⟨P, B, G, ρ, F, s, (Po.bind (rel := EvR X.K) h).imp fun x H1 ⟨G1, ρ1, F1, e1, _, s1, r1, h1⟩ => ?_⟩
  obtain ⟨G2, g2, s2, r2, n2⟩ := fz_ok s1 r1
  refine ⟨P, B, G2, ρ1, F1, s2, (Po.bind (rel := EvRs X.K) (h1.mono g2)).imp fun ys H3 ⟨G3, ρ3, F3, e3, g3, s3, r3, h3⟩ => ?_⟩
  exact h3 G3 H3 F3 (x :: ys) (Same.refl _) s3 (EvRs.cons (r2.mono n2 g3) n2 r3)
theorem aa_star (h1 : AE X W m e) (h2 : AA X W ms es) (hs : starEach (.Starred e p :: es) X.env = (true, eval e X.env) :: starEach es X.env := by rfl) : AA X W (aStar m ms) (.Starred e p :: es) := by
  refine (StX.pa_star h1 h2 hs).imp fun σ H Q h => ?_
  obtain ⟨P, B, G, ρ, F, s, h⟩ := h
  refine ⟨P, B, G, ρ, F, s, (Po.bind (rel := EvR X.K) h).imp fun x H1 ⟨G1, ρ1, F1, e1, _, s1, r1, h1⟩ => ?_⟩
  cases q : dV ρ1 e1 with
  | none => simp only [q, Option.bind_none] at h1; exact h1.elim
  | some d =>
    simp only [q, Option.bind_some] at h1
    have o := ShR.of s1 r1 q
    have go : ∀ (p : Addr) (xs : List D) (vs : List V), x = .ref p → (SqT X.K H1 p vs ∨ SqL X.K H1 p vs) → RDs X.K G1 xs vs → starD d = some xs →
        ∃ p xs, x = V.ref p ∧ (SqT X.K H1 p xs ∨ SqL X.K H1 p xs) ∧ tA X.K W ms σ H1 fun ys H2 => Q (xs ++ ys) H2 := fun p xs vs ex hq hr es' => by
      refine ⟨p, vs, ex, hq, ?_⟩
      simp only [es'] at h1
      refine ⟨P, B, G1, ρ1, F1, s1, (Po.bind (rel := EvRs X.K) h1).imp fun ys H3 ⟨G3, ρ3, F3, e3, g3, s3, r3, h3⟩ => ?_⟩
      exact h3 G3 H3 F3 (vs ++ ys) (Same.refl _) s3 ((EvRs.ofDs (hr.mono g3)).append r3)
    cases d with
    | list xs => obtain ⟨p, vs, ex, hp, hr⟩ := o.lst s1.sub; exact go p xs vs ex (.inr (SqL.of hp)) hr rfl
    | tuple xs => obtain ⟨p, vs, ex, hp, hr⟩ := o.tup; exact go p xs vs ex (.inl (hp.mono s1.sub).sqT) hr rfl
    | _ => exact h1.elim

/-! ### displays -/
def mTup (ms : Env' → R (List EV)) : Env' → R EV := fun ρ => (ms ρ).bind fun es ρ1 => R.ofO ((evDs es).bind fun ds => if ds.length ≤ sizeLine then some (.d (.tuple ds)) else none) ρ1
def mLst (ms : Env' → R (List EV)) : Env' → R EV := fun ρ => (ms ρ).bind fun es ρ1 => R.ofO ((evDs es).bind fun ds => if ds.length ≤ sizeLine then some (.fr (.lst ds)) else none) ρ1
theorem ae_tup {k} (h : AA X W ms es) : AE X W (mTup ms) (.Tuple es k pos) := by
  refine (pe_tupF h).imp fun σ H Q h => ?_
  obtain ⟨P, B, G, ρ, F, s, h⟩ := h
  refine ⟨P, B, G, ρ, F, s, (Po.bind (rel := EvRs X.K) h).imp fun xs H1 ⟨G1, ρ1, F1, e1, _, s1, r1, h1⟩ => ?_⟩
  cases q : evDs e1 with
  | none => simp only [q] at h1; exact h1.elim
  | some ds =>
    have hr := r1.ds q
    simp only [q, Option.bind_some] at h1
    by_cases hz : ds.length ≤ sizeLine
    · rw [if_pos hz] at h1
      exact ⟨by rw [hr.length]; exact hz, _, fun p o hp ho => (res_of s1 h1).newT s1.sub hp ho hr⟩
    · rw [if_neg hz] at h1; exact h1.elim
theorem ae_lst (h : AA X W ms es) : AE X W (mLst ms) (.List es pos) := by
  refine (pe_lst h).imp fun σ H Q h => ?_
  obtain ⟨P, B, G, ρ, F, s, h⟩ := h
  refine ⟨P, B, G, ρ, F, s, (Po.bind (rel := EvRs X.K) h).imp fun xs H1 ⟨G1, ρ1, F1, e1, _, s1, r1, h1⟩ => ?_⟩
  cases q : evDs e1 with
  | none => simp only [q] at h1; exact h1.elim
  | some ds =>
    have hr := r1.ds q
    simp only [q, Option.bind_some] at h1
    by_cases hz : ds.length ≤ sizeLine
    · rw [if_pos hz] at h1
      exact ⟨by rw [hr.length]; exact hz, fun p hp => (res_of s1 h1).newL s1.sub hp hr⟩
    · rw [if_neg hz] at h1; exact h1.elim
end

/-! ### dicts looked into -/
def atomK : D → Option Key
  | .int i => some (.inl i)
  | .str x => some (.inr x)
  | _ => none
def atomKs0 : List D → Option (List Key)
  | [] => some []
  | d :: ds => (atomK d).bind fun k => (atomKs0 ds).bind fun ks => some (k :: ks)
/-- a tuple's keys; a tuple that may be a module's constant is none -/
def atomKs (ds : List D) : Option (List Key) := if constB ds = true then none else atomKs0 ds
theorem atomK_kD {d : D} {k : Key} (h : atomK d = some k) : d = kD k := by
  cases d <;> first | (cases h; rfl) | cases h
theorem atomKs0_kD : ∀ {ds : List D} {ks : List Key}, atomKs0 ds = some ks → ds = ks.map kD
  | [], ks, h => by cases h; rfl
  | d :: ds, ks, h => by
    unfold atomKs0 at h
    cases q : atomK d with
    | none => rw [q] at h; cases h
    | some k =>
      cases q2 : atomKs0 ds with
      | none => rw [q, q2] at h; cases h
      | some ks' => rw [q, q2] at h; cases h; rw [atomK_kD q, atomKs0_kD q2]; rfl
theorem atomKs_kD {ds : List D} {ks : List Key} (h : atomKs ds = some ks) : ds = ks.map kD := by
  unfold atomKs at h
  split at h
  · cases h
  · exact atomKs0_kD h
theorem atom_nopair : ∀ (ks : List Key), pairy (ks.map kD) = false
  | [] => rfl
  | k :: ks => by cases k <;> rfl
theorem TupG.key {K : Fg} {G : Hp} {a : Addr} {vs : List V} {ds : List D} {ks : List Key} (q : atomKs ds = some ks) : TupG K G a vs ds → G a = some (.tup vs)
  | .pl _ h => h
  | .fz p _ _ => by rw [atomKs_kD q, atom_nopair] at p; cases p
  | .kk c _ _ _ _ _ => by unfold atomKs at q; rw [if_pos c] at q; cases q
/-- a dict's own entries and whether its keys are tuples -/
def dRows : List (D × D) → Bool × List (D × D)
  | (.none, .none) :: r => (true, r)
  | r => (false, r)
/-- what stands under a key (none: not known; some none: nothing) -/
def dGet (kvs : List (D × D)) (key : D) : Option (Option D) :=
  match kvs, key with
  | (.none, .none) :: r, .tuple ks => (atomKs ks).map fun _ => (r.find? fun p => PyData.eqv p.1 key).map (·.2)
  | (.none, .none) :: _, _ => none
  | r, .int _ => some ((r.find? fun p => PyData.eqv p.1 key).map (·.2))
  | r, .str _ => some ((r.find? fun p => PyData.eqv p.1 key).map (·.2))
  | _, _ => none
theorem eqv_kD (a b : Key) : PyData.eqv (kD a) (kD b) = decide (a = b) := by
  cases a <;> cases b
  · rename_i i j
    rw [key_ll] <;> rfl
  · rw [key_lr] <;> rfl
  · rw [key_rl] <;> rfl
  · rename_i x y
    show (x == y) = _
    rw [key_rr]
    by_cases h : x = y
    · subst h; simp
    · rw [decide_eq_false h]; exact beq_eq_false_iff_ne.mpr h
theorem eqvAll_kD : ∀ (a b : List Key), PyData.eqvAll (a.map kD) (b.map kD) = decide (a = b)
  | [], [] => rfl
  | [], _ :: _ => rfl
  | _ :: _, [] => rfl
  | a :: as, b :: bs => by
    show (PyData.eqv (kD a) (kD b) && PyData.eqvAll (as.map kD) (bs.map kD)) = _
    rw [eqv_kD, eqvAll_kD as bs]
    by_cases h : a = b
    · subst h
      by_cases h2 : as = bs
      · subst h2; simp
      · simp [h2]
    · simp [h]
section
variable {K : Fg} {G H : Hp}
theorem RDk.val : ∀ {kvs : List (D × D)} {vs : List (Key × V)} (k : Key), RDk K G kvs vs → match (kvs.find? fun p => PyData.eqv p.1 (kD k)).map (·.2) with
    | some d => ∃ v, valV vs k = some v ∧ RD K G d v
    | none => valV vs k = none
  | _, _, k, .nil => rfl
  | _, _, k, .cons (k := k') (d := d) (v := v) h r => by
    rw [List.find?_cons, eqv_kD]
    by_cases e : k' = k
    · subst e
      rw [decide_eq_true rfl]
      exact ⟨v, valV_pos rfl, h⟩
    · rw [decide_eq_false e, valV_neg (p := (k', v)) e]
      exact RDk.val k r
theorem RDt.val : ∀ {kvs : List (D × D)} {vs : List (List Key × V)} (k : List Key), RDt K G kvs vs → match (kvs.find? fun p => PyData.eqv p.1 (.tuple (k.map kD))).map (·.2) with
    | some d => ∃ v, valV vs k = some v ∧ RD K G d v
    | none => valV vs k = none
  | _, _, k, .nil => rfl
  | _, _, k, .cons (k := k') (d := d) (v := v) h r => by
    rw [List.find?_cons]
    have e0 : PyData.eqv (.tuple (k'.map kD)) (.tuple (k.map kD)) = decide (k' = k) := eqvAll_kD k' k
    rw [e0]
    by_cases e : k' = k
    · subst e
      rw [decide_eq_true rfl]
      exact ⟨v, valV_pos rfl, h⟩
    · rw [decide_eq_false e, valV_neg (p := (k', v)) e]
      exact RDt.val k r
theorem RDk.nn : ∀ {kvs : List (D × D)} {vs : List (Key × V)}, RDk K G kvs vs → ∀ (b : D) (t : List (D × D)), kvs ≠ (.none, b) :: t
  | _, _, .nil, b, t, e => by cases e
  | _, _, .cons (k := k) h r, b, t, e => by
    have e2 := congrArg (fun l : List (D × D) => l.head?.map (·.1)) e
    cases k <;> simp [kD] at e2
/-- a dict that is read -/
theorem ShR.dict {kvs : List (D × D)} {w : V} (s : Same G H) (h : ShR K G H (.dict kvs) w) : ∃ a, w = .ref a ∧
    ((∃ vs, H a = some (.dK vs) ∧ RDk K G kvs vs) ∨ ∃ r vs, kvs = (.none, .none) :: r ∧ H a = some (.dT vs) ∧ RDt K G r vs) := by
  cases h with
  | d h =>
    cases h with
    | dk h1 h2 => exact ⟨_, rfl, .inl ⟨_, s _ _ h1, h2⟩⟩
    | dt h1 h2 => exact ⟨_, rfl, .inr ⟨_, _, rfl, s _ _ h1, h2⟩⟩
  | k h1 h2 => exact ⟨_, rfl, .inl ⟨_, h1, h2⟩⟩
  | t h1 h2 => exact ⟨_, rfl, .inr ⟨_, _, rfl, h1, h2⟩⟩
theorem kD_RD {k : Key} {v : V} (h : RD K G (kD k) v) : v = kV k := by
  cases k with
  | inl i => exact h.ofInt
  | inr x => exact h.ofStr
theorem kDs_RD : ∀ {ks : List Key} {vs : List V}, RDs K G (ks.map kD) vs → vs = ks.map kV
  | [], vs, h => by cases h; rfl
  | k :: ks, vs, h => by
    cases h with
    | cons h1 h2 => rw [kD_RD h1, kDs_RD h2]; rfl
/-- the look-up, as the rules ask it; a key's tuple must be a tracked one -/
theorem dGet_ok {kvs : List (D × D)} {key : D} {w y : V} {o : Option D} (s : Same G H) (h : ShR K G H (.dict kvs) w) (hk : ShR K G H key y) (e : dGet kvs key = some o) : ∃ a, w = .ref a ∧ match o with
      | some d => ∃ v, DGet H a y (some v) ∧ RD K G d v
      | none => DGet H a y none := by
  obtain ⟨a, rfl, q⟩ := h.dict s
  refine ⟨a, rfl, ?_⟩
  rcases q with ⟨vs, hv, hr⟩ | ⟨r, vs, rfl, hv, hr⟩
  · have nn : ∀ b r, kvs ≠ (.none, b) :: r := hr.nn
    have go : ∀ (k : Key), key = kD k → o = (kvs.find? fun p => PyData.eqv p.1 (kD k)).map (·.2) → match o with
      | some d => ∃ v, DGet H a y (some v) ∧ RD K G d v
      | none => DGet H a y none := fun k ek eo => by
      have hy : y = kV k := by
        subst ek
        cases k with
        | inl i => exact hk.int
        | inr x => exact hk.str
      have z := hr.val k
      rw [← eo] at z
      have g := DGet.k (H := H) (k := k) hv
      rw [hy]
      cases o with
      | some d =>
        obtain ⟨v, z1, z2⟩ := z
        rw [z1] at g
        exact ⟨v, g, z2⟩
      | none =>
        rw [z] at g
        exact g
    cases key with
    | int i =>
      refine go (.inl i) rfl ?_
      cases kvs with
      | nil => cases e; rfl
      | cons p t =>
        obtain ⟨p1, p2⟩ := p
        cases p1 with
        | none => exact absurd rfl (nn p2 t)
        | _ => cases e; rfl
    | str x =>
      refine go (.inr x) rfl ?_
      cases kvs with
      | nil => cases e; rfl
      | cons p t =>
        obtain ⟨p1, p2⟩ := p
        cases p1 with
        | none => exact absurd rfl (nn p2 t)
        | _ => cases e; rfl
    | _ =>
      cases kvs with
      | nil => cases e
      | cons p t =>
        obtain ⟨p1, p2⟩ := p
        cases p1 with
        | none => exact absurd rfl (nn p2 t)
        | _ => cases e
  · cases key with
    | tuple ks =>
      cases q : atomKs ks with
      | none =>
        have e' : (atomKs ks).map (fun _ => (r.find? fun p => PyData.eqv p.1 (.tuple ks)).map (·.2)) = some o := e
        rw [q] at e'; cases e'
      | some kk =>
        have e' : (atomKs ks).map (fun _ => (r.find? fun p => PyData.eqv p.1 (.tuple ks)).map (·.2)) = some o := e
        rw [q] at e'
        have eo := Option.some.inj e'
        have ek := atomKs_kD q
        subst ek
        obtain ⟨b, us, rfl, hb0, hbr⟩ := hk.tup
        have hb := hb0.key q
        have eus := kDs_RD hbr
        subst eus
        have z := hr.val kk
        have eo : (r.find? fun p => PyData.eqv p.1 (.tuple (kk.map kD))).map (·.2) = o := eo
        rw [eo] at z
        have g := DGet.t (H := H) (k := kk) hv (s _ _ hb)
        cases o with
        | some d =>
          obtain ⟨v, z1, z2⟩ := z
          rw [z1] at g
          exact ⟨v, g, z2⟩
        | none =>
          rw [z] at g
          exact g
    | _ => cases e
end

/-! ### subscripts -/
def fIx : D → D → Option EV
  | .list xs, .int i => (atI xs i).map .d
  | .tuple xs, .int i => (atI xs i).map .d
  | .str z, .int i => if z.length ≤ sizeLine then (atI z.cps.toList i).map fun c => .d (.str ⟨#[c]⟩) else none
  | .dict kvs, k => match dGet kvs k with
    | some (some d) => some (.d d)
    | _ => none
  | _, _ => none
theorem RDs.atI {K : Fg} {G : Hp} {ds : List D} {vs : List V} {i : Int} {d : D} (r : RDs K G ds vs) (h : atI ds i = some d) : ∃ v, L2.atI vs i = some v ∧ RD K G d v := by
  unfold L2.atI at h ⊢
  rw [r.length]
  cases q : ixN ds.length i with
  | none => rw [q] at h; cases h
  | some j =>
    rw [q] at h
    exact r.get h
section
variable {X : Cx}
/-- a[b], by values -/
def rDG (X : Cx) : R2 := fun x y H Q => ∃ a v, x = .ref a ∧ DGet H a y (some v) ∧ Q v H
theorem ix_dict (hu : X.A.units + 1 < cLine) : IxR X (rDG X) := by
  intro value slice pins s σ H x y v u Q I rx ry ⟨a, z, ex, g, q⟩ hs
  subst ex
  obtain rfl : v = Value.ref a := rx
  exact tail_any (dict_typeIs I g) PySem.F.slot_dict_getitem.lookup (d_getItem hu I g ry fun w' s3 I3 rw' => ⟨z, H, I3, rw', q⟩) hs
theorem ix_ok (hu : X.A.units + 1 < cLine) {G H : Hp} {x y : V} {a b : D} {ev : EV} {Q : VK} (s : Same G H) (ha : ShR X.K G H a x) (hb : ShR X.K G H b y) (e : fIx a b = some ev) (res : Res X.K G H ev Q) : rIx X.K x y H Q ∨ rDG X x y H Q := by
  cases a with
  | list xs =>
    cases b with
    | int i =>
      have e' : (atI xs i).map EV.d = some ev := e
      cases q : atI xs i with
      | none => rw [q] at e'; cases e'
      | some d =>
        rw [q] at e'; cases e'
        obtain ⟨p, vs, rfl, hp, hr⟩ := ha.lst s
        obtain ⟨v, h1, h2⟩ := hr.atI q
        exact .inl (.inl ⟨p, vs, i, v, rfl, hb.int, SqL.of hp, h1, res.same s h2⟩)
    | _ => cases e
  | tuple xs =>
    cases b with
    | int i =>
      have e' : (atI xs i).map EV.d = some ev := e
      cases q : atI xs i with
      | none => rw [q] at e'; cases e'
      | some d =>
        rw [q] at e'; cases e'
        obtain ⟨p, vs, rfl, hp, hr⟩ := ha.tup
        obtain ⟨v, h1, h2⟩ := hr.atI q
        exact .inl (.inr (.inl ⟨p, vs, i, v, rfl, hb.int, (hp.mono s).sqT, h1, res.same s h2⟩))
    | _ => cases e
  | str z =>
    cases b with
    | int i =>
      have e' : (if z.length ≤ sizeLine then (atI z.cps.toList i).map fun c => EV.d (.str ⟨#[c]⟩) else none) = some ev := e
      by_cases hz : z.length ≤ sizeLine
      · rw [if_pos hz] at e'
        cases q : atI z.cps.toList i with
        | none => rw [q] at e'; cases e'
        | some c =>
          rw [q] at e'; cases e'
          exact .inl (.inr (.inr ⟨z, i, c, ha.str, hb.int, hz, q, res.same s (.str _)⟩))
      · rw [if_neg hz] at e'; cases e'
    | _ => cases e
  | dict kvs =>
    have e' : (match dGet kvs b with | some (some d) => some (EV.d d) | _ => none) = some ev := by cases b <;> exact e
    cases q : dGet kvs b with
    | none => rw [q] at e'; cases e'
    | some o =>
      cases o with
      | none => rw [q] at e'; cases e'
      | some d =>
        rw [q] at e'; cases e'
        obtain ⟨p, rfl, z⟩ := dGet_ok s ha hb q
        obtain ⟨v, h1, h2⟩ := z
        exact .inr ⟨p, v, rfl, h1, res.same s h2⟩
  | _ => cases b <;> cases e
variable {W : WX} {a b e : Expr} {es : List Expr} {m m1 m2 : Env' → R EV} {ms : Env' → R (List EV)} {pos p p2 : Pos} {x : Str}
theorem ae_ix (hu : X.A.units + 1 < cLine) (h1 : AE X W m1 a) (h2 : AE X W m2 b) (hs : PlainIx b := by exact fun _ _ => rfl) : AE X W (mBin fIx m1 m2) (.Subscript a b pos) :=
  (pe_ix (ix_seq.or (ix_dict hu)) h1 h2 hs).imp fun σ H Q h => two_step (fun G H x y a b ev Q s ha hb e res => ix_ok hu s ha hb e res) h

/-! ### slices -/
def cutD (xs : List D) (lo hi : Option Int) : List D := (xs.drop (HT.sIx xs.length 0 lo)).take (HT.sIx xs.length xs.length hi - HT.sIx xs.length 0 lo)
theorem RDs.cut {K : Fg} {G : Hp} {ds : List D} {vs : List V} (r : RDs K G ds vs) (lo hi : Option Int) : RDs K G (cutD ds lo hi) (cutV vs lo hi) := by
  unfold cutD cutV
  rw [r.length]
  exact (r.drop _).take _
def fSl : D → Option Int → Option Int → Option EV
  | .list xs, lo, hi => some (.fr (.lst (cutD xs lo hi)))
  | .tuple xs, lo, hi => some (.d (.tuple (cutD xs lo hi)))
  | .str z, lo, hi => if z.length ≤ sizeLine then some (.d (.str (cutS z lo hi))) else none
  | _, _, _ => none
def oNone : Env' → R (Option Int) := fun ρ => .ok none ρ
def oSome (m : Env' → R EV) : Env' → R (Option Int) := fun ρ => (m ρ).bind fun e ρ1 => match e with
  | .d (.int i) => .ok (some i) ρ1
  | _ => .bad
theorem ao_none : AO X W oNone none := by
  refine ⟨fun pins s σ H Q I h => po_none.run pins s σ H Q I ?_⟩
  obtain ⟨P, B, G, ρ, F, sr, h⟩ := h
  exact h G H F none (Same.refl _) sr rfl
theorem ao_some (h1 : AE X W m e) : AO X W (oSome m) (some e) := by
  refine ⟨fun pins s σ H Q I h => (po_some h1).run pins s σ H Q I ?_⟩
  obtain ⟨P, B, G, ρ, F, sr, h⟩ := h
  refine ⟨P, B, G, ρ, F, sr, (Po.bind (rel := EvR X.K) h).imp fun x H1 ⟨G1, ρ1, F1, e1, _, s1, r1, h1⟩ => ?_⟩
  cases e1 with
  | d d =>
    cases d with
    | int i => exact ⟨i, RD.ofInt r1, h1 G1 H1 F1 _ (Same.refl _) s1 rfl⟩
    | _ => exact h1.elim
  | _ => exact h1.elim
def mSl (m : Env' → R EV) (l u : Env' → R (Option Int)) : Env' → R EV := fun ρ => (m ρ).bind fun e ρ1 => (l ρ1).bind fun lo ρ2 => (u ρ2).bind fun hi ρ3 => R.ofO ((dV ρ3 (fzV e)).bind fun d => fSl d lo hi) ρ3
theorem ae_sl {l u : Env' → R (Option Int)} {lo hi : Option Expr} (h1 : AE X W m e) (h2 : AO X W l lo) (h3 : AO X W u hi) : AE X W (mSl m l u) (.Subscript e (.Slice lo hi none p2) pos) := by
  refine (pe_slice (sl_list.or (sl_tupF.or L2.sl_str)) h1 h2 h3).imp fun σ H Q h => ?_
  obtain ⟨P, B, G, ρ, F, s, h⟩ := h
  refine ⟨P, B, G, ρ, F, s, (Po.bind (rel := EvR X.K) h).imp fun x H1 ⟨G1, ρ1, F1, e1, _, s1, r1, h1⟩ => ?_⟩
  obtain ⟨G2, g2, s2, r2, n2⟩ := fz_ok s1 r1
  refine ⟨P, B, G2, ρ1, F1, s2, (Po.bind (rel := fun _ _ _ _ _ a b => a = b) (h1.mono g2)).imp fun y H3 ⟨G3, ρ3, F3, lo', g3, s3, r3, h3⟩ => ?_⟩
  refine ⟨P, B, G3, ρ3, F3, s3, (Po.bind (rel := fun _ _ _ _ _ a b => a = b) h3).imp fun z H4 ⟨G4, ρ4, F4, hi', g4, s4, r4, h4⟩ => ?_⟩
  subst r3 r4
  have rr := r2.mono n2 (H' := H4) (F' := F4) (g3.trans g4)
  obtain ⟨ev, he, res⟩ := res_of' s4 h4
  cases q1 : dV ρ4 (fzV e1) with
  | none => rw [q1] at he; cases he
  | some d =>
    rw [q1] at he
    have he : fSl d lo' hi' = some ev := he
    have o := ShR.of s4 rr q1
    cases d with
    | list xs =>
      cases he
      obtain ⟨p, vs, rfl, hp, hr⟩ := o.lst s4.sub
      exact .inl ⟨p, vs, rfl, SqL.of hp, fun q hq => res.newL s4.sub hq (hr.cut _ _)⟩
    | tuple xs =>
      cases he
      obtain ⟨p, vs, rfl, hp, hr⟩ := o.tup
      refine .inr (.inl ⟨p, vs, rfl, (hp.mono s4.sub).sqT, fun ⟨w1, w2⟩ => ?_, fun _ => ⟨_, fun q o hq ho => res.newT s4.sub hq ho (hr.cut _ _)⟩⟩)
      have ec : cutD xs lo' hi' = xs := by
        unfold cutD
        rw [hr.length] at w1 w2
        rw [w1, w2]; simp
      rw [ec] at res
      exact res.same s4.sub (.tup hp hr)
    | str z =>
      have he : (if z.length ≤ sizeLine then some (EV.d (.str (cutS z lo' hi'))) else none) = some ev := he
      by_cases hz : z.length ≤ sizeLine
      · rw [if_pos hz] at he; cases he
        exact .inr (.inr ⟨z, o.str, hz, res.same s4.sub (.str _)⟩)
      · rw [if_neg hz] at he; cases he
    | _ => cases he

/-! ### built-in calls -/
/-- a call of a known value on data -/
def CallD (X : Cx) (f : Value) (g : List D → Option EV) : Prop :=
  ∃ r : List V → Hp → VK → Prop, CallR X f r ∧ ∀ (G H : Hp) (ws : List V) (ds : List D) (ev : EV) (Q : VK), Same G H → ShRs X.K G H ds ws → g ds = some ev → Res X.K G H ev Q → r ws H Q
def mCall (g : List D → Option EV) (ms : Env' → R (List EV)) : Env' → R EV := fun ρ => (ms ρ).bind fun es ρ1 => R.ofO ((dVs ρ1 es).bind g) ρ1
theorem call_step {f : Value} {g : List D → Option EV} {r : List V → Hp → VK → Prop} (hf : ∀ (G H : Hp) (ws : List V) (ds : List D) (ev : EV) (Q : VK), Same G H → ShRs X.K G H ds ws → g ds = some ev → Res X.K G H ev Q → r ws H Q)
    {σ : L2.St} {H : Hp} {Q : VK} (h : tE X.K W (mCall g ms) σ H Q) : tCB r (tA X.K W ms) σ H Q := by
  obtain ⟨P, B, G, ρ, F, s, h⟩ := h
  refine ⟨P, B, G, ρ, F, s, (Po.bind (rel := EvRs X.K) h).imp fun ws H1 ⟨G1, ρ1, F1, es1, _, s1, r1, h1⟩ => ?_⟩
  obtain ⟨ev, he, res⟩ := res_of' s1 h1
  cases q : dVs ρ1 es1 with
  | none => rw [q] at he; cases he
  | some ds =>
    rw [q] at he
    exact hf G1 H1 ws ds ev Q s1.sub (r1.sh s1 q) he res
theorem ae_callB {id : String} {g : List D → Option EV} (hc : CallD X (.builtin id) g) (hg : Gl X x) (hm : X.mg x = none) (hv : bootBuiltins x = some (.builtin id)) (ha : AA X W ms (e :: es)) (hn : x ≠ "__name__" := by decide) (hdb : (x == ("__debug__" : Str)) = false := by decide)
    (he : starEach (e :: es) X.env = (false, eval e X.env) :: starEach es X.env := by rfl) (hpl : (backTo pos (starEach es X.env)).any (·.1) = false := by rfl) : AE X W (mCall g ms) (.Call (.Name x p) (e :: es) [] pos) := by
  obtain ⟨r, hr, hf⟩ := hc
  exact (pe_callB hr hg hm hv ha hn hdb he hpl).imp fun σ H Q h => call_step (f := .builtin id) hf h
theorem ae_callTy {T : String} {g : List D → Option EV} (hc : CallD X (.type T) g) (hg : Gl X x) (hm : X.mg x = none) (hv : bootBuiltins x = some (.type T)) (ha : AA X W ms (e :: es)) (hn : x ≠ "__name__" := by decide) (hdb : (x == ("__debug__" : Str)) = false := by decide)
    (he : starEach (e :: es) X.env = (false, eval e X.env) :: starEach es X.env := by rfl) (hpl : (backTo pos (starEach es X.env)).any (·.1) = false := by rfl) : AE X W (mCall g ms) (.Call (.Name x p) (e :: es) [] pos) := by
  obtain ⟨r, hr, hf⟩ := hc
  exact (pe_callTy hr hg hm hv ha hn hdb he hpl).imp fun σ H Q h => call_step (f := .type T) hf h

theorem ShRs.one {K : Fg} {G H : Hp} {d : D} {ws : List V} (h : ShRs K G H [d] ws) : ∃ w, ws = [w] ∧ ShR K G H d w := by
  cases h with
  | cons h r => cases r; exact ⟨_, rfl, h⟩
theorem ShRs.two {K : Fg} {G H : Hp} {d e : D} {ws : List V} (h : ShRs K G H [d, e] ws) : ∃ w u, ws = [w, u] ∧ ShR K G H d w ∧ ShR K G H e u := by
  cases h with
  | cons h r =>
    cases r with
    | cons h2 r2 => cases r2; exact ⟨_, _, rfl, h, h2⟩
def gLen : List D → Option EV
  | [.str x] => if x.length ≤ sizeLine then some (.d (.int x.length)) else none
  | [.list xs] => some (.d (.int xs.length))
  | [.tuple xs] => some (.d (.int xs.length))
  | [.dict ((.none, .none) :: _)] => none
  | [.dict kvs] => some (.d (.int kvs.length))
  | _ => none
theorem RDk.length {K : Fg} {G : Hp} : ∀ {ds : List (D × D)} {vs : List (Key × V)}, RDk K G ds vs → vs.length = ds.length
  | _, _, .nil => rfl
  | _, _, .cons _ r => by simp [RDk.length r]
theorem call_lenD : CallR X (.builtin "len") (fun xs H Q => ∃ a kvs, xs = [.ref a] ∧ H a = some (.dK kvs) ∧ Q (.int kvs.length) H) := by
  intro pins s σ H xs us Q I r ⟨a, kvs, e, h, q⟩
  subst e
  obtain ⟨u, rfl, rx⟩ := vals1 r
  obtain rfl : u = Value.ref a := rx
  exact d_len I (.inl h) fun t s' I' => ⟨.int kvs.length, H, I', ⟨t, rfl⟩, q⟩
theorem g_len : CallD X (.builtin "len") gLen := by
  refine ⟨_, CallR.or call_len call_lenD, fun G H ws ds ev Q s h e res => ?_⟩
  cases h with
  | nil => cases e
  | cons h r =>
    rename_i d w ds ws
    cases r with
    | cons h2 r2 => cases d <;> first | cases e | (rename_i q; cases q with | nil => cases e | cons p t => obtain ⟨p1, p2⟩ := p; cases p1 <;> cases p2 <;> cases e)
    | nil =>
      cases d with
      | str z =>
        have e : (if z.length ≤ sizeLine then some (EV.d (.int z.length)) else none) = some ev := e
        by_cases hz : z.length ≤ sizeLine
        · rw [if_pos hz] at e; cases e
          refine .inl ⟨w, z.length, rfl, ?_, res.same s (.int _)⟩
          rw [h.str]; exact ⟨hz, rfl⟩
        · rw [if_neg hz] at e; cases e
      | list xs =>
        cases e
        obtain ⟨p, vs, rfl, hp, hr⟩ := h.lst s
        exact .inl ⟨_, xs.length, rfl, .inl ⟨vs, SqL.of hp, hr.length.symm⟩, res.same s (.int _)⟩
      | tuple xs =>
        cases e
        obtain ⟨p, vs, rfl, hp, hr⟩ := h.tup
        exact .inl ⟨_, xs.length, rfl, .inr ⟨vs, (hp.mono s).sqT, hr.length.symm⟩, res.same s (.int _)⟩
      | dict kvs =>
        obtain ⟨p, rfl, q⟩ := h.dict s
        rcases q with ⟨vs, hv, hr⟩ | ⟨r, vs, rfl, hv, hr⟩
        · have e2 : some (EV.d (.int kvs.length)) = some ev := by
            cases kvs with
            | nil => exact e
            | cons p t =>
              obtain ⟨p1, p2⟩ := p
              cases p1 with
              | none => exact absurd rfl (hr.nn p2 t)
              | _ => exact e
          cases e2
          refine .inr ⟨p, vs, rfl, hv, ?_⟩
          rw [hr.length]
          exact res.same s (.int _)
        · cases e
      | _ => cases e
def gInt2 (f : Int → Int → Int) : List D → Option EV
  | [.int i, .int j] => some (.d (.int (f i j)))
  | _ => none
theorem g_int2 {id : String} {f : Int → Int → Int} (h : CallR X (.builtin id) (fun xs H Q => ∃ i j, xs = [.int i, .int j] ∧ Q (.int (f i j)) H)) : CallD X (.builtin id) (gInt2 f) := by
  refine ⟨_, h, fun G H ws ds ev Q s h e res => ?_⟩
  unfold gInt2 at e
  split at e
  · cases e
    obtain ⟨w, u, rfl, h1, h2⟩ := h.two
    exact ⟨_, _, by rw [h1.int, h2.int], res.same s (.int _)⟩
  · cases e
abbrev gMax := gInt2 fun i j => if j > i then j else i
abbrev gMin := gInt2 fun i j => if j < i then j else i
theorem g_max (hc : X.calm = true) : CallD X (.builtin "max") gMax := g_int2 (call_max2 hc)
theorem g_min (hc : X.calm = true) : CallD X (.builtin "min") gMin := g_int2 (call_min2 hc)
def gAbs : List D → Option EV
  | [.int i] => some (.d (.int (if i < 0 then -i else i)))
  | _ => none
theorem g_abs : CallD X (.builtin "abs") gAbs := by
  refine ⟨_, call_abs, fun G H ws ds ev Q s h e res => ?_⟩
  unfold gAbs at e
  split at e
  · cases e
    obtain ⟨w, rfl, h1⟩ := h.one
    exact ⟨_, by rw [h1.int], res.same s (.int _)⟩
  · cases e
def gOrd : List D → Option EV
  | [.str x] => if x.length = 1 then some (.d (.int (x.cps.getD 0 0 : Nat))) else none
  | _ => none
theorem g_ord : CallD X (.builtin "ord") gOrd := by
  refine ⟨_, call_ord, fun G H ws ds ev Q s h e res => ?_⟩
  unfold gOrd at e
  split at e
  · split at e
    · rename_i hz
      cases e
      obtain ⟨w, rfl, h1⟩ := h.one
      exact ⟨_, by rw [h1.str], hz, res.same s (.int _)⟩
    · cases e
  · cases e
def gInt : List D → Option EV
  | [.int i] => some (.d (.int i))
  | [.bool b] => some (.d (.int (if b then 1 else 0)))
  | [.str x] => if x.length ≤ 640 then (PySem.intText? x).map fun n => .d (.int n) else none
  | _ => none
theorem g_int : CallD X (.type "int") gInt := by
  refine ⟨_, CallR.or call_int1 call_int_str, fun G H ws ds ev Q s h e res => ?_⟩
  unfold gInt at e
  split at e
  · cases e
    obtain ⟨w, rfl, h1⟩ := h.one
    exact .inl (.inl ⟨_, by rw [h1.int], res.same s (.int _)⟩)
  · cases e
    obtain ⟨w, rfl, h1⟩ := h.one
    exact .inl (.inr ⟨_, by rw [h1.bool], res.same s (.int _)⟩)
  · split at e
    · rename_i x hz
      obtain ⟨w, rfl, h1⟩ := h.one
      cases q : PySem.intText? x with
      | none => rw [q] at e; cases e
      | some n =>
        rw [q] at e; cases e
        exact .inr ⟨_, _, by rw [h1.str], q, hz, res.same s (.int _)⟩
    · cases e
  · cases e
def gStr : List D → Option EV
  | [.int i] => if i.natAbs.log2 < 1920 then some (.d (.str (toString i))) else none
  | _ => none
theorem g_str : CallD X (.type "str") gStr := by
  refine ⟨_, call_str_int, fun G H ws ds ev Q s h e res => ?_⟩
  unfold gStr at e
  split at e
  · split at e
    · rename_i hz
      cases e
      obtain ⟨w, rfl, h1⟩ := h.one
      exact ⟨_, by rw [h1.int], hz, res.same s (.str _)⟩
    · cases e
  · cases e
def gTuple : List D → Option EV
  | [.list xs] => some (.d (.tuple xs))
  | [.tuple xs] => some (.d (.tuple xs))
  | _ => none
theorem g_tuple : CallD X (.type "tuple") gTuple := by
  refine ⟨_, call_tupleF, fun G H ws ds ev Q s h e res => ?_⟩
  unfold gTuple at e
  split at e
  · cases e
    obtain ⟨w, rfl, h1⟩ := h.one
    obtain ⟨p, vs, rfl, hp, hr⟩ := h1.lst s
    exact ⟨p, vs, rfl, .inl ⟨SqL.of hp, _, fun l o hl ho => res.newT s hl ho hr⟩⟩
  · cases e
    obtain ⟨w, rfl, h1⟩ := h.one
    obtain ⟨p, vs, rfl, hp, hr⟩ := h1.tup
    exact ⟨p, vs, rfl, .inr ⟨(hp.mono s).sqT, res.same s (.tup hp hr)⟩⟩
  · cases e
def gList : List D → Option EV
  | [.list xs] => some (.fr (.lst xs))
  | [.tuple xs] => some (.fr (.lst xs))
  | _ => none
theorem g_list : CallD X (.type "list") gList := by
  refine ⟨_, call_list_of, fun G H ws ds ev Q s h e res => ?_⟩
  unfold gList at e
  split at e
  · cases e
    obtain ⟨w, rfl, h1⟩ := h.one
    obtain ⟨p, vs, rfl, hp, hr⟩ := h1.lst s
    exact ⟨p, vs, rfl, .inl (SqL.of hp), fun l hl => res.newL s hl hr⟩
  · cases e
    obtain ⟨w, rfl, h1⟩ := h.one
    obtain ⟨p, vs, rfl, hp, hr⟩ := h1.tup
    exact ⟨p, vs, rfl, .inr (hp.mono s).sqT, fun l hl => res.newL s hl hr⟩
  · cases e

/-! ### isinstance with one built-in class -/
def tyD : D → String
  | .none => "NoneType"
  | .bool _ => "bool"
  | .int _ => "int"
  | .str _ => "str"
  | .list _ => "list"
  | .tuple _ => "tuple"
  | .dict _ => "dict"
def isiD (T : String) (d : D) : Bool := tyD d == T || (T == "int" && tyD d == "bool")
theorem ShR.ty {K : Fg} {G H : Hp} {d : D} {w : V} (s : Same G H) (h : ShR K G H d w) : TyX K H w (.type (tyD d)) := by
  cases d with
  | none => rw [h.none]; exact .base .non
  | bool b => rw [h.bool]; exact .base (.bl _)
  | int i => rw [h.int]; exact .base (.int _)
  | str x => rw [h.str]; exact .base (.str _)
  | list xs =>
    obtain ⟨p, vs, rfl, hp, hr⟩ := h.lst s
    exact .base (.lst hp)
  | tuple xs =>
    obtain ⟨p, vs, rfl, hp, hr⟩ := h.tup
    exact (hp.mono s).ty
  | dict kvs =>
    obtain ⟨p, rfl, q⟩ := h.dict s
    rcases q with ⟨vs, hv, hr⟩ | ⟨r, vs, _, hv, hr⟩
    · exact .base (.dK hv)
    · exact .base (.dT hv)
/-- the class is one of those that are told apart so -/
def isiT (T : String) : Bool := ["NoneType", "bool", "int", "str", "list", "tuple", "dict"].all fun t => decide (kitB t T = some (t == T || (T == "int" && t == "bool")))
theorem isi_kit {K : Fg} {T : String} (h : isiT T = true) (d : D) : PySem.W.kitOne K (.type (tyD d)) (.type T) = some (isiD T d) := by
  refine kit_ty ?_
  have h2 := List.all_eq_true.mp h (tyD d) (by cases d <;> simp [tyD])
  exact of_decide_eq_true h2
theorem isi_int : isiT "int" = true := by decide +kernel
theorem isi_bool : isiT "bool" = true := by decide +kernel
theorem isi_str : isiT "str" = true := by decide +kernel
theorem isi_tuple : isiT "tuple" = true := by decide +kernel
theorem isi_list : isiT "list" = true := by decide +kernel
theorem isi_dict : isiT "dict" = true := by decide +kernel
def mIsi (T : String) (m : Env' → R EV) : Env' → R EV := fun ρ => (m ρ).bind fun e ρ1 => R.ofO ((dV ρ1 e).bind fun d => some (.d (.bool (isiD T d)))) ρ1
theorem ae_isi {T : String} {y : Str} {p3 : Pos} (hT : isiT T = true) (h1 : AE X W m e) (hg : Gl X "isinstance") (hm : X.mg "isinstance" = none) (hv : bootBuiltins "isinstance" = some (.builtin "isinstance"))
    (hg2 : Gl X y) (hm2 : X.mg y = none) (hv2 : bootBuiltins y = some (.type T)) (hn2 : y ≠ "__name__" := by decide) (hdb2 : (y == ("__debug__" : Str)) = false := by decide)
    (he : starEach [e, .Name y p3] X.env = (false, eval e X.env) :: starEach [.Name y p3] X.env := by rfl) : AE X W (mIsi T m) (.Call (.Name "isinstance" p) [e, .Name y p3] [] pos) := by
  refine (pe_callB call_isi hg hm hv (pa_cons h1 (pa_cons (pe_bltn hg2 hm2 hv2 (v := .ty T) rfl hn2 hdb2) pa_nil) he) (by decide) (by decide) he rfl).imp fun σ H Q h => ?_
  obtain ⟨P, B, G, ρ, F, s, h⟩ := h
  refine ⟨P, B, G, ρ, F, s, (Po.bind (rel := EvR X.K) h).imp fun x H1 ⟨G1, ρ1, F1, e1, _, s1, r1, h1⟩ => ?_⟩
  cases q : dV ρ1 e1 with
  | none => simp only [q] at h1; exact h1.elim
  | some d =>
    simp only [q, Option.bind_some] at h1
    have o := ShR.of s1 r1 q
    exact ⟨x, .ty T, .type (tyD d), .type T, isiD T d, rfl, .ty T, o.ty s1.sub, isi_kit hT d, (res_of s1 h1).same s1.sub (.bl _)⟩
end
end Mi
/-! text MiF -/
set_option Elab.async false
set_option linter.all false
set_option maxRecDepth 100000
set_option maxHeartbeats 4000000
/-! MiF: statements. -/
namespace Mi
open PySem PySem.Spec PyProof.Rows L2

/-- a statement's end -/
inductive RS where
  | nx (ρ : Env')
  | rt (e : EV) (ρ : Env')
  | bk (ρ : Env')
  | ct (ρ : Env')
  | exc (x : Ex) (ρ : Env')
  | bad
def PoS (K : Fg) (W : WX) (P : Hp) (B : Nat → Option V) (G : Hp) (r : RS) (D : Ends) : Prop :=
  match r with
  | .nx ρ' => ∀ G' H' F' σ', Same G G' → SRF K P B G' ρ' σ' H' F' → D.nx σ' H'
  | .rt e ρ' => ∀ G' H' F' σ' w, Same G G' → SRF K P B G' ρ' σ' H' F' → EvR K P G' H' σ' F' e w → D.rt w H'
  | .bk ρ' => ∀ G' H' F' σ', Same G G' → SRF K P B G' ρ' σ' H' F' → D.bk σ' H'
  | .ct ρ' => ∀ G' H' F' σ', Same G G' → SRF K P B G' ρ' σ' H' F' → D.ct σ' H'
  | .exc x ρ' => ∀ G' H' F' σ' cls d, Same G G' → SRF K P B G' ρ' σ' H' F' → ExR K G' x cls d → W cls d σ' H'
  | .bad => False
def tSt (K : Fg) (W : WX) (m : Env' → RS) : TS := fun D σ H => ∃ P B G ρ F, SRF K P B G ρ σ H F ∧ PoS K W P B G (m ρ) D
def AS (X : Cx) (W : WX) (m : Env' → RS) (st : Stmt) : Prop := PS X st (tSt X.K W m)
def ASs (X : Cx) (W : WX) (m : Env' → RS) (st : List Stmt) : Prop := PSs X st (tSt X.K W m)
/-- from a value to a statement's end -/
def R.toS {α : Type} (r : R α) (f : α → Env' → RS) : RS := match r with
  | .ok a ρ => f a ρ
  | .exc x ρ => .exc x ρ
  | .bad => .bad
def RS.then (r : RS) (f : Env' → RS) : RS := match r with
  | .nx ρ => f ρ
  | r => r
@[simp] theorem R.toS_ok {α : Type} (a : α) (ρ : Env') (f : α → Env' → RS) : (R.ok a ρ).toS f = f a ρ := rfl
@[simp] theorem R.toS_exc {α : Type} (x : Ex) (ρ : Env') (f : α → Env' → RS) : (R.exc x ρ : R α).toS f = .exc x ρ := rfl
@[simp] theorem R.toS_bad {α : Type} (f : α → Env' → RS) : (R.bad : R α).toS f = .bad := rfl
@[simp] theorem RS.then_nx (ρ : Env') (f : Env' → RS) : (RS.nx ρ).then f = f ρ := rfl
@[simp] theorem RS.then_rt (e : EV) (ρ : Env') (f : Env' → RS) : (RS.rt e ρ).then f = .rt e ρ := rfl
@[simp] theorem RS.then_bk (ρ : Env') (f : Env' → RS) : (RS.bk ρ).then f = .bk ρ := rfl
@[simp] theorem RS.then_ct (ρ : Env') (f : Env' → RS) : (RS.ct ρ).then f = .ct ρ := rfl
@[simp] theorem RS.then_exc (x : Ex) (ρ : Env') (f : Env' → RS) : (RS.exc x ρ).then f = .exc x ρ := rfl
@[simp] theorem RS.then_bad (f : Env' → RS) : RS.bad.then f = .bad := rfl
section
variable {α β : Type} {rel : Rel α β} {K : Fg} {W : WX} {P : Hp} {B : Nat → Option V} {G G' : Hp} {σ : L2.St} {ρ : Env'} {H : Hp} {F : Nat → List Addr}
theorem PoS.mono {r : RS} {D : Ends} (e : Same G G') (h : PoS K W P B G r D) : PoS K W P B G' r D := by
  cases r with
  | nx ρ' => exact fun G1 H1 F1 s1 e1 => h G1 H1 F1 s1 (e.trans e1)
  | rt v ρ' => exact fun G1 H1 F1 s1 w e1 => h G1 H1 F1 s1 w (e.trans e1)
  | bk ρ' => exact fun G1 H1 F1 s1 e1 => h G1 H1 F1 s1 (e.trans e1)
  | ct ρ' => exact fun G1 H1 F1 s1 e1 => h G1 H1 F1 s1 (e.trans e1)
  | exc x ρ' => exact fun G1 H1 F1 s1 c d e1 => h G1 H1 F1 s1 c d (e.trans e1)
  | bad => exact h
theorem PoS.toS {r : R α} {f : α → Env' → RS} {D : Ends} (h : PoS K W P B G (r.toS f) D) :
    Po rel K W P B G σ r (fun x H1 => ∃ G1 ρ1 F1 a, Same G G1 ∧ SRF K P B G1 ρ1 σ H1 F1 ∧ rel P G1 H1 σ F1 a x ∧ PoS K W P B G1 (f a ρ1) D) := by
  cases r with
  | ok a ρ' => exact fun G1 H1 F1 w e1 s1 r1 => ⟨G1, ρ', F1, a, e1, s1, r1, h.mono e1⟩
  | exc x ρ' => exact fun G1 H1 F1 c d e1 s1 => h G1 H1 F1 σ c d e1 s1
  | bad => exact h
theorem PoS.then {r : RS} {f : Env' → RS} {D : Ends} (h : PoS K W P B G (r.then f) D) : PoS K W P B G r { D with nx := tSt K W f D } := by
  cases r with
  | nx ρ' => exact fun G1 H1 F1 s1 e1 sr => ⟨P, B, G1, ρ', F1, sr, h.mono e1⟩
  | rt v ρ' => exact h
  | bk ρ' => exact h
  | ct ρ' => exact h
  | exc x ρ' => exact h
  | bad => exact h
end

/-! ### slots are set -/
section
variable {K : Fg} {P : Hp} {B : Nat → Option V} {G G' : Hp} {σ : L2.St} {ρ ρ' : Env'} {H : Hp} {F : Nat → List Addr}
def upF (F : Nat → List Addr) (i : Nat) (Fi : List Addr) : Nat → List Addr := fun j => if j = i then Fi else F j
/-- the slot is set; a borrowed object's slot may not be -/
def setS (i : Nat) (sv : Option SV) (ρ : Env') : Option Env' := match ρ[i]? with
  | none => none
  | some (some (.b _)) => none
  | some _ => some (ρ.set i sv)
theorem setS_some {i : Nat} {sv : Option SV} (h : setS i sv ρ = some ρ') : ρ' = ρ.set i sv ∧ i < ρ.length ∧ ∀ m, ρ[i]? ≠ some (some (.b m)) := by
  unfold setS at h
  cases q : ρ[i]? with
  | none => rw [q] at h; cases h
  | some o =>
    have hi := (List.getElem?_eq_some_iff.mp q).1
    cases o with
    | none => rw [q] at h; cases h; exact ⟨rfl, hi, fun m z => by cases z⟩
    | some v =>
      cases v with
      | b m => rw [q] at h; cases h
      | _ => rw [q] at h; cases h; exact ⟨rfl, hi, fun m z => by cases z⟩
theorem SRF.set {i : Nat} {sv : SV} {v : V} {Fi : List Addr} (s : SRF K P B G ρ σ H F) (hi : i < ρ.length) (r : SVR K G H sv v Fi) (hb : sv.isB = false)
    (hf : ∀ a ∈ Fi, G a = none ∧ P a = none ∧ H a ≠ none ∧ ∀ j, j ≠ i → a ∉ F j) : SRF K P B G (ρ.set i (some sv)) (σ.set i (some v)) H (upF F i Fi) := by
  have hi2 : i < σ.length := by rw [← s.len]; exact hi
  refine ⟨s.sub, s.pre, by simp [s.len], fun j sv' e => ?_, fun j a ha => ?_, fun j k a h1 h2 => ?_, s.pg⟩
  · by_cases hj : j = i
    · subst hj
      rw [List.getElem?_set_self hi] at e
      cases e
      exact ⟨v, by rw [List.getElem?_set_self hi2], by unfold upF; rw [if_pos rfl]; exact r, fun z => by rw [hb] at z; cases z⟩
    · rw [List.getElem?_set_ne (Ne.symm hj)] at e
      obtain ⟨v', h1, h2, h3⟩ := s.slot j sv' e
      exact ⟨v', by rw [List.getElem?_set_ne (Ne.symm hj)]; exact h1, by unfold upF; rw [if_neg hj]; exact h2, h3⟩
  · unfold upF at ha
    by_cases hj : j = i
    · rw [if_pos hj] at ha; exact ⟨(hf a ha).1, (hf a ha).2.1, (hf a ha).2.2.1⟩
    · rw [if_neg hj] at ha; exact s.fre j a ha
  · unfold upF at h1 h2
    by_cases hj : j = i
    · by_cases hk : k = i
      · rw [hj, hk]
      · rw [if_pos hj] at h1; rw [if_neg hk] at h2; exact absurd h2 ((hf a h1).2.2.2 k hk)
    · by_cases hk : k = i
      · rw [if_neg hj] at h1; rw [if_pos hk] at h2; exact absurd h1 ((hf a h2).2.2.2 j hj)
      · rw [if_neg hj] at h1; rw [if_neg hk] at h2; exact s.dis j k a h1 h2
/-- a slot is forgotten (its value stays where it is) -/
theorem SRF.drop (s : SRF K P B G ρ σ H F) (i : Nat) : SRF K P B G (ρ.set i none) σ H (upF F i []) := by
  refine ⟨s.sub, s.pre, by simp [s.len], fun j sv' e => ?_, fun j a ha => ?_, fun j k a h1 h2 => ?_, s.pg⟩
  · by_cases hj : j = i
    · subst hj
      by_cases hi : j < ρ.length
      · rw [List.getElem?_set_self hi] at e; cases e
      · rw [List.getElem?_eq_none (by simpa using hi)] at e; cases e
    · rw [List.getElem?_set_ne (Ne.symm hj)] at e
      obtain ⟨v', h1, h2, h3⟩ := s.slot j sv' e
      exact ⟨v', h1, by unfold upF; rw [if_neg hj]; exact h2, h3⟩
  · unfold upF at ha
    by_cases hj : j = i
    · rw [if_pos hj] at ha; cases ha
    · rw [if_neg hj] at ha; exact s.fre j a ha
  · unfold upF at h1 h2
    by_cases hj : j = i
    · rw [if_pos hj] at h1; cases h1
    · by_cases hk : k = i
      · rw [if_pos hk] at h2; cases h2
      · rw [if_neg hj] at h1; rw [if_neg hk] at h2; exact s.dis j k a h1 h2
/-- a slot's own object is moved out: a new object then -/
theorem SRF.move {i : Nat} {m : MO} (s : SRF K P B G ρ σ H F) (e : ρ[i]? = some (some (.o m))) {w : V} (hw : σ[i]? = some (some w)) : SRF K P B G (ρ.set i none) σ H (upF F i []) ∧ EvR K P G H σ (upF F i []) (.fr m) w := by
  refine ⟨s.drop i, ?_⟩
  obtain ⟨v, h1, h2, _⟩ := s.slot i _ e
  rw [hw] at h1; cases h1
  refine ⟨F i, h2, fun a ha => ⟨(s.fre i a ha).1, (s.fre i a ha).2.1, fun j hj => ?_⟩⟩
  unfold upF at hj
  by_cases hji : j = i
  · rw [if_pos hji] at hj; cases hj
  · rw [if_neg hji] at hj; exact hji (s.dis j i a hj ha)

/-- a name is given a value; own: a new list or dict stays the slot's own -/
def asgN (own : Bool) (i : Nat) (e : EV) (ρ : Env') : Option Env' := match e with
  | .d x => setS i (some (.d x)) ρ
  | .fr m => if own then setS i (some (.o m)) ρ else setS i (some (.d (snapM m))) ρ
  | .al j => if j = i then some ρ else match ρ[j]? with
    | some (some (.o m)) => setS i (some (.d (snapM m))) (ρ.set j (some (.d (snapM m))))
    | _ => none
theorem asgN_ok {own : Bool} {i : Nat} {e : EV} {w : V} (s : SRF K P B G ρ σ H F) (h : asgN own i e ρ = some ρ') (r : EvR K P G H σ F e w) :
    ∃ G' F', Same G G' ∧ SRF K P B G' ρ' (σ.set i (some w)) H F' := by
  cases e with
  | d x =>
    obtain ⟨rfl, hi, _⟩ := setS_some h
    exact ⟨G, _, Same.refl _, s.set (sv := .d x) hi ⟨r, rfl⟩ rfl fun a z => nomatch z⟩
  | fr m =>
    cases own with
    | true =>
      obtain ⟨rfl, hi, _⟩ := setS_some (show setS i (some (.o m)) ρ = some ρ' from h)
      obtain ⟨Fm, h1, h2⟩ := r
      exact ⟨G, _, Same.refl _, s.set (sv := .o m) hi h1 rfl fun a ha => ⟨(h2 a ha).1, (h2 a ha).2.1, h1.some a ha, fun j _ => (h2 a ha).2.2 j⟩⟩
    | false =>
      obtain ⟨rfl, hi, _⟩ := setS_some (show setS i (some (.d (snapM m))) ρ = some ρ' from h)
      obtain ⟨G', e, s', r', _⟩ := fz_ok s r
      exact ⟨G', _, e, s'.set (sv := .d (snapM m)) hi ⟨r', rfl⟩ rfl fun a z => nomatch z⟩
  | al j =>
    have h' : (if j = i then some ρ else match ρ[j]? with
      | some (some (.o m)) => setS i (some (.d (snapM m))) (ρ.set j (some (.d (snapM m))))
      | _ => none) = some ρ' := h
    by_cases hj : j = i
    · rw [if_pos hj] at h'
      cases h'
      subst hj
      have hw : σ[j]? = some (some w) := r
      have hl := (List.getElem?_eq_some_iff.mp hw).1
      have es : σ.set j (some w) = σ := by
        apply List.ext_getElem?
        intro k
        by_cases hk : k = j
        · subst hk; rw [List.getElem?_set_self hl]; exact hw.symm
        · rw [List.getElem?_set_ne (Ne.symm hk)]
      rw [es]
      exact ⟨G, F, Same.refl _, s⟩
    · rw [if_neg hj] at h'
      split at h'
      · rename_i m hm
        obtain ⟨rfl, hi, _⟩ := setS_some h'
        have hw : σ[j]? = some (some w) := r
        obtain ⟨s1, r1⟩ := s.move hm hw
        obtain ⟨G', e, s2, r2, _⟩ := fz_ok s1 r1
        have hjl : j < (ρ.set j none).length := by simpa using (List.getElem?_eq_some_iff.mp hm).1
        have s3 := s2.set (sv := .d (snapM m)) (v := w) hjl ⟨r2, rfl⟩ rfl (Fi := []) fun a z => nomatch z
        have es : σ.set j (some w) = σ := by
          have hl := (List.getElem?_eq_some_iff.mp hw).1
          apply List.ext_getElem?
          intro k
          by_cases hk : k = j
          · subst hk; rw [List.getElem?_set_self hl]; exact hw.symm
          · rw [List.getElem?_set_ne (Ne.symm hk)]
        rw [es, List.set_set] at s3
        exact ⟨G', _, e, s3.set (sv := .d (snapM m)) hi ⟨r2, rfl⟩ rfl (Fi := []) fun a z => nomatch z⟩
      · cases h'
end

/-! ### targets -/
abbrev Asg := EV → Env' → Option Env'
/-- the slots but those at ixs are as they were -/
def But (ixs : List Nat) (σ σ' : L2.St) : Prop := σ'.length = σ.length ∧ ∀ j, j ∉ ixs → σ'[j]? = σ[j]?
theorem But.refl (ixs : List Nat) (σ : L2.St) : But ixs σ σ := ⟨rfl, fun _ _ => rfl⟩
theorem But.trans {a b : List Nat} {σ σ1 σ2 : L2.St} (h1 : But a σ σ1) (h2 : But b σ1 σ2) : But (a ++ b) σ σ2 :=
  ⟨h2.1.trans h1.1, fun j hj => (h2.2 j fun z => hj (List.mem_append_right _ z)).trans (h1.2 j fun z => hj (List.mem_append_left _ z))⟩
theorem But.set (i : Nat) (σ : L2.St) (v : Option V) : But [i] σ (σ.set i v) := ⟨by simp, fun j hj => List.getElem?_set_ne (fun z => hj (by simp [z]))⟩
/-- one after another -/
def asgs : List D → List Asg → Env' → Option Env'
  | d :: ds, g :: gs, ρ => (g (.d d) ρ).bind fun ρ1 => asgs ds gs ρ1
  | [], [], ρ => some ρ
  | _, _, _ => none
def tTg (K : Fg) (ixs : List Nat) (asg : Asg) : TG := fun v σ H Q => ∃ P B G ρ F e ρ', SRF K P B G ρ σ H F ∧ EvR K P G H σ F e v ∧ asg e ρ = some ρ' ∧ ∀ G' F' σ', Same G G' → SRF K P B G' ρ' σ' H F' → But ixs σ σ' → Q σ' H
def tTgs (K : Fg) (ixs : List Nat) (gs : List Asg) : TGs := fun vs σ H Q => ∃ P B G ρ F ds ρ', SRF K P B G ρ σ H F ∧ RDs K G ds vs ∧ asgs ds gs ρ = some ρ' ∧ ∀ G' F' σ', Same G G' → SRF K P B G' ρ' σ' H F' → But ixs σ σ' → Q σ' H
def AG (X : Cx) (ixs : List Nat) (asg : Asg) (tg : Expr) : Prop := PG X tg (tTg X.K ixs asg)
def AGs (X : Cx) (ixs : List Nat) (gs : List Asg) (tgs : List Expr) : Prop := PGs X tgs (tTgs X.K ixs gs)
theorem _root_.L2.PG.imp {X : Cx} {e : Expr} {t t' : TG} (h : PG X e t) (w : ∀ v σ H Q, t' v σ H Q → t v σ H Q) : PG X e t' := ⟨fun pins s σ H v u Q I r q => h.run pins s σ H v u Q I r (w v σ H Q q)⟩
theorem _root_.L2.PGs.imp {X : Cx} {e : List Expr} {t t' : TGs} (h : PGs X e t) (w : ∀ v σ H Q, t' v σ H Q → t v σ H Q) : PGs X e t' := ⟨fun pins s σ H v u Q I r q => h.run pins s σ H v u Q I r (w v σ H Q q)⟩
/-- a tuple or list parted -/
def asgT (gs : List Asg) : Asg := fun e ρ => match dV ρ e with
  | some (.tuple ds) => asgs ds gs ρ
  | _ => none
def asgL (gs : List Asg) : Asg := fun e ρ => match dV ρ e with
  | some (.list ds) => asgs ds gs ρ
  | _ => none
theorem asgs_len : ∀ {ds : List D} {gs : List Asg} {ρ ρ' : Env'}, asgs ds gs ρ = some ρ' → ds.length = gs.length
  | [], [], _, _, _ => rfl
  | [], _ :: _, _, _, h => by cases h
  | _ :: _, [], _, _, h => by cases h
  | d :: ds, g :: gs, ρ, ρ', h => by
    have h' : ((g (.d d) ρ).bind fun ρ1 => asgs ds gs ρ1) = some ρ' := h
    cases q : g (.d d) ρ with
    | none => rw [q] at h'; cases h'
    | some ρ1 => rw [q] at h'; rw [List.length_cons, List.length_cons, asgs_len h']
section
variable {X : Cx} {W : WX} {e c t : Expr} {es ts : List Expr} {ixs jxs : List Nat} {pos : Pos} {x : Str}
theorem ag_name (own : Bool) (i : Nat) (hN : X.N.Nodup) (hi : X.N[i]? = some x := by rfl) (hx : Loc X.env.scope x := by first | exact .inl rfl | exact .inr rfl) (hf : X.fn x = true ∨ X.env.scope.names.lookup x = some .local := by first | exact .inl rfl | exact .inr rfl | assumption) :
    AG X [i] (asgN own i) (.Name x pos) := by
  refine (pg_name hN hi hx hf).imp fun v σ H Q h => ?_
  obtain ⟨P, B, G, ρ, F, e, ρ', s, r, h1, h2⟩ := h
  obtain ⟨G', F', e', s'⟩ := asgN_ok s h1 r
  exact h2 G' F' _ e' s' (But.set i σ _)
theorem ags_nil : AGs X [] [] [] := pgs_nil.imp fun v σ H Q h => by
  obtain ⟨P, B, G, ρ, F, ds, ρ', s, r, h2, h3⟩ := h
  cases r with
  | cons _ _ => cases h2
  | nil =>
    cases h2
    exact ⟨rfl, h3 G F σ (Same.refl _) s (But.refl _ _)⟩
theorem ags_cons {g : Asg} {gs : List Asg} (h1 : AG X ixs g t) (h2 : AGs X jxs gs ts) (hs : (assignEach (t :: ts) X.env).map (·.2) = assign t X.env :: (assignEach ts X.env).map (·.2) := by rfl) : AGs X (ixs ++ jxs) (g :: gs) (t :: ts) := by
  refine (pgs_cons h1 h2 hs).imp fun v σ H Q h => ?_
  obtain ⟨P, B, G, ρ, F, ds, ρ', s, r, h2, h3⟩ := h
  cases r with
  | nil => cases h2
  | cons r rs =>
    rename_i d w ds ws
    have h2' : ((g (.d d) ρ).bind fun ρ1 => asgs ds gs ρ1) = some ρ' := h2
    cases q : g (.d d) ρ with
    | none => rw [q] at h2'; cases h2'
    | some ρ1 =>
      rw [q] at h2'
      refine ⟨w, ws, rfl, P, B, G, ρ, F, .d d, ρ1, s, r, q, fun G1 F1 σ1 e1 s1 b1 => ?_⟩
      exact ⟨P, B, G1, ρ1, F1, ds, ρ', s1, rs.mono e1, h2', fun G2 F2 σ2 e2 s2 b2 => h3 G2 F2 σ2 (e1.trans e2) s2 (b1.trans b2)⟩
theorem ag_tup {k : Nat} {gs : List Asg} (hc : X.calm = true) (h : AGs X ixs gs es) (hn : (assignEach es X.env).length = gs.length := by rfl) (hst : (assignEach es X.env).findIdx? (·.1) = none := by rfl) : AG X ixs (asgT gs) (.Tuple es k pos) := by
  refine (pg_tup hc h hn hst).imp fun v σ H Q h => ?_
  obtain ⟨P, B, G, ρ, F, e, ρ', s, r, h1, h2⟩ := h
  unfold asgT at h1
  split at h1
  · rename_i ds hd
    obtain ⟨a, vs, rfl, ha, hr⟩ := (ShR.of s r hd).tup
    exact ⟨a, vs, rfl, (ha.mono s.sub).sqT, hr.length.trans (asgs_len h1), P, B, G, ρ, F, ds, ρ', s, hr, h1, h2⟩
  · cases h1
theorem ag_lst {k : Nat} {gs : List Asg} (hc : X.calm = true) (h : AGs X ixs gs es) (hn : (assignEach es X.env).length = gs.length := by rfl) (hst : (assignEach es X.env).findIdx? (·.1) = none := by rfl) : AG X ixs (asgL gs) (.Tuple es k pos) := by
  refine (pg_unl hc h hn hst).imp fun v σ H Q h => ?_
  obtain ⟨P, B, G, ρ, F, e, ρ', s, r, h1, h2⟩ := h
  unfold asgL at h1
  split at h1
  · rename_i ds hd
    obtain ⟨a, vs, rfl, ha, hr⟩ := (ShR.of s r hd).lst s.sub
    exact ⟨a, vs, rfl, SqL.of ha, hr.length.trans (asgs_len h1), P, B, G, ρ, F, ds, ρ', s, hr, h1, h2⟩
  · cases h1

/-! ### small statements -/
variable {m : Env' → R EV} {n : Env' → R Bool} {m1 m2 : Env' → RS} {st : Stmt} {sts body : List Stmt}
def sNil : Env' → RS := fun ρ => .nx ρ
def sSeq (m1 m2 : Env' → RS) : Env' → RS := fun ρ => (m1 ρ).then m2
theorem as_nil : ASs X W sNil [] := pss_nil.imp fun D σ H ⟨P, B, G, ρ, F, s, h⟩ => h G H F σ (Same.refl _) s
theorem as_cons (h1 : AS X W m1 st) (h2 : ASs X W m2 sts) : ASs X W (sSeq m1 m2) (st :: sts) :=
  (pss_cons h1 h2).imp fun D σ H ⟨P, B, G, ρ, F, s, h⟩ => ⟨P, B, G, ρ, F, s, PoS.then h⟩
theorem as_one (h1 : AS X W m1 st) : ASs X W m1 [st] := pss_one h1
def sPass : Env' → RS := fun ρ => .nx ρ
theorem as_pass : AS X W sPass (.Pass pos) := ps_pass.imp fun D σ H ⟨P, B, G, ρ, F, s, h⟩ => h G H F σ (Same.refl _) s
def sBreak : Env' → RS := fun ρ => .bk ρ
theorem as_break : AS X W sBreak (.Break pos) := ps_break.imp fun D σ H ⟨P, B, G, ρ, F, s, h⟩ => h G H F σ (Same.refl _) s
def sCont : Env' → RS := fun ρ => .ct ρ
theorem as_cont : AS X W sCont (.Continue pos) := ps_continue.imp fun D σ H ⟨P, B, G, ρ, F, s, h⟩ => h G H F σ (Same.refl _) s
def sExpr (m : Env' → R EV) : Env' → RS := fun ρ => (m ρ).toS fun _ ρ1 => .nx ρ1
theorem as_expr (h1 : AE X W m e) (hs : swapsWith e none pos.line X.env = pure false := by rfl) : AS X W (sExpr m) (.Expr e pos) :=
  (ps_expr h1 hs).imp fun D σ H ⟨P, B, G, ρ, F, s, h⟩ => ⟨P, B, G, ρ, F, s, (PoS.toS (rel := EvR X.K) (σ := σ) h).imp fun x H1 ⟨G1, ρ1, F1, e1, _, s1, r1, h1⟩ => h1 G1 H1 F1 σ (Same.refl _) s1⟩
/-- an own object that is handed back is moved out -/
def retV (e : EV) (ρ : Env') : RS := match e with
  | .al i => match ρ[i]? with
    | some (some (.o m)) => .rt (.fr m) (ρ.set i none)
    | _ => .bad
  | e => .rt e ρ
def sRet (m : Env' → R EV) : Env' → RS := fun ρ => (m ρ).toS retV
theorem as_ret (h1 : AE X W m e) : AS X W (sRet m) (.Return (some e) pos) := by
  refine (ps_ret h1).imp fun D σ H ⟨P, B, G, ρ, F, s, h⟩ => ⟨P, B, G, ρ, F, s, (PoS.toS (rel := EvR X.K) (σ := σ) h).imp fun x H1 ⟨G1, ρ1, F1, e1, _, s1, r1, h1⟩ => ?_⟩
  cases e1 with
  | d y => exact h1 G1 H1 F1 σ x (Same.refl _) s1 r1
  | fr m => exact h1 G1 H1 F1 σ x (Same.refl _) s1 r1
  | al i =>
    have h2 : PoS X.K W P B G1 (match ρ1[i]? with | some (some (.o m)) => .rt (.fr m) (ρ1.set i none) | _ => .bad) D := h1
    split at h2
    · rename_i m hm
      obtain ⟨s2, r2⟩ := s1.move hm r1
      exact h2 G1 H1 _ σ x (Same.refl _) s2 r2
    · exact h2.elim
def sRetN : Env' → RS := fun ρ => .rt (.d .none) ρ
theorem as_retN : AS X W sRetN (.Return none pos) := ps_retN.imp fun D σ H ⟨P, B, G, ρ, F, s, h⟩ => h G H F σ .non (Same.refl _) s .non
def sIf (c : Env' → R Bool) (m1 m2 : Env' → RS) : Env' → RS := fun ρ => (c ρ).toS fun b ρ1 => if b then m1 ρ1 else m2 ρ1
theorem as_if {orelse : List Stmt} (hc : AT X W n c) (h1 : ASs X W m1 body) (h2 : ASs X W m2 orelse) : AS X W (sIf n m1 m2) (.If c body orelse pos) := by
  refine (ps_if hc h1 h2).imp fun D σ H ⟨P, B, G, ρ, F, s, h⟩ => ⟨P, B, G, ρ, F, s, (PoS.toS (rel := BoR) (σ := σ) h).imp fun x H1 ⟨G1, ρ1, F1, e1, _, s1, r1, h1⟩ => ?_⟩
  subst r1
  cases e1 with
  | true => rw [if_pos rfl]; rw [if_pos rfl] at h1; exact ⟨P, B, G1, ρ1, F1, s1, h1⟩
  | false => rw [if_neg Bool.false_ne_true]; rw [if_neg Bool.false_ne_true] at h1; exact ⟨P, B, G1, ρ1, F1, s1, h1⟩
/-- code that isn't come to -/
def sNever : Env' → RS := fun _ => .bad
theorem as_never : AS X W sNever st := ps_never.imp fun D σ H ⟨P, B, G, ρ, F, s, h⟩ => h.elim
theorem ass_never : ASs X W sNever sts := pss_never.imp fun D σ H ⟨P, B, G, ρ, F, s, h⟩ => h.elim

/-! ### assignments -/
def RS.ofO (o : Option Env') : RS := match o with
  | some ρ => .nx ρ
  | none => .bad
@[simp] theorem RS.ofO_some (ρ : Env') : RS.ofO (some ρ) = .nx ρ := rfl
@[simp] theorem RS.ofO_none : RS.ofO none = .bad := rfl
def sAsg (asg : Asg) (m : Env' → R EV) : Env' → RS := fun ρ => (m ρ).toS fun e ρ1 => RS.ofO (asg e ρ1)
theorem asg_step {asg : Asg} {σ : L2.St} {H : Hp} {D : Ends} (h : tSt X.K W (sAsg asg m) D σ H) : tE X.K W m σ H (fun x H1 => tTg X.K ixs asg x σ H1 D.nx) := by
  obtain ⟨P, B, G, ρ, F, s, h⟩ := h
  refine ⟨P, B, G, ρ, F, s, (PoS.toS (rel := EvR X.K) (σ := σ) h).imp fun x H1 ⟨G1, ρ1, F1, e1, _, s1, r1, h1⟩ => ?_⟩
  cases q : asg e1 ρ1 with
  | none => rw [q] at h1; exact h1.elim
  | some ρ2 =>
    rw [q] at h1
    exact ⟨P, B, G1, ρ1, F1, e1, ρ2, s1, r1, q, fun G2 F2 σ2 e2 s2 _ => h1 G2 H1 F2 σ2 e2 s2⟩
/-- target = value (not a plain name) -/
theorem as_asg {asg : Asg} (h1 : AE X W m e) (h2 : AG X ixs asg t) (hs : swapsWithSole [t] e pos.line X.env = pure false := by rfl) (hw : swappedStores [t] e X.env = pure none := by rfl)
    (h3 : (assignEach [t] X.env).map (·.2) = [assign t X.env] := by rfl) : AS X W (sAsg asg m) (.Assign [t] e pos) :=
  (ps_asg h1 h2 hs hw h3).imp fun D σ H h => asg_step h
theorem as_set (own : Bool) (i : Nat) {pos' : Pos} (hN : X.N.Nodup) (h1 : AE X W m e) (hi : X.N[i]? = some x := by rfl) (hx : Loc X.env.scope x := by first | exact .inl rfl | exact .inr rfl) (hs : swapsWith e (some (.Name x pos')) pos.line X.env = pure false := by rfl)
    (hf : X.fn x = true ∨ X.env.scope.names.lookup x = some .local := by first | exact .inl rfl | exact .inr rfl | assumption) : AS X W (sAsg (asgN own i) m) (.Assign [.Name x pos'] e pos) := by
  refine (ps_set hN hi hx h1 hs hf).imp fun D σ H h => ?_
  obtain ⟨P, B, G, ρ, F, s, h⟩ := asg_step (ixs := [i]) h
  refine ⟨P, B, G, ρ, F, s, h.imp fun x H1 h1 => ?_⟩
  obtain ⟨P, B, G, ρ, F, e, ρ', s, r, h2, h3⟩ := h1
  obtain ⟨G', F', e', s'⟩ := asgN_ok s h2 r
  exact h3 G' F' _ e' s' (But.set i σ _)
/-- x op= e on data -/
def sAug (f : D → D → Option EV) (i : Nat) (m : Env' → R EV) : Env' → RS := fun ρ => match ρ[i]? with
  | some (some (.d a)) => (m ρ).toS fun e ρ1 => match (dV ρ1 e).bind fun b => f a b with
    | some ev => RS.ofO (asgN false i ev ρ1)
    | none => .bad
  | _ => .bad
theorem as_aug {op : Operator} {f : D → D → Option EV} (i : Nat) {pos' : Pos} (hN : X.N.Nodup) (ho : Op2 X (inplaceOp op) f) (h1 : AE X W m e) (hi : X.N[i]? = some x := by rfl) (hx : Loc X.env.scope x := by first | exact .inl rfl | exact .inr rfl)
    (hf : X.fn x = true ∨ X.env.scope.names.lookup x = some .local := by first | exact .inl rfl | exact .inr rfl | assumption) : AS X W (sAug f i m) (.AugAssign (.Name x pos') op e pos) := by
  obtain ⟨r, hr, hrf⟩ := ho
  refine (ps_aug hN hi hx h1 hr hf).imp fun D σ H h => ?_
  obtain ⟨P, B, G, ρ, F, s, h⟩ := h
  unfold sAug at h
  split at h
  · rename_i a ha
    obtain ⟨v, h2, h3, _⟩ := s.slot i _ ha
    refine ⟨v, h2, P, B, G, ρ, F, s, (PoS.toS (rel := EvR X.K) (σ := σ) h).imp fun y H1 ⟨G1, ρ1, F1, e1, g1, s1, r1, h1⟩ => ?_⟩
    cases q : dV ρ1 e1 with
    | none => simp only [q, Option.bind_none] at h1; exact h1.elim
    | some b =>
      simp only [q, Option.bind_some] at h1
      cases q2 : f a b with
      | none => simp only [q2] at h1; exact h1.elim
      | some ev =>
        simp only [q2] at h1
        refine hrf G1 H1 v y a b ev _ s1.sub (.d (RD.mono g1 h3.1)) (.of s1 r1 q) q2 fun w G2 H2 g2 n2 => ?_
        have s2 := s1.grow g2
        have r2 := s1.new g2 n2
        cases q3 : asgN false i ev ρ1 with
        | none => rw [q3] at h1; exact h1.elim
        | some ρ2 =>
          rw [q3] at h1
          obtain ⟨G3, F3, e3, s3⟩ := asgN_ok s2 q3 r2
          exact h1 G3 H2 F3 _ (g2.gg.trans e3) s3
  · exact h.elim
theorem o_iadd : Op2 X (inplaceOp .Add) (fun a b => match a, b with | .int i, .int j => some (.d (.int (i + j))) | .str x, .str y => if x.length + y.length ≤ sizeLine then some (.d (.str (x ++ y))) else none | _, _ => none) := by
  refine ⟨_, iop_add.or iop_add_str, fun G H x y a b ev Q s ha hb e res => ?_⟩
  cases a <;> cases b <;> first
    | (cases e; done)
    | (cases e; rw [ha.int, hb.int]; exact .inl ⟨_, _, rfl, rfl, res.same s (.int _)⟩)
    | skip
  rename_i p q
  by_cases hz : p.length + q.length ≤ sizeLine
  · simp only [if_pos hz] at e; cases e
    rw [ha.str, hb.str]; exact .inr ⟨_, _, rfl, rfl, hz, res.same s (.str _)⟩
  · simp only [if_neg hz] at e; cases e
theorem o_isub : Op2 X (inplaceOp .Sub) fSub := by
  refine ⟨_, iop_sub, fun G H x y a b ev Q s ha hb e res => ?_⟩
  cases a <;> cases b <;> first
    | (cases e; rw [ha.int, hb.int]; exact ⟨_, _, rfl, rfl, res.same s (.int _)⟩)
    | cases e
end
end Mi
/-! text MiG -/
set_option Elab.async false
set_option linter.all false
set_option maxRecDepth 100000
set_option maxHeartbeats 4000000
/-! MiG: while, what is walked, for, comprehensions. -/
namespace Mi
open PySem PySem.Spec PyProof.Rows L2

/-! ### while -/
/-- a loop's turn behind its body -/
def RS.loop (r : RS) (again : Env' → RS) : RS := match r with
  | .nx ρ => again ρ
  | .ct ρ => again ρ
  | .bk ρ => .nx ρ
  | r => r
@[simp] theorem RS.loop_nx (ρ : Env') (f : Env' → RS) : (RS.nx ρ).loop f = f ρ := rfl
@[simp] theorem RS.loop_ct (ρ : Env') (f : Env' → RS) : (RS.ct ρ).loop f = f ρ := rfl
@[simp] theorem RS.loop_bk (ρ : Env') (f : Env' → RS) : (RS.bk ρ).loop f = .nx ρ := rfl
@[simp] theorem RS.loop_rt (e : EV) (ρ : Env') (f : Env' → RS) : (RS.rt e ρ).loop f = .rt e ρ := rfl
@[simp] theorem RS.loop_exc (x : Ex) (ρ : Env') (f : Env' → RS) : (RS.exc x ρ).loop f = .exc x ρ := rfl
@[simp] theorem RS.loop_bad (f : Env' → RS) : RS.bad.loop f = .bad := rfl
def wN (c : Env' → R Bool) (b : Env' → RS) : Nat → Env' → RS
  | 0, _ => .bad
  | n + 1, ρ => (c ρ).toS fun t ρ1 => if t then (b ρ1).loop (wN c b n) else .nx ρ1
theorem wN_more (c : Env' → R Bool) (b : Env' → RS) : ∀ (n : Nat) (ρ : Env'), wN c b n ρ ≠ .bad → wN c b (n + 1) ρ = wN c b n ρ
  | 0, ρ, h => absurd rfl h
  | n + 1, ρ, h => by
    have ih := wN_more c b n
    rw [wN] at h
    rw [wN, wN]
    cases q : c ρ with
    | exc x ρ1 => rfl
    | bad => rfl
    | ok t ρ1 =>
      rw [q] at h
      simp only [R.toS_ok] at h ⊢
      cases t with
      | false => rfl
      | true =>
        simp only [if_true] at h ⊢
        cases q2 : b ρ1 with
        | nx ρ2 => rw [q2] at h; exact ih ρ2 h
        | ct ρ2 => rw [q2] at h; exact ih ρ2 h
        | _ => rfl
theorem wN_le (c : Env' → R Bool) (b : Env' → RS) (ρ : Env') {n : Nat} (h : wN c b n ρ ≠ .bad) : ∀ k, wN c b (n + k) ρ = wN c b n ρ
  | 0 => rfl
  | k + 1 => by
    have ih := wN_le c b ρ h k
    rw [← ih]
    exact wN_more c b (n + k) ρ (by rw [ih]; exact h)
open Classical in
noncomputable def sWhile (c : Env' → R Bool) (b : Env' → RS) : Env' → RS := fun ρ => if h : ∃ n, wN c b n ρ ≠ .bad then wN c b h.choose ρ else .bad
theorem sWhile_of {c : Env' → R Bool} {b : Env' → RS} {ρ : Env'} {n : Nat} {r : RS} (h : wN c b n ρ = r) (hr : r ≠ .bad) : sWhile c b ρ = r := by
  have ex : ∃ n, wN c b n ρ ≠ .bad := ⟨n, by rw [h]; exact hr⟩
  unfold sWhile
  rw [dif_pos ex, ← h]
  have h1 := ex.choose_spec
  have h2 : wN c b n ρ ≠ .bad := by rw [h]; exact hr
  rcases Nat.le_total ex.choose n with hl | hl
  · obtain ⟨k, e⟩ := Nat.exists_eq_add_of_le hl
    rw [e]; exact (wN_le c b ρ h1 k).symm
  · obtain ⟨k, e⟩ := Nat.exists_eq_add_of_le hl
    rw [e]; exact wN_le c b ρ h2 k
theorem sWhile_to {c : Env' → R Bool} {b : Env' → RS} {ρ : Env'} (h : sWhile c b ρ ≠ .bad) : ∃ n, wN c b n ρ = sWhile c b ρ := by
  by_cases ex : ∃ n, wN c b n ρ ≠ .bad
  · exact ⟨ex.choose, by unfold sWhile; rw [dif_pos ex]⟩
  · exact absurd (by unfold sWhile; rw [dif_neg ex]) h
/-- one turn of a while -/
theorem sWhile_eq (c : Env' → R Bool) (b : Env' → RS) (ρ : Env') : sWhile c b ρ = (c ρ).toS fun t ρ1 => if t then (b ρ1).loop (sWhile c b) else .nx ρ1 := by
  cases q : c ρ with
  | bad =>
    have : ¬ ∃ n, wN c b n ρ ≠ .bad := fun ⟨n, h⟩ => h (by cases n <;> simp [wN, q])
    unfold sWhile; rw [dif_neg this]; rfl
  | exc x ρ1 => exact sWhile_of (n := 1) (by simp [wN, q]) (by simp)
  | ok t ρ1 =>
    simp only [R.toS_ok]
    cases t with
    | false => exact sWhile_of (n := 1) (by simp [wN, q]) (by simp)
    | true =>
      simp only [if_true]
      have go : ∀ ρ2, (∀ n, wN c b (n + 1) ρ = wN c b n ρ2) → sWhile c b ρ = sWhile c b ρ2 := fun ρ2 h => by
        by_cases hb : sWhile c b ρ2 = .bad
        · rw [hb]
          have : ¬ ∃ n, wN c b n ρ ≠ .bad := fun ⟨n, hn⟩ => by
            cases n with
            | zero => exact hn rfl
            | succ n =>
              rw [h n] at hn
              exact hn ((sWhile_of rfl hn).symm.trans hb)
          unfold sWhile; rw [dif_neg this]
        · obtain ⟨n, hn⟩ := sWhile_to hb
          exact sWhile_of (n := n + 1) (by rw [h n, hn]) hb
      cases q2 : b ρ1 with
      | nx ρ2 => exact go ρ2 fun n => by simp [wN, q, q2]
      | ct ρ2 => exact go ρ2 fun n => by simp [wN, q, q2]
      | bk ρ2 => exact sWhile_of (n := 1) (by simp [wN, q, q2]) (by simp)
      | rt e ρ2 => exact sWhile_of (n := 1) (by simp [wN, q, q2]) (by simp)
      | exc e ρ2 => exact sWhile_of (n := 1) (by simp [wN, q, q2]) (by simp)
      | bad =>
        have : ¬ ∃ n, wN c b n ρ ≠ .bad := fun ⟨n, h⟩ => h (by cases n <;> simp [wN, q, q2])
        unfold sWhile; rw [dif_neg this]; rfl
section
variable {X : Cx} {W : WX} {c : Expr} {body : List Stmt} {pos : Pos} {n : Env' → R Bool} {mb : Env' → RS}
theorem PoS.loop {K : Fg} {P : Hp} {B : Nat → Option V} {G : Hp} {r : RS} {f : Env' → RS} {D : Ends} {N : L2.St → Hp → Prop} (h : PoS K W P B G (r.loop f) D)
    (hN : ∀ ρ' G' H' F' σ', Same G G' → SRF K P B G' ρ' σ' H' F' → PoS K W P B G' (f ρ') D → N σ' H') : PoS K W P B G r { D with nx := N, ct := N, bk := D.nx } := by
  cases r with
  | nx ρ' => exact fun G1 H1 F1 s1 e1 sr => hN ρ' G1 H1 F1 s1 e1 sr (h.mono e1)
  | ct ρ' => exact fun G1 H1 F1 s1 e1 sr => hN ρ' G1 H1 F1 s1 e1 sr (h.mono e1)
  | bk ρ' => exact h
  | rt e ρ' => exact h
  | exc x ρ' => exact h
  | bad => exact h
theorem as_while (hp : PassesOwn (model X.prog X.w) X.A X.env X.xe) (hc : AT X W n c) (hb : ASs X W mb body) : AS X W (sWhile n mb) (.While c body [] pos) := by
  refine (ps_while hp hc hb).imp fun D σ H ⟨P, B, G, ρ, F, s, h⟩ => ?_
  have hne : sWhile n mb ρ ≠ .bad := fun z => by rw [z] at h; exact h
  obtain ⟨k, hk⟩ := sWhile_to hne
  refine ⟨fun m σ H => ∃ G ρ F, SRF X.K P B G ρ σ H F ∧ PoS X.K W P B G (wN n mb m ρ) D, ⟨k, G, ρ, F, s, by rw [hk]; exact h⟩, fun m σ1 H1 ⟨G1, ρ1, F1, s1, h1⟩ => ?_⟩
  cases m with
  | zero => exact h1.elim
  | succ m =>
    rw [wN] at h1
    refine ⟨P, B, G1, ρ1, F1, s1, (PoS.toS (rel := BoR) (σ := σ1) h1).imp fun t H2 ⟨G2, ρ2, F2, t', g2, s2, r2, h2⟩ => ?_⟩
    subst r2
    cases t' with
    | false => rw [if_neg Bool.false_ne_true]; rw [if_neg Bool.false_ne_true] at h2; exact h2 G2 H2 F2 σ1 (Same.refl _) s2
    | true =>
      rw [if_pos rfl]; rw [if_pos rfl] at h2
      refine ⟨fun σ' H' => ∃ G ρ F, SRF X.K P B G ρ σ' H' F ∧ PoS X.K W P B G (wN n mb m ρ) D, fun σ' H' q => ⟨m, Nat.lt_succ_self _, q⟩, P, B, G2, ρ2, F2, s2, PoS.loop h2 fun ρ' G' H' F' σ' e' s' h' => ⟨G', ρ', F', s', h'⟩⟩
end

/-! ### what is walked: its items are data -/
def ItR (K : Fg) : Rel (List D) It := fun _ G _ _ _ xs J => ∀ G1 H1, Same G G1 → Same G1 H1 → (∀ i, i < xs.length → J.go i H1) ∧ J.stop xs.length H1 ∧
  ∀ (i : Nat) x H', i < xs.length → J.yld i H1 x H' → ∃ G' d, xs[i]? = some d ∧ Grow G1 H1 G' H' ∧ RD K G' d x
def AI (X : Cx) (W : WX) (m : Env' → R (List D)) (tg iter : Expr) : Prop := PI X tg iter (tG (ItR X.K) X.K W m)
theorem _root_.L2.PI.imp {X : Cx} {tg e : Expr} {t t' : TI} (h : PI X tg e t) (w : ∀ σ H Q, t' σ H Q → t σ H Q) : PI X tg e t' := ⟨fun pins s σ H Q I q => h.run pins s σ H Q I (w σ H Q q)⟩
theorem itr_list {K : Fg} {P G H : Hp} {σ : L2.St} {F : Nat → List Addr} {a : Addr} {xs : List D} {vs : List V} (h : G a = some (.lst vs)) (r : RDs K G xs vs) : ItR K P G H σ F xs (Itl K a) := fun G1 H1 e1 e2 => by
  have hl : SqL K H1 a vs := SqL.of (e2 _ _ (e1 _ _ h))
  have hn := r.length
  refine ⟨fun i hi => ⟨vs, vs[i]'(by omega), hl, by simp [hn, hi]⟩, ⟨vs, hl, by omega⟩, fun i x H' hi ⟨eH, hx⟩ => ?_⟩
  subst eH
  obtain ⟨d, h1, h2⟩ := (r.mono e1).get' (hx vs hl)
  exact ⟨G1, d, h1, Grow.refl e2, h2⟩
theorem itr_tup {K : Fg} {P G H : Hp} {σ : L2.St} {F : Nat → List Addr} {a : Addr} {xs : List D} {vs : List V} (h : TupG K G a vs xs) (r : RDs K G xs vs) : ItR K P G H σ F xs (Itt K a) := fun G1 H1 e1 e2 => by
  have hl : SqT K H1 a vs := (h.mono (e1.trans e2)).sqT
  have hn := r.length
  refine ⟨fun i hi => ⟨vs, vs[i]'(by omega), hl, by simp [hn, hi]⟩, ⟨vs, hl, by omega⟩, fun i x H' hi ⟨eH, hx⟩ => ?_⟩
  subst eH
  obtain ⟨d, h1, h2⟩ := (r.mono e1).get' (hx vs hl)
  exact ⟨G1, d, h1, Grow.refl e2, h2⟩
theorem itr_scr {K : Fg} {P G H : Hp} {σ : L2.St} {F : Nat → List Addr} {a : Addr} {ns : List Int} (h : SqL K G a (ns.map V.int)) : ItR K P G H σ F (ns.map .int) (Itl K a) := fun G1 H1 e1 e2 => by
  have hl : SqL K H1 a (ns.map V.int) := (e1.trans e2).seq h
  refine ⟨fun i hi => ⟨_, V.int (ns[i]'(by simpa using hi)), hl, by simp at hi; simp [hi]⟩, ⟨_, hl, by simp⟩, fun i x H' hi ⟨eH, hx⟩ => ?_⟩
  subst eH
  have h1 := hx _ hl
  simp only [List.length_map] at hi
  have h2 : (ns.map V.int)[i]? = some (.int ns[i]) := by simp [hi]
  rw [h2] at h1; cases h1
  exact ⟨G1, .int ns[i], by simp [hi], Grow.refl e2, .int _⟩
theorem itr_str {K : Fg} {P G H : Hp} {σ : L2.St} {F : Nat → List Addr} {z : Str} : ItR K P G H σ F (z.cps.toList.map fun c => .str ⟨#[c]⟩) (Its z) := fun G1 H1 e1 e2 => by
  refine ⟨fun i hi => by have := hi; simp only [List.length_map, Array.length_toList] at this; exact this, by simp [Its], fun i x H' hi ⟨eH, c, hc, ex⟩ => ?_⟩
  subst eH ex
  have hi' : i < z.cps.size := by simpa using hi
  have hc' : z.cps[i] = c := by simpa [hi'] using hc
  exact ⟨G1, .str ⟨#[c]⟩, by simp [hi', hc'], Grow.refl e2, .str _⟩
theorem itr_rng {K : Fg} {P G H : Hp} {σ : L2.St} {F : Nat → List Addr} {lo : Int} {n : Nat} : ItR K P G H σ F ((List.range n).map fun k => .int (lo + (k : Nat))) (Itr lo n) := fun G1 H1 e1 e2 => by
  refine ⟨fun i hi => by have := hi; simp only [List.length_map, List.length_range] at this; exact this, by simp [Itr], fun i x H' hi ⟨eH, ex⟩ => ?_⟩
  subst eH ex
  have hi' : i < n := by simpa using hi
  exact ⟨G1, .int (lo + (i : Nat)), by simp [hi'], Grow.refl e2, .int _⟩

/-- the items of a value that is walked; a slot's own list is frozen by it -/
def itV (e : EV) (ρ : Env') : R (List D) := match e with
  | .d (.list xs) => .ok xs ρ
  | .d (.tuple xs) => .ok xs ρ
  | .d (.str z) => .ok (z.cps.toList.map fun c => .str ⟨#[c]⟩) ρ
  | .fr (.lst xs) => .ok xs ρ
  | .al i => match ρ[i]? with
    | some (some (.o (.lst xs))) => .ok xs (ρ.set i (some (.d (.list xs))))
    | some (some (.scr ns)) => .ok (ns.map .int) ρ
    | _ => .bad
  | _ => .bad
def iSeq (m : Env' → R EV) : Env' → R (List D) := fun ρ => (m ρ).bind itV
section
variable {X : Cx} {W : WX} {tg e a b t elt : Expr} {es : List Expr} {m m1 : Env' → R EV} {ms : Env' → R (List EV)} {mi : Env' → R (List D)} {mb : Env' → RS} {asg : Asg} {pos p : Pos} {body : List Stmt}
def tSeqI (K : Fg) (te : TE) : TI := fun σ H R => te σ H fun x H1 => (∃ a, x = .ref a ∧ (∃ xs, SqL K H1 a xs) ∧ R (Itl K a) H1) ∨ (∃ a, x = .ref a ∧ (∃ xs, SqT K H1 a xs) ∧ R (Itt K a) H1) ∨ ∃ z, x = .str z ∧ R (Its z) H1
theorem pi_seq {te : TE} (he : PE X e te) : PI X tg e (tSeqI X.K te) := by
  refine ⟨fun pins s σ H R I h => thn (he.run pins s σ H _ I h) fun v s1 ⟨x, H1, I1, r1, q1⟩ => ?_⟩
  rcases q1 with ⟨a, ex, ⟨xs, hq⟩, q⟩ | ⟨a, ex, ⟨xs, hq⟩, q⟩ | ⟨z, ex, q⟩
  · subst ex
    cases r1
    obtain ⟨its, _, pl, _⟩ := I1.list hq
    have new := I1.fpOk (H' := H1) (Nat.le_refl s1.heap.objs.size) (I1.hok.fresh (Nat.le_refl _))
    exact wpAny_pyIter_list pl.isList ⟨_, [s1.heap.objs.size], _, _, H1, rfl, I1.kept (t' := s1.toks) fun _ _ k => Heap.get?_push_of_some _ k, turn_list a _, ⟨_, Heap.get?_push_size _ rfl, rfl, rfl⟩, fun c hc => (List.mem_singleton.mp hc) ▸ new, q⟩
  · subst ex
    cases r1
    obtain ⟨its, _, pl, _⟩ := I1.tuple hq
    have new := I1.fpOk (H' := H1) (Nat.le_refl s1.heap.objs.size) (I1.hok.fresh (Nat.le_refl _))
    exact wpAny_pyIter_tuple (show s1.heap.IsTuple a its.toArray from pl) ⟨_, [s1.heap.objs.size], _, _, H1, rfl, I1.kept (t' := s1.toks) fun _ _ k => Heap.get?_push_of_some _ k, turn_tuple a _, ⟨_, Heap.get?_push_size _ rfl, rfl, rfl⟩, fun c hc => (List.mem_singleton.mp hc) ▸ new, q⟩
  · subst ex
    obtain ⟨tk, rfl⟩ := r1
    cases hw : z.cps.all (· < 128) with
    | false => exact wpAny_pyIter_wide hw (pi_one (tk := s1.toks) I1 _ (turn_str _ z tk "str_iterator" (.inr rfl)) ⟨_, Heap.get?_push_size _ rfl, rfl, rfl⟩ q)
    | true => exact wpAny_pyIter_ascii hw (pi_one (tk := s1.toks) I1 _ (turn_str _ z tk "str_ascii_iterator" (.inl rfl)) ⟨_, Heap.get?_push_size _ rfl, rfl, rfl⟩ q)
theorem ai_seq (h1 : AE X W m e) : AI X W (iSeq m) tg e := by
  refine (pi_seq h1).imp fun σ H Q ⟨P, B, G, ρ, F, s, h⟩ => ⟨P, B, G, ρ, F, s, (Po.bind (rel := EvR X.K) h).imp fun x H1 ⟨G1, ρ1, F1, e1, _, s1, r1, h1⟩ => ?_⟩
  cases e1 with
  | d y =>
    cases y with
    | list xs =>
      cases r1 with
      | lst h2 h3 => exact .inl ⟨_, rfl, ⟨_, SqL.of (s1.sub _ _ h2)⟩, h1 G1 H1 F1 _ (Same.refl _) s1 (itr_list h2 h3)⟩
    | tuple xs =>
      cases r1 with
      | tup h2 h3 => exact .inr (.inl ⟨_, rfl, ⟨_, (h2.mono s1.sub).sqT⟩, h1 G1 H1 F1 _ (Same.refl _) s1 (itr_tup h2 h3)⟩)
    | str z =>
      have ex := RD.ofStr r1
      exact .inr (.inr ⟨z, ex, h1 G1 H1 F1 _ (Same.refl _) s1 itr_str⟩)
    | _ => exact h1.elim
  | fr m =>
    cases m with
    | lst xs =>
      obtain ⟨G2, e2, s2, r2, _⟩ := fz_ok s1 r1
      cases r2 with
      | lst h2 h3 => exact .inl ⟨_, rfl, ⟨_, SqL.of (s2.sub _ _ h2)⟩, h1 G2 H1 F1 _ e2 s2 (itr_list h2 h3)⟩
    | _ => exact h1.elim
  | al i =>
    have h2 : Po (ItR X.K) X.K W P B G1 σ (match ρ1[i]? with
      | some (some (.o (.lst xs))) => .ok xs (ρ1.set i (some (.d (.list xs))))
      | some (some (.scr ns)) => .ok (ns.map .int) ρ1
      | _ => .bad) Q := h1
    split at h2
    · rename_i xs hx
      obtain ⟨s2, r2⟩ := s1.move hx r1
      obtain ⟨G3, e3, s3, r3, _⟩ := fz_ok s2 r2
      have hw : σ[i]? = some (some x) := r1
      have hjl : i < (ρ1.set i none).length := by simpa using (List.getElem?_eq_some_iff.mp hx).1
      have s4 := s3.set (sv := .d (.list xs)) (v := x) hjl ⟨r3, rfl⟩ rfl (Fi := []) fun a z => nomatch z
      have es : σ.set i (some x) = σ := by
        have hl := (List.getElem?_eq_some_iff.mp hw).1
        apply List.ext_getElem?
        intro k
        by_cases hk : k = i
        · subst hk; rw [List.getElem?_set_self hl]; exact hw.symm
        · rw [List.getElem?_set_ne (Ne.symm hk)]
      rw [es, List.set_set] at s4
      cases r3 with
      | lst h5 h6 => exact .inl ⟨_, rfl, ⟨_, SqL.of (s4.sub _ _ h5)⟩, h2 G3 H1 _ _ e3 s4 (itr_list h5 h6)⟩
    · rename_i ns hx
      obtain ⟨v, h3, ⟨⟨a, ea, ha⟩, _⟩, _⟩ := s1.slot i _ hx
      have hw : σ[i]? = some (some x) := r1
      rw [h3] at hw; cases hw
      exact .inl ⟨a, ea, ⟨_, s1.sub.seq ha⟩, h2 G1 H1 F1 _ (Same.refl _) s1 (itr_scr ha)⟩
    · exact h2.elim
/-- range(n), range(a, b) -/
def rng1 (es : List EV) : Option (List D) := match es with
  | [.d (.int n)] => if -(2 ^ 62) ≤ n ∧ n < 2 ^ 62 then some ((List.range n.toNat).map fun k => .int (k : Nat)) else none
  | _ => none
def rng2 (es : List EV) : Option (List D) := match es with
  | [.d (.int a), .d (.int b)] => if -(2 ^ 62) ≤ a ∧ a < 2 ^ 62 ∧ -(2 ^ 62) ≤ b ∧ b < 2 ^ 62 then some ((List.range (b - a).toNat).map fun k => .int (a + (k : Nat))) else none
  | _ => none
def iCall (g : List EV → Option (List D)) (ms : Env' → R (List EV)) : Env' → R (List D) := fun ρ => (ms ρ).bind fun es ρ1 => R.ofO (g es) ρ1
theorem EvRs.one {K : Fg} {P G H : Hp} {σ : L2.St} {F : Nat → List Addr} {ev : EV} {ws : List V} (r : EvRs K P G H σ F [ev] ws) : ∃ w, ws = [w] ∧ EvR K P G H σ F ev w := by
  obtain ⟨hl, h⟩ := r
  cases ws with
  | nil => cases hl
  | cons w ws =>
    cases ws with
    | nil => exact ⟨w, rfl, (h 0 ev w rfl rfl).2⟩
    | cons _ _ => cases hl
theorem EvRs.two {K : Fg} {P G H : Hp} {σ : L2.St} {F : Nat → List Addr} {ev fv : EV} {ws : List V} (r : EvRs K P G H σ F [ev, fv] ws) : ∃ w u, ws = [w, u] ∧ EvR K P G H σ F ev w ∧ EvR K P G H σ F fv u := by
  obtain ⟨hl, h⟩ := r
  cases ws with
  | nil => cases hl
  | cons w ws =>
    cases ws with
    | nil => cases hl
    | cons u ws =>
      cases ws with
      | nil => exact ⟨w, u, rfl, (h 0 ev w rfl rfl).2, (h 1 fv u rfl rfl).2⟩
      | cons _ _ => cases hl
theorem ai_rng1 (hg : Gl X "range") (hm : X.mg "range" = none) (ha : AA X W ms [a]) (hs : starEach [a] X.env = [(false, eval a X.env)] := by rfl) : AI X W (iCall rng1 ms) tg (.Call (.Name "range" p) [a] [] pos) := by
  refine (pi_range1 hg hm ha hs).imp fun σ H Q ⟨P, B, G, ρ, F, s, h⟩ => ⟨P, B, G, ρ, F, s, (Po.bind (rel := EvRs X.K) h).imp fun ws H1 ⟨G1, ρ1, F1, e1, _, s1, r1, h1⟩ => ?_⟩
  have h2 : Po (ItR X.K) X.K W P B G1 σ (R.ofO (rng1 e1) ρ1) Q := h1
  unfold rng1 at h2
  split at h2
  · split at h2
    · rename_i n hn
      obtain ⟨w, rfl, r2⟩ := r1.one
      refine ⟨n, by rw [RD.ofInt r2], hn.1, hn.2, h2 G1 H1 F1 _ (Same.refl _) s1 ?_⟩
      have z := itr_rng (K := X.K) (P := P) (G := G1) (H := H1) (σ := σ) (F := F1) (lo := 0) (n := n.toNat)
      simpa using z
    · exact h2.elim
  · exact h2.elim
theorem ai_rng2 (hg : Gl X "range") (hm : X.mg "range" = none) (ha : AA X W ms [a, b]) (hs : starEach [a, b] X.env = [(false, eval a X.env), (false, eval b X.env)] := by rfl) (hs2 : starEach [b] X.env = [(false, eval b X.env)] := by rfl) : AI X W (iCall rng2 ms) tg (.Call (.Name "range" p) [a, b] [] pos) := by
  refine (pi_range2 hg hm ha hs hs2).imp fun σ H Q ⟨P, B, G, ρ, F, s, h⟩ => ⟨P, B, G, ρ, F, s, (Po.bind (rel := EvRs X.K) h).imp fun ws H1 ⟨G1, ρ1, F1, e1, _, s1, r1, h1⟩ => ?_⟩
  have h2 : Po (ItR X.K) X.K W P B G1 σ (R.ofO (rng2 e1) ρ1) Q := h1
  unfold rng2 at h2
  split at h2
  · split at h2
    · rename_i i j hn
      obtain ⟨w, u, rfl, r2, r3⟩ := r1.two
      exact ⟨i, j, by rw [RD.ofInt r2, RD.ofInt r3], hn, h2 G1 H1 F1 _ (Same.refl _) s1 itr_rng⟩
    · exact h2.elim
  · exact h2.elim

/-! ### for -/
def fL (asg : Asg) (b : Env' → RS) : List D → Env' → RS
  | [], ρ => .nx ρ
  | d :: ds, ρ => (RS.ofO (asg (.d d) ρ)).then fun ρ1 => (b ρ1).loop (fL asg b ds)
def sFor (mi : Env' → R (List D)) (asg : Asg) (b : Env' → RS) : Env' → RS := fun ρ => (mi ρ).toS fun xs ρ1 => fL asg b xs ρ1
theorem as_for {ixs : List Nat} (hp : PassesOwn (model X.prog X.w) X.A X.env X.xe) (hc : X.calm = true) (hi : AI X W mi tg e) (hg : AG X ixs asg tg) (hb : ASs X W mb body) (hs : ∀ x, foldedSetIterable e X.env x = pure x := by intro _; rfl) :
    AS X W (sFor mi asg mb) (.For tg e body [] pos) := by
  refine (ps_for hp hc hi hg hb hs).imp fun D σ H ⟨P, B, G, ρ, F, s, h⟩ => ⟨P, B, G, ρ, F, s, (PoS.toS (rel := ItR X.K) (σ := σ) h).imp fun J H1 ⟨G1, ρ1, F1, xs, _, s1, r1, h1⟩ => ?_⟩
  refine ⟨fun i m σ H => ∃ G ρ F, Same G1 G ∧ SRF X.K P B G ρ σ H F ∧ m = xs.length - i ∧ i ≤ xs.length ∧ PoS X.K W P B G (fL asg mb (xs.drop i) ρ) D, ⟨_, G1, ρ1, F1, Same.refl _, s1, rfl, Nat.zero_le _, h1⟩, ?_⟩
  rintro i m σ2 H2 ⟨G2, ρ2, F2, e2, s2, rfl, hi2, h2⟩
  obtain ⟨q1, q2, q3⟩ := r1 G2 H2 e2 s2.sub
  by_cases hlt : i < xs.length
  · refine .inr ⟨q1 i hlt, fun σ H => ∃ G ρ F, Same G1 G ∧ SRF X.K P B G ρ σ H F ∧ PoS X.K W P B G (fL asg mb (xs.drop (i + 1)) ρ) D, ?_, fun x H3 hy => ?_⟩
    · rintro σ' H' ⟨G', ρ', F', e', s', h'⟩
      exact ⟨xs.length - (i + 1), by omega, G', ρ', F', e', s', rfl, hlt, h'⟩
    · obtain ⟨G3, d, hd, g3, rd⟩ := q3 i x H3 hlt hy
      have ed : xs.drop i = d :: xs.drop (i + 1) := by
        rw [List.drop_eq_getElem_cons hlt]
        rw [List.getElem?_eq_getElem hlt] at hd
        cases hd
        rfl
      rw [ed, fL] at h2
      cases q : asg (.d d) ρ2 with
      | none => rw [q] at h2; exact h2.elim
      | some ρ3 =>
        rw [q] at h2
        refine ⟨P, B, G3, ρ2, F2, .d d, ρ3, s2.grow g3, rd, q, fun G4 F4 σ4 e4 s4 _ => ?_⟩
        refine ⟨P, B, G4, ρ3, F4, s4, PoS.loop (PoS.mono (g3.gg.trans e4) h2) fun ρ' G' H' F' σ' e' s' h' => ⟨G', ρ', F', ((e2.trans g3.gg).trans e4).trans e', s', h'⟩⟩
  · have hie : i = xs.length := by omega
    subst hie
    rw [List.drop_eq_nil_of_le (Nat.le_refl _), fL] at h2
    exact .inl ⟨q2, h2 G2 H2 F2 σ2 (Same.refl _) s2⟩

/-! ### comprehensions -/
def wipeE (ρ : Env') : List Nat → Env'
  | [] => ρ
  | v :: vs => (wipeE ρ vs).set v none
/-- the block's own slots are put back -/
def mergeE (ρ0 : Env') (ρ : Env') : List Nat → Env'
  | [] => ρ
  | v :: vs => (mergeE ρ0 ρ vs).set v ((ρ0[v]?).getD none)
def okVs (ρ : Env') (vs : List Nat) : Bool := vs.all fun v => match ρ[v]? with
  | some none => true
  | some (some (.d _)) => true
  | _ => false
def cL (vs : List Nat) (asg : Asg) (tt : Env' → R Bool) (te : Env' → R EV) : List D → List D → Env' → R (List D)
  | [], acc, ρ => .ok acc ρ
  | d :: ds, acc, ρ => match asg (.d d) ρ with
    | none => .bad
    | some ρ1 => (tt ρ1).bind fun b ρ2 => if b then (te ρ2).bind fun e ρ3 => match fzV e with
        | .d y => if acc.length < sizeLine then cL vs asg tt te ds (acc ++ [y]) (wipeE ρ3 vs) else .bad
        | _ => .bad
      else cL vs asg tt te ds acc (wipeE ρ2 vs)
def mLc (mi : Env' → R (List D)) (vs : List Nat) (asg : Asg) (tt : Env' → R Bool) (te : Env' → R EV) : Env' → R EV := fun ρ => (mi ρ).bind fun xs ρ1 =>
  if okVs ρ1 vs then match cL vs asg tt te xs [] (wipeE ρ1 vs) with
    | .ok acc ρ2 => .ok (.fr (.lst acc)) (mergeE ρ1 ρ2 vs)
    | _ => .bad
  else .bad
end
section
variable {K : Fg} {P : Hp} {B : Nat → Option V} {G G' : Hp} {σ σ' : L2.St} {ρ ρ0 : Env'} {H : Hp} {F : Nat → List Addr}
theorem SRF.wipe1 (s : SRF K P B G ρ σ H F) (i : Nat) : SRF K P B G (ρ.set i none) (σ.set i none) H (upF F i []) := by
  have d := s.drop i
  refine ⟨d.sub, d.pre, by simp [s.len], fun j sv e => ?_, d.fre, d.dis, d.pg⟩
  by_cases hj : j = i
  · subst hj
    by_cases hi : j < ρ.length
    · rw [List.getElem?_set_self hi] at e; cases e
    · rw [List.getElem?_eq_none (by simpa using hi)] at e; cases e
  · obtain ⟨v, h1, h2, h3⟩ := d.slot j sv e
    exact ⟨v, by rw [List.getElem?_set_ne (Ne.symm hj)]; exact h1, h2, h3⟩
abbrev SubF (F' F : Nat → List Addr) : Prop := ∀ i a, a ∈ F' i → a ∈ F i
theorem upF_sub {F' : Nat → List Addr} (h : SubF F' F) (i : Nat) : SubF (upF F' i []) F := fun j a ha => by
  unfold upF at ha
  by_cases hj : j = i
  · rw [if_pos hj] at ha; cases ha
  · rw [if_neg hj] at ha; exact h j a ha
theorem SRF.wipe (s : SRF K P B G ρ σ H F) : ∀ vs : List Nat, ∃ F', SubF F' F ∧ SRF K P B G (wipeE ρ vs) (L2.wipe σ vs) H F'
  | [] => ⟨F, fun _ _ h => h, s⟩
  | v :: vs => by
    obtain ⟨F', h, s'⟩ := s.wipe vs
    exact ⟨_, upF_sub h v, s'.wipe1 v⟩
theorem wipe_get (σ : L2.St) (vs : List Nat) (j : Nat) (hj : j ∉ vs) : (L2.wipe σ vs)[j]? = σ[j]? := by
  induction vs with
  | nil => rfl
  | cons v vs ih =>
    unfold L2.wipe
    rw [List.getElem?_set_ne (fun z => hj (by simp [z])), ih fun z => hj (List.mem_cons_of_mem _ z)]
theorem wipe_in (σ : L2.St) (vs : List Nat) (j : Nat) (hj : j ∈ vs) (hl : j < σ.length) : (L2.wipe σ vs)[j]? = some none := by
  induction vs with
  | nil => cases hj
  | cons v vs ih =>
    unfold L2.wipe
    by_cases hv : v = j
    · subst hv; rw [List.getElem?_set_self (by rw [wipe_length]; exact hl)]
    · rw [List.getElem?_set_ne hv]
      rcases List.mem_cons.mp hj with e | e
      · exact absurd e.symm hv
      · exact ih e
theorem But.wipe {ixs vs : List Nat} (b : But ixs (L2.wipe σ vs) σ') (h : ∀ i ∈ ixs, i ∈ vs) : L2.wipe σ' vs = L2.wipe σ vs := by
  have hl : σ'.length = σ.length := by rw [b.1, wipe_length]
  apply List.ext_getElem?
  intro j
  by_cases hj : j ∈ vs
  · by_cases hjl : j < σ.length
    · rw [wipe_in _ _ _ hj hjl, wipe_in _ _ _ hj (by rw [hl]; exact hjl)]
    · rw [List.getElem?_eq_none (by rw [wipe_length]; omega), List.getElem?_eq_none (by rw [wipe_length]; omega)]
  · rw [wipe_get _ _ _ hj, b.2 j fun z => hj (h j z)]
/-- the frozen values of the block's own slots come back -/
theorem SRF.merge {ρ1 : Env'} {σ : L2.St} {G0 H0 : Hp} {F0 : Nat → List Addr} (s0 : SRF K P B G0 ρ0 σ H0 F0) (e : Same G0 G) (vs : List Nat) (ok : okVs ρ0 vs = true) (s : SRF K P B G ρ1 (L2.wipe σ vs) H F) :
    ∃ F', SubF F' F ∧ SRF K P B G (mergeE ρ0 ρ1 vs) σ H F' := by
  have ml : ∀ vs, (mergeE ρ0 ρ1 vs).length = ρ1.length := fun vs => by
    induction vs with
    | nil => rfl
    | cons v vs ih => unfold mergeE; rw [List.length_set, ih]
  have get : ∀ vs j, j ∉ vs → (mergeE ρ0 ρ1 vs)[j]? = ρ1[j]? := fun vs => by
    induction vs with
    | nil => intro j _; rfl
    | cons v vs ih =>
      intro j hj
      unfold mergeE
      rw [List.getElem?_set_ne (fun z => hj (by simp [z])), ih j fun z => hj (List.mem_cons_of_mem _ z)]
  have gin : ∀ vs j, j ∈ vs → j < ρ1.length → (mergeE ρ0 ρ1 vs)[j]? = some ((ρ0[j]?).getD none) := fun vs => by
    induction vs with
    | nil => intro j hj; cases hj
    | cons v vs ih =>
      intro j hj hl
      unfold mergeE
      by_cases hv : v = j
      · subst hv; rw [List.getElem?_set_self (by rw [ml]; exact hl)]
      · rw [List.getElem?_set_ne hv]
        rcases List.mem_cons.mp hj with e | e
        · exact absurd e.symm hv
        · exact ih j e hl
  have hlen : ρ1.length = σ.length := by rw [s.len, wipe_length]
  refine ⟨fun j => if j ∈ vs then [] else F j, fun j a ha => ?_, s.sub, s.pre, by rw [ml, hlen], fun j sv he => ?_, fun j a ha => ?_, fun j k a h1 h2 => ?_, s.pg⟩
  · have ha : a ∈ (if j ∈ vs then [] else F j) := ha
    by_cases hj : j ∈ vs
    · rw [if_pos hj] at ha; cases ha
    · rw [if_neg hj] at ha; exact ha
  · by_cases hj : j ∈ vs
    · have hjl : j < ρ1.length := by
        rw [← ml vs]; exact (List.getElem?_eq_some_iff.mp he).1
      rw [gin vs j hj hjl] at he
      have h0 : ρ0[j]? = some (some sv) := by
        cases q : ρ0[j]? with
        | none => rw [q] at he; cases he
        | some o => rw [q] at he; cases he; rfl
      have ok2 := List.all_eq_true.mp ok j hj
      rw [h0] at ok2
      obtain ⟨v, h1, h2, h3⟩ := s0.slot j sv h0
      cases sv with
      | d x => exact ⟨v, h1, by rw [if_pos hj]; exact ⟨h2.1.mono e, rfl⟩, fun z => by cases z⟩
      | _ => cases ok2
    · rw [get vs j hj] at he
      obtain ⟨v, h1, h2, h3⟩ := s.slot j sv he
      rw [wipe_get _ _ _ hj] at h1
      exact ⟨v, h1, by rw [if_neg hj]; exact h2, h3⟩
  · by_cases hj : j ∈ vs
    · rw [if_pos hj] at ha; cases ha
    · rw [if_neg hj] at ha; exact s.fre j a ha
  · by_cases hj : j ∈ vs
    · rw [if_pos hj] at h1; cases h1
    · rw [if_neg hj] at h1
      by_cases hk : k ∈ vs
      · rw [if_pos hk] at h2; cases h2
      · rw [if_neg hk] at h2; exact s.dis j k a h1 h2
/-- the list that is made stands among what must stay -/
theorem SRF.hold (s : SRF K P B G ρ σ H F) {p : Addr} {o : HO} (hp : H p = some o) (hG : G p = none) (hF : ∀ i, p ∉ F i) : SRF K (upd P p o) B G ρ σ H F := by
  refine ⟨s.sub, fun b u e => ?_, s.len, s.slot, fun i a ha => ?_, s.dis, fun a ha => ?_⟩
  · by_cases hb : b = p
    · subst hb; rw [upd_same] at e; cases e; exact hp
    · rw [upd_ne hb] at e; exact s.pre b u e
  · obtain ⟨h1, h2, h3⟩ := s.fre i a ha
    exact ⟨h1, by rw [upd_ne (fun z : a = p => hF i (by rw [← z]; exact ha))]; exact h2, h3⟩
  · by_cases hb : a = p
    · rw [hb]; exact hG
    · rw [upd_ne hb] at ha; exact s.pg a ha
theorem SRF.unhold (s : SRF K (upd P p o) B G ρ σ H F) (hP : P p = none) : SRF K P B G ρ σ H F ∧ H p = some o ∧ G p = none ∧ ∀ i, p ∉ F i := by
  have sp : Same P (upd P p o) := same_upd hP
  refine ⟨⟨s.sub, sp.trans s.pre, s.len, s.slot, fun i a ha => ?_, s.dis, fun a ha => s.pg a ?_⟩, s.pre p o upd_same, s.pg p (by rw [upd_same]; simp), fun i hi => ?_⟩
  · obtain ⟨h1, h2, h3⟩ := s.fre i a ha
    exact ⟨h1, sp.free h2, h3⟩
  · cases q : P a with
    | none => exact absurd q ha
    | some u => rw [sp a u q]; simp
  · have := (s.fre i p hi).2.1
    rw [upd_same] at this; cases this
/-- .. and is written -/
theorem SRF.write (s : SRF K P B G ρ σ H F) {p : Addr} {o : HO} (hP : P p = none) (hG : G p = none) (hF : ∀ i, p ∉ F i) : SRF K P B G ρ σ (upd H p o) F := by
  refine ⟨fun b u e => ?_, fun b u e => ?_, s.len, fun i sv e => ?_, fun i a ha => ?_, s.dis, s.pg⟩
  · rw [upd_ne (ne_of_none e hG)]; exact s.sub b u e
  · rw [upd_ne (ne_of_none e hP)]; exact s.pre b u e
  · obtain ⟨v, h1, h2, h3⟩ := s.slot i sv e
    exact ⟨v, h1, h2.keep (Same.refl _) fun a ha => upd_ne (fun z : a = p => hF i (by rw [← z]; exact ha)), h3⟩
  · obtain ⟨h1, h2, h3⟩ := s.fre i a ha
    exact ⟨h1, h2, by rw [upd_ne (fun z : a = p => hF i (by rw [← z]; exact ha))]; exact h3⟩
end
section
variable {X : Cx} {W : WX} {tg e elt : Expr} {ifs : List Expr} {mi : Env' → R (List D)} {asg : Asg} {tt : Env' → R Bool} {te : Env' → R EV} {pos : Pos} {own : List (Str × Nat)} {scope : Scope} {ixs : List Nat}
/-- nothing is raised within -/
abbrev W0 : WX := fun _ _ _ _ => False
def ATs (X : Cx) (W : WX) (m : Env' → R Bool) (es : List Expr) : Prop := PTs X es (tT X.K W m)
def tYes' : Env' → R Bool := fun ρ => .ok true ρ
theorem cL_step {P : Hp} {B : Nat → Option V} {xs : List D} {J : It} {vs : List Nat} {σ : L2.St} {G1 H1 : Hp} {ρ1 : Env'} {F1 : Nat → List Addr} {Q : VK} (hv : ∀ i ∈ ixs, i ∈ vs) (s1 : SRF X.K P B G1 ρ1 σ H1 F1) (r1 : ItR X.K P G1 H1 σ F1 xs J)
    (h1 : Po (EvR X.K) X.K W P B G1 σ (if okVs ρ1 vs then match cL vs asg tt te xs [] (wipeE ρ1 vs) with | .ok acc ρ2 => .ok (.fr (.lst acc)) (mergeE ρ1 ρ2 vs) | _ => .bad else .bad) Q) :
    ∀ D, H1 D = none → ∃ W : Nat → Nat → Hp → Prop, (∃ m, W 0 m (upd H1 D (.lst []))) ∧ ∀ i m H, W i m H →
      (J.stop i H ∧ Q (.ref D) H) ∨ (J.go i H ∧ ∃ Nx : Hp → Prop, (∀ H', Nx H' → ∃ m', m' < m ∧ W (i + 1) m' H') ∧ ∀ x H', J.yld i H x H' → tTg X.K ixs asg x (L2.wipe σ vs) H' fun σ2 H2 => L2.wipe σ2 vs = L2.wipe σ vs ∧ tT X.K W0 tt σ2 H2 fun b H3 =>
        if b = true then tE X.K W0 te σ2 H3 fun y H4 => ∃ acc, H4 D = some (.lst acc) ∧ acc.length < sizeLine ∧ Nx (upd H4 D (.lst (acc ++ [y]))) else Nx H3) := by
  intro L hL
  cases hok : okVs ρ1 vs with
  | false => rw [hok] at h1; exact h1.elim
  | true =>
    rw [hok] at h1
    cases hcl : cL vs asg tt te xs [] (wipeE ρ1 vs) with
    | bad => rw [hcl] at h1; exact h1.elim
    | exc x ρ2 => rw [hcl] at h1; exact h1.elim
    | ok accE ρE =>
      rw [hcl] at h1
      have hGL : G1 L = none := s1.sub.free hL
      have hPL : P L = none := s1.pre.free hL
      obtain ⟨F0, _, s0⟩ := s1.wipe vs
      -- the invariant
      let WI : Nat → Hp → Prop := fun i H => ∃ G ρ F acc accV, Same G1 G ∧ G L = none ∧ (∀ i, L ∉ F i) ∧ H L = some (.lst accV) ∧ RDs X.K G acc accV ∧ SRF X.K P B G ρ (L2.wipe σ vs) H F ∧ i ≤ xs.length ∧ cL vs asg tt te (xs.drop i) acc ρ = .ok accE ρE
      refine ⟨fun i m H => m = xs.length - i ∧ WI i H, ⟨_, rfl, G1, wipeE ρ1 vs, F0, [], [], Same.refl _, hGL, fun i hi => (s0.fre i L hi).2.2 hL, upd_same, .nil, ?_, Nat.zero_le _, hcl⟩, ?_⟩
      · exact s0.grow (Grow.newH s0.sub hL)
      · rintro i m H ⟨rfl, G, ρ, F, acc, accV, e1, gL, fL', hHL, hacc, s, hi, hc⟩
        obtain ⟨q1, q2, q3⟩ := r1 G H e1 s.sub
        by_cases hlt : i < xs.length
        · refine .inr ⟨q1 i hlt, fun H => WI (i + 1) H, fun H' hw => ⟨xs.length - (i + 1), by omega, rfl, hw⟩, fun x H' hy => ?_⟩
          obtain ⟨G', d, hd, g', rd⟩ := q3 i x H' hlt hy
          have ed : xs.drop i = d :: xs.drop (i + 1) := by
            rw [List.drop_eq_getElem_cons hlt]
            rw [List.getElem?_eq_getElem hlt] at hd
            cases hd
            rfl
          rw [ed, cL] at hc
          cases q : asg (.d d) ρ with
          | none => rw [q] at hc; cases hc
          | some ρ2 =>
            rw [q] at hc
            have hc : ((tt ρ2).bind fun b ρ2 => if b then (te ρ2).bind fun e ρ3 => match fzV e with
                | .d y => if acc.length < sizeLine then cL vs asg tt te (xs.drop (i + 1)) (acc ++ [y]) (wipeE ρ3 vs) else .bad
                | _ => .bad
              else cL vs asg tt te (xs.drop (i + 1)) acc (wipeE ρ2 vs)) = R.ok accE ρE := hc
            have sg := s.grow g'
            have hHL' : H' L = some (.lst accV) := g'.hh _ _ hHL
            have gL' : G' L = none := by
              cases z : G' L with
              | none => rfl
              | some o =>
                have := g'.new L (by rw [z]; simp) gL
                rw [hHL] at this; cases this
            have sh := sg.hold hHL' gL' fL'
            refine ⟨upd P L (.lst accV), B, G', ρ, F, .d d, ρ2, sh, rd, q, fun G3 F3 σ3 e3 s3 b3 => ⟨b3.wipe hv, ?_⟩⟩
            have hw3 : L2.wipe σ3 vs = L2.wipe σ vs := b3.wipe hv
            cases qt : tt ρ2 with
            | bad => rw [qt] at hc; cases hc
            | exc _ _ => rw [qt] at hc; cases hc
            | ok b ρ3 =>
              rw [qt] at hc
              refine ⟨upd P L (.lst accV), B, G3, ρ2, F3, s3, ?_⟩
              rw [qt]
              intro G4 H4 F4 b' e4 s4 eb
              subst eb
              cases b with
              | true =>
                rw [if_pos rfl]
                simp only [R.bind_ok, if_true] at hc
                cases qe : te ρ3 with
                | bad => rw [qe] at hc; cases hc
                | exc _ _ => rw [qe] at hc; cases hc
                | ok ev ρ4 =>
                  rw [qe] at hc
                  refine ⟨upd P L (.lst accV), B, G4, ρ3, F4, s4, ?_⟩
                  rw [qe]
                  intro G5 H5 F5 w e5 s5 r5
                  obtain ⟨G6, e6, s6, r6, _⟩ := fz_ok s5 r5
                  simp only [R.bind_ok] at hc
                  cases qf : fzV ev with
                  | al j => rw [qf] at hc; cases hc
                  | fr mm => rw [qf] at hc; cases hc
                  | d y =>
                    rw [qf] at hc r6
                    have hc : (if acc.length < sizeLine then cL vs asg tt te (xs.drop (i + 1)) (acc ++ [y]) (wipeE ρ4 vs) else .bad) = R.ok accE ρE := hc
                    by_cases hz : acc.length < sizeLine
                    · rw [if_pos hz] at hc
                      obtain ⟨s7, hL7, gL7, fL7⟩ := s6.unhold hPL
                      have ee : Same G G6 := (((g'.gg.trans e3).trans e4).trans e5).trans e6
                      obtain ⟨F8, f8, s8⟩ := (s7.write (o := .lst (accV ++ [w])) hPL gL7 fL7).wipe vs
                      rw [hw3] at s8
                      refine ⟨accV, hL7, by rw [hacc.length]; exact hz, G6, wipeE ρ4 vs, F8, acc ++ [y], accV ++ [w], e1.trans ee, gL7, ?_, upd_same, (hacc.mono ee).snoc r6, s8, hlt, hc⟩
                      exact fun k hk => fL7 k (f8 k L hk)
                    · rw [if_neg hz] at hc; cases hc
              | false =>
                rw [if_neg Bool.false_ne_true]
                simp only [R.bind_ok] at hc
                obtain ⟨s7, hL7, gL7, fL7⟩ := s4.unhold hPL
                have ee : Same G G4 := (g'.gg.trans e3).trans e4
                obtain ⟨F8, f8, s8⟩ := s7.wipe vs
                rw [hw3] at s8
                refine ⟨G4, wipeE ρ3 vs, F8, acc, accV, e1.trans ee, gL7, ?_, hL7, hacc.mono ee, s8, hlt, hc⟩
                exact fun k hk => fL7 k (f8 k L hk)
        · have hie : i = xs.length := by omega
          subst hie
          rw [List.drop_eq_nil_of_le (Nat.le_refl _), cL] at hc
          cases hc
          obtain ⟨F9, f9, s9⟩ := s1.merge e1 vs hok s
          refine .inl ⟨q2, h1 G H F9 (.ref L) e1 s9 ⟨[L], ⟨L, accV, rfl, rfl, hHL, hacc⟩, fun a ha => ?_⟩⟩
          rw [List.mem_singleton.mp ha]
          exact ⟨gL, hPL, fun k hk => fL' k (f9 k L hk)⟩
theorem ats_nil : ATs X W tYes' [] := ⟨fun pins s σ H Q I h => by
  obtain ⟨P, B, G, ρ, F, sr, h⟩ := h
  exact pts_nil.run pins s σ H Q I (h G H F true (Same.refl _) sr rfl)⟩
theorem ats_one {c : Expr} (h : AT X W tt c) : ATs X W tt [c] := pts_one h
/-- [elt for target in iter if ..] -/
theorem ae_lc (hc : X.calm = true) (hN : X.N.Nodup) (hi : AI X W mi tg e) (ok : BlkOk X.N X.env.scope scope own)
    (hg : ∀ (s : Shared) (H : Hp) (C : Addr) (cl : List (Str × Addr)) (fp : List Addr), AG (X.blk s H scope (compEnvC scope cl C X.env) fp) ixs asg tg)
    (ht : ∀ (s : Shared) (H : Hp) (C : Addr) (cl : List (Str × Addr)) (fp : List Addr), ATs (X.blk s H scope (compEnvC scope cl C X.env) fp) W0 tt ifs)
    (he : ∀ (s : Shared) (H : Hp) (C : Addr) (cl : List (Str × Addr)) (fp : List Addr), AE (X.blk s H scope (compEnvC scope cl C X.env) fp) W0 te elt)
    (hv : ∀ i ∈ ixs, i ∈ own.map (·.2)) (hs : ∀ x, foldedSetIterable e X.env x = pure x := by intro _; rfl) :
    AE X W (mLc mi (own.map (·.2)) asg tt te) (.ListComp elt [⟨tg, e, ifs, 0⟩] scope pos) := by
  refine (pe_lc (g := tTg X.K ixs asg) (tt := tT X.K W0 tt) (te := tE X.K W0 te) hc hN hi ok hg ht he hs).imp fun σ H Q ⟨P, B, G, ρ, F, s, h⟩ => ⟨P, B, G, ρ, F, s, (Po.bind (rel := ItR X.K) h).imp fun J H1 ⟨G1, ρ1, F1, xs, _, s1, r1, h1⟩ => ?_⟩
  exact cL_step hv s1 r1 h1
/-- name = [..], the name a local of the def -/
theorem as_setLc (owns : Bool) (i : Nat) {y : Str} {py spos : Pos} (hc : X.calm = true) (hN : X.N.Nodup) (hsw : swapsWith (.ListComp elt [⟨tg, e, ifs, 0⟩] scope pos) (some (.Name y py)) spos.line X.env = pure true) (hi : AI X W mi tg e) (ok : BlkOk X.N X.env.scope scope own)
    (hg : ∀ (s : Shared) (H : Hp) (C : Addr) (cl : List (Str × Addr)) (fp : List Addr), AG (X.blk s H scope (compEnvC scope cl C X.env) fp) ixs asg tg)
    (ht : ∀ (s : Shared) (H : Hp) (C : Addr) (cl : List (Str × Addr)) (fp : List Addr), ATs (X.blk s H scope (compEnvC scope cl C X.env) fp) W0 tt ifs)
    (he : ∀ (s : Shared) (H : Hp) (C : Addr) (cl : List (Str × Addr)) (fp : List Addr), AE (X.blk s H scope (compEnvC scope cl C X.env) fp) W0 te elt)
    (hv : ∀ i ∈ ixs, i ∈ own.map (·.2)) (hy : X.N[i]? = some y := by rfl) (hyl : X.env.scope.names.lookup y = some .local := by rfl) (hs : ∀ x, foldedSetIterable e X.env x = pure x := by intro _; rfl) :
    AS X W (sAsg (asgN owns i) (mLc mi (own.map (·.2)) asg tt te)) (.Assign [.Name y py] (.ListComp elt [⟨tg, e, ifs, 0⟩] scope pos) spos) := by
  refine (ps_setLc (g := tTg X.K ixs asg) (tt := tT X.K W0 tt) (te := tE X.K W0 te) hc hN hy hyl hsw hi ok hg ht he hs).imp fun D σ H h => ?_
  obtain ⟨P, B, G, ρ, F, s, h⟩ := asg_step (ixs := [i]) h
  refine ⟨P, B, G, ρ, F, s, (Po.bind (rel := ItR X.K) h).imp fun J H1 ⟨G1, ρ1, F1, xs, _, s1, r1, h1⟩ => ?_⟩
  have h2 := h1.imp (Q' := fun x H1 => gName i x σ H1 D.nx) fun x H1 h1 => by
    obtain ⟨P, B, G, ρ, F, e, ρ', s, r, h2, h3⟩ := h1
    obtain ⟨G', F', e', s'⟩ := asgN_ok s h2 r
    exact h3 G' F' _ e' s' (But.set i σ _)
  exact cL_step hv s1 r1 h2
end
end Mi
/-! text MiH -/
set_option Elab.async false
set_option linter.all false
set_option maxRecDepth 100000
set_option maxHeartbeats 4000000
/-! MiH: defs by what they compute; calls; the law's end. -/
namespace Mi
open PySem PySem.Spec PyProof.Rows L2

/-- room, and nothing that is shown just now -/
structure Rm (k : Nat) (A : Around) : Prop where
  room : Room k A
  gd : A.guards = some []
  un : A.units + 16 * k + 3000 < cLine
theorem Rm.mono {j k : Nat} {A : Around} (r : Rm k A) (h : j ≤ k) : Rm j A := ⟨r.room.mono h, r.gd, by have := r.un; omega⟩
theorem Rm.deeper {k : Nat} {A : Around} (r : Rm (k + 1) A) (env : Env) : Rm k (A.deeper env) := ⟨r.room.deeper env, r.gd, by have := r.un; show A.units + 3 + 16 * k + 3000 < cLine; omega⟩
theorem Rm.u2100 {k : Nat} {A : Around} (r : Rm k A) : A.units + 2100 < cLine := by have := r.un; omega
theorem Rm.u1 {k : Nat} {A : Around} (r : Rm k A) : A.units + 1 < cLine := by have := r.un; omega
/-- a def keeps a promise -/
structure FnG (P : Program) (w : World) (K : Fg) (mg : Str → Option Value) (base : Heap) (k : Nat) (f : Addr) (fd : FuncData) (ps : List Str) (sp : Sp) : Prop where
  len : ∀ vs H Q E, sp vs H Q E → vs.length = ps.length
  run : ∀ (A : Around) (outer : List Env) (st : Shared) (H : Hp) (args : Args) (us : List Value) (vs : List V) (Q : VK) (E : XK), Rm k A → Env0 P w K mg base A outer st H → BindsTo st fd args (ps.zip us) → Vals vs us → sp vs H Q E →
    codeAny (model P w) A (.call (.ref f) args) (CR (CX P w) outer P w H st Q E) st
theorem FnG.mono {P : Program} {w : World} {K : Fg} {mg : Str → Option Value} {base : Heap} {j k : Nat} {f : Addr} {fd : FuncData} {ps : List Str} {sp : Sp} (g : FnG P w K mg base j f fd ps sp) (h : j ≤ k) : FnG P w K mg base k f fd ps sp :=
  ⟨g.len, fun A o st H args us vs Q E r => g.run A o st H args us vs Q E (r.mono h)⟩
abbrev cxG (P : Program) (w : World) (K : Fg) (mg : Str → Option Value) (base : Heap) (N : List Str) (qual : Str) (scope : Scope) (f : Addr) (cdv : Value) (A : Around) (outer : List Env) (st : Shared) (H : Hp) (E : XK) : Cx :=
  cxOf (CX P w) P w K mg base N qual scope f cdv A outer st H E
/-- a def by its body -/
theorem FnG.of {P : Program} {w : World} {K : Fg} {mg : Str → Option Value} {base : Heap} {k : Nat} {f : Addr} {name qual : Str} {params : Arguments} {body : List Stmt} {scope : Scope} {kws : List (Str × V)} {fd : FuncData} {N ps : List Str} {sp : Sp}
    (F : FunD K name qual params body scope [] kws f fd) (S : FnScope N ps scope) (len : ∀ vs H Q E, sp vs H Q E → vs.length = ps.length)
    (hb : ∀ (cdv : Value) (A : Around) (outer : List Env) (st : Shared) (H : Hp) (vs : List V) (Q : VK) (E : XK), Rm k (A.deeper (envOfC qual scope st.heap.objs.size f cdv)) → sp vs H Q E →
      ∃ t, PSs (cxG P w K mg base N qual scope f cdv A outer st H E) body t ∧ t { nx := fun _ H' => Q .non H', rt := Q } (start N vs) H) : FnG P w K mg base (k + 1) f fd ps sp := by
  obtain ⟨oc, od, dV, kV, doc, pm, an, cdv, ct, osl, efd, lk, hcd, _, _⟩ := F.ex
  subst efd
  refine ⟨len, fun A outer st H args us vs Q E hr e0 bnd rv hsp => ?_⟩
  have hl := len _ _ _ _ hsp
  have KX : K.In st.heap := e0.mod.kin.keeps fun b o e => (e0.bs b o e).1
  have nolim : st.heap.NoLimit := e0.mod.nolimit.keeps fun b o e => (e0.bs b o e).1
  have kinds : ∀ y ∈ ps.zip us, scope.names.lookup y.1 = some .local ∨ (scope.names.lookup y.1 = some .cell ∧ ((cellsFrom (st.heap.objs.size + 1) scope.names []).lookup y.1).isSome = true) := by
    rintro ⟨n, v⟩ hy
    rcases S.par n (List.of_mem_zip hy).1 with z | z
    · exact .inl z
    · exact .inr ⟨z, PySem.W.cellsFrom_some _ _ _ (.inl z)⟩
  refine codeAny_call_function hr.room.depth (KX _ _ lk) rfl S.co S.gen rfl (PySem.W.codeRec_of KX hcd) (bnd _ _ _ _ ?_)
  refine wpAny_newFunctionEnv_cells S.kind kinds fun env ev st1 inC => ?_
  subst ev
  refine ⟨nolim.keeps inC.toInCall.keep, codeAny_func ?_⟩
  obtain ⟨t, ht, hq⟩ := hb cdv A outer st H vs Q E (hr.deeper _) hsp
  have I : Inv (cxG P w K mg base N qual scope f cdv A outer st H E) [] (start N vs) H st1 := inv_start S hr.room.hd e0 hl rv inC
  refine wpAny_mono (ht.run [] st1 (start N vs) H _ I hq) (fun fl st2 hs => ?_) fun e st2 hs => hs
  cases fl with
  | ret u =>
    obtain ⟨v, σ', H', J, rv', q⟩ := hs
    exact ⟨v, H', J.os, J.bare, J.base, J.hok, rv', q⟩
  | next =>
    obtain ⟨σ', H', J, q⟩ := hs
    exact ⟨.non, H', J.os, J.bare, J.base, J.hok, rfl, q⟩
  | brk => obtain ⟨_, _, _, q⟩ := hs; exact q.elim
  | cont => obtain ⟨_, _, _, q⟩ := hs; exact q.elim
section
variable {X : Cx} {k : Nat} {f : Addr} {fd : FuncData} {ps : List Str} {sp : Sp} {E : XK} {x : Str} {p pos : Pos} {e : Expr} {es : List Expr} {t : TA}
/-- the callee runs -/
theorem FnG.call {pins : List (Addr × Obj)} {σ : L2.St} {H : Hp} {st : Shared} {Q : VK} {us : List Value} {vs : List V} (F : FnG X.prog X.w X.K X.mg X.base k f fd ps sp) (hr : Rm k X.A) (hb : Binds X.K fd ps []) (hx : ∀ er st2, CX X.prog X.w X.stack H st E er st2 → X.xe er st2)
    (I : Inv X pins σ H st) (r : Vals vs us) (h : sp vs H Q E) : wpAny (model X.prog X.w) X.A (PySem.call (.ref f) us) (EP X pins σ Q) X.xe st := by
  have hl : (us ++ []).length = ps.length := by rw [List.append_nil, ← r.length]; exact F.len _ _ _ _ h
  have bn := hb st us I.kIn hl
  rw [List.append_nil] at bn
  refine wpAny_call (codeAny_mono (F.run X.A X.stack st H ⟨us, []⟩ us vs Q E hr I.env0 bn r h) fun fl st2 q => ?_)
  cases fl with
  | error er => exact hx er st2 q
  | ok fl =>
    cases fl with
    | ret u => exact I.after q
    | next => exact q.elim
    | brk => exact q.elim
    | cont => exact q.elim
/-- f(..): what is raised is wished for at the caller's slots -/
def tCallW (sp : Sp) (W : WX) (t : TA) : TE := fun σ H Q => t σ H fun vs H1 => sp vs H1 Q fun cls d H' => W cls d σ H'
theorem pe_callG {W : WX} (F : FnG X.prog X.w X.K X.mg X.base k f fd ps sp) (hr : Rm k X.A) (hg : Gl X x) (hm : X.mg x = some (.ref f)) (hk : PySem.W.keepIn X.K (.ref f) = true) (hb : Binds X.K fd ps [])
    (tk : Takes X W) (ha : PA X (e :: es) t) (hdb : (x == ("__debug__" : Str)) = false := by decide) (he : starEach (e :: es) X.env = (false, eval e X.env) :: starEach es X.env := by rfl) (hpl : (backTo pos (starEach es X.env)).any (·.1) = false := by rfl) :
    PE X (.Call (.Name x p) (e :: es) [] pos) (tCallW sp W t) := by
  refine ⟨fun pins st σ H Q I h => ?_⟩
  refine wpAny_Call_Name_kw (ld_glob I hg hm ?_ hdb)
  refine PySem.W.callWith_K (h₀ := X.base) I.ok.mod.kin hk (thn (ha.run pos pins st σ H _ I h) fun us st1 ⟨vs, H1, I1, r, q⟩ => ⟨I1.kIn, ?_⟩) he hpl
  exact F.call hr hb (fun er st2 c => tk er st2 (XE.of_call I1 (fun _ _ _ z => z) c)) I1 r q
theorem pe_callG0 {W : WX} (F : FnG X.prog X.w X.K X.mg X.base k f fd ps sp) (hr : Rm k X.A) (hg : Gl X x) (hm : X.mg x = some (.ref f)) (hk : PySem.W.keepIn X.K (.ref f) = true) (hb : Binds X.K fd ps [])
    (tk : Takes X W) (hdb : (x == ("__debug__" : Str)) = false := by decide) : PE X (.Call (.Name x p) [] [] pos) (tCallW sp W tNil) := by
  refine ⟨fun pins st σ H Q I h => ?_⟩
  refine wpAny_Call_Name_kw (ld_glob I hg hm ?_ hdb)
  exact PySem.W.callWith_K0 I.kIn hk (F.call (us := []) hr hb (fun er st2 c => tk er st2 (XE.of_call I (fun _ _ _ z => z) c)) I .nil h)
end

/-! ### what a def computes -/
/-- a def's end: its value, what its borrowed arguments have become -/
inductive RF where
  | ok (e : EV) (bs : Env')
  | exc (x : Ex) (bs : Env')
  | bad
/-- the arguments behind a call: borrowed ones as they are now -/
def outE : Env' → Env' → Env'
  | [], _ => []
  | some (.b _) :: as, ρ => (match ρ with | some (.b m) :: _ => some (.b m) | _ => none) :: outE as ρ.tail
  | some (.d x) :: as, ρ => some (.d x) :: outE as ρ.tail
  | some (.scr ns) :: as, ρ => some (.scr ns) :: outE as ρ.tail
  | _ :: as, ρ => none :: outE as ρ.tail
/-- .. and each borrowed one is there -/
def outOk : Env' → Env' → Bool
  | [], _ => true
  | some (.b _) :: as, ρ => (match ρ with | some (.b _) :: _ => true | _ => false) && outOk as ρ.tail
  | _ :: as, ρ => outOk as ρ.tail
def endF (args : Env') : RS → RF
  | .rt (.d x) ρ => if outOk args ρ then .ok (.d x) (outE args ρ) else .bad
  | .rt (.fr m) ρ => if outOk args ρ then .ok (.fr m) (outE args ρ) else .bad
  | .rt (.al _) _ => .bad
  | .nx ρ => if outOk args ρ then .ok (.d .none) (outE args ρ) else .bad
  | .exc x ρ => if outOk args ρ then .exc x (outE args ρ) else .bad
  | .bk _ => .bad
  | .ct _ => .bad
  | .bad => .bad
/-- a def's body on its arguments; n: how many names it has -/
def runF (n : Nat) (body : Env' → RS) (as : List SV) : RF := endF (as.map some) (body (as.map some ++ List.replicate (n - as.length) none))
def PoF (K : Fg) (P : Hp) (B : Nat → Option V) (G : Hp) (σ : L2.St) (r : RF) (Q : VK) (E : XK) : Prop := match r with
  | .ok e bs => ∀ G' H' F' w, Same G G' → SRF K P B G' bs σ H' F' → EvR K P G' H' σ F' e w → Q w H'
  | .exc x bs => ∀ G' H' F' cls d, Same G G' → SRF K P B G' bs σ H' F' → ExR K G' x cls d → E cls d H'
  | .bad => False
/-- the promise of a def that computes fm -/
def spF (K : Fg) (np : Nat) (fm : List SV → RF) : Sp := fun vs H Q E => vs.length = np ∧ ∃ P B G F as, SRF K P B G (as.map some) (vs.map some) H F ∧ PoF K P B G (vs.map some) (fm as) Q E
section
variable {K : Fg} {P : Hp} {B : Nat → Option V} {G G' : Hp} {σ : L2.St} {ρ : Env'} {H H' : Hp} {F F' : Nat → List Addr}
theorem outE_len : ∀ (as ρ : Env'), (outE as ρ).length = as.length
  | [], _ => rfl
  | none :: as, ρ => by simp [outE, outE_len as]
  | some (.b _) :: as, ρ => by simp [outE, outE_len as]
  | some (.d _) :: as, ρ => by simp [outE, outE_len as]
  | some (.scr _) :: as, ρ => by simp [outE, outE_len as]
  | some (.o _) :: as, ρ => by simp [outE, outE_len as]
theorem outE_get : ∀ (as ρ : Env') (i : Nat) (sv : SV), (outE as ρ)[i]? = some (some sv) → (∃ m m', as[i]? = some (some (.b m)) ∧ sv = .b m' ∧ ρ[i]? = some (some (.b m'))) ∨ (as[i]? = some (some sv) ∧ ((∃ x, sv = .d x) ∨ ∃ ns, sv = .scr ns))
  | [], _, i, sv, h => by simp [outE] at h
  | a :: as, ρ, 0, sv, h => by
    cases a with
    | none => simp [outE] at h
    | some v =>
      cases v with
      | d x => simp [outE] at h; subst h; exact .inr ⟨rfl, .inl ⟨x, rfl⟩⟩
      | scr ns => simp [outE] at h; subst h; exact .inr ⟨rfl, .inr ⟨ns, rfl⟩⟩
      | o m => simp [outE] at h
      | b m =>
        simp only [outE, List.getElem?_cons_zero, Option.some.injEq] at h
        cases ρ with
        | nil => cases h
        | cons r ρ =>
          cases r with
          | none => cases h
          | some r =>
            cases r with
            | b m' => cases h; exact .inl ⟨m, m', rfl, rfl, rfl⟩
            | _ => cases h
  | a :: as, ρ, i + 1, sv, h => by
    have e : (outE (a :: as) ρ)[i + 1]? = (outE as ρ.tail)[i]? := by
      cases a with
      | none => simp [outE]
      | some v => cases v <;> simp [outE]
    rw [e] at h
    rcases outE_get as ρ.tail i sv h with ⟨m, m', h1, h2, h3⟩ | ⟨h1, h2⟩
    · exact .inl ⟨m, m', by simpa using h1, h2, by simpa using h3⟩
    · exact .inr ⟨by simpa using h1, h2⟩
/-- the arguments behind the body -/
theorem SRF.out {as : Env'} {vs : List V} {N : Nat} (s0 : SRF K P B G as (vs.map some) H F) (e : Same G G') (s : SRF K P B G' ρ σ H' F') :
    SRF K P B G' (outE as ρ) (vs.map some) H' (fun i => match as[i]? with | some (some (.b _)) => (match (outE as ρ)[i]? with | some (some _) => F' i | _ => []) | _ => []) := by
  refine ⟨s.sub, s.pre, by rw [outE_len, s0.len], fun i sv h => ?_, fun i a ha => ?_, fun i j a h1 h2 => ?_, s.pg⟩
  · rcases outE_get as ρ i sv h with ⟨m, m', h1, rfl, h3⟩ | ⟨h1, h2⟩
    · obtain ⟨v, q1, q2, q3⟩ := s0.slot i _ h1
      obtain ⟨v', q4, q5, q6⟩ := s.slot i _ h3
      have ev : v' = v := by
        have := (q6 rfl).symm.trans (q3 rfl)
        exact Option.some.inj this
      subst ev
      refine ⟨v', q1, ?_, fun _ => q3 rfl⟩
      simp only [h1, h]
      exact q5
    · obtain ⟨v, q1, q2, q3⟩ := s0.slot i _ h1
      refine ⟨v, q1, ?_, q3⟩
      rcases h2 with ⟨x, rfl⟩ | ⟨ns, rfl⟩
      · simp only [h1]
        exact ⟨q2.1.mono e, rfl⟩
      · simp only [h1]
        obtain ⟨⟨a, z1, z2⟩, _⟩ := q2
        exact ⟨⟨a, z1, e.seq z2⟩, rfl⟩
  · split at ha
    · split at ha
      · exact s.fre i a ha
      · cases ha
    · cases ha
  · split at h1
    · split at h1
      · split at h2
        · split at h2
          · exact s.dis i j a h1 h2
          · cases h2
        · cases h2
      · cases h1
    · cases h1
theorem SRF.pad (s : SRF K P B G ρ σ H F) (n : Nat) : SRF K P B G (ρ ++ List.replicate n none) (σ ++ List.replicate n none) H F := by
  refine ⟨s.sub, s.pre, by simp [s.len], fun i sv h => ?_, s.fre, s.dis, s.pg⟩
  have hi : i < ρ.length := by
    by_cases hi : i < ρ.length
    · exact hi
    · rw [List.getElem?_append_right (by omega), List.getElem?_replicate] at h
      split at h <;> cases h
  rw [List.getElem?_append_left hi] at h
  obtain ⟨v, h1, h2, h3⟩ := s.slot i sv h
  exact ⟨v, by rw [List.getElem?_append_left (by rw [← s.len]; exact hi)]; exact h1, h2, h3⟩
end
theorem EvR.mv {K : Fg} {P G H : Hp} {σ σ' : L2.St} {F F' : Nat → List Addr} {e : EV} {w : V} (h : EvR K P G H σ F e w) (hs : ∀ i a, a ∈ F' i → a ∈ F i) (ha : ∀ i, e ≠ .al i) : EvR K P G H σ' F' e w := by
  cases e with
  | d x => exact h
  | al i => exact absurd rfl (ha i)
  | fr m =>
    obtain ⟨Fm, h1, h2⟩ := h
    exact ⟨Fm, h1, fun a hm => ⟨(h2 a hm).1, (h2 a hm).2.1, fun i hi => (h2 a hm).2.2 i (hs i a hi)⟩⟩
/-- a def computes what its body computes -/
theorem FnG.run' {P : Program} {w : World} {K : Fg} {mg : Str → Option Value} {base : Heap} {k : Nat} {f : Addr} {name qual : Str} {params : Arguments} {body : List Stmt} {scope : Scope} {kws : List (Str × V)} {fd : FuncData} {N ps : List Str} {mb : Env' → RS}
    (F : FunD K name qual params body scope [] kws f fd) (S : FnScope N ps scope)
    (hb : ∀ (cdv : Value) (A : Around) (outer : List Env) (st : Shared) (H : Hp) (E : XK), Rm k (A.deeper (envOfC qual scope st.heap.objs.size f cdv)) → ASs (cxG P w K mg base N qual scope f cdv A outer st H E) (fun cls d _ H => E cls d H) mb body) :
    FnG P w K mg base (k + 1) f fd ps (spF K ps.length (runF N.length mb)) := by
  refine FnG.of F S (fun vs H Q E h => h.1) fun cdv A outer st H vs Q E hr h => ⟨_, hb cdv A outer st H E hr, ?_⟩
  obtain ⟨hl, P', B, G, F', as, s, h⟩ := h
  have hal : as.length = vs.length := by have := s.len; simpa using this
  refine ⟨P', B, G, as.map some ++ List.replicate (N.length - vs.length) none, F', ?_, ?_⟩
  · exact s.pad (N.length - vs.length)
  · unfold runF at h
    rw [hal] at h
    generalize mb (as.map some ++ List.replicate (N.length - vs.length) none) = r at h ⊢
    have fin : ∀ {ρ : Env'} {e : EV} {G1 H1 : Hp} {F1 : Nat → List Addr} {σ1 : L2.St} {w1 : V}, (∀ i, e ≠ .al i) → PoF K P' B G (vs.map some) (if outOk (as.map some) ρ then .ok e (outE (as.map some) ρ) else .bad) Q E → Same G G1 → SRF K P' B G1 ρ σ1 H1 F1 → EvR K P' G1 H1 σ1 F1 e w1 → Q w1 H1 := fun {ρ e G1 H1 F1 σ1 w1} ne h e1 s1 r1 => by
      split at h
      · refine h G1 H1 _ w1 e1 (s.out (N := 0) e1 s1) (EvR.mv r1 (fun i a ha => ?_) ne)
        split at ha
        · split at ha
          · exact ha
          · cases ha
        · cases ha
      · exact h.elim
    cases r with
    | bad => exact h.elim
    | bk ρ => exact h.elim
    | ct ρ => exact h.elim
    | nx ρ => exact fun G1 H1 F1 σ1 e1 s1 => fin (e := .d .none) (fun i z => nomatch z) h e1 s1 .non
    | rt ev ρ =>
      cases ev with
      | al i => exact h.elim
      | d x => exact fun G1 H1 F1 σ1 w1 e1 s1 r1 => fin (e := .d x) (fun i z => nomatch z) h e1 s1 r1
      | fr m => exact fun G1 H1 F1 σ1 w1 e1 s1 r1 => fin (e := .fr m) (fun i z => nomatch z) h e1 s1 r1
    | exc x ρ =>
      have h : PoF K P' B G (vs.map some) (if outOk (as.map some) ρ then .exc x (outE (as.map some) ρ) else .bad) Q E := h
      split at h
      · exact fun G1 H1 F1 σ1 c d e1 s1 r1 => h G1 H1 _ c d e1 (s.out (N := 0) e1 s1) r1
      · exact h.elim

/-! ### calls -/
/-- the arguments of a call: data, and slots' objects (each once) -/
def argV (ρ : Env') : EV → Option SV
  | .d x => some (.d x)
  | .al i => match ρ[i]? with
    | some (some (.o m)) => some (.b m)
    | some (some (.b m)) => some (.b m)
    | some (some (.scr ns)) => some (.scr ns)
    | _ => none
  | .fr _ => none
def argVs (ρ : Env') : List EV → Option (List SV)
  | [] => some []
  | e :: es => (argV ρ e).bind fun a => (argVs ρ es).bind fun as => some (a :: as)
def alsOf : List EV → List Nat
  | [] => []
  | .al i :: es => i :: alsOf es
  | _ :: es => alsOf es
/-- the slots' objects as the callee leaves them -/
def putBack (ρ : Env') : List EV → Env' → Env'
  | .al i :: es, some (.b m) :: bs => putBack (match ρ[i]? with
    | some (some (.o _)) => ρ.set i (some (.o m))
    | some (some (.b _)) => ρ.set i (some (.b m))
    | _ => ρ) es bs
  | _ :: es, _ :: bs => putBack ρ es bs
  | _, _ => ρ
/-- each borrowed one is handed back -/
def backOk : List SV → Env' → Bool
  | [], _ => true
  | .b _ :: as, bs => (match bs with | some (.b _) :: _ => true | _ => false) && backOk as bs.tail
  | _ :: as, bs => backOk as bs.tail
def callF (n : Nat) (fm : List SV → RF) (es : List EV) (ρ : Env') : R EV :=
  if (alsOf es).Nodup ∧ es.length = n then match argVs ρ es with
    | some as => match fm as with
      | .ok (.d x) bs => if backOk as bs then .ok (.d x) (putBack ρ es bs) else .bad
      | .ok (.fr m) bs => if backOk as bs then .ok (.fr m) (putBack ρ es bs) else .bad
      | .exc x bs => if backOk as bs then .exc x (putBack ρ es bs) else .bad
      | _ => .bad
    | none => .bad
  else .bad
def mFn (n : Nat) (fm : List SV → RF) (ms : Env' → R (List EV)) : Env' → R EV := fun ρ => (ms ρ).bind fun es ρ1 => callF n fm es ρ1

theorem alsOf_mem : ∀ {es : List EV} {k i : Nat}, es[k]? = some (.al i) → i ∈ alsOf es
  | [], k, i, h => by simp at h
  | e :: es, 0, i, h => by simp at h; subst h; simp [alsOf]
  | e :: es, k + 1, i, h => by
    have := alsOf_mem (es := es) (k := k) (i := i) (by simpa using h)
    cases e with
    | al j => exact List.mem_cons_of_mem _ this
    | _ => exact this
theorem alsOf_inj : ∀ {es : List EV} {k l i : Nat}, (alsOf es).Nodup → es[k]? = some (.al i) → es[l]? = some (.al i) → k = l
  | [], k, l, i, _, h, _ => by simp at h
  | e :: es, 0, 0, i, _, _, _ => rfl
  | e :: es, 0, l + 1, i, nd, h1, h2 => by
    simp at h1; subst h1
    exact absurd (alsOf_mem (by simpa using h2)) (List.nodup_cons.mp nd).1
  | e :: es, k + 1, 0, i, nd, h1, h2 => by
    simp at h2; subst h2
    exact absurd (alsOf_mem (by simpa using h1)) (List.nodup_cons.mp nd).1
  | e :: es, k + 1, l + 1, i, nd, h1, h2 => by
    have nd' : (alsOf es).Nodup := by
      cases e with
      | al j => exact (List.nodup_cons.mp nd).2
      | _ => exact nd
    exact congrArg Nat.succ (alsOf_inj nd' (by simpa using h1) (by simpa using h2))
/-- the slot j is borrowed and comes back as m -/
def Bw (es : List EV) (bs : Env') (j : Nat) (m : MO) : Prop := ∃ k : Nat, es[k]? = some (.al j) ∧ bs[k]? = some (some (.b m))
theorem putBack_len : ∀ (es : List EV) (bs ρ : Env'), (putBack ρ es bs).length = ρ.length
  | [], bs, ρ => by unfold putBack; rfl
  | .al i :: es, [], ρ => by unfold putBack; rfl
  | .d x :: es, [], ρ => by unfold putBack; rfl
  | .fr x :: es, [], ρ => by unfold putBack; rfl
  | .d x :: es, b :: bs, ρ => by rw [putBack]; exact putBack_len es bs ρ; intros; contradiction
  | .fr x :: es, b :: bs, ρ => by rw [putBack]; exact putBack_len es bs ρ; intros; contradiction
  | .al i :: es, b :: bs, ρ => by
    cases b with
    | none => rw [putBack]; exact putBack_len es bs ρ; intro _ _ _ z; cases z
    | some v =>
      cases v with
      | b m =>
        rw [putBack, putBack_len es bs]
        split <;> simp
      | d x => rw [putBack]; exact putBack_len es bs ρ; intro _ _ _ z; cases z
      | o x => rw [putBack]; exact putBack_len es bs ρ; intro _ _ _ z; cases z
      | scr x => rw [putBack]; exact putBack_len es bs ρ; intro _ _ _ z; cases z
theorem Bw.cons {e : EV} {es : List EV} {b : Option SV} {bs : Env'} {j : Nat} {m : MO} (h : Bw es bs j m) : Bw (e :: es) (b :: bs) j m := by
  obtain ⟨k, h1, h2⟩ := h
  exact ⟨k + 1, by simpa using h1, by simpa using h2⟩
theorem Bw.uncons {e : EV} {es : List EV} {b : Option SV} {bs : Env'} {j : Nat} {m : MO} (h : Bw (e :: es) (b :: bs) j m) (hn : ¬ (e = .al j ∧ b = some (.b m))) : Bw es bs j m := by
  obtain ⟨k, h1, h2⟩ := h
  cases k with
  | zero => simp at h1 h2; exact absurd ⟨h1, h2⟩ hn
  | succ k => exact ⟨k, by simpa using h1, by simpa using h2⟩
theorem putBack_get : ∀ (es : List EV) (bs ρ : Env') (j : Nat) (sv : SV), (alsOf es).Nodup → (putBack ρ es bs)[j]? = some (some sv) →
    (∃ m m0, Bw es bs j m ∧ ((ρ[j]? = some (some (.o m0)) ∧ sv = .o m) ∨ (ρ[j]? = some (some (.b m0)) ∧ sv = .b m))) ∨
    (ρ[j]? = some (some sv) ∧ ((∀ m, ¬ Bw es bs j m) ∨ sv.obj? = none))
  | [], bs, ρ, j, sv, _, h => .inr ⟨by unfold putBack at h; exact h, .inl fun m ⟨k, h1, _⟩ => by simp at h1⟩
  | e :: es, [], ρ, j, sv, _, h => .inr ⟨by cases e <;> (unfold putBack at h; exact h), .inl fun m ⟨k, _, h2⟩ => by simp at h2⟩
  | e :: es, b :: bs, ρ, j, sv, nd, h => by
    have nd' : (alsOf es).Nodup := by
      cases e with
      | al j => exact (List.nodup_cons.mp nd).2
      | _ => exact nd
    have plain : (putBack ρ (e :: es) (b :: bs) = putBack ρ es bs) → (∀ i m, ¬ (e = EV.al i ∧ b = some (SV.b m))) →
        ((∃ m m0, Bw (e :: es) (b :: bs) j m ∧ ((ρ[j]? = some (some (.o m0)) ∧ sv = .o m) ∨ (ρ[j]? = some (some (.b m0)) ∧ sv = .b m))) ∨
        (ρ[j]? = some (some sv) ∧ ((∀ m, ¬ Bw (e :: es) (b :: bs) j m) ∨ sv.obj? = none))) := fun he hn => by
      rw [he] at h
      rcases putBack_get es bs ρ j sv nd' h with ⟨m, m0, h1, h2⟩ | ⟨h1, h2⟩
      · exact .inl ⟨m, m0, h1.cons, h2⟩
      · exact .inr ⟨h1, h2.imp (fun z m hm => z m (hm.uncons (hn j m))) id⟩
    cases e with
    | d x => exact plain (by rw [putBack]; intros; contradiction) fun i m z => by cases z.1
    | fr x => exact plain (by rw [putBack]; intros; contradiction) fun i m z => by cases z.1
    | al i =>
      cases b with
      | none => exact plain (by rw [putBack]; intro _ _ _ z; cases z) fun i m z => by cases z.2
      | some v =>
        cases v with
        | d x => exact plain (by rw [putBack]; intro _ _ _ z; cases z) fun i m z => by cases z.2
        | o x => exact plain (by rw [putBack]; intro _ _ _ z; cases z) fun i m z => by cases z.2
        | scr x => exact plain (by rw [putBack]; intro _ _ _ z; cases z) fun i m z => by cases z.2
        | b m =>
          have hi : i ∉ alsOf es := (List.nodup_cons.mp nd).1
          rw [putBack] at h
          have noB : ∀ m', ¬ Bw es bs i m' := fun m' ⟨k, h1, _⟩ => hi (alsOf_mem h1)
          have here : Bw (.al i :: es) (some (.b m) :: bs) i m := ⟨0, rfl, rfl⟩
          by_cases hj : j = i
          · subst hj
            rcases putBack_get es bs _ j sv nd' h with ⟨m', m0, h1, h2⟩ | ⟨h1, h2⟩
            · exact absurd h1 (noB m')
            · split at h1
              · rename_i m0 hm0
                have hl := (List.getElem?_eq_some_iff.mp hm0).1
                rw [List.getElem?_set_self hl] at h1
                cases h1
                exact .inl ⟨m, m0, here, .inl ⟨hm0, rfl⟩⟩
              · rename_i m0 hm0
                have hl := (List.getElem?_eq_some_iff.mp hm0).1
                rw [List.getElem?_set_self hl] at h1
                cases h1
                exact .inl ⟨m, m0, here, .inr ⟨hm0, rfl⟩⟩
              · rename_i n1 n2
                refine .inr ⟨h1, .inr ?_⟩
                cases sv with
                | o m' => exact absurd h1 (n1 m')
                | b m' => exact absurd h1 (n2 m')
                | d x => rfl
                | scr x => rfl
          · have keep : ∀ ρ' : Env', ρ' = (match ρ[i]? with
                | some (some (.o _)) => ρ.set i (some (.o m))
                | some (some (.b _)) => ρ.set i (some (.b m))
                | _ => ρ) → ρ'[j]? = ρ[j]? := fun ρ' e => by
              subst e
              split
              · rw [List.getElem?_set_ne (Ne.symm hj)]
              · rw [List.getElem?_set_ne (Ne.symm hj)]
              · rfl
            rcases putBack_get es bs _ j sv nd' h with ⟨m', m0, h1, h2⟩ | ⟨h1, h2⟩
            · rw [keep _ rfl] at h2
              exact .inl ⟨m', m0, h1.cons, h2⟩
            · rw [keep _ rfl] at h1
              exact .inr ⟨h1, h2.imp (fun z m' hm => z m' (hm.uncons fun q => hj (by cases q.1; rfl))) id⟩
theorem argVs_get : ∀ {ρ : Env'} {es : List EV} {as : List SV}, argVs ρ es = some as → as.length = es.length ∧ ∀ (k : Nat) a, as[k]? = some a → ∃ e, es[k]? = some e ∧ argV ρ e = some a
  | ρ, [], as, h => by cases h; exact ⟨rfl, fun k a q => by simp at q⟩
  | ρ, e :: es, as, h => by
    unfold argVs at h
    cases q : argV ρ e with
    | none => rw [q] at h; cases h
    | some a =>
      cases q2 : argVs ρ es with
      | none => rw [q, q2] at h; cases h
      | some as' =>
        rw [q, q2] at h; cases h
        obtain ⟨h1, h2⟩ := argVs_get q2
        refine ⟨by simp [h1], fun k b hb => ?_⟩
        cases k with
        | zero => simp at hb; subst hb; exact ⟨e, rfl, q⟩
        | succ k =>
          obtain ⟨e', h3, h4⟩ := h2 k b (by simpa using hb)
          exact ⟨e', by simpa using h3, h4⟩
theorem backOk_get : ∀ {as : List SV} {bs : Env'} {k : Nat} {m : MO}, backOk as bs = true → as[k]? = some (.b m) → ∃ m', bs[k]? = some (some (.b m'))
  | [], bs, k, m, _, h => by simp at h
  | a :: as, bs, 0, m, hb, h => by
    simp at h; subst h
    unfold backOk at hb
    cases bs with
    | nil => cases hb
    | cons b bs =>
      cases b with
      | none => cases hb
      | some v =>
        cases v with
        | b m' => exact ⟨m', rfl⟩
        | _ => cases hb
  | a :: as, bs, k + 1, m, hb, h => by
    have hb' : backOk as bs.tail = true := by
      cases a with
      | b m0 => unfold backOk at hb; exact (Bool.and_eq_true_iff.mp hb).2
      | d x => unfold backOk at hb; exact hb
      | o x => unfold backOk at hb; exact hb
      | scr x => unfold backOk at hb; exact hb
    obtain ⟨m', h'⟩ := backOk_get (k := k) (m := m) hb' (by simpa using h)
    cases bs with
    | nil => simp at h'
    | cons b bs => exact ⟨m', by simpa using h'⟩
section
variable {K : Fg} {P : Hp} {B : Nat → Option V} {G : Hp} {ρ : Env'} {σ : L2.St} {H : Hp} {F : Nat → List Addr} {es : List EV} {ws : List V} {as : List SV}
/-- the slots that are borrowed -/
def Lent (es : List EV) (as : List SV) (i : Nat) : Prop := ∃ (k : Nat) (m : MO), es[k]? = some (.al i) ∧ as[k]? = some (.b m)
open Classical in
noncomputable def callP (G H : Hp) (F : Nat → List Addr) (es : List EV) (as : List SV) : Hp := fun a => if (∃ i, Lent es as i ∧ a ∈ F i) ∨ G a ≠ none then none else H a
open Classical in
noncomputable def callFp (F : Nat → List Addr) (es : List EV) (as : List SV) : Nat → List Addr := fun k => match es[k]?, as[k]? with
  | some (.al i), some (.b _) => F i
  | _, _ => []
theorem callFp_mem {k : Nat} {a : Addr} (h : a ∈ callFp F es as k) : ∃ i m, es[k]? = some (.al i) ∧ as[k]? = some (.b m) ∧ a ∈ F i := by
  unfold callFp at h
  split at h
  · rename_i i m h1 h2; exact ⟨i, m, h1, h2, h⟩
  · cases h
theorem SRF.enter (s : SRF K P B G ρ σ H F) (r : EvRs K P G H σ F es ws) (nd : (alsOf es).Nodup) (ha : argVs ρ es = some as) :
    SRF K (callP G H F es as) (fun k => ws[k]?) G (as.map some) (ws.map some) H (callFp F es as) := by
  obtain ⟨hl, hg⟩ := argVs_get ha
  refine ⟨s.sub, fun a o e => ?_, by simp [hl, r.1], fun k sv e => ?_, fun k a h => ?_, fun k l a h1 h2 => ?_, fun a h => ?_⟩
  · unfold callP at e
    split at e
    · cases e
    · exact e
  · have e' : as[k]? = some sv := by
      rw [List.getElem?_map] at e
      cases q : as[k]? with
      | none => rw [q] at e; cases e
      | some x => rw [q] at e; cases e; rfl
    obtain ⟨ev, h1, h2⟩ := hg k sv e'
    have hk : k < ws.length := by rw [← r.1]; exact (List.getElem?_eq_some_iff.mp h1).1
    have hw : ws[k]? = some ws[k] := List.getElem?_eq_getElem hk
    obtain ⟨_, r2⟩ := r.2 k ev ws[k] h1 hw
    refine ⟨ws[k], by rw [List.getElem?_map, hw]; rfl, ?_, fun _ => hw⟩
    cases ev with
    | d x => cases h2; exact ⟨r2, by unfold callFp; rw [h1]⟩
    | fr m => cases h2
    | al i =>
      have hs : σ[i]? = some (some ws[k]) := r2
      have h2 : (match ρ[i]? with
        | some (some (.o m)) => some (SV.b m)
        | some (some (.b m)) => some (.b m)
        | some (some (.scr ns)) => some (.scr ns)
        | _ => none) = some sv := h2
      split at h2
      · rename_i m hm
        cases h2
        obtain ⟨v, q1, q2, _⟩ := s.slot i _ hm
        rw [hs] at q1; cases q1
        have : callFp F es as k = F i := by unfold callFp; rw [h1, e']
        rw [this]; exact q2
      · rename_i m hm
        cases h2
        obtain ⟨v, q1, q2, _⟩ := s.slot i _ hm
        rw [hs] at q1; cases q1
        have : callFp F es as k = F i := by unfold callFp; rw [h1, e']
        rw [this]; exact q2
      · rename_i ns hm
        cases h2
        obtain ⟨v, q1, q2, _⟩ := s.slot i _ hm
        rw [hs] at q1; cases q1
        exact ⟨q2.1, by unfold callFp; rw [h1, e']⟩
      · cases h2
  · obtain ⟨i, m, h1, h2, h3⟩ := callFp_mem h
    obtain ⟨q1, _, q3⟩ := s.fre i a h3
    exact ⟨q1, by unfold callP; rw [if_pos (.inl ⟨i, ⟨k, m, h1, h2⟩, h3⟩)], q3⟩
  · obtain ⟨i, m, h3, h4, h5⟩ := callFp_mem h1
    obtain ⟨j, m', h6, h7, h8⟩ := callFp_mem h2
    have := s.dis i j a h5 h8
    subst this
    exact alsOf_inj nd h3 h6
  · unfold callP at h
    split at h
    · exact absurd rfl h
    · rename_i hn
      cases q : G a with
      | none => rfl
      | some o => exact absurd (.inr (by rw [q]; simp)) hn
open Classical in
noncomputable def backFp (F F' : Nat → List Addr) (es : List EV) (as : List SV) : Nat → List Addr := fun i => if h : Lent es as i then F' h.choose else F i
theorem backFp_lent {F' : Nat → List Addr} (nd : (alsOf es).Nodup) {i k : Nat} {m : MO} (h1 : es[k]? = some (.al i)) (h2 : as[k]? = some (.b m)) : backFp F F' es as i = F' k := by
  have hl : Lent es as i := ⟨k, m, h1, h2⟩
  unfold backFp
  rw [dif_pos hl]
  have hc : ∃ m', es[hl.choose]? = some (EV.al i) ∧ as[hl.choose]? = some (SV.b m') := hl.choose_spec
  generalize hl.choose = c at hc ⊢
  cases hc with
  | intro m' z => exact congrArg F' (alsOf_inj nd z.1 h1)
/-- the caller goes on -/
theorem SRF.leave {G' H' : Hp} {bs : Env'} {F' : Nat → List Addr} (s : SRF K P B G ρ σ H F) (r : EvRs K P G H σ F es ws) (nd : (alsOf es).Nodup) (ha : argVs ρ es = some as) (hb : backOk as bs = true) (e : Same G G')
    (s' : SRF K (callP G H F es as) (fun k => ws[k]?) G' bs (ws.map some) H' F') :
    SRF K P B G' (putBack ρ es bs) σ H' (backFp F F' es as) ∧ (∀ a, callP G H F es as a = none → P a = none ∧ ∀ i, ¬ Lent es as i → a ∉ F i) := by
  obtain ⟨hl, hg⟩ := argVs_get ha
  have pc : ∀ a o, P a = some o → callP G H F es as a = some o := fun a o ea => by
    unfold callP
    rw [if_neg, s.pre a o ea]
    rintro (⟨i, _, hi⟩ | hG)
    · have := (s.fre i a hi).2.1
      rw [ea] at this; cases this
    · exact hG (s.pg a (by rw [ea]; simp))
  have fc : ∀ i a, ¬ Lent es as i → a ∈ F i → callP G H F es as a = H a := fun i a hn hi => by
    unfold callP
    rw [if_neg]
    rintro (⟨j, hj, hj2⟩ | hG)
    · exact hn (s.dis j i a hj2 hi ▸ hj)
    · exact hG (s.fre i a hi).1
  have fk : ∀ i a, ¬ Lent es as i → a ∈ F i → H' a = H a := fun i a hn hi => by
    have h1 := fc i a hn hi
    cases q : H a with
    | none => exact absurd q (s.fre i a hi).2.2
    | some o => rw [q] at h1; exact s'.pre a o h1
  have lentOf : ∀ {j : Nat}, Lent es as j → ∃ (k : Nat) (m m' : MO), es[k]? = some (EV.al j) ∧ as[k]? = some (SV.b m) ∧ bs[k]? = some (some (SV.b m')) ∧ Bw es bs j m' := fun {j} ⟨k, m, h1, h2⟩ => by
    obtain ⟨m', h3⟩ := backOk_get hb h2
    exact ⟨k, m, m', h1, h2, h3, k, h1, h3⟩
  have bwLent : ∀ {j : Nat} {m m0 : MO}, Bw es bs j m → (ρ[j]? = some (some (.o m0)) ∨ ρ[j]? = some (some (.b m0))) → Lent es as j := fun {j m m0} ⟨k, h1, h2⟩ ho => by
    have hk : k < as.length := by rw [hl]; exact (List.getElem?_eq_some_iff.mp h1).1
    obtain ⟨ev, h3, h4⟩ := hg k as[k] (List.getElem?_eq_getElem hk)
    rw [h1] at h3; cases h3
    have h4 : (match ρ[j]? with
        | some (some (.o m)) => some (SV.b m)
        | some (some (.b m)) => some (.b m)
        | some (some (.scr ns)) => some (.scr ns)
        | _ => none) = some as[k] := h4
    rcases ho with ho | ho
    · rw [ho] at h4; exact ⟨k, m0, h1, by rw [List.getElem?_eq_getElem hk, ← Option.some.inj h4]⟩
    · rw [ho] at h4; exact ⟨k, m0, h1, by rw [List.getElem?_eq_getElem hk, ← Option.some.inj h4]⟩
  refine ⟨⟨s'.sub, fun a o ea => s'.pre a o (pc a o ea), by rw [putBack_len, s.len], fun j sv h => ?_, fun j a h => ?_, fun i j a h1 h2 => ?_, fun a h => ?_⟩, fun a h => ⟨?_, fun i hn hi => ?_⟩⟩
  · rcases putBack_get es bs ρ j sv nd h with ⟨m, m0, hbw, hor⟩ | ⟨h1, h2⟩
    · obtain ⟨k, m1, m', h3, h4, h5, _⟩ := lentOf (bwLent hbw (hor.imp And.left And.left))
      have em : m' = m := by
        obtain ⟨k2, h6, h7⟩ := hbw
        rw [alsOf_inj nd h6 h3, h5] at h7
        cases h7; rfl
      subst em
      obtain ⟨v, q1, q2, q3⟩ := s'.slot k _ h5
      have hw : ws[k]? = some v := q3 rfl
      obtain ⟨_, r2⟩ := r.2 k _ v h3 hw
      have hs : σ[j]? = some (some v) := r2
      refine ⟨v, hs, ?_, fun hB => ?_⟩
      · rw [backFp_lent nd h3 h4]
        rcases hor with ⟨_, rfl⟩ | ⟨_, rfl⟩
        · exact q2
        · exact q2
      · rcases hor with ⟨_, rfl⟩ | ⟨hm, rfl⟩
        · cases hB
        · obtain ⟨v', q4, _, q6⟩ := s.slot j _ hm
          rw [hs] at q4; cases q4
          exact q6 rfl
    · obtain ⟨v, q1, q2, q3⟩ := s.slot j sv h1
      refine ⟨v, q1, ?_, q3⟩
      by_cases hlt : Lent es as j
      · obtain ⟨k, m1, m', h3, h4, h5, h6⟩ := lentOf hlt
        rcases h2 with h2 | h2
        · exact absurd h6 (h2 m')
        · exfalso
          obtain ⟨ev, h7, h8⟩ := hg k _ h4
          rw [h3] at h7; cases h7
          have h8 : (match ρ[j]? with
            | some (some (.o m)) => some (SV.b m)
            | some (some (.b m)) => some (.b m)
            | some (some (.scr ns)) => some (.scr ns)
            | _ => none) = some (.b m1) := h8
          rw [h1] at h8
          cases sv with
          | d x => cases h8
          | scr x => cases h8
          | o x => cases h2
          | b x => cases h2
      · have : backFp F F' es as j = F j := by unfold backFp; rw [dif_neg hlt]
        rw [this]
        exact q2.keep e fun a ha => fk j a hlt ha
  · by_cases hlt : Lent es as j
    · obtain ⟨k, m1, m', h3, h4, h5, _⟩ := lentOf hlt
      rw [backFp_lent nd h3 h4] at h
      obtain ⟨q1, q2, q3⟩ := s'.fre k a h
      refine ⟨q1, ?_, q3⟩
      cases q : P a with
      | none => rfl
      | some o => rw [pc a o q] at q2; cases q2
    · have hb' : backFp F F' es as j = F j := by unfold backFp; rw [dif_neg hlt]
      rw [hb'] at h
      obtain ⟨q1, q2, q3⟩ := s.fre j a h
      have hc := fc j a hlt h
      exact ⟨s'.pg a (by rw [hc]; exact q3), q2, by rw [fk j a hlt h]; exact q3⟩
  · have clash : ∀ {i j : Nat}, Lent es as i → ¬ Lent es as j → a ∈ backFp F F' es as i → a ∈ F j → False := fun {i j} hi hj h1 h2 => by
      obtain ⟨k, m1, m', h3, h4, h5, _⟩ := lentOf hi
      rw [backFp_lent nd h3 h4] at h1
      have q2 := (s'.fre k a h1).2.1
      rw [fc j a hj h2] at q2
      exact (s.fre j a h2).2.2 q2
    by_cases hi : Lent es as i
    · by_cases hj : Lent es as j
      · obtain ⟨k, m1, m', h3, h4, h5, _⟩ := lentOf hi
        obtain ⟨l, n1, n', h6, h7, h8, _⟩ := lentOf hj
        rw [backFp_lent nd h3 h4] at h1
        rw [backFp_lent nd h6 h7] at h2
        have := s'.dis k l a h1 h2
        subst this
        rw [h3] at h6; cases h6; rfl
      · have hb' : backFp F F' es as j = F j := by unfold backFp; rw [dif_neg hj]
        rw [hb'] at h2
        exact (clash hi hj h1 h2).elim
    · have hb' : backFp F F' es as i = F i := by unfold backFp; rw [dif_neg hi]
      rw [hb'] at h1
      by_cases hj : Lent es as j
      · exact (clash hj hi h2 h1).elim
      · have hb2 : backFp F F' es as j = F j := by unfold backFp; rw [dif_neg hj]
        rw [hb2] at h2
        exact s.dis i j a h1 h2
  · cases q : P a with
    | none => exact absurd q h
    | some o => exact s'.pg a (by rw [pc a o q]; simp)
  · cases q : P a with
    | none => rfl
    | some o => rw [pc a o q] at h; cases h
  · rw [fc i a hn hi] at h
    exact (s.fre i a hi).2.2 h
theorem call_sound {n : Nat} {W : WX} {fm : List SV → RF} {Q : VK} (s : SRF K P B G ρ σ H F) (r : EvRs K P G H σ F es ws) (h : Po (EvR K) K W P B G σ (callF n fm es ρ) Q) : spF K n fm ws H Q fun cls d H' => W cls d σ H' := by
  unfold callF at h
  split at h
  · rename_i nd
    obtain ⟨nd, hn⟩ := nd
    have hn : ws.length = n := r.1.symm.trans hn
    split at h
    · rename_i as ha
      refine ⟨hn, callP G H F es as, fun k => ws[k]?, G, callFp F es as, as, s.enter r nd ha, ?_⟩
      cases q : fm as with
      | bad => rw [q] at h; exact h.elim
      | exc x bs =>
        simp only [q] at h
        split at h
        · rename_i hb
          exact fun G' H' F' cls d e s' x' => h G' H' _ cls d e (s.leave r nd ha hb e s').1 x'
        · exact h.elim
      | ok ev bs =>
        cases ev with
        | al i => simp only [q] at h; exact h.elim
        | d x =>
          simp only [q] at h
          split at h
          · rename_i hb
            exact fun G' H' F' w e s' x' => h G' H' _ w e (s.leave r nd ha hb e s').1 x'
          · exact h.elim
        | fr m =>
          simp only [q] at h
          split at h
          · rename_i hb
            refine fun G' H' F' w e s' x' => ?_
            obtain ⟨s2, z⟩ := s.leave r nd ha hb e s'
            refine h G' H' _ w e s2 ?_
            obtain ⟨Fm, h1, h2⟩ := x'
            refine ⟨Fm, h1, fun a ham => ⟨(h2 a ham).1, (z a (h2 a ham).2.1).1, fun i hi => ?_⟩⟩
            by_cases hlt : Lent es as i
            · obtain ⟨k, m1, h3, h4⟩ := hlt
              rw [backFp_lent nd h3 h4] at hi
              exact (h2 a ham).2.2 k hi
            · have hb' : backFp F F' es as i = F i := by unfold backFp; rw [dif_neg hlt]
              rw [hb'] at hi
              exact (z a (h2 a ham).2.1).2 i hlt hi
          · exact h.elim
    · exact h.elim
  · exact h.elim
end
section
variable {X : Cx} {W : WX} {k n : Nat} {f : Addr} {fd : FuncData} {ps : List Str} {x : Str} {p pos : Pos} {e : Expr} {es : List Expr} {fm : List SV → RF} {ms : Env' → R (List EV)}
/-- f(e, ..), f a def of the text -/
theorem ae_fn (F : FnG X.prog X.w X.K X.mg X.base k f fd ps (spF X.K ps.length fm)) (hr : Rm k X.A) (hg : Gl X x) (hm : X.mg x = some (.ref f)) (hk : PySem.W.keepIn X.K (.ref f) = true) (hb : Binds X.K fd ps []) (tk : Takes X W) (ha : AA X W ms (e :: es))
    (hdb : (x == ("__debug__" : Str)) = false := by decide) (he : starEach (e :: es) X.env = (false, eval e X.env) :: starEach es X.env := by rfl) (hpl : (backTo pos (starEach es X.env)).any (·.1) = false := by rfl) :
    AE X W (mFn ps.length fm ms) (.Call (.Name x p) (e :: es) [] pos) := by
  refine (pe_callG F hr hg hm hk hb tk ha hdb he hpl).imp fun σ H Q h => ?_
  obtain ⟨P, B, G, ρ, F', s, h⟩ := h
  refine ⟨P, B, G, ρ, F', s, (Po.bind (rel := EvRs X.K) h).imp fun ws H1 h1 => ?_⟩
  obtain ⟨G1, ρ1, F1, es1, e1, s1, r1, h2⟩ := h1
  exact call_sound s1 r1 h2
theorem ae_fn0 (F : FnG X.prog X.w X.K X.mg X.base k f fd ps (spF X.K ps.length fm)) (hr : Rm k X.A) (hg : Gl X x) (hm : X.mg x = some (.ref f)) (hk : PySem.W.keepIn X.K (.ref f) = true) (hb : Binds X.K fd ps []) (tk : Takes X W)
    (hdb : (x == ("__debug__" : Str)) = false := by decide) : AE X W (fun ρ => callF ps.length fm [] ρ) (.Call (.Name x p) [] [] pos) := by
  refine (pe_callG0 F hr hg hm hk hb tk hdb).imp fun σ H Q h => ?_
  obtain ⟨P, B, G, ρ, F', s, h⟩ := h
  exact call_sound s EvRs.nil h
end
end Mi
/-! text MiI -/
set_option Elab.async false
set_option linter.all false
set_option maxRecDepth 100000
set_option maxHeartbeats 4000000
/-! MiI: own dicts with own lists (the source), own lists, more operators. -/
namespace Mi
open PySem PySem.Spec PyProof.Rows L2

/-! ### fields of an own dict -/
def fget (k : Key) : List (Key × Fld) → Option Fld
  | [] => none
  | p :: r => if p.1 = k then some p.2 else fget k r
/-- the datum under the key -/
def fsetD (k : Key) (y : D) : List (Key × Fld) → Option (List (Key × Fld))
  | [] => some []
  | (j, .d x) :: r => (fsetD k y r).map fun r' => if j = k then (j, .d y) :: r' else (j, .d x) :: r'
  | (j, .l xs) :: r => if j = k then none else (fsetD k y r).map fun r' => (j, .l xs) :: r'
def fsetL (k : Key) (xs : List D) : List (Key × Fld) → List (Key × Fld)
  | [] => []
  | p :: r => if p.1 = k then (p.1, .l xs) :: r else p :: fsetL k xs r
section
variable {K : Fg} {G H H' : Hp} {k : Key}
theorem frs_get : ∀ {kvs : List (Key × Fld)} {vs : List (Key × V)} {F : List Addr} {f : Fld}, FRs K G H kvs vs F → fget k kvs = some f →
    ∃ v, valV vs k = some v ∧ match f with | .d x => RD K G x v | .l xs => ∃ a ws, v = .ref a ∧ a ∈ F ∧ H a = some (.lst ws) ∧ RDs K G xs ws
  | [], [], _, f, _, e => by cases e
  | (j, .d x) :: r, (j', v) :: s, F, f, h, e => by
    obtain ⟨h0, h1, h2⟩ := h
    subst h0
    unfold fget at e
    by_cases hj : j = k
    · rw [if_pos hj] at e; cases e
      exact ⟨v, valV_pos (p := (j, v)) hj, h1⟩
    · rw [if_neg hj] at e
      obtain ⟨w, h3, h4⟩ := frs_get h2 e
      exact ⟨w, by rw [valV_neg (p := (j, v)) hj]; exact h3, h4⟩
  | (j, .l xs) :: r, (j', v) :: s, F, f, h, e => by
    obtain ⟨h0, a, ws, F', h1, h2, h3, h4, h5⟩ := h
    subst h0 h2
    unfold fget at e
    by_cases hj : j = k
    · rw [if_pos hj] at e; cases e
      exact ⟨v, valV_pos (p := (j, v)) hj, a, ws, h1, List.mem_cons_self, h3, h4⟩
    · rw [if_neg hj] at e
      obtain ⟨w, h6, h7⟩ := frs_get h5 e
      refine ⟨w, by rw [valV_neg (p := (j, v)) hj]; exact h6, ?_⟩
      cases f with
      | d x => exact h7
      | l ys =>
        obtain ⟨b, us, q1, q2, q3⟩ := h7
        exact ⟨b, us, q1, List.mem_cons_of_mem _ q2, q3⟩
theorem frs_mapD {y : D} {v : V} (hy : RD K G y v) : ∀ {kvs : List (Key × Fld)} {vs : List (Key × V)} {F : List Addr} {kvs' : List (Key × Fld)}, FRs K G H kvs vs F → fsetD k y kvs = some kvs' →
    FRs K G H kvs' (vs.map fun kv => if kv.1 = k then (kv.1, v) else kv) F
  | [], [], _, _, h, e => by cases e; exact h
  | (j, .d x) :: r, (j', u) :: s, F, kvs', h, e => by
    obtain ⟨h0, h1, h2⟩ := h
    subst h0
    unfold fsetD at e
    cases q : fsetD k y r with
    | none => rw [q] at e; cases e
    | some r' =>
      rw [q] at e; cases e
      have ih := frs_mapD hy h2 q
      rw [List.map_cons]
      by_cases hj : j = k
      · simp only [if_pos hj]; exact ⟨rfl, hy, ih⟩
      · simp only [if_neg hj]; exact ⟨rfl, h1, ih⟩
  | (j, .l xs) :: r, (j', u) :: s, F, kvs', h, e => by
    obtain ⟨h0, a, ws, F', h1, h2, h3, h4, h5⟩ := h
    subst h0 h2
    unfold fsetD at e
    by_cases hj : j = k
    · rw [if_pos hj] at e; cases e
    · rw [if_neg hj] at e
      cases q : fsetD k y r with
      | none => rw [q] at e; cases e
      | some r' =>
        rw [q] at e; cases e
        have ih := frs_mapD hy h5 q
        rw [List.map_cons, if_neg (show ¬ (j, u).1 = k from hj)]
        exact ⟨rfl, a, ws, F', h1, rfl, h3, h4, ih⟩
theorem fsetD_len {y : D} : ∀ {kvs kvs' : List (Key × Fld)}, fsetD k y kvs = some kvs' → kvs'.length = kvs.length
  | [], _, e => by cases e; rfl
  | (j, .d x) :: r, _, e => by
    unfold fsetD at e
    cases q : fsetD k y r with
    | none => rw [q] at e; cases e
    | some r' =>
      rw [q] at e; cases e
      have := fsetD_len q
      split <;> simp [this]
  | (j, .l xs) :: r, _, e => by
    unfold fsetD at e
    by_cases hj : j = k
    · rw [if_pos hj] at e; cases e
    · rw [if_neg hj] at e
      cases q : fsetD k y r with
      | none => rw [q] at e; cases e
      | some r' =>
        rw [q] at e; cases e
        simp [fsetD_len q]
theorem frs_setL {a : Addr} {ws us : List V} {xs ys : List D} (ha : H a = some (.lst ws)) (hy : RDs K G ys us) : ∀ {kvs : List (Key × Fld)} {vs : List (Key × V)} {F : List Addr}, FRs K G H kvs vs F → F.Nodup → fget k kvs = some (.l xs) → valV vs k = some (.ref a) →
    FRs K G (upd H a (.lst us)) (fsetL k ys kvs) vs F
  | [], [], _, _, _, e, _ => by cases e
  | (j, .d x) :: r, (j', u) :: s, F, h, nd, e, hv => by
    obtain ⟨h0, h1, h2⟩ := h
    subst h0
    unfold fget at e
    unfold fsetL
    by_cases hj : j = k
    · rw [if_pos hj] at e; cases e
    · rw [if_neg hj] at e ⊢
      rw [valV_neg (p := (j, u)) hj] at hv
      exact ⟨rfl, h1, frs_setL ha hy h2 nd e hv⟩
  | (j, .l zs) :: r, (j', u) :: s, F, h, nd, e, hv => by
    obtain ⟨h0, b, vs', F', h1, h2, h3, h4, h5⟩ := h
    subst h0 h2
    unfold fget at e
    unfold fsetL
    by_cases hj : j = k
    · rw [if_pos hj] at e ⊢
      rw [valV_pos (p := (j, u)) hj] at hv
      cases hv
      cases h1
      refine ⟨rfl, a, us, F', rfl, rfl, upd_same, hy, h5.keep (Same.refl _) fun c hc => upd_ne fun z => ?_⟩
      subst z
      exact (List.nodup_cons.mp nd).1 hc
    · rw [if_neg hj] at e ⊢
      rw [valV_neg (p := (j, u)) hj] at hv
      have ih := frs_setL ha hy h5 (List.nodup_cons.mp nd).2 e hv
      obtain ⟨w, g1, c, us', g2, g3, g4⟩ := frs_get h5 e
      rw [hv] at g1
      cases g1
      cases g2
      refine ⟨rfl, b, vs', F', h1, rfl, ?_, h4, ih⟩
      rw [upd_ne (fun z => ?_)]
      · exact h3
      · subst z
        exact (List.nodup_cons.mp nd).1 g3
end

/-! ### a slot's object is written -/
section
variable {K : Fg} {P : Hp} {B : Nat → Option V} {G G' : Hp} {ρ : Env'} {σ : L2.St} {H H' : Hp} {F : Nat → List Addr}
theorem SRF.poke (s : SRF K P B G ρ σ H F) {i : Nat} {sv sv' : SV} (h : ρ[i]? = some (some sv)) (hk : sv'.isB = sv.isB) {v : V} (hv : σ[i]? = some (some v)) (n : SVR K G H' sv' v (F i)) (hH : ∀ a, a ∉ F i → H' a = H a)
    (hS : ∀ a ∈ F i, H' a ≠ none) : SRF K P B G (ρ.set i (some sv')) σ H' F := by
  have hi := (List.getElem?_eq_some_iff.mp h).1
  refine ⟨fun b u e => ?_, fun b u e => ?_, by rw [List.length_set]; exact s.len, fun j sw e => ?_, fun j a ha => ?_, s.dis, s.pg⟩
  · rw [hH b (fun z => by rw [(s.fre i b z).1] at e; cases e)]; exact s.sub b u e
  · rw [hH b (fun z => by rw [(s.fre i b z).2.1] at e; cases e)]; exact s.pre b u e
  · by_cases hj : j = i
    · subst hj
      rw [List.getElem?_set_self hi] at e
      cases e
      refine ⟨v, hv, n, fun hb => ?_⟩
      obtain ⟨v', q1, _, q3⟩ := s.slot j _ h
      rw [hv] at q1; cases q1
      exact q3 (by rw [← hk]; exact hb)
    · rw [List.getElem?_set_ne (Ne.symm hj)] at e
      obtain ⟨w, q1, q2, q3⟩ := s.slot j _ e
      exact ⟨w, q1, q2.keep (Same.refl _) fun a ha => hH a fun z => hj (s.dis j i a ha z), q3⟩
  · obtain ⟨q1, q2, q3⟩ := s.fre j a ha
    refine ⟨q1, q2, ?_⟩
    by_cases hj : j = i
    · subst hj; exact hS a ha
    · rw [hH a fun z => hj (s.dis j i a ha z)]; exact q3
end

/-! ### the source -/
def dnAt (i : Nat) (ρ : Env') : Option (List (Key × Fld)) := match ρ[i]? with
  | some (some (.o (.dn kvs))) => some kvs
  | some (some (.b (.dn kvs))) => some kvs
  | _ => none
def dnPut (i : Nat) (kvs : List (Key × Fld)) (ρ : Env') : Env' := match ρ[i]? with
  | some (some (.b _)) => ρ.set i (some (.b (.dn kvs)))
  | _ => ρ.set i (some (.o (.dn kvs)))
def gFld (i : Nat) (k : Key) : Env' → R EV := fun ρ => match (dnAt i ρ).bind (fget k) with
  | some (.d x) => .ok (.d x) ρ
  | _ => .bad
def gFldLen (i : Nat) (k : Key) : Env' → R EV := fun ρ => match (dnAt i ρ).bind (fget k) with
  | some (.l xs) => .ok (.d (.int xs.length)) ρ
  | _ => .bad
def gFldPop (i : Nat) (k : Key) : Env' → R EV := fun ρ => match dnAt i ρ with
  | some kvs => match fget k kvs with
    | some (.l xs) => match xs[xs.length - 1]? with
      | some x => .ok (.d x) (dnPut i (fsetL k xs.dropLast kvs) ρ)
      | none => .bad
    | _ => .bad
  | none => .bad
def sFld (i : Nat) (k : Key) (m : Env' → R EV) : Env' → RS := fun ρ => (m ρ).toS fun e ρ1 => match fzV e with
  | .d y => match dnAt i ρ1 with
    | some kvs => match fget k kvs, fsetD k y kvs with
      | some (.d _), some kvs' => if kvs.length < sizeLine then .nx (dnPut i kvs' ρ1) else .bad
      | _, _ => .bad
    | none => .bad
  | _ => .bad
section
variable {K : Fg} {P : Hp} {B : Nat → Option V} {G G' : Hp} {ρ : Env'} {σ : L2.St} {H H' : Hp} {F : Nat → List Addr}
theorem SRF.dn (s : SRF K P B G ρ σ H F) {i : Nat} {kvs : List (Key × Fld)} (h : dnAt i ρ = some kvs) :
    ∃ sv v, ρ[i]? = some (some sv) ∧ (sv = .o (.dn kvs) ∨ sv = .b (.dn kvs)) ∧ σ[i]? = some (some v) ∧ OR K G H (.dn kvs) v (F i) := by
  unfold dnAt at h
  split at h
  · rename_i m hm
    cases h
    obtain ⟨v, q1, q2, _⟩ := s.slot i _ hm
    exact ⟨_, v, hm, .inl rfl, q1, q2⟩
  · rename_i m hm
    cases h
    obtain ⟨v, q1, q2, _⟩ := s.slot i _ hm
    exact ⟨_, v, hm, .inr rfl, q1, q2⟩
  · cases h
theorem SRF.dnPut (s : SRF K P B G ρ σ H F) {i : Nat} {kvs kvs' : List (Key × Fld)} (h : dnAt i ρ = some kvs) {v : V} (hv : σ[i]? = some (some v)) (n : OR K G H' (.dn kvs') v (F i)) (hH : ∀ a, a ∉ F i → H' a = H a) :
    SRF K P B G (dnPut i kvs' ρ) σ H' F := by
  obtain ⟨sv, v', h1, h2, h3, h4⟩ := s.dn h
  unfold Mi.dnPut
  rcases h2 with rfl | rfl
  · rw [h1]
    exact s.poke h1 rfl hv (sv' := .o (.dn kvs')) n hH n.some
  · rw [h1]
    exact s.poke h1 rfl hv (sv' := .b (.dn kvs')) n hH n.some
end
theorem or_keys {K : Fg} {G H : Hp} : ∀ {kvs : List (Key × Fld)} {vs : List (Key × V)} {F : List Addr}, FRs K G H kvs vs F → vs.length = kvs.length
  | [], [], _, _ => rfl
  | (j, .d x) :: r, (j', u) :: s, F, h => by simp [or_keys h.2.2]
  | (j, .l xs) :: r, (j', u) :: s, F, h => by
    obtain ⟨_, a, ws, F', _, _, _, _, h5⟩ := h
    simp [or_keys h5]
section
variable {X : Cx} {W : WX} {e : Expr} {m : Env' → R EV} {pos p p2 p3 cpos apos : Pos} {x : Str} {k : Str} {j : Nat}
/-- x["k"], a datum -/
theorem ae_fld (i : Nat) (hu : X.A.units + 1 < cLine) (hx : AE X W (getV i) (.Name x p)) : AE X W (gFld i (.inr k)) (.Subscript (.Name x p) (.Constant (.str k) j p2) pos) := by
  refine (pe_dget hu hx (pe_str (x := k) (j := j) (pos := p2)) (fun _ _ => rfl)).imp fun σ H Q h => ?_
  obtain ⟨P, B, G, ρ, F, s, h⟩ := h
  unfold gFld at h
  cases q : dnAt i ρ with
  | none => simp only [q] at h; exact h.elim
  | some kvs =>
    cases q2 : fget (.inr k) kvs with
    | none => simp only [q, Option.bind_some, q2] at h; exact h.elim
    | some f =>
      cases f with
      | l xs => simp only [q, Option.bind_some, q2] at h; exact h.elim
      | d y =>
        simp only [q, Option.bind_some, q2] at h
        obtain ⟨sv, v, h1, h2, h3, a, vs, F', h4, h5, h6, h7, h8⟩ := s.dn q
        obtain ⟨w, h9, h10⟩ := frs_get h8 q2
        refine ⟨P, B, G, ρ, F, s, ?_⟩
        have hg : getV i ρ = .ok (.al i) ρ := by
          unfold getV
          rcases h2 with rfl | rfl <;> rw [h1]
        rw [hg]
        intro G1 H1 F1 w1 e1 s1 r1
        have r1' : σ[i]? = some (some w1) := r1
        rw [h3] at r1'
        cases r1'
        obtain ⟨sv', v', k1, k2, k3, a', vs', F'', k4, k5, k6, k7, k8⟩ := s1.dn q
        rw [h3] at k3; cases k3
        obtain ⟨w2, k9, k10⟩ := frs_get k8 q2
        exact ⟨a', w2, k4, k9 ▸ DGet.k (k := .inr k) k7, h G1 H1 F1 w2 e1 s1 k10⟩
/-- the own list under x["k"] -/
theorem pe_fldL (i : Nat) (hu : X.A.units + 1 < cLine) (hx : AE X W (getV i) (.Name x p)) : PE X (.Subscript (.Name x p) (.Constant (.str k) j p2) pos) (fun σ H Q => ∃ P B G ρ F kvs xs, SRF X.K P B G ρ σ H F ∧ dnAt i ρ = some kvs ∧ fget (.inr k) kvs = some (.l xs) ∧
    ∀ G1 H1 F1 v a vs F' b ws, Same G G1 → SRF X.K P B G1 ρ σ H1 F1 → σ[i]? = some (some v) → v = .ref a → F1 i = a :: F' → (F1 i).Nodup → H1 a = some (.dK vs) → FRs X.K G1 H1 kvs vs F' → valV vs (.inr k) = some (.ref b) → b ∈ F' → H1 b = some (.lst ws) → RDs X.K G1 xs ws → Q (.ref b) H1) := by
  refine (pe_dget hu hx (pe_str (x := k) (j := j) (pos := p2)) (fun _ _ => rfl)).imp fun σ H Q h => ?_
  obtain ⟨P, B, G, ρ, F, kvs, xs, s, q, q2, h⟩ := h
  obtain ⟨sv, v, h1, h2, h3, a, vs, F', h4, h5, h6, h7, h8⟩ := s.dn q
  refine ⟨P, B, G, ρ, F, s, ?_⟩
  have hg : getV i ρ = .ok (.al i) ρ := by
    unfold getV
    rcases h2 with rfl | rfl <;> rw [h1]
  rw [hg]
  intro G1 H1 F1 w1 e1 s1 r1
  have r1' : σ[i]? = some (some w1) := r1
  rw [h3] at r1'
  cases r1'
  obtain ⟨sv', v', k1, k2, k3, a', vs', F'', k4, k5, k6, k7, k8⟩ := s1.dn q
  rw [h3] at k3; cases k3
  obtain ⟨w2, k9, b, ws, k10, k11, k12, k13⟩ := frs_get k8 q2
  subst k10
  exact ⟨a', .ref b, k4, k9 ▸ DGet.k (k := .inr k) k7, h G1 H1 F1 _ a' vs' F'' b ws e1 s1 h3 k4 k5 k6 k7 k8 k9 k11 k12 k13⟩
/-- len(x["k"]) -/
theorem ae_fldLen (i : Nat) (hu : X.A.units + 1 < cLine) (hx : AE X W (getV i) (.Name x p)) (hg : Gl X "len") (hm : X.mg "len" = none) (hs : starEach [(.Subscript (.Name x p) (.Constant (.str k) j p2) pos : Expr)] X.env = [(false, eval (.Subscript (.Name x p) (.Constant (.str k) j p2) pos) X.env)] := by rfl) :
    AE X W (gFldLen i (.inr k)) (.Call (.Name "len" p3) [.Subscript (.Name x p) (.Constant (.str k) j p2) pos] [] cpos) := by
  refine (pe_callB call_len_seq hg hm boot_len (pa_cons (pe_fldL (k := k) (j := j) (p2 := p2) (pos := pos) i hu hx) pa_nil hs) (by decide) (by decide) hs (by rfl)).imp fun σ H Q h => ?_
  obtain ⟨P, B, G, ρ, F, s, h⟩ := h
  unfold gFldLen at h
  cases q : dnAt i ρ with
  | none => simp only [q] at h; exact h.elim
  | some kvs =>
    cases q2 : fget (.inr k) kvs with
    | none => simp only [q, Option.bind_some, q2] at h; exact h.elim
    | some f =>
      cases f with
      | d y => simp only [q, Option.bind_some, q2] at h; exact h.elim
      | l xs =>
        simp only [q, Option.bind_some, q2] at h
        refine ⟨P, B, G, ρ, F, kvs, xs, s, q, q2, fun G1 H1 F1 v a vs F' b ws e1 s1 _ _ _ _ _ _ _ _ hb hr => ⟨b, ws, rfl, .inl (SqL.of hb), ?_⟩⟩
        rw [hr.length]
        exact h G1 H1 F1 _ e1 s1 (.int _)
/-- x["k"].pop() -/
theorem ae_fldPop (i : Nat) (hu : X.A.units + 1 < cLine) (hx : AE X W (getV i) (.Name x p)) (hbase : attributeBase (.Subscript (.Name x p) (.Constant (.str k) j p2) pos) "pop" X.env (eval (.Subscript (.Name x p) (.Constant (.str k) j p2) pos) X.env) = eval (.Subscript (.Name x p) (.Constant (.str k) j p2) pos) X.env := by rfl)
    (hline : (apos.endLine == cpos.line) = true := by rfl) :
    AE X W (gFldPop i (.inr k)) (.Call (.Attribute (.Subscript (.Name x p) (.Constant (.str k) j p2) pos) "pop" apos) [] [] cpos) := by
  refine (pe_bm0 (X := X) (r := rPop) PySem.F.plainAttrs_list PySem.F.slot_list_pop PySem.F.type_list_pop mt_pop (pe_fldL (k := k) (j := j) (p2 := p2) (pos := pos) i hu hx) hbase hline).imp fun σ H Q h => ?_
  obtain ⟨P, B, G, ρ, F, s, h⟩ := h
  unfold gFldPop at h
  cases q : dnAt i ρ with
  | none => simp only [q] at h; exact h.elim
  | some kvs =>
    cases q2 : fget (.inr k) kvs with
    | none => simp only [q, q2] at h; exact h.elim
    | some f =>
      cases f with
      | d y => simp only [q, q2] at h; exact h.elim
      | l xs =>
        cases q3 : xs[xs.length - 1]? with
        | none => simp only [q, q2, q3] at h; exact h.elim
        | some z =>
          simp only [q, q2, q3] at h
          refine ⟨P, B, G, ρ, F, kvs, xs, s, q, q2, fun G1 H1 F1 v a vs F' b ws e1 s1 hv ev eF nd hd fr hvb hbF hb hr => ⟨.inl ⟨rfl, ws, SqL.of hb⟩, ?_⟩⟩
          obtain ⟨w, h1, h2⟩ := hr.get q3
          refine ⟨b, ws, w, rfl, rfl, hb, by rw [hr.length]; exact h1, ?_⟩
          have hbi : b ∈ F1 i := by rw [eF]; exact List.mem_cons_of_mem _ hbF
          have hab : a ≠ b := fun z => by
            rw [eF] at nd
            exact (List.nodup_cons.mp nd).1 (z ▸ hbF)
          have n : OR X.K G1 (upd H1 b (.lst ws.dropLast)) (.dn (fsetL (.inr k) xs.dropLast kvs)) v (F1 i) :=
            ⟨a, vs, F', ev, eF, nd, by rw [upd_ne hab]; exact hd, frs_setL hb hr.dropLast fr (by rw [eF] at nd; exact (List.nodup_cons.mp nd).2) q2 hvb⟩
          exact h G1 _ F1 w e1 (s1.dnPut q hv n fun c hc => upd_ne fun z => hc (z ▸ hbi)) h2
/-- x["k"] = e -/
theorem as_fld (i : Nat) (hu : X.A.units + 1 < cLine) (hx : AE X W (getV i) (.Name x p)) (h1 : AE X W m e) (hs : swapsWith e (some (.Subscript (.Name x p) (.Constant (.str k) j p2) p3)) pos.line X.env = pure false := by rfl) :
    AS X W (sFld i (.inr k) m) (.Assign [.Subscript (.Name x p) (.Constant (.str k) j p2) p3] e pos) := by
  refine (ps_dput hu hx (pe_str (x := k) (j := j) (pos := p2)) h1 hs).imp fun D σ H h => ?_
  obtain ⟨P, B, G, ρ, F, s, h⟩ := h
  refine ⟨P, B, G, ρ, F, s, (PoS.toS (rel := EvR X.K) (σ := σ) h).imp fun v H1 ⟨G1, ρ1, F1, e1, g1, s1, r1, h1⟩ => ?_⟩
  obtain ⟨G2, g2, s2, r2, n2⟩ := fz_ok s1 r1
  cases qe : fzV e1 with
  | fr mm => simp only [qe] at h1; exact h1.elim
  | al ii => simp only [qe] at h1; exact h1.elim
  | d y =>
    rw [qe] at r2
    cases q : dnAt i ρ1 with
    | none => simp only [qe, q] at h1; exact h1.elim
    | some kvs =>
      cases q2 : fget (.inr k) kvs with
      | none => simp only [qe, q, q2] at h1; exact h1.elim
      | some f =>
        cases f with
        | l xs => simp only [qe, q, q2] at h1; exact h1.elim
        | d y0 =>
          cases q3 : fsetD (.inr k) y kvs with
          | none => simp only [qe, q, q2, q3] at h1; exact h1.elim
          | some kvs' =>
            simp only [qe, q, q2, q3] at h1
            split at h1
            · rename_i hl
              obtain ⟨sv, u, k1, k2, k3, a, vs, F', k4, k5, k6, k7, k8⟩ := s2.dn q
              refine ⟨P, B, G2, ρ1, F1, s2, ?_⟩
              have hg : getV i ρ1 = .ok (.al i) ρ1 := by
                unfold getV
                rcases k2 with rfl | rfl <;> rw [k1]
              rw [hg]
              intro G3 H3 F3 w3 e3 s3 r3
              have r3' : σ[i]? = some (some w3) := r3
              rw [k3] at r3'
              cases r3'
              obtain ⟨sv', u', j1, j2, j3, a', vs', F'', j4, j5, j6, j7, j8⟩ := s3.dn q
              rw [k3] at j3; cases j3
              have hy : RD X.K G3 y v := RD.mono e3 r2
              obtain ⟨w, j9, _⟩ := frs_get j8 q2
              refine ⟨a', _, j4, DPut.k (k := .inr k) j7 (by rw [or_keys j8]; exact hl), ?_⟩
              have hput : putK vs' (.inr k) v = vs'.map fun kv => if kv.1 = (.inr k : Key) then (kv.1, v) else kv := by
                unfold putK
                rw [if_pos (by rw [valV_any, j9]; rfl)]
              rw [hput]
              have hai : a' ∈ F3 i := by rw [j5]; exact List.mem_cons_self
              have hnF : a' ∉ F'' := by rw [j5] at j6; exact (List.nodup_cons.mp j6).1
              have n : OR X.K G3 (upd H3 a' (.dK (vs'.map fun kv => if kv.1 = (.inr k : Key) then (kv.1, v) else kv))) (.dn kvs') u (F3 i) :=
                ⟨a', _, F'', j4, j5, j6, upd_same, (frs_mapD hy j8 q3).keep (Same.refl _) fun c hc => upd_ne fun z => hnF (z ▸ hc)⟩
              exact h1 G3 _ F3 σ (g2.trans e3) (s3.dnPut q k3 n fun c hc => upd_ne fun z => hc (z ▸ hai))
            · exact h1.elim
end
end Mi
/-! text MiJ -/
set_option Elab.async false
set_option linter.all false
set_option maxRecDepth 100000
set_option maxHeartbeats 4000000
/-! MiJ: displays of dicts, reversed copies, parallel assignment, in, repetition, repr. -/
namespace Mi
open PySem PySem.Spec PyProof.Rows L2

/-! ### {"k": e, ..} -/
abbrev EvRows (K : Fg) : Rel (List (Key × Fld)) (List (V × V)) := fun P G H σ F fs ps => ∃ vs Fm, ps = vs.map (fun kv => (kV kv.1, kv.2)) ∧ FRs K G H fs vs Fm ∧ Fm.Nodup ∧ ∀ a ∈ Fm, G a = none ∧ P a = none ∧ ∀ i, a ∉ F i
def rowsM : List (Key × (Env' → R EV)) → Env' → R (List (Key × Fld))
  | [], ρ => .ok [] ρ
  | (k, m) :: r, ρ => (m ρ).bind fun e ρ1 => match e with
    | .d x => (rowsM r ρ1).bind fun fs ρ2 => .ok ((k, .d x) :: fs) ρ2
    | .fr (.lst xs) => (rowsM r ρ1).bind fun fs ρ2 => .ok ((k, .l xs) :: fs) ρ2
    | _ => .bad
def allD : List (Key × Fld) → Option (List (Key × D))
  | [] => some []
  | (k, .d x) :: r => (allD r).map fun q => (k, x) :: q
  | (_, .l _) :: _ => none
def dispM (fs : List (Key × Fld)) : MO := match allD fs with
  | some q => .dk q
  | none => .dn fs
def mDisp (rows : List (Key × (Env' → R EV))) : Env' → R EV := fun ρ => (rowsM rows ρ).bind fun fs ρ1 => if fs.length ≤ 15 ∧ (fs.map (·.1)).Nodup then .ok (.fr (dispM fs)) ρ1 else .bad
theorem frs_keys {K : Fg} {G H : Hp} : ∀ {kvs : List (Key × Fld)} {vs : List (Key × V)} {F : List Addr}, FRs K G H kvs vs F → vs.map (·.1) = kvs.map (·.1)
  | [], [], _, _ => rfl
  | (j, .d x) :: r, (j', u) :: s, F, h => by
    rw [List.map_cons, List.map_cons, frs_keys h.2.2, h.1]
  | (j, .l xs) :: r, (j', u) :: s, F, h => by
    obtain ⟨h0, a, ws, F', _, _, _, _, h5⟩ := h
    rw [List.map_cons, List.map_cons, frs_keys h5, h0]
theorem frs_allD {K : Fg} {G H : Hp} : ∀ {kvs : List (Key × Fld)} {vs : List (Key × V)} {F : List Addr} {q : List (Key × D)}, FRs K G H kvs vs F → allD kvs = some q → F = [] ∧ RDk K G (q.map fun p => (kD p.1, p.2)) vs
  | [], [], _, _, h, e => by cases e; exact ⟨h, .nil⟩
  | (j, .d x) :: r, (j', u) :: s, F, q, h, e => by
    unfold allD at e
    cases z : allD r with
    | none => rw [z] at e; cases e
    | some q' =>
      rw [z] at e; cases e
      obtain ⟨h1, h2⟩ := frs_allD h.2.2 z
      refine ⟨h1, ?_⟩
      rw [← h.1]
      exact .cons h.2.1 h2
  | (j, .l xs) :: r, (j', u) :: s, F, q, h, e => by cases e
theorem mergeK_app : ∀ (kvs acc : List (Key × V)), ((acc ++ kvs).map (·.1)).Nodup → mergeK acc kvs = acc ++ kvs
  | [], acc, _ => by rw [List.append_nil]; rfl
  | p :: r, acc, nd => by
    have hn : valV acc p.1 = none := by
      cases q : valV acc p.1 with
      | none => rfl
      | some v =>
        exfalso
        have := valV_in q
        rw [List.map_append, List.map_cons, List.nodup_append] at nd
        exact nd.2.2 _ this _ List.mem_cons_self rfl
    have : mergeK acc (p :: r) = mergeK (putK acc p.1 p.2) r := rfl
    rw [this, putK_new p.2 hn, mergeK_app r (acc ++ [(p.1, p.2)]) (by simpa using nd)]
    simp
section
variable {X : Cx} {W : WX} {pos : Pos}
def trsOf (K : Fg) (W : WX) (rows : List (Key × (Env' → R EV))) : List (TE × TE) := rows.map fun r => (tC (kV r.1), tE K W r.2)
def ADs (X : Cx) (W : WX) (pos : Pos) (rows : List (Key × (Env' → R EV))) (keys : List (Option Expr)) (values : List Expr) : Prop := PPs X pos keys values (trsOf X.K W rows)
theorem ad_nil : ADs X W pos [] [] [] := pps_nil
theorem ad_str {k : Str} {j} {p : Pos} {m : Env' → R EV} {e : Expr} {rows : List (Key × (Env' → R EV))} {keys : List (Option Expr)} {values : List Expr} (h : AE X W m e) (r : ADs X W pos rows keys values) :
    ADs X W pos ((.inr k, m) :: rows) (some (.Constant (.str k) j p) :: keys) (e :: values) := pps_cons pe_str h r
theorem ad_int {k : Int} {j} {p : Pos} {m : Env' → R EV} {e : Expr} {rows : List (Key × (Env' → R EV))} {keys : List (Option Expr)} {values : List Expr} (h : AE X W m e) (r : ADs X W pos rows keys values) :
    ADs X W pos ((.inl k, m) :: rows) (some (.Constant (.int k) j p) :: keys) (e :: values) := pps_cons pe_int h r
theorem pairs_step {B : Nat → Option V} {σ : L2.St} : ∀ {rows : List (Key × (Env' → R EV))} {P G H : Hp} {ρ : Env'} {F : Nat → List Addr} {Q : List (V × V) → Hp → Prop}, SRF X.K P B G ρ σ H F → Po (EvRows X.K) X.K W P B G σ (rowsM rows ρ) Q → tPairs (trsOf X.K W rows) σ H Q
  | [], P, G, H, ρ, F, Q, s, h => h G H F [] (Same.refl _) s ⟨[], [], rfl, rfl, List.nodup_nil, fun a z => nomatch z⟩
  | (k, m) :: r, P, G, H, ρ, F, Q, s, h => by
    refine ⟨P, B, G, ρ, F, s, (Po.bind (rel := EvR X.K) h).imp fun y H1 ⟨G1, ρ1, F1, e1, g1, s1, r1, h1⟩ => ?_⟩
    cases e1 with
    | al i => exact h1.elim
    | d x =>
      refine pairs_step s1 ?_
      cases q : rowsM r ρ1 with
      | bad => simp only [q] at h1; exact h1.elim
      | exc x' ρ' => simp only [q] at h1; exact h1
      | ok fs ρ2 =>
        simp only [q] at h1
        rintro G' H' F' ps e2 s2 ⟨vs, Fm, rfl, h3, h4, h5⟩
        exact h1 G' H' F' _ e2 s2 ⟨(k, y) :: vs, Fm, rfl, ⟨rfl, RD.mono e2 r1, h3⟩, h4, h5⟩
    | fr mo =>
      cases mo with
      | dk _ => exact h1.elim
      | dt _ => exact h1.elim
      | dn _ => exact h1.elim
      | lst xs =>
        obtain ⟨Fm, ⟨a, vs0, rfl, rfl, ha, hr⟩, hf⟩ := r1
        obtain ⟨f1, f2, f3⟩ := hf a List.mem_cons_self
        refine pairs_step (s1.hold ha f1 f3) ?_
        cases q : rowsM r ρ1 with
        | bad => simp only [q] at h1; exact h1.elim
        | exc x' ρ' =>
          simp only [q] at h1
          exact fun G' H' F' c d e2 s2 x2 => h1 G' H' F' c d e2 (s2.unhold f2).1 x2
        | ok fs ρ2 =>
          simp only [q] at h1
          rintro G' H' F' ps e2 s2 ⟨vs, Fm, rfl, h3, h4, h5⟩
          obtain ⟨s3, k1, k2, k3⟩ := s2.unhold f2
          have hne : a ∉ Fm := fun z => by
            have := (h5 a z).2.1
            rw [upd_same] at this; cases this
          refine h1 G' H' F' _ e2 s3 ⟨(k, .ref a) :: vs, a :: Fm, rfl, ⟨rfl, a, vs0, Fm, rfl, rfl, k1, hr.mono e2, h3⟩, List.nodup_cons.mpr ⟨hne, h4⟩, fun b hb => ?_⟩
          rcases List.mem_cons.mp hb with z | hb
          · rw [z]; exact ⟨k2, f2, k3⟩
          · obtain ⟨l1, l2, l3⟩ := h5 b hb
            have hba : b ≠ a := fun z => hne (z ▸ hb)
            rw [upd_ne hba] at l2
            exact ⟨l1, l2, l3⟩
theorem ae_disp {rows : List (Key × (Env' → R EV))} {keys : List (Option Expr)} {values : List Expr} (h : ADs X W pos rows keys values) (hall : keys.all (·.isSome) = true := by rfl) (hl : keys.length = values.length := by rfl) (h0 : keys ≠ [] := by exact fun z => nomatch z)
    (h15 : keys.length ≤ 15 := by decide) : AE X W (mDisp rows) (.Dict keys values pos) := by
  refine (pe_disp h hall hl h0 h15).imp fun σ H Q h => ?_
  obtain ⟨P, B, G, ρ, F, s, h⟩ := h
  intro p hp
  have s1 := s.grow (Grow.newH (o := .dK []) s.sub hp)
  have gp : G p = none := s.sub.free hp
  have pp : P p = none := s.pre.free hp
  have fp : ∀ i, p ∉ F i := fun i z => (s.fre i p z).2.2 hp
  refine pairs_step (s1.hold upd_same gp fp) ?_
  unfold mDisp at h
  cases q : rowsM rows ρ with
  | bad => rw [q] at h; exact h.elim
  | exc x' ρ' => rw [q] at h; exact fun G' H' F' c d e2 s2 x2 => h G' H' F' c d e2 (s2.unhold pp).1 x2
  | ok fs ρ2 =>
    rw [q] at h
    rintro G' H' F' ps e2 s2 ⟨vs, Fm, rfl, h3, h4, h5⟩
    obtain ⟨s3, k1, k2, k3⟩ := s2.unhold pp
    have h : Po (EvR X.K) X.K W P B G σ (if fs.length ≤ 15 ∧ (fs.map (·.1)).Nodup then .ok (.fr (dispM fs)) ρ2 else .bad) Q := h
    split at h
    · rename_i hc
      have hlen := or_keys h3
      have hkeys := frs_keys h3
      have hm : mergeK [] vs = vs := mergeK_app vs [] (by rw [List.nil_append, hkeys]; exact hc.2)
      refine ⟨k1, vs, rfl, by omega, ?_⟩
      rw [hm]
      have hnF : p ∉ Fm := fun z => by
        have := (h5 p z).2.1
        rw [upd_same] at this; cases this
      refine h G' _ F' _ e2 (s3.write pp k2 k3) ?_
      have h3' : FRs X.K G' (upd H' p (.dK vs)) fs vs Fm := h3.keep (Same.refl _) fun c hc => upd_ne fun z => hnF (z ▸ hc)
      cases z : allD fs with
      | some qd =>
        obtain ⟨f0, rk⟩ := frs_allD h3 z
        have : dispM fs = .dk qd := by unfold dispM; rw [z]
        rw [this]
        exact ⟨[p], ⟨p, vs, rfl, rfl, upd_same, rk⟩, fun b hb => by rw [List.mem_singleton.mp hb]; exact ⟨k2, pp, k3⟩⟩
      | none =>
        have : dispM fs = .dn fs := by unfold dispM; rw [z]
        rw [this]
        refine ⟨p :: Fm, ⟨p, vs, Fm, rfl, rfl, List.nodup_cons.mpr ⟨hnF, h4⟩, upd_same, h3'⟩, fun b hb => ?_⟩
        rcases List.mem_cons.mp hb with z | hb
        · rw [z]; exact ⟨k2, pp, k3⟩
        · obtain ⟨l1, l2, l3⟩ := h5 b hb
          have hba : b ≠ p := fun z => hnF (z ▸ hb)
          rw [upd_ne hba] at l2
          exact ⟨l1, l2, l3⟩
    · exact h.elim
end

/-! ### e[::-1] -/
def mRev (m : Env' → R EV) : Env' → R EV := fun ρ => (m ρ).bind fun e ρ1 => match dV ρ1 e with
  | some (.list xs) => .ok (.fr (.lst xs.reverse)) ρ1
  | _ => .bad
/-- what is flat, as a value -/
def flD : D → Option V
  | .none => some .non
  | .bool b => some (.bl b)
  | .int i => some (.int i)
  | .str x => some (.str x)
  | _ => none
def flDs : List D → Option (List V)
  | [] => some []
  | d :: ds => (flD d).bind fun v => (flDs ds).map fun vs => v :: vs
def inD (a b : D) : Option Bool := match b with
  | .list xs => (flD a).bind fun x => (flDs xs).map fun vs => inV x vs
  | .tuple xs => (flD a).bind fun x => (flDs xs).map fun vs => inV x vs
  | .str z => match a with
    | .str y => match y.cps.toList with
      | [c] => some (decide (c ∈ z.cps.toList))
      | _ => none
    | _ => none
  | _ => none
def fIn (a b : D) : Option EV := (inD a b).map fun k => .d (.bool k)
def fNotIn (a b : D) : Option EV := (inD a b).map fun k => .d (.bool !k)
def fRepr : List D → Option EV
  | [d] => if d.canLay0 = true ∧ d.showable = true ∧ d.shown.length ≤ sizeLine ∧ d.depth ≤ 2000 then some (.d (.str d.shown)) else none
  | _ => none
section
variable {K : Fg} {G H : Hp}
theorem RD.fl {d : D} {v w : V} (h : RD K G d v) (e : flD d = some w) : v = w ∧ flatV w = true := by
  cases h <;> first
    | (cases e; exact ⟨rfl, rfl⟩)
    | cases e
theorem ShR.fl {d : D} {v w : V} (h : ShR K G H d v) (e : flD d = some w) : v = w ∧ flatV w = true := by
  cases h with
  | d h => exact h.fl e
  | _ => cases e
theorem RDs.fl : ∀ {ds : List D} {vs ws : List V}, RDs K G ds vs → flDs ds = some ws → vs = ws ∧ ws.all flatV = true
  | _, _, _, .nil, e => by cases e; exact ⟨rfl, rfl⟩
  | _, _, ws, .cons (d := d) (ds := ds) h r, e => by
    unfold flDs at e
    cases q : flD d with
    | none => rw [q] at e; cases e
    | some w =>
      cases q2 : flDs ds with
      | none => rw [q, q2] at e; cases e
      | some ws' =>
        rw [q, q2] at e; cases e
        obtain ⟨h1, h2⟩ := h.fl q
        obtain ⟨h3, h4⟩ := RDs.fl r q2
        exact ⟨by rw [h1, h3], by rw [List.all_cons, h2, h4]; rfl⟩
end
section
variable {X : Cx} {W : WX} {e a b : Expr} {es : List Expr} {m m1 m2 : Env' → R EV} {ms : Env' → R (List EV)} {pos p : Pos}
theorem ae_rev {k : Nat} {p1 p2 p3 : Pos} (h1 : AE X W m e) : AE X W (mRev m) (.Subscript e (.Slice none none (some (.UnaryOp .USub (.Constant (.int 1) k p1) p2)) p3) pos) := by
  refine (pe_revL h1).imp fun σ H Q h => ?_
  obtain ⟨P, B, G, ρ, F, s, h⟩ := h
  refine ⟨P, B, G, ρ, F, s, (Po.bind (rel := EvR X.K) h).imp fun x H1 ⟨G1, ρ1, F1, e1, _, s1, r1, h1⟩ => ?_⟩
  cases q : dV ρ1 e1 with
  | none => simp only [q] at h1; exact h1.elim
  | some d =>
    cases d with
    | list xs =>
      simp only [q] at h1
      obtain ⟨l, vs, rfl, hl, hr⟩ := (ShR.of s1 r1 q).lst s1.sub
      refine ⟨l, vs, rfl, SqL.of hl, fun p hp => ?_⟩
      have g := Grow.newH (o := .lst vs.reverse) s1.sub hp
      refine h1 G1 _ F1 _ (Same.refl _) (s1.grow g) (s1.new g ⟨[p], ⟨p, _, rfl, rfl, upd_same, hr.reverse⟩, fun c hc => ?_⟩)
      rw [List.mem_singleton.mp hc]
      exact ⟨s1.sub.free hp, hp⟩
    | _ => simp only [q] at h1; exact h1.elim
theorem in_ok {neg : Bool} {r1 r2 : R2} {G H : Hp} {x y : V} {a b : D} {k : Bool} {Q : VK} (s : Same G H) (ha : ShR X.K G H a x) (hb : ShR X.K G H b y) (e : inD a b = some k) (q : Q (.bl (if neg then !k else k)) H) :
    rIn X.K neg x y H Q ∨ ∃ (c : Nat) (z : Str), x = .str ⟨#[c]⟩ ∧ y = .str z ∧ Q (.bl (if neg then !decide (c ∈ z.cps.toList) else decide (c ∈ z.cps.toList))) H := by
  cases b with
  | list xs =>
    have e' : ((flD a).bind fun x => (flDs xs).map fun vs => inV x vs) = some k := e
    cases q1 : flD a with
    | none => rw [q1] at e'; cases e'
    | some w =>
      cases q2 : flDs xs with
      | none => rw [q1, q2] at e'; cases e'
      | some ws =>
        rw [q1, q2] at e'; cases e'
        obtain ⟨rfl, f1⟩ := ha.fl q1
        obtain ⟨l, vs, rfl, hl, hr⟩ := hb.lst s
        obtain ⟨rfl, f2⟩ := hr.fl q2
        exact .inl ⟨l, vs, rfl, .inl (SqL.of hl), f1, f2, q⟩
  | tuple xs =>
    have e' : ((flD a).bind fun x => (flDs xs).map fun vs => inV x vs) = some k := e
    cases q1 : flD a with
    | none => rw [q1] at e'; cases e'
    | some w =>
      cases q2 : flDs xs with
      | none => rw [q1, q2] at e'; cases e'
      | some ws =>
        rw [q1, q2] at e'; cases e'
        obtain ⟨rfl, f1⟩ := ha.fl q1
        obtain ⟨l, vs, rfl, hl, hr⟩ := hb.tup
        obtain ⟨rfl, f2⟩ := hr.fl q2
        exact .inl ⟨l, vs, rfl, .inr (hl.mono s).sqT, f1, f2, q⟩
  | str z =>
    cases a with
    | str t =>
      have e' : (match t.cps.toList with | [c] => some (decide (c ∈ z.cps.toList)) | _ => none) = some k := e
      split at e'
      · rename_i c hc
        cases e'
        have ht : t = ⟨#[c]⟩ := by
          cases t with
          | mk arr =>
            have : arr = #[c] := Array.ext' (by simpa using hc)
            rw [this]
        exact .inr ⟨_, z, by rw [ha.str, ht], hb.str, q⟩
      · cases e'
    | _ => cases e
  | _ => cases e
theorem o_in : Op2 X (compareOp .In) fIn := by
  refine ⟨_, op_in_seq.or op_in_sign, fun G H x y a b ev Q s ha hb e res => ?_⟩
  unfold fIn at e
  cases q : inD a b with
  | none => rw [q] at e; cases e
  | some k =>
    rw [q] at e; cases e
    exact in_ok (neg := false) (r1 := rIn X.K false) (r2 := rIn X.K false) s ha hb q (res.same s (.bl _))
theorem o_notIn : Op2 X (compareOp .NotIn) fNotIn := by
  refine ⟨_, op_notIn_seq.or op_notIn_sign, fun G H x y a b ev Q s ha hb e res => ?_⟩
  unfold fNotIn at e
  cases q : inD a b with
  | none => rw [q] at e; cases e
  | some k =>
    rw [q] at e; cases e
    exact in_ok (neg := true) (r1 := rIn X.K false) (r2 := rIn X.K false) s ha hb q (res.same s (.bl _))
/-- repr(e) -/
theorem g_repr (hu : X.A.units + 2100 < cLine) (hg : X.A.guards = some []) : CallD X (.builtin "repr") fRepr := by
  refine ⟨fun xs H Q => ∃ x d, xs = [x] ∧ Dp X.K H x d ∧ d.canLay0 = true ∧ d.showable = true ∧ d.shown.length ≤ sizeLine ∧ d.depth ≤ 2000 ∧ Q (.str d.shown) H, ?_, ?_⟩
  · intro pins s σ H xs us Q I rv h
    obtain ⟨x, d, rfl, dp, hc, hs, hz, hd, q⟩ := h
    obtain ⟨u, rfl, ru⟩ := rv.one
    have fin : ∀ t s', Inv X pins σ H s' → EP X pins σ Q (.str d.shown t) s' := fun t s' I' => ⟨.str d.shown, H, I', ⟨t, rfl⟩, q⟩
    have atRef : ∀ a, u = .ref a → wpAny (model X.prog X.w) X.A (call (.builtin "repr") [u]) (EP X pins σ Q) X.xe s := fun a eu => by
      subst eu
      obtain ⟨as, r1⟩ := Dp.reads I d x _ dp ru
      exact repr_of_reads' r1 hs (PyData.noDict_hsm (PyData.hasDict_of_canLay d hc)) hg (by omega) (fun _ _ e => e) (fun h' t tk hk => fin t _ (I.kept hk)) hz
    cases dp with
    | non => cases ru; exact PySem.P.repr_of_none (fin _ _ (I.tok _))
    | bl b => cases ru; exact PySem.P.repr_of_bool (fin _ _ (I.tok _))
    | int i =>
      obtain ⟨t, rfl⟩ := ru
      exact PySem.P.repr_of_int (of_decide_eq_true hs) (fin _ _ (I.tok _))
    | str x =>
      obtain ⟨t, rfl⟩ := ru
      exact PySem.P.repr_of_str (fin _ _ (I.tok _)) hz
    | lst _ _ => exact atRef _ ru
    | tup _ _ => exact atRef _ ru
  · intro G H ws ds ev Q s h e res
    unfold fRepr at e
    split at e
    · rename_i d
      split at e
      · rename_i hc
        cases e
        obtain ⟨w, rfl, h1⟩ := h.one
        exact ⟨w, d, rfl, h1.dp s hc.1, hc.1, hc.2.1, hc.2.2.1, hc.2.2.2, res.same s (.str _)⟩
      · cases e
    · cases e
end
end Mi
/-! text MiK -/
set_option Elab.async false
set_option linter.all false
set_option maxRecDepth 100000
set_option maxHeartbeats 4000000
/-! MiK: parallel assignment, repetition. -/
namespace Mi
open PySem PySem.Spec PyProof.Rows L2

/-! ### new objects that are kept while more is computed -/
def jn (L : List Addr) (H P : Hp) : Hp := fun a => if a ∈ L then H a else P a
section
variable {K : Fg} {P : Hp} {B : Nat → Option V} {G G' : Hp} {ρ ρ' : Env'} {σ σ' : L2.St} {H H' : Hp} {F F' : Nat → List Addr} {L : List Addr}
theorem SRF.holdL (s : SRF K P B G ρ σ H F) (hL : ∀ a ∈ L, H a ≠ none ∧ G a = none ∧ P a = none ∧ ∀ i, a ∉ F i) : SRF K (jn L H P) B G ρ σ H F := by
  refine ⟨s.sub, fun b u e => ?_, s.len, s.slot, fun i a ha => ?_, s.dis, fun a ha => ?_⟩
  · unfold jn at e
    split at e
    · exact e
    · exact s.pre b u e
  · obtain ⟨h1, h2, h3⟩ := s.fre i a ha
    refine ⟨h1, ?_, h3⟩
    unfold jn
    rw [if_neg fun z => (hL a z).2.2.2 i ha]; exact h2
  · by_cases hb : a ∈ L
    · exact (hL a hb).2.1
    · unfold jn at ha
      rw [if_neg hb] at ha; exact s.pg a ha
theorem SRF.unholdL (s : SRF K (jn L H P) B G' ρ' σ' H' F') (hL : ∀ a ∈ L, H a ≠ none ∧ P a = none) : SRF K P B G' ρ' σ' H' F' ∧ ∀ a ∈ L, H' a = H a ∧ G' a = none ∧ ∀ i, a ∉ F' i := by
  have j1 : ∀ a, a ∈ L → jn L H P a = H a := fun a h => if_pos h
  have j2 : ∀ a, a ∉ L → jn L H P a = P a := fun a h => if_neg h
  refine ⟨⟨s.sub, fun b u e => ?_, s.len, s.slot, fun i a ha => ?_, s.dis, fun a ha => s.pg a ?_⟩, fun a ha => ⟨?_, s.pg a (by rw [j1 a ha]; exact (hL a ha).1), fun i hi => ?_⟩⟩
  · have hb : b ∉ L := fun z => by rw [(hL b z).2] at e; cases e
    exact s.pre b u (by rw [j2 b hb]; exact e)
  · obtain ⟨h1, h2, h3⟩ := s.fre i a ha
    have hb : a ∉ L := fun z => by rw [j1 a z] at h2; exact (hL a z).1 h2
    exact ⟨h1, by rw [← j2 a hb]; exact h2, h3⟩
  · have hb : a ∉ L := fun z => ha (hL a z).2
    rw [j2 a hb]; exact ha
  · cases q : H a with
    | none => exact absurd q (hL a ha).1
    | some o => exact s.pre a o (by rw [j1 a ha]; exact q)
  · have := (s.fre i a hi).2.1
    rw [j1 a ha] at this
    exact (hL a ha).1 this
end
/-- values, data or new objects; the new ones' addresses -/
def EvO (K : Fg) (G H : Hp) : List EV → List V → List Addr → Prop
  | [], [], L => L = []
  | .d x :: es, w :: ws, L => RD K G x w ∧ EvO K G H es ws L
  | .fr m :: es, w :: ws, L => ∃ Fm L', L = Fm ++ L' ∧ OR K G H m w Fm ∧ EvO K G H es ws L'
  | _, _, _ => False
theorem EvO.keep {K : Fg} {G G' H H' : Hp} (e : Same G G') : ∀ {es : List EV} {ws : List V} {L : List Addr}, EvO K G H es ws L → (∀ a ∈ L, H' a = H a) → EvO K G' H' es ws L
  | [], [], L, h, _ => h
  | .d x :: es, w :: ws, L, h, hk => ⟨h.1.mono e, EvO.keep e h.2 hk⟩
  | .fr m :: es, w :: ws, L, h, hk => by
    obtain ⟨Fm, L', rfl, h1, h2⟩ := h
    exact ⟨Fm, L', rfl, h1.keep e fun a ha => hk a (List.mem_append_left _ ha), EvO.keep e h2 fun a ha => hk a (List.mem_append_right _ ha)⟩
theorem EvO.there {K : Fg} {G H : Hp} : ∀ {es : List EV} {ws : List V} {L : List Addr}, EvO K G H es ws L → ∀ a ∈ L, H a ≠ none
  | [], [], L, h, a, ha => by
    have h' : L = [] := h
    rw [h'] at ha; cases ha
  | .d x :: es, w :: ws, L, h, a, ha => EvO.there h.2 a ha
  | .fr m :: es, w :: ws, L, h, a, ha => by
    obtain ⟨Fm, L', rfl, h1, h2⟩ := h
    rcases List.mem_append.mp ha with ha | ha
    · exact h1.some a ha
    · exact EvO.there h2 a ha
abbrev EvOs (K : Fg) : Rel (List EV) (List V) := fun P G H σ F es ws => ∃ L, EvO K G H es ws L ∧ L.Nodup ∧ ∀ a ∈ L, G a = none ∧ P a = none ∧ ∀ i, a ∉ F i
def AAo (X : Cx) (W : WX) (m : Env' → R (List EV)) (es : List Expr) : Prop := PA X es (tG (EvOs X.K) X.K W m)
def oCons (m : Env' → R EV) (ms : Env' → R (List EV)) : Env' → R (List EV) := fun ρ => (m ρ).bind fun e ρ1 => match e with
  | .al _ => .bad
  | e => (ms ρ1).bind fun es ρ2 => .ok (e :: es) ρ2
theorem OR.nodup {K : Fg} {G H : Hp} {m : MO} {w : V} {Fm : List Addr} (h : OR K G H m w Fm) : Fm.Nodup := by
  cases m with
  | lst xs => obtain ⟨a, vs, _, rfl, _⟩ := h; simp
  | dk xs => obtain ⟨a, vs, _, rfl, _⟩ := h; simp
  | dt xs => obtain ⟨a, vs, _, rfl, _⟩ := h; simp
  | dn xs => obtain ⟨a, vs, F', _, rfl, nd, _⟩ := h; exact nd
section
variable {X : Cx} {W : WX} {e : Expr} {es : List Expr} {m : Env' → R EV} {ms : Env' → R (List EV)} {pos : Pos}
theorem oa_nil : AAo X W aNil [] := pa_nil.imp fun σ H Q ⟨P, B, G, ρ, F, s, h⟩ => h G H F [] (Same.refl _) s ⟨[], rfl, List.nodup_nil, fun a z => nomatch z⟩
theorem oa_cons (h1 : AE X W m e) (h2 : AAo X W ms es) (hs : starEach (e :: es) X.env = (false, eval e X.env) :: starEach es X.env := by rfl) : AAo X W (oCons m ms) (e :: es) := by
  refine (pa_cons h1 h2 hs).imp fun σ H Q h => ?_
  obtain ⟨P, B, G, ρ, F, s, h⟩ := h
  refine ⟨P, B, G, ρ, F, s, (Po.bind (rel := EvR X.K) h).imp fun x H1 ⟨G1, ρ1, F1, e1, g1, s1, r1, h1⟩ => ?_⟩
  cases e1 with
  | al i => exact h1.elim
  | d y =>
    have h1 : Po (EvOs X.K) X.K W P B G1 σ ((ms ρ1).bind fun es ρ2 => .ok (.d y :: es) ρ2) Q := h1
    refine ⟨P, B, G1, ρ1, F1, s1, (Po.bind (rel := EvOs X.K) h1).imp fun ws H2 ⟨G2, ρ2, F2, es2, g2, s2, r2, h2⟩ => ?_⟩
    obtain ⟨L, k1, k2, k3⟩ := r2
    exact h2 G2 H2 F2 _ (Same.refl _) s2 ⟨L, ⟨RD.mono g2 r1, k1⟩, k2, k3⟩
  | fr mo =>
    have h1 : Po (EvOs X.K) X.K W P B G1 σ ((ms ρ1).bind fun es ρ2 => .ok (.fr mo :: es) ρ2) Q := h1
    obtain ⟨Fm, o1, o2⟩ := r1
    have hL : ∀ a ∈ Fm, H1 a ≠ none ∧ G1 a = none ∧ P a = none ∧ ∀ i, a ∉ F1 i := fun a ha => ⟨o1.some a ha, o2 a ha⟩
    have hL2 : ∀ a ∈ Fm, H1 a ≠ none ∧ P a = none := fun a ha => ⟨(hL a ha).1, (hL a ha).2.2.1⟩
    refine ⟨jn Fm H1 P, B, G1, ρ1, F1, s1.holdL hL, ?_⟩
    cases q : ms ρ1 with
    | bad => rw [q] at h1; exact h1.elim
    | exc x' ρ' =>
      rw [q] at h1
      exact fun G' H' F' c d e2 s2 x2 => h1 G' H' F' c d e2 (s2.unholdL hL2).1 x2
    | ok es2 ρ2 =>
      rw [q] at h1
      rintro G' H' F' ws e2 s2 ⟨L, k1, k2, k3⟩
      obtain ⟨s3, k⟩ := s2.unholdL hL2
      have hd : ∀ a ∈ Fm, a ∉ L := fun a ha z => by
        have := (k3 a z).2.1
        unfold jn at this
        rw [if_pos ha] at this
        exact (hL a ha).1 this
      refine h1 G' H' F' _ e2 s3 ⟨Fm ++ L, ⟨Fm, L, rfl, o1.keep e2 fun a ha => (k a ha).1, k1⟩, List.nodup_append.mpr ⟨o1.nodup, k2, fun a ha b hb => fun z => hd a ha (z ▸ hb)⟩, fun a ha => ?_⟩
      rcases List.mem_append.mp ha with ha | ha
      · exact ⟨(k a ha).2.1, (hL a ha).2.2.1, (k a ha).2.2⟩
      · obtain ⟨l1, l2, l3⟩ := k3 a ha
        have hna : a ∉ Fm := fun z => hd a z ha
        unfold jn at l2
        rw [if_neg hna] at l2
        exact ⟨l1, l2, l3⟩
end

/-! ### stored one after another -/
def parL : List (Bool × Nat) → List EV → Env' → Option Env'
  | [], [], ρ => some ρ
  | (own, i) :: ts, e :: es, ρ => (asgN own i e ρ).bind fun ρ1 => parL ts es ρ1
  | _, _, _ => none
def setsV : List Nat → List V → L2.St → L2.St
  | i :: is, v :: vs, σ => setsV is vs (σ.set i (some v))
  | _, _, σ => σ
section
variable {K : Fg} {P : Hp} {B : Nat → Option V}
theorem parL_ok : ∀ {ts : List (Bool × Nat)} {es : List EV} {ws : List V} {L : List Addr} {G H : Hp} {ρ ρ' : Env'} {σ : L2.St} {F : Nat → List Addr}, SRF K P B G ρ σ H F → EvO K G H es ws L → L.Nodup → (∀ a ∈ L, G a = none ∧ P a = none ∧ ∀ i, a ∉ F i) →
    parL ts es ρ = some ρ' → ws.length = ts.length ∧ ∃ G' F', Same G G' ∧ SRF K P B G' ρ' (setsV (ts.map (·.2)) ws σ) H F'
  | [], [], [], L, G, H, ρ, ρ', σ, F, s, r, nd, hL, e => by cases e; exact ⟨rfl, G, F, Same.refl _, s⟩
  | [], [], _ :: _, L, G, H, ρ, ρ', σ, F, s, r, nd, hL, e => by exact False.elim r
  | [], _ :: _, _, L, G, H, ρ, ρ', σ, F, s, r, nd, hL, e => by cases e
  | (own, i) :: ts, [], ws, L, G, H, ρ, ρ', σ, F, s, r, nd, hL, e => by cases e
  | (own, i) :: ts, ev :: es, [], L, G, H, ρ, ρ', σ, F, s, r, nd, hL, e => by cases ev <;> exact False.elim r
  | (own, i) :: ts, ev :: es, w :: ws, L, G, H, ρ, ρ', σ, F, s, r, nd, hL, e => by
    have e' : ((asgN own i ev ρ).bind fun ρ1 => parL ts es ρ1) = some ρ' := e
    cases q : asgN own i ev ρ with
    | none => rw [q] at e'; cases e'
    | some ρ1 =>
      rw [q] at e'
      have e' : parL ts es ρ1 = some ρ' := e'
      cases ev with
      | al j => exact False.elim r
      | d x =>
        have hL2 : ∀ a ∈ L, H a ≠ none ∧ P a = none := fun a ha => ⟨r.2.there a ha, (hL a ha).2.1⟩
        obtain ⟨G1, F1, g1, s1⟩ := asgN_ok (s.holdL fun a ha => ⟨(hL2 a ha).1, (hL a ha).1, (hL a ha).2⟩) q (w := w) r.1
        obtain ⟨s2, k⟩ := s1.unholdL hL2
        obtain ⟨hl, G2, F2, g2, s3⟩ := parL_ok s2 (r.2.keep g1 fun _ _ => rfl) nd (fun a ha => ⟨(k a ha).2.1, (hL a ha).2.1, (k a ha).2.2⟩) e'
        exact ⟨by rw [List.length_cons, List.length_cons, hl], G2, F2, g1.trans g2, s3⟩
      | fr m =>
        obtain ⟨Fm, L', rfl, o1, r2⟩ := r
        have nd' := List.nodup_append.mp nd
        have hL2 : ∀ a ∈ L', H a ≠ none ∧ P a = none := fun a ha => ⟨r2.there a ha, (hL a (List.mem_append_right _ ha)).2.1⟩
        have hL3 : ∀ a ∈ L', H a ≠ none ∧ G a = none ∧ P a = none ∧ ∀ i, a ∉ F i := fun a ha => ⟨(hL2 a ha).1, hL a (List.mem_append_right _ ha)⟩
        obtain ⟨G1, F1, g1, s1⟩ := asgN_ok (s.holdL hL3) q (w := w) (e := .fr m) ⟨Fm, o1, fun a ha => by
          obtain ⟨z1, z2, z3⟩ := hL a (List.mem_append_left _ ha)
          refine ⟨z1, ?_, z3⟩
          unfold jn
          rw [if_neg fun z => nd'.2.2 a ha a z rfl]; exact z2⟩
        obtain ⟨s2, k⟩ := s1.unholdL hL2
        obtain ⟨hl, G2, F2, g2, s3⟩ := parL_ok s2 (r2.keep g1 fun _ _ => rfl) nd'.2.1 (fun a ha => ⟨(k a ha).2.1, (hL2 a ha).2, (k a ha).2.2⟩) e'
        exact ⟨by rw [List.length_cons, List.length_cons, hl], G2, F2, g1.trans g2, s3⟩
end
def sPar (ts : List (Bool × Nat)) (ms : Env' → R (List EV)) : Env' → RS := fun ρ => (ms ρ).toS fun es ρ1 => RS.ofO (parL ts es ρ1)
section
variable {X : Cx} {W : WX} {a b c : Expr} {es : List Expr} {ms : Env' → R (List EV)} {pos px py pz pt pt2 : Pos} {kt k2 : Nat} {x y z : Str}
theorem par_step {ts : List (Bool × Nat)} {σ : L2.St} {H : Hp} {D : Ends} (h : tSt X.K W (sPar ts ms) D σ H) : tG (EvOs X.K) X.K W ms σ H fun vs H1 => vs.length = ts.length ∧ D.nx (setsV (ts.map (·.2)) vs σ) H1 ∧ ∀ p o, H1 p = none → D.nx (setsV (ts.map (·.2)) vs σ) (upd H1 p o) := by
  obtain ⟨P, B, G, ρ, F, s, h⟩ := h
  refine ⟨P, B, G, ρ, F, s, (PoS.toS (rel := EvOs X.K) (σ := σ) h).imp fun vs H1 ⟨G1, ρ1, F1, es1, g1, s1, r1, h1⟩ => ?_⟩
  obtain ⟨L, k1, k2, k3⟩ := r1
  cases q : parL ts es1 ρ1 with
  | none => rw [q] at h1; exact h1.elim
  | some ρ' =>
    rw [q] at h1
    obtain ⟨hl, G2, F2, g2, s2⟩ := parL_ok s1 k1 k2 k3 q
    exact ⟨hl, h1 G2 H1 F2 _ g2 s2, fun p o hp => h1 G2 _ F2 _ g2 (s2.grow (Grow.newH s2.sub hp))⟩
/-- x, y = a, b -/
theorem as_par2 {o1 o2 : Bool} (i j : Nat) (hc : X.calm = true) (hN : X.N.Nodup) (ha : AAo X W ms [a, b]) (hi : X.N[i]? = some x := by rfl) (hj : X.N[j]? = some y := by rfl) (hij : i ≠ j := by decide)
    (hx : X.env.scope.names.lookup x = some .local := by rfl) (hy : X.env.scope.names.lookup y = some .local := by rfl)
    (hw : swappedStores [.Tuple [.Name x px, .Name y py] kt pt] (.Tuple [a, b] k2 pt2) X.env = pure (some [x, y]) := by rfl)
    (hs : swapsWithSole [.Tuple [.Name x px, .Name y py] kt pt] (.Tuple [a, b] k2 pt2) pos.line X.env = pure false := by rfl) :
    AS X W (sPar [(o1, i), (o2, j)] ms) (.Assign [.Tuple [.Name x px, .Name y py] kt pt] (.Tuple [a, b] k2 pt2) pos) := by
  refine (ps_par hc hN hi hj hij hx hy ha hw hs).imp fun D σ H h => ?_
  obtain ⟨P, B, G, ρ, F, s, h⟩ := par_step h
  refine ⟨P, B, G, ρ, F, s, h.imp fun vs H1 ⟨hl, h1, _⟩ => ?_⟩
  match vs, hl, h1 with
  | [v, w], _, h1 => exact ⟨v, w, rfl, h1⟩
/-- x, y, z = a, b, c -/
theorem as_par3 {o1 o2 o3 : Bool} (i j l : Nat) (hc : X.calm = true) (hN : X.N.Nodup) (ha : AAo X W ms [a, b, c]) (hi : X.N[i]? = some x := by rfl) (hj : X.N[j]? = some y := by rfl) (hl : X.N[l]? = some z := by rfl) (hij : i ≠ j := by decide) (hil : i ≠ l := by decide) (hjl : j ≠ l := by decide)
    (hx : X.env.scope.names.lookup x = some .local := by rfl) (hy : X.env.scope.names.lookup y = some .local := by rfl) (hz : X.env.scope.names.lookup z = some .local := by rfl)
    (hw : swappedStores [.Tuple [.Name x px, .Name y py, .Name z pz] kt pt] (.Tuple [a, b, c] k2 pt2) X.env = pure (some [x, y, z]) := by rfl)
    (hs : swapsWithSole [.Tuple [.Name x px, .Name y py, .Name z pz] kt pt] (.Tuple [a, b, c] k2 pt2) pos.line X.env = pure false := by rfl) :
    AS X W (sPar [(o1, i), (o2, j), (o3, l)] ms) (.Assign [.Tuple [.Name x px, .Name y py, .Name z pz] kt pt] (.Tuple [a, b, c] k2 pt2) pos) := by
  refine (ps_par3 hc hN hi hj hl hij hil hjl hx hy hz ha hw hs).imp fun D σ H h => ?_
  obtain ⟨P, B, G, ρ, F, s, h⟩ := par_step h
  refine ⟨P, B, G, ρ, F, s, h.imp fun vs H1 ⟨hl, h1, _⟩ => ?_⟩
  match vs, hl, h1 with
  | [v, w, u], _, h1 => exact ⟨v, w, u, rfl, h1⟩
/-- the names of a tuple, as stored -/
def gNames : List Nat → TGs
  | [] => gNil
  | i :: is => gCons (gName i) (gNames is)
theorem gNames_ok : ∀ {is : List Nat} {vs : List V} {σ : L2.St} {H : Hp} {Q : L2.St → Hp → Prop}, vs.length = is.length → Q (setsV is vs σ) H → gNames is vs σ H Q
  | [], [], σ, H, Q, _, q => ⟨rfl, q⟩
  | i :: is, v :: vs, σ, H, Q, h, q => ⟨v, vs, rfl, gNames_ok (by simpa using h) q⟩
def NGs (X : Cx) (is : List Nat) (tgs : List Expr) : Prop := PGs X tgs (gNames is)
theorem ng_nil : NGs X [] [] := pgs_nil
theorem ng_cons {is : List Nat} {t : List Expr} (i : Nat) (hN : X.N.Nodup) (h : NGs X is t) (hi : X.N[i]? = some x := by rfl) (hx : Loc X.env.scope x := by first | exact .inl rfl | exact .inr rfl)
    (hf : X.fn x = true ∨ X.env.scope.names.lookup x = some .local := by first | exact .inl rfl | exact .inr rfl | assumption)
    (hs : (assignEach (.Name x px :: t) X.env).map (·.2) = assign (.Name x px) X.env :: (assignEach t X.env).map (·.2) := by rfl) : NGs X (i :: is) (.Name x px :: t) := pgs_cons (pg_name hN hi hx hf) h hs
/-- x, y, z, .. = a, b, c, .. (four or more: the tuple is made) -/
theorem as_parN {ts : List (Bool × Nat)} {tgs : List Expr} (hc : X.calm = true) (hg : NGs X (ts.map (·.2)) tgs) (ha : AAo X W ms es) (hz : ts.length ≤ sizeLine := by decide)
    (hn : (assignEach tgs X.env).length = ts.length := by rfl) (hst : (assignEach tgs X.env).findIdx? (·.1) = none := by rfl)
    (hs : swapsWithSole [.Tuple tgs kt pt] (.Tuple es k2 pt2) pos.line X.env = pure false := by rfl) (hw : swappedStores [.Tuple tgs kt pt] (.Tuple es k2 pt2) X.env = pure none := by rfl)
    (h1 : (assignEach [.Tuple tgs kt pt] X.env).map (·.2) = [assign (.Tuple tgs kt pt) X.env] := by rfl) :
    AS X W (sPar ts ms) (.Assign [.Tuple tgs kt pt] (.Tuple es k2 pt2) pos) := by
  refine (ps_asg (pe_tup ha) (pg_tup hc hg hn hst) hs hw h1).imp fun D σ H h => ?_
  obtain ⟨P, B, G, ρ, F, s, h⟩ := par_step h
  refine ⟨P, B, G, ρ, F, s, h.imp fun vs H1 ⟨hl, _, h1⟩ => ⟨by rw [hl]; exact hz, fun p hp => ⟨p, vs, rfl, SqT.of upd_same, hl, gNames_ok (by rw [hl, List.length_map]) (h1 p _ hp)⟩⟩⟩
end

/-! ### repetition -/
theorem tuple_mul0 (l : Addr) (items : Array Value) (n : Nat) (dd : Option Addr) (sl : Array (Option Value)) (u : Tok) (h0 : items.isEmpty = false) :
    Meets (Builtin.«tuple.__mul__» ⟨[.ref l, .int 0 u], []⟩) (fun _ R s => s.heap.get? l = some { cls := .type "tuple", dict := dd, data := .seq items n, slots := sl } ∧
      R (.ok (.ret (Value.ref s.heap.objs.size))) { s with heap := s.heap.push { cls := Value.type "tuple", data := Data.seq #[] }, toks := s.toks }) :=
  .of_wp fun prog w A R s h => by
    obtain ⟨hp, g, d, tk, os⟩ := s
    obtain ⟨hl, h⟩ := h
    have f1 := AutoSeq1.idx_int
    wp_walk using wpAny_loadPart' hl
    repeat (first
      | (refine wpAny_ite_false (decide_eq_false (by simp)) ?_; wp_walk using wpAny_loadPart' hl)
      | (refine wpAny_ite_false (decide_eq_false (by simp [h0])) ?_; wp_walk using wpAny_loadPart' hl))
    exact ⟨_, rfl, h⟩
theorem tuple_mul1 (l : Addr) (items : Array Value) (n : Nat) (dd : Option Addr) (sl : Array (Option Value)) (u : Tok) (h0 : items.isEmpty = false) :
    Meets (Builtin.«tuple.__mul__» ⟨[.ref l, .int 1 u], []⟩) (fun _ R s => s.heap.get? l = some { cls := .type "tuple", dict := dd, data := .seq items n, slots := sl } ∧
      R (.ok (.ret (Value.ref l))) s) :=
  .of_wp fun prog w A R s h => by
    obtain ⟨hp, g, d, tk, os⟩ := s
    obtain ⟨hl, h⟩ := h
    have f1 := AutoSeq1.idx_int
    have hT : (⟨hp, g, d, tk, os⟩ : Shared).TypeIs (.ref l) "tuple" := ⟨_, hl, rfl⟩
    wp_walk using wpAny_loadPart' hl
    repeat (first
      | (refine wpAny_ite_false (decide_eq_false (by simp)) ?_; wp_walk using wpAny_loadPart' hl)
      | (refine wpAny_ite_true (decide_eq_true (by simp [h0])) ?_; wp_walk using wpAny_loadPart' hl))
    exact ⟨_, rfl, h⟩
def repD (k : Int) (xs : List D) : List D := (List.replicate k.toNat xs).flatten
def fRep : D → D → Option EV
  | .list xs, .int k => if -(2 ^ 63) ≤ k ∧ k < 2 ^ 63 ∧ xs.length * k.toNat ≤ sizeLine then some (.fr (.lst (repD k xs))) else none
  | .tuple xs, .int k => if 0 ≤ k ∧ k ≤ 1000 ∧ xs ≠ [] ∧ xs.length ≤ 1000 ∧ pairy xs = false then some (.d (.tuple (repD k xs))) else none
  | _, _ => none
def rRep01 (K : Fg) : R2 := fun x y H Q => ∃ l k xs, x = .ref l ∧ y = .int k ∧ SqT K H l xs ∧ xs ≠ [] ∧ ((k = 0 ∧ ∀ p, H p = none → Q (.ref p) (upd H p (.tup []))) ∨ (k = 1 ∧ Q (.ref l) H))
section
variable {X : Cx}
theorem op_rep01 : OpR X (binaryOp .Mult) (rRep01 X.K) := by
  intro pins s σ H x y v u Q I rx ry h
  obtain ⟨l, k, xs, rfl, rfl, hT, hne, h⟩ := h
  cases rx
  obtain ⟨t, rfl⟩ := ry
  obtain ⟨its, r, ⟨⟨cls, dd, data, sl⟩, ho, hc, n, hd⟩, hs⟩ := I.tuple hT
  simp only at hc hd
  subst hc hd
  have hi : its.toArray.isEmpty = false := by
    cases its with
    | nil =>
      cases r
      exact absurd rfl hne
    | cons a b => rfl
  rcases h with ⟨rfl, q⟩ | ⟨rfl, q⟩
  · refine wpAny_binaryOp_repeat_ref (T := "tuple") (U := "int") (by decide) ⟨_, ho, rfl⟩ (fun s' => typeIs_int s' 0 t) noFill_tuple_mul F.fills_int_mul F.slot_int_rmul repeat_tuple F.slot_int_index.lookup
      (call_meets F.slot_int_rmul (typeIs_int s 0 t) F.entry_int_rmul (F.args_int_rmul_2 _ _) (int_rmul_tuple 0 t l its.toArray n dd sl)
        ⟨ho, rfl, ⟨_, ho, rfl⟩, call_meets F.slot_tuple_mul ⟨_, ho, rfl⟩ F.entry_tuple_mul (F.args_tuple_mul_2 _ _) (tuple_mul0 l its.toArray n dd sl t hi) ⟨ho, ?_⟩⟩)
    refine ⟨.ref s.heap.objs.size, _, I.laid (t' := s.toks) (o := .tup []) (fun b ob q => Heap.get?_push_of_some _ q) (Nat.le_refl _) ?_, rfl, q _ (I.hok.fresh (Nat.le_refl _))⟩
    exact ⟨Nat.zero_le _, [], .nil, IsTup.new _ _⟩
  · refine wpAny_binaryOp_repeat_ref (T := "tuple") (U := "int") (by decide) ⟨_, ho, rfl⟩ (fun s' => typeIs_int s' 1 t) noFill_tuple_mul F.fills_int_mul F.slot_int_rmul repeat_tuple F.slot_int_index.lookup
      (call_meets F.slot_int_rmul (typeIs_int s 1 t) F.entry_int_rmul (F.args_int_rmul_2 _ _) (int_rmul_tuple 1 t l its.toArray n dd sl)
        ⟨ho, rfl, ⟨_, ho, rfl⟩, call_meets F.slot_tuple_mul ⟨_, ho, rfl⟩ F.entry_tuple_mul (F.args_tuple_mul_2 _ _) (tuple_mul1 l its.toArray n dd sl t hi) ⟨ho, ?_⟩⟩)
    exact ⟨.ref l, H, I, rfl, q⟩
theorem RDs.rep {K : Fg} {G : Hp} {ds : List D} {vs : List V} (r : RDs K G ds vs) : ∀ n : Nat, RDs K G (List.replicate n ds).flatten (List.replicate n vs).flatten
  | 0 => .nil
  | n + 1 => by
    rw [List.replicate_succ, List.replicate_succ, List.flatten_cons, List.flatten_cons]
    exact r.append (RDs.rep r n)
theorem pairy_rep {xs : List D} (hne : xs ≠ []) (h : pairy xs = false) : ∀ k : Int, pairy (repD k xs) = false := fun k => by
  have e : xs.isEmpty = false := by cases xs with | nil => exact absurd rfl hne | cons _ _ => rfl
  unfold pairy at h
  rw [e] at h
  have ha : xs.all isPairD = false := h
  unfold repD
  cases k.toNat with
  | zero => rfl
  | succ n =>
    unfold pairy
    rw [List.replicate_succ, List.flatten_cons, List.all_append, ha, Bool.false_and, Bool.and_false]
theorem o_rep : Op2 X (binaryOp .Mult) fRep := by
  refine ⟨_, op_rep.or (op_repT.or op_rep01), fun G H x y a b ev Q s ha hb e res => ?_⟩
  unfold fRep at e
  split at e
  · rename_i xs k
    split at e
    · rename_i hc
      cases e
      obtain ⟨l, vs, rfl, hl, hr⟩ := ha.lst s
      refine .inl ⟨l, k, vs, rfl, hb.int, hl, hc.1, hc.2.1, by rw [hr.length]; exact hc.2.2, fun p hp => res.newL s hp (hr.rep _)⟩
    · cases e
  · rename_i xs k
    split at e
    · rename_i hc
      cases e
      obtain ⟨l, vs, rfl, hl, hr⟩ := ha.tup
      have hne : vs ≠ [] := fun z => by
        subst z
        cases hr
        exact hc.2.2.1 rfl
      by_cases h2 : 2 ≤ k
      · exact .inr (.inl ⟨l, k, vs, rfl, hb.int, (hl.mono s).sqT, hne, h2, hc.2.1, by rw [hr.length]; exact hc.2.2.2.1, fun p hp => res.newTp s hp (pairy_rep hc.2.2.1 hc.2.2.2.2 _) (hr.rep _)⟩)
      · by_cases h1 : k = 1
        · subst h1
          have : repD 1 xs = xs := by unfold repD; simp
          rw [this] at res
          exact .inr (.inr ⟨l, 1, vs, rfl, hb.int, (hl.mono s).sqT, hne, .inr ⟨rfl, res.same s (.tup hl hr)⟩⟩)
        · have h0 : k = 0 := by omega
          subst h0
          exact .inr (.inr ⟨l, 0, vs, rfl, hb.int, (hl.mono s).sqT, hne, .inl ⟨rfl, fun p hp => res.newTp s hp (pairy_rep hc.2.2.1 hc.2.2.2.2 _) (RDs.rep hr 0)⟩⟩)
    · cases e
  · cases e
/-- a product, of numbers or of a sequence and a number -/
def fMulS (a b : D) : Option EV := match a with
  | .int _ => fMul a b
  | _ => fRep a b
theorem o_mulS : Op2 X (binaryOp .Mult) fMulS := by
  obtain ⟨r1, h1, q1⟩ := o_mul (X := X)
  obtain ⟨r2, h2, q2⟩ := o_rep (X := X)
  refine ⟨_, h1.or h2, fun G H x y a b ev Q s ha hb e res => ?_⟩
  unfold fMulS at e
  split at e
  · exact .inl (q1 G H x y _ b ev Q s ha hb e res)
  · exact .inr (q2 G H x y a b ev Q s ha hb e res)
end
end Mi
/-! text MiL -/
set_option Elab.async false
set_option linter.all false
set_option maxRecDepth 100000
set_option maxHeartbeats 8000000
/-! MiL: zip over lists and tuples, strict or not; enumerate over it. -/
namespace Mi
open PySem PySem.Spec PyProof.Rows L2

/-- a zip; f0: the tuple it gave out -/
abbrev ZAt (h : Heap) (z TI TO : Addr) (f0 : Value) (fl st : Bool) : Prop :=
  h.get? z = some { cls := .type "zip", dict := none, data := .fields #[f0, .bool fl, .bool st, .ref TI, .ref TO], slots := #[] }
section
variable {prog : Program} {w : World} {A : Around} {E : Value → Shared → Prop} {s : Shared} {z TI TO i1 i2 : Addr} {fp1 fp2 : List Addr} {n1 n2 i : Nat} {P1 P2 : Nat → Value → Prop} {St1 St2 : Nat → Heap → Prop} {a1 a2 : Value} {st : Bool}
/-- one draw -/
def drawZ (st : Bool) (it : Value) : Sem (Option Value) := if st = true then Builtin.SmallTypes.nextOrEnd it else Builtin.SmallTypes.nextOf it >>= fun v => pure (some v)
theorem drawZ_item {it : Addr} {fp : List Addr} {n : Nat} {P : Nat → Value → Prop} {S : Nat → Heap → Prop} {Q : Option Value → Shared → Prop} (Dr : Draws prog w A it fp n P S) (hs : S i s.heap) (hi : i < n)
    (h : ∀ x h' tk, P i x → S (i + 1) h' → Heap.SameBut it s.heap h' → Q (some x) { s with heap := h', toks := tk }) : wpAny (model prog w) A (drawZ st (.ref it)) Q E s := by
  unfold drawZ
  cases st with
  | false => exact wpAny_bind (Dr.item i s _ _ hi hs fun x h' tk p q r => wpAny_pure (h x h' tk p q r))
  | true =>
    show wpAny _ _ (Builtin.SmallTypes.nextOrEnd (.ref it)) _ _ _
    unfold Builtin.SmallTypes.nextOrEnd
    exact wpAny_bind (wpAny_attempt (Dr.item i s _ _ hi hs fun x h' tk p q r => wpAny_pure (h x h' tk p q r)))
/-- behind the last: an error, or (strict) nothing -/
theorem drawZ_end {it : Addr} {fp : List Addr} {n : Nat} {P : Nat → Value → Prop} {S : Nat → Heap → Prop} {Q : Option Value → Shared → Prop} (Dr : Draws prog w A it fp n P S) (hs : S n s.heap)
    (h0 : st = false → ∀ h' e, Heap.ExtBut it s.heap h' → (∃ o, h'.get? e = some o ∧ o.cls = .type "StopIteration") → E (.ref e) { s with heap := h' })
    (h1 : st = true → ∀ h', Heap.ExtBut it s.heap h' → Q none { s with heap := h' }) : wpAny (model prog w) A (drawZ st (.ref it)) Q E s := by
  unfold drawZ
  cases st with
  | false => exact wpAny_bind (Dr.done s _ _ hs fun h' e q r => h0 rfl h' e q r)
  | true =>
    show wpAny _ _ (Builtin.SmallTypes.nextOrEnd (.ref it)) _ _ _
    unfold Builtin.SmallTypes.nextOrEnd
    refine wpAny_bind (wpAny_attempt (Dr.done s _ _ hs fun h' e q r => ?_))
    obtain ⟨o, ho, hc⟩ := r
    exact wpAny_bind (wpAny_isInstance (T := "StopIteration") (b := true) ⟨o, ho, hc⟩ isSubtype_stop (wpAny_pure (h1 rfl h' q)))
/-- the tuple may be made anew: none is given out, or it is gone -/
def FreeZ (h : Heap) (f0 : Value) : Prop := f0 = .none ∨ ∃ T : Addr, f0 = rawInt T ∧ h.get? T = none
theorem free_true {f0 : Value} {fl : Bool} {Q : Bool → Shared → Prop} (hz : ZAt s.heap z TI TO f0 fl st) (hf : FreeZ s.heap f0) (h : Q true s) : wpAny (model prog w) A (Builtin.SmallTypes.ownedTupleIsFree (.ref z)) Q E s := by
  unfold Builtin.SmallTypes.ownedTupleIsFree
  rcases hf with rfl | ⟨T, rfl, hT⟩
  · exact wpAny_bind (wpAny_field hz rfl (x := .none) rfl (wpAny_pure h))
  · refine wpAny_bind (wpAny_field hz rfl (x := rawInt T) rfl ?_)
    show wpAny _ _ (loadIfAlive ((T : Int).toNat) >>= _) _ _ _
    rw [Int.toNat_natCast]
    have hx : Q true s := h
    refine wpAny_bind (show wpAny (model prog w) A (loadIfAlive T) _ E s from ?_)
    have key : ∀ {Q' : Option Obj → Shared → Prop}, Q' none s → wpAny (model prog w) A (loadIfAlive T) Q' E s := fun {Q'} q => by
      have q' : Q' (s.heap.get? T) s := by rw [hT]; exact q
      exact fun _ _ _ => q'
    refine key ?_
    simp only [Option.isNone_none, if_true]
    exact wpAny_pure h
/-- the next pair, the tuple not given out -/
theorem zs_item {f0 : Value} {fl : Bool} {Q : Value → Shared → Prop} (S : ZipSep2 z TI TO i1 i2 fp1 fp2) (D1 : Draws prog w A i1 fp1 n1 P1 St1) (D2 : Draws prog w A i2 fp2 n2 P2 St2)
    (hz : ZAt s.heap z TI TO f0 fl st) (hfz : FreeZ s.heap f0) (hTI : IsTupOf2 s.heap TI (.ref i1) (.ref i2)) (hTO : IsTupOf2 s.heap TO a1 a2) (st1 : St1 i s.heap) (st2 : St2 i s.heap) (hlt1 : i < n1) (hlt2 : i < n2)
    (hQ : ∀ x1 x2 h' tk, P1 i x1 → P2 i x2 → ZAt h' z TI TO (rawInt s.heap.objs.size) false st → IsTupOf2 h' TO x1 x2 → St1 (i + 1) h' → St2 (i + 1) h' → IsTupOf2 h' s.heap.objs.size x1 x2 → h'.objs.size = s.heap.objs.size + 1 →
      (∀ c o, c ≠ z → c ≠ TO → c ≠ i1 → c ≠ i2 → s.heap.get? c = some o → h'.get? c = some o) → Q (.ref s.heap.objs.size) { s with heap := h', toks := tk }) :
    wpAny (model prog w) A (Builtin.«zip.__next__» ⟨[.ref z], []⟩) (fun fin s' => ∃ v, fin = .done (.ret v) ∧ Q v s') E s := by
  obtain ⟨hp, g, d, tk0, os⟩ := s
  have hst : (Value.bool st == Value.bool true) = st := by cases st <;> rfl
  show wpAny _ _ (field (.ref z) 2 >>= _) _ _ _
  refine wpAny_bind (wpAny_field hz rfl (x := .bool st) rfl ?_)
  rw [hst]
  show wpAny _ _ (field (.ref z) 3 >>= _) _ _ _
  refine wpAny_bind (wpAny_field hz rfl (x := .ref TI) rfl ?_)
  refine wpAny_bind (wpAny_seqItems hTI rfl ?_)
  show wpAny _ _ (Builtin.SmallTypes.ownedTupleIsFree (.ref z) >>= _) _ _ _
  refine wpAny_bind (free_true hz hfz ?_)
  simp only [if_true]
  refine wpAny_bind (wpAny_rule ?_)
  refine wpAny_bind (wpAny_field hz rfl (x := .ref TO) rfl ?_)
  refine wpAny_bind (wpAny_setField_rec hz (by simp) fun m0 hz0 es0 => ?_)
  replace hz0 : ZAt m0 z TI TO .ellipsis fl st := hz0
  replace es0 : Heap.SameBut z hp m0 := es0
  refine wpAny_bind ?_
  simp only [List.zipIdx_cons, List.zipIdx_nil, List.forIn_cons, List.forIn_nil]
  refine wpAny_bind (wpAny_bind (wpAny_onRaise ?_))
  show wpAny _ _ (drawZ st (.ref i1)) _ _ ⟨m0, g, d, tk0, os⟩
  refine drawZ_item D1 (D1.over st1 es0 S.zf1) hlt1 fun x1 u1 tk1 hx1 sn1 eu1 => ?_
  replace eu1 : Heap.SameBut i1 m0 u1 := eu1
  have hU1 : IsTupOf2 u1 TO a1 a2 := eu1.extBut _ _ S.Ti1 (es0.extBut _ _ S.TOz hTO)
  refine wpAny_bind (wpAny_seqItems (s := ⟨u1, g, d, tk1, os⟩) hU1 rfl ?_)
  refine wpAny_bind (updateSeq_IsTupOf2 (s := ⟨u1, g, d, tk1, os⟩) hU1 fun m1 hT1 es1 => ?_)
  replace hT1 : IsTupOf2 m1 TO x1 a2 := hT1
  replace es1 : Heap.SameBut TO u1 m1 := es1
  refine wpAny_bind (wpAny_letGo (wpAny_pure ?_))
  refine wpAny_bind (wpAny_bind (wpAny_onRaise ?_))
  show wpAny _ _ (drawZ st (.ref i2)) _ _ ⟨m1, g, d, tk1, os⟩
  refine drawZ_item D2 (D2.over (D2.over (D2.over st2 es0 S.zf2) eu1 S.sep1_2) es1 S.Tf2) hlt2 fun x2 u2 tk2 hx2 sn2 eu2 => ?_
  replace eu2 : Heap.SameBut i2 m1 u2 := eu2
  have hU2 : IsTupOf2 u2 TO x1 a2 := eu2.extBut _ _ S.Ti2 hT1
  refine wpAny_bind (wpAny_seqItems (s := ⟨u2, g, d, tk2, os⟩) hU2 rfl ?_)
  refine wpAny_bind (updateSeq_IsTupOf2 (s := ⟨u2, g, d, tk2, os⟩) hU2 fun m2 hT2 es2 => ?_)
  replace hT2 : IsTupOf2 m2 TO x1 x2 := hT2
  replace es2 : Heap.SameBut TO u2 m2 := es2
  refine wpAny_bind (wpAny_letGo (wpAny_pure (wpAny_pure ?_)))
  refine wpAny_bind (wpAny_seqItems (s := ⟨m2, g, d, tk2, os⟩) hT2 rfl ?_)
  refine wpAny_bind (wpAny_newTuple ?_)
  have hsz : m2.objs.size = hp.objs.size := by rw [es2.1, eu2.1, es1.1, eu1.1, es0.1]
  have hzz : ZAt m2 z TI TO .ellipsis fl st := (es2.extBut _ _ S.TOz.symm (eu2.extBut _ _ S.zi2 (es1.extBut _ _ S.TOz.symm (eu1.extBut _ _ S.zi1 hz0))))
  have hkk : ∀ c o, c ≠ z → c ≠ TO → c ≠ i1 → c ≠ i2 → hp.get? c = some o → m2.get? c = some o := fun c o cz cT c1 c2 e =>
    (es2.extBut _ _ cT (eu2.extBut _ _ c2 (es1.extBut _ _ cT (eu1.extBut _ _ c1 (es0.extBut _ _ cz e)))))
  have hj1 : St1 (i + 1) m2 := (D1.over (D1.over (D1.over sn1 es1 S.Tf1) eu2 S.sep2_1) es2 S.Tf1)
  have hj2 : St2 (i + 1) m2 := (D2.over sn2 es2 S.Tf2)
  have hzlt : z < m2.objs.size := Heap.lt_size hzz
  show wpAny _ _ (Builtin.SmallTypes.ownedTupleHandOut (.ref z) (.ref m2.objs.size) >>= _) _ _ ⟨m2.push { cls := .type "tuple", data := .seq #[x1, x2] }, g, d, tk2, os⟩
  refine wpAny_bind ?_
  unfold Builtin.SmallTypes.ownedTupleHandOut
  have hz₆ : ZAt (m2.push { cls := .type "tuple", data := .seq #[x1, x2] }) z TI TO .ellipsis fl st := Heap.get?_push_of_some _ hzz
  refine wpAny_bind (wpAny_setField_rec hz₆ (by simp) fun m7 hz7 es7 => ?_)
  replace hz7 : ZAt m7 z TI TO (rawInt m2.objs.size) fl st := hz7
  refine wpAny_setField_rec hz7 (by simp) fun m8 hz8 es8 => ?_
  replace hz8 : ZAt m8 z TI TO (rawInt m2.objs.size) false st := hz8
  replace es7 : Heap.SameBut z (m2.push { cls := .type "tuple", data := .seq #[x1, x2] }) m7 := es7
  replace es8 : Heap.SameBut z m7 m8 := es8
  have up : ∀ c o, c ≠ z → m2.get? c = some o → m8.get? c = some o := fun c o c1 e => es8.extBut _ _ c1 (es7.extBut _ _ c1 (Heap.get?_push_of_some _ e))
  have hT8 : IsTupOf2 m8 m2.objs.size x1 x2 := es8.extBut _ _ (Nat.ne_of_gt hzlt) (es7.extBut _ _ (Nat.ne_of_gt hzlt) (Heap.get?_push_size _ rfl))
  have hs8 : m8.objs.size = m2.objs.size + 1 := by rw [es8.1, es7.1, Heap.size_push]
  rw [hsz] at hz8 hT8 hs8
  refine wpAny_pure ⟨_, rfl, ?_⟩
  show Q (.ref m2.objs.size) ⟨m8, g, d, tk2, os⟩
  rw [hsz]
  exact hQ x1 x2 m8 tk2 hx1 hx2 hz8 (up _ _ S.TOz hT2) (D1.frame _ _ _ hj1 fun b hb o e => up b o (fun q => S.zf1 (q ▸ hb)) e) (D2.frame _ _ _ hj2 fun b hb o e => up b o (fun q => S.zf2 (q ▸ hb)) e) hT8 hs8 fun c o cz cT c1 c2 e => up c o cz (hkk c o cz cT c1 c2 e)
/-- behind the shorter (strict: behind both), the tuple not given out -/
theorem zs_end {f0 : Value} {fl : Bool} {Q : Fin → Shared → Prop} (hh : A.handled = none) (S : ZipSep2 z TI TO i1 i2 fp1 fp2) (D1 : Draws prog w A i1 fp1 n1 P1 St1) (D2 : Draws prog w A i2 fp2 n2 P2 St2)
    (hz : ZAt s.heap z TI TO f0 fl st) (hfz : FreeZ s.heap f0) (hTI : IsTupOf2 s.heap TI (.ref i1) (.ref i2)) (hTO : IsTupOf2 s.heap TO a1 a2) (st1 : St1 i s.heap) (st2 : St2 i s.heap) (hle1 : i ≤ n1) (hle2 : i ≤ n2) (hend : i = n1 ∨ i = n2) (hS : st = true → n1 = n2)
    (hE : ∀ h' tk e, (∀ c o, c ≠ z → c ≠ TO → c ≠ i1 → c ≠ i2 → s.heap.get? c = some o → h'.get? c = some o) → (∃ o, h'.get? e = some o ∧ o.cls = .type "StopIteration") → E (.ref e) { s with heap := h', toks := tk }) :
    wpAny (model prog w) A (Builtin.«zip.__next__» ⟨[.ref z], []⟩) Q E s := by
  obtain ⟨hp, g, d, tk0, os⟩ := s
  have hst : (Value.bool st == Value.bool true) = st := by cases st <;> rfl
  show wpAny _ _ (field (.ref z) 2 >>= _) _ _ _
  refine wpAny_bind (wpAny_field hz rfl (x := .bool st) rfl ?_)
  rw [hst]
  show wpAny _ _ (field (.ref z) 3 >>= _) _ _ _
  refine wpAny_bind (wpAny_field hz rfl (x := .ref TI) rfl ?_)
  refine wpAny_bind (wpAny_seqItems hTI rfl ?_)
  show wpAny _ _ (Builtin.SmallTypes.ownedTupleIsFree (.ref z) >>= _) _ _ _
  refine wpAny_bind (free_true hz hfz ?_)
  simp only [if_true]
  refine wpAny_bind (wpAny_rule ?_)
  refine wpAny_bind (wpAny_field hz rfl (x := .ref TO) rfl ?_)
  refine wpAny_bind (wpAny_setField_rec hz (by simp) fun m0 hz0 es0 => ?_)
  replace hz0 : ZAt m0 z TI TO .ellipsis fl st := hz0
  replace es0 : Heap.SameBut z hp m0 := es0
  refine wpAny_bind ?_
  simp only [List.zipIdx_cons, List.zipIdx_nil, List.forIn_cons, List.forIn_nil]
  refine wpAny_bind (wpAny_bind (wpAny_onRaise ?_))
  show wpAny _ _ (drawZ st (.ref i1)) _ _ ⟨m0, g, d, tk0, os⟩
  by_cases hlt1 : i < n1
  · have hsf : st = false := by
      cases st with
      | false => rfl
      | true => have := hS rfl; omega
    subst hsf
    refine drawZ_item D1 (D1.over st1 es0 S.zf1) hlt1 fun x1 u1 tk1 hx1 sn1 eu1 => ?_
    replace eu1 : Heap.SameBut i1 m0 u1 := eu1
    have hU1 : IsTupOf2 u1 TO a1 a2 := eu1.extBut _ _ S.Ti1 (es0.extBut _ _ S.TOz hTO)
    refine wpAny_bind (wpAny_seqItems (s := ⟨u1, g, d, tk1, os⟩) hU1 rfl ?_)
    refine wpAny_bind (updateSeq_IsTupOf2 (s := ⟨u1, g, d, tk1, os⟩) hU1 fun m1 hT1 es1 => ?_)
    replace hT1 : IsTupOf2 m1 TO x1 a2 := hT1
    replace es1 : Heap.SameBut TO u1 m1 := es1
    refine wpAny_bind (wpAny_letGo (wpAny_pure ?_))
    have hi2 : i = n2 := by omega
    refine wpAny_bind (wpAny_bind (wpAny_onRaise ?_))
    show wpAny _ _ (drawZ false (.ref i2)) _ _ ⟨m1, g, d, tk1, os⟩
    refine drawZ_end (s := ⟨m1, g, d, tk1, os⟩) D2 (by rw [← hi2]; exact (D2.over (D2.over (D2.over st2 es0 S.zf2) eu1 S.sep1_2) es1 S.Tf2)) (fun _ q e hq he => ?_) (fun h => nomatch h)
    replace hq : Heap.ExtBut i2 m1 q := hq
    obtain ⟨oe, hoe, hce⟩ := he
    replace hoe : q.get? e = some oe := hoe
    have hzq : ZAt q z TI TO .ellipsis fl false := hq _ _ S.zi2 (es1.extBut _ _ S.TOz.symm (eu1.extBut _ _ S.zi1 hz0))
    have hez : e ≠ z := fun x => by subst x; rw [hzq] at hoe; cases hoe; simp at hce
    refine wpAny_setField_rec (s := ⟨q, g, d, tk1, os⟩) hzq (by simp) fun q' _ hq' => ?_
    replace hq' : Heap.SameBut z q q' := hq'
    exact hE q' tk1 e (fun c o cz cT c1 c2 x => hq'.extBut _ _ cz (hq _ _ c2 (es1.extBut _ _ cT (eu1.extBut _ _ c1 (es0.extBut _ _ cz x))))) ⟨oe, hq'.extBut _ _ hez hoe, hce⟩
  · have hi1 : i = n1 := by omega
    refine drawZ_end (s := ⟨m0, g, d, tk0, os⟩) D1 (by rw [← hi1]; exact (D1.over st1 es0 S.zf1)) (fun hsf q e hq he => ?_) (fun hst q hq => ?_)
    · replace hq : Heap.ExtBut i1 m0 q := hq
      obtain ⟨oe, hoe, hce⟩ := he
      replace hoe : q.get? e = some oe := hoe
      have hzq : ZAt q z TI TO .ellipsis fl st := hq _ _ S.zi1 hz0
      have hez : e ≠ z := fun x => by subst x; rw [hzq] at hoe; cases hoe; simp at hce
      refine wpAny_setField_rec (s := ⟨q, g, d, tk0, os⟩) hzq (by simp) fun q' _ hq' => ?_
      replace hq' : Heap.SameBut z q q' := hq'
      exact hE q' tk0 e (fun c o cz cT c1 c2 x => hq'.extBut _ _ cz (hq _ _ c1 (es0.extBut _ _ cz x))) ⟨oe, hq'.extBut _ _ hez hoe, hce⟩
    · replace hq : Heap.ExtBut i1 m0 q := hq
      subst hst
      have hn : n1 = n2 := hS rfl
      have hi2 : i = n2 := hi1.trans hn
      have hzq : ZAt q z TI TO .ellipsis fl true := hq _ _ S.zi1 hz0
      refine wpAny_bind (wpAny_setField_rec (s := ⟨q, g, d, tk0, os⟩) hzq (by simp) fun q' _ hq' => ?_)
      replace hq' : Heap.SameBut z q q' := hq'
      refine wpAny_bind ?_
      have noe : ∀ {Q : Option Value → Shared → Prop} {E : Value → Shared → Prop}, (∀ h', Heap.ExtBut i2 q' h' → Q none ⟨h', g, d, tk0, os⟩) → wpAny (model prog w) A (Builtin.SmallTypes.nextOrEnd (.ref i2)) Q E ⟨q', g, d, tk0, os⟩ := fun h =>
        drawZ_end (st := true) (s := ⟨q', g, d, tk0, os⟩) D2 (by
          rw [← hi2]
          exact D2.frame _ _ _ (D2.over st2 es0 S.zf2) fun b hb o e => hq'.extBut _ _ (fun z => S.zf2 (z ▸ hb)) (hq _ _ (fun z => S.sep1_2 (z ▸ hb)) e)) (fun h => nomatch h) fun _ => h
      have stop : ∀ {α : Type} {Q : α → Shared → Prop} {E : Value → Shared → Prop} {s : Shared}, (∀ h' e oe, (∀ b o, s.heap.get? b = some o → h'.get? b = some o) → h'.get? e = some oe → oe.cls = .type "StopIteration" → E (.ref e) { s with heap := h' }) → wpAny (model prog w) A (Builtin.SmallTypes.stopIteration : Sem α) Q E s := fun h => DVw.raise_stop hh h
      wp_walk using noe, stop
      intro h' hx
      wp_walk using noe, stop
      intro h2 e oe hk ho hc
      exact hE h2 tk0 e (fun c o cz cT c1 c2 x => hk _ _ (hx _ _ c2 (hq'.extBut _ _ cz (hq _ _ c1 (es0.extBut _ _ cz x))))) ⟨oe, ho, hc⟩
end
/-! ### lists and tuples alike -/
def ItAt (tup : Bool) (h : Heap) (it a : Addr) (i : Nat) : Prop := match tup with | true => h.IsTupleIter it a i | false => h.IsListIter it a i
def SqAt (tup : Bool) (h : Heap) (a : Addr) (xs : Array Value) : Prop := match tup with | true => h.IsTuple a xs | false => h.IsList a xs
def Sqq (K : Fg) (tup : Bool) (H : Hp) (a : Addr) (xs : List V) : Prop := match tup with | true => SqT K H a xs | false => SqL K H a xs
def objQ (tup : Bool) (a : Addr) : Obj := match tup with | true => { cls := .type "tuple_iterator", data := .fields #[.ref a, .int 0 0] } | false => { cls := .type "list_iterator", data := .fields #[.ref a, .int 0 0] }
theorem ItAt.at {tup : Bool} {h h' : Heap} {it a : Addr} {i : Nat} (x : ItAt tup h it a i) (k : ∀ o, h.get? it = some o → h'.get? it = some o) : ItAt tup h' it a i := by
  cases tup with
  | true => exact Heap.IsTupleIter.at x k
  | false => exact Heap.IsListIter.at x k
theorem SqAt.at {tup : Bool} {h h' : Heap} {a : Addr} {xs : Array Value} (x : SqAt tup h a xs) (k : ∀ o, h.get? a = some o → h'.get? a = some o) : SqAt tup h' a xs := by
  cases tup with
  | true => exact Heap.IsTuple.at x k
  | false => exact Heap.IsList.at x k
theorem ItAt.obj {tup : Bool} {h : Heap} {it a : Addr} {i : Nat} (x : ItAt tup h it a i) : ∃ o, h.get? it = some o ∧ ∀ v, o.data ≠ .cell v := by
  cases tup with
  | true => obtain ⟨o, e, _, d⟩ := x; exact ⟨o, e, fun v q => by rw [d] at q; cases q⟩
  | false => obtain ⟨o, e, _, d⟩ := x; exact ⟨o, e, fun v q => by rw [d] at q; cases q⟩
theorem drawsQ {prog : Program} {w : World} {A : Around} (tup : Bool) (hh : A.handled = none) (it a : Addr) (hne : a ≠ it) (items : Array Value) :
    Draws prog w A it [it, a] items.size (fun i v => items[i]? = some v) (fun i h => ItAt tup h it a i ∧ SqAt tup h a items) := by
  cases tup with
  | true => exact Draws.tuple hh it a hne items
  | false => exact Draws.list hh it a hne items
theorem beginsQ (tup : Bool) (a : Addr) (items : Array Value) : Begins (.ref a) (objQ tup a) fun h => SqAt tup h a items := by
  cases tup with
  | true => exact begins_tuple a items
  | false => exact begins_list a items
theorem objQ_it (tup : Bool) {h : Heap} {it a : Addr} (e : h.get? it = some (objQ tup a)) : ItAt tup h it a 0 := by
  cases tup with
  | true => exact ⟨_, e, rfl, rfl⟩
  | false => exact ⟨_, e, rfl, rfl⟩
theorem Sqq.at {X : Cx} {pins : List (Addr × Obj)} {σ : L2.St} {H : Hp} {s : Shared} {tup : Bool} {a : Addr} {xs : List V} (I : Inv X pins σ H s) (h : Sqq X.K tup H a xs) : ∃ its, Vals xs its ∧ SqAt tup s.heap a its.toArray := by
  cases tup with
  | true => obtain ⟨its, r, p, _⟩ := I.tuple h; exact ⟨its, r, p⟩
  | false => obtain ⟨its, r, p, _⟩ := I.list h; exact ⟨its, r, p.isList⟩
theorem Sqq.inj {X : Cx} {pins : List (Addr × Obj)} {σ : L2.St} {H : Hp} {s : Shared} {tup : Bool} {a : Addr} {xs ys : List V} (I : Inv X pins σ H s) (h : Sqq X.K tup H a xs) (h' : Sqq X.K tup H a ys) : xs = ys := by
  cases tup with
  | true => exact I.tuple_inj h h'
  | false => exact I.list_inj h h'
section
variable {prog : Program} {w : World} {A : Around} {E : Value → Shared → Prop} {s : Shared} {z TI TO i1 i2 : Addr} {fp1 fp2 : List Addr} {n1 n2 i : Nat} {P1 P2 : Nat → Value → Prop} {St1 St2 : Nat → Heap → Prop} {a1 a2 : Value} {st : Bool}
theorem zs_next {f0 : Value} {fl : Bool} {Q : Option Value → Shared → Prop} (S : ZipSep2 z TI TO i1 i2 fp1 fp2) (D1 : Draws prog w A.in1 i1 fp1 n1 P1 St1) (D2 : Draws prog w A.in1 i2 fp2 n2 P2 St2)
    (hz : ZAt s.heap z TI TO f0 fl st) (hfz : FreeZ s.heap f0) (hTI : IsTupOf2 s.heap TI (.ref i1) (.ref i2)) (hTO : IsTupOf2 s.heap TO a1 a2) (st1 : St1 i s.heap) (st2 : St2 i s.heap) (hlt1 : i < n1) (hlt2 : i < n2)
    (hQ : ∀ x1 x2 h' tk, P1 i x1 → P2 i x2 → ZAt h' z TI TO (rawInt s.heap.objs.size) false st → IsTupOf2 h' TO x1 x2 → St1 (i + 1) h' → St2 (i + 1) h' → IsTupOf2 h' s.heap.objs.size x1 x2 → h'.objs.size = s.heap.objs.size + 1 →
      (∀ c o, c ≠ z → c ≠ TO → c ≠ i1 → c ≠ i2 → s.heap.get? c = some o → h'.get? c = some o) → Q (some (.ref s.heap.objs.size)) { s with heap := h', toks := tk }) : wpAny (model prog w) A (pyNext (.ref z)) Q E s := by
  have ty : s.TypeIs (.ref z) "zip" := ⟨_, hz, rfl⟩
  unfold pyNext
  refine wpAny_bind (wpAny_attempt (wpAny_callSpecial?_slot (name := Str.ofString "__next__") ty F.slot_zip_next (wpAny_call_entry F.slot_zip_next ty F.entry_zip_next ?_ (F.args_zip_next_1 _))))
  exact zs_item S D1 D2 hz hfz hTI hTO st1 st2 hlt1 hlt2 fun x1 x2 h' tk p1 p2 b1 b2 d1 d2 b5 b6 b7 => wpAny_pure (hQ x1 x2 h' tk p1 p2 b1 b2 d1 d2 b5 b6 b7)
theorem zs_stop {f0 : Value} {fl : Bool} {Q : Option Value → Shared → Prop} (hh : A.handled = none) (S : ZipSep2 z TI TO i1 i2 fp1 fp2) (D1 : Draws prog w A.in1 i1 fp1 n1 P1 St1) (D2 : Draws prog w A.in1 i2 fp2 n2 P2 St2)
    (hz : ZAt s.heap z TI TO f0 fl st) (hfz : FreeZ s.heap f0) (hTI : IsTupOf2 s.heap TI (.ref i1) (.ref i2)) (hTO : IsTupOf2 s.heap TO a1 a2) (st1 : St1 i s.heap) (st2 : St2 i s.heap) (hle1 : i ≤ n1) (hle2 : i ≤ n2) (hend : i = n1 ∨ i = n2) (hS : st = true → n1 = n2)
    (hQ : ∀ h' tk, (∀ c o, c ≠ z → c ≠ TO → c ≠ i1 → c ≠ i2 → s.heap.get? c = some o → h'.get? c = some o) → Q none { s with heap := h', toks := tk }) : wpAny (model prog w) A (pyNext (.ref z)) Q E s := by
  have ty : s.TypeIs (.ref z) "zip" := ⟨_, hz, rfl⟩
  unfold pyNext
  refine wpAny_bind (wpAny_attempt (wpAny_callSpecial?_slot (name := Str.ofString "__next__") ty F.slot_zip_next (wpAny_call_entry F.slot_zip_next ty F.entry_zip_next ?_ (F.args_zip_next_1 _))))
  refine zs_end hh S D1 D2 hz hfz hTI hTO st1 st2 hle1 hle2 hend hS fun h' tk e hk he => ?_
  obtain ⟨o, ho, hc⟩ := he
  exact wpAny_bind (wpAny_isInstance (T := "StopIteration") (b := true) ⟨o, ho, hc⟩ isSubtype_stop (wpAny_pure (hQ _ _ hk)))
theorem zs_iter {f0 : Value} {fl : Bool} {Q : Value → Shared → Prop} (hz : ZAt s.heap z TI TO f0 fl st) (h : Q (.ref z) s) : wpAny (model prog w) A (pyIter (.ref z)) Q E s := by
  have ty : s.TypeIs (.ref z) "zip" := ⟨_, hz, rfl⟩
  refine wpAny_pyIter_slot ty F.slot_zip_iter (wpAny_call_entry F.slot_zip_iter ty F.entry_zip_iter ?_ (F.args_zip_iter_1 _))
  show wpAny _ _ (ret (.ref z)) _ _ s
  exact wpAny_pure ⟨_, rfl, "zip", _, ty, F.slot_zip_next.lookup, h⟩
theorem zs_go {elts : List Expr} {x1 : Nat} {pos : Pos} {T : Addr} {Q : Unit → Shared → Prop} (hz : ZAt s.heap z TI TO (rawInt T) false st) (hQ : ∀ h', ZAt h' z TI TO .none false st → Heap.SameBut z s.heap h' → Q () { s with heap := h' }) :
    wpAny (model prog w) A (letOwnedTupleGo (.Tuple elts x1 pos) (.ref z) (.ref T)) Q E s := by
  unfold letOwnedTupleGo
  refine wpAny_bind (wpAny_load hz ?_)
  have hc : (["enumerate", "zip", "dict_itemiterator", "dict_reverseitemiterator", "odict_iterator", "itertools.zip_longest", "itertools.pairwise"].contains "zip" && (#[rawInt T, .bool false, .bool st, .ref TI, .ref TO] : Array Value)[0]? == some (rawInt T)) = true := by simp
  refine wpAny_ite_true (decide_eq_true hc) (wpAny_bind (wpAny_rule ?_))
  show wpAny _ _ (setField (.ref z) 0 .none) Q E s
  exact wpAny_setField_rec hz (by simp) fun h' hz' hs' => hQ h' hz' hs'
end
abbrev zT (h : Heap) (o1 o2 : Obj) : Heap := ((h.push o1).push o2).push { cls := .type "tuple", data := .seq #[.ref h.objs.size, .ref (h.push o1).objs.size] }
abbrev zO (h : Heap) (o1 o2 : Obj) : Heap := (zT h o1 o2).push { cls := .type "tuple", data := .seq #[.none, .none] }
abbrev zZ (h : Heap) (o1 o2 : Obj) (st : Bool) : Heap := (zO h o1 o2).push { cls := .type "zip", data := .fields #[.none, .bool false, .bool st, .ref ((h.push o1).push o2).objs.size, .ref (zT h o1 o2).objs.size] }
namespace ZF
theorem typeCall (a b c : Value) : checkTypeCall "zip" ⟨[a, b], [(Str.ofString "strict", c)]⟩ = pure () := by kernel_rfl
theorem newCall (a b c : Value) : checkBuiltinCall "zip.__new__" ⟨[.type "zip", a, b], [(Str.ofString "strict", c)]⟩ = pure () := by kernel_rfl
theorem args_init (obj a b c : Value) : argsOk "object.__init__" ⟨[obj, a, b], [(Str.ofString "strict", c)]⟩ := by unfold argsOk; kernel_rfl
end ZF
theorem meets_zipK {v1 v2 : Value} {o1 o2 : Obj} {H1 H2 : Heap → Prop} (B1 : Begins v1 o1 H1) (B2 : Begins v2 o2 H2) (st : Bool) :
    Meets (Builtin.«zip.__new__» ⟨[.type "zip", v1, v2], [(Str.ofString "strict", .bool st)]⟩) (fun _ R s => (H1 s.heap ∧ H2 s.heap) ∧ R (.ok (.ret (.ref (zO s.heap o1 o2).objs.size))) { s with heap := zZ s.heap o1 o2 st }) :=
  .of_wp fun prog w A R s h => by
    obtain ⟨hp, g, d, tk, os⟩ := s
    obtain ⟨⟨h1, h2⟩, h⟩ := h
    have hsub := sub_zip
    have e1 : (Str.ofString "strict" != ("strict" : Str)) = false := by decide +kernel
    have q1 : ∀ {A' : Around} {E : Value → Shared → Prop} {Q : Value → Shared → Prop}, Q (.ref hp.objs.size) ⟨(hp.push o1), g, d, tk, os⟩ → wpAny (model prog w) A' (pyIter v1) Q E ⟨hp, g, d, tk, os⟩ :=
      fun q => B1.iter prog w _ _ ⟨hp, g, d, tk, os⟩ _ h1 q
    have q2 : ∀ {A' : Around} {E : Value → Shared → Prop} {Q : Value → Shared → Prop}, Q (.ref (hp.push o1).objs.size) ⟨((hp.push o1).push o2), g, d, tk, os⟩ → wpAny (model prog w) A' (pyIter v2) Q E ⟨(hp.push o1), g, d, tk, os⟩ :=
      fun q => B2.iter prog w _ _ ⟨(hp.push o1), g, d, tk, os⟩ _ (B2.keeps _ _ h2 fun b o' e => (Heap.get?_push_of_some _ e)) q
    have q3 : ∀ {A' : Around} {E : Value → Shared → Prop} {Q : Bool → Shared → Prop} {s : Shared}, Q st s → wpAny (model prog w) A' (truthy (.bool st)) Q E s := fun q => wpAny_pure q
    wp_walk using q1, q2, q3
    exact ⟨_, rfl, h⟩
section
variable {prog : Program} {w : World} {A : Around} {E : Value → Shared → Prop} {s : Shared}
/-- zip(a, b), zip(a, b, strict=..): its five new cells -/
theorem zs_begin {v1 v2 : Value} {o1 o2 : Obj} {H1 H2 : Heap → Prop} {Q : Value → Shared → Prop} {kw : List (Str × Value)} {st : Bool} (hk : (kw = [] ∧ st = false) ∨ kw = [(Str.ofString "strict", .bool st)]) (B1 : Begins v1 o1 H1) (B2 : Begins v2 o2 H2) (h1 : H1 s.heap) (h2 : H2 s.heap)
    (h : ∀ h', ZAt h' (s.heap.objs.size + 4) (s.heap.objs.size + 2) (s.heap.objs.size + 3) .none false st → IsTupOf2 h' (s.heap.objs.size + 2) (.ref s.heap.objs.size) (.ref (s.heap.objs.size + 1)) →
      IsTupOf2 h' (s.heap.objs.size + 3) .none .none → h'.get? s.heap.objs.size = some o1 → h'.get? (s.heap.objs.size + 1) = some o2 → h'.objs.size = s.heap.objs.size + 5 →
      (∀ c o, s.heap.get? c = some o → h'.get? c = some o) → Q (.ref (s.heap.objs.size + 4)) { s with heap := h' }) : wpAny (model prog w) A (call (.type "zip") [v1, v2] kw) Q E s := by
  rcases hk with ⟨rfl, rfl⟩ | rfl
  · exact zip_begins2 B1 B2 h1 h2 h
  refine callType_newKw F.called_zip (by decide) (ZF.typeCall _ _ _) (ZF.newCall _ _ _) (fun obj => ZF.args_init obj _ _ _) F.entry_zip_new (meets_zipK B1 B2 st) ⟨⟨h1, h2⟩, ?_⟩
  have z1 : (s.heap.push o1).objs.size = s.heap.objs.size + 1 := by rw [Heap.size_push]
  have z2 : ((s.heap.push o1).push o2).objs.size = s.heap.objs.size + 2 := by rw [Heap.size_push, z1]
  have z3 : (zT s.heap o1 o2).objs.size = s.heap.objs.size + 3 := by rw [Heap.size_push, z2]
  have z4 : (zO s.heap o1 o2).objs.size = s.heap.objs.size + 4 := by rw [Heap.size_push, z3]
  have z5 : (zZ s.heap o1 o2 st).objs.size = s.heap.objs.size + 5 := by rw [Heap.size_push, z4]
  have g5 : (zZ s.heap o1 o2 st).get? (zO s.heap o1 o2).objs.size = some { cls := .type "zip", data := .fields #[.none, .bool false, .bool st, .ref ((s.heap.push o1).push o2).objs.size, .ref (zT s.heap o1 o2).objs.size] } := Heap.get?_push_size _ rfl
  have g4 : (zZ s.heap o1 o2 st).get? (zT s.heap o1 o2).objs.size = some { cls := .type "tuple", data := .seq #[.none, .none] } := Heap.get?_push_of_some _ (Heap.get?_push_size _ rfl)
  have g3 : (zZ s.heap o1 o2 st).get? ((s.heap.push o1).push o2).objs.size = some { cls := .type "tuple", data := .seq #[.ref s.heap.objs.size, .ref (s.heap.push o1).objs.size] } := Heap.get?_push_of_some _ (Heap.get?_push_of_some _ (Heap.get?_push_size _ rfl))
  have g1 : (zZ s.heap o1 o2 st).get? s.heap.objs.size = some o1 := Heap.get?_push_of_some _ (Heap.get?_push_of_some _ (Heap.get?_push_of_some _ (Heap.get?_push_of_some _ (Heap.get?_push_size _ B1.free))))
  have g2 : (zZ s.heap o1 o2 st).get? (s.heap.push o1).objs.size = some o2 := Heap.get?_push_of_some _ (Heap.get?_push_of_some _ (Heap.get?_push_of_some _ (Heap.get?_push_size _ B2.free)))
  rw [z4, z3, z2] at g5
  rw [z3] at g4
  rw [z2, z1] at g3
  rw [z1] at g2
  show _ ∧ _
  rw [z4]
  exact ⟨⟨_, g5, rfl⟩, h _ g5 g3 g4 g1 g2 z5 fun c o e => Heap.get?_push_of_some _ (Heap.get?_push_of_some _ (Heap.get?_push_of_some _ (Heap.get?_push_of_some _ (Heap.get?_push_of_some _ e))))⟩
end
/-- the items of two lists or tuples, in new pairs -/
def Itq (K : Fg) (t1 t2 : Bool) (a b : Addr) (st : Bool) (bs : Nat → Bool) : It :=
  ⟨fun i H => ∃ (xs ys : List V) (x y : V), Sqq K t1 H a xs ∧ Sqq K t2 H b ys ∧ xs[i]? = some x ∧ ys[i]? = some y,
    fun i H v H' => ∃ (T : Addr) (x y : V) (o : Obj), o.dict = none ∧ v = .ref T ∧ H T = none ∧ H' = upd H T (tupO (bs i) o [x, y]) ∧ (∀ xs, Sqq K t1 H a xs → xs[i]? = some x) ∧ ∀ ys, Sqq K t2 H b ys → ys[i]? = some y,
    fun i H => ∃ xs ys : List V, Sqq K t1 H a xs ∧ Sqq K t2 H b ys ∧ i ≤ xs.length ∧ i ≤ ys.length ∧ (i = xs.length ∨ i = ys.length) ∧ (st = true → xs.length = ys.length)⟩
def tnQ (t1 t2 : Bool) (a b z TI TO i1 i2 : Addr) (st : Bool) : Nat → Heap → Prop := fun i h => ZAt h z TI TO .none false st ∧ IsTupOf2 h TI (.ref i1) (.ref i2) ∧ (∃ x y, IsTupOf2 h TO x y) ∧ ItAt t1 h i1 a i ∧ ItAt t2 h i2 b i
theorem turn_q {bs : Nat → Bool} {P : Program} {w : World} {K : Fg} {elts : List Expr} {kk : Nat} {tpos : Pos} {t1 t2 st : Bool} {a b z TI TO i1 i2 : Addr} (S : ZipSep2 z TI TO i1 i2 [i1, a] [i2, b]) (n1 : a ≠ i1) (n2 : b ≠ i2) :
    Turn P w K (.Tuple elts kk tpos) (Itq K t1 t2 a b st bs) [z, TI, TO, i1, i2] z (tnQ t1 t2 a b z TI TO i1 i2 st) where
  mem := by simp
  obj := fun i h ⟨hz, hTI, ⟨x, y, hTO⟩, h1, h2⟩ c hc => by
    have e' : c = z ∨ c = TI ∨ c = TO ∨ c = i1 ∨ c = i2 := by simpa using hc
    rcases e' with q | q | q | q | q <;> subst q
    · exact ⟨_, hz, fun v q => nomatch q⟩
    · exact ⟨_, hTI, fun v q => nomatch q⟩
    · exact ⟨_, hTO, fun v q => nomatch q⟩
    · exact h1.obj
    · exact h2.obj
  keep := fun i h h' ⟨hz, hTI, ⟨x, y, hTO⟩, h1, h2⟩ k =>
    ⟨k z (by simp) _ hz, k TI (by simp) _ hTI, ⟨x, y, k TO (by simp) _ hTO⟩, h1.at fun o q => k i1 (by simp) o q, h2.at fun o q => k i2 (by simp) o q⟩
  item := by
    intro X hP hw hK hc i pins s σ H E I hf stt hg
    subst hP hw hK
    obtain ⟨hz, hTI, ⟨x0, y0, hTO⟩, h1, h2⟩ := stt
    obtain ⟨xs, ys, x, y, hqx, hqy, hx, hy⟩ := hg
    obtain ⟨its, rv, p⟩ := hqx.at I
    obtain ⟨its2, rv2, p2⟩ := hqy.at I
    obtain ⟨u, hu, ru⟩ := rv.get hx
    obtain ⟨u2, hu2, ru2⟩ := rv2.get hy
    have hzl : z < s.heap.objs.size := Heap.lt_size hz
    have hd := I.ok.hd hc
    have k1 : its.toArray[i]? = some u := by simpa using hu
    have k2 : its2.toArray[i]? = some u2 := by simpa using hu2
    refine zs_next S (drawsQ (prog := X.prog) (w := X.w) (A := X.A.in1) t1 hd i1 a n1 its.toArray) (drawsQ (prog := X.prog) (w := X.w) (A := X.A.in1) t2 hd i2 b n2 its2.toArray) hz (.inl rfl) hTI hTO ⟨h1, p⟩ ⟨h2, p2⟩ (Array.getElem?_eq_some_iff.mp k1).1 (Array.getElem?_eq_some_iff.mp k2).1 fun v1 v2 h' tk e1 e2 z' TO' h1' h2' hT hsz hk => ?_
    rw [k1] at e1; cases e1
    rw [k2] at e2; cases e2
    refine ⟨_, rfl, zs_go (s := { s with heap := h', toks := tk }) z' fun h'' z'' sb => ?_⟩
    have hT2 : IsTupOf2 h'' s.heap.objs.size u u2 := (sb.2 _ (Nat.ne_of_gt hzl)).trans hT
    have new : ObjOk X.prog X.w (upd H s.heap.objs.size (tupO (bs i) { cls := .type "tuple", data := .seq #[u, u2] } [x, y])) h'' s.heap.objs.size (tupO (bs i) { cls := .type "tuple", data := .seq #[u, u2] } [x, y]) := ok_tupO hT2 ⟨by show 2 ≤ sizeLine; decide, [u, u2], .cons ru (.cons ru2 .nil), ⟨_, hT2, rfl, _, rfl⟩⟩
    have I1 : Inv X pins σ (upd H s.heap.objs.size (tupO (bs i) { cls := .type "tuple", data := .seq #[u, u2] } [x, y])) { s with heap := h'', toks := tk } :=
      I.turnedNew (t' := tk) (ch := [z, TI, TO, i1, i2]) (fun c o hb q => (sb.2 c (fun q' => hb (by simp [q']))).trans (hk c o (fun q' => hb (by simp [q'])) (fun q' => hb (by simp [q'])) (fun q' => hb (by simp [q'])) (fun q' => hb (by simp [q'])) q)) hf (Nat.le_refl _) new
    have up : ∀ c o, c ≠ z → h'.get? c = some o → h''.get? c = some o := fun c o ne e => (sb.2 c ne).trans e
    refine ⟨.ref s.heap.objs.size, _, I1, rfl, ⟨_, x, y, _, rfl, rfl, I.hok.fresh (Nat.le_refl _), rfl, fun l hl => by rw [hl.inj I hqx]; exact hx, fun l hl => by rw [hl.inj I hqy]; exact hy⟩, ⟨z'', ?_, ⟨u, u2, up _ _ S.TOz TO'⟩, ?_, ?_⟩, fun c hcm => ?_⟩
    · exact up _ _ S.TIz (hk _ _ S.TIz S.TITO S.TIi1 S.TIi2 hTI)
    · exact h1'.1.at fun o q => up _ _ (fun z => S.zi1 z.symm) q
    · exact h2'.1.at fun o q => up _ _ (fun z => S.zi2 z.symm) q
    · have hlt : c < s.heap.objs.size := by
        obtain ⟨o1, q1, _⟩ := h1.obj
        obtain ⟨o2, q2, _⟩ := h2.obj
        have e' : c = z ∨ c = TI ∨ c = TO ∨ c = i1 ∨ c = i2 := by simpa using hcm
        rcases e' with q | q | q | q | q <;> subst q
        · exact hzl
        · exact Heap.lt_size hTI
        · exact Heap.lt_size hTO
        · exact Heap.lt_size q1
        · exact Heap.lt_size q2
      rw [upd_ne (Nat.ne_of_lt hlt)]
      exact (hf c hcm).1
  done := by
    intro X hP hw hK hc i pins s σ H E I hf stt hg
    subst hP hw hK
    obtain ⟨hz, hTI, ⟨x0, y0, hTO⟩, h1, h2⟩ := stt
    obtain ⟨xs, ys, hqx, hqy, le1, le2, hend, hst⟩ := hg
    obtain ⟨its, rv, p⟩ := hqx.at I
    obtain ⟨its2, rv2, p2⟩ := hqy.at I
    have l1 := rv.length
    have l2 := rv2.length
    have hd := I.ok.hd hc
    refine zs_stop hd S (drawsQ (prog := X.prog) (w := X.w) (A := X.A.in1) t1 hd i1 a n1 its.toArray) (drawsQ (prog := X.prog) (w := X.w) (A := X.A.in1) t2 hd i2 b n2 its2.toArray) hz (.inl rfl) hTI hTO ⟨h1, p⟩ ⟨h2, p2⟩ (by simp; omega) (by simp; omega) (by simp; omega) (fun z => by have := hst z; simp; omega) fun h' tk hk => ⟨rfl, ?_⟩
    exact I.turnedL (t' := tk) (ch := [z, TI, TO, i1, i2]) (fun c o hb q => hk c o (fun q' => hb (by simp [q'])) (fun q' => hb (by simp [q'])) (fun q' => hb (by simp [q'])) (fun q' => hb (by simp [q'])) q) hf
  self := fun A i s Q E stt h => zs_iter stt.1 h
end Mi
/-! text MiM -/
set_option Elab.async false
set_option linter.all false
set_option maxRecDepth 100000
set_option maxHeartbeats 8000000
/-! MiM: zip and enumerate as iterables. -/
namespace Mi
open PySem PySem.Spec PyProof.Rows L2

section
variable {M : Model} {A : Around} {E : Value → Shared → Prop} {s : Shared}
theorem callWith_tyK {pos : Pos} {T : String} {first : List Value} {args : List (Bool × Sem Value)} {keywords : List (Option Str × Sem Value)} {Q : Value → Shared → Prop} (hplain : args.any (·.1) = false) (hkw : keywords.any (·.1.isNone) = false)
    (h : wpAny M A (evalArgs (.type T) true args keywords) (fun a s1 => wpAny M A (call (.type T) (first ++ a.pos) a.kw) Q E s1) E s) : wpAny M A (callWith pos (.type T) first args keywords) Q E s := by
  unfold callWith
  refine wpAny_bind (wpAny_holding (wpAny_mono h (fun a s1 h1 => wpAny_bind (wpAny_standAt ?_)) fun _ _ x => x))
  simp only [hplain, hkw, Bool.or_false]
  exact wpAny_bind (wpAny_pure (wpAny_bind (wpAny_mono h1 (fun r s2 hr => wpAny_bind (wpAny_holding (wpAny_point (wpAny_pure hr)))) fun _ _ x => x)))
end
/-- a datum that is a list or a tuple -/
def sqD : D → Option (Bool × List D)
  | .list xs => some (false, xs)
  | .tuple xs => some (true, xs)
  | _ => none
def zipD (xs ys : List D) : List D := List.zipWith (fun a b => .tuple [a, b]) xs ys
def zip2 (st : Bool) (es : List EV) : Option (List D) := match es with
  | [.d a, .d b] => match sqD a, sqD b with
    | some (_, xs), some (_, ys) => if st = true ∧ xs.length ≠ ys.length then none else some (zipD xs ys)
    | _, _ => none
  | _ => none
def keysOf (st : Option Bool) (kp : Pos) (j : Nat) (cp : Pos) : List Keyword := match st with
  | none => []
  | some b => [⟨some (Str.ofString "strict"), .Constant (.bool b) j cp, kp⟩]
section
variable {K : Fg} {P G H : Hp} {σ : L2.St} {F : Nat → List Addr}
/-- how a list or a tuple is known -/
def SqG (K : Fg) (G : Hp) (t : Bool) (a : Addr) (vs : List V) (xs : List D) : Prop := match t with | true => TupG K G a vs xs | false => G a = some (.lst vs)
theorem SqG.mono {t : Bool} {a : Addr} {vs : List V} {xs : List D} {G' : Hp} (e : Same G G') (h : SqG K G t a vs xs) : SqG K G' t a vs xs := by
  cases t with
  | true => exact TupG.mono e h
  | false => exact e _ _ h
/-- which pairs of two rows are told with their object -/
def bsq (xs ys : List D) (i : Nat) : Bool := match xs[i]?, ys[i]? with | some a, some b => pairy [a, b] | _, _ => false
theorem RD.sq {d : D} {v : V} {t : Bool} {xs : List D} (h : RD K G d v) (e : sqD d = some (t, xs)) : ∃ a vs, v = .ref a ∧ SqG K G t a vs xs ∧ RDs K G xs vs := by
  cases h with
  | lst h r => cases e; exact ⟨_, _, rfl, h, r⟩
  | tup h r => cases e; exact ⟨_, _, rfl, h, r⟩
  | _ => cases e
theorem Sqq.of {t : Bool} {a : Addr} {vs : List V} {xs : List D} (h : SqG K H t a vs xs) : Sqq K t H a vs := by
  cases t with
  | true => exact TupG.sqT h
  | false => exact SqL.of h
theorem zipD_len (xs ys : List D) : (zipD xs ys).length = min xs.length ys.length := by unfold zipD; simp
theorem itr_zip {t1 t2 st : Bool} {a b : Addr} {xs ys : List D} {vs us : List V} (h1 : SqG K G t1 a vs xs) (r1 : RDs K G xs vs) (h2 : SqG K G t2 b us ys) (r2 : RDs K G ys us)
    (hst : st = true → xs.length = ys.length) : ItR K P G H σ F (zipD xs ys) (Itq K t1 t2 a b st (bsq xs ys)) := fun G1 H1 e1 e2 => by
  have q1 : Sqq K t1 H1 a vs := Sqq.of (h1.mono (e1.trans e2))
  have q2 : Sqq K t2 H1 b us := Sqq.of (h2.mono (e1.trans e2))
  have l1 := r1.length
  have l2 := r2.length
  have lz := zipD_len xs ys
  refine ⟨fun i hi => ?_, ⟨vs, us, q1, q2, by omega, by omega, by omega, fun z => by have := hst z; omega⟩, fun i x H' hi ⟨T, x1, y1, ob, hd, ex, hT, eH, g1, g2⟩ => ?_⟩
  · have hi1 : i < vs.length := by omega
    have hi2 : i < us.length := by omega
    exact ⟨vs, us, vs[i], us[i], q1, q2, List.getElem?_eq_getElem hi1, List.getElem?_eq_getElem hi2⟩
  · subst ex eH
    obtain ⟨d1, k1, k2⟩ := r1.get' (g1 vs q1)
    obtain ⟨d2, k3, k4⟩ := r2.get' (g2 us q2)
    have eb : bsq xs ys i = pairy [d1, d2] := by unfold bsq; rw [k1, k3]
    rw [eb]
    refine ⟨upd G1 T (tupO (pairy [d1, d2]) ob [x1, y1]), .tuple [d1, d2], ?_, Grow.newG e2 hT, ?_⟩
    · unfold zipD
      rw [List.getElem?_zipWith, k1, k3]
    · have sm : Same G1 (upd G1 T (tupO (pairy [d1, d2]) ob [x1, y1])) := same_upd (e2.free hT)
      exact .tup (.of hd upd_same) (.cons (k2.mono (e1.trans sm)) (.cons (k4.mono (e1.trans sm)) .nil))
end
section
variable {X : Cx} {W : WX} {e e2 : Expr} {es : List Expr} {ms : Env' → R (List EV)} {p pos tpos kp cp : Pos} {elts : List Expr} {kk : Nat} {j : Nat}
theorem zip_eval {st : Option Bool} {ta : TA} {pins : List (Addr × Obj)} {σ : L2.St} {H : Hp} {s : Shared} {Rz : Bool → Bool → Addr → Addr → Hp → Prop} {Q : Value → Shared → Prop} (hg : Gl X "zip") (hm : X.mg "zip" = none) (ha : PA X [e, e2] ta) (I : Inv X pins σ H s)
    (h : ta σ H fun vs H1 => ∃ t1 t2 a b xs ys, vs = [.ref a, .ref b] ∧ Sqq X.K t1 H1 a xs ∧ Sqq X.K t2 H1 b ys ∧ Rz t1 t2 a b H1)
    (k : ∀ t1 t2 a b H1 s1 z TI TO i1 i2, Rz t1 t2 a b H1 → Inv X pins σ H1 s1 → ZipSep2 z TI TO i1 i2 [i1, a] [i2, b] → a ≠ i1 → b ≠ i2 → tnQ t1 t2 a b z TI TO i1 i2 (st.getD false) 0 s1.heap → (∀ c ∈ [z, TI, TO, i1, i2], FpOk X pins H1 c) → Q (.ref z) s1)
    (hs : starEach [e, e2] X.env = (false, eval e X.env) :: starEach [e2] X.env := by rfl) (hpl : (backTo pos (starEach [e, e2] X.env)).any (·.1) = false := by rfl) :
    wpAny (model X.prog X.w) X.A (eval (.Call (.Name "zip" p) [e, e2] (keysOf st kp j cp) pos) X.env) Q X.xe s := by
  have main : ∀ (us : List Value) (s1 : Shared) (kw : List (Str × Value)) (vs : List V) (H1 : Hp), ((kw = [] ∧ st.getD false = false) ∨ kw = [(Str.ofString "strict", .bool (st.getD false))]) → Inv X pins σ H1 s1 → Vals vs us →
      (∃ t1 t2 a b xs ys, vs = [.ref a, .ref b] ∧ Sqq X.K t1 H1 a xs ∧ Sqq X.K t2 H1 b ys ∧ Rz t1 t2 a b H1) → wpAny (model X.prog X.w) X.A (call (.type "zip") us kw) Q X.xe s1 := fun us s1 kw vs H1 hk I1 rv ⟨t1, t2, a, b, xs, ys, ev, hq1, hq2, q⟩ => by
    subst ev
    obtain ⟨u1, u2, rfl, r1, r2⟩ := rv.two
    cases r1
    cases r2
    obtain ⟨its, rv1, p1⟩ := hq1.at I1
    obtain ⟨its2, rv2, p2⟩ := hq2.at I1
    have la : a < s1.heap.objs.size := by cases t1 <;> exact Heap.lt_size p1.choose_spec.1
    have lb : b < s1.heap.objs.size := by cases t2 <;> exact Heap.lt_size p2.choose_spec.1
    refine zs_begin hk (beginsQ t1 a its.toArray) (beginsQ t2 b its2.toArray) p1 p2 fun h' hz hTI hTO g1 g2 hsz hkp => ?_
    have I2 : Inv X pins σ H1 { s1 with heap := h' } := I1.kept (t' := s1.toks) hkp
    have sep : ZipSep2 (s1.heap.objs.size + 4) (s1.heap.objs.size + 2) (s1.heap.objs.size + 3) s1.heap.objs.size (s1.heap.objs.size + 1) [s1.heap.objs.size, a] [s1.heap.objs.size + 1, b] :=
      zip_sep2 (fp1 := [a]) (fp2 := [b]) (fun c hc => by rw [List.mem_singleton.mp hc]; exact la) (fun c hc => by rw [List.mem_singleton.mp hc]; exact lb)
    refine k t1 t2 a b H1 { s1 with heap := h' } (s1.heap.objs.size + 4) (s1.heap.objs.size + 2) (s1.heap.objs.size + 3) s1.heap.objs.size (s1.heap.objs.size + 1) q I2 sep (Nat.ne_of_lt la) (Nat.ne_of_lt (Nat.lt_succ_of_lt lb)) ⟨hz, hTI, ⟨_, _, hTO⟩, objQ_it t1 g1, objQ_it t2 g2⟩ fun c hcm => ?_
    have hle : s1.heap.objs.size ≤ c := by
      have e' : c = s1.heap.objs.size + 4 ∨ c = s1.heap.objs.size + 2 ∨ c = s1.heap.objs.size + 3 ∨ c = s1.heap.objs.size ∨ c = s1.heap.objs.size + 1 := by simpa using hcm
      rcases e' with z | z | z | z | z <;> rw [z]
      · exact Nat.le_add_right _ _
      · exact Nat.le_add_right _ _
      · exact Nat.le_add_right _ _
      · exact Nat.le_refl _
      · exact Nat.le_add_right _ _
    exact I1.fpOk hle (I1.hok.fresh hle)
  have he : backTo pos (starEach [e, e2] X.env) = (false, eval e X.env) :: backTo pos (starEach [e2] X.env) := by rw [hs]; rfl
  refine wpAny_Call_Name_kw (ld_blt I hg hm PyProof.Rows.boot_zip ?_)
  cases st with
  | none =>
    refine callWith_tyK hpl rfl ?_
    have h := thn (ha.run pos pins s σ H _ I h) fun us s1 ⟨vs, H1, I1, r1, q1⟩ => main us s1 [] vs H1 (.inl ⟨rfl, rfl⟩) I1 r1 q1
    rw [he] at h ⊢
    exact Calls.evalArgs_plain h
  | some b =>
    refine callWith_tyK hpl rfl ?_
    have kwr : ∀ (us : List Value) (s1 : Shared) (vs : List V) (H1 : Hp), Inv X pins σ H1 s1 → Vals vs us →
        (∃ t1 t2 a b' xs ys, vs = [.ref a, .ref b'] ∧ Sqq X.K t1 H1 a xs ∧ Sqq X.K t2 H1 b' ys ∧ Rz t1 t2 a b' H1) →
        wpAny (model X.prog X.w) X.A (evalAll ((backToKw pos (keywordEach (keysOf (some b) kp j cp) X.env)).map fun x => x.2)) (fun kvs s2 => wpAny (model X.prog X.w) X.A (call (.type "zip") us ([Str.ofString "strict"].zip kvs)) Q X.xe s2) X.xe s1 := fun us s1 vs H1 I1 r1 q1 => by
      have hk : PK X (keysOf (some b) kp j cp) (tCons (tC (V.bl b)) tNil) := pk_cons pe_bl pk_nil
      refine thn (hk.run pos pins s1 σ H1 (fun zs H2 => zs = [V.bl b] ∧ H2 = H1) I1 ⟨rfl, rfl⟩) fun kvs s2 ⟨zs, H2, I2, r2, ez, eH⟩ => ?_
      subst ez eH
      obtain ⟨u, rfl, ru⟩ := r2.one
      cases ru
      exact main us s2 [(Str.ofString "strict", .bool b)] vs H2 (.inr rfl) I2 r1 q1
    have h := thn (ha.run pos pins s σ H _ I h) fun us s1 ⟨vs, H1, I1, r1, q1⟩ => kwr us s1 vs H1 I1 r1 q1
    rw [he] at h ⊢
    exact evalArgs_kwB rfl h
theorem pi_zipQ {st : Option Bool} {ta : TA} (hg : Gl X "zip") (hm : X.mg "zip" = none) (ha : PA X [e, e2] ta)
    (hs : starEach [e, e2] X.env = (false, eval e X.env) :: starEach [e2] X.env := by rfl) (hpl : (backTo pos (starEach [e, e2] X.env)).any (·.1) = false := by rfl) :
    PI X (.Tuple elts kk tpos) (.Call (.Name "zip" p) [e, e2] (keysOf st kp j cp) pos) (fun σ H R => ta σ H fun vs H1 => ∃ t1 t2 a b xs ys, vs = [.ref a, .ref b] ∧ Sqq X.K t1 H1 a xs ∧ Sqq X.K t2 H1 b ys ∧ ∃ bs, R (Itq X.K t1 t2 a b (st.getD false) bs) H1) :=
  ⟨fun pins s σ H R I h => zip_eval hg hm ha I h (fun t1 t2 a b H1 s1 z TI TO i1 i2 ⟨bs, q⟩ I2 sep n1 n2 tn fp => zs_iter tn.1 ⟨z, [z, TI, TO, i1, i2], _, _, H1, rfl, I2, turn_q sep n1 n2, tn, fp, q⟩) hs hpl⟩
/-- zip(a, b), zip(a, b, strict=..) -/
theorem ai_zip {st : Option Bool} (hg : Gl X "zip") (hm : X.mg "zip" = none) (ha : AA X W ms [e, e2])
    (hs : starEach [e, e2] X.env = (false, eval e X.env) :: starEach [e2] X.env := by rfl) (hpl : (backTo pos (starEach [e, e2] X.env)).any (·.1) = false := by rfl) :
    AI X W (iCall (zip2 (st.getD false)) ms) (.Tuple elts kk tpos) (.Call (.Name "zip" p) [e, e2] (keysOf st kp j cp) pos) := by
  refine (pi_zipQ hg hm ha hs hpl).imp fun σ H Q ⟨P, B, G, ρ, F, s, h⟩ => ⟨P, B, G, ρ, F, s, (Po.bind (rel := EvRs X.K) h).imp fun ws H1 ⟨G1, ρ1, F1, e1, _, s1, r1, h1⟩ => ?_⟩
  have h2 : Po (ItR X.K) X.K W P B G1 σ (R.ofO (zip2 (st.getD false) e1) ρ1) Q := h1
  unfold zip2 at h2
  split at h2
  · rename_i a b
    obtain ⟨w, u, rfl, r2, r3⟩ := r1.two
    split at h2
    · rename_i t1 xs t2 ys q1 q2
      split at h2
      · exact h2.elim
      · rename_i hst
        obtain ⟨l1, vs, rfl, g1, k1⟩ := RD.sq (d := a) r2 q1
        obtain ⟨l2, us, rfl, g2, k2⟩ := RD.sq (d := b) r3 q2
        have hst' : st.getD false = true → xs.length = ys.length := fun z => by
          by_cases hl : xs.length = ys.length
          · exact hl
          · exact absurd ⟨z, hl⟩ hst
        exact ⟨t1, t2, l1, l2, vs, us, rfl, Sqq.of (g1.mono s1.sub), Sqq.of (g2.mono s1.sub), _, h2 G1 H1 F1 _ (Same.refl _) s1 (itr_zip g1 k1 g2 k2 hst')⟩
    · exact h2.elim
  · exact h2.elim
end
end Mi
/-! text MiN -/
set_option Elab.async false
set_option linter.all false
set_option maxRecDepth 100000
set_option maxHeartbeats 8000000
/-! MiN: enumerate over lists, tuples, a zip. -/
namespace Mi
open PySem PySem.Spec PyProof.Rows L2

section
variable {prog : Program} {w : World} {A : Around} {E : Value → Shared → Prop} {s : Shared} {z TI TO i1 i2 T : Addr} {fp1 fp2 : List Addr} {n1 n2 i : Nat} {P1 P2 : Nat → Value → Prop} {St1 St2 : Nat → Heap → Prop} {a1 a2 : Value} {st fl : Bool}
theorem alive_some {a : Addr} {o : Obj} {Q : Option Obj → Shared → Prop} (ho : s.heap.get? a = some o) (h : Q (some o) s) : wpAny (model prog w) A (loadIfAlive a) Q E s := by
  have q : Q (s.heap.get? a) s := by rw [ho]; exact h
  exact fun _ _ _ => q
theorem held_false {oT : Obj} {Q : Bool → Shared → Prop} (hz : ZAt s.heap z TI TO (rawInt T) fl st) (hT : s.heap.get? T = some oT) (h : ∀ h', ZAt h' z TI TO (rawInt T) true st → Heap.SameBut z s.heap h' → Q false { s with heap := h' }) :
    wpAny (model prog w) A (Builtin.SmallTypes.ownedTupleIsFree (.ref z)) Q E s := by
  unfold Builtin.SmallTypes.ownedTupleIsFree
  refine wpAny_bind (wpAny_field hz rfl (x := rawInt T) rfl ?_)
  show wpAny _ _ (loadIfAlive ((T : Int).toNat) >>= _) _ _ _
  rw [Int.toNat_natCast]
  refine wpAny_bind (alive_some hT ?_)
  simp only [Option.isNone_some, Bool.false_eq_true, if_false]
  refine wpAny_bind (wpAny_field hz rfl (x := .bool fl) rfl ?_)
  cases fl with
  | true => exact wpAny_ite_false (by decide) (wpAny_pure (h s.heap hz (Heap.SameBut.refl _ _)))
  | false => exact wpAny_ite_true (by decide) (wpAny_bind (wpAny_setField_rec hz (by simp) fun h1 hz1 hs1 => wpAny_pure (h h1 hz1 hs1)))
/-- the next pair, the last one still held -/
theorem zh_item {oT : Obj} {Q : Value → Shared → Prop} (S : ZipSep2 z TI TO i1 i2 fp1 fp2) (D1 : Draws prog w A i1 fp1 n1 P1 St1) (D2 : Draws prog w A i2 fp2 n2 P2 St2)
    (hz : ZAt s.heap z TI TO (rawInt T) fl st) (hT : s.heap.get? T = some oT) (hTI : IsTupOf2 s.heap TI (.ref i1) (.ref i2)) (st1 : St1 i s.heap) (st2 : St2 i s.heap) (hlt1 : i < n1) (hlt2 : i < n2)
    (hQ : ∀ x1 x2 h' tk, P1 i x1 → P2 i x2 → ZAt h' z TI TO (rawInt T) true st → St1 (i + 1) h' → St2 (i + 1) h' → IsTupOf2 h' s.heap.objs.size x1 x2 → h'.objs.size = s.heap.objs.size + 1 →
      (∀ c o, c ≠ z → c ≠ i1 → c ≠ i2 → s.heap.get? c = some o → h'.get? c = some o) → Q (.ref s.heap.objs.size) { s with heap := h', toks := tk }) :
    wpAny (model prog w) A (Builtin.«zip.__next__» ⟨[.ref z], []⟩) (fun fin s' => ∃ v, fin = .done (.ret v) ∧ Q v s') E s := by
  obtain ⟨hp, g, d, tk0, os⟩ := s
  have hst : (Value.bool st == Value.bool true) = st := by cases st <;> rfl
  show wpAny _ _ (field (.ref z) 2 >>= _) _ _ _
  refine wpAny_bind (wpAny_field hz rfl (x := .bool st) rfl ?_)
  rw [hst]
  show wpAny _ _ (field (.ref z) 3 >>= _) _ _ _
  refine wpAny_bind (wpAny_field hz rfl (x := .ref TI) rfl ?_)
  refine wpAny_bind (wpAny_seqItems hTI rfl ?_)
  show wpAny _ _ (Builtin.SmallTypes.ownedTupleIsFree (.ref z) >>= _) _ _ _
  refine wpAny_bind (held_false hz hT fun m0 hz0 es0 => ?_)
  replace es0 : Heap.SameBut z hp m0 := es0
  simp only [Bool.false_eq_true, if_false]
  refine wpAny_bind ?_
  rw [← Array.forIn_toList]
  simp only [List.forIn_cons, List.forIn_nil]
  refine wpAny_bind (wpAny_bind (wpAny_holding ?_))
  show wpAny _ _ (drawZ st (.ref i1)) _ _ ⟨m0, g, d, tk0, os⟩
  refine drawZ_item D1 (D1.over st1 es0 S.zf1) hlt1 fun x1 u1 tk1 hx1 sn1 eu1 => ?_
  replace eu1 : Heap.SameBut i1 m0 u1 := eu1
  refine wpAny_pure (wpAny_bind (wpAny_bind (wpAny_holding ?_)))
  show wpAny _ _ (drawZ st (.ref i2)) _ _ ⟨u1, g, d, tk1, os⟩
  refine drawZ_item D2 (D2.over (D2.over st2 es0 S.zf2) eu1 S.sep1_2) hlt2 fun x2 u2 tk2 hx2 sn2 eu2 => ?_
  replace eu2 : Heap.SameBut i2 u1 u2 := eu2
  refine wpAny_pure (wpAny_pure ?_)
  show wpAny _ _ (newTuple [x1, x2] >>= _) _ _ _
  refine wpAny_bind (wpAny_newTuple ?_)
  have hsz : u2.objs.size = hp.objs.size := by rw [eu2.1, eu1.1, es0.1]
  have hz2 : ZAt u2 z TI TO (rawInt T) true st := eu2.extBut _ _ S.zi2 (eu1.extBut _ _ S.zi1 hz0)
  refine wpAny_pure ⟨_, rfl, ?_⟩
  show Q (.ref u2.objs.size) _
  have hp4 : IsTupOf2 (u2.push { cls := .type "tuple", data := .seq #[x1, x2] }) u2.objs.size x1 x2 := Heap.get?_push_size _ rfl
  have hz4 : (u2.push { cls := .type "tuple", data := .seq #[x1, x2] }).objs.size = u2.objs.size + 1 := Heap.size_push ..
  have hs1 : St1 (i + 1) u2 := D1.over sn1 eu2 S.sep2_1
  rw [hsz] at hp4 hz4 ⊢
  exact hQ x1 x2 _ tk2 hx1 hx2 (Heap.get?_push_of_some _ hz2) (D1.frame _ _ _ hs1 fun b _ o e => Heap.get?_push_of_some _ e) (D2.frame _ _ _ sn2 fun b _ o e => Heap.get?_push_of_some _ e) hp4 hz4 fun c o c1 c2 c3 e =>
    Heap.get?_push_of_some _ (eu2.extBut _ _ c3 (eu1.extBut _ _ c2 (es0.extBut _ _ c1 e)))
theorem zh_end {oT : Obj} {Q : Fin → Shared → Prop} (hh : A.handled = none) (S : ZipSep2 z TI TO i1 i2 fp1 fp2) (D1 : Draws prog w A i1 fp1 n1 P1 St1) (D2 : Draws prog w A i2 fp2 n2 P2 St2)
    (hz : ZAt s.heap z TI TO (rawInt T) fl st) (hT : s.heap.get? T = some oT) (hTI : IsTupOf2 s.heap TI (.ref i1) (.ref i2)) (st1 : St1 i s.heap) (st2 : St2 i s.heap) (hle1 : i ≤ n1) (hle2 : i ≤ n2) (hend : i = n1 ∨ i = n2) (hS : st = true → n1 = n2)
    (hE : ∀ h' tk e, (∀ c o, c ≠ z → c ≠ i1 → c ≠ i2 → s.heap.get? c = some o → h'.get? c = some o) → (∃ o, h'.get? e = some o ∧ o.cls = .type "StopIteration") → E (.ref e) { s with heap := h', toks := tk }) :
    wpAny (model prog w) A (Builtin.«zip.__next__» ⟨[.ref z], []⟩) Q E s := by
  obtain ⟨hp, g, d, tk0, os⟩ := s
  have hst : (Value.bool st == Value.bool true) = st := by cases st <;> rfl
  show wpAny _ _ (field (.ref z) 2 >>= _) _ _ _
  refine wpAny_bind (wpAny_field hz rfl (x := .bool st) rfl ?_)
  rw [hst]
  show wpAny _ _ (field (.ref z) 3 >>= _) _ _ _
  refine wpAny_bind (wpAny_field hz rfl (x := .ref TI) rfl ?_)
  refine wpAny_bind (wpAny_seqItems hTI rfl ?_)
  show wpAny _ _ (Builtin.SmallTypes.ownedTupleIsFree (.ref z) >>= _) _ _ _
  refine wpAny_bind (held_false hz hT fun m0 hz0 es0 => ?_)
  replace es0 : Heap.SameBut z hp m0 := es0
  simp only [Bool.false_eq_true, if_false]
  refine wpAny_bind ?_
  rw [← Array.forIn_toList]
  simp only [List.forIn_cons, List.forIn_nil]
  refine wpAny_bind (wpAny_bind (wpAny_holding ?_))
  show wpAny _ _ (drawZ st (.ref i1)) _ _ ⟨m0, g, d, tk0, os⟩
  by_cases hlt1 : i < n1
  · have hsf : st = false := by
      cases st with
      | false => rfl
      | true => have := hS rfl; omega
    subst hsf
    refine drawZ_item D1 (D1.over st1 es0 S.zf1) hlt1 fun x1 u1 tk1 hx1 sn1 eu1 => ?_
    replace eu1 : Heap.SameBut i1 m0 u1 := eu1
    have hi2 : i = n2 := by omega
    refine wpAny_pure (wpAny_bind (wpAny_bind (wpAny_holding ?_)))
    show wpAny _ _ (drawZ false (.ref i2)) _ _ ⟨u1, g, d, tk1, os⟩
    refine drawZ_end (s := ⟨u1, g, d, tk1, os⟩) D2 (by rw [← hi2]; exact (D2.over (D2.over st2 es0 S.zf2) eu1 S.sep1_2)) (fun _ q e hq he => ?_) (fun h => nomatch h)
    exact hE q tk1 e (fun c o cz c1 c2 x => hq _ _ c2 (eu1.extBut _ _ c1 (es0.extBut _ _ cz x))) he
  · have hi1 : i = n1 := by omega
    refine drawZ_end (s := ⟨m0, g, d, tk0, os⟩) D1 (by rw [← hi1]; exact (D1.over st1 es0 S.zf1)) (fun hsf q e hq he => ?_) (fun hst q hq => ?_)
    · exact hE q tk0 e (fun c o cz c1 c2 x => hq _ _ c1 (es0.extBut _ _ cz x)) he
    · replace hq : Heap.ExtBut i1 m0 q := hq
      subst hst
      have hn : n1 = n2 := hS rfl
      have hi2 : i = n2 := hi1.trans hn
      refine wpAny_bind ?_
      have noe : ∀ {Q : Option Value → Shared → Prop} {E : Value → Shared → Prop}, (∀ h', Heap.ExtBut i2 q h' → Q none ⟨h', g, d, tk0, os⟩) → wpAny (model prog w) A (Builtin.SmallTypes.nextOrEnd (.ref i2)) Q E ⟨q, g, d, tk0, os⟩ := fun h =>
        drawZ_end (st := true) (s := ⟨q, g, d, tk0, os⟩) D2 (by
          rw [← hi2]
          exact D2.frame _ _ _ (D2.over st2 es0 S.zf2) fun b hb o e => hq _ _ (fun z => S.sep1_2 (z ▸ hb)) e) (fun h => nomatch h) fun _ => h
      have stop : ∀ {α : Type} {Q : α → Shared → Prop} {E : Value → Shared → Prop} {s : Shared}, (∀ h' e oe, (∀ b o, s.heap.get? b = some o → h'.get? b = some o) → h'.get? e = some oe → oe.cls = .type "StopIteration" → E (.ref e) { s with heap := h' }) → wpAny (model prog w) A (Builtin.SmallTypes.stopIteration : Sem α) Q E s := fun h => DVw.raise_stop hh h
      wp_walk using noe, stop
      intro h' hx
      wp_walk using noe, stop
      intro h2 e oe hk ho hc
      exact hE h2 tk0 e (fun c o cz c1 c2 x => hk _ _ (hx _ _ c2 (hq _ _ c1 (es0.extBut _ _ cz x)))) ⟨oe, ho, hc⟩
/-- enumerate over anything: the source's next is told by hsrc -/
theorem en_item {e it : Addr} {c : Int} {old : Value} {Q : Value → Shared → Prop} (he : IsEnum s.heap e it c old)
    (hsrc : wpAny (model prog w) A (Builtin.SmallTypes.nextOf (.ref it)) (fun x s1 => IsEnum s1.heap e it c old ∧ ∀ h', IsEnumOut h' e it (c + 1) x s1.heap.objs.size → h'.get? s1.heap.objs.size = some { cls := .type "tuple", data := .seq #[.int c s1.toks, x] } → h'.objs.size = s1.heap.objs.size + 1 →
      (∀ b o, b ≠ e → s1.heap.get? b = some o → h'.get? b = some o) → Q (.ref s1.heap.objs.size) { s1 with heap := h', toks := s1.toks + 1 }) E s) :
    wpAny (model prog w) A (Builtin.«enumerate.__next__» ⟨[.ref e], []⟩) (fun fin s' => ∃ v, fin = .done (.ret v) ∧ Q v s') E s := by
  show wpAny _ _ (field (.ref e) 2 >>= _) _ _ _
  refine wpAny_bind (wpAny_field he rfl (x := .ref it) rfl ?_)
  refine wpAny_bind (wpAny_mono hsrc (fun x s1 ⟨he1, hQ⟩ => ?_) fun _ _ q => q)
  obtain ⟨hp, g, d, tk, os⟩ := s1
  replace he1 : IsEnum hp e it c old := he1
  show wpAny _ _ (field (.ref e) 3 >>= _) _ _ ⟨hp, g, d, tk, os⟩
  refine wpAny_bind (wpAny_field he1 rfl (x := rawInt c) rfl ?_)
  show wpAny _ _ (field (.ref e) 4 >>= _) _ _ ⟨hp, g, d, tk, os⟩
  refine wpAny_bind (wpAny_field he1 rfl (x := .none) rfl ?_)
  show wpAny _ _ (mkInt c >>= _) _ _ ⟨hp, g, d, tk, os⟩
  refine wpAny_bind (wpAny_mkInt ?_)
  show wpAny _ _ (setField (.ref e) 3 (rawInt (c + 1)) >>= _) _ _ ⟨hp, g, d, tk + 1, os⟩
  refine wpAny_bind (wpAny_setField_rec he1 (by simp) fun m2 he2 es2 => ?_)
  replace es2 : Heap.SameBut e hp m2 := es2
  replace he2 : IsEnum m2 e it (c + 1) old := he2
  show wpAny _ _ (setField (.ref e) 4 .none >>= _) _ _ ⟨m2, g, d, tk + 1, os⟩
  refine wpAny_bind (wpAny_setField_rec he2 (by simp) fun m3 he3 es3 => ?_)
  replace es3 : Heap.SameBut e m2 m3 := es3
  replace he3 : IsEnum m3 e it (c + 1) old := he3
  show wpAny _ _ (newTuple [.int c tk, x] >>= _) _ _ ⟨m3, g, d, tk + 1, os⟩
  refine wpAny_bind (wpAny_newTuple ?_)
  have he4 : IsEnum (m3.push { cls := .type "tuple", data := .seq #[.int c tk, x] }) e it (c + 1) old := Heap.get?_push_of_some _ he3
  generalize hm4 : m3.push { cls := .type "tuple", data := .seq #[.int c tk, x] } = m4 at he4
  have hsz : m3.objs.size = hp.objs.size := by rw [es3.1, es2.1]
  have hel : e < hp.objs.size := Heap.lt_size he1
  have ht4 : m4.get? hp.objs.size = some { cls := .type "tuple", data := .seq #[.int c tk, x] } := by rw [← hm4, ← hsz]; exact Heap.get?_push_size _ rfl
  have hz4 : m4.objs.size = hp.objs.size + 1 := by rw [← hm4, Heap.size_push, hsz]
  have hk4 : ∀ b o, b ≠ e → hp.get? b = some o → m4.get? b = some o := fun b o hbe hb => by
    rw [← hm4]; exact Heap.get?_push_of_some _ (es3.extBut b o hbe (es2.extBut b o hbe hb))
  show wpAny _ _ (Builtin.SmallTypes.ownedTupleIsFree (.ref e) >>= _) _ _ ⟨m4, g, d, tk + 1, os⟩
  rw [hsz]
  refine wpAny_bind ?_
  unfold Builtin.SmallTypes.ownedTupleIsFree
  refine wpAny_bind (wpAny_field he4 rfl (x := .none) rfl (wpAny_pure ?_))
  simp only [if_true]
  refine wpAny_bind (wpAny_rule ?_)
  refine wpAny_bind (wpAny_field he4 rfl (x := old) rfl ?_)
  refine wpAny_bind (wpAny_setField_rec he4 (by simp) fun m5 he5 es5 => ?_)
  replace es5 : Heap.SameBut e m4 m5 := es5
  replace he5 : IsEnum m5 e it (c + 1) x := he5
  show wpAny _ _ (Builtin.SmallTypes.ownedTupleHandOut (.ref e) (.ref hp.objs.size) >>= _) _ _ ⟨m5, g, d, tk + 1, os⟩
  refine wpAny_bind ?_
  unfold Builtin.SmallTypes.ownedTupleHandOut
  refine wpAny_bind (wpAny_setField_rec he5 (by simp) fun m6 he6 es6 => ?_)
  replace es6 : Heap.SameBut e m5 m6 := es6
  replace he6 : IsEnumOut m6 e it (c + 1) x hp.objs.size := he6
  refine wpAny_setField_rec he6 (by simp) fun m7 he7 es7 => ?_
  replace es7 : Heap.SameBut e m6 m7 := es7
  replace he7 : IsEnumOut m7 e it (c + 1) x hp.objs.size := he7
  refine wpAny_bind (wpAny_letGo (wpAny_pure ⟨_, rfl, hQ m7 he7 ?_ ?_ ?_⟩))
  · exact es7.extBut _ _ (Nat.ne_of_gt hel) (es6.extBut _ _ (Nat.ne_of_gt hel) (es5.extBut _ _ (Nat.ne_of_gt hel) ht4))
  · show m7.objs.size = hp.objs.size + 1
    rw [es7.1, es6.1, es5.1, hz4]
  · exact fun b o hbe hb => es7.extBut b o hbe (es6.extBut b o hbe (es5.extBut b o hbe (hk4 b o hbe hb)))
/-- enumerate's next -/
theorem en_next {e it : Addr} {c : Int} {old : Value} {Q : Option Value → Shared → Prop} (he : IsEnum s.heap e it c old)
    (hsrc : wpAny (model prog w) A.in1 (Builtin.SmallTypes.nextOf (.ref it)) (fun x s1 => IsEnum s1.heap e it c old ∧ ∀ h', IsEnumOut h' e it (c + 1) x s1.heap.objs.size → h'.get? s1.heap.objs.size = some { cls := .type "tuple", data := .seq #[.int c s1.toks, x] } → h'.objs.size = s1.heap.objs.size + 1 →
      (∀ b o, b ≠ e → s1.heap.get? b = some o → h'.get? b = some o) → Q (some (.ref s1.heap.objs.size)) { s1 with heap := h', toks := s1.toks + 1 }) (fun er s1 => ∃ a o, er = .ref a ∧ s1.heap.get? a = some o ∧ o.cls = .type "StopIteration" ∧ Q none s1) s) :
    wpAny (model prog w) A (pyNext (.ref e)) Q E s := by
  have ty : s.TypeIs (.ref e) "enumerate" := ⟨_, he, rfl⟩
  unfold pyNext
  refine wpAny_bind (wpAny_attempt (wpAny_callSpecial?_slot (name := Str.ofString "__next__") ty F.slot_enumerate_next (wpAny_call_entry F.slot_enumerate_next ty F.entry_enumerate_next ?_ (F.args_enumerate_next_1 _))))
  refine en_item he (wpAny_mono hsrc (fun x s1 ⟨h1, h2⟩ => ⟨h1, fun h' q1 q2 q3 q4 => wpAny_pure (h2 h' q1 q2 q3 q4)⟩) fun er s1 ⟨a, o, ea, ho, hc, q⟩ => ?_)
  subst ea
  exact wpAny_bind (wpAny_isInstance (T := "StopIteration") (b := true) ⟨o, ho, hc⟩ isSubtype_stop (wpAny_pure q))
/-- nextOf a zip -/
theorem nextOf_zip {f0 : Value} {Q : Value → Shared → Prop} (hz : ZAt s.heap z TI TO f0 fl st) (h : wpAny (model prog w) A.in1 (Builtin.«zip.__next__» ⟨[.ref z], []⟩) (fun fin s' => ∃ v, fin = .done (.ret v) ∧ Q v s') E s) :
    wpAny (model prog w) A (Builtin.SmallTypes.nextOf (.ref z)) Q E s := by
  have ty : s.TypeIs (.ref z) "zip" := ⟨_, hz, rfl⟩
  unfold Builtin.SmallTypes.nextOf
  exact wpAny_bind (wpAny_callSpecial?_slot (name := Str.ofString "__next__") ty F.slot_zip_next (wpAny_call_entry F.slot_zip_next ty F.entry_zip_next (wpAny_mono h (fun fin s' ⟨v, e, q⟩ => ⟨v, e, wpAny_pure q⟩) fun _ _ q => q) (F.args_zip_next_1 _)))
end
/-- the state of a zip that an enumerate draws from -/
def ZFree (h : Heap) (z TI TO : Addr) (st : Bool) : Prop := ∃ (f0 : Value) (fl : Bool), (f0 = .none ∨ ∃ T : Addr, f0 = rawInt T) ∧ ZAt h z TI TO f0 fl st
section
variable {prog : Program} {w : World} {A : Around} {E : Value → Shared → Prop} {s : Shared} {z TI TO i1 i2 : Addr} {fp1 fp2 : List Addr} {n1 n2 i : Nat} {P1 P2 : Nat → Value → Prop} {St1 St2 : Nat → Heap → Prop} {a1 a2 : Value} {st : Bool}
theorem zf_item {Q : Value → Shared → Prop} (S : ZipSep2 z TI TO i1 i2 fp1 fp2) (D1 : Draws prog w A.in1 i1 fp1 n1 P1 St1) (D2 : Draws prog w A.in1 i2 fp2 n2 P2 St2)
    (hz : ZFree s.heap z TI TO st) (hTI : IsTupOf2 s.heap TI (.ref i1) (.ref i2)) (hTO : IsTupOf2 s.heap TO a1 a2) (st1 : St1 i s.heap) (st2 : St2 i s.heap) (hlt1 : i < n1) (hlt2 : i < n2)
    (hQ : ∀ x1 x2 h' tk, P1 i x1 → P2 i x2 → ZFree h' z TI TO st → (∃ y1 y2, IsTupOf2 h' TO y1 y2) → St1 (i + 1) h' → St2 (i + 1) h' → IsTupOf2 h' s.heap.objs.size x1 x2 → h'.objs.size = s.heap.objs.size + 1 →
      (∀ c o, c ≠ z → c ≠ TO → c ≠ i1 → c ≠ i2 → s.heap.get? c = some o → h'.get? c = some o) → Q (.ref s.heap.objs.size) { s with heap := h', toks := tk }) :
    wpAny (model prog w) A (Builtin.SmallTypes.nextOf (.ref z)) Q E s := by
  obtain ⟨f0, fl, hf, hz⟩ := hz
  refine nextOf_zip hz ?_
  have free : FreeZ s.heap f0 → wpAny (model prog w) A.in1 (Builtin.«zip.__next__» ⟨[.ref z], []⟩) (fun fin s' => ∃ v, fin = .done (.ret v) ∧ Q v s') E s := fun hfz =>
    zs_item S D1 D2 hz hfz hTI hTO st1 st2 hlt1 hlt2 fun x1 x2 h' tk p1 p2 b1 b2 d1 d2 b5 b6 b7 => hQ x1 x2 h' tk p1 p2 ⟨_, _, .inr ⟨_, rfl⟩, b1⟩ ⟨_, _, b2⟩ d1 d2 b5 b6 b7
  rcases hf with rfl | ⟨T, rfl⟩
  · exact free (.inl rfl)
  · cases hT : s.heap.get? T with
    | none => exact free (.inr ⟨T, rfl, hT⟩)
    | some oT =>
      refine zh_item S D1 D2 hz hT hTI st1 st2 hlt1 hlt2 fun x1 x2 h' tk p1 p2 b1 d1 d2 b5 b6 b7 => hQ x1 x2 h' tk p1 p2 ⟨_, _, .inr ⟨_, rfl⟩, b1⟩ ⟨_, _, b7 _ _ S.TOz S.Ti1 S.Ti2 hTO⟩ d1 d2 b5 b6 fun c o c1 _ c3 c4 e => b7 c o c1 c3 c4 e
theorem zf_end {Q : Value → Shared → Prop} (hh : A.handled = none) (S : ZipSep2 z TI TO i1 i2 fp1 fp2) (D1 : Draws prog w A.in1 i1 fp1 n1 P1 St1) (D2 : Draws prog w A.in1 i2 fp2 n2 P2 St2)
    (hz : ZFree s.heap z TI TO st) (hTI : IsTupOf2 s.heap TI (.ref i1) (.ref i2)) (hTO : IsTupOf2 s.heap TO a1 a2) (st1 : St1 i s.heap) (st2 : St2 i s.heap) (hle1 : i ≤ n1) (hle2 : i ≤ n2) (hend : i = n1 ∨ i = n2) (hS : st = true → n1 = n2)
    (hE : ∀ h' tk e, (∀ c o, c ≠ z → c ≠ TO → c ≠ i1 → c ≠ i2 → s.heap.get? c = some o → h'.get? c = some o) → (∃ o, h'.get? e = some o ∧ o.cls = .type "StopIteration") → E (.ref e) { s with heap := h', toks := tk }) :
    wpAny (model prog w) A (Builtin.SmallTypes.nextOf (.ref z)) Q E s := by
  obtain ⟨f0, fl, hf, hz⟩ := hz
  refine nextOf_zip hz ?_
  have free : FreeZ s.heap f0 → wpAny (model prog w) A.in1 (Builtin.«zip.__next__» ⟨[.ref z], []⟩) (fun fin s' => ∃ v, fin = .done (.ret v) ∧ Q v s') E s := fun hfz =>
    zs_end hh S D1 D2 hz hfz hTI hTO st1 st2 hle1 hle2 hend hS hE
  rcases hf with rfl | ⟨T, rfl⟩
  · exact free (.inl rfl)
  · cases hT : s.heap.get? T with
    | none => exact free (.inr ⟨T, rfl, hT⟩)
    | some oT => exact zh_end hh S D1 D2 hz hT hTI st1 st2 hle1 hle2 hend hS fun h' tk e hk he => hE h' tk e (fun c o c1 _ c3 c4 x => hk c o c1 c3 c4 x) he
end
/-- enumerate(zip(a, b)): a new pair within a new pair -/
def Iteq (K : Fg) (t1 t2 : Bool) (a b : Addr) (st : Bool) (bs : Nat → Bool) : It :=
  ⟨fun i H => ∃ (xs ys : List V) (x y : V), Sqq K t1 H a xs ∧ Sqq K t2 H b ys ∧ xs[i]? = some x ∧ ys[i]? = some y,
    fun i H v H' => ∃ (T T2 : Addr) (x y : V) (o : Obj), o.dict = none ∧ v = .ref T2 ∧ H T = none ∧ upd H T (tupO (bs i) o [x, y]) T2 = none ∧ H' = upd (upd H T (tupO (bs i) o [x, y])) T2 (.tup [.int (i : Nat), .ref T]) ∧ (∀ xs, Sqq K t1 H a xs → xs[i]? = some x) ∧ ∀ ys, Sqq K t2 H b ys → ys[i]? = some y,
    fun i H => ∃ xs ys : List V, Sqq K t1 H a xs ∧ Sqq K t2 H b ys ∧ i ≤ xs.length ∧ i ≤ ys.length ∧ (i = xs.length ∨ i = ys.length) ∧ (st = true → xs.length = ys.length)⟩
theorem turn_eq {bs : Nat → Bool} {P : Program} {w : World} {K : Fg} {elts : List Expr} {kk : Nat} {tpos : Pos} {t1 t2 st : Bool} {a b e z TI TO i1 i2 : Addr} (S : ZipSep2 z TI TO i1 i2 [i1, a] [i2, b]) (n1 : a ≠ i1) (n2 : b ≠ i2) (ez : e ≠ z) (eTO : e ≠ TO) (e1 : e ≠ i1) (e2 : e ≠ i2) (eTI : e ≠ TI) :
    Turn P w K (.Tuple elts kk tpos) (Iteq K t1 t2 a b st bs) [e, z, TI, TO, i1, i2] e (fun i h => (∃ old, IsEnum h e z ((i : Nat) : Int) old) ∧ ZFree h z TI TO st ∧ IsTupOf2 h TI (.ref i1) (.ref i2) ∧ (∃ x y, IsTupOf2 h TO x y) ∧ ItAt t1 h i1 a i ∧ ItAt t2 h i2 b i) where
  mem := by simp
  obj := fun i h ⟨⟨old, he⟩, ⟨f0, fl, _, hz⟩, hTI, ⟨x, y, hTO⟩, h1, h2⟩ c hc => by
    have e' : c = e ∨ c = z ∨ c = TI ∨ c = TO ∨ c = i1 ∨ c = i2 := by simpa using hc
    rcases e' with q | q | q | q | q | q <;> subst q
    · exact ⟨_, he, fun v q => nomatch q⟩
    · exact ⟨_, hz, fun v q => nomatch q⟩
    · exact ⟨_, hTI, fun v q => nomatch q⟩
    · exact ⟨_, hTO, fun v q => nomatch q⟩
    · exact h1.obj
    · exact h2.obj
  keep := fun i h h' ⟨⟨old, he⟩, ⟨f0, fl, hf, hz⟩, hTI, ⟨x, y, hTO⟩, h1, h2⟩ k =>
    ⟨⟨old, k e (by simp) _ he⟩, ⟨f0, fl, hf, k z (by simp) _ hz⟩, k TI (by simp) _ hTI, ⟨x, y, k TO (by simp) _ hTO⟩, h1.at fun o q => k i1 (by simp) o q, h2.at fun o q => k i2 (by simp) o q⟩
  item := by
    intro X hP hw hK hc i pins s σ H E I hf stt hg
    subst hP hw hK
    obtain ⟨⟨old, he⟩, hz, hTI, ⟨x0, y0, hTO⟩, h1, h2⟩ := stt
    obtain ⟨xs, ys, x, y, hqx, hqy, hx, hy⟩ := hg
    obtain ⟨its, rv, p⟩ := hqx.at I
    obtain ⟨its2, rv2, p2⟩ := hqy.at I
    obtain ⟨u, hu, ru⟩ := rv.get hx
    obtain ⟨u2, hu2, ru2⟩ := rv2.get hy
    have hel : e < s.heap.objs.size := Heap.lt_size he
    have hd := I.ok.hd hc
    have k1 : its.toArray[i]? = some u := by simpa using hu
    have k2 : its2.toArray[i]? = some u2 := by simpa using hu2
    refine en_next he ?_
    refine zf_item (A := X.A.in1) S (drawsQ (prog := X.prog) (w := X.w) (A := X.A.in1.in1) t1 hd i1 a n1 its.toArray) (drawsQ (prog := X.prog) (w := X.w) (A := X.A.in1.in1) t2 hd i2 b n2 its2.toArray) hz hTI hTO ⟨h1, p⟩ ⟨h2, p2⟩ (Array.getElem?_eq_some_iff.mp k1).1 (Array.getElem?_eq_some_iff.mp k2).1 fun v1 v2 m1 tk g1 g2 z' TO' h1' h2' hT hsz hk => ?_
    rw [k1] at g1; cases g1
    rw [k2] at g2; cases g2
    refine ⟨hk _ _ ez eTO e1 e2 he, fun m2 eo hT2 hsz2 hk2 => ⟨_, rfl, wpAny_letOwnedTupleGo_enum (s := { s with heap := m2, toks := tk + 1 }) eo fun m3 e3 sb => ?_⟩⟩
    have hT' : IsTupOf2 m1 s.heap.objs.size u u2 := hT
    have new1 : ObjOk X.prog X.w (upd H s.heap.objs.size (tupO (bs i) { cls := .type "tuple", data := .seq #[u, u2] } [x, y])) m1 s.heap.objs.size (tupO (bs i) { cls := .type "tuple", data := .seq #[u, u2] } [x, y]) := ok_tupO hT' ⟨by show 2 ≤ sizeLine; decide, [u, u2], .cons ru (.cons ru2 .nil), ⟨_, hT', rfl, _, rfl⟩⟩
    have fT : H s.heap.objs.size = none := I.hok.fresh (Nat.le_refl _)
    have I1 : Inv X pins σ (upd H s.heap.objs.size (tupO (bs i) { cls := .type "tuple", data := .seq #[u, u2] } [x, y])) { s with heap := m1, toks := tk } :=
      I.turnedNew (t' := tk) (ch := [z, TI, TO, i1, i2]) (fun c o hb q => hk c o (fun q' => hb (by simp [q'])) (fun q' => hb (by simp [q'])) (fun q' => hb (by simp [q'])) (fun q' => hb (by simp [q'])) q) (fun c hc => hf c (List.mem_cons_of_mem _ hc)) (Nat.le_refl _) new1
    have hm1 : m1.objs.size = s.heap.objs.size + 1 := hsz
    have fT2 : upd H s.heap.objs.size (tupO (bs i) { cls := .type "tuple", data := .seq #[u, u2] } [x, y]) m1.objs.size = none := I1.hok.fresh (Nat.le_refl _)
    have hne2 : m1.objs.size ≠ e := by
      rw [hm1]
      exact fun q => absurd hel (by rw [← q]; exact Nat.not_lt.mpr (Nat.le_succ _))
    have hT3 : m3.get? m1.objs.size = some { cls := .type "tuple", data := .seq #[.int (i : Nat) tk, .ref s.heap.objs.size] } := (sb.2 _ hne2).trans hT2
    have new2 : ObjOk X.prog X.w (upd (upd H s.heap.objs.size (tupO (bs i) { cls := .type "tuple", data := .seq #[u, u2] } [x, y])) m1.objs.size (.tup [.int (i : Nat), .ref s.heap.objs.size])) m3 m1.objs.size (.tup [.int (i : Nat), .ref s.heap.objs.size]) :=
      ⟨by show 2 ≤ sizeLine; decide, [.int (i : Nat) tk, .ref s.heap.objs.size], .cons ⟨_, rfl⟩ (.cons rfl .nil), ⟨_, hT3, rfl, _, rfl⟩⟩
    have fe : FpOk X pins (upd H s.heap.objs.size (tupO (bs i) { cls := .type "tuple", data := .seq #[u, u2] } [x, y])) e := by
      obtain ⟨q0, q1⟩ := hf e (by simp)
      exact ⟨by rw [upd_ne (Nat.ne_of_lt hel)]; exact q0, q1⟩
    have I2 : Inv X pins σ (upd (upd H s.heap.objs.size (tupO (bs i) { cls := .type "tuple", data := .seq #[u, u2] } [x, y])) m1.objs.size (.tup [.int (i : Nat), .ref s.heap.objs.size])) { s with heap := m3, toks := tk + 1 } :=
      I1.turnedNew (t' := tk + 1) (ch := [e]) (fun c o hb q => (sb.2 c (fun q' => hb (by simp [q']))).trans (hk2 c o (fun q' => hb (by simp [q'])) q)) (fun c hc => by rw [List.mem_singleton.mp hc]; exact fe) (Nat.le_refl _) new2
    have up : ∀ c o, c ≠ e → m1.get? c = some o → m3.get? c = some o := fun c o ne q => (sb.2 c ne).trans (hk2 c o ne q)
    refine ⟨.ref m1.objs.size, _, I2, rfl, ⟨_, _, x, y, _, rfl, rfl, fT, fT2, rfl, fun l hl => by rw [hl.inj I hqx]; exact hx, fun l hl => by rw [hl.inj I hqy]; exact hy⟩, ⟨⟨.ref s.heap.objs.size, ?_⟩, ?_, ?_, ?_, ?_, ?_⟩, fun c hcm => ?_⟩
    · have q : ((i + 1 : Nat) : Int) = (i : Int) + 1 := by omega
      rw [q]; exact e3
    · obtain ⟨f0, fl, hf0, hz0⟩ := z'
      exact ⟨f0, fl, hf0, up _ _ ez.symm hz0⟩
    · exact up _ _ eTI.symm (hk _ _ S.TIz S.TITO S.TIi1 S.TIi2 hTI)
    · obtain ⟨y1, y2, hy0⟩ := TO'
      exact ⟨y1, y2, up _ _ eTO.symm hy0⟩
    · exact h1'.1.at fun o q => up _ _ e1.symm q
    · exact h2'.1.at fun o q => up _ _ e2.symm q
    · have hlt : c < s.heap.objs.size := by
        obtain ⟨o1, q1, _⟩ := h1.obj
        obtain ⟨o2, q2, _⟩ := h2.obj
        obtain ⟨f0, fl, _, hz0⟩ := hz
        have e' : c = e ∨ c = z ∨ c = TI ∨ c = TO ∨ c = i1 ∨ c = i2 := by simpa using hcm
        rcases e' with q | q | q | q | q | q <;> subst q
        · exact hel
        · exact Heap.lt_size hz0
        · exact Heap.lt_size hTI
        · exact Heap.lt_size hTO
        · exact Heap.lt_size q1
        · exact Heap.lt_size q2
      have hc1 : c ≠ m1.objs.size := by
        rw [hm1]
        exact fun q => absurd hlt (by rw [q]; exact Nat.not_lt.mpr (Nat.le_succ _))
      rw [upd_ne hc1, upd_ne (Nat.ne_of_lt hlt)]
      exact (hf c hcm).1
  done := by
    intro X hP hw hK hc i pins s σ H E I hf stt hg
    subst hP hw hK
    obtain ⟨⟨old, he⟩, hz, hTI, ⟨x0, y0, hTO⟩, h1, h2⟩ := stt
    obtain ⟨xs, ys, hqx, hqy, le1, le2, hend, hst⟩ := hg
    obtain ⟨its, rv, p⟩ := hqx.at I
    obtain ⟨its2, rv2, p2⟩ := hqy.at I
    have l1 := rv.length
    have l2 := rv2.length
    have hd := I.ok.hd hc
    refine en_next he ?_
    refine zf_end (A := X.A.in1) hd S (drawsQ (prog := X.prog) (w := X.w) (A := X.A.in1.in1) t1 hd i1 a n1 its.toArray) (drawsQ (prog := X.prog) (w := X.w) (A := X.A.in1.in1) t2 hd i2 b n2 its2.toArray) hz hTI hTO ⟨h1, p⟩ ⟨h2, p2⟩ (by simp; omega) (by simp; omega) (by simp; omega) (fun z => by have := hst z; simp; omega) fun h' tk er hk he2 => ?_
    obtain ⟨o, ho, hco⟩ := he2
    refine ⟨er, o, rfl, ho, hco, rfl, ?_⟩
    exact I.turnedL (t' := tk) (ch := [z, TI, TO, i1, i2]) (fun c o hb q => hk c o (fun q' => hb (by simp [q'])) (fun q' => hb (by simp [q'])) (fun q' => hb (by simp [q'])) (fun q' => hb (by simp [q'])) q) fun c hc => hf c (List.mem_cons_of_mem _ hc)
  self := fun A i s Q E stt h => by
    obtain ⟨⟨old, he⟩, _⟩ := stt
    exact wpAny_pyIter_enum he h
end Mi
/-! text MiO -/
set_option Elab.async false
set_option linter.all false
set_option maxRecDepth 100000
set_option maxHeartbeats 8000000
/-! MiO: for i, (a, b) in enumerate(zip(..)), for i, a in enumerate(..). -/
namespace Mi
open PySem PySem.Spec PyProof.Rows L2

theorem meets_enumZ {z TI TO : Addr} {f0 : Value} {fl st : Bool} :
    Meets (Builtin.«enumerate.__new__» ⟨[.type "enumerate", .ref z], []⟩) (fun _ R s => ZAt s.heap z TI TO f0 fl st ∧ R (.ok (.ret (.ref s.heap.objs.size))) { s with heap := s.heap.push { cls := .type "enumerate", data := .fields #[.none, .bool false, .ref z, rawInt 0, .none, .none] } }) :=
  .of_wp fun prog w A R s h => by
    obtain ⟨hp, g, d, tk, os⟩ := s
    obtain ⟨h1, h⟩ := h
    have hsub := sub_enumerate
    have q1 : ∀ {A' : Around} {E : Value → Shared → Prop} {Q : Value → Shared → Prop}, Q (.ref z) ⟨hp, g, d, tk, os⟩ → wpAny (model prog w) A' (pyIter (.ref z)) Q E ⟨hp, g, d, tk, os⟩ := fun q => zs_iter (s := ⟨hp, g, d, tk, os⟩) h1 q
    wp_walk using q1
    refine wpAny_stack_any fun st => wpAny_pure ?_
    split
    · rename_i c _ _ _ _ _
      cases (c == Value.type "enumerate")
      · wp_walk using q1
        exact ⟨_, rfl, h⟩
      · wp_walk using q1
        exact ⟨_, rfl, h⟩
    · wp_walk using q1
      exact ⟨_, rfl, h⟩
theorem meets_enumB {v : Value} {o : Obj} {H : Heap → Prop} (B : Begins v o H) :
    Meets (Builtin.«enumerate.__new__» ⟨[.type "enumerate", v], []⟩) (fun _ R s => H s.heap ∧ R (.ok (.ret (.ref (s.heap.push o).objs.size))) { s with heap := (s.heap.push o).push { cls := .type "enumerate", data := .fields #[.none, .bool false, .ref s.heap.objs.size, rawInt 0, .none, .none] } }) :=
  .of_wp fun prog w A R s h => by
    obtain ⟨hp, g, d, tk, os⟩ := s
    obtain ⟨h1, h⟩ := h
    have hsub := sub_enumerate
    have q1 : ∀ {A' : Around} {E : Value → Shared → Prop} {Q : Value → Shared → Prop}, Q (.ref hp.objs.size) ⟨hp.push o, g, d, tk, os⟩ → wpAny (model prog w) A' (pyIter v) Q E ⟨hp, g, d, tk, os⟩ := fun q => B.iter prog w _ _ ⟨hp, g, d, tk, os⟩ _ h1 q
    wp_walk using q1
    refine wpAny_stack_any fun st => wpAny_pure ?_
    split
    · rename_i c _ _ _ _ _
      cases (c == Value.type "enumerate")
      · wp_walk using q1
        exact ⟨_, rfl, h⟩
      · wp_walk using q1
        exact ⟨_, rfl, h⟩
    · wp_walk using q1
      exact ⟨_, rfl, h⟩
section
variable {prog : Program} {w : World} {A : Around} {E : Value → Shared → Prop} {s : Shared}
theorem enz_begin {z TI TO : Addr} {f0 : Value} {fl st : Bool} {Q : Value → Shared → Prop} (hz : ZAt s.heap z TI TO f0 fl st) (h : ∀ h', IsEnum h' s.heap.objs.size z 0 .none → (∀ b o, s.heap.get? b = some o → h'.get? b = some o) → Q (.ref s.heap.objs.size) { s with heap := h' }) :
    wpAny (model prog w) A (call (.type "enumerate") [.ref z]) Q E s := by
  refine callType_new F.called_enumerate (by decide) (F.typeCall_enumerate_1 _) (F.newCall_enumerate_1 _) (fun obj => F.args_object_init_2 obj _) F.entry_enumerate_new meets_enumZ ⟨hz, ?_⟩
  have he : IsEnum (s.heap.push { cls := .type "enumerate", data := .fields #[.none, .bool false, .ref z, rawInt 0, .none, .none] }) s.heap.objs.size z 0 .none := Heap.get?_push_size _ rfl
  exact ⟨⟨_, he, rfl⟩, h _ he fun b o x => Heap.get?_push_of_some _ x⟩
theorem enq_begin {v : Value} {o : Obj} {H : Heap → Prop} {Q : Value → Shared → Prop} (B : Begins v o H) (h1 : H s.heap) (h : ∀ h', IsEnum h' (s.heap.objs.size + 1) s.heap.objs.size 0 .none → h'.get? s.heap.objs.size = some o → (∀ b o, s.heap.get? b = some o → h'.get? b = some o) → Q (.ref (s.heap.objs.size + 1)) { s with heap := h' }) :
    wpAny (model prog w) A (call (.type "enumerate") [v]) Q E s := by
  refine callType_new F.called_enumerate (by decide) (F.typeCall_enumerate_1 _) (F.newCall_enumerate_1 _) (fun obj => F.args_object_init_2 obj _) F.entry_enumerate_new (meets_enumB B) ⟨h1, ?_⟩
  have hz : (s.heap.push o).objs.size = s.heap.objs.size + 1 := Heap.size_push ..
  show _ ∧ _
  rw [hz]
  have he : IsEnum ((s.heap.push o).push { cls := .type "enumerate", data := .fields #[.none, .bool false, .ref s.heap.objs.size, rawInt 0, .none, .none] }) (s.heap.objs.size + 1) s.heap.objs.size 0 .none := by
    have q := Heap.get?_push_size (s.heap.push o) (o := { cls := .type "enumerate", data := .fields #[.none, .bool false, .ref s.heap.objs.size, rawInt 0, .none, .none] }) rfl
    rw [hz] at q; exact q
  exact ⟨⟨_, he, rfl⟩, h _ he (Heap.get?_push_of_some _ (Heap.get?_push_size _ B.free)) fun b o x => Heap.get?_push_of_some _ (Heap.get?_push_of_some _ x)⟩
end
def enumD (xs : List D) : List D := List.zipWith (fun (i : Nat) x => .tuple [.int i, x]) (List.range xs.length) xs
section
variable {K : Fg} {P G H : Hp} {σ : L2.St} {F : Nat → List Addr}
theorem enumD_len (xs : List D) : (enumD xs).length = xs.length := by unfold enumD; simp
theorem enumD_get {xs : List D} {i : Nat} {d : D} (h : xs[i]? = some d) : (enumD xs)[i]? = some (.tuple [.int i, d]) := by
  have hi := (List.getElem?_eq_some_iff.mp h).1
  unfold enumD
  rw [List.getElem?_zipWith, h, List.getElem?_range hi]
theorem itr_ez {t1 t2 st : Bool} {a b : Addr} {xs ys : List D} {vs us : List V} (h1 : SqG K G t1 a vs xs) (r1 : RDs K G xs vs) (h2 : SqG K G t2 b us ys) (r2 : RDs K G ys us)
    (hst : st = true → xs.length = ys.length) : ItR K P G H σ F (enumD (zipD xs ys)) (Iteq K t1 t2 a b st (bsq xs ys)) := fun G1 H1 e1 e2 => by
  have q1 : Sqq K t1 H1 a vs := Sqq.of (h1.mono (e1.trans e2))
  have q2 : Sqq K t2 H1 b us := Sqq.of (h2.mono (e1.trans e2))
  have l1 := r1.length
  have l2 := r2.length
  have lz := zipD_len xs ys
  have le := enumD_len (zipD xs ys)
  refine ⟨fun i hi => ?_, ⟨vs, us, q1, q2, by omega, by omega, by omega, fun z => by have := hst z; omega⟩, fun i x H' hi ⟨T, T2, x1, y1, ob, hd, ex, hT, hT2, eH, g1, g2⟩ => ?_⟩
  · have hi1 : i < vs.length := by omega
    have hi2 : i < us.length := by omega
    exact ⟨vs, us, vs[i], us[i], q1, q2, List.getElem?_eq_getElem hi1, List.getElem?_eq_getElem hi2⟩
  · subst ex eH
    obtain ⟨d1, k1, k2⟩ := r1.get' (g1 vs q1)
    obtain ⟨d2, k3, k4⟩ := r2.get' (g2 us q2)
    have eb : bsq xs ys i = pairy [d1, d2] := by unfold bsq; rw [k1, k3]
    rw [eb] at hT2 ⊢
    have gA := Grow.newG (o := tupO (pairy [d1, d2]) ob [x1, y1]) e2 hT
    have gB := Grow.newG (o := .tup [.int (i : Nat), .ref T]) gA.sub hT2
    refine ⟨_, .tuple [.int i, .tuple [d1, d2]], enumD_get ?_, gA.trans gB, ?_⟩
    · unfold zipD
      rw [List.getElem?_zipWith, k1, k3]
    · refine .tup (.pl rfl upd_same) (.cons (.int _) (.cons (.tup (.of hd (gB.gg _ _ upd_same)) (.cons (k2.mono (e1.trans (gA.gg.trans gB.gg))) (.cons (k4.mono (e1.trans (gA.gg.trans gB.gg))) .nil))) .nil))
end
section
variable {X : Cx} {W : WX} {e e2 : Expr} {es : List Expr} {ms : Env' → R (List EV)} {p pos pos2 p2 tpos kp cp : Pos} {elts : List Expr} {kk : Nat} {j : Nat}
def ez2 (st : Bool) (es : List EV) : Option (List D) := (zip2 st es).map enumD
theorem pi_ez {st : Option Bool} {ta : TA} (hg : Gl X "zip") (hm : X.mg "zip" = none) (hg2 : Gl X "enumerate") (hm2 : X.mg "enumerate" = none) (ha : PA X [e, e2] ta)
    (hs : starEach [e, e2] X.env = (false, eval e X.env) :: starEach [e2] X.env := by rfl) (hpl : (backTo pos (starEach [e, e2] X.env)).any (·.1) = false := by rfl)
    (hs2 : starEach [.Call (.Name "zip" p) [e, e2] (keysOf st kp j cp) pos] X.env = [(false, eval (.Call (.Name "zip" p) [e, e2] (keysOf st kp j cp) pos) X.env)] := by rfl) :
    PI X (.Tuple elts kk tpos) (.Call (.Name "enumerate" p2) [.Call (.Name "zip" p) [e, e2] (keysOf st kp j cp) pos] [] pos2) (fun σ H R => ta σ H fun vs H1 => ∃ t1 t2 a b xs ys, vs = [.ref a, .ref b] ∧ Sqq X.K t1 H1 a xs ∧ Sqq X.K t2 H1 b ys ∧ ∃ bs, R (Iteq X.K t1 t2 a b (st.getD false) bs) H1) := by
  refine ⟨fun pins s σ H R I h => ?_⟩
  refine Call_ (ld_blt I hg2 hm2 boot_enumerate (PyProof.Rows.callWith_type1 ?_ hs2 rfl))
  rw [hs2]
  refine Calls.spliced_cons (zip_eval hg hm ha I h (fun t1 t2 a b H1 s1 z TI TO i1 i2 ⟨bs, q⟩ I1 sep n1 n2 tn fp => ?_) hs hpl)
  refine Calls.spliced_nil ?_
  obtain ⟨hz, hTI, hTO, k1, k2⟩ := tn
  refine enz_begin hz fun h' he hk => wpAny_pyIter_enum (s := { s1 with heap := h' }) he ?_
  have I2 : Inv X pins σ H1 { s1 with heap := h' } := I1.kept (t' := s1.toks) hk
  have lt : ∀ {c : Addr} {o : Obj}, s1.heap.get? c = some o → s1.heap.objs.size ≠ c := fun q => Nat.ne_of_gt (Heap.lt_size q)
  obtain ⟨x0, y0, hTO⟩ := hTO
  obtain ⟨o1, q1, _⟩ := k1.obj
  obtain ⟨o2, q2, _⟩ := k2.obj
  refine ⟨s1.heap.objs.size, [s1.heap.objs.size, z, TI, TO, i1, i2], _, _, H1, rfl, I2, turn_eq sep n1 n2 (lt hz) (lt hTO) (lt q1) (lt q2) (lt hTI), ⟨⟨.none, he⟩, ⟨_, _, .inl rfl, hk _ _ hz⟩, hk _ _ hTI, ⟨x0, y0, hk _ _ hTO⟩, k1.at fun o q => hk _ _ q, k2.at fun o q => hk _ _ q⟩, fun c hc => ?_, q⟩
  rcases List.mem_cons.mp hc with z | hc
  · rw [z]; exact I1.fpOk (Nat.le_refl _) (I1.hok.fresh (Nat.le_refl _))
  · exact fp c hc
/-- enumerate(zip(a, b, ..)) -/
theorem ai_ez {st : Option Bool} (hg : Gl X "zip") (hm : X.mg "zip" = none) (hg2 : Gl X "enumerate") (hm2 : X.mg "enumerate" = none) (ha : AA X W ms [e, e2])
    (hs : starEach [e, e2] X.env = (false, eval e X.env) :: starEach [e2] X.env := by rfl) (hpl : (backTo pos (starEach [e, e2] X.env)).any (·.1) = false := by rfl)
    (hs2 : starEach [.Call (.Name "zip" p) [e, e2] (keysOf st kp j cp) pos] X.env = [(false, eval (.Call (.Name "zip" p) [e, e2] (keysOf st kp j cp) pos) X.env)] := by rfl) :
    AI X W (iCall (ez2 (st.getD false)) ms) (.Tuple elts kk tpos) (.Call (.Name "enumerate" p2) [.Call (.Name "zip" p) [e, e2] (keysOf st kp j cp) pos] [] pos2) := by
  refine (pi_ez hg hm hg2 hm2 ha hs hpl hs2).imp fun σ H Q ⟨P, B, G, ρ, F, s, h⟩ => ⟨P, B, G, ρ, F, s, (Po.bind (rel := EvRs X.K) h).imp fun ws H1 ⟨G1, ρ1, F1, e1, _, s1, r1, h1⟩ => ?_⟩
  have h2 : Po (ItR X.K) X.K W P B G1 σ (R.ofO (ez2 (st.getD false) e1) ρ1) Q := h1
  unfold ez2 zip2 at h2
  split at h2
  · rename_i a b
    obtain ⟨w, u, rfl, r2, r3⟩ := r1.two
    split at h2
    · rename_i t1 xs t2 ys q1 q2
      split at h2
      · exact h2.elim
      · rename_i hst
        obtain ⟨l1, vs, rfl, g1, k1⟩ := RD.sq (d := a) r2 q1
        obtain ⟨l2, us, rfl, g2, k2⟩ := RD.sq (d := b) r3 q2
        have hst' : st.getD false = true → xs.length = ys.length := fun z => by
          by_cases hl : xs.length = ys.length
          · exact hl
          · exact absurd ⟨z, hl⟩ hst
        exact ⟨t1, t2, l1, l2, vs, us, rfl, Sqq.of (g1.mono s1.sub), Sqq.of (g2.mono s1.sub), _, h2 G1 H1 F1 _ (Same.refl _) s1 (itr_ez g1 k1 g2 k2 hst')⟩
    · exact h2.elim
  · exact h2.elim
end
end Mi
/-! text MiP -/
set_option Elab.async false
set_option linter.all false
set_option maxRecDepth 100000
set_option maxHeartbeats 8000000
/-! MiP: a law's end. -/
namespace Mi
open PySem PySem.Spec PyProof.Rows L2

theorem rm_caller {k : Nat} (h : k ≤ 200) : Rm k callerA :=
  ⟨⟨rfl, show 301 + 3 * k + 5 < 1000 by omega, show 4 + 16 * k + 200 < 9900 by omega⟩, rfl, show 4 + 16 * k + 3000 < 9900 by omega⟩
/-- the law's def is called with the script -/
theorem lawG {P : Program} {w : World} {K : Fg} {mg mb : Str → Option Value} {k : Nat} {fa a : Addr} {fd : FuncData} {x : Str} {fm : List SV → RF} {t0 : Shared} {vs : List Value} {ns : List Int}
    (kin : K.In t0.heap) (g1 : t0.heap.Ns mainGlobals mg) (g2 : t0.heap.Ns builtinsNs mb) (g3 : ∀ y : Str, y ≠ "__name__" → mb y = bootBuiltins y) (lim : t0.heap.NoLimit) (gn : t0.gens = #[])
    (la : t0.heap.get? a = some { cls := .type "list", data := .seq vs.toArray }) (iv : IntsAre vs ns) (hl : ns.length ≤ sizeLine) (hr : Rm k callerA)
    (F : ∀ base : Heap, K.In base → base.Ns mainGlobals mg → FnG P w K mg base k fa fd [x] (spF K 1 fm)) (bnd : ∀ (s : Shared) (u : Value), BindsTo s fd ⟨[u], []⟩ [(x, u)])
    (hfm : ∃ bs, fm [.scr ns] = .ok (.d (.bool true)) bs) :
    codeAny (model P w) callerA (.call (.ref fa) ⟨[.ref a], []⟩) (fun r s' => r = .ok (.ret (.bool true)) ∧ OldK t0.heap s'.heap ∧ s'.os = t0.os ∧ AllBare s'.gens) t0 := by
  have lv := iv.length
  have rv : Vals (ns.map V.int) vs := vals_ints iv
  have main : ∀ H : Hp, Only H → SqL K H a (ns.map V.int) → HOk P w H t0.heap → (∀ b, H b ≠ none → b = a) → (H a ≠ none → K.lookup a = none) →
      codeAny (model P w) callerA (.call (.ref fa) ⟨[.ref a], []⟩) (fun r s' => r = .ok (.ret (.bool true)) ∧ OldK t0.heap s'.heap ∧ s'.os = t0.os ∧ AllBare s'.gens) t0 := by
    intro H only sq ok at_ nk
    have dictOff : ∀ {b : Addr} {o : Obj} {es : Array DictEntry} {ep : Nat}, t0.heap.get? b = some o → o.data = .dict es ep → H b = none := fun {b o es ep} e d => by
      cases q : H b with
      | none => rfl
      | some u =>
        obtain rfl : b = a := at_ b (by simp [q])
        rw [la] at e
        cases e
        exact nomatch (show Data.seq vs.toArray _ = Data.dict es ep from d)
    have ns_ : ∀ {b : Addr} {m : Str → Option Value}, t0.heap.Ns b m → (hidT t0.heap H).Ns b m := fun {b m} ⟨o, es, ep, e, d, r⟩ => ⟨o, es, ep, hidT_get e (dictOff e d), d, r⟩
    have kb : K.In (hidT t0.heap H) := fun b o e => hidT_get (kin b o e) (by
      cases q : H b with
      | none => rfl
      | some u =>
        obtain rfl : b = a := at_ b (by simp [q])
        rw [nk (by simp [q])] at e
        cases e)
    have md : Mod K mg (hidT t0.heap H) := ⟨kb, ns_ g1, ⟨mb, ns_ g2, g3⟩, by
      obtain ⟨mc, q1, q2⟩ := lim
      exact ⟨mc, ns_ q1, q2⟩⟩
    have e0 : Env0 P w K mg (hidT t0.heap H) callerA [] t0 H := ⟨rfl, md, fun b o e => of_hidT e, Nat.le_of_eq (hidT_size _ _), trivial, fun b hb => absurd (show b ∈ ([] : List Addr) from hb) (by simp), ok, .of_eq gn⟩
    obtain ⟨bs, hfm⟩ := hfm
    have sp : spF K 1 fm [.ref a] H (fun v _ => v = .bl true) (fun _ _ _ => False) := by
      have fz : ∀ (b : Addr) (u : HO), H b = some u → ∃ o xs, u = .frz o (.lst xs) := fun b u e => by
        rcases only b with z | ⟨o, xs, z⟩
        · rw [e] at z; cases z
        · rw [e] at z; cases z; exact ⟨o, xs, rfl⟩
      refine ⟨rfl, fun _ => none, fun i => [V.ref a][i]?, H, fun _ => [], [.scr ns], ⟨fun b u e => e, fun b u e => (nomatch e), rfl, fun i sv e => ?_, fun i c hc => (nomatch hc), fun i j c hc => (nomatch hc), fun c hc => absurd rfl hc⟩, ?_⟩
      · cases i with
        | zero =>
          have e' : some (some (SV.scr ns)) = some (some sv) := e
          cases e'
          exact ⟨.ref a, rfl, ⟨⟨a, rfl, sq⟩, rfl⟩, fun z => nomatch z⟩
        | succ i =>
          have e' : (none : Option (Option SV)) = some (some sv) := e
          cases e'
      · rw [hfm]
        exact fun G' H' F' u _ _ r => RD.ofBool r
    refine codeAny_mono ((F _ kb (ns_ g1)).run callerA [] t0 H ⟨[.ref a], []⟩ [.ref a] [.ref a] _ _ hr e0 (bnd t0 (.ref a)) (.cons rfl .nil) sp) fun r s' h => ?_
    cases r with
    | error e =>
      obtain ⟨_, _, _, _, _, _, _, _, _, _, _, _, z⟩ := h
      exact False.elim z
    | ok fl =>
      cases fl with
      | next => exact False.elim h
      | brk => exact False.elim h
      | cont => exact False.elim h
      | ret u =>
        obtain ⟨v, H', os, bare, un, ok', r', q⟩ := h
        cases (show v = V.bl true from q)
        cases (show u = Value.bool true from r')
        refine ⟨rfl, OldK.of_keep fun b o e => ?_, os, bare⟩
        cases q : H b with
        | none => exact un.keep b o e q (by intro z; exact absurd (show b ∈ ([] : List Addr) from z) (by simp)) (by simp)
        | some u =>
          rcases only b with z | ⟨ob, xs, z⟩
          · rw [q] at z; cases z
          · have e1 := (ok b _ z).1
            have e2 := (ok' b _ (un.frzs b ob _ z)).1
            rw [e] at e1
            cases e1
            exact e2
  cases hk : K.lookup a with
  | some o =>
    have e := kin a o hk
    rw [la] at e
    cases e
    exact main (fun _ => none) (fun _ => .inl rfl) (.inr ⟨_, vs.toArray, _, hk, rfl, rfl, rfl, by rw [List.size_toArray, lv]; exact hl, by simpa using rv⟩) (fun b u z => nomatch (show (none : Option HO) = some u from z)) (fun b z => absurd rfl z) fun z => absurd rfl z
  | none =>
    have only1 : ∀ b, (if b = a then some (HO.frz { cls := .type "list", data := .seq vs.toArray } (.lst (ns.map V.int))) else none : Option HO) = none ∨ ∃ o xs, (if b = a then some (HO.frz { cls := .type "list", data := .seq vs.toArray } (.lst (ns.map V.int))) else none) = some (.frz o (.lst xs)) := fun b => by
      by_cases hb : b = a
      · exact .inr ⟨_, _, if_pos hb⟩
      · exact .inl (if_neg hb)
    refine main (fun b => if b = a then some (.frz { cls := .type "list", data := .seq vs.toArray } (.lst (ns.map V.int))) else none) only1 (.inl (.inr ⟨_, if_pos rfl⟩)) (fun b u z => ?_) (fun b z => ?_) fun _ => hk
    · by_cases hb : b = a
      · subst hb
        have z' := (if_pos rfl).symm.trans z
        cases z'
        exact ⟨la, by rw [List.length_map]; exact hl, vs, _, rv, la⟩
      · cases (if_neg hb).symm.trans z
    · by_cases hb : b = a
      · exact hb
      · exact absurd (if_neg hb) z
/-- a law, over a head by facts -/
theorem walkG {l : PySem.W.OpenLaw} {n k : Nat} {q : Program} {loose : List Str} {XP : (Str → Option Value) → Heap → Prop} {YP : World → Heap → Prop} {d : DefRec} {x : Str}
    (hn : l.most = some n) (hn2 : n ≤ sizeLine) (hdf : d.params.defaults = []) (hk : k ≤ 200) {fm : List SV → RF}
    (F : ∀ (w : World) (mg : Str → Option Value) (fa : Addr) (h : Heap), YP w h → h.Ns mainGlobals mg → mg d.name = some (.ref fa) →
      ∃ (K : Fg) (fd : FuncData), K.In h ∧ (∀ (s : Shared) (u : Value), BindsTo s fd ⟨[u], []⟩ [(x, u)]) ∧ ∀ base : Heap, K.In base → base.Ns mainGlobals mg → FnG l.prog w K mg base k fa fd [x] (spF K 1 fm))
    (hfm : ∀ ns : List Int, ns.length ≤ n → ∃ bs, fm [.scr ns] = .ok (.d (.bool true)) bs) :
    PySem.W.WalkO q loose XP YP l.row.toRowW d [] (fun f vs => PySem.call f vs) := by
  refine Att.attach_call hn hdf fun w s0 t0 mg mb fa o pm cd doc a vs ns G Y ho hd hcd hmg hobj hints hlen hg => ?_
  obtain ⟨K, fd, kin, hb, hF⟩ := F w mg fa _ Y G.T.g hmg
  exact lawG kin G.T.g G.T.b G.T.builtins G.T.nolimit hg hobj hints (Nat.le_trans hlen hn2) (rm_caller hk) hF hb (hfm ns hlen)
end Mi
/-! text MiQ -/
set_option Elab.async false
set_option linter.all false
set_option maxRecDepth 100000
set_option maxHeartbeats 8000000
/-! MiQ: what a text's defs promise, by name. -/
namespace Mi
open PySem PySem.Spec PyProof.Rows L2

/-- what a walk takes from the head: the names that the text makes, those that it leaves to Python, the defs -/
structure Wd (fa : List He.Fa) (fn : List He.DefD) (K : Fg) (mg : Str → Option Value) : Prop where
  says : He.SaysD fa fn K
  glo : ∀ (i : Nat) (x : Str), fa[i]? = some (He.Fa.glo x) → mg x = some (.ref (He.ga K x))
  free : ∀ (i : Nat) (x : Str), fa[i]? = some (He.Fa.free x) → mg x = none
  gint : ∀ (i : Nat) (x : Str) (k : Int), fa[i]? = some (He.Fa.int x k) → ∃ t, mg x = some (.int k t)
  gstr : ∀ (i : Nat) (x z : Str), fa[i]? = some (He.Fa.str x z) → ∃ t, mg x = some (.str z t)
theorem Wd.of {fa : List He.Fa} {fn : List He.DefD} {K : Fg} {h : Heap} {mg : Str → Option Value} (kin : K.In h) (g : h.Ns mainGlobals mg) (c : He.SaysD fa fn K) : Wd fa fn K mg :=
  ⟨c, fun i x e => He.glo_ok kin g (c.fact i e), fun i x e => He.free_ok kin g (c.fact i e), fun i x k e => He.int_ok kin g (c.fact i e), fun i x z e => He.str_ok kin g (c.fact i e)⟩
/-- the def x: n arguments, it computes fm, at a depth of at most k calls -/
def Cal (P : Program) (w : World) (K : Fg) (mg : Str → Option Value) (base : Heap) (x : Str) (n k : Nat) (fm : List SV → RF) : Prop :=
  ∃ (f : Addr) (fd : FuncData) (ps : List Str), mg x = some (.ref f) ∧ PySem.W.keepIn K (.ref f) = true ∧ Binds K fd ps [] ∧ ps.length = n ∧ FnG P w K mg base k f fd ps (spF K n fm)
theorem Cal.mono {P : Program} {w : World} {K : Fg} {mg : Str → Option Value} {base : Heap} {x : Str} {n j k : Nat} {fm : List SV → RF} (c : Cal P w K mg base x n j fm) (h : j ≤ k) : Cal P w K mg base x n k fm := by
  obtain ⟨f, fd, ps, h1, h2, h3, h4, h5⟩ := c
  exact ⟨f, fd, ps, h1, h2, h3, h4, h5.mono h⟩
theorem cal_of {P : Program} {w : World} {K : Fg} {mg : Str → Option Value} {base : Heap} {k : Nat} {f : Addr} {name qual : Str} {params : Arguments} {body : List Stmt} {scope : Scope} {kws : List (Str × V)} {fd : FuncData} {N ps : List Str} {mb : Env' → RS}
    (F : FunD K name qual params body scope [] kws f fd) (g : mg name = some (.ref f)) (S : FnScope N ps scope)
    (hbind : ∀ (kV doc pm : Value) (an : Option Addr) (cdv ct : Value) (us : List Value), us.length = ps.length → bindArgs (PySem.W.fnOf name qual params body scope .none kV doc pm an cdv ct) ⟨us, []⟩ = pure (ps.zip us))
    (hb : ∀ (cdv : Value) (A : Around) (outer : List Env) (st : Shared) (H : Hp) (E : XK), Rm k (A.deeper (envOfC qual scope st.heap.objs.size f cdv)) → ASs (cxG P w K mg base N qual scope f cdv A outer st H E) (fun cls d _ H => E cls d H) mb body) :
    Cal P w K mg base name ps.length (k + 1) (runF N.length mb) :=
  ⟨f, fd, ps, g, F.kp, F.bindsN hbind, rfl, FnG.run' F S hb⟩
section
variable {X : Cx} {W : WX} {k n : Nat} {x : Str} {p pos : Pos} {e : Expr} {es : List Expr} {fm : List SV → RF} {ms : Env' → R (List EV)}
theorem ae_cal (c : Cal X.prog X.w X.K X.mg X.base x n k fm) (hr : Rm k X.A) (hg : Gl X x) (tk : Takes X W) (ha : AA X W ms (e :: es)) (hdb : (x == ("__debug__" : Str)) = false := by decide)
    (he : starEach (e :: es) X.env = (false, eval e X.env) :: starEach es X.env := by rfl) (hpl : (backTo pos (starEach es X.env)).any (·.1) = false := by rfl) : AE X W (mFn n fm ms) (.Call (.Name x p) (e :: es) [] pos) := by
  obtain ⟨f, fd, ps, h1, h2, h3, h4, h5⟩ := c
  subst h4
  exact ae_fn h5 hr hg h1 h2 h3 tk ha hdb he hpl
theorem ae_cal0 (c : Cal X.prog X.w X.K X.mg X.base x n k fm) (hr : Rm k X.A) (hg : Gl X x) (tk : Takes X W) (hdb : (x == ("__debug__" : Str)) = false := by decide) : AE X W (fun ρ => callF n fm [] ρ) (.Call (.Name x p) [] [] pos) := by
  obtain ⟨f, fd, ps, h1, h2, h3, h4, h5⟩ := c
  subst h4
  exact ae_fn0 h5 hr hg h1 h2 h3 tk hdb
/-- nothing is raised in a block -/
theorem tkB : Takes X W0 := fun u s' ⟨_, _, _, _, _, _, _, _, _, _, _, _, _, _, _, _, w⟩ => w.elim
end
section
variable {P : Program} {w : World} {K : Fg} {mg : Str → Option Value} {base : Heap} {N : List Str} {qual : Str} {scope : Scope} {f : Addr} {cdv : Value} {A : Around} {outer : List Env} {st : Shared} {H : Hp} {E : XK}
theorem tkF : Takes (cxG P w K mg base N qual scope f cdv A outer st H E) (fun cls d _ H => E cls d H) := takes_of rfl rfl rfl rfl
theorem ppF : PassesOwn (model P w) (cxG P w K mg base N qual scope f cdv A outer st H E).A (cxG P w K mg base N qual scope f cdv A outer st H E).env (cxG P w K mg base N qual scope f cdv A outer st H E).xe := passes_of rfl
end
/-! ### Python's own names -/
theorem bt_len : bootBuiltins "len" = some (.builtin "len") := by decide +kernel
theorem bt_max : bootBuiltins "max" = some (.builtin "max") := by decide +kernel
theorem bt_min : bootBuiltins "min" = some (.builtin "min") := by decide +kernel
theorem bt_abs : bootBuiltins "abs" = some (.builtin "abs") := by decide +kernel
theorem bt_ord : bootBuiltins "ord" = some (.builtin "ord") := by decide +kernel
theorem bt_repr : bootBuiltins "repr" = some (.builtin "repr") := by decide +kernel
theorem bt_isinstance : bootBuiltins "isinstance" = some (.builtin "isinstance") := by decide +kernel
theorem bt_sum : bootBuiltins "sum" = some (.builtin "sum") := by decide +kernel
theorem bt_sorted : bootBuiltins "sorted" = some (.builtin "sorted") := by decide +kernel
theorem bt_all : bootBuiltins "all" = some (.builtin "all") := by decide +kernel
theorem bt_any : bootBuiltins "any" = some (.builtin "any") := by decide +kernel
theorem bt_int : bootBuiltins "int" = some (.type "int") := by decide +kernel
theorem bt_str : bootBuiltins "str" = some (.type "str") := by decide +kernel
theorem bt_tuple : bootBuiltins "tuple" = some (.type "tuple") := by decide +kernel
theorem bt_list : bootBuiltins "list" = some (.type "list") := by decide +kernel
theorem bt_bool : bootBuiltins "bool" = some (.type "bool") := by decide +kernel
theorem bt_dict : bootBuiltins "dict" = some (.type "dict") := by decide +kernel
/-! ### blocks -/
def blkB (N : List Str) (sc scope : Scope) (own : List (Str × Nat)) : Bool :=
  decide (scope.kind = .function) && (scope.names.all (fun y => decide (scope.names.lookup y.1 = some y.2)) && (own.all (fun p => decide (N[p.2]? = some p.1)) &&
    (scope.names.all (fun y => decide (y.2 ≠ .free) || (decide (sc.names.lookup y.1 = some .cell) || decide (sc.names.lookup y.1 = some .free))) &&
      scope.names.all (fun y => (decide (y.2 ≠ .local) && decide (y.2 ≠ .cell)) || (decide (y.1 ∈ own.map (·.1)) || decide (y.1 ∉ N))))))
theorem blk_of {N : List Str} {sc scope : Scope} {own : List (Str × Nat)} (h : blkB N sc scope own = true) : BlkOk N sc scope own := by
  unfold blkB at h
  simp only [Bool.and_eq_true, List.all_eq_true, decide_eq_true_eq, Bool.or_eq_true] at h
  obtain ⟨h1, h2, h3, h4, h5⟩ := h
  refine ⟨h1, h2, h3, fun y hy e => ?_, fun y hy e => ?_⟩
  · rcases h4 y hy with q | q
    · exact absurd e q
    · exact q
  · rcases h5 y hy with q | q
    · rcases e with e | e
      · exact absurd e q.1
      · exact absurd e q.2
    · exact q
end Mi
/-! text MiR -/
set_option Elab.async false
set_option linter.all false
set_option maxRecDepth 100000
set_option maxHeartbeats 4000000
/-! MiR: computing with computations. -/
namespace Mi
open PySem PySem.Spec PyProof.Rows L2

section
variable {m m1 m2 m3 : Env' → R EV} {n1 n2 : Env' → R Bool} {ms : Env' → R (List EV)} {ρ ρ1 : Env'} {f g : D → D → Option EV} {a b c : D} {i : Nat}
/-! ### reading a slot -/
def gV : Option (Option SV) → Nat → Env' → R EV
  | some (some (.d x)), _, ρ => .ok (.d x) ρ
  | some (some _), i, ρ => .ok (.al i) ρ
  | _, _, _ => .bad
@[simp] theorem getV_ap : getV i ρ = gV ρ[i]? i ρ := by
  unfold getV gV
  cases ρ[i]? with
  | none => rfl
  | some o => cases o with
    | none => rfl
    | some v => cases v <;> rfl
@[simp] theorem gV_d {x : D} : gV (some (some (.d x))) i ρ = .ok (.d x) ρ := rfl
@[simp] theorem gV_o {x : MO} : gV (some (some (.o x))) i ρ = .ok (.al i) ρ := rfl
@[simp] theorem gV_b {x : MO} : gV (some (some (.b x))) i ρ = .ok (.al i) ρ := rfl
@[simp] theorem gV_s {x : List Int} : gV (some (some (.scr x))) i ρ = .ok (.al i) ρ := rfl
/-! ### writing a slot -/
def pl : Option SV → Bool
  | none => true
  | some (.d _) => true
  | _ => false
@[simp] theorem pl_none : pl none = true := rfl
@[simp] theorem pl_d {x : D} : pl (some (.d x)) = true := rfl
theorem pl_cases {x : Option SV} (h : pl x = true) : x = none ∨ ∃ d, x = some (.d d) := by
  cases x with
  | none => exact .inl rfl
  | some v => cases v with
    | d x => exact .inr ⟨x, rfl⟩
    | _ => cases h
def sS : Option (Option SV) → Nat → Option SV → Env' → Option Env'
  | none, _, _, _ => none
  | some (some (.b _)), _, _, _ => none
  | some _, i, sv, ρ => some (ρ.set i sv)
@[simp] theorem setS_ap {sv : Option SV} : setS i sv ρ = sS ρ[i]? i sv ρ := by
  unfold setS sS
  cases ρ[i]? with
  | none => rfl
  | some o => cases o with
    | none => rfl
    | some v => cases v <;> rfl
@[simp] theorem sS_none {sv : Option SV} : sS (some none) i sv ρ = some (ρ.set i sv) := rfl
@[simp] theorem sS_d {x : D} {sv : Option SV} : sS (some (some (.d x))) i sv ρ = some (ρ.set i sv) := rfl
@[simp] theorem sS_o {x : MO} {sv : Option SV} : sS (some (some (.o x))) i sv ρ = some (ρ.set i sv) := rfl
@[simp] theorem sS_pl {x : Option SV} {sv : Option SV} (h : pl x = true) : sS (some x) i sv ρ = some (ρ.set i sv) := by
  rcases pl_cases h with rfl | ⟨d, rfl⟩ <;> rfl
@[simp] theorem asgN_d {own : Bool} {x : D} : asgN own i (.d x) ρ = setS i (some (.d x)) ρ := rfl
@[simp] theorem asgN_frT {x : MO} : asgN true i (.fr x) ρ = setS i (some (.o x)) ρ := rfl
@[simp] theorem asgN_frF {x : MO} : asgN false i (.fr x) ρ = setS i (some (.d (snapM x))) ρ := rfl
@[simp] theorem snapM_lst {xs : List D} : snapM (.lst xs) = .list xs := rfl
@[simp] theorem snapM_dk {xs : List (Key × D)} : snapM (.dk xs) = .dict (xs.map fun p => (kD p.1, p.2)) := rfl
/-! ### expressions -/
@[simp] theorem cst_ap : cst a ρ = .ok (.d a) ρ := rfl
@[simp] theorem fzV_d : fzV (.d a) = .d a := rfl
@[simp] theorem fzV_al : fzV (.al i) = .al i := rfl
@[simp] theorem fzV_fr {x : MO} : fzV (.fr x) = .d (snapM x) := rfl
@[simp] theorem dV_d : dV ρ (.d a) = some a := rfl
@[simp] theorem dV_lst {xs : List D} : dV ρ (.fr (.lst xs)) = some (.list xs) := rfl
@[simp] theorem dV_dk {xs : List (Key × D)} : dV ρ (.fr (.dk xs)) = some (.dict (xs.map fun p => (kD p.1, p.2))) := rfl
@[simp] theorem mBin_ap : mBin f m1 m2 ρ = (m1 ρ).bind fun e1 ρ1 => (m2 ρ1).bind fun e2 ρ2 => op2 f e1 e2 ρ2 := rfl
@[simp] theorem op2_dd : op2 f (.d a) (.d b) ρ = R.ofO (f a b) ρ := rfl
@[simp] theorem op2_fd {xs : List D} : op2 f (.fr (.lst xs)) (.d b) ρ = R.ofO (f (.list xs) b) ρ := rfl
@[simp] theorem op2_df {xs : List D} : op2 f (.d a) (.fr (.lst xs)) ρ = R.ofO (f a (.list xs)) ρ := rfl
@[simp] theorem op2_ff {xs ys : List D} : op2 f (.fr (.lst xs)) (.fr (.lst ys)) ρ = R.ofO (f (.list xs) (.list ys)) ρ := rfl
@[simp] theorem mUn_ap {u : D → Option EV} : mUn u m1 ρ = (m1 ρ).bind fun e1 ρ1 => R.ofO ((dV ρ1 e1).bind u) ρ1 := rfl
@[simp] theorem mTB_ap : mTB m ρ = (m ρ).bind fun e ρ1 => R.ofO (evB e) ρ1 := rfl
@[simp] theorem evB_b {k : Bool} : evB (.d (.bool k)) = some k := rfl
@[simp] theorem mNot_ap : mNot n1 ρ = (n1 ρ).bind fun b ρ1 => .ok (!b) ρ1 := rfl
@[simp] theorem mAnd_ap : mAnd n1 n2 ρ = (n1 ρ).bind fun b ρ1 => if b = true then n2 ρ1 else .ok false ρ1 := rfl
@[simp] theorem mOr_ap : mOr n1 n2 ρ = (n1 ρ).bind fun b ρ1 => if b = true then .ok true ρ1 else n2 ρ1 := rfl
def brB (k : Option Bool) (x y : R EV) : R EV := match k with | some true => x | some false => y | none => .bad
@[simp] theorem brB_t {x y : R EV} : brB (some true) x y = x := rfl
@[simp] theorem brB_f {x y : R EV} : brB (some false) x y = y := rfl
theorem brB_some {k : Bool} {x y : R EV} : brB (some k) x y = if k = true then x else y := by cases k <;> rfl
@[simp] theorem mAndV_ap : mAndV m1 m2 ρ = (m1 ρ).bind fun e ρ1 => brB (evB e) (m2 ρ1) (.ok (.d (.bool false)) ρ1) := by
  unfold mAndV brB; congr 1
@[simp] theorem mOrV_ap : mOrV m1 m2 ρ = (m1 ρ).bind fun e ρ1 => brB (evB e) (.ok (.d (.bool true)) ρ1) (m2 ρ1) := by
  unfold mOrV brB; congr 1
@[simp] theorem mNotV_ap : mNotV m1 ρ = (m1 ρ).bind fun e ρ1 => R.ofO ((evB e).map fun b => .d (.bool !b)) ρ1 := by
  unfold mNotV; congr 1; funext e ρ1; cases evB e <;> rfl
@[simp] theorem mIf_ap {n : Env' → R Bool} : mIf n m1 m2 ρ = (n ρ).bind fun b ρ1 => if b = true then m1 ρ1 else m2 ρ1 := rfl
def chB (k : Option EV) (x y : R EV) : R EV := match k with | some (.d (.bool true)) => x | some (.d (.bool false)) => y | _ => .bad
@[simp] theorem chB_b {k : Bool} {x y : R EV} : chB (some (.d (.bool k))) x y = if k = true then x else y := by cases k <;> rfl
@[simp] theorem mChain_ap : mChain f g m1 m2 m3 ρ = (m1 ρ).bind fun e1 ρ1 => (m2 ρ1).bind fun e2 ρ2 => chB ((dV ρ2 (fzV e1)).bind fun a => (dV ρ2 (fzV e2)).bind fun b => f a b) ((m3 ρ2).bind fun e3 ρ3 => op2 g (fzV e2) e3 ρ3) (.ok (.d (.bool false)) ρ2) := rfl
@[simp] theorem mTru_ap : mTru m ρ = (m ρ).bind fun e ρ1 => R.ofO ((dV ρ1 e).bind truD) ρ1 := rfl
@[simp] theorem aNil_ap : aNil ρ = .ok [] ρ := rfl
@[simp] theorem aCons_ap : aCons m ms ρ = (m ρ).bind fun e ρ1 => (ms ρ1).bind fun es ρ2 => .ok (fzV e :: es) ρ2 := rfl
@[simp] theorem oCons_d {x : D} {ρ1 : Env'} (h : m ρ = .ok (.d x) ρ1) : oCons m ms ρ = (ms ρ1).bind fun es ρ2 => .ok (.d x :: es) ρ2 := by unfold oCons; rw [h]; rfl
def oC (ms : Env' → R (List EV)) : EV → Env' → R (List EV)
  | .al _, _ => .bad
  | e, ρ1 => (ms ρ1).bind fun es ρ2 => .ok (e :: es) ρ2
@[simp] theorem oCons_ap : oCons m ms ρ = (m ρ).bind (oC ms) := by
  unfold oCons; congr 1; funext e ρ1; cases e <;> rfl
@[simp] theorem oC_d {x : D} : oC ms (.d x) ρ = (ms ρ).bind fun es ρ2 => .ok (.d x :: es) ρ2 := rfl
@[simp] theorem oC_fr {x : MO} : oC ms (.fr x) ρ = (ms ρ).bind fun es ρ2 => .ok (.fr x :: es) ρ2 := rfl
@[simp] theorem mTup_ap : mTup ms ρ = (ms ρ).bind fun es ρ1 => R.ofO ((evDs es).bind fun ds => if ds.length ≤ sizeLine then some (.d (.tuple ds)) else none) ρ1 := rfl
@[simp] theorem mLst_ap : mLst ms ρ = (ms ρ).bind fun es ρ1 => R.ofO ((evDs es).bind fun ds => if ds.length ≤ sizeLine then some (.fr (.lst ds)) else none) ρ1 := rfl
@[simp] theorem evDs_nil : evDs [] = some [] := rfl
@[simp] theorem evDs_cons {x : D} {es : List EV} : evDs (.d x :: es) = (evDs es).map fun ds => x :: ds := by
  cases h : evDs es <;> simp [evDs, h]
@[simp] theorem dVs_nil : dVs ρ [] = some [] := rfl
@[simp] theorem dVs_cons {e : EV} {es : List EV} : dVs ρ (e :: es) = (dV ρ e).bind fun d => (dVs ρ es).bind fun ds => some (d :: ds) := rfl
@[simp] theorem mCall_ap {k : List D → Option EV} : mCall k ms ρ = (ms ρ).bind fun es ρ1 => R.ofO ((dVs ρ1 es).bind k) ρ1 := rfl
@[simp] theorem mIsi_ap {T : String} : mIsi T m ρ = (m ρ).bind fun e ρ1 => R.ofO ((dV ρ1 e).bind fun d => some (.d (.bool (isiD T d)))) ρ1 := rfl
@[simp] theorem mFn_ap {n : Nat} {fm : List SV → RF} : mFn n fm ms ρ = (ms ρ).bind fun es ρ1 => callF n fm es ρ1 := rfl
def slB (o : Option EV) (ρ : Env') : R EV := R.ofO o ρ
@[simp] theorem mSl_ap {l u : Env' → R (Option Int)} : mSl m l u ρ = (m ρ).bind fun e ρ1 => (l ρ1).bind fun lo ρ2 => (u ρ2).bind fun hi ρ3 => R.ofO ((dV ρ3 (fzV e)).bind fun d => fSl d lo hi) ρ3 := rfl
@[simp] theorem oNone_ap : oNone ρ = .ok none ρ := rfl
def oS : EV → Env' → R (Option Int)
  | .d (.int i), ρ => .ok (some i) ρ
  | _, _ => .bad
@[simp] theorem oSome_ap : oSome m ρ = (m ρ).bind oS := by
  unfold oSome; congr 1; funext e ρ1
  cases e with
  | d x => cases x <;> rfl
  | _ => rfl
@[simp] theorem oS_i {k : Int} : oS (.d (.int k)) ρ = .ok (some k) ρ := rfl
/-! ### operators -/
@[simp] theorem fAdd_i {x y : Int} : fAdd (.int x) (.int y) = some (.d (.int (x + y))) := rfl
@[simp] theorem fSub_i {x y : Int} : fSub (.int x) (.int y) = some (.d (.int (x - y))) := rfl
@[simp] theorem fCmp_i {p : Int → Int → Bool} {x y : Int} : fCmp p (.int x) (.int y) = some (.d (.bool (p x y))) := rfl
@[simp] theorem fNeg_i {x : Int} : fNeg (.int x) = some (.d (.int (-x))) := rfl
@[simp] theorem fIs_n {x : D} : fIs x .none = some (.d (.bool (isNonD x))) := by cases x <;> rfl
@[simp] theorem fIsNot_n {x : D} : fIsNot x .none = some (.d (.bool (!isNonD x))) := by cases x <;> rfl
@[simp] theorem fIs_b {x y : Bool} : fIs (.bool x) (.bool y) = some (.d (.bool (x == y))) := rfl
@[simp] theorem fIsNot_b {x y : Bool} : fIsNot (.bool x) (.bool y) = some (.d (.bool (x != y))) := rfl
@[simp] theorem isNon_none : isNonD .none = true := rfl
@[simp] theorem isNon_i {x : Int} : isNonD (.int x) = false := rfl
@[simp] theorem isNon_b {x : Bool} : isNonD (.bool x) = false := rfl
@[simp] theorem isNon_s {x : Str} : isNonD (.str x) = false := rfl
@[simp] theorem isNon_t {x : List D} : isNonD (.tuple x) = false := rfl
@[simp] theorem isNon_l {x : List D} : isNonD (.list x) = false := rfl
@[simp] theorem gLen_t {x : List D} : gLen [.tuple x] = some (.d (.int x.length)) := rfl
@[simp] theorem gLen_l {x : List D} : gLen [.list x] = some (.d (.int x.length)) := rfl
@[simp] theorem gInt_i {x : Int} : gInt [.int x] = some (.d (.int x)) := rfl
@[simp] theorem gTuple_l {x : List D} : gTuple [.list x] = some (.d (.tuple x)) := rfl
@[simp] theorem gInt2_i {h : Int → Int → Int} {x y : Int} : gInt2 h [.int x, .int y] = some (.d (.int (h x y))) := rfl
@[simp] theorem gAbs_i {x : Int} : gAbs [.int x] = some (.d (.int (if x < 0 then -x else x))) := rfl
@[simp] theorem fIx_l {x : List D} {k : Int} : fIx (.list x) (.int k) = (atI x k).map .d := rfl
@[simp] theorem fIx_t {x : List D} {k : Int} : fIx (.tuple x) (.int k) = (atI x k).map .d := rfl
@[simp] theorem fSl_l {x : List D} {l h : Option Int} : fSl (.list x) l h = some (.fr (.lst (cutD x l h))) := rfl
@[simp] theorem fSl_t {x : List D} {l h : Option Int} : fSl (.tuple x) l h = some (.d (.tuple (cutD x l h))) := rfl
theorem fMul_ok {x y : Int} (h : (-(2 ^ 64) < x ∧ x < 2 ^ 64) ∨ (-(2 ^ 64) < y ∧ y < 2 ^ 64)) : fMul (.int x) (.int y) = some (.d (.int (x * y))) := if_pos h
theorem fMulS_ok {x y : Int} (h : (-(2 ^ 64) < x ∧ x < 2 ^ 64) ∨ (-(2 ^ 64) < y ∧ y < 2 ^ 64)) : fMulS (.int x) (.int y) = some (.d (.int (x * y))) := if_pos h
theorem fDiv_ok {x y : Int} (h : 0 < y ∧ y < 1073741824) : fDiv (.int x) (.int y) = some (.d (.int (x / y))) := if_pos h
theorem fMod_ok {x y : Int} (h : 0 < y) : fMod (.int x) (.int y) = some (.d (.int (x % y))) := if_pos h
theorem fAdd_l {x y : List D} (h : x.length + y.length ≤ sizeLine) : fAdd (.list x) (.list y) = some (.fr (.lst (x ++ y))) := if_pos h
theorem fAdd_t {x y : List D} (h : x.length + y.length ≤ sizeLine) : fAdd (.tuple x) (.tuple y) = some (.d (.tuple (x ++ y))) := if_pos h
/-! ### statements -/
variable {r1 r2 : Env' → RS}
@[simp] theorem sNil_ap : sNil ρ = .nx ρ := rfl
@[simp] theorem sSeq_ap : sSeq r1 r2 ρ = (r1 ρ).then r2 := rfl
@[simp] theorem sIf_ap {n : Env' → R Bool} : sIf n r1 r2 ρ = (n ρ).toS fun b ρ1 => if b = true then r1 ρ1 else r2 ρ1 := rfl
@[simp] theorem sRet_ap : sRet m ρ = (m ρ).toS retV := rfl
@[simp] theorem retV_d : retV (.d a) ρ = .rt (.d a) ρ := rfl
@[simp] theorem retV_fr {x : MO} : retV (.fr x) ρ = .rt (.fr x) ρ := rfl
@[simp] theorem sAsg_ap {asg : Asg} : sAsg asg m ρ = (m ρ).toS fun e ρ1 => RS.ofO (asg e ρ1) := rfl
@[simp] theorem sPar_ap {ts : List (Bool × Nat)} : sPar ts ms ρ = (ms ρ).toS fun es ρ1 => RS.ofO (parL ts es ρ1) := rfl
@[simp] theorem parL_nil : parL [] [] ρ = some ρ := rfl
@[simp] theorem parL_cons {o : Bool} {ts : List (Bool × Nat)} {e : EV} {es : List EV} : parL ((o, i) :: ts) (e :: es) ρ = (asgN o i e ρ).bind fun ρ1 => parL ts es ρ1 := rfl
@[simp] theorem sExpr_ap : sExpr m ρ = (m ρ).toS fun _ ρ1 => .nx ρ1 := rfl
@[simp] theorem asgT_ap {gs : List Asg} {ds : List D} : asgT gs (.d (.tuple ds)) ρ = asgs ds gs ρ := rfl
@[simp] theorem asgL_ap {gs : List Asg} {ds : List D} : asgL gs (.d (.list ds)) ρ = asgs ds gs ρ := rfl
@[simp] theorem asgL_fr {gs : List Asg} {ds : List D} : asgL gs (.fr (.lst ds)) ρ = asgs ds gs ρ := rfl
@[simp] theorem asgs_nil' : asgs [] [] ρ = some ρ := rfl
@[simp] theorem asgs_cons' {d : D} {ds : List D} {h : Asg} {gs : List Asg} : asgs (d :: ds) (h :: gs) ρ = (h (.d d) ρ).bind fun ρ1 => asgs ds gs ρ1 := rfl
/-! ### a branch stays a branch -/
theorem toS_ite {α : Type} {p : Prop} [Decidable p] {x y : R α} {k : α → Env' → RS} : (if p then x else y).toS k = if p then x.toS k else y.toS k := by split <;> rfl
theorem bind_ite {α β : Type} {p : Prop} [Decidable p] {x y : R α} {k : α → Env' → R β} : (if p then x else y).bind k = if p then x.bind k else y.bind k := by split <;> rfl
theorem then_ite {p : Prop} [Decidable p] {x y : RS} {k : Env' → RS} : (if p then x else y).then k = if p then x.then k else y.then k := by split <;> rfl
@[simp] theorem ite_ok {α : Type} {p : Prop} [Decidable p] {x y : α} : (if p then R.ok x ρ else R.ok y ρ) = R.ok (if p then x else y) ρ := by split <;> rfl
@[simp] theorem ite_evd {p : Prop} [Decidable p] {x y : D} : (if p then EV.d x else EV.d y) = EV.d (if p then x else y) := by split <;> rfl
@[simp] theorem ite_bool {p : Prop} [Decidable p] {x y : Bool} : (if p then PyData.bool x else PyData.bool y) = PyData.bool (if p then x else y) := by split <;> rfl
@[simp] theorem ite_int {p : Prop} [Decidable p] {x y : Int} : (if p then PyData.int x else PyData.int y) = PyData.int (if p then x else y) := by split <;> rfl
/-! ### a def's end -/
theorem runF_ap {n : Nat} {b : Env' → RS} {as : List SV} : runF n b as = endF (as.map some) (b (as.map some ++ List.replicate (n - as.length) none)) := rfl
@[simp] theorem endF_d {as : Env'} {x : D} : endF as (.rt (.d x) ρ) = if outOk as ρ = true then .ok (.d x) (outE as ρ) else .bad := rfl
@[simp] theorem endF_fr {as : Env'} {x : MO} : endF as (.rt (.fr x) ρ) = if outOk as ρ = true then .ok (.fr x) (outE as ρ) else .bad := rfl
@[simp] theorem endF_nx {as : Env'} : endF as (.nx ρ) = if outOk as ρ = true then .ok (.d .none) (outE as ρ) else .bad := rfl
theorem endF_ite {as : Env'} {p : Prop} [Decidable p] {x y : RS} : endF as (if p then x else y) = if p then endF as x else endF as y := by split <;> rfl
@[simp] theorem outE_nil : outE [] ρ = [] := rfl
@[simp] theorem outE_d {x : D} {as : Env'} {v : Option SV} : outE (some (.d x) :: as) (v :: ρ) = some (.d x) :: outE as ρ := rfl
@[simp] theorem outE_s {x : List Int} {as : Env'} {v : Option SV} : outE (some (.scr x) :: as) (v :: ρ) = some (.scr x) :: outE as ρ := rfl
@[simp] theorem outE_b {x y : MO} {as : Env'} : outE (some (.b x) :: as) (some (.b y) :: ρ) = some (.b y) :: outE as ρ := rfl
@[simp] theorem outOk_nil : outOk [] ρ = true := rfl
@[simp] theorem outOk_d {x : D} {as : Env'} {v : Option SV} : outOk (some (.d x) :: as) (v :: ρ) = outOk as ρ := rfl
@[simp] theorem outOk_s {x : List Int} {as : Env'} {v : Option SV} : outOk (some (.scr x) :: as) (v :: ρ) = outOk as ρ := rfl
@[simp] theorem outOk_b {x y : MO} {as : Env'} : outOk (some (.b x) :: as) (some (.b y) :: ρ) = outOk as ρ := rfl
end
/-! ### a call's end -/
def retF (as : List SV) (es : List EV) (ρ : Env') : RF → R EV
  | .ok (.d x) bs => if backOk as bs = true then .ok (.d x) (putBack ρ es bs) else .bad
  | .ok (.fr m) bs => if backOk as bs = true then .ok (.fr m) (putBack ρ es bs) else .bad
  | .exc x bs => if backOk as bs = true then .exc x (putBack ρ es bs) else .bad
  | _ => .bad
def retC (fm : List SV → RF) (es : List EV) (ρ : Env') : Option (List SV) → R EV
  | some as => retF as es ρ (fm as)
  | none => .bad
section
variable {ρ : Env'} {es : List EV} {as : List SV} {bs : Env'} {n i : Nat} {fm : List SV → RF}
@[simp] theorem callF_ap : callF n fm es ρ = if (alsOf es).Nodup ∧ es.length = n then retC fm es ρ (argVs ρ es) else .bad := by
  unfold callF
  split
  · unfold retC
    cases argVs ρ es with
    | none => rfl
    | some as =>
      unfold retF
      cases fm as with
      | bad => rfl
      | exc x bs => rfl
      | ok e bs => cases e <;> rfl
  · rfl
@[simp] theorem retC_s : retC fm es ρ (some as) = retF as es ρ (fm as) := rfl
@[simp] theorem retF_d {x : D} : retF as es ρ (.ok (.d x) bs) = if backOk as bs = true then .ok (.d x) (putBack ρ es bs) else .bad := rfl
@[simp] theorem retF_fr {x : MO} : retF as es ρ (.ok (.fr x) bs) = if backOk as bs = true then .ok (.fr x) (putBack ρ es bs) else .bad := rfl
@[simp] theorem alsOf_nil' : alsOf [] = [] := rfl
@[simp] theorem alsOf_d' {x : D} : alsOf (.d x :: es) = alsOf es := rfl
@[simp] theorem alsOf_al' : alsOf (.al i :: es) = i :: alsOf es := rfl
@[simp] theorem argVs_nil' : argVs ρ [] = some [] := rfl
@[simp] theorem argVs_d' {x : D} : argVs ρ (.d x :: es) = (argVs ρ es).map fun as => .d x :: as := by
  have e : argVs ρ (.d x :: es) = (argVs ρ es).bind fun as => some (.d x :: as) := rfl
  rw [e]
  cases argVs ρ es <;> rfl
def argA : Option (Option SV) → Option SV
  | some (some (.o m)) => some (.b m)
  | some (some (.b m)) => some (.b m)
  | some (some (.scr ns)) => some (.scr ns)
  | _ => none
@[simp] theorem argA_o {m : MO} : argA (some (some (.o m))) = some (.b m) := rfl
@[simp] theorem argA_b {m : MO} : argA (some (some (.b m))) = some (.b m) := rfl
@[simp] theorem argA_s {m : List Int} : argA (some (some (.scr m))) = some (.scr m) := rfl
@[simp] theorem argVs_al' : argVs ρ (.al i :: es) = (argA ρ[i]?).bind fun a => (argVs ρ es).map fun as => a :: as := by
  have h : argV ρ (.al i) = argA ρ[i]? := by
    show (match ρ[i]? with | some (some (.o m)) => some (SV.b m) | some (some (.b m)) => some (.b m) | some (some (.scr ns)) => some (.scr ns) | _ => none) = _
    cases ρ[i]? with
    | none => rfl
    | some o => cases o with
      | none => rfl
      | some v => cases v <;> rfl
  show (argV ρ (.al i)).bind _ = _
  rw [h]
  congr 1
  funext a
  cases argVs ρ es <;> rfl
@[simp] theorem backOk_nil' : backOk [] bs = true := rfl
@[simp] theorem backOk_d' {x : D} {v : Option SV} : backOk (.d x :: as) (v :: bs) = backOk as bs := rfl
@[simp] theorem backOk_s' {x : List Int} {v : Option SV} : backOk (.scr x :: as) (v :: bs) = backOk as bs := rfl
@[simp] theorem backOk_b' {x y : MO} : backOk (.b x :: as) (some (.b y) :: bs) = backOk as bs := rfl
@[simp] theorem putBack_nil' : putBack ρ [] bs = ρ := by cases bs <;> rfl
@[simp] theorem putBack_d' {x : D} {v : Option SV} : putBack ρ (.d x :: es) (v :: bs) = putBack ρ es bs := by
  cases v with
  | none => rfl
  | some v => cases v <;> rfl
def pB : Option (Option SV) → Nat → MO → Env' → Env'
  | some (some (.o _)), i, m, ρ => ρ.set i (some (.o m))
  | some (some (.b _)), i, m, ρ => ρ.set i (some (.b m))
  | _, _, _, ρ => ρ
@[simp] theorem pB_o {x m : MO} : pB (some (some (.o x))) i m ρ = ρ.set i (some (.o m)) := rfl
@[simp] theorem pB_b {x m : MO} : pB (some (some (.b x))) i m ρ = ρ.set i (some (.b m)) := rfl
@[simp] theorem putBack_b' {m : MO} : putBack ρ (.al i :: es) (some (.b m) :: bs) = putBack (pB ρ[i]? i m ρ) es bs := by
  rw [putBack]
  congr 1
  unfold pB
  cases ρ[i]? with
  | none => rfl
  | some o => cases o with
    | none => rfl
    | some v => cases v <;> rfl
@[simp] theorem putBack_s' {m : List Int} : putBack ρ (.al i :: es) (some (.scr m) :: bs) = putBack ρ es bs := by
  rw [putBack]; intro _ _ _ z; cases z
end
/-! ### loops -/
theorem fL_ind {asg : Asg} {b : Env' → RS} (I : Nat → Env' → Prop) (Q : RS → Prop) : ∀ (xs : List D) (k : Nat) (ρ : Env'),
    (∀ i d ρ, xs[i]? = some d → I (k + i) ρ → ∃ ρ1, asg (.d d) ρ = some ρ1 ∧ ((∃ ρ2, (b ρ1 = .nx ρ2 ∨ b ρ1 = .ct ρ2) ∧ I (k + (i + 1)) ρ2) ∨ (∃ e ρ2, b ρ1 = .rt e ρ2 ∧ Q (.rt e ρ2)) ∨ ∃ ρ2, b ρ1 = .bk ρ2 ∧ Q (.nx ρ2))) →
    (∀ ρ, I (k + xs.length) ρ → Q (.nx ρ)) → I k ρ → Q (fL asg b xs ρ)
  | [], k, ρ, _, hd, h => hd ρ h
  | d :: ds, k, ρ, hs, hd, h => by
    obtain ⟨ρ1, h1, h2⟩ := hs 0 d ρ rfl h
    have e : fL asg b (d :: ds) ρ = (b ρ1).loop (fL asg b ds) := by
      show (RS.ofO (asg (.d d) ρ)).then _ = _
      rw [h1]; rfl
    rw [e]
    rcases h2 with ⟨ρ2, h3, h4⟩ | ⟨ev, ρ2, h3, h4⟩ | ⟨ρ2, h3, h4⟩
    · have go : Q (fL asg b ds ρ2) := by
        refine fL_ind I Q ds (k + 1) ρ2 (fun i d' ρ' hi hI => ?_) (fun ρ' hI => hd ρ' ?_) (by simpa using h4)
        · have := hs (i + 1) d' ρ' (by simpa using hi) (by rw [show k + (i + 1) = k + 1 + i by omega]; exact hI)
          have e : k + (i + 1 + 1) = k + 1 + (i + 1) := by omega
          rw [e] at this; exact this
        · have e : k + (d :: ds).length = k + 1 + ds.length := by simp; omega
          rw [e]; exact hI
      rcases h3 with h3 | h3 <;> rw [h3] <;> exact go
    · rw [h3]; exact h4
    · rw [h3]; exact h4
theorem sWhile_ind {c : Env' → R Bool} {b : Env' → RS} (I : Env' → Prop) (μ : Env' → Nat) (Q : RS → Prop)
    (step : ∀ ρ, I ρ → ∃ t ρ1, c ρ = .ok t ρ1 ∧ ((t = false ∧ Q (.nx ρ1)) ∨ (t = true ∧ ((∃ ρ2, (b ρ1 = .nx ρ2 ∨ b ρ1 = .ct ρ2) ∧ I ρ2 ∧ μ ρ2 < μ ρ) ∨ (∃ e ρ2, b ρ1 = .rt e ρ2 ∧ Q (.rt e ρ2)) ∨ ∃ ρ2, b ρ1 = .bk ρ2 ∧ Q (.nx ρ2))))) :
    ∀ (n : Nat) (ρ : Env'), μ ρ ≤ n → I ρ → Q (sWhile c b ρ)
  | n, ρ, hn, h => by
    obtain ⟨t, ρ1, h1, h2⟩ := step ρ h
    rw [sWhile_eq, h1]
    rcases h2 with ⟨rfl, h3⟩ | ⟨rfl, h3⟩
    · exact h3
    · show Q ((b ρ1).loop (sWhile c b))
      rcases h3 with ⟨ρ2, h4, h5, h6⟩ | ⟨e, ρ2, h4, h5⟩ | ⟨ρ2, h4, h5⟩
      · have go : Q (sWhile c b ρ2) := by
          cases n with
          | zero => omega
          | succ n => exact sWhile_ind I μ Q step n ρ2 (by omega) h5
        rcases h4 with h4 | h4 <;> rw [h4] <;> exact go
      · rw [h4]; exact h5
      · rw [h4]; exact h5
/-- a comprehension: I i acc ρ behind i items -/
theorem cL_ind {vs : List Nat} {asg : Asg} {tt : Env' → R Bool} {te : Env' → R EV} (I : Nat → List D → Env' → Prop) : ∀ (xs : List D) (k : Nat) (acc : List D) (ρ : Env'),
    (∀ i d acc ρ, xs[i]? = some d → I (k + i) acc ρ → ∃ ρ1 t ρ2, asg (.d d) ρ = some ρ1 ∧ tt ρ1 = .ok t ρ2 ∧ ((t = false ∧ I (k + (i + 1)) acc (wipeE ρ2 vs)) ∨ (t = true ∧ ∃ e y ρ3, te ρ2 = .ok e ρ3 ∧ fzV e = .d y ∧ I (k + (i + 1)) (acc ++ [y]) (wipeE ρ3 vs)))) →
    acc.length + xs.length ≤ sizeLine → I k acc ρ → ∃ acc' ρ', cL vs asg tt te xs acc ρ = .ok acc' ρ' ∧ I (k + xs.length) acc' ρ'
  | [], k, acc, ρ, _, _, h => ⟨acc, ρ, rfl, h⟩
  | d :: ds, k, acc, ρ, hs, hl, h => by
    obtain ⟨ρ1, t, ρ2, h1, h2, h3⟩ := hs 0 d acc ρ rfl h
    have next : ∀ acc ρ, acc.length + ds.length ≤ sizeLine → I (k + (0 + 1)) acc ρ → ∃ acc' ρ', cL vs asg tt te ds acc ρ = .ok acc' ρ' ∧ I (k + (d :: ds).length) acc' ρ' := fun acc ρ hl h => by
      have e0 : k + (d :: ds).length = k + 1 + ds.length := by simp; omega
      rw [e0]
      refine cL_ind I ds (k + 1) acc ρ (fun i d' acc' ρ' hi hI => ?_) hl (by simpa using h)
      have := hs (i + 1) d' acc' ρ' (by simpa using hi) (by rw [show k + (i + 1) = k + 1 + i by omega]; exact hI)
      have e : k + (i + 1 + 1) = k + 1 + (i + 1) := by omega
      rw [e] at this; exact this
    rw [List.length_cons] at hl
    unfold cL
    simp only [h1, h2, R.bind_ok]
    rcases h3 with ⟨rfl, h4⟩ | ⟨rfl, e, y, ρ3, h4, h5, h6⟩
    · exact next acc _ (by omega) h4
    · simp only [if_true, h4, R.bind_ok, h5]
      rw [if_pos (by omega)]
      exact next _ _ (by rw [List.length_append, List.length_singleton]; omega) h6
/-! ### iterables and blocks -/
section
variable {ρ ρ1 : Env'} {i v : Nat} {m : Env' → R EV} {xs : List D} {vs : List Nat}
def itA : Option (Option SV) → Nat → Env' → R (List D)
  | some (some (.o (.lst xs))), i, ρ => .ok xs (ρ.set i (some (.d (.list xs))))
  | some (some (.scr ns)), _, ρ => .ok (ns.map .int) ρ
  | _, _, _ => .bad
@[simp] theorem iSeq_ap : iSeq m ρ = (m ρ).bind itV := rfl
@[simp] theorem itV_al : itV (.al i) ρ = itA ρ[i]? i ρ := by
  show (match ρ[i]? with | some (some (.o (.lst xs))) => R.ok xs (ρ.set i (some (.d (.list xs)))) | some (some (.scr ns)) => R.ok (ns.map .int) ρ | _ => R.bad) = _
  unfold itA
  cases ρ[i]? with
  | none => rfl
  | some o => cases o with
    | none => rfl
    | some v => cases v with
      | o m => cases m <;> rfl
      | _ => rfl
@[simp] theorem itA_s {ns : List Int} : itA (some (some (.scr ns))) i ρ = .ok (ns.map .int) ρ := rfl
@[simp] theorem itA_o : itA (some (some (.o (.lst xs)))) i ρ = .ok xs (ρ.set i (some (.d (.list xs)))) := rfl
@[simp] theorem itV_l : itV (.d (.list xs)) ρ = .ok xs ρ := rfl
@[simp] theorem itV_t : itV (.d (.tuple xs)) ρ = .ok xs ρ := rfl
@[simp] theorem itV_fr : itV (.fr (.lst xs)) ρ = .ok xs ρ := rfl
@[simp] theorem iCall_ap {g : List EV → Option (List D)} {ms : Env' → R (List EV)} : iCall g ms ρ = (ms ρ).bind fun es ρ1 => R.ofO (g es) ρ1 := rfl
theorem rng1_ok {n : Int} (h : -(2 ^ 62) ≤ n ∧ n < 2 ^ 62) : rng1 [.d (.int n)] = some ((List.range n.toNat).map fun k => .int (k : Nat)) := if_pos h
theorem rng2_ok {a b : Int} (h : -(2 ^ 62) ≤ a ∧ a < 2 ^ 62 ∧ -(2 ^ 62) ≤ b ∧ b < 2 ^ 62) : rng2 [.d (.int a), .d (.int b)] = some ((List.range (b - a).toNat).map fun k => .int (a + (k : Nat))) := if_pos h
@[simp] theorem sFor_ap {mi : Env' → R (List D)} {asg : Asg} {b : Env' → RS} : sFor mi asg b ρ = (mi ρ).toS fun xs ρ1 => fL asg b xs ρ1 := rfl
def lcE (vs : List Nat) (ρ1 : Env') : R (List D) → R EV
  | .ok acc ρ2 => .ok (.fr (.lst acc)) (mergeE ρ1 ρ2 vs)
  | _ => .bad
@[simp] theorem lcE_ok {acc : List D} {ρ2 : Env'} : lcE vs ρ1 (.ok acc ρ2) = .ok (.fr (.lst acc)) (mergeE ρ1 ρ2 vs) := rfl
@[simp] theorem mLc_ap {mi : Env' → R (List D)} {asg : Asg} {tt : Env' → R Bool} {te : Env' → R EV} : mLc mi vs asg tt te ρ = (mi ρ).bind fun xs ρ1 => if okVs ρ1 vs = true then lcE vs ρ1 (cL vs asg tt te xs [] (wipeE ρ1 vs)) else .bad := by
  unfold mLc
  congr 1
@[simp] theorem okVs_nil : okVs ρ [] = true := rfl
def okS : Option (Option SV) → Bool
  | some x => pl x
  | none => false
@[simp] theorem okVs_cons : okVs ρ (v :: vs) = (okS ρ[v]? && okVs ρ vs) := by
  unfold okVs okS pl
  rw [List.all_cons]
  congr 1
  cases ρ[v]? with
  | none => rfl
  | some o => cases o with
    | none => rfl
    | some x => cases x <;> rfl
@[simp] theorem okS_s {x : Option SV} : okS (some x) = pl x := rfl
@[simp] theorem wipeE_nil : wipeE ρ [] = ρ := rfl
@[simp] theorem wipeE_cons : wipeE ρ (v :: vs) = (wipeE ρ vs).set v none := rfl
@[simp] theorem mergeE_nil : mergeE ρ1 ρ [] = ρ := rfl
@[simp] theorem mergeE_cons : mergeE ρ1 ρ (v :: vs) = (mergeE ρ1 ρ vs).set v ((ρ1[v]?).getD none) := rfl
@[simp] theorem tYes_ap : tYes' ρ = .ok true ρ := rfl
@[simp] theorem mRev_l {ρ1 : Env'} (h : m ρ = .ok (.fr (.lst xs)) ρ1) : mRev m ρ = .ok (.fr (.lst xs.reverse)) ρ1 := by unfold mRev; rw [h]; rfl
def rwB (k : Key) (r : List (Key × (Env' → R EV))) : EV → Env' → R (List (Key × Fld))
  | .d x, ρ1 => (rowsM r ρ1).bind fun fs ρ2 => .ok ((k, .d x) :: fs) ρ2
  | .fr (.lst xs), ρ1 => (rowsM r ρ1).bind fun fs ρ2 => .ok ((k, .l xs) :: fs) ρ2
  | _, _ => .bad
@[simp] theorem rowsM_nil : rowsM [] ρ = .ok [] ρ := rfl
@[simp] theorem rowsM_cons {k : Key} {r : List (Key × (Env' → R EV))} : rowsM ((k, m) :: r) ρ = (m ρ).bind (rwB k r) := by
  rw [rowsM]
  congr 1
  funext e ρ1
  cases e with
  | d x => rfl
  | al i => rfl
  | fr mo => cases mo <;> rfl
@[simp] theorem rwB_d {k : Key} {r : List (Key × (Env' → R EV))} {x : D} : rwB k r (.d x) ρ = (rowsM r ρ).bind fun fs ρ2 => .ok ((k, .d x) :: fs) ρ2 := rfl
@[simp] theorem rwB_l {k : Key} {r : List (Key × (Env' → R EV))} : rwB k r (.fr (.lst xs)) ρ = (rowsM r ρ).bind fun fs ρ2 => .ok ((k, .l xs) :: fs) ρ2 := rfl
@[simp] theorem mDisp_ap {rows : List (Key × (Env' → R EV))} : mDisp rows ρ = (rowsM rows ρ).bind fun fs ρ1 => if fs.length ≤ 15 ∧ (fs.map (·.1)).Nodup then .ok (.fr (dispM fs)) ρ1 else .bad := rfl
end
/-! ### places -/
@[simp] theorem atI_nat {α : Type} (xs : List α) (k : Nat) : L2.atI xs (k : Int) = xs[k]? := by
  unfold L2.atI L2.ixN
  rw [if_pos (show (0 : Int) ≤ (k : Int) by omega)]
  by_cases h : k < xs.length
  · rw [if_pos (show (k : Int) < (xs.length : Int) by omega)]; simp
  · rw [if_neg (show ¬ (k : Int) < (xs.length : Int) by omega), List.getElem?_eq_none (by omega)]; rfl
theorem atI_pos {α : Type} {xs : List α} {k : Int} (h : 0 ≤ k) : L2.atI xs k = xs[k.toNat]? := by
  obtain ⟨n, rfl⟩ := Int.eq_ofNat_of_zero_le h
  simp
end Mi
/-! text MiS -/
set_option Elab.async false
set_option linter.all false
set_option maxRecDepth 100000
set_option maxHeartbeats 4000000
/-! MiS: the source of numbers. -/
namespace Mi
open PySem PySem.Spec PyProof.Rows L2

noncomputable def s_source : Env' → RS :=
  (sSeq (sAsg (asgN false 1) (cst (.int 11)))
  (sSeq (sFor (iSeq (getV 0)) (asgN false 2) (sAsg (asgN false 1) (mBin fMod (mCall gInt (aCons (mBin fAdd (mBin fAdd (mBin fMulS (getV 1) (cst (.int 69069))) (mBin fMulS (getV 2) (cst (.int 31)))) (cst (.int 5))) aNil)) (cst (.int 2147483629)))))
  (sRet (mDisp [(.inr ("cells" : Str), (mRev (mLc (iSeq (getV 0)) [2] (asgN false 2) tYes' (mCall gAbs (aCons (getV 2) aNil))))), (.inr ("left" : Str), (cst (.int 1))), (.inr ("mixed" : Str), (getV 1)), (.inr ("turn" : Str), (cst (.int 0)))]))))
noncomputable def s_pick : Env' → RS :=
  (sSeq (sWhile (mAnd (mTB (mBin fGt (getV 1) (cst (.int 1)))) (mAnd (mTB (mBin fLt (gFld 0 (.inr ("left" : Str))) (cst (.int 2)))) (mTB (mBin fGt (gFldLen 0 (.inr ("cells" : Str))) (cst (.int 0)))))) (sFld 0 (.inr ("left" : Str)) (gFldPop 0 (.inr ("cells" : Str)))))
  (sSeq (sAsg (asgN false 2) (gFld 0 (.inr ("left" : Str))))
  (sSeq (sIf (mOr (mTB (mBin fLt (getV 1) (cst (.int 2)))) (mTB (mBin fGt (getV 2) (cst (.int 1))))) (sSeq (sFld 0 (.inr ("left" : Str)) (mBin fDiv (getV 2) (mCall gMax (aCons (cst (.int 1)) (aCons (getV 1) aNil)))))
  (sRet (mBin fMod (mCall gInt (aCons (getV 2) aNil)) (mCall gMax (aCons (cst (.int 1)) (aCons (getV 1) aNil)))))) sNil)
  (sSeq (sFld 0 (.inr ("turn" : Str)) (mBin fAdd (gFld 0 (.inr ("turn" : Str))) (cst (.int 1))))
  (sSeq (sAsg (asgN false 3) (mBin fMod (mCall gInt (aCons (mBin fAdd (gFld 0 (.inr ("mixed" : Str))) (mBin fMulS (gFld 0 (.inr ("turn" : Str))) (cst (.int 104729)))) aNil)) (cst (.int 998244353))))
  (sSeq (sAsg (asgN false 3) (mBin fMod (mCall gInt (aCons (mBin fAdd (mBin fMulS (getV 3) (getV 3)) (mBin fMulS (gFld 0 (.inr ("turn" : Str))) (cst (.int 17)))) aNil)) (cst (.int 2147483647))))
  (sSeq (sFld 0 (.inr ("mixed" : Str)) (getV 3))
  (sRet (mBin fMod (mCall gInt (aCons (mBin fDiv (getV 3) (cst (.int 16))) aNil)) (getV 1))))))))))
noncomputable abbrev fm_pick : List SV → RF := runF 4 s_pick
noncomputable def s_of : Env' → RS :=
  (sRet (mBin fIx (getV 1) (mFn 2 fm_pick (aCons (getV 0) (aCons (mCall gLen (aCons (getV 1) aNil)) aNil)))))
noncomputable abbrev fm_of : List SV → RF := runF 2 s_of
noncomputable abbrev fm_source : List SV → RF := runF 3 s_source

structure Src where
  cells : List Int
  left : Int
  mixed : Int
  turn : Int
def srcF (s : Src) : List (Key × Fld) := [(.inr "cells", .l (s.cells.map .int)), (.inr "left", .d (.int s.left)), (.inr "mixed", .d (.int s.mixed)), (.inr "turn", .d (.int s.turn))]
def srcM (s : Src) : MO := .dn (srcF s)
section
variable {s : Src} {ρ : Env'} {v : Int} {m : Env' → R EV}
theorem fg_cells : fget (.inr ("cells" : Str)) (srcF s) = some (.l (s.cells.map .int)) := rfl
theorem fg_left : fget (.inr ("left" : Str)) (srcF s) = some (.d (.int s.left)) := rfl
theorem fg_mixed : fget (.inr ("mixed" : Str)) (srcF s) = some (.d (.int s.mixed)) := rfl
theorem fg_turn : fget (.inr ("turn" : Str)) (srcF s) = some (.d (.int s.turn)) := rfl
theorem fs_left : fsetD (.inr ("left" : Str)) (.int v) (srcF s) = some (srcF { s with left := v }) := rfl
theorem fs_mixed : fsetD (.inr ("mixed" : Str)) (.int v) (srcF s) = some (srcF { s with mixed := v }) := rfl
theorem fs_turn : fsetD (.inr ("turn" : Str)) (.int v) (srcF s) = some (srcF { s with turn := v }) := rfl
theorem fl_cells {xs : List Int} : fsetL (.inr ("cells" : Str)) (xs.map .int) (srcF s) = srcF { s with cells := xs } := rfl
@[simp] theorem gF_left : gFld 0 (.inr ("left" : Str)) (some (.b (srcM s)) :: ρ) = .ok (.d (.int s.left)) (some (.b (srcM s)) :: ρ) := rfl
@[simp] theorem gF_mixed : gFld 0 (.inr ("mixed" : Str)) (some (.b (srcM s)) :: ρ) = .ok (.d (.int s.mixed)) (some (.b (srcM s)) :: ρ) := rfl
@[simp] theorem gF_turn : gFld 0 (.inr ("turn" : Str)) (some (.b (srcM s)) :: ρ) = .ok (.d (.int s.turn)) (some (.b (srcM s)) :: ρ) := rfl
@[simp] theorem gF_len : gFldLen 0 (.inr ("cells" : Str)) (some (.b (srcM s)) :: ρ) = .ok (.d (.int s.cells.length)) (some (.b (srcM s)) :: ρ) := by
  have e : gFldLen 0 (.inr ("cells" : Str)) (some (.b (srcM s)) :: ρ) = .ok (.d (.int ((s.cells.map PyData.int).length : Nat))) (some (.b (srcM s)) :: ρ) := rfl
  rw [e, List.length_map]
theorem gF_pop {xs : List Int} (h : s.cells = xs ++ [v]) : gFldPop 0 (.inr ("cells" : Str)) (some (.b (srcM s)) :: ρ) = .ok (.d (.int v)) (some (.b (srcM { s with cells := xs })) :: ρ) := by
  have e : gFldPop 0 (.inr ("cells" : Str)) (some (.b (srcM s)) :: ρ) = match (s.cells.map PyData.int)[(s.cells.map PyData.int).length - 1]? with
      | some x => .ok (.d x) (dnPut 0 (fsetL (.inr ("cells" : Str)) (s.cells.map PyData.int).dropLast (srcF s)) (some (.b (srcM s)) :: ρ))
      | none => .bad := rfl
  have e2 : (s.cells.map PyData.int).dropLast = xs.map PyData.int := by rw [h]; simp
  have e3 : (s.cells.map PyData.int)[(s.cells.map PyData.int).length - 1]? = some (.int v) := by rw [h]; simp
  rw [e, e3, e2, fl_cells]
  rfl
def sF (i : Nat) (k : Key) (e : EV) (ρ1 : Env') : RS := match fzV e with
  | .d y => match dnAt i ρ1 with
    | some kvs => match fget k kvs, fsetD k y kvs with
      | some (.d _), some kvs' => if kvs.length < sizeLine then .nx (dnPut i kvs' ρ1) else .bad
      | _, _ => .bad
    | none => .bad
  | _ => .bad
@[simp] theorem sFld_ap {i : Nat} {k : Key} : sFld i k m ρ = (m ρ).toS (sF i k) := rfl
theorem four : (4 : Nat) < sizeLine := by decide
@[simp] theorem sF_left : sF 0 (.inr ("left" : Str)) (.d (.int v)) (some (.b (srcM s)) :: ρ) = .nx (some (.b (srcM { s with left := v })) :: ρ) := by
  have e : sF 0 (.inr ("left" : Str)) (.d (.int v)) (some (.b (srcM s)) :: ρ) = if 4 < sizeLine then RS.nx (some (.b (srcM { s with left := v })) :: ρ) else .bad := rfl
  rw [e, if_pos four]
@[simp] theorem sF_mixed : sF 0 (.inr ("mixed" : Str)) (.d (.int v)) (some (.b (srcM s)) :: ρ) = .nx (some (.b (srcM { s with mixed := v })) :: ρ) := by
  have e : sF 0 (.inr ("mixed" : Str)) (.d (.int v)) (some (.b (srcM s)) :: ρ) = if 4 < sizeLine then RS.nx (some (.b (srcM { s with mixed := v })) :: ρ) else .bad := rfl
  rw [e, if_pos four]
@[simp] theorem sF_turn : sF 0 (.inr ("turn" : Str)) (.d (.int v)) (some (.b (srcM s)) :: ρ) = .nx (some (.b (srcM { s with turn := v })) :: ρ) := by
  have e : sF 0 (.inr ("turn" : Str)) (.d (.int v)) (some (.b (srcM s)) :: ρ) = if 4 < sizeLine then RS.nx (some (.b (srcM { s with turn := v })) :: ρ) else .bad := rfl
  rw [e, if_pos four]
end
def cellN : Env' → Nat
  | some (.b (.dn ((_, .l xs) :: _))) :: _ => xs.length
  | _ => 0
theorem cellN_src {s : Src} {ρ : Env'} : cellN (some (.b (srcM s)) :: ρ) = s.cells.length := by
  show (s.cells.map PyData.int).length = _
  rw [List.length_map]
theorem pick_sp (s : Src) (many : Int) (hm : many < 1073741824) : ∃ (r : Int) (s' : Src), 0 ≤ r ∧ r < max 1 many ∧ fm_pick [.b (srcM s), .d (.int many)] = .ok (.d (.int r)) [some (.b (srcM s')), some (.d (.int many))] := by
  have lp : ∃ s', sWhile (mAnd (mTB (mBin fGt (getV 1) (cst (.int 1)))) (mAnd (mTB (mBin fLt (gFld 0 (.inr ("left" : Str))) (cst (.int 2)))) (mTB (mBin fGt (gFldLen 0 (.inr ("cells" : Str))) (cst (.int 0)))))) (sFld 0 (.inr ("left" : Str)) (gFldPop 0 (.inr ("cells" : Str))))
      [some (.b (srcM s)), some (.d (.int many)), none, none] = .nx [some (.b (srcM s')), some (.d (.int many)), none, none] := by
    refine sWhile_ind (fun ρ => ∃ s', ρ = [some (.b (srcM s')), some (.d (.int many)), none, none]) cellN (fun r => ∃ s', r = .nx [some (.b (srcM s')), some (.d (.int many)), none, none]) ?_ _ _ (Nat.le_refl _) ⟨s, rfl⟩
    rintro ρ ⟨t, rfl⟩
    by_cases h : (1 < many ∧ t.left < 2) ∧ 0 < t.cells.length
    · obtain ⟨⟨h1, h2⟩, h3⟩ := h
      obtain ⟨xs, v, hc⟩ : ∃ xs v, t.cells = xs ++ [v] := ⟨t.cells.dropLast, t.cells.getLast (by intro z; rw [z] at h3; cases h3), (List.dropLast_concat_getLast _).symm⟩
      refine ⟨true, [some (.b (srcM t)), some (.d (.int many)), none, none], ?_, .inr ⟨rfl, .inl ⟨[some (.b (srcM { t with cells := xs, left := v })), some (.d (.int many)), none, none], ?_, ⟨_, rfl⟩, ?_⟩⟩⟩
      · have h4 : (0 : Int) < t.cells.length := by omega
        simp [h1, h2]; omega
      · left
        rw [sFld_ap, gF_pop hc]
        simp
      · rw [cellN_src, cellN_src, hc]; simp
    · refine ⟨false, [some (.b (srcM t)), some (.d (.int many)), none, none], ?_, .inl ⟨rfl, t, rfl⟩⟩
      by_cases h1 : 1 < many
      · by_cases h2 : t.left < 2
        · have h3 : ¬ (0 : Int) < t.cells.length := fun z => h ⟨⟨h1, h2⟩, by omega⟩
          simp [h1, h2]; cases q : t.cells with | nil => rfl | cons a r => exact absurd (show (0 : Int) < t.cells.length by rw [q]; simp) h3
        · simp [h1, h2]
      · simp [h1]
  obtain ⟨s1, lp⟩ := lp
  have fin : ∀ (r : Int) (s' : Src) (x y : Option SV), s_pick [some (.b (srcM s)), some (.d (.int many)), none, none] = .rt (.d (.int r)) [some (.b (srcM s')), some (.d (.int many)), x, y] →
      fm_pick [.b (srcM s), .d (.int many)] = .ok (.d (.int r)) [some (.b (srcM s')), some (.d (.int many))] := fun r s' x y h => by
    show endF [some (.b (srcM s)), some (.d (.int many))] (s_pick [some (.b (srcM s)), some (.d (.int many)), none, none]) = _
    rw [h]
    simp
  have hmx : (if many > 1 then many else 1) = max 1 many := by split <;> omega
  have hp : (0 : Int) < max 1 many := by omega
  by_cases hb : many < 2 ∨ 1 < s1.left
  · refine ⟨s1.left % max 1 many, { s1 with left := s1.left / max 1 many }, Int.emod_nonneg _ (by omega), Int.emod_lt_of_pos _ (by omega), fin _ _ (some (.d (.int s1.left))) none ?_⟩
    have hd : (0 : Int) < max 1 many ∧ max 1 many < 1073741824 := ⟨hp, by omega⟩
    unfold s_pick
    rw [sSeq_ap, lp]
    simp [hmx, fDiv_ok hd, fMod_ok hp, hb]
  · have h1 : ¬ many < 2 := fun z => hb (.inl z)
    have h2 : ¬ 1 < s1.left := fun z => hb (.inr z)
    have hm2 : 0 < many := by omega
    generalize ht : s1.turn + 1 = t1
    generalize hx : (s1.mixed + t1 * 104729) % 998244353 = x1
    have hx0 : 0 ≤ x1 := by rw [← hx]; exact Int.emod_nonneg _ (by decide)
    have hx1 : x1 < 998244353 := by rw [← hx]; exact Int.emod_lt_of_pos _ (by decide)
    generalize hy : (x1 * x1 + t1 * 17) % 2147483647 = y1
    have m1 : fMulS (.int t1) (.int 104729) = some (.d (.int (t1 * 104729))) := fMulS_ok (.inr (by decide))
    have m2 : fMulS (.int x1) (.int x1) = some (.d (.int (x1 * x1))) := fMulS_ok (.inr ⟨by omega, by omega⟩)
    have m3 : fMulS (.int t1) (.int 17) = some (.d (.int (t1 * 17))) := fMulS_ok (.inr (by decide))
    refine ⟨y1 / 16 % many, { s1 with turn := t1, mixed := y1 }, Int.emod_nonneg _ (by omega), ?_, fin _ _ (some (.d (.int s1.left))) (some (.d (.int y1))) ?_⟩
    · have := Int.emod_lt_of_pos (y1 / 16) hm2
      omega
    · unfold s_pick
      rw [sSeq_ap, lp]
      simp [h1, h2, ht, hx, hy, m1, m2, m3, fMod_ok, fDiv_ok, hm2]
theorem of_sp (s : Src) (xs : List D) (h0 : xs ≠ []) (hl : xs.length < 1073741824) (tup : Bool) : ∃ (i : Nat) (x : D) (s' : Src), xs[i]? = some x ∧
    fm_of [.b (srcM s), .d (if tup then .tuple xs else .list xs)] = .ok (.d x) [some (.b (srcM s')), some (.d (if tup then .tuple xs else .list xs))] := by
  have hp : 0 < xs.length := List.length_pos_iff.mpr h0
  obtain ⟨r, s', h1, h2, h3⟩ := pick_sp s xs.length (by omega)
  obtain ⟨k, rfl⟩ := Int.eq_ofNat_of_zero_le h1
  have hk : k < xs.length := by omega
  refine ⟨k, xs[k], s', List.getElem?_eq_getElem hk, ?_⟩
  cases tup with
  | true =>
    show endF _ (s_of [some (.b (srcM s)), some (.d (.tuple xs))]) = _
    unfold s_of
    simp [h3, hk]
  | false =>
    show endF _ (s_of [some (.b (srcM s)), some (.d (.list xs))]) = _
    unfold s_of
    simp [h3, hk]
theorem of_t (s : Src) (xs : List D) (h0 : xs ≠ []) (hl : xs.length < 1073741824) : ∃ (i : Nat) (x : D) (s' : Src), xs[i]? = some x ∧ fm_of [.b (srcM s), .d (.tuple xs)] = .ok (.d x) [some (.b (srcM s')), some (.d (.tuple xs))] := of_sp s xs h0 hl true
theorem of_l (s : Src) (xs : List D) (h0 : xs ≠ []) (hl : xs.length < 1073741824) : ∃ (i : Nat) (x : D) (s' : Src), xs[i]? = some x ∧ fm_of [.b (srcM s), .d (.list xs)] = .ok (.d x) [some (.b (srcM s')), some (.d (.list xs))] := of_sp s xs h0 hl false
theorem source_sp (ns : List Int) (hn : ns.length ≤ sizeLine) : ∃ s : Src, fm_source [.scr ns] = .ok (.fr (srcM s)) [some (.scr ns)] := by
  have lp : ∃ (v : Int) (x : Option SV), pl x = true ∧ fL (asgN false 2) (sAsg (asgN false 1) (mBin fMod (mCall gInt (aCons (mBin fAdd (mBin fAdd (mBin fMulS (getV 1) (cst (.int 69069))) (mBin fMulS (getV 2) (cst (.int 31)))) (cst (.int 5))) aNil)) (cst (.int 2147483629))))
      (ns.map .int) [some (.scr ns), some (.d (.int 11)), none] = .nx [some (.scr ns), some (.d (.int v)), x] := by
    refine fL_ind (fun _ ρ => ∃ (v : Int) (x : Option SV), pl x = true ∧ ρ = [some (.scr ns), some (.d (.int v)), x]) (fun r => ∃ (v : Int) (x : Option SV), pl x = true ∧ r = .nx [some (.scr ns), some (.d (.int v)), x]) (ns.map .int) 0 _ ?_ ?_ ⟨11, none, rfl, rfl⟩
    · rintro i d ρ hd ⟨v, x, hx, rfl⟩
      obtain ⟨n, rfl⟩ : ∃ n : Int, d = .int n := by
        rw [List.getElem?_map] at hd
        cases q : ns[i]? with
        | none => rw [q] at hd; cases hd
        | some n => rw [q] at hd; cases hd; exact ⟨n, rfl⟩
      have m1 : fMulS (.int v) (.int 69069) = some (.d (.int (v * 69069))) := fMulS_ok (.inr (by decide))
      have m2 : fMulS (.int n) (.int 31) = some (.d (.int (n * 31))) := fMulS_ok (.inr (by decide))
      exact ⟨[some (.scr ns), some (.d (.int v)), some (.d (.int n))], by simp [hx], .inl ⟨[some (.scr ns), some (.d (.int ((v * 69069 + n * 31 + 5) % 2147483629))), some (.d (.int n))], .inl (by simp [m1, m2, fMod_ok]), _, _, rfl, rfl⟩⟩
    · rintro ρ ⟨v, x, hx, rfl⟩
      exact ⟨v, x, hx, rfl⟩
  obtain ⟨v, x, hx, lp⟩ := lp
  have cm : ∃ acc : List Int, cL [2] (asgN false 2) tYes' (mCall gAbs (aCons (getV 2) aNil)) (ns.map .int) [] [some (.scr ns), some (.d (.int v)), none] = .ok (acc.map .int) [some (.scr ns), some (.d (.int v)), none] := by
    obtain ⟨acc', ρ', h1, ⟨acc, rfl⟩, rfl⟩ := cL_ind (vs := [2]) (asg := asgN false 2) (tt := tYes') (te := mCall gAbs (aCons (getV 2) aNil)) (fun _ acc ρ => (∃ a : List Int, acc = a.map .int) ∧ ρ = [some (.scr ns), some (.d (.int v)), none]) (ns.map .int) 0 [] [some (.scr ns), some (.d (.int v)), none] (by
      rintro i d acc ρ hd ⟨⟨a, rfl⟩, rfl⟩
      obtain ⟨n, rfl⟩ : ∃ n : Int, d = .int n := by
        rw [List.getElem?_map] at hd
        cases q : ns[i]? with
        | none => rw [q] at hd; cases hd
        | some n => rw [q] at hd; cases hd; exact ⟨n, rfl⟩
      exact ⟨_, true, _, by simp; rfl, rfl, .inr ⟨rfl, .d (.int (if n < 0 then -n else n)), .int (if n < 0 then -n else n), [some (.scr ns), some (.d (.int v)), some (.d (.int n))], by simp, rfl, ⟨a ++ [if n < 0 then -n else n], by simp⟩, by simp⟩⟩) (by simp; exact hn) ⟨⟨[], rfl⟩, rfl⟩
    exact ⟨acc, h1⟩
  obtain ⟨acc, cm⟩ := cm
  refine ⟨⟨acc.reverse, 1, v, 0⟩, ?_⟩
  have hr : mRev (mLc (iSeq (getV 0)) [2] (asgN false 2) tYes' (mCall gAbs (aCons (getV 2) aNil))) [some (.scr ns), some (.d (.int v)), x] = .ok (.fr (.lst ((acc.map .int).reverse))) [some (.scr ns), some (.d (.int v)), x] := by
    refine mRev_l ?_
    simp [hx, cm]
  show endF [some (.scr ns)] (s_source [some (.scr ns), none, none]) = _
  unfold s_source
  simp [lp, hr]
  rw [if_pos (by decide), ← List.map_reverse]
  rfl
end Mi
/-! text MiT -/
set_option Elab.async false
set_option linter.all false
set_option maxRecDepth 100000
set_option maxHeartbeats 4000000
/-! MiT: more of computing. -/
namespace Mi
open PySem PySem.Spec PyProof.Rows L2
@[simp] theorem truD_b {k : Bool} : truD (.bool k) = some k := rfl
@[simp] theorem truD_n : truD .none = some false := rfl
@[simp] theorem truD_i {k : Int} : truD (.int k) = some (k != 0) := rfl
@[simp] theorem truD_l {x : List D} : truD (.list x) = some (!x.isEmpty) := rfl
@[simp] theorem truD_t {x : List D} : truD (.tuple x) = some (!x.isEmpty) := rfl
/-! ### equality -/
@[simp] theorem fEq_ap {a b : D} : fEq a b = (eqO a b).map fun k => .d (.bool k) := rfl
@[simp] theorem fNe_ap {a b : D} : fNe a b = (eqO a b).map fun k => .d (.bool !k) := rfl
@[simp] theorem eqO_ii {i j : Int} : eqO (.int i) (.int j) = some (i == j) := rfl
@[simp] theorem eqO_in {i : Int} : eqO (.int i) .none = some false := rfl
@[simp] theorem eqO_ni {i : Int} : eqO .none (.int i) = some false := rfl
@[simp] theorem eqO_nn : eqO .none .none = some true := rfl
@[simp] theorem eqO_ss {x y : Str} : eqO (.str x) (.str y) = some (x == y) := rfl
@[simp] theorem fIn_ap {a b : D} : fIn a b = (inD a b).map fun k => .d (.bool k) := rfl
@[simp] theorem fNotIn_ap {a b : D} : fNotIn a b = (inD a b).map fun k => .d (.bool !k) := rfl
@[simp] theorem inD_t {a : D} {xs : List D} : inD a (.tuple xs) = (flD a).bind fun x => (flDs xs).map fun vs => inV x vs := rfl
@[simp] theorem flD_i {i : Int} : flD (.int i) = some (.int i) := rfl
@[simp] theorem flD_n : flD .none = some .non := rfl
@[simp] theorem flD_s {x : Str} : flD (.str x) = some (.str x) := rfl
@[simp] theorem flD_b {x : Bool} : flD (.bool x) = some (.bl x) := rfl
@[simp] theorem flDs_nil : flDs [] = some [] := rfl
@[simp] theorem flDs_cons {d : D} {ds : List D} : flDs (d :: ds) = (flD d).bind fun v => (flDs ds).map fun vs => v :: vs := rfl
@[simp] theorem inV_cons {x y : V} {ys : List V} : inV x (y :: ys) = (eqV y x || inV x ys) := by unfold inV; rw [List.any_cons]
@[simp] theorem inV_nil {x : V} : inV x [] = false := rfl
@[simp] theorem eqV_ii {i j : Int} : eqV (.int i) (.int j) = (i == j) := rfl
@[simp] theorem eqV_in {i : Int} : eqV (.int i) .non = false := rfl
@[simp] theorem eqV_ni {i : Int} : eqV .non (.int i) = false := rfl
@[simp] theorem eqV_nn : eqV .non .non = true := rfl
@[simp] theorem eqV_ss {x y : Str} : eqV (.str x) (.str y) = (x == y) := rfl
/-- every star's items -/
def stB (ms : Env' → R (List EV)) (e : EV) (ρ1 : Env') : R (List EV) := match (dV ρ1 e).bind starD with
  | some xs => (ms ρ1).bind fun es ρ2 => .ok (xs.map .d ++ es) ρ2
  | none => .bad
@[simp] theorem aStar_ap {m : Env' → R EV} {ms : Env' → R (List EV)} {ρ : Env'} : aStar m ms ρ = (m ρ).bind (stB ms) := rfl
@[simp] theorem stB_t {ms : Env' → R (List EV)} {ρ : Env'} {xs : List D} : stB ms (.d (.tuple xs)) ρ = (ms ρ).bind fun es ρ2 => .ok (xs.map .d ++ es) ρ2 := rfl
@[simp] theorem stB_l {ms : Env' → R (List EV)} {ρ : Env'} {xs : List D} : stB ms (.d (.list xs)) ρ = (ms ρ).bind fun es ρ2 => .ok (xs.map .d ++ es) ρ2 := rfl
theorem sz1 (n : Nat) (h : n ≤ 1000000 := by decide) : n ≤ sizeLine := by rw [sizeLine_eq]; omega
end Mi
/-! text MiU -/
set_option Elab.async false
set_option linter.all false
set_option maxRecDepth 100000
set_option maxHeartbeats 4000000
/-! MiU: more of computing. -/
namespace Mi
open PySem PySem.Spec PyProof.Rows L2
@[simp] theorem atI_zero {α : Type} (xs : List α) : L2.atI xs 0 = xs[0]? := atI_nat xs 0
@[simp] theorem atI_one {α : Type} (xs : List α) : L2.atI xs 1 = xs[1]? := atI_nat xs 1
@[simp] theorem atI_two {α : Type} (xs : List α) : L2.atI xs 2 = xs[2]? := atI_nat xs 2
@[simp] theorem atI_last {α : Type} (xs : List α) : L2.atI xs (-1) = xs[xs.length - 1]? := by
  unfold L2.atI L2.ixN
  rw [if_neg (show ¬ (0 : Int) ≤ -1 by omega)]
  cases xs with
  | nil => rfl
  | cons a r =>
    simp only [List.length_cons, Nat.add_sub_cancel]
    split
    · rename_i h
      have e : (-1 + ((r.length + 1 : Nat) : Int)).toNat = r.length := by omega
      simp only [e, Option.bind_some]
    · rename_i h
      exact absurd (show -((r.length + 1 : Nat) : Int) ≤ -1 by omega) h
theorem cL_map {vs : List Nat} {asg : Asg} {te : Env' → R EV} {ρw : Env'} (xs : List D) (f : Nat → D) (hn : xs.length ≤ sizeLine)
    (h : ∀ i d, xs[i]? = some d → ∃ ρ1 e ρ2, asg (.d d) ρw = some ρ1 ∧ te ρ1 = .ok e ρ2 ∧ fzV e = .d (f i) ∧ wipeE ρ2 vs = ρw) : cL vs asg tYes' te xs [] ρw = .ok ((List.range xs.length).map f) ρw := by
  obtain ⟨acc, ρ', h1, rfl, rfl⟩ := cL_ind (vs := vs) (asg := asg) (tt := tYes') (te := te) (fun i acc ρ => acc = (List.range i).map f ∧ ρ = ρw) xs 0 [] ρw (by
    rintro i d acc ρ hd ⟨rfl, rfl⟩
    obtain ⟨ρ1, e, ρ2, q1, q2, q3, q4⟩ := h i d hd
    refine ⟨ρ1, true, ρ1, q1, rfl, .inr ⟨rfl, e, f i, ρ2, q2, q3, ?_, q4⟩⟩
    have e0 : 0 + (i + 1) = (0 + i) + 1 := by omega
    rw [e0, List.range_succ, List.map_append]
    simp) (by simpa using hn) ⟨rfl, rfl⟩
  rw [h1]
  simp
theorem rng1_n (n : Nat) (h : n < 1000000) : rng1 [.d (.int (n : Int))] = some ((List.range n).map fun k => .int (k : Nat)) := by
  rw [rng1_ok ⟨by omega, by omega⟩]
  simp
theorem rngL (n i : Nat) {d : D} (h : ((List.range n).map fun k => (PyData.int (k : Nat) : D))[i]? = some d) : i < n ∧ d = .int (i : Nat) := by
  rw [List.getElem?_map] at h
  cases q : (List.range n)[i]? with
  | none => rw [q] at h; cases h
  | some v =>
    rw [q] at h; cases h
    have hi : i < n := by
      have := (List.getElem?_eq_some_iff.mp q).1
      simpa using this
    rw [List.getElem?_range hi] at q
    cases q
    exact ⟨hi, rfl⟩
theorem iCall_r1 {ms : Env' → R (List EV)} {ρ ρ1 : Env'} (n : Nat) (h : n < 1000000) (hm : ms ρ = .ok [.d (.int (n : Int))] ρ1) : iCall rng1 ms ρ = .ok ((List.range n).map fun k => .int (k : Nat)) ρ1 := by
  unfold iCall
  rw [hm, R.bind_ok, rng1_n n h]
  rfl
theorem mLc_ok {mi : Env' → R (List D)} {vs : List Nat} {asg : Asg} {tt : Env' → R Bool} {te : Env' → R EV} {ρ ρ1 ρ2 : Env'} {xs acc : List D} (h1 : mi ρ = .ok xs ρ1) (h2 : okVs ρ1 vs = true) (h3 : cL vs asg tt te xs [] (wipeE ρ1 vs) = .ok acc ρ2) :
    mLc mi vs asg tt te ρ = .ok (.fr (.lst acc)) (mergeE ρ1 ρ2 vs) := by
  rw [mLc_ap, h1, R.bind_ok, if_pos h2, h3]
  rfl
end Mi
/-! text MiV -/
set_option Elab.async false
set_option linter.all false
set_option maxRecDepth 100000
set_option maxHeartbeats 4000000
/-! MiV: computing forward: what holds behind a computation. -/
namespace Mi
open PySem PySem.Spec PyProof.Rows L2

/-- behind the computation: Q of the value, E of an error -/
inductive sat {α : Type} : R α → (α → Env' → Prop) → (Ex → Env' → Prop) → Prop
  | ok {a : α} {ρ : Env'} {Q : α → Env' → Prop} {E : Ex → Env' → Prop} : Q a ρ → sat (.ok a ρ) Q E
  | exc {x : Ex} {ρ : Env'} {Q : α → Env' → Prop} {E : Ex → Env' → Prop} : E x ρ → sat (.exc x ρ) Q E
/-- behind the statement -/
inductive ws : RS → (RS → Prop) → Prop
  | nx {ρ : Env'} {q : RS → Prop} : q (.nx ρ) → ws (.nx ρ) q
  | rt {e : EV} {ρ : Env'} {q : RS → Prop} : q (.rt e ρ) → ws (.rt e ρ) q
  | bk {ρ : Env'} {q : RS → Prop} : q (.bk ρ) → ws (.bk ρ) q
  | ct {ρ : Env'} {q : RS → Prop} : q (.ct ρ) → ws (.ct ρ) q
  | exc {x : Ex} {ρ : Env'} {q : RS → Prop} : q (.exc x ρ) → ws (.exc x ρ) q
def thenQ (f : Env' → RS) (Q : RS → Prop) : RS → Prop
  | .nx ρ => ws (f ρ) Q
  | r => Q r
/-- behind a turn of a loop -/
def lpQ (I : Env' → Prop) (Q : RS → Prop) : RS → Prop
  | .nx ρ => I ρ
  | .ct ρ => I ρ
  | .rt e ρ => Q (.rt e ρ)
  | .bk ρ => Q (.nx ρ)
  | .exc x ρ => Q (.exc x ρ)
  | .bad => False
def R.env : Option Env' → R Unit
  | some ρ => .ok () ρ
  | none => .bad
section
variable {α β : Type} {r r' : R α} {f : α → Env' → R β} {g : α → Env' → RS} {k : Env' → RS} {Q : α → Env' → Prop} {Qb : β → Env' → Prop} {E : Ex → Env' → Prop} {q : RS → Prop} {t t' : RS} {ρ ρ1 : Env'} {I : Env' → Prop}
@[simp] theorem sat_ok {a : α} : sat (.ok a ρ) Q E = Q a ρ := propext ⟨fun h => by cases h; assumption, .ok⟩
@[simp] theorem sat_exc {x : Ex} : sat (.exc x ρ : R α) Q E = E x ρ := propext ⟨fun h => by cases h; assumption, .exc⟩
@[simp] theorem sat_bad : sat (.bad : R α) Q E = False := propext ⟨fun h => (nomatch h), False.elim⟩
@[simp] theorem sat_bind : sat (r.bind f) Qb E = sat r (fun a ρ => sat (f a ρ) Qb E) E := by cases r <;> simp
@[simp] theorem sat_ite {p : Prop} [Decidable p] {x y : R α} : sat (if p then x else y) Q E = if p then sat x Q E else sat y Q E := by split <;> rfl
@[simp] theorem ws_nx : ws (.nx ρ) q = q (.nx ρ) := propext ⟨fun h => by cases h; assumption, .nx⟩
@[simp] theorem ws_rt {e : EV} : ws (.rt e ρ) q = q (.rt e ρ) := propext ⟨fun h => by cases h; assumption, .rt⟩
@[simp] theorem ws_bk : ws (.bk ρ) q = q (.bk ρ) := propext ⟨fun h => by cases h; assumption, .bk⟩
@[simp] theorem ws_ct : ws (.ct ρ) q = q (.ct ρ) := propext ⟨fun h => by cases h; assumption, .ct⟩
@[simp] theorem ws_exc {x : Ex} : ws (.exc x ρ) q = q (.exc x ρ) := propext ⟨fun h => by cases h; assumption, .exc⟩
@[simp] theorem ws_bad : ws .bad q = False := propext ⟨fun h => (nomatch h), False.elim⟩
@[simp] theorem ws_toS : ws (r.toS g) q = sat r (fun a ρ => ws (g a ρ) q) (fun x ρ => q (.exc x ρ)) := by cases r <;> simp
@[simp] theorem ws_ite {p : Prop} [Decidable p] {x y : RS} : ws (if p then x else y) q = if p then ws x q else ws y q := by split <;> rfl
@[simp] theorem thenQ_nx : thenQ k q (.nx ρ) = ws (k ρ) q := (rfl)
@[simp] theorem thenQ_rt {e : EV} : thenQ k q (.rt e ρ) = q (.rt e ρ) := (rfl)
@[simp] theorem thenQ_bk : thenQ k q (.bk ρ) = q (.bk ρ) := (rfl)
@[simp] theorem thenQ_ct : thenQ k q (.ct ρ) = q (.ct ρ) := (rfl)
@[simp] theorem thenQ_exc {x : Ex} : thenQ k q (.exc x ρ) = q (.exc x ρ) := (rfl)
@[simp] theorem lpQ_nx : lpQ I q (.nx ρ) = I ρ := (rfl)
@[simp] theorem lpQ_ct : lpQ I q (.ct ρ) = I ρ := (rfl)
@[simp] theorem lpQ_rt {e : EV} : lpQ I q (.rt e ρ) = q (.rt e ρ) := (rfl)
@[simp] theorem lpQ_bk : lpQ I q (.bk ρ) = q (.nx ρ) := (rfl)
@[simp] theorem lpQ_exc {x : Ex} : lpQ I q (.exc x ρ) = q (.exc x ρ) := (rfl)
@[simp] theorem ws_then : ws (t.then k) q = ws t (thenQ k q) := by cases t <;> simp [RS.then, thenQ]
@[simp] theorem env_some : R.env (some ρ) = .ok () ρ := (rfl)
theorem sat_of {v : α} (h : r = .ok v ρ) (hq : Q v ρ) : sat r Q E := by rw [h]; exact .ok hq
theorem sat_get (h : sat r Q fun _ _ => False) : ∃ v ρ, r = .ok v ρ ∧ Q v ρ := by
  cases h with
  | ok h => exact ⟨_, _, rfl, h⟩
  | exc h => exact h.elim
theorem sat_mono {Q' : α → Env' → Prop} {E' : Ex → Env' → Prop} (h : sat r Q E) (hq : ∀ a ρ, Q a ρ → Q' a ρ) (he : ∀ x ρ, E x ρ → E' x ρ) : sat r Q' E' := by
  cases h with
  | ok h => exact .ok (hq _ _ h)
  | exc h => exact .exc (he _ _ h)
theorem ws_mono {q' : RS → Prop} (h : ws t q) (hq : ∀ r, q r → q' r) : ws t q' := by
  cases h with
  | nx h => exact .nx (hq _ h)
  | rt h => exact .rt (hq _ h)
  | bk h => exact .bk (hq _ h)
  | ct h => exact .ct (hq _ h)
  | exc h => exact .exc (hq _ h)
theorem ws_out (h : ws t q) : q t := by
  cases h <;> assumption
/-- to compute the statement, forward -/
theorem ws_in {b : RS} {v : RS} (h : ws b fun r => r = v) : b = v := ws_out (q := fun r => r = v) h
theorem ws_eq {v : RS} (h : t = v) (hq : ws v q) : ws t q := by rw [h]; exact hq
end
/-! ### loops -/
section
variable {asg : Asg} {b : Env' → RS} {c : Env' → R Bool} {q : RS → Prop} {ρ : Env'} {xs : List D}
theorem ws_loop {I : Env' → Prop} {t : RS} {k : Env' → RS} (h : ws t (lpQ I q)) (hk : ∀ ρ, I ρ → ws (k ρ) q) : ws (t.loop k) q := by
  cases h with
  | nx h => exact hk _ h
  | ct h => exact hk _ h
  | rt h => exact .rt h
  | bk h => exact .nx h
  | exc h => exact .exc h
theorem fL_cons {d : D} {ds : List D} : fL asg b (d :: ds) ρ = (RS.ofO (asg (.d d) ρ)).then fun ρ1 => (b ρ1).loop (fL asg b ds) := (rfl)
theorem fL_nil : fL asg b [] ρ = .nx ρ := (rfl)
theorem ws_fL' (I : Nat → Env' → Prop) : ∀ (xs : List D) (k : Nat) (ρ : Env'),
    (∀ i d ρ, xs[i]? = some d → I (k + i) ρ → ws ((RS.ofO (asg (.d d) ρ)).then b) (lpQ (I (k + (i + 1))) q)) → (∀ ρ, I (k + xs.length) ρ → ws (.nx ρ) q) → I k ρ → ws (fL asg b xs ρ) q
  | [], k, ρ, _, hd, h => hd ρ h
  | d :: ds, k, ρ, hs, hd, h => by
    have h1 := hs 0 d ρ rfl h
    rw [fL_cons]
    cases e : asg (.d d) ρ with
    | none => rw [e] at h1; exact (nomatch h1)
    | some ρ1 =>
      rw [e] at h1
      have h2 : ws (b ρ1) (lpQ (I (k + (0 + 1))) q) := h1
      show ws ((b ρ1).loop (fL asg b ds)) q
      refine ws_loop h2 fun ρ2 hI => ?_
      refine ws_fL' I ds (k + 1) ρ2 (fun i d' ρ' hi hI => ?_) (fun ρ' hI => hd ρ' ?_) hI
      · have := hs (i + 1) d' ρ' (by simpa using hi) (by rw [show k + (i + 1) = k + 1 + i by omega]; exact hI)
        have e : k + (i + 1 + 1) = k + 1 + (i + 1) := by omega
        rw [e] at this; exact this
      · have e : k + (d :: ds).length = k + 1 + ds.length := by simp; omega
        rw [e]; exact hI
theorem ws_fL (I : Nat → Env' → Prop) (h0 : I 0 ρ) (hs : ∀ i d ρ, xs[i]? = some d → I i ρ → ws ((RS.ofO (asg (.d d) ρ)).then b) (lpQ (I (i + 1)) q)) (hd : ∀ ρ, I xs.length ρ → ws (.nx ρ) q) : ws (fL asg b xs ρ) q := by
  refine ws_fL' I xs 0 ρ (fun i d ρ hi hI => ?_) (fun ρ hI => hd ρ ?_) h0
  · rw [Nat.zero_add] at hI
    rw [Nat.zero_add]
    exact hs i d ρ hi hI
  · rwa [Nat.zero_add] at hI
theorem ws_while' (I : Env' → Prop) (μ : Env' → Nat) (hs : ∀ ρ, I ρ → sat (c ρ) (fun t ρ1 => if t = true then ws (b ρ1) (lpQ (fun ρ2 => I ρ2 ∧ μ ρ2 < μ ρ) q) else q (.nx ρ1)) (fun x ρ1 => q (.exc x ρ1))) : ∀ (n : Nat) (ρ : Env'), μ ρ ≤ n → I ρ → ws (sWhile c b ρ) q
  | n, ρ, hn, h => by
    have h1 := hs ρ h
    rw [sWhile_eq]
    cases e : c ρ with
    | bad => rw [e] at h1; exact (nomatch h1)
    | exc x ρ1 =>
      rw [e, sat_exc] at h1
      exact .exc h1
    | ok t ρ1 =>
      rw [e, sat_ok] at h1
      cases t with
      | false => exact .nx h1
      | true =>
        have h2 : ws (b ρ1) (lpQ (fun ρ2 => I ρ2 ∧ μ ρ2 < μ ρ) q) := h1
        show ws ((b ρ1).loop (sWhile c b)) q
        refine ws_loop h2 fun ρ2 ⟨hI, hm⟩ => ?_
        cases n with
        | zero => omega
        | succ n => exact ws_while' I μ hs n ρ2 (by omega) hI
theorem ws_while (I : Env' → Prop) (μ : Env' → Nat) (h0 : I ρ) (hs : ∀ ρ, I ρ → sat (c ρ) (fun t ρ1 => if t = true then ws (b ρ1) (lpQ (fun ρ2 => I ρ2 ∧ μ ρ2 < μ ρ) q) else q (.nx ρ1)) (fun x ρ1 => q (.exc x ρ1))) : ws (sWhile c b ρ) q :=
  ws_while' I μ hs _ ρ (Nat.le_refl _) h0
end
/-! ### comprehensions -/
section
variable {vs : List Nat} {asg : Asg} {tt : Env' → R Bool} {te : Env' → R EV} {xs : List D} {ρ0 ρ1 : Env'} {Q : EV → Env' → Prop} {E : Ex → Env' → Prop}
theorem sat_lc (I : Nat → List D → Env' → Prop) (hl : xs.length ≤ sizeLine) (h0 : I 0 [] ρ0)
    (hs : ∀ i d acc ρ, xs[i]? = some d → I i acc ρ → sat (R.env (asg (.d d) ρ)) (fun _ ρ2 => sat (tt ρ2) (fun t ρ3 => if t = true then sat (te ρ3) (fun e ρ4 => ∃ y, fzV e = .d y ∧ I (i + 1) (acc ++ [y]) (wipeE ρ4 vs)) (fun _ _ => False) else I (i + 1) acc (wipeE ρ3 vs)) (fun _ _ => False)) (fun _ _ => False))
    (hd : ∀ acc ρ2, I xs.length acc ρ2 → Q (.fr (.lst acc)) (mergeE ρ1 ρ2 vs)) : sat (lcE vs ρ1 (cL vs asg tt te xs [] ρ0)) Q E := by
  obtain ⟨acc, ρ2, e, h⟩ := cL_ind (vs := vs) (asg := asg) (tt := tt) (te := te) I xs 0 [] ρ0 (fun i d acc ρ hi hI => by
    rw [Nat.zero_add] at hI
    rw [Nat.zero_add]
    have h1 := hs i d acc ρ hi hI
    cases e1 : asg (.d d) ρ with
    | none => rw [e1] at h1; exact (nomatch h1)
    | some ρ2 =>
      rw [e1, env_some, sat_ok] at h1
      obtain ⟨t, ρ3, e2, h2⟩ := sat_get h1
      refine ⟨ρ2, t, ρ3, rfl, e2, ?_⟩
      cases t with
      | false => exact .inl ⟨rfl, h2⟩
      | true =>
        rw [if_pos rfl] at h2
        obtain ⟨e, ρ4, e3, y, e4, h3⟩ := sat_get h2
        exact .inr ⟨rfl, e, y, ρ4, e3, e4, h3⟩) (by simpa using hl) h0
  rw [Nat.zero_add] at h
  rw [e]
  exact .ok (hd acc ρ2 h)
/-- each item by itself -/
theorem sat_lcMap (f : D → D) (hl : xs.length ≤ sizeLine)
    (hs : ∀ d, d ∈ xs → sat (R.env (asg (.d d) ρ0)) (fun _ ρ2 => sat (te ρ2) (fun e ρ4 => fzV e = .d (f d) ∧ wipeE ρ4 vs = ρ0) (fun _ _ => False)) (fun _ _ => False))
    (hd : Q (.fr (.lst (xs.map f))) (mergeE ρ1 ρ0 vs)) : sat (lcE vs ρ1 (cL vs asg tYes' te xs [] ρ0)) Q E := by
  refine sat_lc (fun i acc ρ => acc = (xs.take i).map f ∧ ρ = ρ0) hl ⟨rfl, rfl⟩ ?_ ?_
  · rintro i d acc ρ hi ⟨rfl, rfl⟩
    refine sat_mono (hs d (List.mem_of_getElem? hi)) (fun _ ρ2 h => ?_) (fun _ _ z => z)
    rw [tYes_ap, sat_ok, if_pos rfl]
    refine sat_mono h (fun e ρ4 h => ⟨f d, h.1, ?_, h.2⟩) (fun _ _ z => z)
    rw [List.take_add_one, hi]; simp
  · rintro acc ρ2 ⟨rfl, rfl⟩
    rw [List.take_of_length_le (Nat.le_refl _)]; exact hd
/-- .. and only some -/
theorem sat_lcFilter (p : D → Bool) (f : D → D) (hl : xs.length ≤ sizeLine)
    (hs : ∀ d, d ∈ xs → sat (R.env (asg (.d d) ρ0)) (fun _ ρ2 => sat (tt ρ2) (fun t ρ3 => t = p d ∧ if p d = true then sat (te ρ3) (fun e ρ4 => fzV e = .d (f d) ∧ wipeE ρ4 vs = ρ0) (fun _ _ => False) else wipeE ρ3 vs = ρ0) (fun _ _ => False)) (fun _ _ => False))
    (hd : Q (.fr (.lst ((xs.filter p).map f))) (mergeE ρ1 ρ0 vs)) : sat (lcE vs ρ1 (cL vs asg tt te xs [] ρ0)) Q E := by
  refine sat_lc (fun i acc ρ => acc = ((xs.take i).filter p).map f ∧ ρ = ρ0) hl ⟨rfl, rfl⟩ ?_ ?_
  · rintro i d acc ρ hi ⟨rfl, rfl⟩
    refine sat_mono (hs d (List.mem_of_getElem? hi)) (fun _ ρ2 h => ?_) (fun _ _ z => z)
    refine sat_mono h (fun t ρ3 h => ?_) (fun _ _ z => z)
    obtain ⟨rfl, h⟩ := h
    cases q : p d with
    | false =>
      rw [q, if_neg (by decide)] at h
      rw [if_neg (by decide)]
      refine ⟨?_, h⟩
      rw [List.take_add_one, hi]; simp [q]
    | true =>
      rw [q, if_pos rfl] at h
      rw [if_pos rfl]
      refine sat_mono h (fun e ρ4 h => ⟨f d, h.1, ?_, h.2⟩) (fun _ _ z => z)
      rw [List.take_add_one, hi]; simp [q]
  · rintro acc ρ2 ⟨rfl, rfl⟩
    rw [List.take_of_length_le (Nat.le_refl _)]; exact hd
/-- draws: the source stands in slot j -/
theorem sat_lcDraw (j : Nat) (g : MO → SV) (s : Src) (P : D → Prop) (hl : xs.length ≤ sizeLine) (h0 : ρ0.set j (some (g (srcM s))) = ρ0)
    (hs : ∀ s d, d ∈ xs → sat (R.env (asg (.d d) (ρ0.set j (some (g (srcM s)))))) (fun _ ρ2 => sat (te ρ2) (fun e ρ4 => ∃ y s', fzV e = .d y ∧ P y ∧ wipeE ρ4 vs = ρ0.set j (some (g (srcM s')))) (fun _ _ => False)) (fun _ _ => False))
    (hd : ∀ ds s', ds.length = xs.length → (∀ d ∈ ds, P d) → Q (.fr (.lst ds)) (mergeE ρ1 (ρ0.set j (some (g (srcM s')))) vs)) : sat (lcE vs ρ1 (cL vs asg tYes' te xs [] ρ0)) Q E := by
  refine sat_lc (fun i acc ρ => acc.length = i ∧ (∀ d ∈ acc, P d) ∧ ∃ s, ρ = ρ0.set j (some (g (srcM s)))) hl ⟨rfl, by simp, s, h0.symm⟩ ?_ ?_
  · rintro i d acc ρ hi ⟨h1, h2, s, rfl⟩
    refine sat_mono (hs s d (List.mem_of_getElem? hi)) (fun _ ρ2 h => ?_) (fun _ _ z => z)
    rw [tYes_ap, sat_ok, if_pos rfl]
    refine sat_mono h (fun e ρ4 ⟨y, s', h3, h4, h5⟩ => ⟨y, h3, by simp [h1], ?_, s', h5⟩) (fun _ _ z => z)
    intro d' hd'
    rcases List.mem_append.mp hd' with q | q
    · exact h2 d' q
    · rw [List.mem_singleton.mp q]; exact h4
  · rintro acc ρ2 ⟨h1, h2, s, rfl⟩
    exact hd acc s h1 h2
end
/-! ### draws -/
section
variable {s : Src} {many : Int} {es : List EV} {ρ : Env'} {Q : EV → Env' → Prop} {E : Ex → Env' → Prop}
theorem sat_pick (hm : many < 1073741824) (h : ∀ r s', 0 ≤ r → r < max 1 many → sat (retF [.b (srcM s), .d (.int many)] es ρ (.ok (.d (.int r)) [some (.b (srcM s')), some (.d (.int many))])) Q E) :
    sat (retF [.b (srcM s), .d (.int many)] es ρ (fm_pick [.b (srcM s), .d (.int many)])) Q E := by
  obtain ⟨r, s', h0, h1, e⟩ := pick_sp s many hm
  rw [e]; exact h r s' h0 h1
theorem sat_pickN (n : Nat) (hm : n < 1073741824) (h : ∀ (r : Nat) s', r < max 1 n → sat (retF [.b (srcM s), .d (.int (n : Nat))] es ρ (.ok (.d (.int (r : Nat))) [some (.b (srcM s')), some (.d (.int (n : Nat)))])) Q E) :
    sat (retF [.b (srcM s), .d (.int (n : Nat))] es ρ (fm_pick [.b (srcM s), .d (.int (n : Nat))])) Q E := by
  obtain ⟨r, s', h0, h1, e⟩ := pick_sp s n (by omega)
  obtain ⟨k, rfl⟩ := Int.eq_ofNat_of_zero_le h0
  rw [e]; exact h k s' (by omega)
theorem sat_of_l {xs : List D} (h0 : xs ≠ []) (hl : xs.length < 1073741824) (h : ∀ x s', x ∈ xs → sat (retF [.b (srcM s), .d (.list xs)] es ρ (.ok (.d x) [some (.b (srcM s')), some (.d (.list xs))])) Q E) :
    sat (retF [.b (srcM s), .d (.list xs)] es ρ (fm_of [.b (srcM s), .d (.list xs)])) Q E := by
  obtain ⟨i, x, s', h1, e⟩ := of_l s xs h0 hl
  rw [e]; exact h x s' (List.mem_of_getElem? h1)
theorem sat_of_t {xs : List D} (h0 : xs ≠ []) (hl : xs.length < 1073741824) (h : ∀ x s', x ∈ xs → sat (retF [.b (srcM s), .d (.tuple xs)] es ρ (.ok (.d x) [some (.b (srcM s')), some (.d (.tuple xs))])) Q E) :
    sat (retF [.b (srcM s), .d (.tuple xs)] es ρ (fm_of [.b (srcM s), .d (.tuple xs)])) Q E := by
  obtain ⟨i, x, s', h1, e⟩ := of_t s xs h0 hl
  rw [e]; exact h x s' (List.mem_of_getElem? h1)
end
end Mi
/-! text MiW -/
set_option Elab.async false
set_option linter.all false
set_option maxRecDepth 100000
set_option maxHeartbeats 4000000
/-! MiW: computing forward, one frame at a time (no computation stands under a binder). -/
namespace Mi
open PySem PySem.Spec PyProof.Rows L2

def satO {α : Type} : Option α → (α → Env' → Prop) → Env' → Prop
  | some v, Q, ρ => Q v ρ
  | none, _, _ => False
def wsO : Option Env' → (RS → Prop) → Prop
  | some ρ, q => q (.nx ρ)
  | none, _ => False
def excQ (q : RS → Prop) : Ex → Env' → Prop := fun x ρ => q (.exc x ρ)
def noE : Ex → Env' → Prop := fun _ _ => False
section
variable {α : Type} {Q : α → Env' → Prop} {q : RS → Prop} {ρ : Env'} {v : α} {k : Env' → RS} {o : Option α}
@[simp] theorem satO_some : satO (some v) Q ρ = Q v ρ := (by (first | rfl | exact sat_ok | exact sat_bad | exact ws_nx | exact ws_rt | exact ws_bk | exact ws_ct | exact ws_bad | exact ws_exc | (congr 1; funext _ _; exact sat_ok) | (congr 1; funext _ _; first | exact ws_nx)))
@[simp] theorem satO_none : satO (none : Option α) Q ρ = False := (by (first | rfl | exact sat_ok | exact sat_bad | exact ws_nx | exact ws_rt | exact ws_bk | exact ws_ct | exact ws_bad | exact ws_exc | (congr 1; funext _ _; exact sat_ok) | (congr 1; funext _ _; first | exact ws_nx)))
@[simp] theorem wsO_some : wsO (some ρ) q = q (.nx ρ) := (by (first | rfl | exact sat_ok | exact sat_bad | exact ws_nx | exact ws_rt | exact ws_bk | exact ws_ct | exact ws_bad | exact ws_exc | (congr 1; funext _ _; exact sat_ok) | (congr 1; funext _ _; first | exact ws_nx)))
@[simp] theorem wsO_none : wsO none q = False := (by (first | rfl | exact sat_ok | exact sat_bad | exact ws_nx | exact ws_rt | exact ws_bk | exact ws_ct | exact ws_bad | exact ws_exc | (congr 1; funext _ _; exact sat_ok) | (congr 1; funext _ _; first | exact ws_nx)))
@[simp] theorem excQ_ap {x : Ex} : excQ q x ρ = q (.exc x ρ) := (by (first | rfl | exact sat_ok | exact sat_bad | exact ws_nx | exact ws_rt | exact ws_bk | exact ws_ct | exact ws_bad | exact ws_exc | (congr 1; funext _ _; exact sat_ok) | (congr 1; funext _ _; first | exact ws_nx)))
@[simp] theorem sat_ofO {E : Ex → Env' → Prop} : sat (R.ofO o ρ) Q E = satO o Q ρ := by cases o <;> (first | rfl | exact sat_ok | exact sat_bad | exact ws_nx | exact ws_rt | exact ws_bk | exact ws_ct | exact ws_bad | exact ws_exc | (congr 1; funext _ _; exact sat_ok) | (congr 1; funext _ _; first | exact ws_nx))
theorem satO_if {p : Prop} [Decidable p] : satO (if p then some v else none) Q ρ = (p ∧ Q v ρ) := by
  by_cases h : p <;> simp [h]
theorem satO_map {β : Type} {f : β → α} {o : Option β} : satO (o.map f) Q ρ = satO o (fun b => Q (f b)) ρ := by cases o <;> (first | rfl | exact sat_ok | exact sat_bad | exact ws_nx | exact ws_rt | exact ws_bk | exact ws_ct | exact ws_bad | exact ws_exc | (congr 1; funext _ _; exact sat_ok) | (congr 1; funext _ _; first | exact ws_nx))
end
/-! ### the slots' objects as data -/
def dA : Option (Option SV) → Option D
  | some (some sv) => sv.obj?.bind snapR
  | _ => none
@[simp] theorem dV_al' {ρ : Env'} {i : Nat} : dV ρ (.al i) = dA ρ[i]? := by
  show (match ρ[i]? with | some (some sv) => sv.obj?.bind snapR | _ => none) = _
  unfold dA
  cases ρ[i]? with
  | none => (first | rfl | exact sat_ok | exact sat_bad | exact ws_nx | exact ws_rt | exact ws_bk | exact ws_ct | exact ws_bad | exact ws_exc | (congr 1; funext _ _; exact sat_ok) | (congr 1; funext _ _; first | exact ws_nx))
  | some o => cases o <;> (first | rfl | exact sat_ok | exact sat_bad | exact ws_nx | exact ws_rt | exact ws_bk | exact ws_ct | exact ws_bad | exact ws_exc | (congr 1; funext _ _; exact sat_ok) | (congr 1; funext _ _; first | exact ws_nx))
@[simp] theorem dA_ol {xs : List D} : dA (some (some (.o (.lst xs)))) = some (.list xs) := (by (first | rfl | exact sat_ok | exact sat_bad | exact ws_nx | exact ws_rt | exact ws_bk | exact ws_ct | exact ws_bad | exact ws_exc | (congr 1; funext _ _; exact sat_ok) | (congr 1; funext _ _; first | exact ws_nx)))
@[simp] theorem dA_bl {xs : List D} : dA (some (some (.b (.lst xs)))) = some (.list xs) := (by (first | rfl | exact sat_ok | exact sat_bad | exact ws_nx | exact ws_rt | exact ws_bk | exact ws_ct | exact ws_bad | exact ws_exc | (congr 1; funext _ _; exact sat_ok) | (congr 1; funext _ _; first | exact ws_nx)))
@[simp] theorem dA_ok {xs : List (Key × D)} : dA (some (some (.o (.dk xs)))) = some (.dict (xs.map fun p => (kD p.1, p.2))) := (by (first | rfl | exact sat_ok | exact sat_bad | exact ws_nx | exact ws_rt | exact ws_bk | exact ws_ct | exact ws_bad | exact ws_exc | (congr 1; funext _ _; exact sat_ok) | (congr 1; funext _ _; first | exact ws_nx)))
@[simp] theorem dA_bk {xs : List (Key × D)} : dA (some (some (.b (.dk xs)))) = some (.dict (xs.map fun p => (kD p.1, p.2))) := (by (first | rfl | exact sat_ok | exact sat_bad | exact ws_nx | exact ws_rt | exact ws_bk | exact ws_ct | exact ws_bad | exact ws_exc | (congr 1; funext _ _; exact sat_ok) | (congr 1; funext _ _; first | exact ws_nx)))
@[simp] theorem dA_ot {xs : List (List Key × D)} : dA (some (some (.o (.dt xs)))) = some (.dict ((.none, .none) :: xs.map fun p => (.tuple (p.1.map kD), p.2))) := (by (first | rfl | exact sat_ok | exact sat_bad | exact ws_nx | exact ws_rt | exact ws_bk | exact ws_ct | exact ws_bad | exact ws_exc | (congr 1; funext _ _; exact sat_ok) | (congr 1; funext _ _; first | exact ws_nx)))
/-! ### expressions -/
section
variable {a b c : Env' → R EV} {t t2 : Env' → R Bool} {ms : Env' → R (List EV)} {l u : Env' → R (Option Int)} {f g : D → D → Option EV} {fu : D → Option EV} {Q : EV → Env' → Prop} {Qb : Bool → Env' → Prop} {Qs : List EV → Env' → Prop} {Qo : Option Int → Env' → Prop} {Qd : List D → Env' → Prop}
  {E : Ex → Env' → Prop} {ρ : Env'} {e e1 e2 : EV} {i : Nat} {d : D} {es : List EV}
@[simp ↓] theorem s_getV : sat (getV i ρ) Q E = sat (gV ρ[i]? i ρ) Q E := by rw [getV_ap]
@[simp ↓] theorem s_cst : sat (cst d ρ) Q E = Q (.d d) ρ := (by (first | rfl | exact sat_ok | exact sat_bad | exact ws_nx | exact ws_rt | exact ws_bk | exact ws_ct | exact ws_bad | exact ws_exc | (congr 1; funext _ _; exact sat_ok) | (congr 1; funext _ _; first | exact ws_nx)))
def kBin1 (f : D → D → Option EV) (b : Env' → R EV) (Q : EV → Env' → Prop) (E : Ex → Env' → Prop) (e : EV) (ρ : Env') : Prop := sat (b ρ) (fun e2 ρ2 => sat (op2 f e e2 ρ2) Q E) E
def kBin2 (f : D → D → Option EV) (e : EV) (Q : EV → Env' → Prop) (e2 : EV) (ρ : Env') : Prop := satO ((dV ρ (fzV e)).bind fun a => (dV ρ e2).bind fun b => f a b) Q ρ
@[simp ↓] theorem s_mBin : sat (mBin f a b ρ) Q E = sat (a ρ) (kBin1 f b Q E) E := by
  show sat ((a ρ).bind _) Q E = _
  rw [sat_bind]
  congr 1
  funext e1 ρ1
  rw [sat_bind]; (first | rfl | exact sat_ok | exact sat_bad | exact ws_nx | exact ws_rt | exact ws_bk | exact ws_ct | exact ws_bad | exact ws_exc | (congr 1; funext _ _; exact sat_ok) | (congr 1; funext _ _; first | exact ws_nx))
@[simp] theorem kBin1_ap : kBin1 f b Q E e ρ = sat (b ρ) (kBin2 f e Q) E := by
  unfold kBin1
  congr 1
  funext e2 ρ2
  exact sat_ofO
@[simp] theorem kBin2_ap : kBin2 f e Q e2 ρ = satO ((dV ρ (fzV e)).bind fun a => (dV ρ e2).bind fun b => f a b) Q ρ := (by (first | rfl | exact sat_ok | exact sat_bad | exact ws_nx | exact ws_rt | exact ws_bk | exact ws_ct | exact ws_bad | exact ws_exc | (congr 1; funext _ _; exact sat_ok) | (congr 1; funext _ _; first | exact ws_nx)))
def kUn (f : D → Option EV) (Q : EV → Env' → Prop) (e : EV) (ρ : Env') : Prop := satO ((dV ρ e).bind f) Q ρ
@[simp ↓] theorem s_mUn : sat (mUn fu a ρ) Q E = sat (a ρ) (kUn fu Q) E := by
  show sat ((a ρ).bind _) Q E = _
  rw [sat_bind]; congr 1; funext e1 ρ1; exact sat_ofO
@[simp] theorem kUn_ap : kUn fu Q e ρ = satO ((dV ρ e).bind fu) Q ρ := (by (first | rfl | exact sat_ok | exact sat_bad | exact ws_nx | exact ws_rt | exact ws_bk | exact ws_ct | exact ws_bad | exact ws_exc | (congr 1; funext _ _; exact sat_ok) | (congr 1; funext _ _; first | exact ws_nx)))
def kTB (Q : Bool → Env' → Prop) (e : EV) (ρ : Env') : Prop := satO (evB e) Q ρ
@[simp ↓] theorem s_mTB : sat (mTB a ρ) Qb E = sat (a ρ) (kTB Qb) E := by
  show sat ((a ρ).bind _) Qb E = _
  rw [sat_bind]; congr 1; funext e1 ρ1; exact sat_ofO
@[simp] theorem kTB_ap {x : Bool} : kTB Qb (.d (.bool x)) ρ = Qb x ρ := (by (first | rfl | exact sat_ok | exact sat_bad | exact ws_nx | exact ws_rt | exact ws_bk | exact ws_ct | exact ws_bad | exact ws_exc | (congr 1; funext _ _; exact sat_ok) | (congr 1; funext _ _; first | exact ws_nx)))
def kNot (Q : Bool → Env' → Prop) (x : Bool) (ρ : Env') : Prop := Q (!x) ρ
@[simp ↓] theorem s_mNot : sat (mNot t ρ) Qb E = sat (t ρ) (kNot Qb) E := by
  show sat ((t ρ).bind _) Qb E = _
  rw [sat_bind]; (first | rfl | exact sat_ok | exact sat_bad | exact ws_nx | exact ws_rt | exact ws_bk | exact ws_ct | exact ws_bad | exact ws_exc | (congr 1; funext _ _; exact sat_ok) | (congr 1; funext _ _; first | exact ws_nx))
@[simp] theorem kNot_ap {x : Bool} : kNot Qb x ρ = Qb (!x) ρ := (by (first | rfl | exact sat_ok | exact sat_bad | exact ws_nx | exact ws_rt | exact ws_bk | exact ws_ct | exact ws_bad | exact ws_exc | (congr 1; funext _ _; exact sat_ok) | (congr 1; funext _ _; first | exact ws_nx)))
def kAnd (t2 : Env' → R Bool) (Q : Bool → Env' → Prop) (E : Ex → Env' → Prop) (x : Bool) (ρ : Env') : Prop := match x with | true => sat (t2 ρ) Q E | false => Q false ρ
def kOr (t2 : Env' → R Bool) (Q : Bool → Env' → Prop) (E : Ex → Env' → Prop) (x : Bool) (ρ : Env') : Prop := match x with | true => Q true ρ | false => sat (t2 ρ) Q E
@[simp ↓] theorem s_mAnd : sat (mAnd t t2 ρ) Qb E = sat (t ρ) (kAnd t2 Qb E) E := by
  show sat ((t ρ).bind _) Qb E = _
  rw [sat_bind]; congr 1; funext x ρ1; cases x <;> (first | rfl | exact sat_ok | exact sat_bad | exact ws_nx | exact ws_rt | exact ws_bk | exact ws_ct | exact ws_bad | exact ws_exc | (congr 1; funext _ _; exact sat_ok) | (congr 1; funext _ _; first | exact ws_nx))
@[simp ↓] theorem s_mOr : sat (mOr t t2 ρ) Qb E = sat (t ρ) (kOr t2 Qb E) E := by
  show sat ((t ρ).bind _) Qb E = _
  rw [sat_bind]; congr 1; funext x ρ1; cases x <;> (first | rfl | exact sat_ok | exact sat_bad | exact ws_nx | exact ws_rt | exact ws_bk | exact ws_ct | exact ws_bad | exact ws_exc | (congr 1; funext _ _; exact sat_ok) | (congr 1; funext _ _; first | exact ws_nx))
@[simp] theorem kAnd_t : kAnd t2 Qb E true ρ = sat (t2 ρ) Qb E := (by (first | rfl | exact sat_ok | exact sat_bad | exact ws_nx | exact ws_rt | exact ws_bk | exact ws_ct | exact ws_bad | exact ws_exc | (congr 1; funext _ _; exact sat_ok) | (congr 1; funext _ _; first | exact ws_nx)))
@[simp] theorem kAnd_f : kAnd t2 Qb E false ρ = Qb false ρ := (by (first | rfl | exact sat_ok | exact sat_bad | exact ws_nx | exact ws_rt | exact ws_bk | exact ws_ct | exact ws_bad | exact ws_exc | (congr 1; funext _ _; exact sat_ok) | (congr 1; funext _ _; first | exact ws_nx)))
@[simp] theorem kOr_t : kOr t2 Qb E true ρ = Qb true ρ := (by (first | rfl | exact sat_ok | exact sat_bad | exact ws_nx | exact ws_rt | exact ws_bk | exact ws_ct | exact ws_bad | exact ws_exc | (congr 1; funext _ _; exact sat_ok) | (congr 1; funext _ _; first | exact ws_nx)))
@[simp] theorem kOr_f : kOr t2 Qb E false ρ = sat (t2 ρ) Qb E := (by (first | rfl | exact sat_ok | exact sat_bad | exact ws_nx | exact ws_rt | exact ws_bk | exact ws_ct | exact ws_bad | exact ws_exc | (congr 1; funext _ _; exact sat_ok) | (congr 1; funext _ _; first | exact ws_nx)))
def kAndV (b : Env' → R EV) (Q : EV → Env' → Prop) (E : Ex → Env' → Prop) (e : EV) (ρ : Env') : Prop := match evB e with | some true => sat (b ρ) Q E | some false => Q (.d (.bool false)) ρ | none => False
def kOrV (b : Env' → R EV) (Q : EV → Env' → Prop) (E : Ex → Env' → Prop) (e : EV) (ρ : Env') : Prop := match evB e with | some true => Q (.d (.bool true)) ρ | some false => sat (b ρ) Q E | none => False
def kNotV (Q : EV → Env' → Prop) (e : EV) (ρ : Env') : Prop := satO ((evB e).map fun b => .d (.bool !b)) Q ρ
@[simp ↓] theorem s_mAndV : sat (mAndV a b ρ) Q E = sat (a ρ) (kAndV b Q E) E := by
  rw [mAndV_ap, sat_bind]; congr 1; funext e ρ1; unfold kAndV brB
  cases evB e with
  | none => (first | rfl | exact sat_ok | exact sat_bad | exact ws_nx | exact ws_rt | exact ws_bk | exact ws_ct | exact ws_bad | exact ws_exc | (congr 1; funext _ _; exact sat_ok) | (congr 1; funext _ _; first | exact ws_nx))
  | some x => cases x <;> (first | rfl | exact sat_ok | exact sat_bad | exact ws_nx | exact ws_rt | exact ws_bk | exact ws_ct | exact ws_bad | exact ws_exc | (congr 1; funext _ _; exact sat_ok) | (congr 1; funext _ _; first | exact ws_nx))
@[simp ↓] theorem s_mOrV : sat (mOrV a b ρ) Q E = sat (a ρ) (kOrV b Q E) E := by
  rw [mOrV_ap, sat_bind]; congr 1; funext e ρ1; unfold kOrV brB
  cases evB e with
  | none => (first | rfl | exact sat_ok | exact sat_bad | exact ws_nx | exact ws_rt | exact ws_bk | exact ws_ct | exact ws_bad | exact ws_exc | (congr 1; funext _ _; exact sat_ok) | (congr 1; funext _ _; first | exact ws_nx))
  | some x => cases x <;> (first | rfl | exact sat_ok | exact sat_bad | exact ws_nx | exact ws_rt | exact ws_bk | exact ws_ct | exact ws_bad | exact ws_exc | (congr 1; funext _ _; exact sat_ok) | (congr 1; funext _ _; first | exact ws_nx))
@[simp ↓] theorem s_mNotV : sat (mNotV a ρ) Q E = sat (a ρ) (kNotV Q) E := by
  rw [mNotV_ap, sat_bind]; congr 1; funext e ρ1; exact sat_ofO
@[simp] theorem kAndV_t : kAndV b Q E (.d (.bool true)) ρ = sat (b ρ) Q E := (by (first | rfl | exact sat_ok | exact sat_bad | exact ws_nx | exact ws_rt | exact ws_bk | exact ws_ct | exact ws_bad | exact ws_exc | (congr 1; funext _ _; exact sat_ok) | (congr 1; funext _ _; first | exact ws_nx)))
@[simp] theorem kAndV_f : kAndV b Q E (.d (.bool false)) ρ = Q (.d (.bool false)) ρ := (by (first | rfl | exact sat_ok | exact sat_bad | exact ws_nx | exact ws_rt | exact ws_bk | exact ws_ct | exact ws_bad | exact ws_exc | (congr 1; funext _ _; exact sat_ok) | (congr 1; funext _ _; first | exact ws_nx)))
@[simp] theorem kOrV_t : kOrV b Q E (.d (.bool true)) ρ = Q (.d (.bool true)) ρ := (by (first | rfl | exact sat_ok | exact sat_bad | exact ws_nx | exact ws_rt | exact ws_bk | exact ws_ct | exact ws_bad | exact ws_exc | (congr 1; funext _ _; exact sat_ok) | (congr 1; funext _ _; first | exact ws_nx)))
@[simp] theorem kOrV_f : kOrV b Q E (.d (.bool false)) ρ = sat (b ρ) Q E := (by (first | rfl | exact sat_ok | exact sat_bad | exact ws_nx | exact ws_rt | exact ws_bk | exact ws_ct | exact ws_bad | exact ws_exc | (congr 1; funext _ _; exact sat_ok) | (congr 1; funext _ _; first | exact ws_nx)))
@[simp] theorem kNotV_b {x : Bool} : kNotV Q (.d (.bool x)) ρ = Q (.d (.bool !x)) ρ := (by (first | rfl | exact sat_ok | exact sat_bad | exact ws_nx | exact ws_rt | exact ws_bk | exact ws_ct | exact ws_bad | exact ws_exc | (congr 1; funext _ _; exact sat_ok) | (congr 1; funext _ _; first | exact ws_nx)))
def kIf (a b : Env' → R EV) (Q : EV → Env' → Prop) (E : Ex → Env' → Prop) (x : Bool) (ρ : Env') : Prop := match x with | true => sat (a ρ) Q E | false => sat (b ρ) Q E
@[simp ↓] theorem s_mIf : sat (mIf t a b ρ) Q E = sat (t ρ) (kIf a b Q E) E := by
  show sat ((t ρ).bind _) Q E = _
  rw [sat_bind]; congr 1; funext x ρ1; cases x <;> (first | rfl | exact sat_ok | exact sat_bad | exact ws_nx | exact ws_rt | exact ws_bk | exact ws_ct | exact ws_bad | exact ws_exc | (congr 1; funext _ _; exact sat_ok) | (congr 1; funext _ _; first | exact ws_nx))
@[simp] theorem kIf_t : kIf a b Q E true ρ = sat (a ρ) Q E := (by (first | rfl | exact sat_ok | exact sat_bad | exact ws_nx | exact ws_rt | exact ws_bk | exact ws_ct | exact ws_bad | exact ws_exc | (congr 1; funext _ _; exact sat_ok) | (congr 1; funext _ _; first | exact ws_nx)))
@[simp] theorem kIf_f : kIf a b Q E false ρ = sat (b ρ) Q E := (by (first | rfl | exact sat_ok | exact sat_bad | exact ws_nx | exact ws_rt | exact ws_bk | exact ws_ct | exact ws_bad | exact ws_exc | (congr 1; funext _ _; exact sat_ok) | (congr 1; funext _ _; first | exact ws_nx)))
def kCh3 (g : D → D → Option EV) (c : Env' → R EV) (e2 : EV) (Q : EV → Env' → Prop) (E : Ex → Env' → Prop) (ρ : Env') : Option EV → Prop
  | some (.d (.bool true)) => sat (c ρ) (kBin2 g (fzV e2) Q) E
  | some (.d (.bool false)) => Q (.d (.bool false)) ρ
  | _ => False
def kCh2 (f g : D → D → Option EV) (c : Env' → R EV) (e : EV) (Q : EV → Env' → Prop) (E : Ex → Env' → Prop) (e2 : EV) (ρ : Env') : Prop := kCh3 g c e2 Q E ρ ((dV ρ (fzV e)).bind fun a => (dV ρ (fzV e2)).bind fun b => f a b)
def kCh1 (f g : D → D → Option EV) (b c : Env' → R EV) (Q : EV → Env' → Prop) (E : Ex → Env' → Prop) (e : EV) (ρ : Env') : Prop := sat (b ρ) (kCh2 f g c e Q E) E
@[simp] theorem kCh3_t : kCh3 g c e2 Q E ρ (some (.d (.bool true))) = sat (c ρ) (kBin2 g (fzV e2) Q) E := (by (first | rfl | exact sat_ok | exact sat_bad | exact ws_nx | exact ws_rt | exact ws_bk | exact ws_ct | exact ws_bad | exact ws_exc | (congr 1; funext _ _; exact sat_ok) | (congr 1; funext _ _; first | exact ws_nx)))
@[simp] theorem kCh3_f : kCh3 g c e2 Q E ρ (some (.d (.bool false))) = Q (.d (.bool false)) ρ := (by (first | rfl | exact sat_ok | exact sat_bad | exact ws_nx | exact ws_rt | exact ws_bk | exact ws_ct | exact ws_bad | exact ws_exc | (congr 1; funext _ _; exact sat_ok) | (congr 1; funext _ _; first | exact ws_nx)))
@[simp ↓] theorem s_mChain : sat (mChain f g a b c ρ) Q E = sat (a ρ) (kCh1 f g b c Q E) E := by
  rw [mChain_ap, sat_bind]; congr 1; funext e ρ1
  rw [sat_bind]; unfold kCh1; congr 1; funext e2 ρ2
  unfold kCh2
  generalize ((dV ρ2 (fzV e)).bind fun a => (dV ρ2 (fzV e2)).bind fun b => f a b) = o
  have bad : ∀ o', (∀ b, o' ≠ some (EV.d (.bool b))) → sat (chB o' ((c ρ2).bind fun e3 ρ3 => op2 g (fzV e2) e3 ρ3) (.ok (.d (.bool false)) ρ2)) Q E = kCh3 g c e2 Q E ρ2 o' := fun o' h => by
    cases o' with
    | none => (first | rfl | exact sat_ok | exact sat_bad | exact ws_nx | exact ws_rt | exact ws_bk | exact ws_ct | exact ws_bad | exact ws_exc | (congr 1; funext _ _; exact sat_ok) | (congr 1; funext _ _; first | exact ws_nx))
    | some v =>
      cases v with
      | d x =>
        cases x with
        | bool b => exact absurd rfl (h b)
        | _ => (first | rfl | exact sat_ok | exact sat_bad | exact ws_nx | exact ws_rt | exact ws_bk | exact ws_ct | exact ws_bad | exact ws_exc | (congr 1; funext _ _; exact sat_ok) | (congr 1; funext _ _; first | exact ws_nx))
      | _ => (first | rfl | exact sat_ok | exact sat_bad | exact ws_nx | exact ws_rt | exact ws_bk | exact ws_ct | exact ws_bad | exact ws_exc | (congr 1; funext _ _; exact sat_ok) | (congr 1; funext _ _; first | exact ws_nx))
  cases o with
  | none => exact bad _ fun b z => by cases z
  | some v =>
    cases v with
    | d x =>
      cases x with
      | bool b =>
        cases b with
        | true =>
          show sat ((c ρ2).bind _) Q E = _
          rw [sat_bind, kCh3_t]; congr 1; funext e3 ρ3; exact sat_ofO
        | false => (first | rfl | exact sat_ok | exact sat_bad | exact ws_nx | exact ws_rt | exact ws_bk | exact ws_ct | exact ws_bad | exact ws_exc | (congr 1; funext _ _; exact sat_ok) | (congr 1; funext _ _; first | exact ws_nx))
      | _ => exact bad _ fun b z => by cases z
    | _ => exact bad _ fun b z => by cases z
@[simp] theorem kCh1_ap : kCh1 f g b c Q E e ρ = sat (b ρ) (kCh2 f g c e Q E) E := (by (first | rfl | exact sat_ok | exact sat_bad | exact ws_nx | exact ws_rt | exact ws_bk | exact ws_ct | exact ws_bad | exact ws_exc | (congr 1; funext _ _; exact sat_ok) | (congr 1; funext _ _; first | exact ws_nx)))
@[simp] theorem kCh2_ap : kCh2 f g c e Q E e2 ρ = kCh3 g c e2 Q E ρ ((dV ρ (fzV e)).bind fun a => (dV ρ (fzV e2)).bind fun b => f a b) := (by (first | rfl | exact sat_ok | exact sat_bad | exact ws_nx | exact ws_rt | exact ws_bk | exact ws_ct | exact ws_bad | exact ws_exc | (congr 1; funext _ _; exact sat_ok) | (congr 1; funext _ _; first | exact ws_nx)))
def kTru (Q : Bool → Env' → Prop) (e : EV) (ρ : Env') : Prop := satO ((dV ρ e).bind truD) Q ρ
@[simp ↓] theorem s_mTru : sat (mTru a ρ) Qb E = sat (a ρ) (kTru Qb) E := by
  show sat ((a ρ).bind _) Qb E = _
  rw [sat_bind]; congr 1; funext e1 ρ1; exact sat_ofO
@[simp] theorem kTru_ap : kTru Qb e ρ = satO ((dV ρ e).bind truD) Qb ρ := (by (first | rfl | exact sat_ok | exact sat_bad | exact ws_nx | exact ws_rt | exact ws_bk | exact ws_ct | exact ws_bad | exact ws_exc | (congr 1; funext _ _; exact sat_ok) | (congr 1; funext _ _; first | exact ws_nx)))
@[simp ↓] theorem s_aNil : sat (aNil ρ) Qs E = Qs [] ρ := (by (first | rfl | exact sat_ok | exact sat_bad | exact ws_nx | exact ws_rt | exact ws_bk | exact ws_ct | exact ws_bad | exact ws_exc | (congr 1; funext _ _; exact sat_ok) | (congr 1; funext _ _; first | exact ws_nx)))
def kA1 (ms : Env' → R (List EV)) (Q : List EV → Env' → Prop) (E : Ex → Env' → Prop) (e : EV) (ρ : Env') : Prop := sat (ms ρ) (fun es ρ2 => Q (fzV e :: es) ρ2) E
def kA2 (e : EV) (Q : List EV → Env' → Prop) (es : List EV) (ρ : Env') : Prop := Q (e :: es) ρ
@[simp ↓] theorem s_aCons : sat (aCons a ms ρ) Qs E = sat (a ρ) (kA1 ms Qs E) E := by
  show sat ((a ρ).bind _) Qs E = _
  rw [sat_bind]; congr 1; funext e1 ρ1
  rw [sat_bind]; (first | rfl | exact sat_ok | exact sat_bad | exact ws_nx | exact ws_rt | exact ws_bk | exact ws_ct | exact ws_bad | exact ws_exc | (congr 1; funext _ _; exact sat_ok) | (congr 1; funext _ _; first | exact ws_nx))
@[simp] theorem kA1_ap : kA1 ms Qs E e ρ = sat (ms ρ) (kA2 (fzV e) Qs) E := (by (first | rfl | exact sat_ok | exact sat_bad | exact ws_nx | exact ws_rt | exact ws_bk | exact ws_ct | exact ws_bad | exact ws_exc | (congr 1; funext _ _; exact sat_ok) | (congr 1; funext _ _; first | exact ws_nx)))
@[simp] theorem kA2_ap : kA2 e Qs es ρ = Qs (e :: es) ρ := (by (first | rfl | exact sat_ok | exact sat_bad | exact ws_nx | exact ws_rt | exact ws_bk | exact ws_ct | exact ws_bad | exact ws_exc | (congr 1; funext _ _; exact sat_ok) | (congr 1; funext _ _; first | exact ws_nx)))
def kO1 (ms : Env' → R (List EV)) (Q : List EV → Env' → Prop) (E : Ex → Env' → Prop) (e : EV) (ρ : Env') : Prop := match e with | .al _ => False | e => sat (ms ρ) (kA2 e Q) E
@[simp ↓] theorem s_oCons : sat (oCons a ms ρ) Qs E = sat (a ρ) (kO1 ms Qs E) E := by
  rw [oCons_ap, sat_bind]; congr 1; funext e1 ρ1
  cases e1 with
  | al i => (first | rfl | exact sat_ok | exact sat_bad | exact ws_nx | exact ws_rt | exact ws_bk | exact ws_ct | exact ws_bad | exact ws_exc | (congr 1; funext _ _; exact sat_ok) | (congr 1; funext _ _; first | exact ws_nx))
  | d x => rw [oC_d, sat_bind]; (first | rfl | exact sat_ok | exact sat_bad | exact ws_nx | exact ws_rt | exact ws_bk | exact ws_ct | exact ws_bad | exact ws_exc | (congr 1; funext _ _; exact sat_ok) | (congr 1; funext _ _; first | exact ws_nx))
  | fr x => rw [oC_fr, sat_bind]; (first | rfl | exact sat_ok | exact sat_bad | exact ws_nx | exact ws_rt | exact ws_bk | exact ws_ct | exact ws_bad | exact ws_exc | (congr 1; funext _ _; exact sat_ok) | (congr 1; funext _ _; first | exact ws_nx))
@[simp] theorem kO1_d {x : D} : kO1 ms Qs E (.d x) ρ = sat (ms ρ) (kA2 (.d x) Qs) E := (by (first | rfl | exact sat_ok | exact sat_bad | exact ws_nx | exact ws_rt | exact ws_bk | exact ws_ct | exact ws_bad | exact ws_exc | (congr 1; funext _ _; exact sat_ok) | (congr 1; funext _ _; first | exact ws_nx)))
@[simp] theorem kO1_fr {x : MO} : kO1 ms Qs E (.fr x) ρ = sat (ms ρ) (kA2 (.fr x) Qs) E := (by (first | rfl | exact sat_ok | exact sat_bad | exact ws_nx | exact ws_rt | exact ws_bk | exact ws_ct | exact ws_bad | exact ws_exc | (congr 1; funext _ _; exact sat_ok) | (congr 1; funext _ _; first | exact ws_nx)))
def kS2 (xs : List D) (Q : List EV → Env' → Prop) (es : List EV) (ρ : Env') : Prop := Q (xs.map .d ++ es) ρ
def kS1 (ms : Env' → R (List EV)) (Q : List EV → Env' → Prop) (E : Ex → Env' → Prop) (ρ : Env') : Option (List D) → Prop
  | some xs => sat (ms ρ) (kS2 xs Q) E
  | none => False
def kS0 (ms : Env' → R (List EV)) (Q : List EV → Env' → Prop) (E : Ex → Env' → Prop) (e : EV) (ρ : Env') : Prop := kS1 ms Q E ρ ((dV ρ e).bind starD)
@[simp ↓] theorem s_aStar : sat (aStar a ms ρ) Qs E = sat (a ρ) (kS0 ms Qs E) E := by
  show sat ((a ρ).bind (stB ms)) Qs E = _
  rw [sat_bind]; congr 1; funext e1 ρ1
  unfold stB kS0
  cases (dV ρ1 e1).bind starD with
  | none => (first | rfl | exact sat_ok | exact sat_bad | exact ws_nx | exact ws_rt | exact ws_bk | exact ws_ct | exact ws_bad | exact ws_exc | (congr 1; funext _ _; exact sat_ok) | (congr 1; funext _ _; first | exact ws_nx))
  | some xs => simp only [sat_bind]; (first | rfl | exact sat_ok | exact sat_bad | exact ws_nx | exact ws_rt | exact ws_bk | exact ws_ct | exact ws_bad | exact ws_exc | (congr 1; funext _ _; exact sat_ok) | (congr 1; funext _ _; first | exact ws_nx))
@[simp] theorem kS0_ap : kS0 ms Qs E e ρ = kS1 ms Qs E ρ ((dV ρ e).bind starD) := (by (first | rfl | exact sat_ok | exact sat_bad | exact ws_nx | exact ws_rt | exact ws_bk | exact ws_ct | exact ws_bad | exact ws_exc | (congr 1; funext _ _; exact sat_ok) | (congr 1; funext _ _; first | exact ws_nx)))
@[simp] theorem kS1_s {xs : List D} : kS1 ms Qs E ρ (some xs) = sat (ms ρ) (kS2 xs Qs) E := (by (first | rfl | exact sat_ok | exact sat_bad | exact ws_nx | exact ws_rt | exact ws_bk | exact ws_ct | exact ws_bad | exact ws_exc | (congr 1; funext _ _; exact sat_ok) | (congr 1; funext _ _; first | exact ws_nx)))
@[simp] theorem kS2_ap {xs : List D} : kS2 xs Qs es ρ = Qs (xs.map .d ++ es) ρ := (by (first | rfl | exact sat_ok | exact sat_bad | exact ws_nx | exact ws_rt | exact ws_bk | exact ws_ct | exact ws_bad | exact ws_exc | (congr 1; funext _ _; exact sat_ok) | (congr 1; funext _ _; first | exact ws_nx)))
@[simp] theorem starD_l {xs : List D} : starD (.list xs) = some xs := (by (first | rfl | exact sat_ok | exact sat_bad | exact ws_nx | exact ws_rt | exact ws_bk | exact ws_ct | exact ws_bad | exact ws_exc | (congr 1; funext _ _; exact sat_ok) | (congr 1; funext _ _; first | exact ws_nx)))
@[simp] theorem starD_t {xs : List D} : starD (.tuple xs) = some xs := (by (first | rfl | exact sat_ok | exact sat_bad | exact ws_nx | exact ws_rt | exact ws_bk | exact ws_ct | exact ws_bad | exact ws_exc | (congr 1; funext _ _; exact sat_ok) | (congr 1; funext _ _; first | exact ws_nx)))
@[simp] theorem evDs_map {xs : List D} {es : List EV} : evDs (xs.map .d ++ es) = (evDs es).map fun ds => xs ++ ds := by
  induction xs with
  | nil => cases h : evDs es <;> simp [h]
  | cons x xs ih => rw [List.map_cons, List.cons_append, evDs_cons, ih]; cases evDs es <;> (first | rfl | exact sat_ok | exact sat_bad | exact ws_nx | exact ws_rt | exact ws_bk | exact ws_ct | exact ws_bad | exact ws_exc | (congr 1; funext _ _; exact sat_ok) | (congr 1; funext _ _; first | exact ws_nx))
@[simp] theorem evDs_map0 {xs : List D} : evDs (xs.map .d) = some xs := by
  have := evDs_map (xs := xs) (es := [])
  simpa using this
def okT (Q : EV → Env' → Prop) (ρ : Env') : Option (List D) → Prop
  | some ds => ds.length ≤ sizeLine ∧ Q (.d (.tuple ds)) ρ
  | none => False
def okLs (Q : EV → Env' → Prop) (ρ : Env') : Option (List D) → Prop
  | some ds => ds.length ≤ sizeLine ∧ Q (.fr (.lst ds)) ρ
  | none => False
def kTup (Q : EV → Env' → Prop) (es : List EV) (ρ : Env') : Prop := okT Q ρ (evDs es)
def kLst (Q : EV → Env' → Prop) (es : List EV) (ρ : Env') : Prop := okLs Q ρ (evDs es)
@[simp ↓] theorem s_mTup : sat (mTup ms ρ) Q E = sat (ms ρ) (kTup Q) E := by
  rw [mTup_ap, sat_bind]; congr 1; funext es ρ1; rw [sat_ofO]; unfold kTup okT
  cases evDs es with
  | none => (first | rfl | exact sat_ok | exact sat_bad | exact ws_nx | exact ws_rt | exact ws_bk | exact ws_ct | exact ws_bad | exact ws_exc | (congr 1; funext _ _; exact sat_ok) | (congr 1; funext _ _; first | exact ws_nx))
  | some ds => rw [Option.bind_some, satO_if]
@[simp ↓] theorem s_mLst : sat (mLst ms ρ) Q E = sat (ms ρ) (kLst Q) E := by
  rw [mLst_ap, sat_bind]; congr 1; funext es ρ1; rw [sat_ofO]; unfold kLst okLs
  cases evDs es with
  | none => (first | rfl | exact sat_ok | exact sat_bad | exact ws_nx | exact ws_rt | exact ws_bk | exact ws_ct | exact ws_bad | exact ws_exc | (congr 1; funext _ _; exact sat_ok) | (congr 1; funext _ _; first | exact ws_nx))
  | some ds => rw [Option.bind_some, satO_if]
@[simp] theorem kTup_ap : kTup Q es ρ = okT Q ρ (evDs es) := (by (first | rfl | exact sat_ok | exact sat_bad | exact ws_nx | exact ws_rt | exact ws_bk | exact ws_ct | exact ws_bad | exact ws_exc | (congr 1; funext _ _; exact sat_ok) | (congr 1; funext _ _; first | exact ws_nx)))
@[simp] theorem kLst_ap : kLst Q es ρ = okLs Q ρ (evDs es) := (by (first | rfl | exact sat_ok | exact sat_bad | exact ws_nx | exact ws_rt | exact ws_bk | exact ws_ct | exact ws_bad | exact ws_exc | (congr 1; funext _ _; exact sat_ok) | (congr 1; funext _ _; first | exact ws_nx)))
@[simp] theorem okT_s {ds : List D} : okT Q ρ (some ds) = (ds.length ≤ sizeLine ∧ Q (.d (.tuple ds)) ρ) := (by (first | rfl | exact sat_ok | exact sat_bad | exact ws_nx | exact ws_rt | exact ws_bk | exact ws_ct | exact ws_bad | exact ws_exc | (congr 1; funext _ _; exact sat_ok) | (congr 1; funext _ _; first | exact ws_nx)))
@[simp] theorem okLs_s {ds : List D} : okLs Q ρ (some ds) = (ds.length ≤ sizeLine ∧ Q (.fr (.lst ds)) ρ) := (by (first | rfl | exact sat_ok | exact sat_bad | exact ws_nx | exact ws_rt | exact ws_bk | exact ws_ct | exact ws_bad | exact ws_exc | (congr 1; funext _ _; exact sat_ok) | (congr 1; funext _ _; first | exact ws_nx)))
def kCall (k : List D → Option EV) (Q : EV → Env' → Prop) (es : List EV) (ρ : Env') : Prop := satO ((dVs ρ es).bind k) Q ρ
@[simp ↓] theorem s_mCall {k : List D → Option EV} : sat (mCall k ms ρ) Q E = sat (ms ρ) (kCall k Q) E := by
  rw [mCall_ap, sat_bind]; congr 1; funext es ρ1; exact sat_ofO
@[simp] theorem kCall_ap {k : List D → Option EV} : kCall k Q es ρ = satO ((dVs ρ es).bind k) Q ρ := (by (first | rfl | exact sat_ok | exact sat_bad | exact ws_nx | exact ws_rt | exact ws_bk | exact ws_ct | exact ws_bad | exact ws_exc | (congr 1; funext _ _; exact sat_ok) | (congr 1; funext _ _; first | exact ws_nx)))
def okIsi (T : String) (Q : EV → Env' → Prop) (ρ : Env') : Option D → Prop
  | some d => Q (.d (.bool (isiD T d))) ρ
  | none => False
def kIsi (T : String) (Q : EV → Env' → Prop) (e : EV) (ρ : Env') : Prop := okIsi T Q ρ (dV ρ e)
@[simp ↓] theorem s_mIsi {T : String} : sat (mIsi T a ρ) Q E = sat (a ρ) (kIsi T Q) E := by
  rw [mIsi_ap, sat_bind]; congr 1; funext e ρ1; rw [sat_ofO]; unfold kIsi okIsi; cases dV ρ1 e <;> (first | rfl | exact sat_ok | exact sat_bad | exact ws_nx | exact ws_rt | exact ws_bk | exact ws_ct | exact ws_bad | exact ws_exc | (congr 1; funext _ _; exact sat_ok) | (congr 1; funext _ _; first | exact ws_nx))
@[simp] theorem kIsi_ap {T : String} : kIsi T Q e ρ = okIsi T Q ρ (dV ρ e) := (by (first | rfl | exact sat_ok | exact sat_bad | exact ws_nx | exact ws_rt | exact ws_bk | exact ws_ct | exact ws_bad | exact ws_exc | (congr 1; funext _ _; exact sat_ok) | (congr 1; funext _ _; first | exact ws_nx)))
@[simp] theorem okIsi_s {T : String} {x : D} : okIsi T Q ρ (some x) = Q (.d (.bool (isiD T x))) ρ := (by (first | rfl | exact sat_ok | exact sat_bad | exact ws_nx | exact ws_rt | exact ws_bk | exact ws_ct | exact ws_bad | exact ws_exc | (congr 1; funext _ _; exact sat_ok) | (congr 1; funext _ _; first | exact ws_nx)))
def kFn (n : Nat) (fm : List SV → RF) (Q : EV → Env' → Prop) (E : Ex → Env' → Prop) (es : List EV) (ρ : Env') : Prop := sat (callF n fm es ρ) Q E
@[simp ↓] theorem s_mFn {n : Nat} {fm : List SV → RF} : sat (mFn n fm ms ρ) Q E = sat (ms ρ) (kFn n fm Q E) E := by
  rw [mFn_ap, sat_bind]; (first | rfl | exact sat_ok | exact sat_bad | exact ws_nx | exact ws_rt | exact ws_bk | exact ws_ct | exact ws_bad | exact ws_exc | (congr 1; funext _ _; exact sat_ok) | (congr 1; funext _ _; first | exact ws_nx))
@[simp] theorem kFn_ap {n : Nat} {fm : List SV → RF} : kFn n fm Q E es ρ = (((alsOf es).Nodup ∧ es.length = n) ∧ sat (retC fm es ρ (argVs ρ es)) Q E) := by
  unfold kFn
  rw [callF_ap, sat_ite]
  by_cases h : (alsOf es).Nodup ∧ es.length = n <;> simp [h]
def kSl3 (e : EV) (lo : Option Int) (Q : EV → Env' → Prop) (hi : Option Int) (ρ : Env') : Prop := satO ((dV ρ (fzV e)).bind fun d => fSl d lo hi) Q ρ
def kSl2 (u : Env' → R (Option Int)) (e : EV) (Q : EV → Env' → Prop) (E : Ex → Env' → Prop) (lo : Option Int) (ρ : Env') : Prop := sat (u ρ) (kSl3 e lo Q) E
def kSl1 (l u : Env' → R (Option Int)) (Q : EV → Env' → Prop) (E : Ex → Env' → Prop) (e : EV) (ρ : Env') : Prop := sat (l ρ) (kSl2 u e Q E) E
@[simp ↓] theorem s_mSl : sat (mSl a l u ρ) Q E = sat (a ρ) (kSl1 l u Q E) E := by
  rw [mSl_ap, sat_bind]; congr 1; funext e ρ1; rw [sat_bind]; unfold kSl1; congr 1; funext lo ρ2; rw [sat_bind]; unfold kSl2; congr 1; funext hi ρ3; exact sat_ofO
@[simp] theorem kSl1_ap : kSl1 l u Q E e ρ = sat (l ρ) (kSl2 u e Q E) E := (by (first | rfl | exact sat_ok | exact sat_bad | exact ws_nx | exact ws_rt | exact ws_bk | exact ws_ct | exact ws_bad | exact ws_exc | (congr 1; funext _ _; exact sat_ok) | (congr 1; funext _ _; first | exact ws_nx)))
@[simp] theorem kSl2_ap {lo : Option Int} : kSl2 u e Q E lo ρ = sat (u ρ) (kSl3 e lo Q) E := (by (first | rfl | exact sat_ok | exact sat_bad | exact ws_nx | exact ws_rt | exact ws_bk | exact ws_ct | exact ws_bad | exact ws_exc | (congr 1; funext _ _; exact sat_ok) | (congr 1; funext _ _; first | exact ws_nx)))
@[simp] theorem kSl3_ap {lo hi : Option Int} : kSl3 e lo Q hi ρ = satO ((dV ρ (fzV e)).bind fun d => fSl d lo hi) Q ρ := (by (first | rfl | exact sat_ok | exact sat_bad | exact ws_nx | exact ws_rt | exact ws_bk | exact ws_ct | exact ws_bad | exact ws_exc | (congr 1; funext _ _; exact sat_ok) | (congr 1; funext _ _; first | exact ws_nx)))
@[simp ↓] theorem s_oNone : sat (oNone ρ) Qo E = Qo none ρ := (by (first | rfl | exact sat_ok | exact sat_bad | exact ws_nx | exact ws_rt | exact ws_bk | exact ws_ct | exact ws_bad | exact ws_exc | (congr 1; funext _ _; exact sat_ok) | (congr 1; funext _ _; first | exact ws_nx)))
def kOS (Q : Option Int → Env' → Prop) (e : EV) (ρ : Env') : Prop := match e with | .d (.int i) => Q (some i) ρ | _ => False
@[simp ↓] theorem s_oSome : sat (oSome a ρ) Qo E = sat (a ρ) (kOS Qo) E := by
  rw [oSome_ap, sat_bind]; congr 1; funext e ρ1
  cases e with
  | d x => cases x <;> (first | rfl | exact sat_ok | exact sat_bad | exact ws_nx | exact ws_rt | exact ws_bk | exact ws_ct | exact ws_bad | exact ws_exc | (congr 1; funext _ _; exact sat_ok) | (congr 1; funext _ _; first | exact ws_nx))
  | _ => (first | rfl | exact sat_ok | exact sat_bad | exact ws_nx | exact ws_rt | exact ws_bk | exact ws_ct | exact ws_bad | exact ws_exc | (congr 1; funext _ _; exact sat_ok) | (congr 1; funext _ _; first | exact ws_nx))
@[simp] theorem kOS_i {x : Int} : kOS Qo (.d (.int x)) ρ = Qo (some x) ρ := (by (first | rfl | exact sat_ok | exact sat_bad | exact ws_nx | exact ws_rt | exact ws_bk | exact ws_ct | exact ws_bad | exact ws_exc | (congr 1; funext _ _; exact sat_ok) | (congr 1; funext _ _; first | exact ws_nx)))
def kIt (Q : List D → Env' → Prop) (E : Ex → Env' → Prop) (e : EV) (ρ : Env') : Prop := sat (itV e ρ) Q E
@[simp ↓] theorem s_iSeq : sat (iSeq a ρ) Qd E = sat (a ρ) (kIt Qd E) E := by
  rw [iSeq_ap, sat_bind]; (first | rfl | exact sat_ok | exact sat_bad | exact ws_nx | exact ws_rt | exact ws_bk | exact ws_ct | exact ws_bad | exact ws_exc | (congr 1; funext _ _; exact sat_ok) | (congr 1; funext _ _; first | exact ws_nx))
@[simp] theorem kIt_ap : kIt Qd E e ρ = sat (itV e ρ) Qd E := (by (first | rfl | exact sat_ok | exact sat_bad | exact ws_nx | exact ws_rt | exact ws_bk | exact ws_ct | exact ws_bad | exact ws_exc | (congr 1; funext _ _; exact sat_ok) | (congr 1; funext _ _; first | exact ws_nx)))
def kIC (k : List EV → Option (List D)) (Q : List D → Env' → Prop) (es : List EV) (ρ : Env') : Prop := satO (k es) Q ρ
@[simp ↓] theorem s_iCall {k : List EV → Option (List D)} : sat (iCall k ms ρ) Qd E = sat (ms ρ) (kIC k Qd) E := by
  rw [iCall_ap, sat_bind]; congr 1; funext es ρ1; exact sat_ofO
@[simp] theorem kIC_ap {k : List EV → Option (List D)} : kIC k Qd es ρ = satO (k es) Qd ρ := (by (first | rfl | exact sat_ok | exact sat_bad | exact ws_nx | exact ws_rt | exact ws_bk | exact ws_ct | exact ws_bad | exact ws_exc | (congr 1; funext _ _; exact sat_ok) | (congr 1; funext _ _; first | exact ws_nx)))
def kLc (vs : List Nat) (asg : Asg) (tt : Env' → R Bool) (te : Env' → R EV) (Q : EV → Env' → Prop) (E : Ex → Env' → Prop) (xs : List D) (ρ : Env') : Prop := okVs ρ vs = true ∧ sat (lcE vs ρ (cL vs asg tt te xs [] (wipeE ρ vs))) Q E
@[simp ↓] theorem s_mLc {mi : Env' → R (List D)} {vs : List Nat} {asg : Asg} {tt : Env' → R Bool} {te : Env' → R EV} : sat (mLc mi vs asg tt te ρ) Q E = sat (mi ρ) (kLc vs asg tt te Q E) E := by
  rw [mLc_ap, sat_bind]; congr 1; funext xs ρ1; rw [sat_ite]; unfold kLc
  by_cases h : okVs ρ1 vs = true <;> simp [h]
@[simp] theorem kLc_ap {vs : List Nat} {asg : Asg} {tt : Env' → R Bool} {te : Env' → R EV} {xs : List D} : kLc vs asg tt te Q E xs ρ = (okVs ρ vs = true ∧ sat (lcE vs ρ (cL vs asg tt te xs [] (wipeE ρ vs))) Q E) := (by (first | rfl | exact sat_ok | exact sat_bad | exact ws_nx | exact ws_rt | exact ws_bk | exact ws_ct | exact ws_bad | exact ws_exc | (congr 1; funext _ _; exact sat_ok) | (congr 1; funext _ _; first | exact ws_nx)))
end
/-! ### statements -/
section
variable {a : Env' → R EV} {t : Env' → R Bool} {ms : Env' → R (List EV)} {mi : Env' → R (List D)} {x y : Env' → RS} {asg : Asg} {q : RS → Prop} {ρ : Env'} {e : EV} {es : List EV} {i : Nat}
@[simp ↓] theorem w_sSeq : ws (sSeq x y ρ) q = ws (x ρ) (thenQ y q) := ws_then
@[simp ↓] theorem w_sNil : ws (sNil ρ) q = q (.nx ρ) := (by (first | rfl | exact sat_ok | exact sat_bad | exact ws_nx | exact ws_rt | exact ws_bk | exact ws_ct | exact ws_bad | exact ws_exc | (congr 1; funext _ _; exact sat_ok) | (congr 1; funext _ _; first | exact ws_nx)))
@[simp ↓] theorem w_sPass : ws (sPass ρ) q = q (.nx ρ) := (by (first | rfl | exact sat_ok | exact sat_bad | exact ws_nx | exact ws_rt | exact ws_bk | exact ws_ct | exact ws_bad | exact ws_exc | (congr 1; funext _ _; exact sat_ok) | (congr 1; funext _ _; first | exact ws_nx)))
@[simp ↓] theorem w_sBreak : ws (sBreak ρ) q = q (.bk ρ) := (by (first | rfl | exact sat_ok | exact sat_bad | exact ws_nx | exact ws_rt | exact ws_bk | exact ws_ct | exact ws_bad | exact ws_exc | (congr 1; funext _ _; exact sat_ok) | (congr 1; funext _ _; first | exact ws_nx)))
@[simp ↓] theorem w_sCont : ws (sCont ρ) q = q (.ct ρ) := (by (first | rfl | exact sat_ok | exact sat_bad | exact ws_nx | exact ws_rt | exact ws_bk | exact ws_ct | exact ws_bad | exact ws_exc | (congr 1; funext _ _; exact sat_ok) | (congr 1; funext _ _; first | exact ws_nx)))
@[simp ↓] theorem w_sRetN : ws (sRetN ρ) q = q (.rt (.d .none) ρ) := (by (first | rfl | exact sat_ok | exact sat_bad | exact ws_nx | exact ws_rt | exact ws_bk | exact ws_ct | exact ws_bad | exact ws_exc | (congr 1; funext _ _; exact sat_ok) | (congr 1; funext _ _; first | exact ws_nx)))
def kSIf (x y : Env' → RS) (q : RS → Prop) (b : Bool) (ρ : Env') : Prop := match b with | true => ws (x ρ) q | false => ws (y ρ) q
@[simp ↓] theorem w_sIf : ws (sIf t x y ρ) q = sat (t ρ) (kSIf x y q) (excQ q) := by
  rw [sIf_ap, ws_toS]; unfold excQ; congr 1; funext b ρ1; cases b <;> (first | rfl | exact sat_ok | exact sat_bad | exact ws_nx | exact ws_rt | exact ws_bk | exact ws_ct | exact ws_bad | exact ws_exc | (congr 1; funext _ _; exact sat_ok) | (congr 1; funext _ _; first | exact ws_nx))
@[simp] theorem kSIf_t : kSIf x y q true ρ = ws (x ρ) q := (by (first | rfl | exact sat_ok | exact sat_bad | exact ws_nx | exact ws_rt | exact ws_bk | exact ws_ct | exact ws_bad | exact ws_exc | (congr 1; funext _ _; exact sat_ok) | (congr 1; funext _ _; first | exact ws_nx)))
@[simp] theorem kSIf_f : kSIf x y q false ρ = ws (y ρ) q := (by (first | rfl | exact sat_ok | exact sat_bad | exact ws_nx | exact ws_rt | exact ws_bk | exact ws_ct | exact ws_bad | exact ws_exc | (congr 1; funext _ _; exact sat_ok) | (congr 1; funext _ _; first | exact ws_nx)))
def kRet (q : RS → Prop) (e : EV) (ρ : Env') : Prop := ws (retV e ρ) q
@[simp ↓] theorem w_sRet : ws (sRet a ρ) q = sat (a ρ) (kRet q) (excQ q) := by
  rw [sRet_ap, ws_toS]; (first | rfl | exact sat_ok | exact sat_bad | exact ws_nx | exact ws_rt | exact ws_bk | exact ws_ct | exact ws_bad | exact ws_exc | (congr 1; funext _ _; exact sat_ok) | (congr 1; funext _ _; first | exact ws_nx))
@[simp] theorem kRet_d {x : D} : kRet q (.d x) ρ = q (.rt (.d x) ρ) := (by (first | rfl | exact sat_ok | exact sat_bad | exact ws_nx | exact ws_rt | exact ws_bk | exact ws_ct | exact ws_bad | exact ws_exc | (congr 1; funext _ _; exact sat_ok) | (congr 1; funext _ _; first | exact ws_nx)))
@[simp] theorem kRet_fr {x : MO} : kRet q (.fr x) ρ = q (.rt (.fr x) ρ) := (by (first | rfl | exact sat_ok | exact sat_bad | exact ws_nx | exact ws_rt | exact ws_bk | exact ws_ct | exact ws_bad | exact ws_exc | (congr 1; funext _ _; exact sat_ok) | (congr 1; funext _ _; first | exact ws_nx)))
def rA : Option (Option SV) → Nat → Env' → (RS → Prop) → Prop
  | some (some (.o m)), i, ρ, q => q (.rt (.fr m) (ρ.set i none))
  | _, _, _, _ => False
@[simp] theorem kRet_al : kRet q (.al i) ρ = rA ρ[i]? i ρ q := by
  show ws (match ρ[i]? with | some (some (.o m)) => .rt (.fr m) (ρ.set i none) | _ => .bad) q = _
  unfold rA
  cases ρ[i]? with
  | none => (first | rfl | exact sat_ok | exact sat_bad | exact ws_nx | exact ws_rt | exact ws_bk | exact ws_ct | exact ws_bad | exact ws_exc | (congr 1; funext _ _; exact sat_ok) | (congr 1; funext _ _; first | exact ws_nx))
  | some o => cases o with
    | none => (first | rfl | exact sat_ok | exact sat_bad | exact ws_nx | exact ws_rt | exact ws_bk | exact ws_ct | exact ws_bad | exact ws_exc | (congr 1; funext _ _; exact sat_ok) | (congr 1; funext _ _; first | exact ws_nx))
    | some v => cases v <;> (first | rfl | exact sat_ok | exact sat_bad | exact ws_nx | exact ws_rt | exact ws_bk | exact ws_ct | exact ws_bad | exact ws_exc | (congr 1; funext _ _; exact sat_ok) | (congr 1; funext _ _; first | exact ws_nx))
@[simp] theorem rA_o {m : MO} : rA (some (some (.o m))) i ρ q = q (.rt (.fr m) (ρ.set i none)) := (by (first | rfl | exact sat_ok | exact sat_bad | exact ws_nx | exact ws_rt | exact ws_bk | exact ws_ct | exact ws_bad | exact ws_exc | (congr 1; funext _ _; exact sat_ok) | (congr 1; funext _ _; first | exact ws_nx)))
def kAsg (asg : Asg) (q : RS → Prop) (e : EV) (ρ : Env') : Prop := wsO (asg e ρ) q
@[simp] theorem ws_ofO {o : Option Env'} : ws (RS.ofO o) q = wsO o q := by cases o <;> (first | rfl | exact sat_ok | exact sat_bad | exact ws_nx | exact ws_rt | exact ws_bk | exact ws_ct | exact ws_bad | exact ws_exc | (congr 1; funext _ _; exact sat_ok) | (congr 1; funext _ _; first | exact ws_nx))
@[simp ↓] theorem w_sAsg : ws (sAsg asg a ρ) q = sat (a ρ) (kAsg asg q) (excQ q) := by
  rw [sAsg_ap, ws_toS]; unfold excQ; congr 1; funext b ρ1; exact ws_ofO
@[simp] theorem kAsg_ap : kAsg asg q e ρ = wsO (asg e ρ) q := (by (first | rfl | exact sat_ok | exact sat_bad | exact ws_nx | exact ws_rt | exact ws_bk | exact ws_ct | exact ws_bad | exact ws_exc | (congr 1; funext _ _; exact sat_ok) | (congr 1; funext _ _; first | exact ws_nx)))
def kPar (ts : List (Bool × Nat)) (q : RS → Prop) (es : List EV) (ρ : Env') : Prop := wsO (parL ts es ρ) q
@[simp ↓] theorem w_sPar {ts : List (Bool × Nat)} : ws (sPar ts ms ρ) q = sat (ms ρ) (kPar ts q) (excQ q) := by
  rw [sPar_ap, ws_toS]; unfold excQ; congr 1; funext b ρ1; exact ws_ofO
@[simp] theorem kPar_ap {ts : List (Bool × Nat)} : kPar ts q es ρ = wsO (parL ts es ρ) q := (by (first | rfl | exact sat_ok | exact sat_bad | exact ws_nx | exact ws_rt | exact ws_bk | exact ws_ct | exact ws_bad | exact ws_exc | (congr 1; funext _ _; exact sat_ok) | (congr 1; funext _ _; first | exact ws_nx)))
def kEx (q : RS → Prop) (_ : EV) (ρ : Env') : Prop := q (.nx ρ)
@[simp ↓] theorem w_sExpr : ws (sExpr a ρ) q = sat (a ρ) (kEx q) (excQ q) := by
  rw [sExpr_ap, ws_toS]; (first | rfl | exact sat_ok | exact sat_bad | exact ws_nx | exact ws_rt | exact ws_bk | exact ws_ct | exact ws_bad | exact ws_exc | (congr 1; funext _ _; exact sat_ok) | (congr 1; funext _ _; first | exact ws_nx))
@[simp] theorem kEx_ap : kEx q e ρ = q (.nx ρ) := (by (first | rfl | exact sat_ok | exact sat_bad | exact ws_nx | exact ws_rt | exact ws_bk | exact ws_ct | exact ws_bad | exact ws_exc | (congr 1; funext _ _; exact sat_ok) | (congr 1; funext _ _; first | exact ws_nx)))
def kFor (asg : Asg) (b : Env' → RS) (q : RS → Prop) (xs : List D) (ρ : Env') : Prop := ws (fL asg b xs ρ) q
@[simp ↓] theorem w_sFor : ws (sFor mi asg x ρ) q = sat (mi ρ) (kFor asg x q) (excQ q) := by
  rw [sFor_ap, ws_toS]; (first | rfl | exact sat_ok | exact sat_bad | exact ws_nx | exact ws_rt | exact ws_bk | exact ws_ct | exact ws_bad | exact ws_exc | (congr 1; funext _ _; exact sat_ok) | (congr 1; funext _ _; first | exact ws_nx))
@[simp] theorem kFor_ap {xs : List D} : kFor asg x q xs ρ = ws (fL asg x xs ρ) q := (by (first | rfl | exact sat_ok | exact sat_bad | exact ws_nx | exact ws_rt | exact ws_bk | exact ws_ct | exact ws_bad | exact ws_exc | (congr 1; funext _ _; exact sat_ok) | (congr 1; funext _ _; first | exact ws_nx)))
def kAug2 (f : D → D → Option EV) (i : Nat) (q : RS → Prop) (ρ : Env') : Option EV → Prop
  | some ev => wsO (asgN false i ev ρ) q
  | none => False
def kAug (f : D → D → Option EV) (i : Nat) (d : D) (q : RS → Prop) (e : EV) (ρ : Env') : Prop := kAug2 f i q ρ ((dV ρ e).bind fun b => f d b)
def kAug0 (f : D → D → Option EV) (i : Nat) (a : Env' → R EV) (ρ : Env') (q : RS → Prop) : Option (Option SV) → Prop
  | some (some (.d x)) => sat (a ρ) (kAug f i x q) (excQ q)
  | _ => False
@[simp ↓] theorem w_sAug {f : D → D → Option EV} : ws (sAug f i a ρ) q = kAug0 f i a ρ q ρ[i]? := by
  unfold sAug kAug0
  cases ρ[i]? with
  | none => (first | rfl | exact sat_ok | exact sat_bad | exact ws_nx | exact ws_rt | exact ws_bk | exact ws_ct | exact ws_bad | exact ws_exc | (congr 1; funext _ _; exact sat_ok) | (congr 1; funext _ _; first | exact ws_nx))
  | some o => cases o with
    | none => (first | rfl | exact sat_ok | exact sat_bad | exact ws_nx | exact ws_rt | exact ws_bk | exact ws_ct | exact ws_bad | exact ws_exc | (congr 1; funext _ _; exact sat_ok) | (congr 1; funext _ _; first | exact ws_nx))
    | some v => cases v with
      | d x =>
        show ws ((a ρ).toS _) q = _
        rw [ws_toS]; unfold excQ; congr 1; funext e ρ1
        unfold kAug kAug2
        cases (dV ρ1 e).bind fun b => f x b with
        | none => (first | rfl | exact sat_ok | exact sat_bad | exact ws_nx | exact ws_rt | exact ws_bk | exact ws_ct | exact ws_bad | exact ws_exc | (congr 1; funext _ _; exact sat_ok) | (congr 1; funext _ _; first | exact ws_nx))
        | some ev => exact ws_ofO
      | _ => (first | rfl | exact sat_ok | exact sat_bad | exact ws_nx | exact ws_rt | exact ws_bk | exact ws_ct | exact ws_bad | exact ws_exc | (congr 1; funext _ _; exact sat_ok) | (congr 1; funext _ _; first | exact ws_nx))
@[simp] theorem kAug0_d {f : D → D → Option EV} {x : D} : kAug0 f i a ρ q (some (some (.d x))) = sat (a ρ) (kAug f i x q) (excQ q) := (by (first | rfl | exact sat_ok | exact sat_bad | exact ws_nx | exact ws_rt | exact ws_bk | exact ws_ct | exact ws_bad | exact ws_exc | (congr 1; funext _ _; exact sat_ok) | (congr 1; funext _ _; first | exact ws_nx)))
@[simp] theorem kAug_ap {f : D → D → Option EV} {x : D} : kAug f i x q e ρ = kAug2 f i q ρ ((dV ρ e).bind fun b => f x b) := (by (first | rfl | exact sat_ok | exact sat_bad | exact ws_nx | exact ws_rt | exact ws_bk | exact ws_ct | exact ws_bad | exact ws_exc | (congr 1; funext _ _; exact sat_ok) | (congr 1; funext _ _; first | exact ws_nx)))
@[simp] theorem kAug2_s {f : D → D → Option EV} {ev : EV} : kAug2 f i q ρ (some ev) = wsO (asgN false i ev ρ) q := (by (first | rfl | exact sat_ok | exact sat_bad | exact ws_nx | exact ws_rt | exact ws_bk | exact ws_ct | exact ws_bad | exact ws_exc | (congr 1; funext _ _; exact sat_ok) | (congr 1; funext _ _; first | exact ws_nx)))
end
/-! ### a def's end -/
def retQ (as : Env') (v : EV) (bs : Env') (r : RS) : Prop := endF as r = .ok v bs
theorem runF_ws {n : Nat} {b : Env' → RS} {as : List SV} {v : EV} {bs : Env'} (h : ws (b (as.map some ++ List.replicate (n - as.length) none)) (retQ (as.map some) v bs)) : runF n b as = .ok v bs := by
  rw [runF_ap]; exact ws_out h
section
variable {as bs ρ : Env'} {v : EV} {x : D} {m : MO}
@[simp] theorem retQ_d : retQ as v bs (.rt (.d x) ρ) = (outOk as ρ = true ∧ .d x = v ∧ outE as ρ = bs) := by
  unfold retQ; rw [endF_d]
  by_cases h : outOk as ρ = true <;> simp [h]
@[simp] theorem retQ_fr : retQ as v bs (.rt (.fr m) ρ) = (outOk as ρ = true ∧ .fr m = v ∧ outE as ρ = bs) := by
  unfold retQ; rw [endF_fr]
  by_cases h : outOk as ρ = true <;> simp [h]
@[simp] theorem retQ_nx : retQ as v bs (.nx ρ) = (outOk as ρ = true ∧ .d .none = v ∧ outE as ρ = bs) := by
  unfold retQ; rw [endF_nx]
  by_cases h : outOk as ρ = true <;> simp [h]
end
/-- a def with a wish -/
def retP (as : Env') (P : EV → Env' → Prop) (r : RS) : Prop := ∃ v bs, endF as r = .ok v bs ∧ P v bs
theorem runF_wp {n : Nat} {b : Env' → RS} {as : List SV} {P : EV → Env' → Prop} (h : ws (b (as.map some ++ List.replicate (n - as.length) none)) (retP (as.map some) P)) : ∃ v bs, runF n b as = .ok v bs ∧ P v bs := by
  rw [runF_ap]; exact ws_out h
section
variable {as bs ρ : Env'} {P : EV → Env' → Prop} {x : D} {m : MO}
theorem retP_if {p : Prop} [Decidable p] {v : EV} {bs : Env'} : (∃ v' bs', (if p then RF.ok v bs else .bad) = .ok v' bs' ∧ P v' bs') = (p ∧ P v bs) := by
  by_cases h : p
  · rw [if_pos h]
    exact propext ⟨fun ⟨v', bs', e, hp⟩ => by cases e; exact ⟨h, hp⟩, fun hp => ⟨v, bs, rfl, hp.2⟩⟩
  · rw [if_neg h]
    exact propext ⟨fun z => (by obtain ⟨v', bs', e, hp⟩ := z; cases e), fun hp => absurd hp.1 h⟩
@[simp] theorem retP_d : retP as P (.rt (.d x) ρ) = (outOk as ρ = true ∧ P (.d x) (outE as ρ)) := by
  unfold retP; rw [endF_d]; exact retP_if
@[simp] theorem retP_fr : retP as P (.rt (.fr m) ρ) = (outOk as ρ = true ∧ P (.fr m) (outE as ρ)) := by
  unfold retP; rw [endF_fr]; exact retP_if
@[simp] theorem retP_nx : retP as P (.nx ρ) = (outOk as ρ = true ∧ P (.d .none) (outE as ρ)) := by
  unfold retP; rw [endF_nx]; exact retP_if
end
/-! ### sizes -/
section
variable {Q : EV → Env' → Prop} {Qd : List D → Env' → Prop} {ρ : Env'} {x y : Int}
@[simp] theorem o_fMulS : satO (fMulS (.int x) (.int y)) Q ρ = (((-(2 ^ 64) < x ∧ x < 2 ^ 64) ∨ (-(2 ^ 64) < y ∧ y < 2 ^ 64)) ∧ Q (.d (.int (x * y))) ρ) := satO_if
@[simp] theorem o_fDiv : satO (fDiv (.int x) (.int y)) Q ρ = ((0 < y ∧ y < 1073741824) ∧ Q (.d (.int (x / y))) ρ) := satO_if
@[simp] theorem o_fMod : satO (fMod (.int x) (.int y)) Q ρ = (0 < y ∧ Q (.d (.int (x % y))) ρ) := satO_if
@[simp] theorem o_fAdd_l {a b : List D} : satO (fAdd (.list a) (.list b)) Q ρ = (a.length + b.length ≤ sizeLine ∧ Q (.fr (.lst (a ++ b))) ρ) := satO_if
@[simp] theorem o_fAdd_t {a b : List D} : satO (fAdd (.tuple a) (.tuple b)) Q ρ = (a.length + b.length ≤ sizeLine ∧ Q (.d (.tuple (a ++ b))) ρ) := satO_if
@[simp] theorem o_rng1 : satO (rng1 [.d (.int x)]) Qd ρ = ((-(2 ^ 62) ≤ x ∧ x < 2 ^ 62) ∧ Qd ((List.range x.toNat).map fun k => .int (k : Nat)) ρ) := satO_if
@[simp] theorem o_rng2 : satO (rng2 [.d (.int x), .d (.int y)]) Qd ρ = ((-(2 ^ 62) ≤ x ∧ x < 2 ^ 62 ∧ -(2 ^ 62) ≤ y ∧ y < 2 ^ 62) ∧ Qd ((List.range (y - x).toNat).map fun k => .int (x + (k : Nat))) ρ) := satO_if
end
end Mi
/-! text MiX -/
set_option Elab.async false
set_option linter.all false
set_option maxRecDepth 100000
set_option maxHeartbeats 4000000
/-! MiX: what repr shows. -/
namespace Mi
open PySem PySem.Spec PyProof.Rows L2

theorem fRepr_ok {d : D} (h1 : d.layable0 = true) (h2 : d.intsShort 13 = true) (h3 : d.showable = true) : fRepr [d] = some (.d (.str d.shown)) := by
  have h : (PyData.canLay0 d && decide (PyData.depth d ≤ 64) && decide (PyData.weight d ≤ 2 ^ 20)) = true := h1
  simp only [Bool.and_eq_true, decide_eq_true_eq] at h
  exact if_pos ⟨h.1.1, h3, PyData.shown_fits_of_layable0 (by decide) (by decide) h1 h2, by omega⟩
/-- d can be shown: its weight is at most w, its depth at most k -/
structure Rp (w k : Nat) (d : D) : Prop where
  lay : d.canLay0 = true
  dep : d.depth ≤ k
  wt : d.weight ≤ w
  sh : d.intsShort 13 = true
  see : d.showable = true
structure Rps (w k : Nat) (ds : List D) : Prop where
  lay : PyData.canLayAll0 ds = true
  dep : PyData.depthAll ds ≤ k
  wt : PyData.weightAll ds ≤ w
  sh : PyData.intsShortAll 13 ds = true
  see : PyData.showableAll ds = true
theorem Rp.mono {w k w' k' : Nat} {d : D} (h : Rp w k d) (hw : w ≤ w') (hk : k ≤ k') : Rp w' k' d := ⟨h.lay, by have := h.dep; omega, by have := h.wt; omega, h.sh, h.see⟩
theorem Rps.mono {w k w' k' : Nat} {d : List D} (h : Rps w k d) (hw : w ≤ w') (hk : k ≤ k') : Rps w' k' d := ⟨h.lay, by have := h.dep; omega, by have := h.wt; omega, h.sh, h.see⟩
theorem Rp.repr {w k : Nat} {d : D} (h : Rp w k d) (hw : w ≤ 2 ^ 20 := by decide) (hk : k ≤ 64 := by decide) : fRepr [d] = some (.d (.str d.shown)) := by
  have e := h.dep
  have e2 := h.wt
  refine fRepr_ok ?_ h.sh h.see
  show (PyData.canLay0 d && decide (PyData.depth d ≤ 64) && decide (PyData.weight d ≤ 2 ^ 20)) = true
  simp only [h.lay, Bool.true_and, Bool.and_eq_true, decide_eq_true_eq]
  exact ⟨by omega, Nat.le_trans e2 hw⟩
theorem Rp.none : Rp 0 0 .none := ⟨by simp only [PyData.canLay0], by simp only [PyData.depth]; exact Nat.le_refl _, by simp only [PyData.weight]; exact Nat.le_refl _, by simp only [PyData.intsShort], by simp only [PyData.showable]⟩
theorem Rp.bool (b : Bool) : Rp 0 0 (.bool b) := ⟨by simp only [PyData.canLay0], by simp only [PyData.depth]; exact Nat.le_refl _, by simp only [PyData.weight]; exact Nat.le_refl _, by simp only [PyData.intsShort], by simp only [PyData.showable]⟩
theorem Rp.str {x : Str} (h : PyData.strOk x = true) : Rp x.cps.size 0 (.str x) := ⟨by simp only [PyData.canLay0]; exact h, by simp only [PyData.depth]; exact Nat.le_refl _, by simp only [PyData.weight]; exact Nat.le_refl _, by simp only [PyData.intsShort], by simp only [PyData.showable]⟩
theorem log2_12 {n : Nat} (h : n < 10 ^ 12) : n.log2 < 40 := by
  by_cases z : n = 0
  · subst z; decide
  · refine (Nat.log2_lt z).mpr ?_
    have e : (10 : Nat) ^ 12 = 1000000000000 := by decide
    have e2 : (2 : Nat) ^ 40 = 1099511627776 := by decide
    omega
theorem Rp.int {i : Int} (h : i.natAbs < 10 ^ 12) : Rp 40 0 (.int i) := by
  have hl := log2_12 h
  refine ⟨by simp only [PyData.canLay0], by simp only [PyData.depth]; exact Nat.le_refl _, ?_, ?_, ?_⟩
  · simp only [PyData.weight]
    split <;> omega
  · simp only [PyData.intsShort, decide_eq_true_eq]; exact PyData.shown_int_le h
  · simp only [PyData.showable, decide_eq_true_eq]; omega
theorem Rp.nat {n : Nat} (h : n < 1000000000000) : Rp 40 0 (.int (n : Nat)) := Rp.int (by
  have e : (10 : Nat) ^ 12 = 1000000000000 := by decide
  omega)
theorem Rp.intB {i m : Int} (h0 : 0 ≤ i) (h1 : i < m) (hm : m ≤ 1000000000000) : Rp 40 0 (.int i) := Rp.int (by
  have e : (10 : Nat) ^ 12 = 1000000000000 := by decide
  omega)
theorem Rps.nil : Rps 0 0 [] := ⟨by simp only [PyData.canLayAll0], by simp only [PyData.depthAll]; exact Nat.le_refl _, by simp only [PyData.weightAll]; exact Nat.le_refl _, by simp only [PyData.intsShortAll], by simp only [PyData.showableAll]⟩
theorem Rps.cons {w k w' k' : Nat} {d : D} {ds : List D} (h : Rp w k d) (r : Rps w' k' ds) : Rps (w + 1 + w') (max k k') (d :: ds) := by
  have h1 := h.dep
  have h2 := h.wt
  have r1 := r.dep
  have r2 := r.wt
  refine ⟨?_, ?_, ?_, ?_, ?_⟩
  · simp only [PyData.canLayAll0, h.lay, r.lay, Bool.true_and]
  · simp only [PyData.depthAll]; omega
  · simp only [PyData.weightAll]; omega
  · simp only [PyData.intsShortAll, h.sh, r.sh, Bool.true_and]
  · simp only [PyData.showableAll, h.see, r.see, Bool.true_and]
theorem Rps.all {w k : Nat} : ∀ {ds : List D}, (∀ d ∈ ds, Rp w k d) → Rps (ds.length * (w + 1)) k ds
  | [], _ => Rps.nil.mono (Nat.zero_le _) (Nat.zero_le _)
  | d :: ds, h => by
    have := Rps.cons (h d List.mem_cons_self) (Rps.all fun d hd => h d (List.mem_cons_of_mem _ hd))
    refine this.mono ?_ (by omega)
    rw [List.length_cons, Nat.add_mul]; omega
theorem Rps.get {w k : Nat} {ds : List D} (h : Rps w k ds) : ∀ d ∈ ds, Rp w k d := by
  induction ds generalizing w with
  | nil => intro d hd; cases hd
  | cons x xs ih =>
    intro d hd
    obtain ⟨a, b, c, e, f⟩ := h
    simp only [PyData.canLayAll0, Bool.and_eq_true, PyData.depthAll, PyData.weightAll, PyData.intsShortAll, PyData.showableAll] at a b c e f
    rcases List.mem_cons.mp hd with rfl | hd
    · exact ⟨a.1, by omega, by omega, e.1, f.1⟩
    · exact ih ⟨a.2, by omega, by omega, e.2, f.2⟩ d hd
theorem Rp.tup {w k : Nat} {ds : List D} (r : Rps w k ds) : Rp w (k + 1) (.tuple ds) := by
  have r1 := r.dep
  refine ⟨?_, ?_, ?_, ?_, ?_⟩
  · simp only [PyData.canLay0, r.lay]
  · simp only [PyData.depth]; omega
  · simp only [PyData.weight]; exact r.wt
  · simp only [PyData.intsShort, r.sh]
  · simp only [PyData.showable, r.see]
theorem Rp.lst {w k : Nat} {ds : List D} (r : Rps w k ds) : Rp w (k + 1) (.list ds) := by
  have r1 := r.dep
  refine ⟨?_, ?_, ?_, ?_, ?_⟩
  · simp only [PyData.canLay0, r.lay]
  · simp only [PyData.depth]; omega
  · simp only [PyData.weight]; exact r.wt
  · simp only [PyData.intsShort, r.sh]
  · simp only [PyData.showable, r.see]
/-! ### more of computing -/
section
variable {Q : EV → Env' → Prop} {ρ : Env'} {x y : Int}
@[simp] theorem o_fShl : satO (fShl (.int x) (.int y)) Q ρ = ((0 ≤ y ∧ y ≤ 1000000 ∧ x.natAbs < 2 ^ 64) ∧ Q (.d (.int (x * 2 ^ y.toNat))) ρ) := satO_if
@[simp] theorem o_fPow : satO (fPow (.int x) (.int y)) Q ρ = ((0 ≤ y ∧ y ≤ 1000000 ∧ x.natAbs < 2 ^ 64) ∧ Q (.d (.int (x ^ y.toNat))) ρ) := satO_if
@[simp] theorem o_fRepL {xs : List D} : satO (fMulS (.list xs) (.int y)) Q ρ = ((-(2 ^ 63) ≤ y ∧ y < 2 ^ 63 ∧ xs.length * y.toNat ≤ sizeLine) ∧ Q (.fr (.lst (repD y xs))) ρ) := satO_if
@[simp] theorem o_fRepT {xs : List D} : satO (fMulS (.tuple xs) (.int y)) Q ρ = ((0 ≤ y ∧ y ≤ 1000 ∧ xs ≠ [] ∧ xs.length ≤ 1000 ∧ pairy xs = false) ∧ Q (.d (.tuple (repD y xs))) ρ) := satO_if
@[simp] theorem eqO_t0 {xs : List D} : eqO (.tuple xs) (.tuple []) = some xs.isEmpty := by
  show (if (xs.isEmpty || [].isEmpty) = true then some (xs.isEmpty && [].isEmpty) else _) = _
  simp
@[simp] theorem eqO_l0 {xs : List D} : eqO (.list xs) (.list []) = some xs.isEmpty := by
  show (if (xs.isEmpty || [].isEmpty) = true then some (xs.isEmpty && [].isEmpty) else _) = _
  simp
end
theorem szB (n : Nat) (h : n ≤ 1000000) : n ≤ sizeLine := by rw [sizeLine_eq]; omega
end Mi
/-! text MiY -/
set_option Elab.async false
set_option linter.all false
set_option maxRecDepth 100000
set_option maxHeartbeats 4000000
/-! MiY: methods of a slot's own list; the module's constants. -/
namespace Mi
open PySem PySem.Spec PyProof.Rows L2

/-! ### constants of the module -/
section
variable {X : Cx} {W : WX} {pos : Pos} {x z : Str} {i : Int}
theorem ae_gint (hm : ∃ t, X.mg x = some (.int i t)) (hg : Gl X x) (hd : (x == ("__debug__" : Str)) = false := by decide) : AE X W (cst (.int i)) (.Name x pos) := by
  obtain ⟨t, h⟩ := hm
  exact ae_glob (v := .int i) hg h ⟨t, rfl⟩ (fun _ => .int i) hd
theorem ae_gstr (hm : ∃ t, X.mg x = some (.str z t)) (hg : Gl X x) (hd : (x == ("__debug__" : Str)) = false := by decide) : AE X W (cst (.str z)) (.Name x pos) := by
  obtain ⟨t, h⟩ := hm
  exact ae_glob (v := .str z) hg h ⟨t, rfl⟩ (fun _ => .str z) hd
end
/-! ### a slot's own list -/
def lstAt (i : Nat) (ρ : Env') : Option (List D) := match ρ[i]? with
  | some (some (.o (.lst xs))) => some xs
  | some (some (.b (.lst xs))) => some xs
  | _ => none
def lstPut (i : Nat) (xs : List D) (ρ : Env') : Env' := match ρ[i]? with
  | some (some (.b _)) => ρ.set i (some (.b (.lst xs)))
  | _ => ρ.set i (some (.o (.lst xs)))
section
variable {K : Fg} {P : Hp} {B : Nat → Option V} {G G' : Hp} {ρ : Env'} {σ : L2.St} {H H' : Hp} {F : Nat → List Addr}
theorem SRF.lst (s : SRF K P B G ρ σ H F) {i : Nat} {xs : List D} (h : lstAt i ρ = some xs) :
    ∃ sv v, ρ[i]? = some (some sv) ∧ (sv = .o (.lst xs) ∨ sv = .b (.lst xs)) ∧ σ[i]? = some (some v) ∧ OR K G H (.lst xs) v (F i) := by
  unfold lstAt at h
  split at h
  · rename_i m hm
    cases h
    obtain ⟨v, q1, q2, _⟩ := s.slot i _ hm
    exact ⟨_, v, hm, .inl rfl, q1, q2⟩
  · rename_i m hm
    cases h
    obtain ⟨v, q1, q2, _⟩ := s.slot i _ hm
    exact ⟨_, v, hm, .inr rfl, q1, q2⟩
  · cases h
theorem SRF.lstPut (s : SRF K P B G ρ σ H F) {i : Nat} {xs xs' : List D} (h : lstAt i ρ = some xs) {v : V} (hv : σ[i]? = some (some v)) (n : OR K G H' (.lst xs') v (F i)) (hH : ∀ a, a ∉ F i → H' a = H a) :
    SRF K P B G (lstPut i xs' ρ) σ H' F := by
  obtain ⟨sv, v', h1, h2, h3, h4⟩ := s.lst h
  unfold Mi.lstPut
  rcases h2 with rfl | rfl
  · rw [h1]
    exact s.poke h1 rfl hv (sv' := .o (.lst xs')) n hH n.some
  · rw [h1]
    exact s.poke h1 rfl hv (sv' := .b (.lst xs')) n hH n.some
end
def appB (i : Nat) : List EV → Env' → R EV
  | [.d y], ρ1 => match lstAt i ρ1 with
    | some xs => if xs.length < sizeLine then .ok (.d .none) (lstPut i (xs ++ [y]) ρ1) else .bad
    | none => .bad
  | _, _ => .bad
/-- x.append(..) -/
def mApp (i : Nat) (ms : Env' → R (List EV)) : Env' → R EV := fun ρ => match lstAt i ρ with
  | some _ => (ms ρ).bind (appB i)
  | none => .bad
def extA (i : Nat) (zs : List D) (ρ1 : Env') : R EV := match lstAt i ρ1 with
  | some xs => if xs.length + zs.length ≤ sizeLine then .ok (.d .none) (lstPut i (xs ++ zs) ρ1) else .bad
  | none => .bad
def extB (i : Nat) : List EV → Env' → R EV
  | [.d (.list zs)], ρ1 => extA i zs ρ1
  | [.d (.tuple zs)], ρ1 => extA i zs ρ1
  | _, _ => .bad
/-- x.extend(..), a list -/
def mExt (i : Nat) (ms : Env' → R (List EV)) : Env' → R EV := fun ρ => match lstAt i ρ with
  | some _ => (ms ρ).bind (extB i)
  | none => .bad
/-- x.pop() -/
def mPop (i : Nat) : Env' → R EV := fun ρ => match lstAt i ρ with
  | some xs => match xs[xs.length - 1]? with
    | some y => .ok (.d y) (lstPut i xs.dropLast ρ)
    | none => .bad
  | none => .bad
section
variable {X : Cx} {W : WX} {e : Expr} {es : List Expr} {ms : Env' → R (List EV)} {pos p apos cpos : Pos} {x : Str}
def tVr (i : Nat) : TE := fun σ H Q => ∃ v, σ[i]? = some (some v) ∧ Q v H
theorem pe_vr (i : Nat) (hN : X.N[i]? = some x) (hv : Vis X.env.scope x) (hd : (x == ("__debug__" : Str)) = false := by decide) (hcd : (x == ("__classdict__" : Str)) = false := by decide) : PE X (.Name x p) (tVr i) :=
  PE.imp (pe_var hN hv hd hcd) fun σ H Q h => h
theorem one_item {K : Fg} {P G H : Hp} {σ : L2.St} {F : Nat → List Addr} {y : D} {ws : List V} (r : EvRs K P G H σ F [.d y] ws) : ∃ w, ws = [w] ∧ RD K G y w := by
  obtain ⟨hl, h⟩ := r
  match ws, hl with
  | [w], _ => exact ⟨w, rfl, (h 0 (.d y) w rfl rfl).2⟩
theorem ae_app (i : Nat) (ha : AA X W ms (e :: es)) (hN : X.N[i]? = some x := by rfl) (hv : Vis X.env.scope x := by first | exact Or.inl rfl | exact Or.inr (Or.inl rfl) | exact Or.inr (Or.inr rfl)) (hd : (x == ("__debug__" : Str)) = false := by decide)
    (hcd : (x == ("__classdict__" : Str)) = false := by decide) (hbase : attributeBase (.Name x p) "append" X.env (eval (.Name x p) X.env) = eval (.Name x p) X.env := by rfl)
    (hfew : ((backTo cpos (starEach (e :: es) X.env)).all (fun x => !x.1) && (backToKw cpos (keywordEach [] X.env)).all (fun x => x.1.isSome)
      && decide ((e :: es).length + ([] : List Keyword).length + (if ([] : List Keyword).isEmpty then 0 else 1) < 30)) = true := by rfl)
    (hline : (apos.endLine == cpos.line) = true := by rfl) (hs : starEach (e :: es) X.env = (false, eval e X.env) :: starEach es X.env := by rfl) (hplain : (backTo cpos (starEach es X.env)).any (·.1) = false := by rfl) :
    AE X W (mApp i ms) (.Call (.Attribute (.Name x p) "append" apos) (e :: es) [] cpos) := by
  refine (pe_bm (X := X) (r := rAppend) PySem.F.plainAttrs_list PySem.F.slot_list_append PySem.F.type_list_append mt_append (pe_vr i hN hv hd hcd) ha hbase hfew hline hs hplain).imp fun σ H Q h => ?_
  obtain ⟨P, B, G, ρ, F, s, h⟩ := h
  unfold mApp at h
  cases q : lstAt i ρ with
  | none => simp only [q] at h; exact h.elim
  | some xs0 =>
    simp only [q] at h
    obtain ⟨_, v, _, _, hv0, a, vs0, rfl, _, ha0, _⟩ := s.lst q
    refine ⟨.ref a, hv0, .inl ⟨rfl, vs0, SqL.of ha0⟩, P, B, G, ρ, F, s, (Po.bind (rel := EvRs X.K) h).imp fun ws H1 ⟨G1, ρ1, F1, es, e1, s1, r1, h1⟩ => ?_⟩
    unfold appB at h1
    split at h1
    · rename_i y
      cases q1 : lstAt i ρ1 with
      | none => simp only [q1] at h1; exact h1.elim
      | some xs =>
        simp only [q1] at h1
        split at h1
        · rename_i hlen
          obtain ⟨w, rfl, hw⟩ := one_item r1
          obtain ⟨_, v1, _, _, hv1, a1, vs, ev, eF, hl1, hr1⟩ := s1.lst q1
          rw [hv0] at hv1
          cases hv1
          cases ev
          refine ⟨a, vs, w, rfl, rfl, hl1, by rw [hr1.length]; exact hlen, ?_⟩
          have n : OR X.K G1 (upd H1 a (.lst (vs ++ [w]))) (.lst (xs ++ [y])) (.ref a) (F1 i) := ⟨a, vs ++ [w], rfl, eF, upd_same, hr1.snoc hw⟩
          exact h1 G1 _ F1 .non (Same.refl _) (s1.lstPut q1 hv0 n fun c hc => upd_ne fun z => hc (by rw [eF, z]; exact List.mem_singleton.mpr rfl)) .non
        · exact h1.elim
    · exact h1.elim
theorem list_extend_tup (l : Addr) (items : Array Value) (n : Nat) (b : Addr) (items2 : Array Value) (n2 : Nat) (dd : Option Addr) (sl : Array (Option Value)) (hs0 : ¬(!items.isEmpty && Builtin.List.listTooLong (items.size + items2.size)) = true) (hs1 : items.size ≤ sizeLine) (hs2 : items.size + items2.size ≤ sizeLine + 1) :
    Meets (Builtin.«list.extend» ⟨[.ref l, .ref b], []⟩) (fun _ R s => s.heap.get? l = some { cls := .type "list", dict := none, data := .seq items n, slots := #[] } ∧ s.heap.get? b = some { cls := .type "tuple", dict := dd, data := .seq items2 n2, slots := sl } ∧ R (.ok (.ret Value.none)) { s with heap := s.heap.update l (Obj.mapSeq fun x => x ++ items2), toks := s.toks }) :=
  .of_wp fun prog w A R s h => by
    obtain ⟨hp, g, d, tk, os⟩ := s
    obtain ⟨hl, hb, h⟩ := h
    have hz' : (items ++ items2).size ≤ sizeLine + 1 := by rw [Array.size_append]; exact hs2
    wp_walk using (wpAny_updateSeq hl rfl (hz := hs1) (_hz' := hz')), wpAny_loadPart' hl, wpAny_loadPart' hb
    exact ⟨_, rfl, h⟩
def rExtendT (K : Fg) : V → List V → Hp → VK → Prop := fun x vs H Q => ∃ l b xs zs, x = .ref l ∧ vs = [.ref b] ∧ H l = some (.lst xs) ∧ SqT K H b zs ∧ xs.length + zs.length ≤ sizeLine ∧ Q .non (upd H l (.lst (xs ++ zs)))
theorem mt_extendT : MtM X "list.extend" (rExtendT X.K) := by
  intro pins s σ H x vs v us Q I rx rv h
  obtain ⟨l, b, xs, zs, rfl, rfl, hH, hB, hz, q⟩ := h
  cases rx
  obtain ⟨u, rfl, ru⟩ := rv.one
  cases ru
  obtain ⟨z, its, n, r, hl, e⟩ := I.lstM hH
  obtain ⟨its2, r2, ⟨⟨cls, dd, data, sl⟩, e2, hc, n2, hd⟩, hz2⟩ := I.tuple hB
  simp only at hc hd
  subst hc hd
  have hl2 := r2.length
  have hsz : its.toArray.size + its2.toArray.size ≤ sizeLine := by rw [List.size_toArray, List.size_toArray]; omega
  have hlong : ¬ (!its.toArray.isEmpty && Builtin.List.listTooLong (its.toArray.size + its2.toArray.size)) = true := by
    rw [notLongL hsz, Bool.and_false]
    exact Bool.false_ne_true
  refine call_meets F.slot_list_extend ⟨_, e, rfl⟩ F.entry_list_extend (F.args_list_extend_2 _ _)
    (list_extend_tup l its.toArray n b its2.toArray n2 dd sl hlong (by rw [List.size_toArray]; omega) (by omega)) ⟨e, e2, ?_⟩
  refine ⟨.non, _, I.lset (its' := its ++ its2) hH e (by simp) (r.append r2) ?_, rfl, q⟩
  rw [List.length_append]
  omega
theorem ae_ext (i : Nat) (ha : AA X W ms (e :: es)) (hN : X.N[i]? = some x := by rfl) (hv : Vis X.env.scope x := by first | exact Or.inl rfl | exact Or.inr (Or.inl rfl) | exact Or.inr (Or.inr rfl)) (hd : (x == ("__debug__" : Str)) = false := by decide)
    (hcd : (x == ("__classdict__" : Str)) = false := by decide) (hbase : attributeBase (.Name x p) "extend" X.env (eval (.Name x p) X.env) = eval (.Name x p) X.env := by rfl)
    (hfew : ((backTo cpos (starEach (e :: es) X.env)).all (fun x => !x.1) && (backToKw cpos (keywordEach [] X.env)).all (fun x => x.1.isSome)
      && decide ((e :: es).length + ([] : List Keyword).length + (if ([] : List Keyword).isEmpty then 0 else 1) < 30)) = true := by rfl)
    (hline : (apos.endLine == cpos.line) = true := by rfl) (hs : starEach (e :: es) X.env = (false, eval e X.env) :: starEach es X.env := by rfl) (hplain : (backTo cpos (starEach es X.env)).any (·.1) = false := by rfl) :
    AE X W (mExt i ms) (.Call (.Attribute (.Name x p) "extend" apos) (e :: es) [] cpos) := by
  refine (pe_bm (X := X) PySem.F.plainAttrs_list PySem.F.slot_list_extend PySem.F.type_list_extend (MtR.or (r := rExtend) mt_extend mt_extendT) (pe_vr i hN hv hd hcd) ha hbase hfew hline hs hplain).imp fun σ H Q h => ?_
  obtain ⟨P, B, G, ρ, F, s, h⟩ := h
  unfold mExt at h
  cases q : lstAt i ρ with
  | none => simp only [q] at h; exact h.elim
  | some xs0 =>
    simp only [q] at h
    obtain ⟨_, v, _, _, hv0, a, vs0, rfl, _, ha0, _⟩ := s.lst q
    refine ⟨.ref a, hv0, .inl ⟨rfl, vs0, SqL.of ha0⟩, P, B, G, ρ, F, s, (Po.bind (rel := EvRs X.K) h).imp fun ws H1 ⟨G1, ρ1, F1, es, e1, s1, r1, h1⟩ => ?_⟩
    unfold extB at h1
    split at h1
    · rename_i zs
      unfold extA at h1
      cases q1 : lstAt i ρ1 with
      | none => simp only [q1] at h1; exact h1.elim
      | some xs =>
        simp only [q1] at h1
        split at h1
        · rename_i hlen
          obtain ⟨w, rfl, hw⟩ := one_item r1
          obtain ⟨_, v1, _, _, hv1, a1, vs, ev, eF, hl1, hr1⟩ := s1.lst q1
          rw [hv0] at hv1
          cases hv1
          cases ev
          cases hw with
          | lst hg hr2 =>
            refine .inl ⟨a, _, vs, _, rfl, rfl, hl1, s1.sub _ _ hg, by rw [hr1.length, hr2.length]; exact hlen, ?_⟩
            have n : OR X.K G1 (upd H1 a (.lst (vs ++ _))) (.lst (xs ++ zs)) (.ref a) (F1 i) := ⟨a, vs ++ _, rfl, eF, upd_same, hr1.append hr2⟩
            exact h1 G1 _ F1 .non (Same.refl _) (s1.lstPut q1 hv0 n fun c hc => upd_ne fun z => hc (by rw [eF, z]; exact List.mem_singleton.mpr rfl)) .non
        · exact h1.elim
    · rename_i zs
      unfold extA at h1
      cases q1 : lstAt i ρ1 with
      | none => simp only [q1] at h1; exact h1.elim
      | some xs =>
        simp only [q1] at h1
        split at h1
        · rename_i hlen
          obtain ⟨w, rfl, hw⟩ := one_item r1
          obtain ⟨_, v1, _, _, hv1, a1, vs, ev, eF, hl1, hr1⟩ := s1.lst q1
          rw [hv0] at hv1
          cases hv1
          cases ev
          cases hw with
          | tup hg hr2 =>
            refine .inr ⟨a, _, vs, _, rfl, rfl, hl1, (hg.mono s1.sub).sqT, by rw [hr1.length, hr2.length]; exact hlen, ?_⟩
            have n : OR X.K G1 (upd H1 a (.lst (vs ++ _))) (.lst (xs ++ zs)) (.ref a) (F1 i) := ⟨a, vs ++ _, rfl, eF, upd_same, hr1.append hr2⟩
            exact h1 G1 _ F1 .non (Same.refl _) (s1.lstPut q1 hv0 n fun c hc => upd_ne fun z => hc (by rw [eF, z]; exact List.mem_singleton.mpr rfl)) .non
        · exact h1.elim
    · exact h1.elim
theorem ae_pop (i : Nat) (hN : X.N[i]? = some x := by rfl) (hv : Vis X.env.scope x := by first | exact Or.inl rfl | exact Or.inr (Or.inl rfl) | exact Or.inr (Or.inr rfl)) (hd : (x == ("__debug__" : Str)) = false := by decide)
    (hcd : (x == ("__classdict__" : Str)) = false := by decide) (hbase : attributeBase (.Name x p) "pop" X.env (eval (.Name x p) X.env) = eval (.Name x p) X.env := by rfl)
    (hline : (apos.endLine == cpos.line) = true := by rfl) :
    AE X W (mPop i) (.Call (.Attribute (.Name x p) "pop" apos) [] [] cpos) := by
  refine (pe_bm0 (X := X) (r := rPop) PySem.F.plainAttrs_list PySem.F.slot_list_pop PySem.F.type_list_pop mt_pop (pe_vr i hN hv hd hcd) hbase hline).imp fun σ H Q h => ?_
  obtain ⟨P, B, G, ρ, F, s, h⟩ := h
  unfold mPop at h
  cases q : lstAt i ρ with
  | none => simp only [q] at h; exact h.elim
  | some xs =>
    simp only [q] at h
    obtain ⟨_, v, _, _, hv0, a, vs, rfl, eF, ha0, hr⟩ := s.lst q
    cases q1 : xs[xs.length - 1]? with
    | none => simp only [q1] at h; exact h.elim
    | some y =>
      simp only [q1] at h
      obtain ⟨w, hw1, hw2⟩ := hr.get q1
      refine ⟨.ref a, hv0, .inl ⟨rfl, vs, SqL.of ha0⟩, a, vs, w, rfl, rfl, ha0, by rw [hr.length]; exact hw1, ?_⟩
      have n : OR X.K G (upd H a (.lst vs.dropLast)) (.lst xs.dropLast) (.ref a) (F i) := ⟨a, vs.dropLast, rfl, eF, upd_same, hr.dropLast⟩
      exact h G _ F w (Same.refl _) (s.lstPut q hv0 n fun c hc => upd_ne fun z => hc (by rw [eF, z]; exact List.mem_singleton.mpr rfl)) hw2
end
/-! ### computing -/
section
variable {ρ : Env'} {i : Nat} {ms : Env' → R (List EV)} {Q : EV → Env' → Prop} {E : Ex → Env' → Prop} {es : List EV}
def lA : Option (Option SV) → Option (List D)
  | some (some (.o (.lst xs))) => some xs
  | some (some (.b (.lst xs))) => some xs
  | _ => none
theorem lstAt_ap : lstAt i ρ = lA ρ[i]? := by
  unfold lstAt lA
  cases ρ[i]? with
  | none => rfl
  | some o => cases o with
    | none => rfl
    | some v => cases v with
      | o m => cases m <;> rfl
      | b m => cases m <;> rfl
      | _ => rfl
def pA : Option (Option SV) → Nat → List D → Env' → Env'
  | some (some (.b _)), i, xs, ρ => ρ.set i (some (.b (.lst xs)))
  | _, i, xs, ρ => ρ.set i (some (.o (.lst xs)))
theorem lstPut_ap {xs : List D} : lstPut i xs ρ = pA ρ[i]? i xs ρ := by
  unfold lstPut pA
  cases ρ[i]? with
  | none => rfl
  | some o => cases o with
    | none => rfl
    | some v => cases v <;> rfl
@[simp] theorem pA_o {m : MO} {xs : List D} : pA (some (some (.o m))) i xs ρ = ρ.set i (some (.o (.lst xs))) := (rfl)
@[simp] theorem pA_b {m : MO} {xs : List D} : pA (some (some (.b m))) i xs ρ = ρ.set i (some (.b (.lst xs))) := (rfl)
def okAt (i : Nat) (ρ : Env') (p : Prop) : Option (List D) → Prop
  | some _ => p
  | none => False
@[simp] theorem lA_o {xs : List D} : lA (some (some (.o (.lst xs)))) = some xs := (rfl)
@[simp] theorem lA_b {xs : List D} : lA (some (some (.b (.lst xs)))) = some xs := (rfl)
def isL : Option (List D) → Prop
  | some _ => True
  | none => False
@[simp] theorem isL_s {xs : List D} : isL (some xs) = True := (rfl)
def kAp2 (i : Nat) (y : D) (Q : EV → Env' → Prop) (ρ : Env') : Option (List D) → Prop
  | some xs => xs.length < sizeLine ∧ Q (.d .none) (pA ρ[i]? i (xs ++ [y]) ρ)
  | none => False
def kAp (i : Nat) (Q : EV → Env' → Prop) (es : List EV) (ρ : Env') : Prop := match es with
  | [.d y] => kAp2 i y Q ρ (lA ρ[i]?)
  | _ => False
theorem sat_appB {o : Option (List D)} {y : D} (h : lstAt i ρ = o) : sat (match lstAt i ρ with | some xs => if xs.length < sizeLine then .ok (.d .none) (lstPut i (xs ++ [y]) ρ) else .bad | none => .bad) Q E = kAp2 i y Q ρ o := by
  rw [h]
  cases o with
  | none => exact sat_bad
  | some xs =>
    show sat (if xs.length < sizeLine then _ else _) Q E = (xs.length < sizeLine ∧ _)
    rw [sat_ite, sat_ok, sat_bad, lstPut_ap]
    by_cases h : xs.length < sizeLine <;> simp [h]
@[simp ↓] theorem s_mApp : sat (mApp i ms ρ) Q E = (isL (lA ρ[i]?) ∧ sat (ms ρ) (kAp i Q) E) := by
  unfold mApp
  rw [lstAt_ap]
  cases lA ρ[i]? with
  | none => simp [isL]
  | some xs =>
    show sat ((ms ρ).bind (appB i)) Q E = _
    rw [sat_bind, isL_s, true_and]
    congr 1
    funext es ρ1
    unfold appB kAp
    split
    · exact sat_appB lstAt_ap
    · rename_i hne
      rw [sat_bad]
      split
      · exact (hne _ rfl).elim
      · rfl
@[simp] theorem kAp_ap {y : D} : kAp i Q [.d y] ρ = kAp2 i y Q ρ (lA ρ[i]?) := (rfl)
@[simp] theorem kAp2_s {y : D} {xs : List D} : kAp2 i y Q ρ (some xs) = (xs.length < sizeLine ∧ Q (.d .none) (pA ρ[i]? i (xs ++ [y]) ρ)) := (rfl)
def kXt2 (i : Nat) (zs : List D) (Q : EV → Env' → Prop) (ρ : Env') : Option (List D) → Prop
  | some xs => xs.length + zs.length ≤ sizeLine ∧ Q (.d .none) (pA ρ[i]? i (xs ++ zs) ρ)
  | none => False
def kXt (i : Nat) (Q : EV → Env' → Prop) (es : List EV) (ρ : Env') : Prop := match es with
  | [.d (.list zs)] => kXt2 i zs Q ρ (lA ρ[i]?)
  | [.d (.tuple zs)] => kXt2 i zs Q ρ (lA ρ[i]?)
  | _ => False
theorem sat_extB {o : Option (List D)} {zs : List D} (h : lstAt i ρ = o) : sat (match lstAt i ρ with | some xs => if xs.length + zs.length ≤ sizeLine then .ok (.d .none) (lstPut i (xs ++ zs) ρ) else .bad | none => .bad) Q E = kXt2 i zs Q ρ o := by
  rw [h]
  cases o with
  | none => exact sat_bad
  | some xs =>
    show sat (if xs.length + zs.length ≤ sizeLine then _ else _) Q E = (xs.length + zs.length ≤ sizeLine ∧ _)
    rw [sat_ite, sat_ok, sat_bad, lstPut_ap]
    by_cases h : xs.length + zs.length ≤ sizeLine <;> simp [h]
@[simp ↓] theorem s_mExt : sat (mExt i ms ρ) Q E = (isL (lA ρ[i]?) ∧ sat (ms ρ) (kXt i Q) E) := by
  unfold mExt
  rw [lstAt_ap]
  cases lA ρ[i]? with
  | none => simp [isL]
  | some xs =>
    show sat ((ms ρ).bind (extB i)) Q E = _
    rw [sat_bind, isL_s, true_and]
    congr 1
    funext es ρ1
    unfold extB kXt
    split
    · exact sat_extB lstAt_ap
    · exact sat_extB lstAt_ap
    · rename_i hne hne2
      rw [sat_bad]
      split
      · exact (hne _ rfl).elim
      · exact (hne2 _ rfl).elim
      · rfl
@[simp] theorem kXt_ap {zs : List D} : kXt i Q [.d (.list zs)] ρ = kXt2 i zs Q ρ (lA ρ[i]?) := (rfl)
@[simp] theorem kXt_apT {zs : List D} : kXt i Q [.d (.tuple zs)] ρ = kXt2 i zs Q ρ (lA ρ[i]?) := (rfl)
@[simp] theorem kXt2_s {zs : List D} {xs : List D} : kXt2 i zs Q ρ (some xs) = (xs.length + zs.length ≤ sizeLine ∧ Q (.d .none) (pA ρ[i]? i (xs ++ zs) ρ)) := (rfl)
def kPo2 (i : Nat) (xs : List D) (Q : EV → Env' → Prop) (ρ : Env') : Option D → Prop
  | some y => Q (.d y) (pA ρ[i]? i xs.dropLast ρ)
  | none => False
def kPo (i : Nat) (Q : EV → Env' → Prop) (ρ : Env') : Option (List D) → Prop
  | some xs => kPo2 i xs Q ρ xs[xs.length - 1]?
  | none => False
@[simp ↓] theorem s_mPop : sat (mPop i ρ) Q E = kPo i Q ρ (lA ρ[i]?) := by
  unfold mPop kPo
  rw [lstAt_ap]
  cases lA ρ[i]? with
  | none => exact sat_bad
  | some xs =>
    show sat (match xs[xs.length - 1]? with | some y => .ok (.d y) (lstPut i xs.dropLast ρ) | none => .bad) Q E = kPo2 i xs Q ρ xs[xs.length - 1]?
    unfold kPo2
    cases xs[xs.length - 1]? with
    | none => exact sat_bad
    | some y =>
      show sat (R.ok (.d y) (lstPut i xs.dropLast ρ)) Q E = Q (.d y) (pA ρ[i]? i xs.dropLast ρ)
      rw [sat_ok, lstPut_ap]
@[simp] theorem kPo_s {xs : List D} : kPo i Q ρ (some xs) = kPo2 i xs Q ρ xs[xs.length - 1]? := (rfl)
@[simp] theorem kPo2_s {xs : List D} {y : D} : kPo2 i xs Q ρ (some y) = Q (.d y) (pA ρ[i]? i xs.dropLast ρ) := (rfl)
theorem kPo_snoc {xs : List D} {y : D} : kPo i Q ρ (some (xs ++ [y])) = Q (.d y) (pA ρ[i]? i xs ρ) := by
  rw [kPo_s]
  have e : (xs ++ [y])[(xs ++ [y]).length - 1]? = some y := by simp
  rw [e, kPo2_s, List.dropLast_concat]
end
end Mi
/-! text MiZ -/
set_option Elab.async false
set_option linter.all false
set_option maxRecDepth 100000
set_option maxHeartbeats 4000000
/-! MiZ: equality of data; texts. -/
namespace Mi
open PySem PySem.Spec PyProof.Rows L2 TL

/-! ### equality of data without truth values -/
mutual
def NB : D → Bool
  | .none => true
  | .bool _ => false
  | .int _ => true
  | .str _ => true
  | .list xs => NBs xs
  | .tuple xs => NBs xs
  | .dict _ => false
def NBs : List D → Bool
  | [] => true
  | d :: ds => NB d && NBs ds
end
mutual
theorem eqv_iff : ∀ (a b : D), NB a = true → NB b = true → (PyData.eqv a b = true ↔ a = b)
  | .none, b, _, hb => by cases b <;> simp [PyData.eqv, NB] at hb ⊢
  | .bool x, b, ha, _ => by simp [NB] at ha
  | .int x, b, _, hb => by cases b <;> simp [PyData.eqv, NB] at hb ⊢
  | .str x, b, _, hb => by cases b <;> simp [PyData.eqv, NB] at hb ⊢
  | .list xs, b, ha, hb => by
    cases b with
    | list ys =>
      simp only [NB] at ha hb
      simp only [PyData.eqv, PyData.list.injEq]
      exact eqvs_iff xs ys ha hb
    | _ => simp [PyData.eqv, NB] at hb ⊢
  | .tuple xs, b, ha, hb => by
    cases b with
    | tuple ys =>
      simp only [NB] at ha hb
      simp only [PyData.eqv, PyData.tuple.injEq]
      exact eqvs_iff xs ys ha hb
    | _ => simp [PyData.eqv, NB] at hb ⊢
  | .dict x, b, ha, _ => by simp [NB] at ha
theorem eqvs_iff : ∀ (a b : List D), NBs a = true → NBs b = true → (PyData.eqvAll a b = true ↔ a = b)
  | [], [], _, _ => by simp [PyData.eqvAll]
  | [], y :: ys, _, _ => by simp [PyData.eqvAll]
  | x :: xs, [], _, _ => by simp [PyData.eqvAll]
  | x :: xs, y :: ys, ha, hb => by
    simp only [NBs, Bool.and_eq_true] at ha hb
    simp only [PyData.eqvAll, Bool.and_eq_true, List.cons.injEq]
    rw [eqv_iff x y ha.1 hb.1, eqvs_iff xs ys ha.2 hb.2]
end
/-- the same datum -/
noncomputable def sm (a b : D) : Bool := @decide (a = b) (Classical.propDecidable _)
theorem sm_t {a b : D} (h : a = b) : sm a b = true := by unfold sm; exact @decide_eq_true _ (Classical.propDecidable _) h
theorem sm_f {a b : D} (h : a ≠ b) : sm a b = false := by unfold sm; exact @decide_eq_false _ (Classical.propDecidable _) h
theorem sm_iff {a b : D} : sm a b = true ↔ a = b := by unfold sm; exact @decide_eq_true_iff _ (Classical.propDecidable _)
theorem sm_refl {a : D} : sm a a = true := sm_t rfl
theorem eqO_nb {a b : D} (ha : NB a = true) (hb : NB b = true) (la : a.canLay0 = true) (lb : b.canLay0 = true) (da : a.depth ≤ 2000) : eqO a b = some (sm a b) := by
  have fin : ∀ k : Bool, (k = true ↔ a = b) → some k = some (sm a b) := fun k hk => by
    congr 1
    cases k with
    | true => exact (sm_t (hk.mp rfl)).symm
    | false => exact (sm_f fun h => by have := hk.mpr h; cases this).symm
  have gen : eqG a b = some (sm a b) := by
    unfold eqG
    rw [if_pos (by rw [la, lb]; simp; omega)]
    exact fin _ (eqv_iff a b ha hb)
  have emp : ∀ xs ys : List D, (xs.isEmpty || ys.isEmpty) = true → ((xs.isEmpty && ys.isEmpty) = true ↔ xs = ys) := fun xs ys h => by
    cases xs <;> cases ys <;> simp at h ⊢
  cases a with
  | none => cases b <;> first
    | (simp [NB] at hb; done)
    | exact fin _ (by simp)
  | bool x => simp [NB] at ha
  | int x => cases b <;> first
    | (simp [NB] at hb; done)
    | exact fin _ (by simp)
  | str x => cases b <;> first
    | (simp [NB] at hb; done)
    | exact fin _ (by simp)
  | list xs =>
    cases b with
    | list ys =>
      show (if (xs.isEmpty || ys.isEmpty) = true then some (xs.isEmpty && ys.isEmpty) else eqG (.list xs) (.list ys)) = _
      split
      · rename_i h
        refine fin _ ?_
        rw [emp xs ys h]; simp
      · exact gen
    | bool x => simp [NB] at hb
    | dict x => simp [NB] at hb
    | _ => exact fin _ (by simp)
  | tuple xs =>
    cases b with
    | tuple ys =>
      show (if (xs.isEmpty || ys.isEmpty) = true then some (xs.isEmpty && ys.isEmpty) else eqG (.tuple xs) (.tuple ys)) = _
      split
      · rename_i h
        refine fin _ ?_
        rw [emp xs ys h]; simp
      · exact gen
    | bool x => simp [NB] at hb
    | dict x => simp [NB] at hb
    | _ => exact fin _ (by simp)
  | dict x => simp [NB] at ha
theorem NBs_all : ∀ {ds : List D}, (∀ d ∈ ds, NB d = true) → NBs ds = true
  | [], _ => by simp [NBs]
  | d :: ds, h => by
    simp only [NBs, Bool.and_eq_true]
    exact ⟨h d List.mem_cons_self, NBs_all fun d hd => h d (List.mem_cons_of_mem _ hd)⟩
/-! ### texts -/
theorem strOk_iff {x : Str} : PyData.strOk x = true ↔ ∀ c ∈ tl x, c < 0x110000 := by
  unfold PyData.strOk
  rw [Array.all_eq_true_iff_forall_mem]
  unfold tl
  simp only [Array.mem_toList_iff, decide_eq_true_eq]
theorem strOk_app {x y : Str} (hx : PyData.strOk x = true) (hy : PyData.strOk y = true) : PyData.strOk (x ++ y) = true := by
  rw [strOk_iff] at hx hy ⊢
  rw [tl_append]
  intro c hc
  rcases List.mem_append.mp hc with h | h
  · exact hx c h
  · exact hy c h
theorem size_tl {x : Str} : x.cps.size = (tl x).length := by simp [tl]
/-- str(i) -/
def dec (i : Int) : Str := Str.ofString (toString i)
theorem tl_dec (n : Nat) : tl (dec n) = numL n := tl_num n
theorem strOk_dec (n : Nat) : PyData.strOk (dec n) = true := by
  rw [strOk_iff, tl_dec]
  intro c hc
  have := numL_digits n c hc
  omega
theorem len_dec {n k : Nat} (hk : 0 < k) (h : n < 10 ^ k) : (dec n).length ≤ k := by rw [len_tl, tl_dec]; exact numL_len hk h
theorem gStr_i {n : Nat} (h : n < 1000000000000) : gStr [.int (n : Nat)] = some (.d (.str (dec n))) := by
  show (if (n : Int).natAbs.log2 < 1920 then some (EV.d (.str (dec n))) else none) = _
  have e : (n : Int).natAbs = n := by omega
  rw [e]
  have := log2_12 (n := n) (by
    have e : (10 : Nat) ^ 12 = 1000000000000 := by decide
    omega)
  rw [if_pos (by omega)]
/-- a sign that is in neither first part cuts alike -/
theorem cut_inj {s : Nat} {a b c d : List Nat} (ha : s ∉ a) (hb : s ∉ b) (h : a ++ s :: c = b ++ s :: d) : a = b ∧ c = d := by
  induction a generalizing b with
  | nil =>
    cases b with
    | nil => simp at h; exact ⟨rfl, h⟩
    | cons y b => simp at h; exact absurd (by simp [h.1]) hb
  | cons x a ih =>
    cases b with
    | nil => simp at h; exact absurd (by simp [h.1]) ha
    | cons y b =>
      simp at h ha hb
      obtain ⟨rfl, h⟩ := h
      obtain ⟨rfl, rfl⟩ := ih ha.2 hb.2 h
      exact ⟨rfl, rfl⟩
section
variable {Q : EV → Env' → Prop} {ρ : Env'} {x y : Str}
@[simp] theorem o_fAdd_s : satO (fAdd (.str x) (.str y)) Q ρ = (x.length + y.length ≤ sizeLine ∧ Q (.d (.str (x ++ y))) ρ) := satO_if
@[simp] theorem gOrd_1 {c : Nat} : gOrd [.str ⟨#[c]⟩] = some (.d (.int c)) := (rfl)
end
@[simp] theorem itV_s {x : Str} {ρ : Env'} : itV (.d (.str x)) ρ = .ok ((tl x).map fun c => .str ⟨#[c]⟩) ρ := (rfl)
theorem getI {α : Type} {l : List α} {i : Nat} {v : α} (h : l[i]? = some v) : ∀ hi : i < l.length, l[i] = v := fun hi => by
  rw [List.getElem?_eq_getElem hi] at h; exact Option.some.inj h
theorem ib (a b : Int) : (a == b) = decide (a = b) := by by_cases h : a = b <;> simp [h]
theorem atI_eq {α : Type} {xs : List α} {k : Int} {n : Nat} {v : α} (h : xs[n]? = some v) (e : k = (n : Nat)) : L2.atI xs k = some v := by rw [e, atI_nat, h]
/-! ### written lists: turn by turn -/
section
variable {vs : List Nat} {asg : Asg} {tt : Env' → R Bool} {te : Env' → R EV} {d : D} {ds acc : List D} {ρ0 ρ1 ρ : Env'} {Q : EV → Env' → Prop} {E : Ex → Env' → Prop} {e : EV}
def kC4 (vs : List Nat) (asg : Asg) (tt : Env' → R Bool) (te : Env' → R EV) (ds acc : List D) (ρ1 : Env') (Q : EV → Env' → Prop) (E : Ex → Env' → Prop) (ρ : Env') : EV → Prop
  | .d y => acc.length < sizeLine ∧ sat (lcE vs ρ1 (cL vs asg tt te ds (acc ++ [y]) (wipeE ρ vs))) Q E
  | _ => False
def kC3 (vs : List Nat) (asg : Asg) (tt : Env' → R Bool) (te : Env' → R EV) (ds acc : List D) (ρ1 : Env') (Q : EV → Env' → Prop) (E : Ex → Env' → Prop) (e : EV) (ρ : Env') : Prop := kC4 vs asg tt te ds acc ρ1 Q E ρ (fzV e)
def kC2 (vs : List Nat) (asg : Asg) (tt : Env' → R Bool) (te : Env' → R EV) (ds acc : List D) (ρ1 : Env') (Q : EV → Env' → Prop) (E : Ex → Env' → Prop) (t : Bool) (ρ : Env') : Prop := match t with
  | true => sat (te ρ) (kC3 vs asg tt te ds acc ρ1 Q E) noE
  | false => sat (lcE vs ρ1 (cL vs asg tt te ds acc (wipeE ρ vs))) Q E
def kC1 (vs : List Nat) (asg : Asg) (tt : Env' → R Bool) (te : Env' → R EV) (ds acc : List D) (ρ1 : Env') (Q : EV → Env' → Prop) (E : Ex → Env' → Prop) (_ : Unit) (ρ : Env') : Prop := sat (tt ρ) (kC2 vs asg tt te ds acc ρ1 Q E) noE
@[simp] theorem kC1_ap {u : Unit} : kC1 vs asg tt te ds acc ρ1 Q E u ρ = sat (tt ρ) (kC2 vs asg tt te ds acc ρ1 Q E) noE := (rfl)
@[simp] theorem kC2_t : kC2 vs asg tt te ds acc ρ1 Q E true ρ = sat (te ρ) (kC3 vs asg tt te ds acc ρ1 Q E) noE := (rfl)
@[simp] theorem kC2_f : kC2 vs asg tt te ds acc ρ1 Q E false ρ = sat (lcE vs ρ1 (cL vs asg tt te ds acc (wipeE ρ vs))) Q E := (rfl)
@[simp] theorem kC3_ap : kC3 vs asg tt te ds acc ρ1 Q E e ρ = kC4 vs asg tt te ds acc ρ1 Q E ρ (fzV e) := (rfl)
@[simp] theorem kC4_d {y : D} : kC4 vs asg tt te ds acc ρ1 Q E ρ (.d y) = (acc.length < sizeLine ∧ sat (lcE vs ρ1 (cL vs asg tt te ds (acc ++ [y]) (wipeE ρ vs))) Q E) := (rfl)
@[simp ↓] theorem s_tYes {Qb : Bool → Env' → Prop} : sat (tYes' ρ) Qb E = Qb true ρ := sat_ok
theorem lc_nil : sat (lcE vs ρ1 (cL vs asg tt te [] acc ρ0)) Q E = Q (.fr (.lst acc)) (mergeE ρ1 ρ0 vs) := sat_ok
theorem lc_cons : sat (lcE vs ρ1 (cL vs asg tt te (d :: ds) acc ρ0)) Q E = sat (R.env (asg (.d d) ρ0)) (kC1 vs asg tt te ds acc ρ1 Q E) noE := by
  rw [cL]
  cases asg (.d d) ρ0 with
  | none => exact sat_bad.trans sat_bad.symm
  | some ρ2 =>
    rw [env_some, sat_ok, kC1_ap]
    show sat (lcE vs ρ1 ((tt ρ2).bind _)) Q E = _
    cases tt ρ2 with
    | bad => exact sat_bad.trans sat_bad.symm
    | exc x ρ3 => rw [sat_exc]; exact sat_bad
    | ok t ρ3 =>
      rw [sat_ok, R.bind_ok]
      cases t with
      | false => rfl
      | true =>
        rw [kC2_t]
        show sat (lcE vs ρ1 ((te ρ3).bind _)) Q E = _
        cases te ρ3 with
        | bad => exact sat_bad.trans sat_bad.symm
        | exc x ρ4 => rw [sat_exc]; exact sat_bad
        | ok e ρ4 =>
          rw [sat_ok, R.bind_ok, kC3_ap]
          cases fzV e with
          | d y =>
            rw [kC4_d]
            show sat (lcE vs ρ1 (if acc.length < sizeLine then _ else _)) Q E = _
            by_cases h : acc.length < sizeLine
            · rw [if_pos h]; simp [h]
            · rw [if_neg h]; simp [h]; intro z; cases z
          | al i => exact sat_bad
          | fr x => exact sat_bad
end
section
variable {asg : Asg} {b k : Env' → RS} {d : D} {ds : List D} {ρ : Env'} {q : RS → Prop} {r : RS}
def loopQ (k : Env' → RS) (q : RS → Prop) : RS → Prop
  | .nx ρ => ws (k ρ) q
  | .ct ρ => ws (k ρ) q
  | .bk ρ => q (.nx ρ)
  | r => q r
@[simp] theorem loopQ_nx : loopQ k q (.nx ρ) = ws (k ρ) q := (rfl)
@[simp] theorem loopQ_ct : loopQ k q (.ct ρ) = ws (k ρ) q := (rfl)
@[simp] theorem loopQ_bk : loopQ k q (.bk ρ) = q (.nx ρ) := (rfl)
@[simp] theorem loopQ_rt {e : EV} : loopQ k q (.rt e ρ) = q (.rt e ρ) := (rfl)
@[simp] theorem loopQ_exc {x : Ex} : loopQ k q (.exc x ρ) = q (.exc x ρ) := (rfl)
theorem ws_loopQ : ws (r.loop k) q = ws r (loopQ k q) := by cases r <;> simp
def wsA (b k : Env' → RS) (q : RS → Prop) : Option Env' → Prop
  | some ρ => ws (b ρ) (loopQ k q)
  | none => False
@[simp] theorem wsA_s : wsA b k q (some ρ) = ws (b ρ) (loopQ k q) := (rfl)
theorem wf_nil : ws (fL asg b [] ρ) q = q (.nx ρ) := ws_nx
theorem wf_cons : ws (fL asg b (d :: ds) ρ) q = wsA b (fL asg b ds) q (asg (.d d) ρ) := by
  rw [fL_cons]
  cases asg (.d d) ρ with
  | none => exact ws_bad
  | some ρ1 => exact ws_loopQ
end
/-! ### slices -/
theorem cutD_drop (xs : List D) (n : Nat) : cutD xs (some (n : Int)) none = xs.drop n := by
  unfold cutD
  rw [HT.sIx_nat, HT.sIx_none]
  by_cases h : n ≤ xs.length
  · rw [Nat.min_eq_left h, List.take_of_length_le (by rw [List.length_drop]; omega)]
  · rw [Nat.min_eq_right (by omega), List.drop_eq_nil_of_le (Nat.le_refl _), List.drop_eq_nil_of_le (by omega), List.take_nil]
theorem cutD_take (xs : List D) (n : Nat) : cutD xs none (some (n : Int)) = xs.take n := by
  unfold cutD
  rw [HT.sIx_nat, HT.sIx_none, List.drop_zero, Nat.sub_zero]
  by_cases h : n ≤ xs.length
  · rw [Nat.min_eq_left h]
  · rw [Nat.min_eq_right (by omega), List.take_of_length_le (Nat.le_refl _), List.take_of_length_le (by omega)]
@[simp] theorem atI_3 {α : Type} (xs : List α) : L2.atI xs 3 = xs[3]? := atI_nat xs 3
@[simp] theorem atI_4 {α : Type} (xs : List α) : L2.atI xs 4 = xs[4]? := atI_nat xs 4
@[simp] theorem atI_5 {α : Type} (xs : List α) : L2.atI xs 5 = xs[5]? := atI_nat xs 5
@[simp] theorem atI_6 {α : Type} (xs : List α) : L2.atI xs 6 = xs[6]? := atI_nat xs 6
@[simp] theorem atI_7 {α : Type} (xs : List α) : L2.atI xs 7 = xs[7]? := atI_nat xs 7
end Mi
/-! text MiDa -/
set_option Elab.async false
set_option linter.all false
set_option maxRecDepth 100000
set_option maxHeartbeats 4000000
/-! MiDa: dicts with keys of ints and texts: made of pairs, grown, looked up. -/
namespace Mi
open PySem PySem.Spec PyProof.Rows L2 TL

/-! ### rows -/
section
variable {κ α : Type} [DecidableEq κ]
def putD (kvs : List (κ × α)) (k : κ) (v : α) : List (κ × α) :=
  if (kvs.any fun kv => decide (kv.1 = k)) = true then kvs.map (fun kv => if kv.1 = k then (kv.1, v) else kv) else kvs ++ [(k, v)]
def mrgD (kvs more : List (κ × α)) : List (κ × α) := more.foldl (fun acc kv => putD acc kv.1 kv.2) kvs
def valD (kvs : List (κ × α)) (k : κ) : Option α := (kvs.find? fun kv => decide (kv.1 = k)).map (·.2)
end
def keyOf : D → Option Key
  | .int i => some (.inl i)
  | .str x => some (.inr x)
  | _ => none
theorem keyOf_kD {d : D} {k : Key} (h : keyOf d = some k) : d = kD k := by
  cases d <;> cases h <;> rfl
@[simp] theorem keyOf_k (k : Key) : keyOf (kD k) = some k := by cases k <;> rfl
theorem kD_inj {j k : Key} (h : kD j = kD k) : j = k := by
  have := congrArg keyOf h
  simpa using this
def prD : D → Option (Key × D)
  | .tuple [k, v] => (keyOf k).map fun k => (k, v)
  | _ => none
def prsD : List D → Option (List (Key × D))
  | [] => some []
  | d :: ds => (prD d).bind fun p => (prsD ds).map fun ps => p :: ps
/-- a datum's rows -/
def rwD : List (D × D) → Option (List (Key × D))
  | [] => some []
  | (k, v) :: r => (keyOf k).bind fun k => (rwD r).map fun ps => (k, v) :: ps
abbrev kvD (kvs : List (Key × D)) : List (D × D) := kvs.map fun p => (kD p.1, p.2)
@[simp] theorem rwD_k : ∀ kvs : List (Key × D), rwD (kvD kvs) = some kvs
  | [] => rfl
  | (k, v) :: r => by
    show (keyOf (kD k)).bind _ = _
    rw [keyOf_k, Option.bind_some]
    show (rwD (kvD r)).map _ = _
    rw [rwD_k r]; rfl
section
variable {K : Fg} {G H : Hp}
def KP {κ : Type} (K : Fg) (G : Hp) : List (κ × D) → List (κ × V) → Prop
  | [], [] => True
  | (k, d) :: r, (k', v) :: s => k = k' ∧ RD K G d v ∧ KP K G r s
  | _, _ => False
theorem KP.rd : ∀ {kvs : List (Key × D)} {vs : List (Key × V)}, KP K G kvs vs → RDk K G (kvD kvs) vs
  | [], [], _ => .nil
  | (k, d) :: r, (k', v) :: s, h => by
    obtain ⟨rfl, h1, h2⟩ := h
    exact .cons h1 (KP.rd h2)
  | [], _ :: _, h => h.elim
  | (_, _) :: _, [], h => h.elim
/-- rows with tuples as keys -/
abbrev kvT (kvs : List (List Key × D)) : List (D × D) := kvs.map fun p => (.tuple (p.1.map kD), p.2)
theorem KP.rdt : ∀ {kvs : List (List Key × D)} {vs : List (List Key × V)}, KP K G kvs vs → RDt K G (kvT kvs) vs
  | [], [], _ => .nil
  | (k, d) :: r, (k', v) :: s, h => by
    obtain ⟨rfl, h1, h2⟩ := h
    exact .cons h1 (KP.rdt h2)
  | [], _ :: _, h => h.elim
  | (_, _) :: _, [], h => h.elim
theorem kDl_inj : ∀ {j k : List Key}, j.map kD = k.map kD → j = k
  | [], [], _ => rfl
  | a :: r, b :: s, h => by
    injection h with h1 h2
    rw [kD_inj h1, kDl_inj h2]
  | [], _ :: _, h => nomatch h
  | _ :: _, [], h => nomatch h
theorem KP.ofT : ∀ {kvs : List (List Key × D)} {ds : List (D × D)} {vs : List (List Key × V)}, RDt K G ds vs → ds = kvT kvs → KP K G kvs vs
  | [], _, _, .nil, _ => trivial
  | (k, d) :: r, _, _, .cons h t, e => by
    injection e with e1 e2
    injection e1 with e3 e4
    injection e3 with e5
    have := kDl_inj e5
    subst this e4
    exact ⟨rfl, h, KP.ofT t e2⟩
  | [], _, _, .cons _ _, e => nomatch e
  | _ :: _, _, _, .nil, e => nomatch e
theorem KP.of {ds : List (D × D)} {vs : List (Key × V)} (r : RDk K G ds vs) : ∀ {kvs : List (Key × D)}, rwD ds = some kvs → KP K G kvs vs := by
  cases r with
  | nil => intro kvs e; cases e; trivial
  | @cons k d v ds vs h t =>
    intro kvs e
    have e : (keyOf (kD k)).bind (fun k => (rwD ds).map fun ps => (k, d) :: ps) = some kvs := e
    rw [keyOf_k, Option.bind_some] at e
    cases q : rwD ds with
    | none => rw [q] at e; cases e
    | some ps =>
      rw [q] at e
      cases e
      exact ⟨rfl, h, KP.of t q⟩
theorem KP.of' {kvs : List (Key × D)} {vs : List (Key × V)} (r : RDk K G (kvD kvs) vs) : KP K G kvs vs := KP.of r (rwD_k kvs)
theorem KP.mono {κ : Type} [DecidableEq κ] {G' : Hp} (e : Same G G') : ∀ {kvs : List (κ × D)} {vs : List (κ × V)}, KP K G kvs vs → KP K G' kvs vs
  | [], [], _ => trivial
  | (k, d) :: r, (k', v) :: s, h => ⟨h.1, h.2.1.mono e, KP.mono e h.2.2⟩
  | [], _ :: _, h => h.elim
  | (_, _) :: _, [], h => h.elim
theorem KP.len {κ : Type} [DecidableEq κ] : ∀ {kvs : List (κ × D)} {vs : List (κ × V)}, KP K G kvs vs → vs.length = kvs.length
  | [], [], _ => rfl
  | (k, d) :: r, (k', v) :: s, h => by simp [KP.len h.2.2]
  | [], _ :: _, h => h.elim
  | (_, _) :: _, [], h => h.elim
theorem KP.any {κ : Type} [DecidableEq κ] (k : κ) : ∀ {kvs : List (κ × D)} {vs : List (κ × V)}, KP K G kvs vs → (vs.any fun kv => decide (kv.1 = k)) = (kvs.any fun kv => decide (kv.1 = k))
  | [], [], _ => rfl
  | (j, d) :: r, (j', v) :: s, h => by
    obtain ⟨rfl, _, h2⟩ := h
    simp only [List.any_cons, KP.any k h2]
  | [], _ :: _, h => h.elim
  | (_, _) :: _, [], h => h.elim
theorem KP.snoc {κ : Type} [DecidableEq κ] {k : κ} {d : D} {v : V} (hd : RD K G d v) : ∀ {kvs : List (κ × D)} {vs : List (κ × V)}, KP K G kvs vs → KP K G (kvs ++ [(k, d)]) (vs ++ [(k, v)])
  | [], [], _ => ⟨rfl, hd, trivial⟩
  | (j, e) :: r, (j', u) :: s, h => ⟨h.1, h.2.1, KP.snoc hd h.2.2⟩
  | [], _ :: _, h => h.elim
  | (_, _) :: _, [], h => h.elim
theorem KP.sub {κ : Type} [DecidableEq κ] {k : κ} {d : D} {v : V} (hd : RD K G d v) : ∀ {kvs : List (κ × D)} {vs : List (κ × V)}, KP K G kvs vs → KP K G (kvs.map fun kv => if kv.1 = k then (kv.1, d) else kv) (vs.map fun kv => if kv.1 = k then (kv.1, v) else kv)
  | [], [], _ => trivial
  | (j, e) :: r, (j', u) :: s, h => by
    obtain ⟨rfl, h1, h2⟩ := h
    have t := KP.sub (k := k) hd h2
    by_cases q : j = k
    · subst q; simp only [List.map_cons, if_true]; exact ⟨rfl, hd, t⟩
    · simp only [List.map_cons, if_neg q]; exact ⟨rfl, h1, t⟩
  | [], _ :: _, h => h.elim
  | (_, _) :: _, [], h => h.elim
theorem KP.put {κ : Type} [DecidableEq κ] {k : κ} {d : D} {v : V} {kvs : List (κ × D)} {vs : List (κ × V)} (hd : RD K G d v) (h : KP K G kvs vs) : KP K G (putD kvs k d) (putK vs k v) := by
  unfold putD putK
  rw [h.any k]
  split
  · exact h.sub hd
  · exact h.snoc hd
theorem KP.merge : ∀ {more : List (Key × D)} {rs : List (Key × V)} {kvs : List (Key × D)} {vs : List (Key × V)}, KP K G more rs → KP K G kvs vs → KP K G (mrgD kvs more) (mergeK vs rs)
  | [], [], _, _, _, h => h
  | (k, d) :: r, (k', v) :: s, kvs, vs, m, h => by
    obtain ⟨rfl, h1, h2⟩ := m
    show KP K G (mrgD (putD kvs k d) r) (mergeK (putK vs k v) s)
    exact KP.merge h2 (h.put h1)
  | [], _ :: _, _, _, m, _ => m.elim
  | (_, _) :: _, [], _, _, m, _ => m.elim
theorem Res.newK {kvs : List (Key × D)} {vs : List (Key × V)} {Q : VK} {p : Addr} (h : Res K G H (.fr (.dk kvs)) Q) (s : Same G H) (hp : H p = none) (r : KP K G kvs vs) : Q (.ref p) (upd H p (.dK vs)) := by
  refine h _ G _ (Grow.newH s hp) ⟨[p], ⟨p, vs, rfl, rfl, upd_same, r.rd⟩, fun b hb => ?_⟩
  rw [List.mem_singleton.mp hb]
  exact ⟨s.free hp, hp⟩
/-- the pairs of a list of pairs -/
theorem pairs_rd (s : Same G H) : ∀ {ds : List D} {ws : List V} {kd : List (Key × D)}, RDs K G ds ws → prsD ds = some kd → ∃ (ps : List Addr) (kvs : List (Key × V)), ws = ps.map V.ref ∧ Paired (fun p kv => SqT K H p [kV kv.1, kv.2]) ps kvs ∧ KP K G kd kvs
  | _, _, kd, .nil, e => by
    cases e
    exact ⟨[], [], rfl, .nil, trivial⟩
  | _, _, kd, .cons (d := d) (ds := ds) h r, e => by
    have e : (prD d).bind (fun p => (prsD ds).map fun ps => p :: ps) = some kd := e
    cases q : prD d with
    | none => rw [q] at e; cases e
    | some p =>
      rw [q, Option.bind_some] at e
      cases q2 : prsD ds with
      | none => rw [q2] at e; cases e
      | some ps' =>
        rw [q2] at e
        cases e
        obtain ⟨ps, kvs, h1, h2, h3⟩ := pairs_rd s r q2
        unfold prD at q
        split at q
        · rename_i k v
          cases q3 : keyOf k with
          | none => rw [q3] at q; cases q
          | some kk =>
            rw [q3] at q
            cases q
            obtain ⟨a, vs, rfl, ha, hr⟩ := h.ofTup
            cases hr with
            | cons g1 hr =>
              cases hr with
              | cons g2 hr =>
                cases hr
                rw [keyOf_kD q3] at g1
                have := kD_RD g1
                subst this
                exact ⟨a :: ps, (kk, _) :: kvs, by rw [h1]; rfl, .cons ((ha.mono s).sqT) h2, rfl, g2, h3⟩
        · cases q
end
/-! ### dict(..) -/
section
variable {X : Cx}
theorem call_dictQ (hcalm : X.calm = true) : CallR X (.type "dict") (fun xs H Q => ∃ (a : Addr) (ps : List Addr) (kvs : List (Key × V)), xs = [.ref a] ∧ (SqL X.K H a (ps.map V.ref) ∨ ∃ o, o.dict = none ∧ H a = some (.frz o (.tup (ps.map V.ref)))) ∧ Paired (fun p kv => SqT X.K H p [kV kv.1, kv.2]) ps kvs ∧
    ∀ p, H p = none → Q (.ref p) (upd H p (.dK (mergeK [] kvs)))) := by
  intro pins s σ H xs us Q I r q
  obtain ⟨a, ps, kvs, ex, hq, hp, q⟩ := q
  rcases hq with hq | hq
  · exact call_dictP hcalm pins s σ H xs us Q I r ⟨a, ps, kvs, ex, hq, hp, q⟩
  subst ex
  obtain ⟨u, eu, rx⟩ := vals1 r
  subst eu
  cases rx
  obtain ⟨o, hd, hq⟩ := hq
  obtain ⟨ho, hz, its, rv, o', ho', hc, n, hdat⟩ : s.heap.get? a = some o ∧ ObjOk X.prog X.w H s.heap a (.tup (ps.map V.ref)) := I.hok a _ hq
  rw [ho] at ho'
  cases ho'
  have ei := refs_at rv
  subst ei
  rw [List.length_map] at hz
  obtain ⟨prs, rel, hl, hpr⟩ := pairs_of I hp
  have tsAt : ∀ j, j < ps.length → ps[j]? = some (ps.getD j 0) := fun j hj => by
    rw [List.getD_eq_getElem?_getD, List.getElem?_eq_getElem hj]; rfl
  let vp : List (Value × Value) := (List.range prs.length).map fun j => match s.heap.get? (ps.getD j 0) with
    | some o => match o.data with
      | .seq its _ => (its.getD 0 .none, its.getD 1 .none)
      | _ => (.none, .none)
    | none => (.none, .none)
  have vpl : vp.length = prs.length := by simp [vp]
  have vpAt : ∀ j (q : Key × Value), prs[j]? = some q → ∃ u, vp[j]? = some (u, q.2) ∧ keyIs q.1 u = true ∧ s.heap.IsTuple (ps.getD j 0) #[u, q.2] := fun j q e => by
    obtain ⟨b, u, e1, e2, e3⟩ := hpr j q e
    have hj : j < prs.length := (List.getElem?_eq_some_iff.mp e).1
    have eb : ps.getD j 0 = b := by
      have := tsAt j (by rw [← hl]; exact hj)
      rw [this] at e1; exact Option.some.inj e1
    obtain ⟨o, ho, hc, n, hd⟩ := id e2
    refine ⟨u, ?_, e3, by rw [eb]; exact ⟨o, ho, hc, n, hd⟩⟩
    show ((List.range prs.length).map _)[j]? = _
    rw [List.getElem?_map, List.getElem?_range hj]
    simp only [Option.map_some, eb, ho, hd]
    rfl
  have P := PairArg.tuple (prog := X.prog) (w := X.w) a (ps.map Value.ref).toArray (fun j => ps.getD j 0) vp
  refine PySem.call_dict_pairs (knd := mixKind X.prog X.w) (kvs := prs) P (I.ok.hd hcalm) ⟨⟨o, n, ho, hc, hd, hdat⟩, ?_, ?_⟩ ⟨vpl.symm, ?_⟩ (by rw [vpl, hl]; exact hz) fun h' tk hd' k => ?_
  · rw [vpl]; simp [hl]
  · intro j k v e
    have hj : j < prs.length := by rw [← vpl]; exact (List.getElem?_eq_some_iff.mp e).1
    obtain ⟨u, g1, g2, g3⟩ := vpAt j prs[j] (List.getElem?_eq_getElem hj)
    rw [e] at g1
    cases g1
    refine ⟨?_, .inl g3⟩
    have this := tsAt j (by rw [← hl]; exact hj)
    show (ps.map Value.ref).toArray[j]? = _
    rw [List.getElem?_toArray, List.getElem?_map, this]; rfl
  · intro j key v e
    have hj : j < prs.length := by rw [← vpl]; exact (List.getElem?_eq_some_iff.mp e).1
    obtain ⟨u, g1, g2, g3⟩ := vpAt j prs[j] (List.getElem?_eq_getElem hj)
    rw [e] at g1
    cases g1
    exact ⟨prs[j].1, List.getElem?_eq_getElem hj, g2⟩
  · have hm : (s.heap.objs.size == sysModules) = false := beq_eq_false_iff_ne.mpr (Nat.ne_of_gt I.big)
    have hlen : (mergeK [] kvs).length ≤ sizeLine := by
      refine Nat.le_trans (length_mergeK kvs []) ?_
      rw [List.length_nil, Nat.zero_add, rel.length, hl]
      exact hz
    exact ⟨.ref s.heap.objs.size, upd H s.heap.objs.size (.dK (mergeK [] kvs)), I.laid (t' := tk) (fun b o e => k b o (by simp) e) (Nat.le_refl _) (show ObjOk X.prog X.w _ _ _ (.dK (mergeK [] kvs)) from ⟨hlen, hm, merged [] prs, KV.merge rel .nil, hd'⟩), rfl, q _ (I.hok.fresh (Nat.le_refl _))⟩
def gDict : List D → Option EV
  | [.list ds] => (prsD ds).map fun kvs => .fr (.dk (mrgD [] kvs))
  | [.tuple ds] => if pairy ds = true then (prsD ds).map fun kvs => .fr (.dk (mrgD [] kvs)) else none
  | [.dict ds] => (rwD ds).map fun kvs => .fr (.dk kvs)
  | _ => none
theorem rdk_nn {K : Fg} {G : Hp} {b : D} {r : List (D × D)} {vs : List (Key × V)} (h : RDk K G ((.none, b) :: r) vs) : False := by
  generalize e : ((.none, b) :: r : List (D × D)) = z at h
  cases h with
  | nil => cases e
  | @cons k d v ds vs h t =>
    injection e with e1 e2
    injection e1 with e3 e4
    cases k <;> cases e3
theorem g_dict (hc : X.calm = true) : CallD X (.type "dict") gDict := by
  refine ⟨_, (call_dictQ hc).or call_dictD, fun G H ws ds ev Q s h e res => ?_⟩
  unfold gDict at e
  split at e
  · rename_i xs
    cases q : prsD xs with
    | none => rw [q] at e; cases e
    | some kvs =>
      rw [q] at e
      cases e
      obtain ⟨w, rfl, h1⟩ := h.one
      obtain ⟨p, vs, rfl, hp, hr⟩ := h1.lst s
      obtain ⟨ps, kv, rfl, hP, hK⟩ := pairs_rd s hr q
      exact .inl ⟨p, ps, kv, rfl, .inl (SqL.of hp), hP, fun l hl => res.newK s hl (KP.merge hK trivial)⟩
  · rename_i xs
    split at e
    · rename_i hy
      cases q : prsD xs with
      | none => rw [q] at e; cases e
      | some kvs =>
        rw [q] at e
        cases e
        obtain ⟨w, rfl, h1⟩ := h.one
        obtain ⟨p, vs, rfl, hp, hr⟩ := h1.tup
        obtain ⟨ps, kv, rfl, hP, hK⟩ := pairs_rd s hr q
        cases hp with
        | pl y _ => rw [hy] at y; cases y
        | fz _ hd hg => exact .inl ⟨p, ps, kv, rfl, .inr ⟨_, hd, s _ _ hg⟩, hP, fun l hl => res.newK s hl (KP.merge hK trivial)⟩
        | kk c _ _ _ _ _ =>
          cases xs with
          | nil => cases c
          | cons x t => cases x <;> first | (cases c; done) | (cases q; done)
    · cases e
  · rename_i xs
    cases q : rwD xs with
    | none => rw [q] at e; cases e
    | some kvs =>
      rw [q] at e
      cases e
      obtain ⟨w, rfl, h1⟩ := h.one
      obtain ⟨p, rfl, z⟩ := h1.dict s
      rcases z with ⟨vs, hv, hr⟩ | ⟨r, vs, rfl, hv, hr⟩
      · exact .inr ⟨p, vs, rfl, .inl hv, fun l hl => res.newK s hl (KP.of hr q)⟩
      · cases q
  · cases e
end
end Mi
/-! text MiDb -/
set_option Elab.async false
set_option linter.all false
set_option maxRecDepth 100000
set_option maxHeartbeats 4000000
/-! MiDb: a slot's own dict; methods of texts; look-ups by get. -/
namespace Mi
open PySem PySem.Spec PyProof.Rows L2 TL

/-! ### a slot's own dict (keys: ints and texts) -/
def dkA : Option (Option SV) → Option (List (Key × D))
  | some (some (.o (.dk xs))) => some xs
  | some (some (.b (.dk xs))) => some xs
  | _ => none
def qA : Option (Option SV) → Nat → List (Key × D) → Env' → Env'
  | some (some (.b _)), i, xs, ρ => ρ.set i (some (.b (.dk xs)))
  | _, i, xs, ρ => ρ.set i (some (.o (.dk xs)))
@[simp] theorem qA_o {m : MO} {i : Nat} {xs : List (Key × D)} {ρ : Env'} : qA (some (some (.o m))) i xs ρ = ρ.set i (some (.o (.dk xs))) := (rfl)
@[simp] theorem qA_b {m : MO} {i : Nat} {xs : List (Key × D)} {ρ : Env'} : qA (some (some (.b m))) i xs ρ = ρ.set i (some (.b (.dk xs))) := (rfl)
@[simp] theorem dkA_o {xs : List (Key × D)} : dkA (some (some (.o (.dk xs)))) = some xs := (rfl)
@[simp] theorem dkA_b {xs : List (Key × D)} : dkA (some (some (.b (.dk xs)))) = some xs := (rfl)
section
variable {K : Fg} {P : Hp} {B : Nat → Option V} {G G' : Hp} {ρ : Env'} {σ : L2.St} {H H' : Hp} {F : Nat → List Addr}
theorem SRF.dk (s : SRF K P B G ρ σ H F) {i : Nat} {xs : List (Key × D)} (h : dkA ρ[i]? = some xs) :
    ∃ sv v, ρ[i]? = some (some sv) ∧ (sv = .o (.dk xs) ∨ sv = .b (.dk xs)) ∧ σ[i]? = some (some v) ∧ OR K G H (.dk xs) v (F i) := by
  cases q : ρ[i]? with
  | none => rw [q] at h; cases h
  | some o =>
    rw [q] at h
    unfold dkA at h
    split at h
    · rename_i xs' hm
      cases h
      have hm := Option.some.inj hm
      subst hm
      obtain ⟨v, q1, q2, _⟩ := s.slot i _ q
      exact ⟨_, v, rfl, .inl rfl, q1, q2⟩
    · rename_i xs' hm
      cases h
      have hm := Option.some.inj hm
      subst hm
      obtain ⟨v, q1, q2, _⟩ := s.slot i _ q
      exact ⟨_, v, rfl, .inr rfl, q1, q2⟩
    · cases h
theorem SRF.dkPut (s : SRF K P B G ρ σ H F) {i : Nat} {xs xs' : List (Key × D)} (h : dkA ρ[i]? = some xs) {v : V} (hv : σ[i]? = some (some v)) (n : OR K G H' (.dk xs') v (F i)) (hH : ∀ a, a ∉ F i → H' a = H a) :
    SRF K P B G (qA ρ[i]? i xs' ρ) σ H' F := by
  obtain ⟨sv, v', h1, h2, h3, h4⟩ := s.dk h
  rcases h2 with rfl | rfl
  · rw [h1]
    exact s.poke h1 rfl hv (sv' := .o (.dk xs')) n hH n.some
  · rw [h1]
    exact s.poke h1 rfl hv (sv' := .b (.dk xs')) n hH n.some
end
/-! #### x.update(..) -/
section
variable {X : Cx}
def rUpdate : V → List V → Hp → VK → Prop := fun x vs H Q => ∃ d b kvs more, x = .ref d ∧ vs = [.ref b] ∧ H d = some (.dK kvs) ∧ Rd H b (.dK more) ∧ d ≠ b ∧ kvs.length + more.length ≤ sizeLine ∧ Q .non (upd H d (.dK (mergeK kvs more)))
theorem mt_update : MtR X "dict.update" rUpdate := by
  intro pins s σ H x vs v us Q I rx rv h
  obtain ⟨d, b, kvs, more, rfl, rfl, hd, hb, hne, hz, q⟩ := h
  cases rx
  obtain ⟨u, rfl, ru⟩ := rv.one
  cases ru
  obtain ⟨z1, m1, vs1, rel1, dd1⟩ := dk_of I.hok hd
  obtain ⟨z2, m2, vs2, rel2, dd2⟩ := dk_rd I.hok hb
  refine call_meetsIn PySem.F.slot_dict_update dd1.typeIs PySem.F.entry_dict_update (PySem.F.args_dict_update_2 _ _) (meets_dict_update (mixKind X.prog X.w) d b hne m2)
    ⟨vs1, vs2, dd1, dd2, (by rw [← rel1.length, ← rel2.length]; exact hz), fun h' dd' _ hs => ?_⟩
  have he : ∃ q, h'.get? d = some q := let ⟨q, _, _, hq, _⟩ := dd'; ⟨q, hq⟩
  refine ⟨.non, _, d_write I (by rw [hd]; exact True.intro) hs he (dk_new ?_ m1 (KV.merge rel2 rel1) dd'), rfl, q⟩
  exact Nat.le_trans (length_mergeK more kvs) hz
end
def updB (i : Nat) : List EV → Env' → R EV
  | [.d (.dict ds)], ρ1 => match dkA ρ1[i]?, rwD ds with
    | some kvs, some more => if kvs.length + more.length ≤ sizeLine then .ok (.d .none) (qA ρ1[i]? i (mrgD kvs more) ρ1) else .bad
    | _, _ => .bad
  | _, _ => .bad
/-- x.update(..), a dict -/
def mUpd (i : Nat) (ms : Env' → R (List EV)) : Env' → R EV := fun ρ => match dkA ρ[i]? with
  | some _ => (ms ρ).bind (updB i)
  | none => .bad
section
variable {X : Cx} {W : WX} {e : Expr} {es : List Expr} {ms : Env' → R (List EV)} {pos p apos cpos : Pos} {x : Str}
theorem ae_upd (i : Nat) (ha : AA X W ms (e :: es)) (hN : X.N[i]? = some x := by rfl) (hv : Vis X.env.scope x := by first | exact Or.inl rfl | exact Or.inr (Or.inl rfl) | exact Or.inr (Or.inr rfl)) (hd : (x == ("__debug__" : Str)) = false := by decide)
    (hcd : (x == ("__classdict__" : Str)) = false := by decide) (hbase : attributeBase (.Name x p) "update" X.env (eval (.Name x p) X.env) = eval (.Name x p) X.env := by rfl)
    (hfew : ((backTo cpos (starEach (e :: es) X.env)).all (fun x => !x.1) && (backToKw cpos (keywordEach [] X.env)).all (fun x => x.1.isSome)
      && decide ((e :: es).length + ([] : List Keyword).length + (if ([] : List Keyword).isEmpty then 0 else 1) < 30)) = true := by rfl)
    (hline : (apos.endLine == cpos.line) = true := by rfl) (hs : starEach (e :: es) X.env = (false, eval e X.env) :: starEach es X.env := by rfl) (hplain : (backTo cpos (starEach es X.env)).any (·.1) = false := by rfl) :
    AE X W (mUpd i ms) (.Call (.Attribute (.Name x p) "update" apos) (e :: es) [] cpos) := by
  refine (pe_bm (X := X) (r := rUpdate) PySem.F.plainAttrs_dict PySem.F.slot_dict_update PySem.F.type_dict_update mt_update (pe_vr i hN hv hd hcd) ha hbase hfew hline hs hplain).imp fun σ H Q h => ?_
  obtain ⟨P, B, G, ρ, F, s, h⟩ := h
  unfold mUpd at h
  cases q : dkA ρ[i]? with
  | none => simp only [q] at h; exact h.elim
  | some xs0 =>
    simp only [q] at h
    obtain ⟨_, v, _, _, hv0, a, vs0, rfl, _, ha0, _⟩ := s.dk q
    refine ⟨.ref a, hv0, .inr (.inr (.inl ⟨rfl, .inl ⟨vs0, ha0⟩⟩)), P, B, G, ρ, F, s, (Po.bind (rel := EvRs X.K) h).imp fun ws H1 ⟨G1, ρ1, F1, es, e1, s1, r1, h1⟩ => ?_⟩
    unfold updB at h1
    split at h1
    · rename_i ds
      cases q1 : dkA ρ1[i]? with
      | none => simp only [q1] at h1; exact h1.elim
      | some xs =>
        cases q2 : rwD ds with
        | none => simp only [q1, q2] at h1; exact h1.elim
        | some more =>
          simp only [q1, q2] at h1
          split at h1
          · rename_i hlen
            obtain ⟨w, rfl, hw⟩ := one_item r1
            obtain ⟨_, v1, _, _, hv1, a1, vs, ev, eF, hl1, hr1⟩ := s1.dk q1
            rw [hv0] at hv1
            cases hv1
            cases ev
            have k1 := KP.of' hr1
            cases hw with
            | @dk b rs _ hg hr2 =>
              have k2 := KP.of hr2 q2
              have hne : a ≠ b := fun z => by
                subst z
                have := (s1.fre i a (by rw [eF]; exact List.mem_singleton.mpr rfl)).1
                rw [hg] at this; cases this
              refine ⟨a, b, vs, rs, rfl, rfl, hl1, .inl (s1.sub _ _ hg), hne, by rw [k1.len, k2.len]; exact hlen, ?_⟩
              have n : OR X.K G1 (upd H1 a (.dK (mergeK vs rs))) (.dk (mrgD xs more)) (.ref a) (F1 i) := ⟨a, mergeK vs rs, rfl, eF, upd_same, (KP.merge k2 k1).rd⟩
              exact h1 G1 _ F1 .non (Same.refl _) (s1.dkPut (by rw [q1]) hv0 n fun c hc => upd_ne fun z => hc (by rw [eF, z]; exact List.mem_singleton.mpr rfl)) .non
            | dt hg hr2 => cases q2
          · exact h1.elim
    · exact h1.elim
end
end Mi
/-! text MiDc -/
set_option Elab.async false
set_option linter.all false
set_option maxRecDepth 100000
set_option maxHeartbeats 4000000
/-! MiDc: get, methods of texts, sums, new dicts. -/
namespace Mi
open PySem PySem.Spec PyProof.Rows L2 TL

/-! ### d.get(k), d.get(k, x) -/
def isDct : Option D → Bool
  | some (.dict _) => true
  | _ => false
def fGet : D → D → D → Option EV
  | .dict kvs, k, z => match dGet kvs k with
    | some o => some (.d (o.getD z))
    | none => none
  | _, _, _ => none
def mGet1 (m mk : Env' → R EV) : Env' → R EV := fun ρ => (m ρ).bind fun e ρ1 => if isDct (dV ρ1 (fzV e)) = true then (mk ρ1).bind fun k ρ2 => R.ofO ((dV ρ2 (fzV e)).bind fun d => (dV ρ2 k).bind fun k => fGet d k .none) ρ2 else .bad
def mGet2 (m mk mz : Env' → R EV) : Env' → R EV := fun ρ => (m ρ).bind fun e ρ1 => if isDct (dV ρ1 (fzV e)) = true then (mk ρ1).bind fun k ρ2 => (mz ρ2).bind fun z ρ3 => R.ofO ((dV ρ3 (fzV e)).bind fun d => (dV ρ3 (fzV k)).bind fun k => (match fzV z with | .d z => some z | _ => none).bind fun z => fGet d k z) ρ3 else .bad
section
variable {X : Cx} {W : WX} {o e f : Expr} {m mk mz : Env' → R EV} {apos cpos : Pos}
theorem isD_of {K : Fg} {G H : Hp} {d : D} {x : V} (s : Same G H) (h : ShR K G H d x) (q : isDct (some d) = true) : ∃ a, x = .ref a ∧ IsD H a := by
  cases d with
  | dict kvs =>
    obtain ⟨p, rfl, z⟩ := h.dict s
    rcases z with ⟨vs, hv, _⟩ | ⟨r, vs, _, hv, _⟩
    · exact ⟨p, rfl, .inl ⟨_, .inl hv⟩⟩
    · exact ⟨p, rfl, .inr ⟨_, .inl hv⟩⟩
  | _ => cases q
theorem fGet_ok {K : Fg} {G H : Hp} {d k z : D} {x y w : V} {ev : EV} {Q : VK} {a : Addr} (s : Same G H) (hd : ShR K G H d x) (ex : x = .ref a) (hk : ShR K G H k y) (hz : RD K G z w) (e : fGet d k z = some ev) (res : Res K G H ev Q) : ∃ o, DGet H a y o ∧ Q (o.getD w) H := by
  unfold fGet at e
  split at e
  · split at e
    · rename_i o q
      cases e
      obtain ⟨p, ep, g⟩ := dGet_ok s hd hk q
      rw [ex] at ep
      cases ep
      cases o with
      | none => exact ⟨none, g, res.same s hz⟩
      | some d =>
        obtain ⟨v, g1, g2⟩ := g
        exact ⟨some v, g1, res.same s g2⟩
    · cases e
  · cases e
theorem ae_get1 (hu : X.A.units + 1 < cLine) (h1 : AE X W m o) (h2 : AE X W mk e) (b1 : attributeBase o "get" X.env (eval o X.env) = eval o X.env := by rfl)
    (b2 : ((backTo cpos (starEach [e] X.env)).all (fun x => !x.1) && (backToKw cpos (keywordEach [] X.env)).all (fun x => x.1.isSome) && decide (([e] : List Expr).length + ([] : List Keyword).length + (if ([] : List Keyword).isEmpty then 0 else 1) < 30)) = true := by rfl)
    (b3 : (apos.endLine == cpos.line) = true := by rfl) (b4 : backTo cpos (starEach [e] X.env) = [(false, eval e X.env)] := by rfl) : AE X W (mGet1 m mk) (.Call (.Attribute o "get" apos) [e] [] cpos) := by
  refine (pe_dget1 hu h1 h2 ⟨b1, b2, b3, b4⟩).imp fun σ H Q h => ?_
  obtain ⟨P, B, G, ρ, F, s, h⟩ := h
  refine ⟨P, B, G, ρ, F, s, (Po.bind (rel := EvR X.K) h).imp fun x H1 ⟨G1, ρ1, F1, e1, _, s1, r1, h1⟩ => ?_⟩
  obtain ⟨G2, g2, s2, r2, n2⟩ := fz_ok s1 r1
  cases qd : isDct (dV ρ1 (fzV e1)) with
  | false => rw [qd, if_neg (by decide)] at h1; exact h1.elim
  | true =>
    rw [qd, if_pos rfl] at h1
    cases q1 : dV ρ1 (fzV e1) with
    | none => rw [q1] at qd; cases qd
    | some d1 =>
      rw [q1] at qd
      obtain ⟨a, ex, hD⟩ := isD_of s2.sub (ShR.of s2 r2 q1) qd
      refine ⟨a, ex, hD, P, B, G2, ρ1, F1, s2, (Po.bind (rel := EvR X.K) (h1.mono g2)).imp fun y H3 ⟨G3, ρ3, F3, k3, g3, s3, r3, h3⟩ => ?_⟩
      have rr := r2.mono n2 (H' := H3) (F' := F3) g3
      obtain ⟨ev, he, res⟩ := res_of' s3 h3
      cases q2 : dV ρ3 (fzV e1) with
      | none => rw [q2] at he; cases he
      | some d =>
        rw [q2, Option.bind_some] at he
        cases q3 : dV ρ3 k3 with
        | none => rw [q3] at he; cases he
        | some k =>
          rw [q3, Option.bind_some] at he
          exact fGet_ok s3.sub (ShR.of s3 rr q2) ex (ShR.of s3 r3 q3) .non he res
theorem ae_get2 (hu : X.A.units + 1 < cLine) (h1 : AE X W m o) (h2 : AE X W mk e) (h3 : AE X W mz f) (b1 : attributeBase o "get" X.env (eval o X.env) = eval o X.env := by rfl)
    (b2 : ((backTo cpos (starEach [e, f] X.env)).all (fun x => !x.1) && (backToKw cpos (keywordEach [] X.env)).all (fun x => x.1.isSome) && decide (([e, f] : List Expr).length + ([] : List Keyword).length + (if ([] : List Keyword).isEmpty then 0 else 1) < 30)) = true := by rfl)
    (b3 : (apos.endLine == cpos.line) = true := by rfl) (b4 : backTo cpos (starEach [e, f] X.env) = [(false, eval e X.env), (false, eval f X.env)] := by rfl) : AE X W (mGet2 m mk mz) (.Call (.Attribute o "get" apos) [e, f] [] cpos) := by
  refine (pe_dget2 hu h1 h2 h3 ⟨b1, b2, b3, b4⟩).imp fun σ H Q h => ?_
  obtain ⟨P, B, G, ρ, F, s, h⟩ := h
  refine ⟨P, B, G, ρ, F, s, (Po.bind (rel := EvR X.K) h).imp fun x H1 ⟨G1, ρ1, F1, e1, _, s1, r1, h1⟩ => ?_⟩
  obtain ⟨G2, g2, s2, r2, n2⟩ := fz_ok s1 r1
  cases qd : isDct (dV ρ1 (fzV e1)) with
  | false => rw [qd, if_neg (by decide)] at h1; exact h1.elim
  | true =>
    rw [qd, if_pos rfl] at h1
    cases q1 : dV ρ1 (fzV e1) with
    | none => rw [q1] at qd; cases qd
    | some d1 =>
      rw [q1] at qd
      obtain ⟨a, ex, hD⟩ := isD_of s2.sub (ShR.of s2 r2 q1) qd
      refine ⟨a, ex, hD, P, B, G2, ρ1, F1, s2, (Po.bind (rel := EvR X.K) (h1.mono g2)).imp fun y H3 ⟨G3, ρ3, F3, k3, g3, s3, r3, h3⟩ => ?_⟩
      obtain ⟨G4, g4, s4, r4, n4⟩ := fz_ok s3 r3
      refine ⟨P, B, G4, ρ3, F3, s4, (Po.bind (rel := EvR X.K) (h3.mono g4)).imp fun z H5 ⟨G5, ρ5, F5, z5, g5, s5, r5, h5⟩ => ?_⟩
      obtain ⟨G6, g6, s6, r6, n6⟩ := fz_ok s5 r5
      obtain ⟨ev, he, res⟩ := res_of' s6 (h5.mono g6)
      have rr := r2.mono n2 (H' := H5) (F' := F5) (g3.trans (g4.trans (g5.trans g6)))
      have rk := r4.mono n4 (H' := H5) (F' := F5) (g5.trans g6)
      cases q2 : dV ρ5 (fzV e1) with
      | none => rw [q2] at he; cases he
      | some d =>
        rw [q2, Option.bind_some] at he
        cases q3 : dV ρ5 (fzV k3) with
        | none => rw [q3] at he; cases he
        | some k =>
          rw [q3, Option.bind_some] at he
          cases q4 : fzV z5 with
          | d zz =>
            rw [q4] at he r6
            exact fGet_ok s6.sub (ShR.of s6 rr q2) ex (ShR.of s6 rk q3) r6 he res
          | _ => rw [q4] at he; cases he
end

/-! ### methods of texts -/
def MStr (X : Cx) (id : String) (g : Str → List D → Option EV) : Prop :=
  ∃ r : V → List V → Hp → VK → Prop, MtR X id r ∧ ∀ (G H : Hp) (x : Str) (ws : List V) (ds : List D) (ev : EV) (Q : VK), Same G H → ShRs X.K G H ds ws → g x ds = some ev → Res X.K G H ev Q → r (.str x) ws H Q
/-- x.m(..), x a text -/
def mMet (g : Str → List D → Option EV) (m : Env' → R EV) (ms : Env' → R (List EV)) : Env' → R EV := fun ρ => (m ρ).bind fun e ρ1 => match e with
  | .d (.str x) => (ms ρ1).bind fun es ρ2 => R.ofO ((dVs ρ2 es).bind (g x)) ρ2
  | _ => .bad
def mMet0 (g : Str → List D → Option EV) (m : Env' → R EV) : Env' → R EV := fun ρ => (m ρ).bind fun e ρ1 => match e with
  | .d (.str x) => R.ofO (g x []) ρ1
  | _ => .bad
def strO (e : EV) : Option Str := match e with
  | .d (.str x) => some x
  | _ => none
section
variable {X : Cx} {W : WX} {o e : Expr} {es : List Expr} {m : Env' → R EV} {ms : Env' → R (List EV)} {apos cpos : Pos} {name : Str} {id : String} {g : Str → List D → Option EV}
theorem ae_met (slot : Slot "str" name id) (hty : typeOf (.builtin id) = pure (.type "method_descriptor")) (hm : MStr X id g) (h1 : AE X W m o) (ha : AA X W ms (e :: es))
    (hbase : attributeBase o name X.env (eval o X.env) = eval o X.env := by rfl)
    (hfew : ((backTo cpos (starEach (e :: es) X.env)).all (fun x => !x.1) && (backToKw cpos (keywordEach [] X.env)).all (fun x => x.1.isSome)
      && decide ((e :: es).length + ([] : List Keyword).length + (if ([] : List Keyword).isEmpty then 0 else 1) < 30)) = true := by rfl)
    (hline : (apos.endLine == cpos.line) = true := by rfl) (hs : starEach (e :: es) X.env = (false, eval e X.env) :: starEach es X.env := by rfl) (hplain : (backTo cpos (starEach es X.env)).any (·.1) = false := by rfl) :
    AE X W (mMet g m ms) (.Call (.Attribute o name apos) (e :: es) [] cpos) := by
  obtain ⟨r, hr, hf⟩ := hm
  refine (pe_bm (X := X) (r := r) PySem.F.plainAttrs_str slot hty hr h1 ha hbase hfew hline hs hplain).imp fun σ H Q h => ?_
  obtain ⟨P, B, G, ρ, F, s, h⟩ := h
  refine ⟨P, B, G, ρ, F, s, (Po.bind (rel := EvR X.K) h).imp fun x H1 ⟨G1, ρ1, F1, e1, _, s1, r1, h1⟩ => ?_⟩
  cases q : strO e1 with
  | none =>
    unfold strO at q
    split at q
    · cases q
    · rename_i hne
      split at h1
      · exact absurd rfl (hne _)
      · exact h1.elim
  | some z =>
    unfold strO at q
    split at q
    · cases q
      have ex := RD.ofStr r1
      subst ex
      refine ⟨rfl, P, B, G1, ρ1, F1, s1, (Po.bind (rel := EvRs X.K) h1).imp fun ws H2 ⟨G2, ρ2, F2, es2, e2, s2, r2, h2⟩ => ?_⟩
      obtain ⟨ev, he, res⟩ := res_of' s2 h2
      cases q2 : dVs ρ2 es2 with
      | none => rw [q2] at he; cases he
      | some ds =>
        rw [q2, Option.bind_some] at he
        exact hf G2 H2 z ws ds ev Q s2.sub (r2.sh s2 q2) he res
    · cases q
theorem ae_met0 (slot : Slot "str" name id) (hty : typeOf (.builtin id) = pure (.type "method_descriptor")) (hm : MStr X id g) (h1 : AE X W m o)
    (hbase : attributeBase o name X.env (eval o X.env) = eval o X.env := by rfl) (hline : (apos.endLine == cpos.line) = true := by rfl) :
    AE X W (mMet0 g m) (.Call (.Attribute o name apos) [] [] cpos) := by
  obtain ⟨r, hr, hf⟩ := hm
  refine (pe_bm0 (X := X) (r := r) PySem.F.plainAttrs_str slot hty hr h1 hbase hline).imp fun σ H Q h => ?_
  obtain ⟨P, B, G, ρ, F, s, h⟩ := h
  refine ⟨P, B, G, ρ, F, s, (Po.bind (rel := EvR X.K) h).imp fun x H1 ⟨G1, ρ1, F1, e1, _, s1, r1, h1⟩ => ?_⟩
  cases q : strO e1 with
  | none =>
    unfold strO at q
    split at q
    · cases q
    · rename_i hne
      split at h1
      · exact absurd rfl (hne _)
      · exact h1.elim
  | some z =>
    unfold strO at q
    split at q
    · cases q
      have ex := RD.ofStr r1
      subst ex
      obtain ⟨ev, he, res⟩ := res_of' s1 h1
      exact ⟨rfl, hf G1 H1 z [] [] ev Q s1.sub .nil he res⟩
    · cases q
/-- a row of texts -/
def strsD : List D → Option (List Str)
  | [] => some []
  | .str x :: r => (strsD r).map fun ys => x :: ys
  | _ :: _ => none
theorem strsD_rd {K : Fg} {G : Hp} : ∀ {ds : List D} {vs : List V} {ys : List Str}, RDs K G ds vs → strsD ds = some ys → vs = ys.map V.str
  | _, _, _, .nil, e => by cases e; rfl
  | _, _, ys, .cons (d := d) (ds := ds) h r, e => by
    cases d with
    | str x =>
      have e : (strsD ds).map (fun ys => x :: ys) = some ys := e
      cases q : strsD ds with
      | none => rw [q] at e; cases e
      | some zs =>
        rw [q] at e; cases e
        rw [RD.ofStr h, strsD_rd r q]; rfl
    | _ => cases e
def sJoin (a : Str) : List D → Option EV
  | [.list xs] => (strsD xs).bind fun ys => if (ys.map (·.length)).sum + ys.length * a.length ≤ 16777216 then some (.d (.str (Txt.join a ys))) else none
  | _ => none
theorem g_join : MStr X "str.join" sJoin := by
  refine ⟨_, mt_join, fun G H x ws ds ev Q s h e res => ?_⟩
  unfold sJoin at e
  split at e
  · rename_i xs
    obtain ⟨w, rfl, h1⟩ := h.one
    obtain ⟨p, vs, rfl, hp, hr⟩ := h1.lst s
    cases q : strsD xs with
    | none => rw [q] at e; cases e
    | some ys =>
      rw [q, Option.bind_some] at e
      split at e
      · rename_i hz
        cases e
        have ev := strsD_rd hr q
        subst ev
        exact ⟨x, p, ys, rfl, rfl, .inl (SqL.of hp), hz, res.same s (.str _)⟩
      · cases e
  · cases e
def sUpper (a : Str) : List D → Option EV
  | [] => if a.length ≤ 5592405 then some (.d (.str (Txt.upper a))) else none
  | _ => none
theorem g_upper : MStr X "str.upper" sUpper := by
  refine ⟨_, mt_upper, fun G H x ws ds ev Q s h e res => ?_⟩
  unfold sUpper at e
  split at e
  · split at e
    · rename_i hz
      cases e
      cases h
      exact ⟨x, rfl, rfl, hz, res.same s (.str _)⟩
    · cases e
  · cases e
def sIsalpha (a : Str) : List D → Option EV
  | [] => some (.d (.bool (Txt.isalpha a)))
  | _ => none
theorem g_isalpha : MStr X "str.isalpha" sIsalpha := by
  refine ⟨_, mt_isalpha, fun G H x ws ds ev Q s h e res => ?_⟩
  unfold sIsalpha at e
  split at e
  · cases e
    cases h
    exact ⟨x, rfl, rfl, trivial, res.same s (.bl _)⟩
  · cases e
def sSplit (a : Str) : List D → Option EV
  | [] => if a.length + 2 ≤ sizeLine then some (.fr (.lst ((Txt.words a).map .str))) else none
  | [.str b] => if (b.length == 0) = false ∧ a.length + 2 ≤ sizeLine then some (.fr (.lst ((Txt.split a b).map .str))) else none
  | _ => none
theorem RDs.strs {K : Fg} {G : Hp} : ∀ ys : List Str, RDs K G (ys.map .str) (ys.map V.str)
  | [] => .nil
  | _ :: r => .cons (.str _) (RDs.strs r)
theorem g_split : MStr X "str.split" sSplit := by
  refine ⟨_, mt_split.or mt_words, fun G H x ws ds ev Q s h e res => ?_⟩
  unfold sSplit at e
  split at e
  · split at e
    · rename_i hz
      cases e
      cases h
      exact .inr ⟨x, rfl, rfl, hz, fun p hp => res.newL s hp (.strs _)⟩
    · cases e
  · rename_i b
    split at e
    · rename_i hz
      cases e
      obtain ⟨w, rfl, h1⟩ := h.one
      exact .inl ⟨x, b, rfl, by rw [h1.str], hz.1, hz.2, fun p hp => res.newL s hp (.strs _)⟩
    · cases e
  · cases e
end

/-! ### sum, all, any -/
def intsD : List D → Option (List Int)
  | [] => some []
  | .int i :: r => (intsD r).map fun ys => i :: ys
  | _ :: _ => none
theorem intsD_rd {K : Fg} {G : Hp} : ∀ {ds : List D} {vs : List V} {ys : List Int}, RDs K G ds vs → intsD ds = some ys → vs = ys.map V.int
  | _, _, _, .nil, e => by cases e; rfl
  | _, _, ys, .cons (d := d) (ds := ds) h r, e => by
    cases d with
    | int x =>
      have e : (intsD ds).map (fun ys => x :: ys) = some ys := e
      cases q : intsD ds with
      | none => rw [q] at e; cases e
      | some zs =>
        rw [q] at e; cases e
        rw [RD.ofInt h, intsD_rd r q]; rfl
    | _ => cases e
def boolsD : List D → Option (List Bool)
  | [] => some []
  | .bool i :: r => (boolsD r).map fun ys => i :: ys
  | _ :: _ => none
theorem boolsD_rd {K : Fg} {G : Hp} : ∀ {ds : List D} {vs : List V} {ys : List Bool}, RDs K G ds vs → boolsD ds = some ys → vs = ys.map V.bl
  | _, _, _, .nil, e => by cases e; rfl
  | _, _, ys, .cons (d := d) (ds := ds) h r, e => by
    cases d with
    | bool x =>
      have e : (boolsD ds).map (fun ys => x :: ys) = some ys := e
      cases q : boolsD ds with
      | none => rw [q] at e; cases e
      | some zs =>
        rw [q] at e; cases e
        rw [RD.ofBool h, boolsD_rd r q]; rfl
    | _ => cases e
def gSum : List D → Option EV
  | [.list xs] => (intsD xs).map fun ys => .d (.int ys.sum)
  | _ => none
def gAll : List D → Option EV
  | [.list xs] => (boolsD xs).map fun ys => .d (.bool (ys.all id))
  | _ => none
def gAny : List D → Option EV
  | [.list xs] => (boolsD xs).map fun ys => .d (.bool (ys.any id))
  | _ => none
section
variable {X : Cx}
theorem g_sum (hc : X.calm = true) : CallD X (.builtin "sum") gSum := by
  refine ⟨_, cr_sum hc, fun G H ws ds ev Q s h e res => ?_⟩
  unfold gSum at e
  split at e
  · rename_i xs
    obtain ⟨w, rfl, h1⟩ := h.one
    obtain ⟨p, vs, rfl, hp, hr⟩ := h1.lst s
    cases q : intsD xs with
    | none => rw [q] at e; cases e
    | some ys =>
      rw [q] at e; cases e
      have ev := intsD_rd hr q
      subst ev
      exact ⟨p, ys, rfl, SqL.of hp, res.same s (.int _)⟩
  · cases e
theorem g_all (hc : X.calm = true) : CallD X (.builtin "all") gAll := by
  refine ⟨_, cr_all hc, fun G H ws ds ev Q s h e res => ?_⟩
  unfold gAll at e
  split at e
  · rename_i xs
    obtain ⟨w, rfl, h1⟩ := h.one
    obtain ⟨p, vs, rfl, hp, hr⟩ := h1.lst s
    cases q : boolsD xs with
    | none => rw [q] at e; cases e
    | some ys =>
      rw [q] at e; cases e
      have ev := boolsD_rd hr q
      subst ev
      exact ⟨p, ys, rfl, SqL.of hp, res.same s (.bl _)⟩
  · cases e
theorem g_any (hc : X.calm = true) : CallD X (.builtin "any") gAny := by
  refine ⟨_, cr_any hc, fun G H ws ds ev Q s h e res => ?_⟩
  unfold gAny at e
  split at e
  · rename_i xs
    obtain ⟨w, rfl, h1⟩ := h.one
    obtain ⟨p, vs, rfl, hp, hr⟩ := h1.lst s
    cases q : boolsD xs with
    | none => rw [q] at e; cases e
    | some ys =>
      rw [q] at e; cases e
      have ev := boolsD_rd hr q
      subst ev
      exact ⟨p, ys, rfl, SqL.of hp, res.same s (.bl _)⟩
  · cases e
/-! ### {} -/
variable {W : WX} {pos : Pos}
/-- a new empty dict: its keys will be ints and texts | tuples -/
def mNewD (t : Bool) : Env' → R EV := fun ρ => .ok (.fr (if t then .dt [] else .dk [])) ρ
theorem ae_newK : AE X W (mNewD false) (.Dict [] [] pos) := pe_dnewK.imp fun σ H Q ⟨P, B, G, ρ, F, s, h⟩ => by
  have res := res_of s (show Po (EvR X.K) X.K W P B G σ (.ok (.fr (.dk [])) ρ) Q from h)
  exact fun p hp => res _ G _ (Grow.newH s.sub hp) ⟨[p], ⟨p, [], rfl, rfl, upd_same, .nil⟩, fun a ha => by rw [List.mem_singleton.mp ha]; exact ⟨s.sub.free hp, hp⟩⟩
theorem ae_newT : AE X W (mNewD true) (.Dict [] [] pos) := pe_dnewT.imp fun σ H Q ⟨P, B, G, ρ, F, s, h⟩ => by
  have res := res_of s (show Po (EvR X.K) X.K W P B G σ (.ok (.fr (.dt [])) ρ) Q from h)
  exact fun p hp => res _ G _ (Grow.newH s.sub hp) ⟨[p], ⟨p, [], rfl, rfl, upd_same, .nil⟩, fun a ha => by rw [List.mem_singleton.mp ha]; exact ⟨s.sub.free hp, hp⟩⟩
end
end Mi
/-! text MiDd -/
set_option Elab.async false
set_option linter.all false
set_option maxRecDepth 100000
set_option maxHeartbeats 4000000
/-! MiDd: d[k] = v, d a slot's own dict. -/
namespace Mi
open PySem PySem.Spec PyProof.Rows L2 TL

/-! ### a slot's own dict whose keys are tuples -/
def dtA : Option (Option SV) → Option (List (List Key × D))
  | some (some (.o (.dt xs))) => some xs
  | some (some (.b (.dt xs))) => some xs
  | _ => none
def qtA : Option (Option SV) → Nat → List (List Key × D) → Env' → Env'
  | some (some (.b _)), i, xs, ρ => ρ.set i (some (.b (.dt xs)))
  | _, i, xs, ρ => ρ.set i (some (.o (.dt xs)))
@[simp] theorem qtA_o {m : MO} {i : Nat} {xs : List (List Key × D)} {ρ : Env'} : qtA (some (some (.o m))) i xs ρ = ρ.set i (some (.o (.dt xs))) := (rfl)
@[simp] theorem qtA_b {m : MO} {i : Nat} {xs : List (List Key × D)} {ρ : Env'} : qtA (some (some (.b m))) i xs ρ = ρ.set i (some (.b (.dt xs))) := (rfl)
@[simp] theorem dtA_o {xs : List (List Key × D)} : dtA (some (some (.o (.dt xs)))) = some xs := (rfl)
@[simp] theorem dtA_b {xs : List (List Key × D)} : dtA (some (some (.b (.dt xs)))) = some xs := (rfl)
@[simp] theorem dtA_ok {xs : List (Key × D)} : dtA (some (some (.o (.dk xs)))) = none := (rfl)
@[simp] theorem dtA_bk {xs : List (Key × D)} : dtA (some (some (.b (.dk xs)))) = none := (rfl)
@[simp] theorem dkA_ot {xs : List (List Key × D)} : dkA (some (some (.o (.dt xs)))) = none := (rfl)
@[simp] theorem dkA_bt {xs : List (List Key × D)} : dkA (some (some (.b (.dt xs)))) = none := (rfl)
section
variable {K : Fg} {P : Hp} {B : Nat → Option V} {G G' : Hp} {ρ : Env'} {σ : L2.St} {H H' : Hp} {F : Nat → List Addr}
theorem SRF.dt (s : SRF K P B G ρ σ H F) {i : Nat} {xs : List (List Key × D)} (h : dtA ρ[i]? = some xs) :
    ∃ sv v, ρ[i]? = some (some sv) ∧ (sv = .o (.dt xs) ∨ sv = .b (.dt xs)) ∧ σ[i]? = some (some v) ∧ OR K G H (.dt xs) v (F i) := by
  cases q : ρ[i]? with
  | none => rw [q] at h; cases h
  | some o =>
    rw [q] at h
    unfold dtA at h
    split at h
    · rename_i xs' hm
      cases h
      have hm := Option.some.inj hm
      subst hm
      obtain ⟨v, q1, q2, _⟩ := s.slot i _ q
      exact ⟨_, v, rfl, .inl rfl, q1, q2⟩
    · rename_i xs' hm
      cases h
      have hm := Option.some.inj hm
      subst hm
      obtain ⟨v, q1, q2, _⟩ := s.slot i _ q
      exact ⟨_, v, rfl, .inr rfl, q1, q2⟩
    · cases h
theorem SRF.dtPut (s : SRF K P B G ρ σ H F) {i : Nat} {xs xs' : List (List Key × D)} (h : dtA ρ[i]? = some xs) {v : V} (hv : σ[i]? = some (some v)) (n : OR K G H' (.dt xs') v (F i)) (hH : ∀ a, a ∉ F i → H' a = H a) :
    SRF K P B G (qtA ρ[i]? i xs' ρ) σ H' F := by
  obtain ⟨sv, v', h1, h2, h3, h4⟩ := s.dt h
  rcases h2 with rfl | rfl
  · rw [h1]
    exact s.poke h1 rfl hv (sv' := .o (.dt xs')) n hH n.some
  · rw [h1]
    exact s.poke h1 rfl hv (sv' := .b (.dt xs')) n hH n.some
end
/-- a tuple as a key -/
def tkOf : D → Option (List Key)
  | .tuple ks => atomKs ks
  | _ => none
theorem tkOf_eq {d : D} {ks : List Key} (h : tkOf d = some ks) : d = .tuple (ks.map kD) := by
  cases d with
  | tuple xs => rw [atomKs_kD (show atomKs xs = some ks from h)]
  | _ => cases h
def putKk (i : Nat) (y k : D) (ρ : Env') : RS := match dkA ρ[i]?, keyOf k with
  | some kvs, some kk => if kvs.length < sizeLine then .nx (qA ρ[i]? i (putD kvs kk y) ρ) else .bad
  | _, _ => match dtA ρ[i]?, tkOf k with
    | some kvs, some kk => if kvs.length < sizeLine then .nx (qtA ρ[i]? i (putD kvs kk y) ρ) else .bad
    | _, _ => .bad
def hasD (o : Option (Option SV)) : Bool := (dkA o).isSome || (dtA o).isSome
@[simp] theorem hasD_ok {xs : List (Key × D)} : hasD (some (some (.o (.dk xs)))) = true := (rfl)
@[simp] theorem hasD_bk {xs : List (Key × D)} : hasD (some (some (.b (.dk xs)))) = true := (rfl)
@[simp] theorem hasD_ot {xs : List (List Key × D)} : hasD (some (some (.o (.dt xs)))) = true := (rfl)
@[simp] theorem hasD_bt {xs : List (List Key × D)} : hasD (some (some (.b (.dt xs)))) = true := (rfl)
theorem SRF.hasD {K : Fg} {P : Hp} {B : Nat → Option V} {G : Hp} {ρ : Env'} {σ : L2.St} {H : Hp} {F : Nat → List Addr} (s : SRF K P B G ρ σ H F) {i : Nat} (h : hasD ρ[i]? = true) : ∃ v, σ[i]? = some (some v) := by
  unfold Mi.hasD at h
  cases q : dkA ρ[i]? with
  | some xs => obtain ⟨_, v, _, _, h2, _⟩ := s.dk q; exact ⟨v, h2⟩
  | none =>
    cases q2 : dtA ρ[i]? with
    | some xs => obtain ⟨_, v, _, _, h2, _⟩ := s.dt q2; exact ⟨v, h2⟩
    | none => rw [q, q2] at h; cases h
/-- x[k] = v -/
def sPut (i : Nat) (mk m : Env' → R EV) : Env' → RS := fun ρ => (m ρ).toS fun e ρ1 => match fzV e with
  | .d y => if hasD ρ1[i]? = true then (mk ρ1).toS fun k ρ2 => match dV ρ2 k with
    | some k => putKk i y k ρ2
    | none => .bad
    else .bad
  | _ => .bad
section
variable {X : Cx} {W : WX} {e k : Expr} {m mk : Env' → R EV} {pos p p2 p3 : Pos} {x : Str}
theorem as_dput (i : Nat) (hu : X.A.units + 1 < cLine) (hk : AE X W mk k) (h1 : AE X W m e) (hN : X.N[i]? = some x := by rfl) (hv : Vis X.env.scope x := by first | exact Or.inl rfl | exact Or.inr (Or.inl rfl) | exact Or.inr (Or.inr rfl)) (hd : (x == ("__debug__" : Str)) = false := by decide)
    (hcd : (x == ("__classdict__" : Str)) = false := by decide) (hs : swapsWith e (some (.Subscript (.Name x p) k p3)) pos.line X.env = pure false := by rfl) :
    AS X W (sPut i mk m) (.Assign [.Subscript (.Name x p) k p3] e pos) := by
  refine (ps_dput hu (pe_vr i hN hv hd hcd) hk h1 hs).imp fun D σ H h => ?_
  obtain ⟨P, B, G, ρ, F, s, h⟩ := h
  refine ⟨P, B, G, ρ, F, s, (PoS.toS (rel := EvR X.K) (σ := σ) h).imp fun v H1 ⟨G1, ρ1, F1, e1, g1, s1, r1, h1⟩ => ?_⟩
  obtain ⟨G2, g2, s2, r2, n2⟩ := fz_ok s1 r1
  cases qe : fzV e1 with
  | fr mm => simp only [qe] at h1; exact h1.elim
  | al ii => simp only [qe] at h1; exact h1.elim
  | d y =>
    rw [qe] at r2
    simp only [qe] at h1
    cases qh : hasD ρ1[i]? with
    | false => rw [qh, if_neg (by decide)] at h1; exact h1.elim
    | true =>
      rw [qh, if_pos rfl] at h1
      obtain ⟨vx, hvx⟩ := s2.hasD qh
      refine ⟨vx, hvx, P, B, G2, ρ1, F1, s2, (PoS.toS (rel := EvR X.K) (σ := σ) (h1.mono g2)).imp fun w H3 ⟨G3, ρ3, F3, k3, g3, s3, r3, h3⟩ => ?_⟩
      have hy : RD X.K G3 y v := RD.mono g3 r2
      cases qk : dV ρ3 k3 with
      | none => simp only [qk] at h3; exact h3.elim
      | some kd =>
        simp only [qk] at h3
        have hk3 := ShR.of s3 r3 qk
        unfold putKk at h3
        split at h3
        · rename_i kvs kk q1 q2
          split at h3
          · rename_i hl
            obtain ⟨_, v1, _, _, hv1, a, vs, ev, eF, hl1, hr1⟩ := s3.dk q1
            rw [hvx] at hv1
            cases hv1
            cases ev
            have k1 := KP.of' hr1
            have ey : w = kV kk := by
              rw [keyOf_kD q2] at hk3
              cases kk with
              | inl i => exact hk3.int
              | inr x => exact hk3.str
            subst ey
            refine ⟨a, _, rfl, DPut.k hl1 (by rw [k1.len]; exact hl), ?_⟩
            have n : OR X.K G3 (upd H3 a (.dK (putK vs kk v))) (.dk (putD kvs kk y)) (.ref a) (F3 i) := ⟨a, _, rfl, eF, upd_same, (k1.put hy).rd⟩
            exact h3 G3 _ F3 σ (Same.refl _) (s3.dkPut q1 hvx n fun c hc => upd_ne fun z => hc (by rw [eF, z]; exact List.mem_singleton.mpr rfl))
          · exact h3.elim
        · split at h3
          · rename_i kvs kk q1 q2
            split at h3
            · rename_i hl
              obtain ⟨_, v1, _, _, hv1, a, vs, ev, eF, hl1, hr1⟩ := s3.dt q1
              rw [hvx] at hv1
              cases hv1
              cases ev
              have k1 := KP.ofT hr1 rfl
              cases kd with
              | tuple xs =>
                obtain ⟨b, us, rfl, hb0, hbr⟩ := hk3.tup
                have hb := hb0.key q2
                rw [atomKs_kD q2] at hbr
                have eus := kDs_RD hbr
                subst eus
                refine ⟨a, _, rfl, DPut.t hl1 (s3.sub _ _ hb) (by rw [k1.len]; exact hl), ?_⟩
                have n : OR X.K G3 (upd H3 a (.dT (putK vs kk v))) (.dt (putD kvs kk y)) (.ref a) (F3 i) := ⟨a, _, rfl, eF, upd_same, (k1.put hy).rdt⟩
                exact h3 G3 _ F3 σ (Same.refl _) (s3.dtPut q1 hvx n fun c hc => upd_ne fun z => hc (by rw [eF, z]; exact List.mem_singleton.mpr rfl))
              | _ => cases q2
            · exact h3.elim
          · exact h3.elim
end
end Mi
/-! text MiDe -/
set_option Elab.async false
set_option linter.all false
set_option maxRecDepth 100000
set_option maxHeartbeats 8000000
/-! MiDe: list(zip(a, b)), list(zip(a, b, strict=..)). -/
namespace Mi
open PySem PySem.Spec PyProof.Rows L2 TL
namespace ZF
theorem no_len : typeLookup (.type "zip") "__len__" = pure none := by rw [typeLookup_type, builtinLookup_eq_fast]; kernel_rfl
theorem no_hint : typeLookup (.type "zip") "__length_hint__" = pure none := by rw [typeLookup_type, builtinLookup_eq_fast]; kernel_rfl
end ZF
section
variable {prog : Program} {w : World} {A : Around} {E : Value → Shared → Prop} {s : Shared} {z TI TO i1 i2 : Addr} {fp1 fp2 : List Addr} {n1 n2 i : Nat} {P1 P2 : Nat → Value → Prop} {St1 St2 : Nat → Heap → Prop} {a1 a2 : Value} {st : Bool}
theorem zp_next {Q : Option Value → Shared → Prop} (S : ZipSep2 z TI TO i1 i2 fp1 fp2) (D1 : Draws prog w A.in1 i1 fp1 n1 P1 St1) (D2 : Draws prog w A.in1 i2 fp2 n2 P2 St2)
    (hz : ZFree s.heap z TI TO st) (hTI : IsTupOf2 s.heap TI (.ref i1) (.ref i2)) (hTO : IsTupOf2 s.heap TO a1 a2) (st1 : St1 i s.heap) (st2 : St2 i s.heap) (hlt1 : i < n1) (hlt2 : i < n2)
    (hQ : ∀ x1 x2 h' tk, P1 i x1 → P2 i x2 → ZFree h' z TI TO st → (∃ y1 y2, IsTupOf2 h' TO y1 y2) → St1 (i + 1) h' → St2 (i + 1) h' → IsTupOf2 h' s.heap.objs.size x1 x2 → h'.objs.size = s.heap.objs.size + 1 →
      (∀ c o, c ≠ z → c ≠ TO → c ≠ i1 → c ≠ i2 → s.heap.get? c = some o → h'.get? c = some o) → Q (some (.ref s.heap.objs.size)) { s with heap := h', toks := tk }) :
    wpAny (model prog w) A (pyNext (.ref z)) Q E s := by
  obtain ⟨f0, fl, hf, hz⟩ := hz
  have ty : s.TypeIs (.ref z) "zip" := ⟨_, hz, rfl⟩
  unfold pyNext
  refine wpAny_bind (wpAny_attempt (wpAny_callSpecial?_slot (name := Str.ofString "__next__") ty F.slot_zip_next (wpAny_call_entry F.slot_zip_next ty F.entry_zip_next ?_ (F.args_zip_next_1 _))))
  have free : ∀ {Q' : Value → Shared → Prop} {E' : Value → Shared → Prop}, (∀ x1 x2 h' tk, P1 i x1 → P2 i x2 → ZFree h' z TI TO st → (∃ y1 y2, IsTupOf2 h' TO y1 y2) → St1 (i + 1) h' → St2 (i + 1) h' → IsTupOf2 h' s.heap.objs.size x1 x2 → h'.objs.size = s.heap.objs.size + 1 →
      (∀ c o, c ≠ z → c ≠ TO → c ≠ i1 → c ≠ i2 → s.heap.get? c = some o → h'.get? c = some o) → Q' (.ref s.heap.objs.size) { s with heap := h', toks := tk }) → FreeZ s.heap f0 →
      wpAny (model prog w) A.in1 (Builtin.«zip.__next__» ⟨[.ref z], []⟩) (fun fin s' => ∃ v, fin = .done (.ret v) ∧ Q' v s') E' s := fun hQ hfz =>
    zs_item S D1 D2 hz hfz hTI hTO st1 st2 hlt1 hlt2 fun x1 x2 h' tk p1 p2 b1 b2 d1 d2 b5 b6 b7 => hQ x1 x2 h' tk p1 p2 ⟨_, _, .inr ⟨_, rfl⟩, b1⟩ ⟨_, _, b2⟩ d1 d2 b5 b6 b7
  rcases hf with rfl | ⟨T, rfl⟩
  · exact free (fun x1 x2 h' tk p1 p2 b1 b2 d1 d2 b5 b6 b7 => wpAny_pure (hQ x1 x2 h' tk p1 p2 b1 b2 d1 d2 b5 b6 b7)) (.inl rfl)
  · cases hT : s.heap.get? T with
    | none => exact free (fun x1 x2 h' tk p1 p2 b1 b2 d1 d2 b5 b6 b7 => wpAny_pure (hQ x1 x2 h' tk p1 p2 b1 b2 d1 d2 b5 b6 b7)) (.inr ⟨T, rfl, hT⟩)
    | some oT =>
      exact zh_item S D1 D2 hz hT hTI st1 st2 hlt1 hlt2 fun x1 x2 h' tk p1 p2 b1 d1 d2 b5 b6 b7 => wpAny_pure (hQ x1 x2 h' tk p1 p2 ⟨_, _, .inr ⟨_, rfl⟩, b1⟩ ⟨_, _, b7 _ _ S.TOz S.Ti1 S.Ti2 hTO⟩ d1 d2 b5 b6 fun c o c1 _ c3 c4 e => b7 c o c1 c3 c4 e)
theorem zp_stop {Q : Option Value → Shared → Prop} (hh : A.handled = none) (S : ZipSep2 z TI TO i1 i2 fp1 fp2) (D1 : Draws prog w A.in1 i1 fp1 n1 P1 St1) (D2 : Draws prog w A.in1 i2 fp2 n2 P2 St2)
    (hz : ZFree s.heap z TI TO st) (hTI : IsTupOf2 s.heap TI (.ref i1) (.ref i2)) (hTO : IsTupOf2 s.heap TO a1 a2) (st1 : St1 i s.heap) (st2 : St2 i s.heap) (hle1 : i ≤ n1) (hle2 : i ≤ n2) (hend : i = n1 ∨ i = n2) (hS : st = true → n1 = n2)
    (hQ : ∀ h' tk, (∀ c o, c ≠ z → c ≠ TO → c ≠ i1 → c ≠ i2 → s.heap.get? c = some o → h'.get? c = some o) → Q none { s with heap := h', toks := tk }) : wpAny (model prog w) A (pyNext (.ref z)) Q E s := by
  obtain ⟨f0, fl, hf, hz⟩ := hz
  have ty : s.TypeIs (.ref z) "zip" := ⟨_, hz, rfl⟩
  unfold pyNext
  refine wpAny_bind (wpAny_attempt (wpAny_callSpecial?_slot (name := Str.ofString "__next__") ty F.slot_zip_next (wpAny_call_entry F.slot_zip_next ty F.entry_zip_next ?_ (F.args_zip_next_1 _))))
  rcases hf with rfl | ⟨T, rfl⟩
  · refine zs_end hh S D1 D2 hz (.inl rfl) hTI hTO st1 st2 hle1 hle2 hend hS fun h' tk e hk he => ?_
    obtain ⟨o, ho, hc⟩ := he
    exact wpAny_bind (wpAny_isInstance (T := "StopIteration") (b := true) ⟨o, ho, hc⟩ isSubtype_stop (wpAny_pure (hQ _ _ hk)))
  · cases hT : s.heap.get? T with
    | none =>
      refine zs_end hh S D1 D2 hz (.inr ⟨T, rfl, hT⟩) hTI hTO st1 st2 hle1 hle2 hend hS fun h' tk e hk he => ?_
      obtain ⟨o, ho, hc⟩ := he
      exact wpAny_bind (wpAny_isInstance (T := "StopIteration") (b := true) ⟨o, ho, hc⟩ isSubtype_stop (wpAny_pure (hQ _ _ hk)))
    | some oT =>
      refine zh_end hh S D1 D2 hz hT hTI st1 st2 hle1 hle2 hend hS fun h' tk e hk he => ?_
      obtain ⟨o, ho, hc⟩ := he
      exact wpAny_bind (wpAny_isInstance (T := "StopIteration") (b := true) ⟨o, ho, hc⟩ isSubtype_stop (wpAny_pure (hQ _ _ fun c o c1 _ c3 c4 e => hk c o c1 c3 c4 e)))
end

/-! ### the loop of list.extend over a zip -/
section
variable {X : Cx} {pins : List (Addr × Obj)} {σ : L2.St} {A : Around} {R : Result → Shared → Prop} {z TI TO i1 i2 a b L : Addr} {t1 t2 st : Bool} {xs ys : List V} {bs : Nat → Bool} {Mv : Nat → Hp → List V → Prop} {n : Nat}
theorem zl_loop (hh : A.handled = none) (S : ZipSep2 z TI TO i1 i2 [i1, a] [i2, b]) (n1 : a ≠ i1) (n2 : b ≠ i2) (hL : ∀ c ∈ [z, TI, TO, i1, i2], L ≠ c) (res : Value)
    (hn : n = min xs.length ys.length) (hst : st = true → xs.length = ys.length) (hsz : n ≤ sizeLine)
    (step : ∀ i H ws T x y o, Mv i H ws → H T = none → T ≠ L → o.dict = none → xs[i]? = some x → ys[i]? = some y → Mv (i + 1) (upd (upd H T (tupO (bs i) o [x, y])) L (.lst (ws ++ [.ref T]))) (ws ++ [.ref T]))
    (at_ : ∀ i H ws, Mv i H ws → H L = some (.lst ws) ∧ ws.length = i ∧ Sqq X.K t1 H a xs ∧ Sqq X.K t2 H b ys) :
    ∀ (k i : Nat) (s : Shared) (H : Hp) (ws : List V), n - i = k → i ≤ n → Inv X pins σ H s → Mv i H ws → ZFree s.heap z TI TO st → IsTupOf2 s.heap TI (.ref i1) (.ref i2) → (∃ x y, IsTupOf2 s.heap TO x y) → ItAt t1 s.heap i1 a i → ItAt t2 s.heap i2 b i →
      (∀ c ∈ [z, TI, TO, i1, i2], FpOk X pins H c) → (∀ s' H' ws', Inv X pins σ H' s' → Mv n H' ws' → R (.ok (.ret res)) s') → codeAny (model X.prog X.w) A (.builtin "list.extend.loop" ⟨[.ref L, .ref z, res], []⟩) R s := by
  have hh1 : A.in1.handled = none := hh
  intro k
  induction k with
  | zero =>
    intro i s H ws hk hi I hM hz hTI hTO h1 h2 hf hR
    have hin : i = n := by omega
    obtain ⟨hLw, hlen, hq1, hq2⟩ := at_ i H ws hM
    obtain ⟨its, rv, p⟩ := hq1.at I
    obtain ⟨its2, rv2, p2⟩ := hq2.at I
    have l1 := rv.length
    have l2 := rv2.length
    obtain ⟨x0, y0, hTO⟩ := hTO
    refine codeAny_builtin F.entry_extend_loop ?_
    rw [Around.under_plainId F.plain_extend_loop _]
    show wpAny _ A.in1 (pyNext (.ref z) >>= _) _ _ s
    refine wpAny_bind (zp_stop hh1 S (drawsQ (prog := X.prog) (w := X.w) (A := A.in1.in1) t1 hh i1 a n1 its.toArray) (drawsQ (prog := X.prog) (w := X.w) (A := A.in1.in1) t2 hh i2 b n2 its2.toArray) hz hTI hTO ⟨h1, p⟩ ⟨h2, p2⟩
      (by simp; omega) (by simp; omega) (by simp; omega) (fun z => by have := hst z; simp; omega) fun h' tk hk => ?_)
    refine wpAny_pure (hR _ H ws (I.turnedL (t' := tk) (ch := [z, TI, TO, i1, i2]) (fun c o hb q => hk c o (fun q' => hb (by simp [q'])) (fun q' => hb (by simp [q'])) (fun q' => hb (by simp [q'])) (fun q' => hb (by simp [q'])) q) hf) ?_)
    rw [← hin]; exact hM
  | succ k ih =>
    intro i s H ws hk hi I hM hz hTI hTO h1 h2 hf hR
    obtain ⟨hLw, hlen, hq1, hq2⟩ := at_ i H ws hM
    obtain ⟨its, rv, p⟩ := hq1.at I
    obtain ⟨its2, rv2, p2⟩ := hq2.at I
    have l1 := rv.length
    have l2 := rv2.length
    have hlt : i < n := by omega
    have hx : xs[i]? = some (xs[i]'(by omega)) := List.getElem?_eq_getElem (by omega)
    have hy : ys[i]? = some (ys[i]'(by omega)) := List.getElem?_eq_getElem (by omega)
    generalize xs[i]'(by omega) = x at hx
    generalize ys[i]'(by omega) = y at hy
    obtain ⟨u, hu, ru⟩ := rv.get hx
    obtain ⟨u2, hu2, ru2⟩ := rv2.get hy
    have k1 : its.toArray[i]? = some u := by simpa using hu
    have k2 : its2.toArray[i]? = some u2 := by simpa using hu2
    obtain ⟨x0, y0, hTO⟩ := hTO
    refine codeAny_builtin F.entry_extend_loop ?_
    rw [Around.under_plainId F.plain_extend_loop _]
    show wpAny _ A.in1 (pyNext (.ref z) >>= _) _ _ s
    refine wpAny_bind (zp_next S (drawsQ (prog := X.prog) (w := X.w) (A := A.in1.in1) t1 hh i1 a n1 its.toArray) (drawsQ (prog := X.prog) (w := X.w) (A := A.in1.in1) t2 hh i2 b n2 its2.toArray) hz hTI hTO ⟨h1, p⟩ ⟨h2, p2⟩
      (Array.getElem?_eq_some_iff.mp k1).1 (Array.getElem?_eq_some_iff.mp k2).1 fun v1 v2 h' tk e1 e2 z' TO' h1' h2' hT hsz' hkk => ?_)
    rw [k1] at e1; cases e1
    rw [k2] at e2; cases e2
    have fT : H s.heap.objs.size = none := I.hok.fresh (Nat.le_refl _)
    have nTL : s.heap.objs.size ≠ L := fun z => by rw [z, hLw] at fT; cases fT
    have hzl : z < s.heap.objs.size := by obtain ⟨f0, fl, _, hz0⟩ := hz; exact Heap.lt_size hz0
    have hcl : ∀ c ∈ [z, TI, TO, i1, i2], c < s.heap.objs.size := fun c hcm => by
      obtain ⟨o1, q1, _⟩ := h1.obj
      obtain ⟨o2, q2, _⟩ := h2.obj
      have e' : c = z ∨ c = TI ∨ c = TO ∨ c = i1 ∨ c = i2 := by simpa using hcm
      rcases e' with q | q | q | q | q <;> subst q
      · exact hzl
      · exact Heap.lt_size hTI
      · exact Heap.lt_size hTO
      · exact Heap.lt_size q1
      · exact Heap.lt_size q2
    have new : ObjOk X.prog X.w (upd H s.heap.objs.size (tupO (bs i) { cls := .type "tuple", data := .seq #[u, u2] } [x, y])) h' s.heap.objs.size (tupO (bs i) { cls := .type "tuple", data := .seq #[u, u2] } [x, y]) :=
      ok_tupO hT ⟨by show 2 ≤ sizeLine; decide, [u, u2], .cons ru (.cons ru2 .nil), ⟨_, hT, rfl, _, rfl⟩⟩
    have I1 : Inv X pins σ (upd H s.heap.objs.size (tupO (bs i) { cls := .type "tuple", data := .seq #[u, u2] } [x, y])) { s with heap := h', toks := tk } :=
      I.turnedNew (t' := tk) (ch := [z, TI, TO, i1, i2]) (fun c o hb q => hkk c o (fun q' => hb (by simp [q'])) (fun q' => hb (by simp [q'])) (fun q' => hb (by simp [q'])) (fun q' => hb (by simp [q'])) q) hf (Nat.le_refl _) new
    have hLw1 : (upd H s.heap.objs.size (tupO (bs i) { cls := .type "tuple", data := .seq #[u, u2] } [x, y])) L = some (.lst ws) := by rw [upd_ne nTL.symm]; exact hLw
    obtain ⟨zl, itl, cn, rl, ll, el⟩ := I1.lstM hLw1
    show wpAny _ A.in1 (updateSeq L (·.push (.ref s.heap.objs.size)) >>= _) _ _ _
    have I2 := I1.lset (t' := tk) (f := fun q => q.push (.ref s.heap.objs.size)) (its' := itl ++ [.ref s.heap.objs.size]) (ys := ws ++ [.ref s.heap.objs.size]) hLw1 el (by simp) (rl.append (.cons (show L2.RelV (.ref s.heap.objs.size) (.ref s.heap.objs.size) from rfl) .nil)) (by rw [List.length_append, List.length_singleton]; omega)
    have up : ∀ c o, L ≠ c → h'.get? c = some o → (h'.update L (Obj.mapSeq fun q => q.push (.ref s.heap.objs.size))).get? c = some o := fun c o ne e => (Heap.get?_update_other _ _ ne).trans e
    refine wpAny_bind (wpAny_updateSeq el rfl (wpAny_pure ⟨plainId_quiet F.plain_extend_loop _, ih (i + 1) _ _ (ws ++ [.ref s.heap.objs.size]) (by omega) hlt I2 (step i H ws _ x y _ hM fT nTL rfl hx hy) ?_ ?_ ?_ ?_ ?_ (fun c hc => ?_) hR⟩)
      (by rw [List.size_toArray]; omega) (by show (itl.toArray.push _).size ≤ sizeLine + 1; rw [Array.size_push, List.size_toArray]; omega))
    · obtain ⟨f0, fl, hf0, hz0⟩ := z'
      exact ⟨f0, fl, hf0, up _ _ (hL z (by simp)) hz0⟩
    · exact up _ _ (hL TI (by simp)) (hkk _ _ S.TIz S.TITO S.TIi1 S.TIi2 hTI)
    · obtain ⟨y1, y2, hy0⟩ := TO'
      exact ⟨y1, y2, up _ _ (hL TO (by simp)) hy0⟩
    · exact h1'.1.at fun o q => up _ _ (hL i1 (by simp)) q
    · exact h2'.1.at fun o q => up _ _ (hL i2 (by simp)) q
    · refine ⟨?_, (hf c hc).2⟩
      rw [upd_ne (hL c hc).symm, upd_ne (Nat.ne_of_lt (hcl c hc))]
      exact (hf c hc).1
/-- list(z), z a zip that has just begun -/
theorem call_listzip {E : Value → Shared → Prop} {Q : Value → Shared → Prop} {H : Hp} {s : Shared} (hh : A.handled = none) (S : ZipSep2 z TI TO i1 i2 [i1, a] [i2, b]) (n1 : a ≠ i1) (n2 : b ≠ i2)
    (hn : n = min xs.length ys.length) (hst : st = true → xs.length = ys.length) (hsz : n ≤ sizeLine)
    (I : Inv X pins σ H s) (tn : tnQ t1 t2 a b z TI TO i1 i2 st 0 s.heap) (hf : ∀ c ∈ [z, TI, TO, i1, i2], FpOk X pins H c)
    (mv : H s.heap.objs.size = none → Mv 0 (upd H s.heap.objs.size (.lst [])) [])
    (step : ∀ i H ws T x y o, Mv i H ws → H T = none → T ≠ s.heap.objs.size → o.dict = none → xs[i]? = some x → ys[i]? = some y → Mv (i + 1) (upd (upd H T (tupO (bs i) o [x, y])) s.heap.objs.size (.lst (ws ++ [.ref T]))) (ws ++ [.ref T]))
    (at_ : ∀ i H ws, Mv i H ws → H s.heap.objs.size = some (.lst ws) ∧ ws.length = i ∧ Sqq X.K t1 H a xs ∧ Sqq X.K t2 H b ys)
    (hR : ∀ s' H' ws', Inv X pins σ H' s' → Mv n H' ws' → Q (.ref s.heap.objs.size) s') : wpAny (model X.prog X.w) A (call (.type "list") [.ref z]) Q E s := by
  obtain ⟨hz, hTI, ⟨x0, y0, hTO⟩, h1, h2⟩ := tn
  have fL : H s.heap.objs.size = none := I.hok.fresh (Nat.le_refl _)
  have hcl : ∀ c ∈ [z, TI, TO, i1, i2], c < s.heap.objs.size := fun c hcm => by
    obtain ⟨o1, q1, _⟩ := h1.obj
    obtain ⟨o2, q2, _⟩ := h2.obj
    have e' : c = z ∨ c = TI ∨ c = TO ∨ c = i1 ∨ c = i2 := by simpa using hcm
    rcases e' with q | q | q | q | q <;> subst q
    · exact Heap.lt_size hz
    · exact Heap.lt_size hTI
    · exact Heap.lt_size hTO
    · exact Heap.lt_size q1
    · exact Heap.lt_size q2
  have hL : ∀ c ∈ [z, TI, TO, i1, i2], s.heap.objs.size ≠ c := fun c hc => Nat.ne_of_gt (hcl c hc)
  refine callType_codes (Q₁ := fun obj s₁ => obj = .ref s.heap.objs.size ∧ s₁ = { s with heap := s.heap.push { cls := .type "list", data := .seq #[] } }) F.called_list (F.typeCall_list_1 _) F.entry_list_init
    (code_list_new _ ⟨rfl, rfl⟩) fun obj s₁ h₁ => ?_
  obtain ⟨rfl, rfl⟩ := h₁
  have hS : (s.heap.push { cls := .type "list", data := .seq #[] }).get? s.heap.objs.size = some { cls := .type "list", data := .seq #[] } := Heap.get?_push_size _ rfl
  refine ⟨⟨_, hS, rfl⟩, F.args_list_init_2 _ _, ?_⟩
  have up0 : ∀ c o, s.heap.get? c = some o → (s.heap.push { cls := .type "list", data := .seq #[] }).get? c = some o := fun c o e => Heap.get?_push_of_some _ e
  have I0 : Inv X pins σ (upd H s.heap.objs.size (.lst [])) { s with heap := s.heap.push { cls := .type "list", data := .seq #[] } } :=
    I.laid (t' := s.toks) (o := .lst []) (fun b o e => Heap.get?_push_of_some _ e) (Nat.le_refl _) ⟨Nat.zero_le _, [], 0, .nil, hS⟩
  obtain ⟨hp, g, d, tk, os⟩ := s
  have hf0 : ∀ c ∈ [z, TI, TO, i1, i2], FpOk X pins (upd H hp.objs.size (.lst [])) c := fun c hc => ⟨by rw [upd_ne (hL c hc).symm]; exact (hf c hc).1, (hf c hc).2⟩
  show wpAny _ A.in1.in1 (do let old ← Builtin.List.listItems (.ref hp.objs.size); Builtin.List.listUpdate (.ref hp.objs.size) (fun _ => #[]); letGo old.toList.reverse; Builtin.List.listExtendWith (.ref hp.objs.size) (.ref z) .none) _ _ _
  refine wpAny_bind ?_
  unfold Builtin.List.listItems
  refine wpAny_bind (wpAny_seqItems hS rfl (wpAny_pure ?_))
  show wpAny _ _ (updateSeq hp.objs.size (fun _ => #[]) >>= fun _ => letGo (#[] : Array Value).toList.reverse >>= fun _ => Builtin.List.listExtendWith (.ref hp.objs.size) (.ref z) .none) _ _ _
  refine wpAny_bind (wpAny_updateSeq hS rfl ?_)
  have hS₂ := Heap.get?_update_self (Obj.mapSeq (fun _ => (#[] : Array Value))) hS rfl
  have I1 := I0.lset (t' := tk) (l := hp.objs.size) (xs := []) (ys := []) (its := []) (its' := []) (n := 0) (f := fun _ => #[]) upd_same hS rfl .nil (Nat.zero_le _)
  have up1 : ∀ c o, hp.objs.size ≠ c → hp.get? c = some o → ((hp.push { cls := .type "list", data := .seq #[] }).update hp.objs.size (Obj.mapSeq fun _ => (#[] : Array Value))).get? c = some o := fun c o ne e => (Heap.get?_update_other _ _ ne).trans (up0 c o e)
  refine wpAny_bind (wpAny_letGo ?_)
  have hz1 := up1 _ _ (hL z (by simp)) hz
  have ty : ∀ (g : Array GenState) (d : Drawn) (tk : Nat) (os : OsState), (⟨(hp.push { cls := .type "list", data := .seq #[] }).update hp.objs.size (Obj.mapSeq fun _ => (#[] : Array Value)), g, d, tk, os⟩ : Shared).TypeIs (.ref z) "zip" := fun _ _ _ _ => ⟨_, hz1, rfl⟩
  unfold Builtin.List.listExtendWith
  refine wpAny_bind (wpAny_typeOf (ty _ _ _ _) ?_)
  have e1 : Builtin.List.listSameRef (.ref hp.objs.size) (.ref z) = false := by simp [Builtin.List.listSameRef, hL z (by simp)]
  have e2 : (Value.type "zip" == Value.type "list") = false := by decide
  have e3 : (Value.type "zip" == Value.type "tuple") = false := by decide
  simp only [e1, e2, e3, Bool.or_false, Bool.false_eq_true, if_false]
  refine wpAny_bind (zs_iter hz1 ?_)
  refine wpAny_bind (wpAny_holding ?_)
  unfold Builtin.List.listLengthHint
  refine wpAny_bind (wpAny_specialOf (ty _ _ _ _) ZF.no_len ?_)
  show wpAny _ _ (specialOf (Value.ref z) (Str.ofString "__length_hint__") >>= _) _ _ _
  refine wpAny_bind (wpAny_specialOf (ty _ _ _ _) ZF.no_hint ?_)
  refine wpAny_pure ?_
  show wpAny _ _ (rule "list.extend.makes-room" >>= fun _ => Builtin.List.listTouch (.ref hp.objs.size) >>= fun _ =>
    again (.builtin "list.extend.loop" ⟨[.ref hp.objs.size, .ref z, .none], []⟩)) _ _ _
  refine wpAny_bind (wpAny_rule ?_)
  refine wpAny_bind ?_
  show wpAny _ _ (updateSeq hp.objs.size (·.push .none) >>= fun _ => updateSeq hp.objs.size (·.pop)) _ _ _
  refine wpAny_bind (wpAny_updateSeq hS₂ rfl ?_)
  have hS₃ := Heap.get?_update_self (Obj.mapSeq (·.push Value.none)) hS₂ rfl
  refine wpAny_updateSeq (hz := by seq_fits) hS₃ rfl ?_
  have hS₄ := Heap.get?_update_self (Obj.mapSeq (·.pop)) hS₃ rfl
  have up2 : ∀ c o, hp.objs.size ≠ c → hp.get? c = some o → ((((hp.push { cls := .type "list", data := .seq #[] }).update hp.objs.size (Obj.mapSeq fun _ => (#[] : Array Value))).update hp.objs.size (Obj.mapSeq (·.push Value.none))).update hp.objs.size (Obj.mapSeq (·.pop))).get? c = some o :=
    fun c o ne e => (Heap.get?_update_other _ _ ne).trans ((Heap.get?_update_other _ _ ne).trans (up1 c o ne e))
  have I3 : Inv X pins σ (upd H hp.objs.size (.lst [])) ⟨(((hp.push { cls := .type "list", data := .seq #[] }).update hp.objs.size (Obj.mapSeq fun _ => (#[] : Array Value))).update hp.objs.size (Obj.mapSeq (·.push Value.none))).update hp.objs.size (Obj.mapSeq (·.pop)), g, d, tk, os⟩ := by
    have q := I0.write (t' := tk) (h' := (((hp.push { cls := .type "list", data := .seq #[] }).update hp.objs.size (Obj.mapSeq fun _ => (#[] : Array Value))).update hp.objs.size (Obj.mapSeq (·.push Value.none))).update hp.objs.size (Obj.mapSeq (·.pop))) (x := hp.objs.size) (e := hp.objs.size) (o := .lst [])
      (by rw [upd_same]; exact trivial) (.inl rfl) (fun b' u hb hu => (Heap.get?_update_other _ _ (Ne.symm hb)).trans ((Heap.get?_update_other _ _ (Ne.symm hb)).trans ((Heap.get?_update_other _ _ (Ne.symm hb)).trans hu))) ⟨_, hS₄⟩ ⟨Nat.zero_le _, [], _, .nil, hS₄⟩
    have e : upd (upd H hp.objs.size (.lst [])) hp.objs.size (.lst []) = upd H hp.objs.size (.lst []) := by
      funext c
      by_cases hc : c = hp.objs.size
      · rw [hc, upd_same, upd_same]
      · rw [upd_ne hc]
    rw [e] at q
    exact q
  refine wpAny_pure ⟨plainId_quiet F.plain_extend_loop _, zl_loop (A := A.in1) hh S n1 n2 hL .none hn hst hsz step at_ n 0 _ _ [] rfl (Nat.zero_le _) I3 (mv fL) ⟨_, _, .inl rfl, up2 _ _ (hL z (by simp)) hz⟩ (up2 _ _ (hL TI (by simp)) hTI) ⟨x0, y0, up2 _ _ (hL TO (by simp)) hTO⟩
    (h1.at fun o q => up2 _ _ (hL i1 (by simp)) q) (h2.at fun o q => up2 _ _ (hL i2 (by simp)) q) hf0 fun s' H' ws' J m => ⟨rfl, hR s' H' ws' J m⟩⟩
end
end Mi
/-! text MiDf -/
set_option Elab.async false
set_option linter.all false
set_option maxRecDepth 100000
set_option maxHeartbeats 8000000
/-! MiDf: list(zip(a, b)) as an expression. -/
namespace Mi
open PySem PySem.Spec PyProof.Rows L2 TL
def lzB (st : Bool) (es : List EV) : Option EV := (zip2 st es).bind fun ds => if ds.length ≤ sizeLine then some (.fr (.lst ds)) else none
def mLz (st : Bool) (ms : Env' → R (List EV)) : Env' → R EV := fun ρ => (ms ρ).bind fun es ρ1 => R.ofO (lzB st es) ρ1
section
variable {X : Cx} {W : WX} {e e2 : Expr} {es : List Expr} {ms : Env' → R (List EV)} {p pos pos2 p2 kp cp : Pos} {j : Nat}
theorem ae_lz {st : Option Bool} (hg : Gl X "zip") (hm : X.mg "zip" = none) (hg2 : Gl X "list") (hm2 : X.mg "list" = none) (hc : X.calm = true) (ha : AA X W ms [e, e2])
    (hs : starEach [e, e2] X.env = (false, eval e X.env) :: starEach [e2] X.env := by rfl) (hpl : (backTo pos (starEach [e, e2] X.env)).any (·.1) = false := by rfl)
    (hs2 : starEach [.Call (.Name "zip" p) [e, e2] (keysOf st kp j cp) pos] X.env = [(false, eval (.Call (.Name "zip" p) [e, e2] (keysOf st kp j cp) pos) X.env)] := by rfl) :
    AE X W (mLz (st.getD false) ms) (.Call (.Name "list" p2) [.Call (.Name "zip" p) [e, e2] (keysOf st kp j cp) pos] [] pos2) := by
  refine ⟨fun pins s σ H Q I h => ?_⟩
  obtain ⟨P, B, G, ρ, F, sr, h⟩ := h
  refine Call_ (ld_blt I hg2 hm2 PyProof.Rows.boot_list (PyProof.Rows.callWith_type1 ?_ hs2 rfl))
  rw [hs2]
  refine Calls.spliced_cons (zip_eval (Rz := fun t1 t2 a b H1 => ∃ (G1 : Hp) (dx dy : List D) (vs us : List V), Same G1 H1 ∧ SqG X.K G1 t1 a vs dx ∧ RDs X.K G1 dx vs ∧ SqG X.K G1 t2 b us dy ∧ RDs X.K G1 dy us ∧ (st.getD false = true → dx.length = dy.length) ∧
    (zipD dx dy).length ≤ sizeLine ∧ Res X.K G1 H1 (.fr (.lst (zipD dx dy))) Q) hg hm ha I ⟨P, B, G, ρ, F, sr, (Po.bind (rel := EvRs X.K) h).imp fun ws H1 ⟨G1, ρ1, F1, es1, e1, s1, r1, h1⟩ => ?_⟩ (fun t1 t2 a b H1 s1 z TI TO i1 i2 q I1 sep n1 n2 tn fp => ?_) hs hpl)
  · obtain ⟨ev, he, res⟩ := res_of' s1 h1
    unfold lzB at he
    cases qz : zip2 (st.getD false) es1 with
    | none => rw [qz] at he; cases he
    | some ds =>
      rw [qz, Option.bind_some] at he
      split at he
      · rename_i hz
        cases he
        unfold zip2 at qz
        split at qz
        · rename_i a b
          obtain ⟨w, u, rfl, r2, r3⟩ := r1.two
          split at qz
          · rename_i t1 xs t2 ys q1 q2
            split at qz
            · cases qz
            · rename_i hst
              cases qz
              obtain ⟨l1, vs, rfl, g1, k1⟩ := RD.sq (d := a) r2 q1
              obtain ⟨l2, us, rfl, g2, k2⟩ := RD.sq (d := b) r3 q2
              refine ⟨t1, t2, l1, l2, vs, us, rfl, Sqq.of (g1.mono s1.sub), Sqq.of (g2.mono s1.sub), G1, xs, ys, vs, us, s1.sub, g1, k1, g2, k2, fun z => ?_, hz, res⟩
              by_cases hl : xs.length = ys.length
              · exact hl
              · exact absurd ⟨z, hl⟩ hst
          · cases qz
        · cases qz
      · cases he
  · refine Calls.spliced_nil ?_
    obtain ⟨G1, dx, dy, vs, us, hsub, g1, k1, g2, k2, hst, hz, res⟩ := q
    have l1 := k1.length
    have l2 := k2.length
    have lz := zipD_len dx dy
    have fL : H1 s1.heap.objs.size = none := I1.hok.fresh (Nat.le_refl _)
    refine call_listzip (bs := bsq dx dy) (xs := vs) (ys := us) (n := (zipD dx dy).length)
      (Mv := fun i H' ws => ∃ G', Grow G1 H1 G' H' ∧ G' s1.heap.objs.size = none ∧ H' s1.heap.objs.size = some (.lst ws) ∧ ws.length = i ∧ RDs X.K G' ((zipD dx dy).take i) ws)
      (I1.ok.hd hc) sep n1 n2 (by rw [l1, l2]; exact lz) (fun z => by rw [l1, l2]; exact hst z) hz I1 tn fp (fun fl => ?_) (fun i H' ws T x y o m hT nT ho hx hy => ?_) (fun i H' ws m => ?_) (fun s' H' ws' J m => ?_)
    · exact ⟨G1, Grow.newH hsub fl, hsub.free fl, upd_same, rfl, .nil⟩
    · obtain ⟨G', gr, gL, hL, hlen, hr⟩ := m
      obtain ⟨d1, e1, q1⟩ := k1.get' hx
      obtain ⟨d2, e2, q2⟩ := k2.get' hy
      have eb : bsq dx dy i = pairy [d1, d2] := by unfold bsq; rw [e1, e2]
      rw [eb]
      have gT : G' T = none := gr.sub.free hT
      have sm : Same G' (upd G' T (tupO (pairy [d1, d2]) o [x, y])) := same_upd gT
      refine ⟨upd G' T (tupO (pairy [d1, d2]) o [x, y]), ⟨gr.gg.trans sm, fun c u h => ?_, fun c u h => ?_, fun c h0 h1 => ?_⟩, by rw [upd_ne nT.symm]; exact gL, upd_same, by rw [List.length_append, hlen]; rfl, ?_⟩
      · have hc' := gr.hh c u h
        have nc : c ≠ s1.heap.objs.size := fun z => by rw [z, fL] at h; cases h
        have nc2 : c ≠ T := fun z => by rw [z, hT] at hc'; cases hc'
        rw [upd_ne nc, upd_ne nc2]; exact hc'
      · by_cases hcT : c = T
        · subst hcT
          rw [upd_same] at h
          rw [upd_ne nT, upd_same]; exact h
        · rw [upd_ne hcT] at h
          have nc : c ≠ s1.heap.objs.size := fun z => by rw [z, gL] at h; cases h
          rw [upd_ne nc, upd_ne hcT]; exact gr.sub c u h
      · by_cases hcT : c = T
        · subst hcT; exact gr.hh.free hT
        · rw [upd_ne hcT] at h0; exact gr.new c h0 h1
      · have ez : (zipD dx dy)[i]? = some (.tuple [d1, d2]) := by unfold zipD; rw [List.getElem?_zipWith, e1, e2]
        rw [List.take_add_one, ez]
        exact (hr.mono sm).snoc (.tup (.of ho upd_same) (.cons (q1.mono (gr.gg.trans sm)) (.cons (q2.mono (gr.gg.trans sm)) .nil)))
    · obtain ⟨G', gr, gL, hL, hlen, hr⟩ := m
      have s2 : Same G1 H' := hsub.trans gr.hh
      exact ⟨hL, hlen, Sqq.of (g1.mono s2), Sqq.of (g2.mono s2)⟩
    · obtain ⟨G', gr, gL, hL, hlen, hr⟩ := m
      rw [List.take_length] at hr
      exact ⟨.ref s1.heap.objs.size, H', J, rfl, res _ G' H' gr ⟨[s1.heap.objs.size], ⟨_, ws', rfl, rfl, hL, hr⟩, fun c hc => by rw [List.mem_singleton.mp hc]; exact ⟨gL, fL⟩⟩⟩
end
end Mi
/-! text MiDg -/
set_option Elab.async false
set_option linter.all false
set_option maxRecDepth 100000
set_option maxHeartbeats 8000000
/-! MiDg: a def of which nothing is said; computing with dicts. -/
namespace Mi
open PySem PySem.Spec PyProof.Rows L2 TL
theorem cal_bad {P : Program} {w : World} {K : Fg} {mg : Str → Option Value} {base : Heap} {f : Addr} {name qual : Str} {params : Arguments} {body : List Stmt} {scope : Scope} {kws : List (Str × V)} {fd : FuncData} {N ps : List Str}
    (F : FunD K name qual params body scope [] kws f fd) (g : mg name = some (.ref f)) (S : FnScope N ps scope)
    (hbind : ∀ (kV doc pm : Value) (an : Option Addr) (cdv ct : Value) (us : List Value), us.length = ps.length → bindArgs (PySem.W.fnOf name qual params body scope .none kV doc pm an cdv ct) ⟨us, []⟩ = pure (ps.zip us)) :
    Cal P w K mg base name ps.length 1 (fun _ => .bad) := by
  have c := cal_of (P := P) (w := w) (base := base) (k := 0) (N := N) (mb := fun _ => RS.bad) F g S hbind fun cdv A outer st H E hr =>
    ⟨fun pins s σ H D I h => by obtain ⟨_, _, _, _, _, _, h⟩ := h; exact h.elim⟩
  exact c
/-- += on numbers, texts -/
def fIadd : D → D → Option EV := fun a b => match a, b with | .int i, .int j => some (.d (.int (i + j))) | .str x, .str y => if x.length + y.length ≤ sizeLine then some (.d (.str (x ++ y))) else none | _, _ => none
theorem o_iadd' {X : Cx} : Op2 X (inplaceOp .Add) fIadd := o_iadd
section
variable {a b c : Env' → R EV} {ms : Env' → R (List EV)} {Q : EV → Env' → Prop} {E : Ex → Env' → Prop} {ρ : Env'} {e k z : EV} {i : Nat} {d : D} {es : List EV} {q : RS → Prop} {g : Str → List D → Option EV} {x y : Int} {u v : Str}
@[simp] theorem fIadd_i : fIadd (.int x) (.int y) = some (.d (.int (x + y))) := (rfl)
theorem fIadd_s : fIadd (.str u) (.str v) = if u.length + v.length ≤ sizeLine then some (.d (.str (u ++ v))) else none := (rfl)
@[simp] theorem dA_bt {xs : List (List Key × D)} : dA (some (some (.b (.dt xs)))) = some (.dict ((.none, .none) :: xs.map fun p => (.tuple (p.1.map kD), p.2))) := (rfl)
/-! #### get -/
def kGt2 (e : EV) (Q : EV → Env' → Prop) (k : EV) (ρ : Env') : Prop := satO ((dV ρ (fzV e)).bind fun d => (dV ρ k).bind fun k => fGet d k .none) Q ρ
def kGt1 (b : Env' → R EV) (Q : EV → Env' → Prop) (E : Ex → Env' → Prop) (e : EV) (ρ : Env') : Prop := isDct (dV ρ (fzV e)) = true ∧ sat (b ρ) (kGt2 e Q) E
@[simp ↓] theorem s_mGet1 : sat (mGet1 a b ρ) Q E = sat (a ρ) (kGt1 b Q E) E := by
  show sat ((a ρ).bind _) Q E = _
  rw [sat_bind]
  congr 1
  funext e ρ1
  unfold kGt1
  rw [sat_ite, sat_bad, sat_bind]
  have : (fun x ρ2 => sat (R.ofO ((dV ρ2 (fzV e)).bind fun d => (dV ρ2 x).bind fun k => fGet d k .none) ρ2) Q E) = kGt2 e Q := by
    funext x ρ2
    exact sat_ofO
  rw [this]
  by_cases h : isDct (dV ρ1 (fzV e)) = true <;> simp [h]
@[simp] theorem kGt1_ap : kGt1 b Q E e ρ = (isDct (dV ρ (fzV e)) = true ∧ sat (b ρ) (kGt2 e Q) E) := (rfl)
@[simp] theorem kGt2_ap : kGt2 e Q k ρ = satO ((dV ρ (fzV e)).bind fun d => (dV ρ k).bind fun k => fGet d k .none) Q ρ := (rfl)
@[simp] theorem isDct_d {kvs : List (D × D)} : isDct (some (.dict kvs)) = true := (rfl)
def dOf (e : EV) : Option D := match fzV e with | .d z => some z | _ => none
@[simp] theorem dOf_d {z : D} : dOf (.d z) = some z := (rfl)
@[simp] theorem dOf_fr {m : MO} : dOf (.fr m) = some (snapM m) := (rfl)
def kGd3 (e k : EV) (Q : EV → Env' → Prop) (z : EV) (ρ : Env') : Prop := satO ((dV ρ (fzV e)).bind fun d => (dV ρ (fzV k)).bind fun k => (dOf z).bind fun z => fGet d k z) Q ρ
def kGd2 (c : Env' → R EV) (e : EV) (Q : EV → Env' → Prop) (E : Ex → Env' → Prop) (k : EV) (ρ : Env') : Prop := sat (c ρ) (kGd3 e k Q) E
def kGd1 (b c : Env' → R EV) (Q : EV → Env' → Prop) (E : Ex → Env' → Prop) (e : EV) (ρ : Env') : Prop := isDct (dV ρ (fzV e)) = true ∧ sat (b ρ) (kGd2 c e Q E) E
@[simp ↓] theorem s_mGet2 : sat (mGet2 a b c ρ) Q E = sat (a ρ) (kGd1 b c Q E) E := by
  show sat ((a ρ).bind _) Q E = _
  rw [sat_bind]
  congr 1
  funext e ρ1
  unfold kGd1
  rw [sat_ite, sat_bad, sat_bind]
  by_cases h : isDct (dV ρ1 (fzV e)) = true
  · rw [if_pos h]
    simp only [h, true_and]
    congr 1
    funext x ρ2
    rw [sat_bind]
    unfold kGd2
    congr 1
    funext z ρ3
    exact sat_ofO
  · rw [if_neg h]
    simp only [h, false_and]
    exact propext ⟨False.elim, fun z => by cases z.1⟩
@[simp] theorem kGd1_ap : kGd1 b c Q E e ρ = (isDct (dV ρ (fzV e)) = true ∧ sat (b ρ) (kGd2 c e Q E) E) := (rfl)
@[simp] theorem kGd2_ap : kGd2 c e Q E k ρ = sat (c ρ) (kGd3 e k Q) E := (rfl)
@[simp] theorem kGd3_ap : kGd3 e k Q z ρ = satO ((dV ρ (fzV e)).bind fun d => (dV ρ (fzV k)).bind fun k => (dOf z).bind fun z => fGet d k z) Q ρ := (rfl)
/-! #### methods of texts -/
def kMt2 (g : Str → List D → Option EV) (u : Str) (Q : EV → Env' → Prop) (es : List EV) (ρ : Env') : Prop := satO ((dVs ρ es).bind (g u)) Q ρ
def kMt1 (g : Str → List D → Option EV) (ms : Env' → R (List EV)) (Q : EV → Env' → Prop) (E : Ex → Env' → Prop) (e : EV) (ρ : Env') : Prop := match e with
  | .d (.str u) => sat (ms ρ) (kMt2 g u Q) E
  | _ => False
@[simp ↓] theorem s_mMet : sat (mMet g a ms ρ) Q E = sat (a ρ) (kMt1 g ms Q E) E := by
  show sat ((a ρ).bind _) Q E = _
  rw [sat_bind]
  congr 1
  funext e ρ1
  unfold kMt1
  split
  · rw [sat_bind]
    congr 1
    funext es ρ2
    exact sat_ofO
  · first
    | exact sat_bad
    | (rename_i hne
       rw [sat_bad]
       split
       · exact (hne _ rfl).elim
       · rfl)
@[simp] theorem kMt1_s : kMt1 g ms Q E (.d (.str u)) ρ = sat (ms ρ) (kMt2 g u Q) E := (rfl)
@[simp] theorem kMt2_ap : kMt2 g u Q es ρ = satO ((dVs ρ es).bind (g u)) Q ρ := (rfl)
def kM0 (g : Str → List D → Option EV) (Q : EV → Env' → Prop) (e : EV) (ρ : Env') : Prop := match e with
  | .d (.str u) => satO (g u []) Q ρ
  | _ => False
@[simp ↓] theorem s_mMet0 : sat (mMet0 g a ρ) Q E = sat (a ρ) (kM0 g Q) E := by
  show sat ((a ρ).bind _) Q E = _
  rw [sat_bind]
  congr 1
  funext e ρ1
  unfold kM0
  split
  · exact sat_ofO
  · first
    | exact sat_bad
    | (rename_i hne
       rw [sat_bad]
       split
       · exact (hne _ rfl).elim
       · rfl)
@[simp] theorem kM0_s : kM0 g Q (.d (.str u)) ρ = satO (g u []) Q ρ := (rfl)
/-! #### new dicts, update, list(zip) -/
@[simp ↓] theorem s_newK : sat (mNewD false ρ) Q E = Q (.fr (.dk [])) ρ := by show sat (R.ok _ _) Q E = _; rw [sat_ok]; rfl
@[simp ↓] theorem s_newT : sat (mNewD true ρ) Q E = Q (.fr (.dt [])) ρ := by show sat (R.ok _ _) Q E = _; rw [sat_ok]; rfl
def kUp3 (i : Nat) (kvs more : List (Key × D)) (Q : EV → Env' → Prop) (ρ : Env') : Prop := kvs.length + more.length ≤ sizeLine ∧ Q (.d .none) (qA ρ[i]? i (mrgD kvs more) ρ)
def kUp2 (i : Nat) (Q : EV → Env' → Prop) (ρ : Env') : Option (List (Key × D)) → Option (List (Key × D)) → Prop
  | some kvs, some more => kUp3 i kvs more Q ρ
  | _, _ => False
def kUp (i : Nat) (Q : EV → Env' → Prop) (es : List EV) (ρ : Env') : Prop := match es with
  | [.d (.dict ds)] => kUp2 i Q ρ (dkA ρ[i]?) (rwD ds)
  | _ => False
def isK : Option (List (Key × D)) → Prop
  | some _ => True
  | none => False
@[simp] theorem isK_s {xs : List (Key × D)} : isK (some xs) = True := (rfl)
@[simp ↓] theorem s_mUpd : sat (mUpd i ms ρ) Q E = (isK (dkA ρ[i]?) ∧ sat (ms ρ) (kUp i Q) E) := by
  unfold mUpd
  cases dkA ρ[i]? with
  | none => simp [isK]
  | some xs =>
    show sat ((ms ρ).bind (updB i)) Q E = _
    rw [sat_bind, isK_s, true_and]
    congr 1
    funext es ρ1
    unfold updB kUp
    split
    · rename_i ds
      show _ = kUp2 i Q ρ1 (dkA ρ1[i]?) (rwD ds)
      cases dkA ρ1[i]? with
      | none => exact sat_bad
      | some kvs =>
        cases rwD ds with
        | none => exact sat_bad
        | some more =>
          show sat (if kvs.length + more.length ≤ sizeLine then _ else _) Q E = kUp3 i kvs more Q ρ1
          rw [sat_ite, sat_ok, sat_bad]
          unfold kUp3
          by_cases h : kvs.length + more.length ≤ sizeLine <;> simp [h]
    · rename_i hne
      rw [sat_bad]
      split
      · exact (hne _ rfl).elim
      · rfl
@[simp] theorem kUp_ap {ds : List (D × D)} : kUp i Q [.d (.dict ds)] ρ = kUp2 i Q ρ (dkA ρ[i]?) (rwD ds) := (rfl)
@[simp] theorem kUp2_s {kvs more : List (Key × D)} : kUp2 i Q ρ (some kvs) (some more) = (kvs.length + more.length ≤ sizeLine ∧ Q (.d .none) (qA ρ[i]? i (mrgD kvs more) ρ)) := (rfl)
def kLz (st : Bool) (Q : EV → Env' → Prop) (es : List EV) (ρ : Env') : Prop := satO (lzB st es) Q ρ
@[simp ↓] theorem s_mLz {st : Bool} : sat (mLz st ms ρ) Q E = sat (ms ρ) (kLz st Q) E := by
  show sat ((ms ρ).bind _) Q E = _
  rw [sat_bind]
  congr 1
  funext es ρ1
  exact sat_ofO
@[simp] theorem kLz_ap {st : Bool} : kLz st Q es ρ = satO (lzB st es) Q ρ := (rfl)
/-! #### d[k] = v -/
def kPt3 (i : Nat) (y : D) (q : RS → Prop) (ρ : Env') : Option D → Prop
  | some k => ws (putKk i y k ρ) q
  | none => False
def kPt2 (i : Nat) (y : D) (q : RS → Prop) (k : EV) (ρ : Env') : Prop := kPt3 i y q ρ (dV ρ k)
def kPt1 (i : Nat) (b : Env' → R EV) (q : RS → Prop) (e : EV) (ρ : Env') : Prop := match fzV e with
  | .d y => hasD ρ[i]? = true ∧ sat (b ρ) (kPt2 i y q) (excQ q)
  | _ => False
@[simp ↓] theorem w_sPut : ws (sPut i b a ρ) q = sat (a ρ) (kPt1 i b q) (excQ q) := by
  show ws ((a ρ).toS _) q = _
  rw [ws_toS]
  unfold excQ
  congr 1
  funext e ρ1
  unfold kPt1
  cases fzV e with
  | d y =>
    show ws (if _ then _ else _) q = _
    by_cases h : hasD ρ1[i]? = true
    · rw [if_pos h, ws_toS]
      simp only [h, true_and]
      unfold excQ
      congr 1
      funext k ρ2
      unfold kPt2 kPt3
      cases dV ρ2 k with
      | none => exact ws_bad
      | some k => rfl
    · rw [if_neg h, ws_bad]
      exact propext ⟨False.elim, fun z => h z.1⟩
  | _ => exact ws_bad
@[simp] theorem kPt1_d {y : D} : kPt1 i b q (.d y) ρ = (hasD ρ[i]? = true ∧ sat (b ρ) (kPt2 i y q) (excQ q)) := (rfl)
@[simp] theorem kPt1_fr {m : MO} : kPt1 i b q (.fr m) ρ = (hasD ρ[i]? = true ∧ sat (b ρ) (kPt2 i (snapM m) q) (excQ q)) := (rfl)
@[simp] theorem kPt2_ap {y : D} : kPt2 i y q k ρ = kPt3 i y q ρ (dV ρ k) := (rfl)
def kPk (i : Nat) (y : D) (k : Key) (q : RS → Prop) (ρ : Env') : Option (List (Key × D)) → Prop
  | some kvs => kvs.length < sizeLine ∧ q (.nx (qA ρ[i]? i (putD kvs k y) ρ))
  | none => False
def kPtt (i : Nat) (y : D) (q : RS → Prop) (ρ : Env') : Option (List (List Key × D)) → Option (List Key) → Prop
  | some kvs, some k => kvs.length < sizeLine ∧ q (.nx (qtA ρ[i]? i (putD kvs k y) ρ))
  | _, _ => False
@[simp] theorem kPt3_i {y : D} : kPt3 i y q ρ (some (.int x)) = kPk i y (.inl x) q ρ (dkA ρ[i]?) := by
  show ws (putKk i y (.int x) ρ) q = _
  unfold putKk kPk
  cases dkA ρ[i]? with
  | some kvs =>
    show ws (if _ then _ else _) q = _
    by_cases h : kvs.length < sizeLine <;> simp [h]
  | none =>
    show ws (match dtA ρ[i]?, tkOf (.int x) with | some kvs, some kk => _ | _, _ => .bad) q = _
    cases dtA ρ[i]? <;> exact ws_bad
@[simp] theorem kPt3_s {y : D} : kPt3 i y q ρ (some (.str u)) = kPk i y (.inr u) q ρ (dkA ρ[i]?) := by
  show ws (putKk i y (.str u) ρ) q = _
  unfold putKk kPk
  cases dkA ρ[i]? with
  | some kvs =>
    show ws (if _ then _ else _) q = _
    by_cases h : kvs.length < sizeLine <;> simp [h]
  | none =>
    show ws (match dtA ρ[i]?, tkOf (.str u) with | some kvs, some kk => _ | _, _ => .bad) q = _
    cases dtA ρ[i]? <;> exact ws_bad
@[simp] theorem kPt3_t {y : D} {ks : List D} : kPt3 i y q ρ (some (.tuple ks)) = kPtt i y q ρ (dtA ρ[i]?) (atomKs ks) := by
  show ws (putKk i y (.tuple ks) ρ) q = _
  unfold putKk kPtt
  have e : ws (match dtA ρ[i]?, tkOf (.tuple ks) with | some kvs, some kk => if kvs.length < sizeLine then .nx (qtA ρ[i]? i (putD kvs kk y) ρ) else .bad | _, _ => .bad) q = (match dtA ρ[i]?, atomKs ks with
  | some kvs, some k => kvs.length < sizeLine ∧ q (.nx (qtA ρ[i]? i (putD kvs k y) ρ))
  | _, _ => False) := by
    show ws (match dtA ρ[i]?, atomKs ks with | some kvs, some kk => _ | _, _ => .bad) q = _
    cases dtA ρ[i]? with
    | none => exact ws_bad
    | some kvs =>
      cases atomKs ks with
      | none => exact ws_bad
      | some k =>
        show ws (if _ then _ else _) q = (_ ∧ _)
        by_cases h : kvs.length < sizeLine <;> simp [h]
  cases dkA ρ[i]? with
  | some kvs => exact e
  | none => exact e
@[simp] theorem kPk_s {y : D} {k : Key} {kvs : List (Key × D)} : kPk i y k q ρ (some kvs) = (kvs.length < sizeLine ∧ q (.nx (qA ρ[i]? i (putD kvs k y) ρ))) := (rfl)
@[simp] theorem kPtt_s {y : D} {k : List Key} {kvs : List (List Key × D)} : kPtt i y q ρ (some kvs) (some k) = (kvs.length < sizeLine ∧ q (.nx (qtA ρ[i]? i (putD kvs k y) ρ))) := (rfl)
end
end Mi
/-! text MiDh -/
set_option Elab.async false
set_option linter.all false
set_option maxRecDepth 100000
set_option maxHeartbeats 4000000
/-! MiDh: one turn of a while. -/
namespace Mi
open PySem PySem.Spec PyProof.Rows L2 TL
section
variable {b : Env' → RS} {c : Env' → R Bool} {q : RS → Prop} {ρ : Env'}
def kWh (c : Env' → R Bool) (b : Env' → RS) (q : RS → Prop) (t : Bool) (ρ : Env') : Prop := match t with
  | true => ws (b ρ) (loopQ (sWhile c b) q)
  | false => q (.nx ρ)
@[simp] theorem kWh_t : kWh c b q true ρ = ws (b ρ) (loopQ (sWhile c b) q) := (rfl)
@[simp] theorem kWh_f : kWh c b q false ρ = q (.nx ρ) := (rfl)
theorem ws_wh : ws (sWhile c b ρ) q = sat (c ρ) (kWh c b q) (excQ q) := by
  rw [sWhile_eq]
  cases c ρ with
  | bad => rw [sat_bad]; exact ws_bad
  | exc x ρ1 => rw [sat_exc]; exact ws_exc
  | ok t ρ1 =>
    rw [sat_ok]
    cases t with
    | false => exact ws_nx
    | true =>
      show ws ((b ρ1).loop (sWhile c b)) q = _
      rw [ws_loopQ, kWh_t]
end
/-! ### e[::-1] -/
section
variable {a : Env' → R EV} {Q : EV → Env' → Prop} {E : Ex → Env' → Prop} {ρ : Env'} {xs : List D} {e : EV}
def kRv2 (Q : EV → Env' → Prop) (ρ : Env') : Option D → Prop
  | some (.list xs) => Q (.fr (.lst xs.reverse)) ρ
  | _ => False
def kRv (Q : EV → Env' → Prop) (e : EV) (ρ : Env') : Prop := kRv2 Q ρ (dV ρ e)
@[simp ↓] theorem s_mRev : sat (mRev a ρ) Q E = sat (a ρ) (kRv Q) E := by
  show sat ((a ρ).bind _) Q E = _
  rw [sat_bind]
  congr 1
  funext e ρ1
  unfold kRv kRv2
  cases dV ρ1 e with
  | none => exact sat_bad
  | some d => cases d <;> first | exact sat_ok | exact sat_bad
@[simp] theorem kRv_ap : kRv Q e ρ = kRv2 Q ρ (dV ρ e) := (rfl)
@[simp] theorem kRv2_l : kRv2 Q ρ (some (.list xs)) = Q (.fr (.lst xs.reverse)) ρ := (rfl)
end
/-! ### which class -/
section
variable {x : Str} {i : Int} {l : List D} {b : Bool} {kv : List (D × D)}
@[simp] theorem isi_ss : isiD "str" (.str x) = true := by simp [isiD, tyD]
@[simp] theorem isi_si : isiD "str" (.int i) = false := by simp [isiD, tyD]
@[simp] theorem isi_st : isiD "str" (.tuple l) = false := by simp [isiD, tyD]
@[simp] theorem isi_sl : isiD "str" (.list l) = false := by simp [isiD, tyD]
@[simp] theorem isi_sn : isiD "str" .none = false := by simp [isiD, tyD]
@[simp] theorem isi_sb : isiD "str" (.bool b) = false := by simp [isiD, tyD]
@[simp] theorem isi_is : isiD "int" (.str x) = false := by simp [isiD, tyD]
@[simp] theorem isi_ii : isiD "int" (.int i) = true := by simp [isiD, tyD]
@[simp] theorem isi_it : isiD "int" (.tuple l) = false := by simp [isiD, tyD]
@[simp] theorem isi_il : isiD "int" (.list l) = false := by simp [isiD, tyD]
@[simp] theorem isi_in : isiD "int" .none = false := by simp [isiD, tyD]
@[simp] theorem isi_ib : isiD "int" (.bool b) = true := by simp [isiD, tyD]
@[simp] theorem isi_bs : isiD "bool" (.str x) = false := by simp [isiD, tyD]
@[simp] theorem isi_bi : isiD "bool" (.int i) = false := by simp [isiD, tyD]
@[simp] theorem isi_bt : isiD "bool" (.tuple l) = false := by simp [isiD, tyD]
@[simp] theorem isi_bl : isiD "bool" (.list l) = false := by simp [isiD, tyD]
@[simp] theorem isi_bn : isiD "bool" .none = false := by simp [isiD, tyD]
@[simp] theorem isi_bb : isiD "bool" (.bool b) = true := by simp [isiD, tyD]
@[simp] theorem isi_ts : isiD "tuple" (.str x) = false := by simp [isiD, tyD]
@[simp] theorem isi_ti : isiD "tuple" (.int i) = false := by simp [isiD, tyD]
@[simp] theorem isi_tt : isiD "tuple" (.tuple l) = true := by simp [isiD, tyD]
@[simp] theorem isi_tl : isiD "tuple" (.list l) = false := by simp [isiD, tyD]
@[simp] theorem isi_tn : isiD "tuple" .none = false := by simp [isiD, tyD]
@[simp] theorem isi_tb : isiD "tuple" (.bool b) = false := by simp [isiD, tyD]
@[simp] theorem isi_lt : isiD "list" (.tuple l) = false := by simp [isiD, tyD]
@[simp] theorem isi_ll : isiD "list" (.list l) = true := by simp [isiD, tyD]
@[simp] theorem isi_ls : isiD "list" (.str x) = false := by simp [isiD, tyD]
@[simp] theorem isi_li : isiD "list" (.int i) = false := by simp [isiD, tyD]
end
theorem ne_snoc {R : List D} {y : D} : (R ++ [y]).isEmpty = false := by simp
end Mi
/-! text MiDi -/
set_option Elab.async false
set_option linter.all false
set_option maxRecDepth 100000
set_option maxHeartbeats 8000000
/-! MiDi: for i, x in enumerate(xs), xs a list or a tuple. -/
namespace Mi
open PySem PySem.Spec PyProof.Rows L2 TL
def Itn (K : Fg) (t : Bool) (a : Addr) : It :=
  ⟨fun i H => ∃ (xs : List V) (x : V), Sqq K t H a xs ∧ xs[i]? = some x,
    fun i H v H' => ∃ (T : Addr) (x : V), v = .ref T ∧ H T = none ∧ H' = upd H T (.tup [.int (i : Nat), x]) ∧ ∀ xs, Sqq K t H a xs → xs[i]? = some x,
    fun i H => ∃ xs : List V, Sqq K t H a xs ∧ i = xs.length⟩
theorem turn_en {P : Program} {w : World} {K : Fg} {elts : List Expr} {kk : Nat} {tpos : Pos} {t : Bool} {a e it : Addr} (n1 : a ≠ it) (ei : e ≠ it) :
    Turn P w K (.Tuple elts kk tpos) (Itn K t a) [e, it] e (fun i h => (∃ old, IsEnum h e it ((i : Nat) : Int) old) ∧ ItAt t h it a i) where
  mem := by simp
  obj := fun i h ⟨⟨old, he⟩, h1⟩ c hc => by
    have e' : c = e ∨ c = it := by simpa using hc
    rcases e' with q | q <;> subst q
    · exact ⟨_, he, fun v q => nomatch q⟩
    · exact h1.obj
  keep := fun i h h' ⟨⟨old, he⟩, h1⟩ k => ⟨⟨old, k e (by simp) _ he⟩, h1.at fun o q => k it (by simp) o q⟩
  item := by
    intro X hP hw hK hc i pins s σ H E I hf stt hg
    subst hP hw hK
    obtain ⟨⟨old, he⟩, h1⟩ := stt
    obtain ⟨xs, x, hqx, hx⟩ := hg
    obtain ⟨its, rv, p⟩ := hqx.at I
    obtain ⟨u, hu, ru⟩ := rv.get hx
    have hel : e < s.heap.objs.size := Heap.lt_size he
    have hil : it < s.heap.objs.size := by obtain ⟨o, q, _⟩ := h1.obj; exact Heap.lt_size q
    have hd := I.ok.hd hc
    have k1 : its.toArray[i]? = some u := by simpa using hu
    refine en_next he ?_
    refine (drawsQ (prog := X.prog) (w := X.w) (A := X.A.in1) t hd it a n1 its.toArray).item i s _ _ (Array.getElem?_eq_some_iff.mp k1).1 ⟨h1, p⟩ fun v1 m1 tk g1 h1' sb1 => ?_
    rw [k1] at g1; cases g1
    have hk : ∀ c o, c ≠ it → s.heap.get? c = some o → m1.get? c = some o := fun c o ne q => (sb1.2 c ne).trans q
    have hm1 : m1.objs.size = s.heap.objs.size := sb1.1
    refine ⟨hk _ _ ei he, fun m2 eo hT2 hsz2 hk2 => ⟨_, rfl, wpAny_letOwnedTupleGo_enum (s := { s with heap := m2, toks := tk + 1 }) eo fun m3 e3 sb => ?_⟩⟩
    have I1 : Inv X pins σ H { s with heap := m1, toks := tk } := I.turnedL (t' := tk) (ch := [it]) (fun c o hb q => hk c o (fun q' => hb (by simp [q'])) q) fun c hc => hf c (List.mem_cons_of_mem _ hc)
    have fT2 : H m1.objs.size = none := I1.hok.fresh (Nat.le_refl _)
    have hne2 : m1.objs.size ≠ e := by rw [hm1]; exact Nat.ne_of_gt hel
    have hT3 : m3.get? m1.objs.size = some { cls := .type "tuple", data := .seq #[.int (i : Nat) tk, u] } := (sb.2 _ hne2).trans hT2
    have new2 : ObjOk X.prog X.w (upd H m1.objs.size (.tup [.int (i : Nat), x])) m3 m1.objs.size (.tup [.int (i : Nat), x]) :=
      ⟨by show 2 ≤ sizeLine; decide, [.int (i : Nat) tk, u], .cons ⟨_, rfl⟩ (.cons ru .nil), ⟨_, hT3, rfl, _, rfl⟩⟩
    have fe : FpOk X pins H e := hf e (by simp)
    have I2 : Inv X pins σ (upd H m1.objs.size (.tup [.int (i : Nat), x])) { s with heap := m3, toks := tk + 1 } :=
      I1.turnedNew (t' := tk + 1) (ch := [e]) (fun c o hb q => (sb.2 c (fun q' => hb (by simp [q']))).trans (hk2 c o (fun q' => hb (by simp [q'])) q)) (fun c hc => by rw [List.mem_singleton.mp hc]; exact fe) (Nat.le_refl _) new2
    have up : ∀ c o, c ≠ e → m1.get? c = some o → m3.get? c = some o := fun c o ne q => (sb.2 c ne).trans (hk2 c o ne q)
    refine ⟨.ref m1.objs.size, _, I2, rfl, ⟨_, x, rfl, fT2, rfl, fun l hl => by rw [hl.inj I hqx]; exact hx⟩, ⟨⟨u, ?_⟩, ?_⟩, fun c hcm => ?_⟩
    · have q : ((i + 1 : Nat) : Int) = (i : Int) + 1 := by omega
      rw [q]; exact e3
    · exact h1'.1.at fun o q => up _ _ ei.symm q
    · have e' : c = e ∨ c = it := by simpa using hcm
      have hlt : c < s.heap.objs.size := by
        rcases e' with q | q <;> subst q
        · exact hel
        · exact hil
      rw [upd_ne (by rw [hm1]; exact Nat.ne_of_lt hlt)]
      exact (hf c hcm).1
  done := by
    intro X hP hw hK hc i pins s σ H E I hf stt hg
    subst hP hw hK
    obtain ⟨⟨old, he⟩, h1⟩ := stt
    obtain ⟨xs, hqx, hend⟩ := hg
    obtain ⟨its, rv, p⟩ := hqx.at I
    have l1 := rv.length
    have hd := I.ok.hd hc
    have hi : i = its.toArray.size := by simp; omega
    refine en_next he ?_
    subst hi
    refine (drawsQ (prog := X.prog) (w := X.w) (A := X.A.in1) t hd it a n1 its.toArray).done s _ _ ⟨h1, p⟩ fun h' er hk he2 => ?_
    obtain ⟨o, ho, hco⟩ := he2
    refine ⟨er, o, rfl, ho, hco, rfl, ?_⟩
    exact I.turnedL (t' := s.toks) (ch := [it]) (fun c o hb q => hk c o (fun q' => hb (by simp [q'])) q) fun c hc => hf c (List.mem_cons_of_mem _ hc)
  self := fun A i s Q E stt h => by
    obtain ⟨⟨old, he⟩, _⟩ := stt
    exact wpAny_pyIter_enum he h
section
variable {K : Fg} {P G H : Hp} {σ : L2.St} {F : Nat → List Addr}
theorem itr_en {t : Bool} {a : Addr} {xs : List D} {vs : List V} (h : SqG K G t a vs xs) (r : RDs K G xs vs) : ItR K P G H σ F (enumD xs) (Itn K t a) := fun G1 H1 e1 e2 => by
  have q : Sqq K t H1 a vs := Sqq.of (h.mono (e1.trans e2))
  have l := r.length
  have le := enumD_len xs
  refine ⟨fun i hi => ?_, ⟨vs, q, by omega⟩, fun i x H' hi ⟨T, x1, ex, hT, eH, g⟩ => ?_⟩
  · have hi1 : i < vs.length := by omega
    exact ⟨vs, vs[i], q, List.getElem?_eq_getElem hi1⟩
  · subst ex eH
    obtain ⟨d, k1, k2⟩ := r.get' (g vs q)
    refine ⟨upd G1 T (.tup [.int (i : Nat), x1]), .tuple [.int i, d], enumD_get k1, Grow.newG e2 hT, ?_⟩
    have sm : Same G1 (upd G1 T (.tup [.int (i : Nat), x1])) := same_upd (e2.free hT)
    exact .tup (.pl rfl upd_same) (.cons (.int _) (.cons (k2.mono (e1.trans sm)) .nil))
end
/-- the items of enumerate(x) -/
def enE (es : List EV) : Option (List D) := match es with
  | [.d a] => (sqD a).map fun x => enumD x.2
  | _ => none
section
variable {X : Cx} {W : WX} {e : Expr} {ms : Env' → R (List EV)} {p pos tpos : Pos} {elts : List Expr} {kk : Nat}
theorem pi_en {ta : TA} (hg : Gl X "enumerate") (hm : X.mg "enumerate" = none) (ha : PA X [e] ta) (hs : starEach [e] X.env = [(false, eval e X.env)] := by rfl) :
    PI X (.Tuple elts kk tpos) (.Call (.Name "enumerate" p) [e] [] pos) (fun σ H R => ta σ H fun vs H1 => ∃ t a xs, vs = [.ref a] ∧ Sqq X.K t H1 a xs ∧ R (Itn X.K t a) H1) := by
  refine ⟨fun pins s σ H R I h => ?_⟩
  refine Call_ (ld_blt I hg hm boot_enumerate (PyProof.Rows.callWith_type1 (thn (ha.run pos pins s σ H _ I h) fun us s1 ⟨vs, H1, I1, r1, t, a, xs, ev, hq, q⟩ => ?_) hs rfl))
  subst ev
  obtain ⟨u, rfl, ru⟩ := r1.one
  cases ru
  obtain ⟨its, rv, pl⟩ := hq.at I1
  refine enq_begin (beginsQ t a its.toArray) pl fun h' he ho hk => wpAny_pyIter_enum (s := { s1 with heap := h' }) he ?_
  have I2 : Inv X pins σ H1 { s1 with heap := h' } := I1.kept (t' := s1.toks) hk
  have la : a < s1.heap.objs.size := by
    cases t with
    | true => obtain ⟨o, q, _⟩ := pl; exact Heap.lt_size q
    | false => obtain ⟨o, q, _⟩ := pl; exact Heap.lt_size q
  refine ⟨s1.heap.objs.size + 1, [s1.heap.objs.size + 1, s1.heap.objs.size], _, _, H1, rfl, I2, turn_en (Nat.ne_of_lt la) (Nat.succ_ne_self _), ⟨⟨.none, he⟩, objQ_it t ho⟩, fun c hc => ?_, q⟩
  have e' : c = s1.heap.objs.size + 1 ∨ c = s1.heap.objs.size := by simpa using hc
  have hle : s1.heap.objs.size ≤ c := by rcases e' with z | z <;> rw [z] <;> omega
  exact I1.fpOk hle (I1.hok.fresh hle)
theorem ai_en (hg : Gl X "enumerate") (hm : X.mg "enumerate" = none) (ha : AA X W ms [e]) (hs : starEach [e] X.env = [(false, eval e X.env)] := by rfl) :
    AI X W (iCall enE ms) (.Tuple elts kk tpos) (.Call (.Name "enumerate" p) [e] [] pos) := by
  refine (pi_en hg hm ha hs).imp fun σ H Q ⟨P, B, G, ρ, F, s, h⟩ => ⟨P, B, G, ρ, F, s, (Po.bind (rel := EvRs X.K) h).imp fun ws H1 ⟨G1, ρ1, F1, e1, _, s1, r1, h1⟩ => ?_⟩
  have h2 : Po (ItR X.K) X.K W P B G1 σ (R.ofO (enE e1) ρ1) Q := h1
  unfold enE at h2
  split at h2
  · rename_i a
    obtain ⟨w, rfl, r2⟩ := one_item r1
    cases q1 : sqD a with
    | none => rw [q1] at h2; exact h2.elim
    | some tx =>
      obtain ⟨t, xs⟩ := tx
      rw [q1] at h2
      obtain ⟨l1, vs, rfl, g1, k1⟩ := RD.sq (d := a) r2 q1
      exact ⟨t, l1, vs, rfl, Sqq.of (g1.mono s1.sub), h2 G1 H1 F1 _ (Same.refl _) s1 (itr_en g1 k1)⟩
  · exact h2.elim
end
end Mi
/-! text MiDj -/
set_option Elab.async false
set_option linter.all false
set_option maxRecDepth 100000
set_option maxHeartbeats 4000000
/-! MiDj: the module's constants that are tuples of texts; a head that looks at more. -/
namespace Mi
open PySem PySem.Spec PyProof.Rows L2

/-! ### a head with one more look -/
abbrev AlX : Type := Bool × He.AlD
def obsXG (n : Nat) (fa : List He.Fa) (fn : List He.DefD) (ex : Fg → Bool) (g : Addr → Option Obj) : AlX := (ex (He.frG g (He.asD g n)), He.obsDG n fa fn g)
def hookX (n : Nat) (fa : List He.Fa) (fn : List He.DefD) (ex : Fg → Bool) : PySem.W.Hook where
  α := AlX
  obs := fun s => obsXG n fa fn ex s.heap.get?
  val := fun _ => (true, He.valD fn)
  says := fun _ h => ∃ K : Fg, K.In h ∧ He.SaysD fa fn K ∧ ex K = true
  of := fun _ _ e => ⟨_, He.frG_in, congrArg (fun z : AlX => z.2) e, congrArg (fun z : AlX => z.1) e⟩
  keeps := fun _ _ _ ⟨K, hK, c⟩ k => ⟨K, PySem.W.Frag.In.keeps hK k, c⟩
theorem obsXG_eq {n : Nat} {fa : List He.Fa} {fn : List He.DefD} {ex : Fg → Bool} {g : Addr → Option Obj} {s : Shared} (h : ∀ a, g a = s.heap.get? a) : obsXG n fa fn ex g = (hookX n fa fn ex).obs s := by
  have e : g = s.heap.get? := funext h
  rw [e] <;> rfl
/-- what the walk takes from such a head -/
structure WdX (fa : List He.Fa) (fn : List He.DefD) (ex : Fg → Bool) (K : Fg) (mg : Str → Option Value) : Prop extends Wd fa fn K mg where
  ex : ex K = true
theorem WdX.of {fa : List He.Fa} {fn : List He.DefD} {ex : Fg → Bool} {K : Fg} {h : Heap} {mg : Str → Option Value} (kin : K.In h) (g : h.Ns mainGlobals mg) (c : He.SaysD fa fn K) (e : ex K = true) : WdX fa fn ex K mg := ⟨Wd.of kin g c, e⟩
/-! ### a constant -/
theorem tup_kk {K : Fg} {x : Str} {ys : List Str} (h : He.tupB K x (ys.map He.Dv.str) = true) (h0 : ys ≠ []) (G : Hp) : RD K G (.tuple (ys.map .str)) (.ref (He.ga K x)) := by
  have q := He.tupB_ok h fun _ => none
  have e : (ys.map He.Dv.str).map (He.Dv.v K) = ys.map V.str := by rw [List.map_map]; rfl
  rw [e] at q
  rcases q with (q | ⟨o, q⟩) | ⟨o, its, n, h1, h2, h3, h4, h5⟩
  · cases q
  · cases q
  · refine .tup (vs := ys.map V.str) (.kk ?_ h1 h2 h3 h4 h5) ?_
    · cases ys with
      | nil => exact absurd rfl h0
      | cons y r => rfl
    · clear h h0 e h5
      induction ys with
      | nil => exact .nil
      | cons y r ih => exact .cons (.str y) ih
section
variable {X : Cx} {W : WX} {pos : Pos} {x : Str} {ys : List Str}
theorem ae_gtup (h : He.tupB X.K x (ys.map He.Dv.str) = true) (hm : X.mg x = some (.ref (He.ga X.K x))) (hg : Gl X x) (h0 : ys ≠ []) (hd : (x == ("__debug__" : Str)) = false := by decide) : AE X W (cst (.tuple (ys.map .str))) (.Name x pos) :=
  ae_glob (v := .ref (He.ga X.K x)) hg hm rfl (fun G => tup_kk h h0 G) hd
end
end Mi
/-! text MiDk -/
set_option Elab.async false
set_option linter.all false
set_option maxRecDepth 100000
set_option maxHeartbeats 4000000
/-! MiDk: x.pop(i) of a slot's own list. -/
namespace Mi
open PySem PySem.Spec PyProof.Rows L2
/-- the item that goes, the list behind -/
def popD (xs : List D) (k : Int) : Option (D × List D) :=
  if -(2 ^ 63) ≤ k ∧ k < 2 ^ 63 then (seqIndex? k xs.length).bind fun j => (xs[j]?).map fun y => (y, xs.eraseIdx j) else none
def popA (i : Nat) (k : Int) (ρ1 : Env') : Option (D × List D) → R EV
  | some p => .ok (.d p.1) (lstPut i p.2 ρ1)
  | none => .bad
def popB (i : Nat) : List EV → Env' → R EV
  | [.d (.int k)], ρ1 => match lstAt i ρ1 with
    | some xs => popA i k ρ1 (popD xs k)
    | none => .bad
  | _, _ => .bad
/-- x.pop(..) -/
def mPopAt (i : Nat) (ms : Env' → R (List EV)) : Env' → R EV := fun ρ => match lstAt i ρ with
  | some _ => (ms ρ).bind (popB i)
  | none => .bad
theorem RDs.erase {K : Fg} {G : Hp} : ∀ {ds : List D} {vs : List V} (i : Nat), RDs K G ds vs → RDs K G (ds.eraseIdx i) (vs.eraseIdx i)
  | _, _, _, .nil => .nil
  | _, _, 0, .cons _ r => r
  | _, _, i + 1, .cons h r => .cons h (RDs.erase i r)
section
variable {X : Cx} {W : WX} {e : Expr} {es : List Expr} {ms : Env' → R (List EV)} {pos p apos cpos : Pos} {x : Str}
theorem ae_popAt (i : Nat) (ha : AA X W ms (e :: es)) (hN : X.N[i]? = some x := by rfl) (hv : Vis X.env.scope x := by first | exact Or.inl rfl | exact Or.inr (Or.inl rfl) | exact Or.inr (Or.inr rfl)) (hd : (x == ("__debug__" : Str)) = false := by decide)
    (hcd : (x == ("__classdict__" : Str)) = false := by decide) (hbase : attributeBase (.Name x p) "pop" X.env (eval (.Name x p) X.env) = eval (.Name x p) X.env := by rfl)
    (hfew : ((backTo cpos (starEach (e :: es) X.env)).all (fun x => !x.1) && (backToKw cpos (keywordEach [] X.env)).all (fun x => x.1.isSome)
      && decide ((e :: es).length + ([] : List Keyword).length + (if ([] : List Keyword).isEmpty then 0 else 1) < 30)) = true := by rfl)
    (hline : (apos.endLine == cpos.line) = true := by rfl) (hs : starEach (e :: es) X.env = (false, eval e X.env) :: starEach es X.env := by rfl) (hplain : (backTo cpos (starEach es X.env)).any (·.1) = false := by rfl) :
    AE X W (mPopAt i ms) (.Call (.Attribute (.Name x p) "pop" apos) (e :: es) [] cpos) := by
  refine (pe_bm (X := X) (r := rPopAt) PySem.F.plainAttrs_list PySem.F.slot_list_pop PySem.F.type_list_pop mt_popAt (pe_vr i hN hv hd hcd) ha hbase hfew hline hs hplain).imp fun σ H Q h => ?_
  obtain ⟨P, B, G, ρ, F, s, h⟩ := h
  unfold mPopAt at h
  cases q : lstAt i ρ with
  | none => simp only [q] at h; exact h.elim
  | some xs0 =>
    simp only [q] at h
    obtain ⟨_, v, _, _, hv0, a, vs0, rfl, _, ha0, _⟩ := s.lst q
    refine ⟨.ref a, hv0, .inl ⟨rfl, vs0, SqL.of ha0⟩, P, B, G, ρ, F, s, (Po.bind (rel := EvRs X.K) h).imp fun ws H1 ⟨G1, ρ1, F1, es, e1, s1, r1, h1⟩ => ?_⟩
    unfold popB at h1
    split at h1
    · rename_i k
      cases q1 : lstAt i ρ1 with
      | none => simp only [q1] at h1; exact h1.elim
      | some xs =>
        simp only [q1] at h1
        cases q2 : popD xs k with
        | none => rw [q2] at h1; exact h1.elim
        | some pp =>
          rw [q2] at h1
          unfold popD at q2
          split at q2
          · rename_i hk
            cases q3 : seqIndex? k xs.length with
            | none => rw [q3] at q2; cases q2
            | some j =>
              rw [q3, Option.bind_some] at q2
              cases q4 : xs[j]? with
              | none => rw [q4] at q2; cases q2
              | some y =>
                rw [q4, Option.map_some] at q2
                cases q2
                obtain ⟨w, rfl, hw⟩ := one_item r1
                cases hw
                obtain ⟨_, v1, _, _, hv1, a1, vs, ev, eF, hl1, hr1⟩ := s1.lst q1
                rw [hv0] at hv1
                cases hv1
                cases ev
                obtain ⟨u, hu1, hu2⟩ := hr1.get q4
                refine ⟨a, vs, k, j, u, rfl, rfl, hl1, hk.1, hk.2, by rw [hr1.length]; exact q3, hu1, ?_⟩
                have n : OR X.K G1 (upd H1 a (.lst (vs.eraseIdx j))) (.lst (xs.eraseIdx j)) (.ref a) (F1 i) := ⟨a, vs.eraseIdx j, rfl, eF, upd_same, hr1.erase j⟩
                exact h1 G1 _ F1 u (Same.refl _) (s1.lstPut q1 hv0 n fun c hc => upd_ne fun z => hc (by rw [eF, z]; exact List.mem_singleton.mpr rfl)) hu2
          · cases q2
    · exact h1.elim
end
section
variable {ρ : Env'} {i : Nat} {ms : Env' → R (List EV)} {Q : EV → Env' → Prop} {E : Ex → Env' → Prop} {es : List EV}
def kPa (i : Nat) (k : Int) (Q : EV → Env' → Prop) (ρ : Env') : Option (List D) → Prop
  | some xs => sat (popA i k ρ (popD xs k)) Q noE
  | none => False
def kPA (i : Nat) (Q : EV → Env' → Prop) (es : List EV) (ρ : Env') : Prop := match es with
  | [.d (.int k)] => kPa i k Q ρ (lA ρ[i]?)
  | _ => False
theorem sat_popA {k : Int} {o : Option (D × List D)} {E' : Ex → Env' → Prop} : sat (popA i k ρ o) Q E = sat (popA i k ρ o) Q E' := by
  cases o with
  | none => rw [show popA i k ρ none = .bad from rfl, sat_bad, sat_bad]
  | some p => rw [show popA i k ρ (some p) = .ok (.d p.1) (lstPut i p.2 ρ) from rfl, sat_ok, sat_ok]
@[simp ↓] theorem s_mPopAt : sat (mPopAt i ms ρ) Q E = (isL (lA ρ[i]?) ∧ sat (ms ρ) (kPA i Q) E) := by
  unfold mPopAt
  rw [lstAt_ap]
  cases lA ρ[i]? with
  | none =>
    rw [sat_bad]
    unfold isL
    simp
  | some xs =>
    show sat ((ms ρ).bind (popB i)) Q E = _
    rw [sat_bind, isL_s, true_and]
    congr 1
    funext es ρ1
    unfold popB kPA
    split
    · rename_i k
      rw [lstAt_ap]
      unfold kPa
      cases lA ρ1[i]? with
      | none => exact sat_bad
      | some xs => exact sat_popA
    · rename_i hne
      rw [sat_bad]
      split
      · exact (hne _ rfl).elim
      · rfl
@[simp] theorem kPA_ap {k : Int} : kPA i Q [.d (.int k)] ρ = kPa i k Q ρ (lA ρ[i]?) := (rfl)
theorem kPa_at {xs : List D} {j : Nat} {y : D} (h : xs[j]? = some y) (hl : xs.length ≤ 1000000) : kPa i (j : Nat) Q ρ (some xs) = Q (.d y) (pA ρ[i]? i (xs.eraseIdx j) ρ) := by
  have hj := (List.getElem?_eq_some_iff.mp h).1
  have e : popD xs (j : Nat) = some (y, xs.eraseIdx j) := by
    unfold popD
    rw [if_pos (by omega)]
    have e2 : seqIndex? (j : Nat) xs.length = some j := by
      unfold seqIndex?
      simp
      omega
    rw [e2, Option.bind_some, h]; rfl
  show sat (popA i (j : Nat) ρ (popD xs (j : Nat))) Q noE = _
  rw [e]
  show sat (R.ok (.d y) (lstPut i (xs.eraseIdx j) ρ)) Q noE = _
  rw [sat_ok, lstPut_ap]
end
end Mi
/-! text MiDl -/
set_option Elab.async false
set_option linter.all false
set_option maxRecDepth 100000
set_option maxHeartbeats 8000000
/-! MiDl: what a zip has, collected: *zip(a, b) in a display, tuple(zip(a, b)). -/
namespace Mi
open PySem PySem.Spec PyProof.Rows L2 TL
section
variable {X : Cx} {pins : List (Addr × Obj)} {σ : L2.St} {A : Around} {z TI TO i1 i2 a b : Addr} {t1 t2 st : Bool} {xs ys : List V} {bs : Nat → Bool} {Mv : Nat → Hp → List V → Prop} {n : Nat}
/-- collected, z a zip that has just begun -/
theorem collect_zip {E : Value → Shared → Prop} {Q : List Value → Shared → Prop} {H : Hp} {s : Shared} (hh : A.handled = none) (S : ZipSep2 z TI TO i1 i2 [i1, a] [i2, b]) (n1 : a ≠ i1) (n2 : b ≠ i2)
    (hn : n = min xs.length ys.length) (hst : st = true → xs.length = ys.length) (hsz : n ≤ sizeLine)
    (I : Inv X pins σ H s) (tn : tnQ t1 t2 a b z TI TO i1 i2 st 0 s.heap) (hf : ∀ c ∈ [z, TI, TO, i1, i2], FpOk X pins H c)
    (mv : H s.heap.objs.size = none → Mv 0 (upd H s.heap.objs.size (.lst [])) [])
    (step : ∀ i H ws T x y o, Mv i H ws → H T = none → T ≠ s.heap.objs.size → o.dict = none → xs[i]? = some x → ys[i]? = some y → Mv (i + 1) (upd (upd H T (tupO (bs i) o [x, y])) s.heap.objs.size (.lst (ws ++ [.ref T]))) (ws ++ [.ref T]))
    (at_ : ∀ i H ws, Mv i H ws → H s.heap.objs.size = some (.lst ws) ∧ ws.length = i ∧ Sqq X.K t1 H a xs ∧ Sqq X.K t2 H b ys)
    (hR : ∀ s' H' ws' us, Inv X pins σ H' s' → Mv n H' ws' → Vals ws' us → Q us s') : wpAny (model X.prog X.w) A (collect (.ref z)) Q E s := by
  obtain ⟨hz, hTI, ⟨x0, y0, hTO⟩, h1, h2⟩ := tn
  have fL : H s.heap.objs.size = none := I.hok.fresh (Nat.le_refl _)
  have hcl : ∀ c ∈ [z, TI, TO, i1, i2], c < s.heap.objs.size := fun c hcm => by
    obtain ⟨o1, q1, _⟩ := h1.obj
    obtain ⟨o2, q2, _⟩ := h2.obj
    have e' : c = z ∨ c = TI ∨ c = TO ∨ c = i1 ∨ c = i2 := by simpa using hcm
    rcases e' with q | q | q | q | q <;> subst q
    · exact Heap.lt_size hz
    · exact Heap.lt_size hTI
    · exact Heap.lt_size hTO
    · exact Heap.lt_size q1
    · exact Heap.lt_size q2
  have hL : ∀ c ∈ [z, TI, TO, i1, i2], s.heap.objs.size ≠ c := fun c hc => Nat.ne_of_gt (hcl c hc)
  unfold collect
  refine wpAny_bind (wpAny_runValue (codeAny_builtin F.entry_proto_collect ?_))
  rw [Around.under_plainId F.plain_proto_collect _]
  show wpAny _ A.in1 (newList [] >>= fun l => again (.builtin "list.__iadd__" ⟨[l, .ref z], []⟩)) _ _ s
  refine wpAny_bind (wpAny_newObj_type ?_)
  refine wpAny_pure ⟨plainId_quiet F.plain_list_iadd _, codeAny_builtin F.entry_list_iadd ?_⟩
  rw [Around.under_plainId F.plain_list_iadd _]
  have hS : (s.heap.push { cls := .type "list", data := .seq ([] : List Value).toArray }).get? s.heap.objs.size = some { cls := .type "list", data := .seq ([] : List Value).toArray } := Heap.get?_push_size _ rfl
  have up1 : ∀ c o, s.heap.get? c = some o → (s.heap.push { cls := .type "list", data := .seq ([] : List Value).toArray }).get? c = some o := fun c o e => Heap.get?_push_of_some _ e
  have I3 : Inv X pins σ (upd H s.heap.objs.size (.lst [])) { s with heap := s.heap.push { cls := .type "list", data := .seq ([] : List Value).toArray } } :=
    I.laid (t' := s.toks) (o := .lst []) (fun b o e => Heap.get?_push_of_some _ e) (Nat.le_refl _) ⟨Nat.zero_le _, [], 0, .nil, hS⟩
  obtain ⟨hp, g, d, tk, os⟩ := s
  have hf0 : ∀ c ∈ [z, TI, TO, i1, i2], FpOk X pins (upd H hp.objs.size (.lst [])) c := fun c hc => ⟨by rw [upd_ne (hL c hc).symm]; exact (hf c hc).1, (hf c hc).2⟩
  have e1 : Builtin.List.listSameRef (.ref hp.objs.size) (.ref z) = false := by simp [Builtin.List.listSameRef, hL z (by simp)]
  have e2 : (Value.type "zip" == Value.type "list") = false := by decide
  have e3 : (Value.type "zip" == Value.type "tuple") = false := by decide
  have hz1 := up1 _ _ hz
  have ty : ∀ (g : Array GenState) (d : Drawn) (tk : Nat) (os : OsState), (⟨hp.push { cls := .type "list", data := .seq ([] : List Value).toArray }, g, d, tk, os⟩ : Shared).TypeIs (.ref z) "zip" := fun _ _ _ _ => ⟨_, hz1, rfl⟩
  show wpAny _ A.in1 (Builtin.List.listExtendWith (.ref hp.objs.size) (.ref z) (.ref hp.objs.size)) _ _ _
  unfold Builtin.List.listExtendWith
  refine wpAny_bind (wpAny_typeOf (ty _ _ _ _) ?_)
  simp only [e1, e2, e3, Bool.or_false, Bool.false_eq_true, if_false]
  refine wpAny_bind (zs_iter hz1 ?_)
  refine wpAny_bind (wpAny_holding ?_)
  unfold Builtin.List.listLengthHint
  refine wpAny_bind (wpAny_specialOf (ty _ _ _ _) ZF.no_len ?_)
  show wpAny _ _ (specialOf (Value.ref z) (Str.ofString "__length_hint__") >>= _) _ _ _
  refine wpAny_bind (wpAny_specialOf (ty _ _ _ _) ZF.no_hint ?_)
  refine wpAny_pure ?_
  show wpAny _ _ (rule "list.extend.makes-room" >>= fun _ => Builtin.List.listTouch (.ref hp.objs.size) >>= fun _ =>
    again (.builtin "list.extend.loop" ⟨[.ref hp.objs.size, .ref z, .ref hp.objs.size], []⟩)) _ _ _
  refine wpAny_bind (wpAny_rule ?_)
  refine wpAny_bind ?_
  show wpAny _ _ (updateSeq hp.objs.size (·.push .none) >>= fun _ => updateSeq hp.objs.size (·.pop)) _ _ _
  refine wpAny_bind (wpAny_updateSeq hS rfl ?_)
  have hS₃ := Heap.get?_update_self (Obj.mapSeq (·.push Value.none)) hS rfl
  refine wpAny_updateSeq (hz := by seq_fits) hS₃ rfl ?_
  have hS₄ := Heap.get?_update_self (Obj.mapSeq (·.pop)) hS₃ rfl
  have up2 : ∀ c o, hp.objs.size ≠ c → hp.get? c = some o → (((hp.push { cls := .type "list", data := .seq ([] : List Value).toArray }).update hp.objs.size (Obj.mapSeq (·.push Value.none))).update hp.objs.size (Obj.mapSeq (·.pop))).get? c = some o :=
    fun c o ne e => (Heap.get?_update_other _ _ ne).trans ((Heap.get?_update_other _ _ ne).trans (up1 c o e))
  have I4 : Inv X pins σ (upd H hp.objs.size (.lst [])) ⟨((hp.push { cls := .type "list", data := .seq ([] : List Value).toArray }).update hp.objs.size (Obj.mapSeq (·.push Value.none))).update hp.objs.size (Obj.mapSeq (·.pop)), g, d, tk, os⟩ := by
    have q := I3.write (t' := tk) (h' := ((hp.push { cls := .type "list", data := .seq ([] : List Value).toArray }).update hp.objs.size (Obj.mapSeq (·.push Value.none))).update hp.objs.size (Obj.mapSeq (·.pop))) (x := hp.objs.size) (e := hp.objs.size) (o := .lst [])
      (by rw [upd_same]; exact trivial) (.inl rfl) (fun b' u hb hu => (Heap.get?_update_other _ _ (Ne.symm hb)).trans ((Heap.get?_update_other _ _ (Ne.symm hb)).trans hu)) ⟨_, hS₄⟩ ⟨Nat.zero_le _, [], _, .nil, hS₄⟩
    have e : upd (upd H hp.objs.size (.lst [])) hp.objs.size (.lst []) = upd H hp.objs.size (.lst []) := by
      funext c
      by_cases hc : c = hp.objs.size
      · rw [hc, upd_same, upd_same]
      · rw [upd_ne hc]
    rw [e] at q
    exact q
  refine wpAny_pure ⟨plainId_quiet F.plain_extend_loop _, zl_loop (A := A) hh S n1 n2 hL (.ref hp.objs.size) hn hst hsz step at_ n 0 _ _ [] rfl (Nat.zero_le _) I4 (mv fL) ⟨_, _, .inl rfl, up2 _ _ (hL z (by simp)) hz⟩ (up2 _ _ (hL TI (by simp)) hTI) ⟨x0, y0, up2 _ _ (hL TO (by simp)) hTO⟩
    (h1.at fun o q => up2 _ _ (hL i1 (by simp)) q) (h2.at fun o q => up2 _ _ (hL i2 (by simp)) q) hf0 fun s' H' ws' J m => ?_⟩
  obtain ⟨hLw, _, _, _⟩ := at_ n H' ws' m
  obtain ⟨z', its, cn, r, hl, e⟩ := J.lstM hLw
  show wpAny _ A (load hp.objs.size >>= _) _ _ s'
  refine wpAny_bind (wpAny_load e ?_)
  exact wpAny_pure (hR s' H' ws' _ J m (by simpa using r))
end
end Mi
namespace Mi
open PySem PySem.Spec PyProof.Rows L2 TL
/-- *zip(a, b), .. -/
def aStarZ (st : Bool) (ms : Env' → R (List EV)) (m2 : Env' → R (List EV)) : Env' → R (List EV) := fun ρ => (ms ρ).bind fun es1 ρ1 => match zip2 st es1 with
  | some ds => if ds.length ≤ sizeLine then (m2 ρ1).bind fun es2 ρ2 => .ok (ds.map .d ++ es2) ρ2 else .bad
  | none => .bad
section
variable {X : Cx} {W : WX} {e e2 : Expr} {es : List Expr} {ms m2 : Env' → R (List EV)} {p pos pos2 p2 kp cp sp : Pos} {j : Nat}
theorem aa_starZ {st : Option Bool} (hg : Gl X "zip") (hm : X.mg "zip" = none) (hc : X.calm = true) (ha : AA X W ms [e, e2]) (h2 : AA X W m2 es)
    (hs : starEach [e, e2] X.env = (false, eval e X.env) :: starEach [e2] X.env := by rfl) (hpl : (backTo pos (starEach [e, e2] X.env)).any (·.1) = false := by rfl)
    (hss : starEach (.Starred (.Call (.Name "zip" p) [e, e2] (keysOf st kp j cp) pos) sp :: es) X.env = (true, eval (.Call (.Name "zip" p) [e, e2] (keysOf st kp j cp) pos) X.env) :: starEach es X.env := by rfl) :
    AA X W (aStarZ (st.getD false) ms m2) (.Starred (.Call (.Name "zip" p) [e, e2] (keysOf st kp j cp) pos) sp :: es) := by
  refine ⟨fun posn pins s σ H Q I h => ?_⟩
  obtain ⟨P, B, G, ρ, F, sr, h⟩ := h
  refine PySem.W.items_star (zip_eval (Rz := fun t1 t2 a b H1 => ∃ (G1 : Hp) (ρ1 : Env') (F1 : Nat → List Addr) (dx dy : List D) (vs us : List V), SRF X.K P B G1 ρ1 σ H1 F1 ∧ SqG X.K G1 t1 a vs dx ∧ RDs X.K G1 dx vs ∧ SqG X.K G1 t2 b us dy ∧ RDs X.K G1 dy us ∧ (st.getD false = true → dx.length = dy.length) ∧
    (zipD dx dy).length ≤ sizeLine ∧ Po (EvRs X.K) X.K W P B G1 σ ((m2 ρ1).bind fun es2 ρ2 => .ok ((zipD dx dy).map .d ++ es2) ρ2) Q) hg hm ha I ⟨P, B, G, ρ, F, sr, (Po.bind (rel := EvRs X.K) h).imp fun ws H1 ⟨G1, ρ1, F1, es1, e1, s1, r1, h1⟩ => ?_⟩ (fun t1 t2 a b H1 s1 z TI TO i1 i2 q I1 sep n1 n2 tn fp => ?_) hs hpl) hss
  · cases qz : zip2 (st.getD false) es1 with
    | none => rw [qz] at h1; exact h1.elim
    | some ds =>
      rw [qz] at h1
      simp only at h1
      split at h1
      · rename_i hz
        unfold zip2 at qz
        split at qz
        · rename_i a b
          obtain ⟨w, u, rfl, r2, r3⟩ := r1.two
          split at qz
          · rename_i t1 xs t2 ys q1 q2
            split at qz
            · cases qz
            · rename_i hst
              cases qz
              obtain ⟨l1, vs, rfl, g1, k1⟩ := RD.sq (d := a) r2 q1
              obtain ⟨l2, us, rfl, g2, k2⟩ := RD.sq (d := b) r3 q2
              refine ⟨t1, t2, l1, l2, vs, us, rfl, Sqq.of (g1.mono s1.sub), Sqq.of (g2.mono s1.sub), G1, ρ1, F1, xs, ys, vs, us, s1, g1, k1, g2, k2, fun z => ?_, hz, h1⟩
              by_cases hl : xs.length = ys.length
              · exact hl
              · exact absurd ⟨z, hl⟩ hst
          · cases qz
        · cases qz
      · exact h1.elim
  · obtain ⟨G1, ρ1, F1, dx, dy, vs, us, sr1, g1, k1, g2, k2, hst, hz, hpo⟩ := q
    have hsub := sr1.sub
    have l1 := k1.length
    have l2 := k2.length
    have lz := zipD_len dx dy
    have fL : H1 s1.heap.objs.size = none := I1.hok.fresh (Nat.le_refl _)
    have hzt : s1.TypeIs (.ref z) "zip" := ⟨_, tn.1, rfl⟩
    unfold PySem.W.StarOf notIterableAtAll
    refine wpAny_bind (wpAny_specialOf hzt PySem.F.slot_zip_iter.lookup (wpAny_pure ⟨rfl, ?_⟩))
    refine collect_zip (bs := bsq dx dy) (xs := vs) (ys := us) (n := (zipD dx dy).length)
      (Mv := fun i H' ws => ∃ G', Grow G1 H1 G' H' ∧ G' s1.heap.objs.size = none ∧ H' s1.heap.objs.size = some (.lst ws) ∧ ws.length = i ∧ RDs X.K G' ((zipD dx dy).take i) ws)
      (I1.ok.hd hc) sep n1 n2 (by rw [l1, l2]; exact lz) (fun z => by rw [l1, l2]; exact hst z) hz I1 tn fp (fun fl => ?_) (fun i H' ws T x y o m hT nT ho hx hy => ?_) (fun i H' ws m => ?_) (fun s' H' ws' us' J m rv => ?_)
    · exact ⟨G1, Grow.newH hsub fl, hsub.free fl, upd_same, rfl, .nil⟩
    · obtain ⟨G', gr, gL, hL, hlen, hr⟩ := m
      obtain ⟨d1, e1, q1⟩ := k1.get' hx
      obtain ⟨d2, e2, q2⟩ := k2.get' hy
      have eb : bsq dx dy i = pairy [d1, d2] := by unfold bsq; rw [e1, e2]
      rw [eb]
      have gT : G' T = none := gr.sub.free hT
      have sm : Same G' (upd G' T (tupO (pairy [d1, d2]) o [x, y])) := same_upd gT
      refine ⟨upd G' T (tupO (pairy [d1, d2]) o [x, y]), ⟨gr.gg.trans sm, fun c u h => ?_, fun c u h => ?_, fun c h0 h1 => ?_⟩, by rw [upd_ne nT.symm]; exact gL, upd_same, by rw [List.length_append, hlen]; rfl, ?_⟩
      · have hc' := gr.hh c u h
        have nc : c ≠ s1.heap.objs.size := fun z => by rw [z, fL] at h; cases h
        have nc2 : c ≠ T := fun z => by rw [z, hT] at hc'; cases hc'
        rw [upd_ne nc, upd_ne nc2]; exact hc'
      · by_cases hcT : c = T
        · subst hcT
          rw [upd_same] at h
          rw [upd_ne nT, upd_same]; exact h
        · rw [upd_ne hcT] at h
          have nc : c ≠ s1.heap.objs.size := fun z => by rw [z, gL] at h; cases h
          rw [upd_ne nc, upd_ne hcT]; exact gr.sub c u h
      · by_cases hcT : c = T
        · subst hcT; exact gr.hh.free hT
        · rw [upd_ne hcT] at h0; exact gr.new c h0 h1
      · have ez : (zipD dx dy)[i]? = some (.tuple [d1, d2]) := by unfold zipD; rw [List.getElem?_zipWith, e1, e2]
        rw [List.take_add_one, ez]
        exact (hr.mono sm).snoc (.tup (.of ho upd_same) (.cons (q1.mono (gr.gg.trans sm)) (.cons (q2.mono (gr.gg.trans sm)) .nil)))
    · obtain ⟨G', gr, gL, hL, hlen, hr⟩ := m
      have s2 : Same G1 H' := hsub.trans gr.hh
      exact ⟨hL, hlen, Sqq.of (g1.mono s2), Sqq.of (g2.mono s2)⟩
    · obtain ⟨G', gr, gL, hL, hlen, hr⟩ := m
      rw [List.take_length] at hr
      have sr2 := sr1.grow gr
      have h3 : tA X.K W m2 σ H' fun vs2 H2 => Q (ws' ++ vs2) H2 := ⟨P, B, G', ρ1, F1, sr2, (Po.bind (rel := EvRs X.K) (hpo.mono gr.gg)).imp fun vs2 H2 ⟨G2, ρ2, F2, es2, e2', s3, r3, h4⟩ => by
        have h4 : ∀ G' H' F' w, Same G2 G' → SRF X.K P B G' ρ2 σ H' F' → EvRs X.K P G' H' σ F' ((zipD dx dy).map .d ++ es2) w → Q w H' := h4
        exact h4 G2 H2 F2 _ (Same.refl _) s3 ((EvRs.ofDs (hr.mono e2')).append r3)⟩
      exact thn (h2.run posn pins s' σ H' _ J h3) fun ws2 s4 ⟨vs2, H3, I3, r3, q3⟩ => ⟨ws' ++ vs2, H3, I3, rv.append r3, q3⟩
end
end Mi
/-! text MiDm -/
set_option Elab.async false
set_option linter.all false
set_option maxRecDepth 100000
set_option maxHeartbeats 8000000
/-! MiDm: tuple(zip(a, b)). -/
namespace PySem
open Sem (wp)
section
variable {prog : Program} {w : World} {A : Around} {E : Value → Shared → Prop} {s : Shared} {z : Addr} {A₀ : Around}
theorem code_tuple_new_zip {Q₁ : Value → Shared → Prop} (hTI : s.TypeIs (.ref z) "zip") (hA : A₀.handled = A.handled)
    (hcol : ∀ (A' : Around) (Q : List Value → Shared → Prop) (E' : Value → Shared → Prop), A'.handled = A₀.handled → (∀ s' us, us.length ≤ sizeLine → Q₁ (.ref s'.heap.objs.size) { s' with heap := s'.heap.push { cls := .type "tuple", data := .seq us.toArray } } → Q us s') → wpAny (model prog w) A' (collect (.ref z)) Q E' s) :
    codeAny (model prog w) A (.call (.builtin "tuple.__new__") ⟨[.type "tuple", .ref z], []⟩) (wants Q₁ E) s := by
  refine codeAny_of_tree ?_
  show wpAny _ A.in1 (do checkBuiltinCall "tuple.__new__" ⟨[.type "tuple", .ref z], []⟩; again (.builtin "tuple.__new__" ⟨[.type "tuple", .ref z], []⟩)) _ _ s
  refine wpAny_bind (wpAny_of_eq (F.newCall_tuple_1 _) (wpAny_pure ⟨plainId_quiet F.plain_tuple_new _, codeAny_builtin F.entry_tuple_new ?_⟩))
  rw [Around.under_plainId F.plain_tuple_new _]
  have hsub := sub_tuple_self
  have hinit := init_tuple_lookup
  have hmh := madeHere_tuple
  have hcol2 := fun Q E' => hcol A.in1 Q E' (by rw [hA])
  wp_walk using wpAny_typeOf hTI, hcol2 _ _
  intro s' us hz hq
  show wpAny _ _ (Builtin.Tuple.tupleExact us.toArray >>= fun v => ret v) _ _ _
  unfold Builtin.Tuple.tupleExact
  refine wpAny_bind (wpAny_newObj_type ?_ (by show us.toArray.size ≤ sizeLine; rw [List.size_toArray]; exact hz))
  exact wpAny_pure hq
theorem call_tuple_zip {Q : Value → Shared → Prop} (hTI : s.TypeIs (.ref z) "zip")
    (hcol : ∀ (A' : Around) (Q' : List Value → Shared → Prop) (E' : Value → Shared → Prop), A'.handled = A.handled → (∀ s' us, us.length ≤ sizeLine → Q (.ref s'.heap.objs.size) { s' with heap := s'.heap.push { cls := .type "tuple", data := .seq us.toArray } } → Q' us s') → wpAny (model prog w) A' (collect (.ref z)) Q' E' s) :
    wpAny (model prog w) A (call (.type "tuple") [.ref z]) Q E s := by
  refine callType_codes (Q₁ := fun obj s₁ => s₁.TypeIs obj "tuple" ∧ Q obj s₁) F.called_tuple (F.typeCall_tuple_1 _) F.entry_object_init
    (code_tuple_new_zip (A₀ := A) hTI rfl fun A' Q' E' hA' hk => hcol A' Q' E' hA' fun s' us hz hq => hk s' us hz ⟨⟨_, Heap.get?_push_size _ rfl, rfl⟩, hq⟩) fun obj s₁ h₁ => ?_
  exact ⟨h₁.1, F.args_object_init_2 obj _, object_init_meets F.called_tuple.init.lookup F.called_tuple.made (by decide) prog w A.in1 _ s₁ ⟨h₁.1, rfl, h₁.2⟩⟩
end
end PySem
namespace Mi
open PySem PySem.Spec PyProof.Rows L2 TL
def tzB (st : Bool) (es : List EV) : Option EV := (zip2 st es).bind fun ds => if ds.length ≤ sizeLine then some (.d (.tuple ds)) else none
/-- tuple(zip(a, b)) -/
def mTz (st : Bool) (ms : Env' → R (List EV)) : Env' → R EV := fun ρ => (ms ρ).bind fun es ρ1 => R.ofO (tzB st es) ρ1
section
variable {X : Cx} {W : WX} {e e2 : Expr} {es : List Expr} {ms : Env' → R (List EV)} {p pos pos2 p2 kp cp : Pos} {j : Nat}
theorem ae_tz {st : Option Bool} (hg : Gl X "zip") (hm : X.mg "zip" = none) (hg2 : Gl X "tuple") (hm2 : X.mg "tuple" = none) (hc : X.calm = true) (ha : AA X W ms [e, e2])
    (hs : starEach [e, e2] X.env = (false, eval e X.env) :: starEach [e2] X.env := by rfl) (hpl : (backTo pos (starEach [e, e2] X.env)).any (·.1) = false := by rfl)
    (hs2 : starEach [.Call (.Name "zip" p) [e, e2] (keysOf st kp j cp) pos] X.env = [(false, eval (.Call (.Name "zip" p) [e, e2] (keysOf st kp j cp) pos) X.env)] := by rfl) :
    AE X W (mTz (st.getD false) ms) (.Call (.Name "tuple" p2) [.Call (.Name "zip" p) [e, e2] (keysOf st kp j cp) pos] [] pos2) := by
  refine ⟨fun pins s σ H Q I h => ?_⟩
  obtain ⟨P, B, G, ρ, F, sr, h⟩ := h
  refine Call_ (ld_blt I hg2 hm2 PyProof.Rows.boot_tuple (PyProof.Rows.callWith_type1 ?_ hs2 rfl))
  rw [hs2]
  refine Calls.spliced_cons (zip_eval (Rz := fun t1 t2 a b H1 => ∃ (G1 : Hp) (dx dy : List D) (vs us : List V), Same G1 H1 ∧ SqG X.K G1 t1 a vs dx ∧ RDs X.K G1 dx vs ∧ SqG X.K G1 t2 b us dy ∧ RDs X.K G1 dy us ∧ (st.getD false = true → dx.length = dy.length) ∧
    (zipD dx dy).length ≤ sizeLine ∧ Res X.K G1 H1 (.d (.tuple (zipD dx dy))) Q) hg hm ha I ⟨P, B, G, ρ, F, sr, (Po.bind (rel := EvRs X.K) h).imp fun ws H1 ⟨G1, ρ1, F1, es1, e1, s1, r1, h1⟩ => ?_⟩ (fun t1 t2 a b H1 s1 z TI TO i1 i2 q I1 sep n1 n2 tn fp => ?_) hs hpl)
  · obtain ⟨ev, he, res⟩ := res_of' s1 h1
    unfold tzB at he
    cases qz : zip2 (st.getD false) es1 with
    | none => rw [qz] at he; cases he
    | some ds =>
      rw [qz, Option.bind_some] at he
      split at he
      · rename_i hz
        cases he
        unfold zip2 at qz
        split at qz
        · rename_i a b
          obtain ⟨w, u, rfl, r2, r3⟩ := r1.two
          split at qz
          · rename_i t1 xs t2 ys q1 q2
            split at qz
            · cases qz
            · rename_i hst
              cases qz
              obtain ⟨l1, vs, rfl, g1, k1⟩ := RD.sq (d := a) r2 q1
              obtain ⟨l2, us, rfl, g2, k2⟩ := RD.sq (d := b) r3 q2
              refine ⟨t1, t2, l1, l2, vs, us, rfl, Sqq.of (g1.mono s1.sub), Sqq.of (g2.mono s1.sub), G1, xs, ys, vs, us, s1.sub, g1, k1, g2, k2, fun z => ?_, hz, res⟩
              by_cases hl : xs.length = ys.length
              · exact hl
              · exact absurd ⟨z, hl⟩ hst
          · cases qz
        · cases qz
      · cases he
  · refine Calls.spliced_nil ?_
    obtain ⟨G1, dx, dy, vs, us, hsub, g1, k1, g2, k2, hst, hz, res⟩ := q
    have l1 := k1.length
    have l2 := k2.length
    have lz := zipD_len dx dy
    have fL : H1 s1.heap.objs.size = none := I1.hok.fresh (Nat.le_refl _)
    have hzt : s1.TypeIs (.ref z) "zip" := ⟨_, tn.1, rfl⟩
    refine call_tuple_zip hzt fun A' Q' E' hA' hk => ?_
    refine collect_zip (bs := bsq dx dy) (xs := vs) (ys := us) (n := (zipD dx dy).length)
      (Mv := fun i H' ws => ∃ G', Grow G1 H1 G' H' ∧ G' s1.heap.objs.size = none ∧ H' s1.heap.objs.size = some (.lst ws) ∧ ws.length = i ∧ RDs X.K G' ((zipD dx dy).take i) ws)
      (by rw [hA']; exact I1.ok.hd hc) sep n1 n2 (by rw [l1, l2]; exact lz) (fun z => by rw [l1, l2]; exact hst z) hz I1 tn fp (fun fl => ?_) (fun i H' ws T x y o m hT nT ho hx hy => ?_) (fun i H' ws m => ?_) (fun s' H' ws' us' J m rv => ?_)
    · exact ⟨G1, Grow.newH hsub fl, hsub.free fl, upd_same, rfl, .nil⟩
    · obtain ⟨G', gr, gL, hL, hlen, hr⟩ := m
      obtain ⟨d1, e1, q1⟩ := k1.get' hx
      obtain ⟨d2, e2, q2⟩ := k2.get' hy
      have eb : bsq dx dy i = pairy [d1, d2] := by unfold bsq; rw [e1, e2]
      rw [eb]
      have gT : G' T = none := gr.sub.free hT
      have sm : Same G' (upd G' T (tupO (pairy [d1, d2]) o [x, y])) := same_upd gT
      refine ⟨upd G' T (tupO (pairy [d1, d2]) o [x, y]), ⟨gr.gg.trans sm, fun c u h => ?_, fun c u h => ?_, fun c h0 h1 => ?_⟩, by rw [upd_ne nT.symm]; exact gL, upd_same, by rw [List.length_append, hlen]; rfl, ?_⟩
      · have hc' := gr.hh c u h
        have nc : c ≠ s1.heap.objs.size := fun z => by rw [z, fL] at h; cases h
        have nc2 : c ≠ T := fun z => by rw [z, hT] at hc'; cases hc'
        rw [upd_ne nc, upd_ne nc2]; exact hc'
      · by_cases hcT : c = T
        · subst hcT
          rw [upd_same] at h
          rw [upd_ne nT, upd_same]; exact h
        · rw [upd_ne hcT] at h
          have nc : c ≠ s1.heap.objs.size := fun z => by rw [z, gL] at h; cases h
          rw [upd_ne nc, upd_ne hcT]; exact gr.sub c u h
      · by_cases hcT : c = T
        · subst hcT; exact gr.hh.free hT
        · rw [upd_ne hcT] at h0; exact gr.new c h0 h1
      · have ez : (zipD dx dy)[i]? = some (.tuple [d1, d2]) := by unfold zipD; rw [List.getElem?_zipWith, e1, e2]
        rw [List.take_add_one, ez]
        exact (hr.mono sm).snoc (.tup (.of ho upd_same) (.cons (q1.mono (gr.gg.trans sm)) (.cons (q2.mono (gr.gg.trans sm)) .nil)))
    · obtain ⟨G', gr, gL, hL, hlen, hr⟩ := m
      have s2 : Same G1 H' := hsub.trans gr.hh
      exact ⟨hL, hlen, Sqq.of (g1.mono s2), Sqq.of (g2.mono s2)⟩
    · obtain ⟨G', gr, gL, hL, hlen, hr⟩ := m
      rw [List.take_length] at hr
      have hul : us'.length = (zipD dx dy).length := by rw [← Paired.length rv, hlen]
      have hp : H' s'.heap.objs.size = none := J.hok.fresh (Nat.le_refl _)
      have ho : (s'.heap.push { cls := .type "tuple", data := .seq us'.toArray }).get? s'.heap.objs.size = some { cls := .type "tuple", data := .seq us'.toArray } := Heap.get?_push_size _ rfl
      have new : ObjOk X.prog X.w (upd H' s'.heap.objs.size (tupO (pairy (zipD dx dy)) { cls := .type "tuple", data := .seq us'.toArray } ws')) (s'.heap.push { cls := .type "tuple", data := .seq us'.toArray }) s'.heap.objs.size (tupO (pairy (zipD dx dy)) { cls := .type "tuple", data := .seq us'.toArray } ws') :=
        ok_tupO ho ⟨by rw [hlen]; exact hz, us', rv, ⟨_, ho, rfl, _, rfl⟩⟩
      refine hk s' us' (by rw [hul]; exact hz) ⟨.ref s'.heap.objs.size, _, J.laid (t' := s'.toks) (fun b u e => Heap.get?_push_of_some _ e) (Nat.le_refl _) new, rfl, ?_⟩
      have res2 : Res X.K G' H' (.d (.tuple (zipD dx dy))) Q := fun w G2 H2 gg nn => res w G2 H2 (gr.trans gg) nn
      exact res2.newT gr.sub hp rfl hr
end
end Mi
/-! text MiXa -/
set_option Elab.async false
set_option linter.all false
set_option maxRecDepth 100000
set_option maxHeartbeats 4000000
/-! MiXa: an own exception's __init__ that says super().__init__(..). -/
namespace Mi
open PySem PySem.Spec PyProof.Rows L2

/-! ### the bound __init__ called -/
section
open PySem.W
variable {prog : Program} {w : World} {A : Around} {E : Value → Shared → Prop} {h : Heap} {g : Array GenState} {d : Drawn} {t : Nat} {os : OsState}
variable {nm q : Str} {C N : Addr} {bs bm : List Value} {hdct : Bool} {sn : List Str} {sub : List Value} {ab : Bool} {col : Option Bool} {dd : Option Addr} {k0 k1 k2 k3 k5 : Option Value} {B newId initId : String} {bmB : List Value}
theorem call_mw (FB : ExcBaseFacts B newId initId bmB) {u e t0 : Addr} {rest : List Value} {Q : Value → Shared → Prop}
    (hC : h.get? C = some (excClassObj nm q C N bs bm hdct sn sub ab col dd k0 k1 k2 k3 k5 newId)) (he : h.get? e = some (HandSPX.excO C t0)) (hu : h.get? u = some (kxs_mw initId e)) (hrest : rest.length ≤ sizeLine)
    (hq : ∀ h' t1, (∀ b o, b ≠ e → h.get? b = some o → h'.get? b = some o) → h'.get? e = some (HandSPX.excO C t1) → Q .none ⟨h', g, d, t, os⟩) :
    wpAny (model prog w) A (call (.ref u) rest) Q E ⟨h, g, d, t, os⟩ := by
  refine wpAny_call (codeAny_of_tree ?_)
  show wpAny _ A.in1 (callAny (.ref u) ⟨rest, []⟩) _ _ _
  simp only [callAny]
  refine wpAny_bind (wpAny_load hu ?_)
  simp only [kxs_mw, show (Value.type "method-wrapper" == Value.type "method" || Value.type "method-wrapper" == Value.type "builtin_function_or_method" || Value.type "method-wrapper" == Value.type "method-wrapper") = true by decide, if_true]
  refine KFB.if_so (by decide) ?_
  refine wpAny_bind (check_bound_init FB.toExcCallFacts hC he rfl ?_)
  refine wpAny_bind (wpAny_pure (wpAny_pure ?_))
  refine ⟨plainId_quiet FB.init.plain _, codeAny_builtin FB.initEntry ?_⟩
  rw [Around.under_plainId FB.init.plain _]
  wp_walk
  refine hq _ h.objs.size (fun b o hb ho => ?_) ?_
  · rw [Heap.get?_update_other _ _ (Ne.symm hb)]
    exact Heap.get?_push_of_some _ ho
  · rw [Heap.get?_update_self _ (Heap.get?_push_of_some _ he) rfl]
    rfl
end
end Mi
/-! text MiXb -/
set_option Elab.async false
set_option linter.all false
set_option maxRecDepth 100000
set_option maxHeartbeats 4000000
/-! MiXb: the statement super().__init__(..) and the def around it. -/
namespace Mi
open PySem PySem.Spec PyProof.Rows L2

/-- a class with its own __init__, by its text -/
structure IniD where
  cls : Str
  qual : Str
  params : Arguments
  body : List Stmt
  scope : Scope
/-- what the class at C, its __init__ at f and the cell at cc are -/
structure IniC (P : Program) (K : Fg) (d : IniD) (C f cc : Addr) : Prop where
  oex : OexC K C
  fn : ∃ oc od osl kV doc pm an ct cda ccl cdd ccs vs file tf, K.lookup f = some ⟨oc, od, .func (PySem.W.ksFn "__init__" d.qual d.params d.body d.scope .none kV doc pm an (.ref cda) ct cc), osl⟩ ∧ PySem.W.codeIn K (.ref cda) d.qual = true ∧
    K.lookup cda = some ⟨ccl, cdd, .fields vs, ccs⟩ ∧ vs[2]? = some (.str file tf) ∧ ((P.main.file : Str) == file) = true
  cell : ∃ cl cld csl, K.lookup cc = some ⟨cl, cld, .cell (some (.ref C)), csl⟩
  sup : PySem.W.ks_superIn K C C "__init__" = some (some (.builtin "ValueError.__init__"))
  sub : PySem.W.mroIn K C (.ref C) = some true
  subB : PySem.W.subIn K (.ref C) (.type "ValueError") = some true
  opq : PySem.W.nsIn K cStatics "thirdparty.any" = some none
  top : (P.main.scope.names.lookup ("super" : Str)).isSome = false

section
variable {X : Cx} {d : IniD} {C f cc cda a : Addr} {e : Expr} {es : List Expr} {ta : TA} {p0 p1 p2 p3 pos : Pos} {pins : List (Addr × Obj)} {σ : L2.St} {H : Hp} {s : Shared} {D : Ends}
/-- super() -/
theorem wp_super {Q : Value → Shared → Prop} {E : Value → Shared → Prop} {whole : Sem Value} {ar : Arg} (c : IniC X.prog X.K d C f cc) (lk : ∃ oc od osl dV kV doc pm an ct, X.K.lookup f = some ⟨oc, od, .func (PySem.W.ksFn "__init__" d.qual d.params d.body d.scope dV kV doc pm an (.ref cda) ct cc), osl⟩)
    (lc : ∃ ccl cdd ccs vs file tf, X.K.lookup cda = some ⟨ccl, cdd, .fields vs, ccs⟩ ∧ vs[2]? = some (.str file tf) ∧ ((X.prog.main.file : Str) == file) = true)
    (he : X.env = PySem.W.ksEnv d.qual d.scope X.env.locals f (.ref cda) cc) (hm : X.mg "super" = none) (hb : bootBuiltins "super" = some (.type "super"))
    (hp : (d.params.posonlyargs ++ d.params.args).head? = some ar) (hks : d.scope.names.lookup ("super" : Str) = some .globalImplicit) (hkc : d.scope.names.lookup ("__class__" : Str) = some .free) (hka : d.scope.names.lookup ar.arg = some .local)
    (I : Inv X pins σ H s) (hN : X.N[0]? = some ar.arg) (h0 : σ[0]? = some (some (.ref a))) (ha : H a = some (exo a C none))
    (q : ∀ h', h'.get? s.heap.objs.size = some (PySem.W.ks_superObj C a C) → (∀ y o, s.heap.get? y = some o → h'.get? y = some o) → Q (.ref s.heap.objs.size) { s with heap := h' }) :
    _root_.PySem.wpAt (model X.prog X.w) X.A (.func d.body X.env) (attributeBase (.Call (.Name "super" p0) [] [] p1) "__init__" X.env whole) Q E s := by
  have hkind := I.ok.kind
  obtain ⟨oc, od, osl, dV, kV, doc, pm, an, ct, lk⟩ := lk
  obtain ⟨ccl, cdd, ccs, vs, file, tf, lc, hvs, hfile⟩ := lc
  obtain ⟨cl, cld, csl, lcell⟩ := c.cell
  obtain ⟨nm, q0, N, bs, bm, sn, sub, ab, col, dd, k0, k1, k2, k3, k5, hC, hbm⟩ := c.oex.cls
  have KX := I.kIn
  obtain ⟨t1, hobj⟩ := exo_at I.hok ha
  have hsc : X.env.scope = d.scope := by rw [he]
  have hself : ∃ m, s.heap.Ns X.env.locals m ∧ m ar.arg = some (.ref a) := by
    obtain ⟨m, hn, hl⟩ := I.loc
    obtain ⟨u, ru, lu⟩ := hl 0 ar.arg (.ref a) hN h0 (.inl (by rw [hsc]; exact hka))
    have eu : u = Value.ref a := ru
    subst eu
    have hk : X.env.kindOf ar.arg = some .local := by show X.env.scope.names.lookup _ = _; rw [hsc]; exact hka
    rcases lu with ⟨_, z⟩ | ⟨z, _⟩
    · exact ⟨m, hn, z⟩
    · rw [hk] at z
      rcases z with z | z <;> cases z
  obtain ⟨m, hn, hms⟩ := hself
  have hmro := c.sub
  obtain ⟨mb, hb1, hb2⟩ := I.mod.blt
  have ks : X.env.kindOf "super" = some .globalImplicit := by show X.env.scope.names.lookup _ = _; rw [hsc]; exact hks
  have kc : X.env.kindOf "__class__" = some .free := by show X.env.scope.names.lookup _ = _; rw [hsc]; exact hkc
  have ka : X.env.kindOf ar.arg = some .local := by show X.env.scope.names.lookup _ = _; rw [hsc]; exact hka
  have hcells : X.env.cells.lookup ("__class__" : Str) = some cc := by rw [he]; rfl
  refine PySem.ks_wpAt_super_base (f := f) (cc := cda) ks kc rfl (by rw [he]) (KX _ _ lk) rfl hp (by rw [he]) (KX _ _ lc) rfl hvs hfile c.top ?_
  refine PySem.W.ks_loadName_global hkind ks (Calls.loadGlobal_builtin (by rw [I.ok.glob]; exact I.mod.glob.keeps I.bk) hm (by rw [I.ok.blt]; exact hb1.keeps I.bk) ((hb2 _ (by decide)).trans hb) ⟨rfl, ?_⟩)
  refine wpAny_loadName_free hkind kc hcells ⟨_, KX _ _ lcell, rfl⟩ ?_
  refine wpAny_loadName_local hkind ka hn hms ?_
  obtain ⟨hh, g, dr, tk, os⟩ := s
  refine ks_wpAny_isType_cls (KX _ _ hC) rfl ⟨rfl, ?_⟩
  exact ks_wpAny_call_super (KX _ _ hC) rfl hobj rfl (fun c e => by cases e) (PySem.W.looks_mroIn KX hmro) fun h' e k => q h' e k
end
end Mi
/-! text MiXc -/
set_option Elab.async false
set_option linter.all false
set_option maxRecDepth 100000
set_option maxHeartbeats 4000000
/-! MiXc: an own exception's __init__ as a def that keeps a promise. -/
namespace Mi
open PySem PySem.Spec PyProof.Rows L2

/-- its context -/
def cxI (P : Program) (w : World) (K : Fg) (mg : Str → Option Value) (base : Heap) (N : List Str) (d : IniD) (f cda cc : Addr) (A : Around) (outer : List Env) (s : Shared) (H : Hp) (E : XK) : Cx where
  prog := P
  w := w
  K := K
  mg := mg
  base := base
  A := A.deeper (PySem.W.ksEnv d.qual d.scope s.heap.objs.size f (.ref cda) cc)
  N := N
  s_0 := s
  H_0 := H
  env := PySem.W.ksEnv d.qual d.scope s.heap.objs.size f (.ref cda) cc
  outer := outer
  stack := PySem.W.ksEnv d.qual d.scope s.heap.objs.size f (.ref cda) cc :: outer
  ex := []
  calm := true
  fn := fun _ => false
  pn := []
  xe := fun e s' => wpAny (model P w) (A.deeper (PySem.W.ksEnv d.qual d.scope s.heap.objs.size f (.ref cda) cc)) (leaving (PySem.W.ksEnv d.qual d.scope s.heap.objs.size f (.ref cda) cc) e) (fun _ s'' => CX P w outer H s E e s'') (fun e' s'' => CX P w outer H s E e' s'') s'

/-- the def's text: its names -/
structure IniS (d : IniD) (N ps : List Str) (sf : Str) : Prop where
  kind : d.scope.kind = .function
  co : d.scope.isCoroutine = false
  gen : d.scope.isGenerator = false
  nd : N.Nodup
  pre : N.take ps.length = ps
  par : ∀ x ∈ ps, d.scope.names.lookup x = some .local
  free : ∀ y, d.scope.names.lookup y = some .free → y = "__class__"
  nocell : ∀ y ∈ d.scope.names, y.2 ≠ .cell
  head : ∃ ar, (d.params.posonlyargs ++ d.params.args).head? = some ar ∧ ar.arg = sf
  first : N[0]? = some sf
  sup : d.scope.names.lookup ("super" : Str) = some .globalImplicit
  cls : d.scope.names.lookup ("__class__" : Str) = some .free
  sloc : d.scope.names.lookup sf = some .local

theorem lookup_zipv {x : Str} {v : Value} : ∀ {P : List Str} {vs : List Value} {i : Nat}, P.Nodup → P[i]? = some x → vs[i]? = some v → (P.zip vs).reverse.lookup x = some v := by
  intro P vs i nd h1 h2
  have key : ∀ {P : List Str} {vs : List Value} {i : Nat}, P[i]? = some x → vs[i]? = some v → (x, v) ∈ P.zip vs := by
    intro P
    induction P with
    | nil => intro vs i h; simp at h
    | cons p P ih =>
      intro vs i h1 h2
      cases vs with
      | nil => simp at h2
      | cons u vs =>
        cases i with
        | zero =>
          simp at h1 h2
          subst h1; subst h2
          exact List.mem_cons_self ..
        | succ i => exact List.mem_cons_of_mem _ (ih (by simpa using h1) (by simpa using h2))
  have uniq : ∀ {P : List Str} {vs : List Value} {u u' : Value}, P.Nodup → (x, u) ∈ P.zip vs → (x, u') ∈ P.zip vs → u = u' := by
    intro P
    induction P with
    | nil => intro vs u u' _ h; simp at h
    | cons p P ih =>
      intro vs u u' nd h1 h2
      cases vs with
      | nil => simp at h1
      | cons z vs =>
        obtain ⟨n1, n2⟩ := List.nodup_cons.mp nd
        rcases List.mem_cons.mp h1 with a | a <;> rcases List.mem_cons.mp h2 with b | b
        · cases a; cases b; rfl
        · cases a; exact absurd (List.of_mem_zip b).1 n1
        · cases b; exact absurd (List.of_mem_zip a).1 n1
        · exact ih n2 a b
  have hm := key h1 h2
  cases hq : (P.zip vs).reverse.lookup x with
  | none =>
    have := List.lookup_eq_none_iff.mp hq (x, v) (List.mem_reverse.mpr hm)
    simp at this
  | some u =>
    have := List.mem_reverse.mp (PySem.mem_of_lookup hq)
    rw [uniq nd hm this]

section
variable {P : Program} {w : World} {K : Fg} {mg : Str → Option Value} {base : Heap} {N ps : List Str} {d : IniD} {sf : Str} {C f cda cc : Addr} {A : Around} {outer : List Env} {s : Shared} {H : Hp} {E : XK} {us : List Value} {vs : List V} {h₀ : Heap}
theorem inv_ini (S : IniS d N ps sf) (lcell : ∃ cl cld csl, K.lookup cc = some ⟨cl, cld, .cell (some (.ref C)), csl⟩) (hd : A.handled = none) (e0 : Env0 P w K mg base A outer s H) (hl : vs.length = ps.length) (r : Vals vs us)
    (hns : h₀.Ns s.heap.objs.size (fun x => (ps.zip us).reverse.lookup x)) (hk : ∀ b o, s.heap.get? b = some o → h₀.get? b = some o) (t : Nat) :
    Inv (cxI P w K mg base N d f cda cc A outer s H E) [] (L2.start N vs) H { s with heap := h₀, toks := t } := by
  have hpl : ps.length ≤ N.length := by have := congrArg List.length S.pre; rw [List.length_take] at this; omega
  have noA : ∀ b : Addr, b ∉ (cxI P w K mg base N d f cda cc A outer s H E).ex := fun b z => absurd (show b ∈ ([] : List Addr) from z) (by simp)
  have lk : ∀ {x : Str} {c : Addr}, (cxI P w K mg base N d f cda cc A outer s H E).env.cells.lookup x = some c → x = "__class__" ∧ c = cc := fun {x c} h => by
    have h' : List.lookup x [(("__class__" : Str), cc)] = some c := h
    have hm := PySem.mem_of_lookup h'
    have hm' := List.mem_singleton.mp hm
    cases hm'
    exact ⟨rfl, rfl⟩
  obtain ⟨cl, cld, csl, lcell⟩ := lcell
  have hcb := e0.mod.kin _ _ lcell
  have hcc := e0.bs _ _ hcb
  refine ⟨⟨e0.mod, S.kind, rfl, rfl, Nat.le_refl _, fun y z c h1 h2 => ?_, fun y hy => ?_, fun y c z _ => ?_, fun _ => hd, Around.frames_deeper e0.frames, .inr ⟨rfl, rfl⟩, fun b z => absurd z (noA b), e0.bs, e0.bsz, fun b _ _ => noA b, fun b z => absurd z (noA b), e0.funs, e0.frf⟩,
    rfl, e0.bare, Un.kept hk, ⟨_, hns, fun i y v h1 h2 h3 => ?_⟩, fun y c h => ?_, e0.hok.fresh (Nat.le_refl _), fun y c h => ?_, fun p hp => absurd (show p ∈ ([] : List (Addr × Obj)) from hp) (by simp), e0.hok.kept hk, ?_⟩
  · rw [(lk h1).1, (lk h2).1]
  · have hy : d.scope.names.lookup y = some .cell ∨ d.scope.names.lookup y = some .free := hy
    rcases hy with hy | hy
    · exact absurd rfl (S.nocell _ (PySem.mem_of_lookup hy))
    · rw [S.free y hy]
      exact ⟨cc, rfl⟩
  · have z' : false = true := z
    cases z'
  · have hi : i < vs.length := by
      unfold L2.start at h2
      by_cases hi : i < vs.length
      · exact hi
      · rw [List.getElem?_append_right (by simpa using hi)] at h2
        rw [List.getElem?_replicate] at h2
        split at h2 <;> cases h2
    have ha : vs[i]? = some v := by
      unfold L2.start at h2
      rw [List.getElem?_append_left (by simpa using hi), List.getElem?_map] at h2
      cases e : vs[i]? with
      | none => rw [e] at h2; cases h2
      | some a => rw [e] at h2; cases h2; rfl
    obtain ⟨u, hu, rv⟩ := r.get ha
    have hp : ps[i]? = some y := by
      rw [← S.pre, List.getElem?_take_of_lt (by omega)]; exact h1
    have ndP : ps.Nodup := by rw [← S.pre]; exact S.nd.sublist (List.take_sublist _ _)
    exact ⟨u, rv, .inl ⟨S.par y (List.mem_of_getElem? hp), lookup_zipv ndP hp hu⟩⟩
  · rw [(lk h).2]
    exact ⟨_, _, hk _ _ hcc.1, rfl⟩
  · rw [(lk h).2]
    exact hcc.2
  · unfold L2.start
    show _ = N.length
    rw [List.length_append, List.length_map, List.length_replicate]
    omega

/-- the statement super().__init__(..) -/
theorem wp_superI {ta : TA} {a : Addr} {D : Ends} {pins : List (Addr × Obj)} {σ : L2.St} {H1 : Hp} {s1 : Shared} {e : Expr} {es : List Expr} {p0 p1 p2 p3 pos : Pos} (S : IniS d N ps sf) (c : IniC P K d C f cc)
    (lk : ∃ oc od osl dV kV doc pm an ct, K.lookup f = some ⟨oc, od, .func (PySem.W.ksFn "__init__" d.qual d.params d.body d.scope dV kV doc pm an (.ref cda) ct cc), osl⟩)
    (lc : ∃ ccl cdd ccs vs file tf, K.lookup cda = some ⟨ccl, cdd, .fields vs, ccs⟩ ∧ vs[2]? = some (.str file tf) ∧ ((P.main.file : Str) == file) = true)
    (hm : mg "super" = none) (hb : bootBuiltins "super" = some (.type "super"))
    (I : Inv (cxI P w K mg base N d f cda cc A outer s H E) pins σ H1 s1) (h0 : σ[0]? = some (some (.ref a))) (ha : H1 a = some (exo a C none)) (hta : PA (cxI P w K mg base N d f cda cc A outer s H E) (e :: es) ta)
    (hst : starEach (e :: es) (cxI P w K mg base N d f cda cc A outer s H E).env = (false, eval e (cxI P w K mg base N d f cda cc A outer s H E).env) :: starEach es (cxI P w K mg base N d f cda cc A outer s H E).env)
    (hpl : (backTo p3 (starEach es (cxI P w K mg base N d f cda cc A outer s H E).env)).any (·.1) = false)
    (hcall : ∃ pl : Sem Bool, eval (.Call (.Attribute (.Call (.Name "super" p0) [] [] p1) "__init__" p2) (e :: es) [] p3) (cxI P w K mg base N d f cda cc A outer s H E).env = (do
      let ov ← attributeBase (.Call (.Name "super" p0) [] [] p1) "__init__" (cxI P w K mg base N d f cda cc A outer s H E).env (eval (.Call (.Name "super" p0) [] [] p1) (cxI P w K mg base N d f cda cc A outer s H E).env)
      standAt p2.atName
      let (fu, first) ← holding [ov] (getMethod ov "__init__" pl)
      callWith p3 fu first (backTo p3 (starEach (e :: es) (cxI P w K mg base N d f cda cc A outer s H E).env)) []))
    (hin : interactive (cxI P w K mg base N d f cda cc A outer s H E).env = false) (hsw : swapsWith (.Call (.Attribute (.Call (.Name "super" p0) [] [] p1) "__init__" p2) (e :: es) [] p3) none pos.line (cxI P w K mg base N d f cda cc A outer s H E).env = pure false)
    (q : ta σ H1 fun us H2 => us.length ≤ 1000 ∧ H2 a = some (exo a C none) ∧ D.nx σ H2) :
    _root_.PySem.wpAt (model P w) (cxI P w K mg base N d f cda cc A outer s H E).A (.func d.body (cxI P w K mg base N d f cda cc A outer s H E).env)
      (exec (.Expr (.Call (.Attribute (.Call (.Name "super" p0) [] [] p1) "__init__" p2) (e :: es) [] p3) pos) (cxI P w K mg base N d f cda cc A outer s H E).env) (SP (cxI P w K mg base N d f cda cc A outer s H E) pins D) (cxI P w K mg base N d f cda cc A outer s H E).xe s1 := by
  obtain ⟨pl, hcall⟩ := hcall
  obtain ⟨ar, har, earg⟩ := S.head
  refine ks_wpAt_Expr_any ?_ hin hsw
  refine ks_wpAt_MethodCall (pl := pl) ?_ hcall
  refine wp_super (X := cxI P w K mg base N d f cda cc A outer s H E) (d := d) (C := C) (f := f) (cc := cc) (cda := cda) (a := a) (ar := ar) c lk lc rfl hm hb har S.sup S.cls (by rw [earg]; exact S.sloc) I (by rw [earg]; exact S.first) h0 ha ?_
  intro h1 e1 k1
  obtain ⟨t1, hobj⟩ := exo_at I.hok ha
  obtain ⟨nm, q0, N0, bs, bm, sn, sub, ab, col, dd, k0, k1', k2, k3, k5, hC, hbm⟩ := c.oex.cls
  have hcl : PySem.W.clsIn K C = some { name := nm, bases := bs, mro := .ref C :: bm, ns := N0, qualname := q0, hasDict := true, slotNames := sn, subclasses := sub, abstract := ab, collection := col, hasDel := false } := by unfold PySem.W.clsIn; rw [hC] <;> rfl
  have KX := I.kIn
  have KX1 : K.In h1 := KX.keeps k1
  have hsup := c.sup
  unfold PySem.W.ks_superIn at hsup
  rw [hcl] at hsup
  have hI : PySem.W.Looks (model P w) h1 (isInstance (.ref a) (.type "ValueError")) true := PySem.W.Looks.andThen (PySem.W.InstAt.type (od := none) ⟨k1 _ _ hobj, rfl, rfl, trivial⟩) (PySem.W.looks_subIn KX1 c.subB)
  have hne : a ≠ C := by
    intro z
    rw [z] at hobj
    have y := KX _ _ hC
    rw [hobj] at y
    cases y
  obtain ⟨hh, g, dr, tk, os⟩ := s1
  refine PySem.W.kxs_getMethod PySem.W.kxs_ValueError (so := hh.objs.size) (D := C) (x := a) (C := C) e1 (PySem.W.looks_opaque KX1 c.opq) (l₀ := .ref C :: bm) (PySem.W.Looks.andThen (PySem.W.looks_clsIn KX1 hcl) .now) rfl KX1 hsup hI hne rfl ?_
  -- the arguments
  have hu : (h1.push (PySem.W.kxs_mw "ValueError.__init__" a)).get? h1.objs.size = some (PySem.W.kxs_mw "ValueError.__init__" a) := Heap.get?_push_at rfl rfl
  have k2' : ∀ b o, hh.get? b = some o → (h1.push (PySem.W.kxs_mw "ValueError.__init__" a)).get? b = some o := fun b o z => Heap.get?_push_of_some _ (k1 b o z)
  have I1 : Inv (cxI P w K mg base N d f cda cc A outer s H E) pins σ H1 ⟨h1.push (PySem.W.kxs_mw "ValueError.__init__" a), g, dr, tk + 1, os⟩ := I.kept (t' := tk + 1) k2'
  have hle : hh.objs.size ≤ h1.objs.size := Nat.le_of_lt (Heap.lt_size e1)
  have hun : H1 h1.objs.size = none := I.hok.fresh hle
  have hlt := I.lt
  have I2 : Inv (cxI P w K mg base N d f cda cc A outer s H E) (pins ++ [(h1.objs.size, PySem.W.kxs_mw "ValueError.__init__" a)]) σ H1 ⟨h1.push (PySem.W.kxs_mw "ValueError.__init__" a), g, dr, tk + 1, os⟩ := I1.pins_of fun p hp => by
    rcases List.mem_append.mp hp with z | z
    · exact I1.pin p (List.mem_append_right _ z)
    · have z' := List.mem_singleton.mp z
      subst z'
      refine ⟨hu, hun, fun y => ?_, fun y => ?_, fun v y => by cases y⟩
      · have : h1.objs.size < hh.objs.size := by
          have hy : h1.objs.size = (cxI P w K mg base N d f cda cc A outer s H E).env.locals := y
          rw [hy]
          exact hlt
        omega
      · obtain ⟨_, o, ho, _⟩ := I.ok.funs.mem y
        have z1 := Heap.lt_size ho
        have z2 := I.sz
        have z3 : (cxI P w K mg base N d f cda cc A outer s H E).s_0.heap.objs.size ≤ hh.objs.size := z2
        exact absurd z1 (Nat.not_lt.mpr (Nat.le_trans z3 hle))
  have hargs := hta.run p3 _ _ σ H1 _ I2 q
  rw [hst] at hargs ⊢
  refine PySem.W.kxs_callWith (i := "ValueError.__init__") (x := a) (by show (false || (backTo p3 (starEach es (cxI P w K mg base N d f cda cc A outer s H E).env)).any (·.1)) = false; rw [hpl]; rfl) ?_
  refine Calls.evalArgs_plain ?_
  refine thn hargs fun us s2 ⟨vs2, H2, J, r2, hlen, ha2, hnx⟩ => ?_
  obtain ⟨t2, hobj2⟩ := exo_at J.hok ha2
  have hmw := (J.pin (h1.objs.size, PySem.W.kxs_mw "ValueError.__init__" a) (List.mem_append_right _ (List.mem_append_right _ (List.mem_singleton.mpr rfl)))).1
  have J' := J.unpinned
  have hlen2 : us.length ≤ sizeLine := by
    rw [← Paired.length r2, sizeLine_eq]
    omega
  obtain ⟨hh2, g2, dr2, tk2, os2⟩ := s2
  refine ⟨hmw, ?_⟩
  refine call_mw F.excBase_ValueError (J.kIn _ _ hC) hobj2 hmw hlen2 fun h' t3 k hx => ?_
  have Jw := J'.write (t' := tk2) (x := a) (e := a) (o := exo a C none) (by rw [ha2]; exact True.intro) (.inl rfl) k ⟨_, hx⟩ (exo_ok hx)
  have eu : upd H2 a (exo a C none) = H2 := by
    funext b
    by_cases hb : b = a
    · rw [hb, upd_same, ha2]
    · rw [upd_ne hb]
  rw [eu] at Jw
  exact ⟨σ, H2, Jw, hnx⟩
end
end Mi
/-! text MiXd -/
set_option Elab.async false
set_option linter.all false
set_option maxRecDepth 100000
set_option maxHeartbeats 4000000
/-! MiXd: the def, and the class called. -/
namespace Mi
open PySem PySem.Spec PyProof.Rows L2
section
variable {P : Program} {w : World} {K : Fg} {mg : Str → Option Value} {base : Heap} {N ps : List Str} {d : IniD} {sf : Str} {C f cc : Addr} {k : Nat} {sp : Sp}
/-- the forms that hold of the text, whatever its frame is -/
structure IniT (d : IniD) (e : Expr) (es : List Expr) (p0 p1 p2 p3 pos : Pos) (rest : List Stmt) : Prop where
  body : d.body = .Expr (.Call (.Attribute (.Call (.Name "super" p0) [] [] p1) "__init__" p2) (e :: es) [] p3) pos :: rest
  st : ∀ L f cda cc, starEach (e :: es) (PySem.W.ksEnv d.qual d.scope L f (.ref cda) cc) = (false, eval e (PySem.W.ksEnv d.qual d.scope L f (.ref cda) cc)) :: starEach es (PySem.W.ksEnv d.qual d.scope L f (.ref cda) cc)
  pl : ∀ L f cda cc, (backTo p3 (starEach es (PySem.W.ksEnv d.qual d.scope L f (.ref cda) cc))).any (·.1) = false
  call : ∀ L f cda cc, ∃ pl : Sem Bool, eval (.Call (.Attribute (.Call (.Name "super" p0) [] [] p1) "__init__" p2) (e :: es) [] p3) (PySem.W.ksEnv d.qual d.scope L f (.ref cda) cc) = (do
      let ov ← attributeBase (.Call (.Name "super" p0) [] [] p1) "__init__" (PySem.W.ksEnv d.qual d.scope L f (.ref cda) cc) (eval (.Call (.Name "super" p0) [] [] p1) (PySem.W.ksEnv d.qual d.scope L f (.ref cda) cc))
      standAt p2.atName
      let (fu, first) ← holding [ov] (getMethod ov "__init__" pl)
      callWith p3 fu first (backTo p3 (starEach (e :: es) (PySem.W.ksEnv d.qual d.scope L f (.ref cda) cc))) [])
  sw : ∀ L f cda cc, swapsWith (.Call (.Attribute (.Call (.Name "super" p0) [] [] p1) "__init__" p2) (e :: es) [] p3) none pos.line (PySem.W.ksEnv d.qual d.scope L f (.ref cda) cc) = pure false
  ia : ∀ L f cda cc, interactive (PySem.W.ksEnv d.qual d.scope L f (.ref cda) cc) = false
  bind : ∀ kV doc pm an cdv ct cc, Binds K (PySem.W.ksFn "__init__" d.qual d.params d.body d.scope .none kV doc pm an cdv ct cc) ps []
theorem FnG.ini {e : Expr} {es : List Expr} {p0 p1 p2 p3 pos : Pos} {rest : List Stmt} (c : IniC P K d C f cc) (S : IniS d N ps sf) (T : IniT (K := K) (ps := ps) d e es p0 p1 p2 p3 pos rest) (hm : mg "super" = none)
    (hb : bootBuiltins "super" = some (.type "super")) (len : ∀ vs H Q E, sp vs H Q E → vs.length = ps.length)
    (hbody : ∀ (cda : Addr) (A : Around) (outer : List Env) (st : Shared) (H : Hp) (vs : List V) (Q : VK) (E : XK), Rm k (A.deeper (PySem.W.ksEnv d.qual d.scope st.heap.objs.size f (.ref cda) cc)) → sp vs H Q E →
      ∃ (a : Addr) (ta : TA) (t : TS), (L2.start N vs)[0]? = some (some (.ref a)) ∧ H a = some (exo a C none) ∧ PA (cxI P w K mg base N d f cda cc A outer st H E) (e :: es) ta ∧ PSs (cxI P w K mg base N d f cda cc A outer st H E) rest t ∧
        ta (L2.start N vs) H fun us H1 => us.length ≤ 1000 ∧ H1 a = some (exo a C none) ∧ t { nx := fun _ H' => Q .non H', rt := Q } (L2.start N vs) H1) :
    ∃ fd, FnG P w K mg base (k + 1) f fd ps sp ∧ Binds K fd ps [] := by
  obtain ⟨oc, od, osl, kV, doc, pm, an, ct, cda, ccl, cdd, ccs, vsc, file, tf, lk, hcd, lc, hvs, hfile⟩ := c.fn
  refine ⟨_, ⟨len, fun A outer st H args us vs Q E hr e0 bnd rv hsp => ?_⟩, T.bind kV doc pm an (.ref cda) ct cc⟩
  have hl := len _ _ _ _ hsp
  have KX : K.In st.heap := e0.mod.kin.keeps fun b o e => (e0.bs b o e).1
  have nolim : st.heap.NoLimit := e0.mod.nolimit.keeps fun b o e => (e0.bs b o e).1
  have hloc : ∀ y ∈ ps.zip us, d.scope.names.lookup y.1 = some .local := fun ⟨n, v⟩ hy => S.par n (List.of_mem_zip hy).1
  obtain ⟨a, ta, t, h0, ha, hta, hps, hq⟩ := hbody cda A outer st H vs Q E (hr.deeper _) hsp
  refine ks_codeAny_call_defAt (fd := PySem.W.ksFn "__init__" d.qual d.params d.body d.scope .none kV doc pm an (.ref cda) ct cc) (body := d.body) hr.room.depth (KX _ _ lk) rfl nolim (PySem.W.codeRec_of KX hcd) rfl bnd S.nocell hloc (fun h₀ hns hk => ?_) S.co S.gen S.kind
  have I : Inv (cxI P w K mg base N d f cda cc A outer st H E) [] (L2.start N vs) H { st with heap := h₀, toks := st.toks + (ps.zip us).length } := inv_ini S c.cell hr.room.hd e0 hl rv hns hk _
  show _root_.PySem.wpAt (model P w) (cxI P w K mg base N d f cda cc A outer st H E).A (.func d.body (cxI P w K mg base N d f cda cc A outer st H E).env) (execs d.body (cxI P w K mg base N d f cda cc A outer st H E).env) _ (cxI P w K mg base N d f cda cc A outer st H E).xe _
  have first := wp_superI (D := { nx := fun σ' H' => t { nx := fun _ H' => Q .non H', rt := Q } σ' H', rt := Q, bk := fun _ _ => False, ct := fun _ _ => False }) S c ⟨oc, od, osl, .none, kV, doc, pm, an, ct, lk⟩ ⟨ccl, cdd, ccs, vsc, file, tf, lc, hvs, hfile⟩ hm hb I h0 ha hta (T.st _ _ _ _) (T.pl _ _ _ _) (T.call _ _ _ _) (T.ia _ _ _ _) (T.sw _ _ _ _) hq
  have eb : execs d.body (cxI P w K mg base N d f cda cc A outer st H E).env = execs (.Expr (.Call (.Attribute (.Call (.Name "super" p0) [] [] p1) "__init__" p2) (e :: es) [] p3) pos :: rest) (cxI P w K mg base N d f cda cc A outer st H E).env := by rw [T.body]
  rw [eb]
  refine ks_wpAt_execs_cons (ks_wpAt_mono first (fun fl s' hs => ?_) fun _ _ z => z)
  cases fl with
  | next =>
    obtain ⟨σ', H', J, q⟩ := hs
    refine wpAt_of_wpAny (wpAny_mono (hps.run [] s' σ' H' _ J q) (fun fl2 s2 hs2 => ?_) fun _ _ z => z)
    cases fl2 with
    | ret u =>
      obtain ⟨v, σ2, H2, J2, rv', q2⟩ := hs2
      exact ⟨v, H2, J2.os, J2.bare, J2.base, J2.hok, rv', q2⟩
    | next =>
      obtain ⟨σ2, H2, J2, q2⟩ := hs2
      exact ⟨.non, H2, J2.os, J2.bare, J2.base, J2.hok, rfl, q2⟩
    | brk =>
      obtain ⟨_, _, _, z⟩ := hs2
      exact z.elim
    | cont =>
      obtain ⟨_, _, _, z⟩ := hs2
      exact z.elim
  | ret u =>
    obtain ⟨v, σ2, H2, J2, rv', q2⟩ := hs
    exact ⟨v, H2, J2.os, J2.bare, J2.base, J2.hok, rv', q2⟩
  | brk =>
    obtain ⟨_, _, _, z⟩ := hs
    exact z.elim
  | cont =>
    obtain ⟨_, _, _, z⟩ := hs
    exact z.elim
end
end Mi
/-! text MiXe -/
set_option Elab.async false
set_option linter.all false
set_option maxRecDepth 100000
set_option maxHeartbeats 4000000
/-! MiXe: own exceptions with one field, with two. -/
namespace Mi
open PySem PySem.Spec PyProof.Rows L2
/-- what an own exception's __init__ promises: fields in the order of storing -/
def spI (C : Addr) (fs : List Str) (np : Nat) : Sp := fun vs H Q E => vs.length = np ∧ ∃ a ws, vs = .ref a :: ws ∧ ws.length = fs.length ∧ H a = some (exo a C none) ∧
  ∀ dx H', H dx = none → dx ≠ a → H' = upd (upd H dx (exd dx (fs.zip ws).reverse)) a (exo a C (some dx)) → Q .non H'
section
variable {P : Program} {w : World} {K : Fg} {mg : Str → Option Value} {base : Heap} {d : IniD} {sf x1 x2 f1 f2 : Str} {C f cc : Addr} {k : Nat} {p0 p1 p2 p3 p4 pos q1 q2 q3 q4 q5 q6 q7 q8 q9 : Pos}
theorem itext {N ps : List Str} {e : Expr} {es : List Expr} {rest : List Stmt} (hk : d.scope.kind = .function)
    (body : d.body = .Expr (.Call (.Attribute (.Call (.Name "super" p0) [] [] p1) "__init__" p2) (e :: es) [] p3) pos :: rest)
    (st : ∀ L f cda cc, starEach (e :: es) (PySem.W.ksEnv d.qual d.scope L f (.ref cda) cc) = (false, eval e (PySem.W.ksEnv d.qual d.scope L f (.ref cda) cc)) :: starEach es (PySem.W.ksEnv d.qual d.scope L f (.ref cda) cc))
    (pl : ∀ L f cda cc, (backTo p3 (starEach es (PySem.W.ksEnv d.qual d.scope L f (.ref cda) cc))).any (·.1) = false)
    (call : ∀ L f cda cc, ∃ pl : Sem Bool, eval (.Call (.Attribute (.Call (.Name "super" p0) [] [] p1) "__init__" p2) (e :: es) [] p3) (PySem.W.ksEnv d.qual d.scope L f (.ref cda) cc) = (do
      let ov ← attributeBase (.Call (.Name "super" p0) [] [] p1) "__init__" (PySem.W.ksEnv d.qual d.scope L f (.ref cda) cc) (eval (.Call (.Name "super" p0) [] [] p1) (PySem.W.ksEnv d.qual d.scope L f (.ref cda) cc))
      standAt p2.atName
      let (fu, first) ← holding [ov] (getMethod ov "__init__" pl)
      callWith p3 fu first (backTo p3 (starEach (e :: es) (PySem.W.ksEnv d.qual d.scope L f (.ref cda) cc))) []))
    (bind : ∀ kV doc pm an cdv ct cc, Binds K (PySem.W.ksFn "__init__" d.qual d.params d.body d.scope .none kV doc pm an cdv ct cc) ps []) : IniT (K := K) (ps := ps) d e es p0 p1 p2 p3 pos rest := by
  refine ⟨body, st, pl, call, fun _ _ _ _ => rfl, fun L f cda cc => ?_, bind⟩
  unfold interactive
  show (d.scope.kind == .module && _) = false
  rw [hk]
  rfl
theorem ini1 (c : IniC P K d C f cc) (S : IniS d [sf, x1] [sf, x1] sf) (hm : mg "super" = none) (hb : bootBuiltins "super" = some (.type "super"))
    (body : d.body = [.Expr (.Call (.Attribute (.Call (.Name "super" p0) [] [] p1) "__init__" p2) [.Name x1 p4] [] p3) pos, .Assign [.Attribute (.Name sf q1) f1 q2] (.Name x1 q3) q4])
    (call : ∀ L f cda cc, ∃ pl : Sem Bool, eval (.Call (.Attribute (.Call (.Name "super" p0) [] [] p1) "__init__" p2) [.Name x1 p4] [] p3) (PySem.W.ksEnv d.qual d.scope L f (.ref cda) cc) = (do
      let ov ← attributeBase (.Call (.Name "super" p0) [] [] p1) "__init__" (PySem.W.ksEnv d.qual d.scope L f (.ref cda) cc) (eval (.Call (.Name "super" p0) [] [] p1) (PySem.W.ksEnv d.qual d.scope L f (.ref cda) cc))
      standAt p2.atName
      let (fu, first) ← holding [ov] (getMethod ov "__init__" pl)
      callWith p3 fu first (backTo p3 (starEach [.Name x1 p4] (PySem.W.ksEnv d.qual d.scope L f (.ref cda) cc))) []))
    (bind : ∀ kV doc pm an cdv ct cc, Binds K (PySem.W.ksFn "__init__" d.qual d.params d.body d.scope .none kV doc pm an cdv ct cc) [sf, x1] [])
    (n1 : PySem.W.findIn K (.ref C) f1 = some none) (d0 : (sf == ("__debug__" : Str)) = false) (d1 : (sf == ("__classdict__" : Str)) = false) (d2 : (x1 == ("__debug__" : Str)) = false) (d3 : (x1 == ("__classdict__" : Str)) = false) :
    ∃ fd, FnG P w K mg base (k + 1) f fd [sf, x1] (spI C [f1] 2) ∧ Binds K fd [sf, x1] [] := by
  refine FnG.ini c S (itext (N := [sf, x1]) S.kind body (fun _ _ _ _ => rfl) (fun _ _ _ _ => rfl) call bind) hm hb (fun vs H Q E h => h.1) fun cda A outer st H vs Q E hr hsp => ?_
  obtain ⟨hl, a, ws, ev, hw, ha, hq⟩ := hsp
  subst ev
  match ws, hw with
  | [y1], _ =>
    have v0 : (cxI P w K mg base [sf, x1] d f cda cc A outer st H E).N[0]? = some sf := rfl
    have v1 : (cxI P w K mg base [sf, x1] d f cda cc A outer st H E).N[1]? = some x1 := rfl
    have l0 : Vis (cxI P w K mg base [sf, x1] d f cda cc A outer st H E).env.scope sf := .inl (S.par sf (by simp))
    have l1 : Vis (cxI P w K mg base [sf, x1] d f cda cc A outer st H E).env.scope x1 := .inl (S.par x1 (by simp))
    refine ⟨a, _, _, rfl, ha, pa_cons (pe_var v1 l1 d2 d3) pa_nil rfl, pss_one (ps_ost (pe_var v0 l0 d0 d1) (pe_var v1 l1 d2 d3) rfl), ?_⟩
    refine ⟨y1, rfl, ?_⟩
    refine ⟨by show 1 ≤ 1000; decide, ha, ?_⟩
    refine ⟨y1, rfl, .ref a, rfl, a, C, rfl, c.oex, n1, .inl ⟨ha, fun dx h1 h2 => ?_⟩⟩
    exact hq dx _ h1 h2 rfl
theorem upd_twice {H : Hp} {a dx : Addr} {o o' u u' : HO} (h : dx ≠ a) : upd (upd (upd H dx o) a u) dx o' = upd (upd H dx o') a u := by
  funext b
  by_cases h1 : b = dx
  · subst h1
    rw [upd_same, upd_ne h, upd_same]
  · rw [upd_ne h1]
    by_cases h2 : b = a
    · subst h2
      rw [upd_same, upd_same]
    · rw [upd_ne h2, upd_ne h2, upd_ne h1, upd_ne h1]
theorem ini2 (c : IniC P K d C f cc) (S : IniS d [sf, x1, x2] [sf, x1, x2] sf) (hm : mg "super" = none) (hb : bootBuiltins "super" = some (.type "super"))
    (body : d.body = [.Expr (.Call (.Attribute (.Call (.Name "super" p0) [] [] p1) "__init__" p2) [.Name x1 p4, .Name x2 q9] [] p3) pos, .Assign [.Attribute (.Name sf q1) f1 q2] (.Name x1 q3) q4, .Assign [.Attribute (.Name sf q5) f2 q6] (.Name x2 q7) q8])
    (call : ∀ L f cda cc, ∃ pl : Sem Bool, eval (.Call (.Attribute (.Call (.Name "super" p0) [] [] p1) "__init__" p2) [.Name x1 p4, .Name x2 q9] [] p3) (PySem.W.ksEnv d.qual d.scope L f (.ref cda) cc) = (do
      let ov ← attributeBase (.Call (.Name "super" p0) [] [] p1) "__init__" (PySem.W.ksEnv d.qual d.scope L f (.ref cda) cc) (eval (.Call (.Name "super" p0) [] [] p1) (PySem.W.ksEnv d.qual d.scope L f (.ref cda) cc))
      standAt p2.atName
      let (fu, first) ← holding [ov] (getMethod ov "__init__" pl)
      callWith p3 fu first (backTo p3 (starEach [.Name x1 p4, .Name x2 q9] (PySem.W.ksEnv d.qual d.scope L f (.ref cda) cc))) []))
    (bind : ∀ kV doc pm an cdv ct cc, Binds K (PySem.W.ksFn "__init__" d.qual d.params d.body d.scope .none kV doc pm an cdv ct cc) [sf, x1, x2] [])
    (n1 : PySem.W.findIn K (.ref C) f1 = some none) (n2 : PySem.W.findIn K (.ref C) f2 = some none) (d0 : (sf == ("__debug__" : Str)) = false) (d1 : (sf == ("__classdict__" : Str)) = false) (d2 : (x1 == ("__debug__" : Str)) = false) (d3 : (x1 == ("__classdict__" : Str)) = false)
    (d4 : (x2 == ("__debug__" : Str)) = false) (d5 : (x2 == ("__classdict__" : Str)) = false) :
    ∃ fd, FnG P w K mg base (k + 1) f fd [sf, x1, x2] (spI C [f1, f2] 3) ∧ Binds K fd [sf, x1, x2] [] := by
  refine FnG.ini c S (itext (N := [sf, x1, x2]) S.kind body (fun _ _ _ _ => rfl) (fun _ _ _ _ => rfl) call bind) hm hb (fun vs H Q E h => h.1) fun cda A outer st H vs Q E hr hsp => ?_
  obtain ⟨hl, a, ws, ev, hw, ha, hq⟩ := hsp
  subst ev
  match ws, hw with
  | [y1, y2], _ =>
    have v0 : (cxI P w K mg base [sf, x1, x2] d f cda cc A outer st H E).N[0]? = some sf := rfl
    have v1 : (cxI P w K mg base [sf, x1, x2] d f cda cc A outer st H E).N[1]? = some x1 := rfl
    have v2 : (cxI P w K mg base [sf, x1, x2] d f cda cc A outer st H E).N[2]? = some x2 := rfl
    have l0 : Vis (cxI P w K mg base [sf, x1, x2] d f cda cc A outer st H E).env.scope sf := .inl (S.par sf (by simp))
    have l1 : Vis (cxI P w K mg base [sf, x1, x2] d f cda cc A outer st H E).env.scope x1 := .inl (S.par x1 (by simp))
    have l2 : Vis (cxI P w K mg base [sf, x1, x2] d f cda cc A outer st H E).env.scope x2 := .inl (S.par x2 (by simp))
    refine ⟨a, _, _, rfl, ha, pa_cons (pe_var v1 l1 d2 d3) (pa_cons (pe_var v2 l2 d4 d5) pa_nil rfl) rfl,
      pss_cons (ps_ost (pe_var v0 l0 d0 d1) (pe_var v1 l1 d2 d3) rfl) (pss_one (ps_ost (pe_var v0 l0 d0 d1) (pe_var v2 l2 d4 d5) rfl)), ?_⟩
    refine ⟨y1, rfl, y2, rfl, ?_⟩
    refine ⟨by show 2 ≤ 1000; decide, ha, ?_⟩
    refine ⟨y1, rfl, .ref a, rfl, a, C, rfl, c.oex, n1, .inl ⟨ha, fun dx h1 h2 => ?_⟩⟩
    refine ⟨y2, rfl, .ref a, rfl, a, C, rfl, c.oex, n2, .inr ⟨dx, [(f1, y1)], upd_same, by rw [upd_ne h2, upd_same], by show 1 ≤ 900; decide, ?_⟩⟩
    rw [upd_twice (o := exd dx [(f1, y1)]) (u' := exo a C none) h2]
    exact hq dx _ h1 h2 rfl
end
end Mi
/-! text MiXf -/
set_option Elab.async false
set_option linter.all false
set_option maxRecDepth 100000
set_option maxHeartbeats 4000000
/-! MiXf: raise C(e, ..). -/
namespace Mi
open PySem PySem.Spec PyProof.Rows L2

theorem Rm.make {k : Nat} {A : Around} (r : Rm (k + 1) A) (C : Addr) (us : List Value) (kw : List (Str × Value)) : Rm k (A.under (.builtin "type.__call__" ⟨.ref C :: us, kw⟩)) :=
  ⟨r.room.make C us kw, by
    have h := r.gd
    first | exact h | (simpa [Around.under, Code.isGuard, guardIds] using h), by have := r.un; rw [make_units]; omega⟩
def tMkI (C : Addr) (fs : List Str) (ta : TA) : L2.St → Hp → XK → Prop := fun σ H Q => ta σ H fun vs H1 => vs.length = fs.length ∧ ∀ d, H1 d = none → Q (.ref C) (some d) (upd H1 d (.xd (fs.zip vs).reverse))
section
variable {X : Cx} {W : WX} {e : Expr} {es : List Expr} {ta : TA} {p pos pos2 : Pos} {x : Str} {C fI : Addr} {k np : Nat} {fd : FuncData} {ps fs : List Str}
theorem pmk_ini (T : OexC X.K C) (iC : PySem.W.findIn X.K (.ref C) "__init__" = some (some (.ref fI))) (tI : PySem.W.typeIn X.K (.ref fI) = some (.type "function")) (hfs : fs.length ≤ 1000) (hnp : np = ps.length)
    (F1 : FnG X.prog X.w X.K X.mg X.base k fI fd ps (spI C fs np)) (hn1 : np = fs.length + 1) (hr : Rm (k + 1) X.A) (hb : Binds X.K fd ps []) (hg : Gl X x) (hm : X.mg x = some (.ref C)) (ha : PA X (e :: es) ta)
    (hdb : (x == ("__debug__" : Str)) = false := by decide) (he : starEach (e :: es) X.env = (false, eval e X.env) :: starEach es X.env := by rfl) (hpl : (backTo pos (starEach es X.env)).any (·.1) = false := by rfl) :
    PMk X (.Call (.Name x p) (e :: es) [] pos) (tMkI C fs ta) := by
  intro pins s σ H Q I h
  obtain ⟨nm, q, N, bs, bm, sn, sub, ab, col, dd, k0, k1, k2, k3, k5, hC, hbm⟩ := id T.cls
  refine wpAny_Call_Name_kw (ld_glob I hg hm ?_ hdb)
  refine PySem.W.callWith_K (h₀ := X.base) I.ok.mod.kin T.kC (thn (ha.run pos pins s σ H _ I h) fun us s1 ⟨vs, H1, I1, r1, hz, q1⟩ => ⟨I1.kIn, ?_⟩) he hpl
  show wpAny _ _ (call (.ref C) us) _ _ _
  obtain ⟨hp, g, dr, tk, os⟩ := s1
  have hsz : hp.objs.size ≤ hp.objs.size + 1 := Nat.le_succ _
  have hn : H1 (hp.objs.size + 1) = none := I1.hok.fresh hsz
  have hsp : spI C fs np (V.ref (hp.objs.size + 1) :: vs) (upd H1 (hp.objs.size + 1) (exo (hp.objs.size + 1) C none))
      (fun v H2 => v = .non ∧ ∃ d, H1 d = none ∧ d ≠ hp.objs.size + 1 ∧ H2 = upd (upd (upd H1 (hp.objs.size + 1) (exo (hp.objs.size + 1) C none)) d (exd d (fs.zip vs).reverse)) (hp.objs.size + 1) (exo (hp.objs.size + 1) C (some d))) (fun _ _ _ => False) := by
    refine ⟨by rw [hn1]; simp [hz], _, vs, rfl, hz, upd_same, fun dx H' h1 h2 h3 => ⟨rfl, dx, ?_, h2, h3⟩⟩
    rw [upd_ne h2] at h1
    exact h1
  have kk : ∀ b o, hp.get? b = some o → ((hp.push (PySem.W.kdv_tup us)).push (PySem.HandSPX.excO C hp.objs.size)).get? b = some o := fun b o e => Heap.get?_push_of_some _ (Heap.get?_push_of_some _ e)
  have hget : ((hp.push (PySem.W.kdv_tup us)).push (PySem.HandSPX.excO C hp.objs.size)).get? (hp.objs.size + 1) = some (PySem.HandSPX.excO C hp.objs.size) := by heap_get
  have I2 : Inv X pins σ (upd H1 (hp.objs.size + 1) (exo (hp.objs.size + 1) C none)) ⟨(hp.push (PySem.W.kdv_tup us)).push (PySem.HandSPX.excO C hp.objs.size), g, dr, tk, os⟩ :=
    I1.laid (t' := tk) (a := hp.objs.size + 1) (o := exo (hp.objs.size + 1) C none) (h' := (hp.push (PySem.W.kdv_tup us)).push (PySem.HandSPX.excO C hp.objs.size)) kk hsz (exo_ok hget)
  have r2 : Vals (V.ref (hp.objs.size + 1) :: vs) (Value.ref (hp.objs.size + 1) :: us) := .cons rfl r1
  have hl : ((Value.ref (hp.objs.size + 1) :: us) ++ []).length = ps.length := by
    rw [List.append_nil, ← r2.length]
    show vs.length + 1 = _
    rw [hz, ← hnp, hn1]
  have hus : us.length ≤ sizeLine := by
    rw [← Paired.length r1, sizeLine_eq]
    omega
  refine wpAny_call (PySem.HandSPX.call_own F.excBase_ValueError (fun Y => PySem.HandSPX.refsVE_contains Y bm hbm) (I1.kIn _ _ hC) (PySem.W.looks_findIn I1.kIn iC) (fun self => PySem.W.bind_fn I1.kIn self tI) hus
    (codeAny_mono (F1.run _ X.stack _ _ ⟨Value.ref (hp.objs.size + 1) :: us, []⟩ (Value.ref (hp.objs.size + 1) :: us) _ _ (fun _ _ _ => False) (hr.make C us []) (I2.env0.make C us []) (by
      have := hb _ (Value.ref (hp.objs.size + 1) :: us) I2.kIn hl
      rw [List.append_nil] at this
      exact this) r2 hsp) fun r s' hq' => ?_))
  cases r with
  | error er =>
    obtain ⟨_, _, _, _, _, _, _, _, _, _, _, _, z⟩ := hq'
    exact z.elim
  | ok fl =>
    cases fl with
    | ret u =>
      obtain ⟨v, H2, os2, bare2, un2, hok2, rv, ev, dx, hd1, hne, eH⟩ := hq'
      subst ev
      subst eH
      obtain ⟨h2, g2, d2, t2, os'⟩ := s'
      refine ⟨rv, ?_⟩
      have e2 : upd (del (upd (upd (upd H1 (hp.objs.size + 1) (exo (hp.objs.size + 1) C none)) dx (exd dx (fs.zip vs).reverse)) (hp.objs.size + 1) (exo (hp.objs.size + 1) C (some dx))) (hp.objs.size + 1)) dx (.xd (fs.zip vs).reverse) = upd H1 dx (.xd (fs.zip vs).reverse) := by
        funext b
        by_cases hb1 : b = dx
        · subst hb1
          rw [upd_same, upd_same]
        · rw [upd_ne hb1, upd_ne hb1]
          by_cases hb2 : b = hp.objs.size + 1
          · subst hb2
            rw [del_same, hn]
          · rw [del_ne hb2, upd_ne hb2, upd_ne hb1, upd_ne hb2]
      refine mk_end (raises_own T.exC T.tyC) I1 hsz kk un2 hok2 os2 bare2 upd_same ?_ hd1 (fs := (fs.zip vs).reverse) ?_
      · rw [upd_ne hne, upd_same]
      · rw [e2]
        exact q1 dx hd1
    | next => exact False.elim hq'
    | brk => exact False.elim hq'
    | cont => exact False.elim hq'
/-- raise C(e, ..) -/
def sRaise (cn : Str) (fs : List Str) (ms : Env' → R (List EV)) : Env' → RS := fun ρ => (ms ρ).toS fun es ρ1 => match evDs es with
  | some ds => if ds.length = fs.length then .exc ⟨cn, (fs.zip ds).reverse⟩ ρ1 else .bad
  | none => .bad
theorem RDs.rev {K : Fg} {G : Hp} : ∀ {a : List D} {v : List V}, RDs K G a v → RDs K G a.reverse v.reverse
  | _, _, .nil => .nil
  | _, _, .cons x r => by
    rw [List.reverse_cons, List.reverse_cons]
    exact (RDs.rev r).append (.cons x .nil)
theorem as_raise (hc : X.calm = true) (tk : Takes X W) (T : OexC X.K C) (iC : PySem.W.findIn X.K (.ref C) "__init__" = some (some (.ref fI))) (tI : PySem.W.typeIn X.K (.ref fI) = some (.type "function")) (hfs : fs.length ≤ 1000) (hnp : np = ps.length)
    (F1 : FnG X.prog X.w X.K X.mg X.base k fI fd ps (spI C fs np)) (hn1 : np = fs.length + 1) (hr : Rm (k + 1) X.A) (hb : Binds X.K fd ps []) (hg : Gl X x) (hm : X.mg x = some (.ref C)) (hC : C = He.ga X.K x) {ms : Env' → R (List EV)} (ha : AA X W ms (e :: es))
    (hdb : (x == ("__debug__" : Str)) = false := by decide) (he : starEach (e :: es) X.env = (false, eval e X.env) :: starEach es X.env := by rfl) (hpl : (backTo pos (starEach es X.env)).any (·.1) = false := by rfl) :
    AS X W (sRaise x fs ms) (.Raise (some (.Call (.Name x p) (e :: es) [] pos)) none pos2) := by
  refine (ps_raise hc tk (pmk_ini T iC tI hfs hnp F1 hn1 hr hb hg hm ha hdb he hpl)).imp fun D σ H ⟨P, B, G, ρ, F, s, h⟩ => ⟨P, B, G, ρ, F, s, (PoS.toS (rel := EvRs X.K) (σ := σ) h).imp fun vs H1 ⟨G1, ρ1, F1, e1, g1, s1, r1, h1⟩ => ?_⟩
  cases q : evDs e1 with
  | none => simp only [q] at h1; exact h1.elim
  | some ds =>
    have hD := r1.ds q
    simp only [q] at h1
    by_cases hl : ds.length = fs.length
    · rw [if_pos hl] at h1
      refine ⟨by rw [hD.length]; exact hl, fun d hd => ?_⟩
      have hG := Grow.newG (o := .xd (fs.zip vs).reverse) s1.sub hd
      refine h1 (upd G1 d (.xd (fs.zip vs).reverse)) _ F1 σ _ _ hG.gg (s1.grow hG) ⟨by rw [hC], _, upd_same, ?_, ?_⟩
      · rw [List.map_reverse, List.map_reverse, List.map_fst_zip, List.map_fst_zip]
        · rw [hl]; exact Nat.le_refl _
        · rw [hD.length, hl]; exact Nat.le_refl _
      · rw [List.map_reverse, List.map_reverse, List.map_snd_zip, List.map_snd_zip]
        · exact (hD.mono hG.gg).rev
        · rw [hD.length, hl]; exact Nat.le_refl _
        · rw [hl]; exact Nat.le_refl _
    · rw [if_neg hl] at h1; exact h1.elim
end
end Mi
/-! text MiXg -/
set_option Elab.async false
set_option linter.all false
set_option maxRecDepth 100000
set_option maxHeartbeats 4000000
/-! MiXg: try .. except C as e: return .. -/
namespace Mi
open PySem PySem.Spec PyProof.Rows L2

/-! ### expressions in an except suite: more is known -/
abbrev ZF := Hp → L2.St → Prop
def ZMono (Z : ZF) : Prop := ∀ G G' σ, Same G G' → Z G σ → Z G' σ
def tZ {α β : Type} (Z : ZF) (rel : Rel α β) (K : Fg) (W : WX) (m : Env' → R α) (σ : L2.St) (H : Hp) (Q : β → Hp → Prop) : Prop :=
  ∃ P B G ρ F, SRF K P B G ρ σ H F ∧ Z G σ ∧ Po rel K W P B G σ (m ρ) Q
def AZ (Z : ZF) (X : Cx) (W : WX) (m : Env' → R EV) (e : Expr) : Prop := PE X e (tZ Z (EvR X.K) X.K W m)
def AZs (Z : ZF) (X : Cx) (W : WX) (m : Env' → R (List EV)) (es : List Expr) : Prop := PA X es (tZ Z (EvRs X.K) X.K W m)
/-- the exception is in slot i -/
def Zx (K : Fg) (x : Ex) (a : Addr) (cls : Value) (d : Option Addr) (i : Nat) : ZF := fun G σ => σ[i]? = some (some (.ref a)) ∧ ExR K G x cls d
theorem Zx.mono {K : Fg} {x : Ex} {a : Addr} {cls : Value} {d : Option Addr} {i : Nat} : ZMono (Zx K x a cls d i) := fun _ _ _ e h => ⟨h.1, h.2.mono e⟩
section
variable {X : Cx} {W : WX} {Z : ZF} {e : Expr} {es : List Expr} {m : Env' → R EV} {ms : Env' → R (List EV)} {pos p : Pos}
theorem AE.z (h : AE X W m e) : AZ Z X W m e := PE.imp h fun σ H Q ⟨P, B, G, ρ, F, s, _, h⟩ => ⟨P, B, G, ρ, F, s, h⟩
theorem az_nil : AZs Z X W aNil [] := pa_nil.imp fun σ H Q ⟨P, B, G, ρ, F, s, _, h⟩ => h G H F [] (Same.refl _) s EvRs.nil
theorem az_cons (hZ : ZMono Z) (h1 : AZ Z X W m e) (h2 : AZs Z X W ms es) (hs : starEach (e :: es) X.env = (false, eval e X.env) :: starEach es X.env := by rfl) : AZs Z X W (aCons m ms) (e :: es) := by
  refine (pa_cons h1 h2 hs).imp fun σ H Q h => ?_
  obtain ⟨P, B, G, ρ, F, s, z, h⟩ := h
  refine ⟨P, B, G, ρ, F, s, z, (Po.bind (rel := EvR X.K) h).imp fun x H1 ⟨G1, ρ1, F1, e1, g1, s1, r1, h1⟩ => ?_⟩
  obtain ⟨G2, g2, s2, r2, n2⟩ := fz_ok s1 r1
  refine ⟨P, B, G2, ρ1, F1, s2, hZ _ _ _ (g1.trans g2) z, (Po.bind (rel := EvRs X.K) (h1.mono g2)).imp fun ys H3 ⟨G3, ρ3, F3, e3, g3, s3, r3, h3⟩ => ?_⟩
  exact h3 G3 H3 F3 (x :: ys) (Same.refl _) s3 (EvRs.cons (r2.mono n2 g3) n2 r3)
theorem az_tup {k} (h : AZs Z X W ms es) : AZ Z X W (mTup ms) (.Tuple es k pos) := by
  refine (pe_tupF h).imp fun σ H Q h => ?_
  obtain ⟨P, B, G, ρ, F, s, z, h⟩ := h
  refine ⟨P, B, G, ρ, F, s, z, (Po.bind (rel := EvRs X.K) h).imp fun xs H1 ⟨G1, ρ1, F1, e1, _, s1, r1, h1⟩ => ?_⟩
  cases q : evDs e1 with
  | none => simp only [q] at h1; exact h1.elim
  | some ds =>
    have hr := r1.ds q
    simp only [q, Option.bind_some] at h1
    by_cases hz : ds.length ≤ sizeLine
    · rw [if_pos hz] at h1
      exact ⟨by rw [hr.length]; exact hz, _, fun p o hp ho => (res_of s1 h1).newT s1.sub hp ho hr⟩
    · rw [if_neg hz] at h1; exact h1.elim
/-- the exception's field -/
def mXf (f : Str) (x : Ex) : Env' → R EV := fun ρ => R.ofO ((x.fs.lookup f).map .d) ρ
theorem xf_lookup {K : Fg} {G : Hp} {f : Str} {y : D} : ∀ {fs : List (Str × D)} {vs : List (Str × V)}, vs.map (·.1) = fs.map (·.1) → RDs K G (fs.map (·.2)) (vs.map (·.2)) → fs.lookup f = some y → ∃ v, vs.lookup f = some v ∧ RD K G y v
  | [], vs, _, _, h => by cases h
  | (g, u) :: fs, [], h, _, _ => by cases h
  | (g, u) :: fs, (g', v) :: vs, h1, h2, h => by
    simp only [List.map_cons, List.cons.injEq] at h1
    obtain ⟨e1, e2⟩ := h1
    subst e1
    cases h2 with
    | cons r1 r2 =>
      by_cases e : f = g'
      · subst e
        simp [List.lookup] at h ⊢
        subst h
        exact r1
      · have e' : (f == g') = false := by simpa using e
        simp only [List.lookup, e'] at h ⊢
        exact xf_lookup e2 r2 h
theorem az_fld {a C : Addr} {oe : Obj} {cls : Value} {d : Option Addr} {pn : List (Addr × Obj)} {i : Nat} {x : Ex} {n f : Str} {p1 p2 : Pos} (T : XfC X.K C) (hno : PySem.W.findIn X.K (.ref C) f = some none) (hC : C = He.ga X.K x.cls)
    (hz : Zc cls d oe) (hf : ∃ vs, oe.data = .fields vs) (hN : X.N[i]? = some n) (hv : Vis X.env.scope n) (hd : (n == ("__debug__" : Str)) = false := by decide) (hcd : (n == ("__classdict__" : Str)) = false := by decide)
    (hb : attributeBase (.Name n p1) f X.env (eval (.Name n p1) X.env) = eval (.Name n p1) X.env := by rfl) :
    AZ (Zx X.K x a cls d i) (X.suite a ((a, oe) :: pn)) W (mXf f x) (.Attribute (.Name n p1) f p2) := by
  refine (pe_xf (X := X) (a := a) (C := C) (oe := oe) (cls := cls) (d := d) (pn := pn) (pos := p2) T hno hz hf (pe_var (X := X.suite a ((a, oe) :: pn)) hN hv hd hcd) hb).imp fun σ H Q h => ?_
  obtain ⟨P, B, G, ρ, F, s, ⟨z1, z2, z3⟩, h⟩ := h
  have h' : Po (EvR X.K) X.K W P B G σ (R.ofO ((x.fs.lookup f).map .d) ρ) Q := h
  cases q : x.fs.lookup f with
  | none => rw [q] at h'; exact h'.elim
  | some y =>
    rw [q] at h'
    refine ⟨.ref a, z1, rfl, by rw [z2, hC], ?_⟩
    cases d with
    | none =>
      rw [show x.fs = [] from z3] at q
      cases q
    | some dd =>
      obtain ⟨vs, e1, e2, e3⟩ := z3
      obtain ⟨v, l, r⟩ := xf_lookup e2 e3 q
      exact ⟨dd, vs, v, rfl, s.sub _ _ e1, l, h' G H F v (Same.refl _) s r⟩
end
end Mi
/-! text MiXh -/
set_option Elab.async false
set_option linter.all false
set_option maxRecDepth 100000
set_option maxHeartbeats 4000000
/-! MiXh: the statement try .. except C as e: return .. -/
namespace Mi
open PySem PySem.Spec PyProof.Rows L2
/-- a slot is set to nothing, whatever is in it -/
theorem SRF.hide {K : Fg} {P : Hp} {B : Nat → Option V} {G : Hp} {σ : L2.St} {ρ : Env'} {H : Hp} {F : Nat → List Addr} (s : SRF K P B G ρ σ H F) (i : Nat) (u : Option V) : SRF K P B G (ρ.set i none) (σ.set i u) H (upF F i []) := by
  have d := s.drop i
  refine ⟨d.sub, d.pre, by simp [s.len], fun j sv e => ?_, d.fre, d.dis, d.pg⟩
  by_cases hj : j = i
  · subst hj
    by_cases hi : j < ρ.length
    · rw [List.getElem?_set_self hi] at e; cases e
    · rw [List.getElem?_eq_none (by simpa using hi)] at e; cases e
  · obtain ⟨v, h1, h2, h3⟩ := d.slot j sv e
    exact ⟨v, by rw [List.getElem?_set_ne (Ne.symm hj)]; exact h1, h2, h3⟩
/-- a suite: what it computes depends on the exception -/
def tZS (Z : ZF) (K : Fg) (W : WX) (m : Env' → RS) : TS := fun D σ H => ∃ P B G ρ F, SRF K P B G ρ σ H F ∧ Z G σ ∧ PoS K W P B G (m ρ) D
theorem az_ret {X : Cx} {W : WX} {Z : ZF} {e : Expr} {m : Env' → R EV} {pos : Pos} (h1 : AZ Z X W m e) : PSs X [.Return (some e) pos] (tZS Z X.K W (sRet m)) := by
  refine (pss_one (ps_ret h1)).imp fun D σ H ⟨P, B, G, ρ, F, s, z, h⟩ => ⟨P, B, G, ρ, F, s, z, (PoS.toS (rel := EvR X.K) (σ := σ) h).imp fun x H1 ⟨G1, ρ1, F1, e1, _, s1, r1, h1⟩ => ?_⟩
  cases e1 with
  | d y => exact h1 G1 H1 F1 σ x (Same.refl _) s1 r1
  | fr m => exact h1 G1 H1 F1 σ x (Same.refl _) s1 r1
  | al i =>
    have h2 : PoS X.K W P B G1 (match ρ1[i]? with | some (some (.o m)) => .rt (.fr m) (ρ1.set i none) | _ => .bad) D := h1
    split at h2
    · rename_i m hm
      obtain ⟨s2, r2⟩ := s1.move hm r1
      exact h2 G1 H1 _ σ x (Same.refl _) s2 r2
    · exact h2.elim
def goneS (i : Nat) (r : RS) : RS := match r with
  | .nx ρ => .nx (ρ.set i none)
  | .bk ρ => .bk (ρ.set i none)
  | .ct ρ => .ct (ρ.set i none)
  | .rt e ρ => .rt e ρ
  | _ => .bad
/-- try: mb / except C as (slot i): ms; tab: which raised classes C takes -/
def sTry (i : Nat) (tab : List (Str × Bool)) (mb : Env' → RS) (ms : Ex → Env' → RS) : Env' → RS := fun ρ => match mb ρ with
  | .exc x ρ1 => (match tab.lookup x.cls with
    | some true => if i < ρ1.length then goneS i (ms x (ρ1.set i none)) else .bad
    | some false => .exc x ρ1
    | none => .bad)
  | r => r
theorem tab_ok {K : Fg} {cn y : Str} {b : Bool} : ∀ {tab : List (Str × Bool)}, (∀ p ∈ tab, PySem.W.exmOne K (.ref (He.ga K p.1)) (.ref (He.ga K cn)) = some p.2) → tab.lookup y = some b → PySem.W.exmOne K (.ref (He.ga K y)) (.ref (He.ga K cn)) = some b := fun {tab} h q =>
  h (y, b) (PySem.mem_of_lookup q)
section
variable {X : Cx} {W : WX} {cn n : Str} {i : Nat} {body suite : List Stmt} {b₀ : Stmt} {np pos pos' : Pos} {tab : List (Str × Bool)} {mb : Env' → RS} {ms : Ex → Env' → RS}
theorem as_try (hs : X.stack = X.env :: X.outer) (hf : X.env.frame = some X.env.locals) (hN : X.N.Nodup) (hi : X.N[i]? = some n) (hln : X.env.kindOf n = some .local) (hc : Names X cn (.ref (He.ga X.K cn))) (tk : Takes X W)
    (ht : ∀ p ∈ tab, PySem.W.exmOne X.K (.ref (He.ga X.K p.1)) (.ref (He.ga X.K cn)) = some p.2)
    (hb : ∀ (W' : WX) (pn : List (Addr × Obj)) (xe : Value → Shared → Prop), Takes (X.tr pn xe) W' → PassesOwn (model X.prog X.w) X.A X.env xe → ASs (X.tr pn xe) W' mb body)
    (hsu : ∀ (x : Ex) (a : Addr) (oe : Obj) (cls : Value) (d : Option Addr) (pn : List (Addr × Obj)), tab.lookup x.cls = some true → Zc cls d oe → (∃ vs, oe.data = .fields vs) → PSs (X.suite a ((a, oe) :: pn)) (b₀ :: suite) (tZS (Zx X.K x a cls d i) X.K W (ms x))) :
    AS X W (sTry i tab mb ms) (.Try body [.ExceptHandler (some (.Name cn np)) (some n) (b₀ :: suite) pos'] [] [] pos) := by
  refine (ps_try_as (tb := fun W' => tSt X.K W' mb) (ts := fun a cls d => fun D σ H => ∃ x, tab.lookup x.cls = some true ∧ tZS (Zx X.K x a cls d i) X.K W (ms x) D σ H) (Wout := W) hs hf hN hi hln hc tk (fun W' pn xe t p => hb W' pn xe t p)
    (fun a oe cls d pn z f => ⟨fun pins s σ H D I ⟨x, hx, h⟩ => (hsu x a oe cls d pn hx z f).run pins s σ H D I h⟩)).imp fun D σ H ⟨P, B, G, ρ, F, s, h⟩ => ⟨P, B, G, ρ, F, s, ?_⟩
  have h' : PoS X.K W P B G (match mb ρ with
    | .exc x ρ1 => (match tab.lookup x.cls with
      | some true => if i < ρ1.length then goneS i (ms x (ρ1.set i none)) else .bad
      | some false => .exc x ρ1
      | none => .bad)
    | r => r) D := h
  cases q : mb ρ with
  | exc x ρ1 =>
    rw [q] at h'
    have h2 : PoS X.K W P B G (match tab.lookup x.cls with
      | some true => if i < ρ1.length then goneS i (ms x (ρ1.set i none)) else .bad
      | some false => .exc x ρ1
      | none => .bad) D := h'
    intro G1 H1 F1 σ1 cls d e1 s1 r1
    cases ql : tab.lookup x.cls with
    | none => rw [ql] at h2; exact h2.elim
    | some b =>
      rw [ql] at h2
      have hx := tab_ok ht ql
      refine ⟨b, by rw [r1.1]; exact hx, fun hb1 a na => ?_, fun hb1 => ?_⟩
      · subst hb1
        have hi' : i < ρ1.length := by
          by_cases z : i < ρ1.length
          · exact z
          · have h2' : PoS X.K W P B G (if i < ρ1.length then goneS i (ms x (ρ1.set i none)) else .bad) D := h2
            rw [if_neg z] at h2'
            exact h2'.elim
        have h3 : PoS X.K W P B G (goneS i (ms x (ρ1.set i none))) D := by
          have h2' : PoS X.K W P B G (if i < ρ1.length then goneS i (ms x (ρ1.set i none)) else .bad) D := h2
          rw [if_pos hi'] at h2'
          exact h2'
        refine ⟨x, ql, P, B, G1, ρ1.set i none, upF F1 i [], s1.hide i _, ⟨?_, r1⟩, ?_⟩
        · rw [List.getElem?_set_self (by rw [← s1.len]; exact hi')]
        · have h4 := h3.mono e1
          cases qs : ms x (ρ1.set i none) with
          | nx ρ2 =>
            rw [qs] at h4
            exact fun G2 H2 F2 σ2 e2 s2 => h4 G2 H2 _ _ e2 (s2.hide i none)
          | bk ρ2 =>
            rw [qs] at h4
            exact fun G2 H2 F2 σ2 e2 s2 => h4 G2 H2 _ _ e2 (s2.hide i none)
          | ct ρ2 =>
            rw [qs] at h4
            exact fun G2 H2 F2 σ2 e2 s2 => h4 G2 H2 _ _ e2 (s2.hide i none)
          | rt e ρ2 =>
            rw [qs] at h4
            exact h4
          | exc y ρ2 => rw [qs] at h4; exact h4.elim
          | bad => rw [qs] at h4; exact h4.elim
      · subst hb1
        exact h2 G1 H1 F1 σ1 cls d e1 s1 r1
  | nx ρ1 => rw [q] at h'; exact h'
  | rt e ρ1 => rw [q] at h'; exact h'
  | bk ρ1 => rw [q] at h'; exact h'
  | ct ρ1 => rw [q] at h'; exact h'
  | bad => rw [q] at h'; exact h'.elim
end
end Mi
/-! text MiXi -/
set_option Elab.async false
set_option linter.all false
set_option maxRecDepth 100000
set_option maxHeartbeats 4000000
/-! MiXi: a head that looks at own exceptions. -/
namespace Mi
open PySem PySem.Spec PyProof.Rows L2

abbrev IniV : Type := Option (Str × Str × Arguments × FuncBody × Scope × Addr × Value × Addr)
def iniObs (K : Fg) (x : Str) : IniV := match K.lookup (He.ma K (He.ga K x) "__init__") with
  | some ⟨_, _, .func fd, _⟩ => some (fd.name, fd.qualname, fd.params, fd.body, fd.scope, fd.globals, fd.defaults, fd.builtins)
  | _ => none
def IniD.val (d : IniD) : IniV := some ("__init__", d.qual, d.params, .stmts d.body, d.scope, mainGlobals, .none, builtinsNs)
def oexB (K : Fg) (C : Addr) : Bool := (match K.lookup C with
  | some ⟨.type "type", _, .cls cd, sl⟩ => (match cd.mro, sl.toList with
    | .ref C' :: bm, [_, _, _, _, some (.builtin nw), _] => decide (C' = C) && (decide (nw = "ValueError.__new__") && (!cd.hasDel && (cd.hasDict && PySem.HandSPX.refsVE bm)))
    | _, _ => false)
  | _ => false) && (He.eqO (PySem.W.findIn K (.ref C) "__setattr__") (some (some (.builtin "object.__setattr__"))) && (decide (PySem.W.subIn K (.ref C) (.type "BaseException") = some true) &&
    (decide (PySem.W.typeIn K (.ref C) = some (.type "type")) && PySem.W.keepIn K (.ref C))))
theorem oexB_ok {K : Fg} {C : Addr} (h : oexB K C = true) : OexC K C := by
  obtain ⟨h1, h⟩ := He.ba h
  obtain ⟨h2, h⟩ := He.ba h
  obtain ⟨h3, h⟩ := He.ba h
  obtain ⟨h4, h5⟩ := He.ba h
  refine ⟨?_, He.eqO_ok h2, of_decide_eq_true h3, of_decide_eq_true h4, h5⟩
  split at h1
  · rename_i dd cd sl ho
    split at h1
    · rename_i C' bm k0 k1 k2 k3 n k5 hm hs
      obtain ⟨g1, g⟩ := He.ba h1
      obtain ⟨g2, g⟩ := He.ba g
      obtain ⟨g3, g⟩ := He.ba g
      obtain ⟨g4, g5⟩ := He.ba g
      have e1 := of_decide_eq_true g1
      have e2 := of_decide_eq_true g2
      subst e1
      subst e2
      obtain ⟨nm, bs, mro, ns, qn, hd, sn, sub, ab, col, dl⟩ := cd
      dsimp only at hm g3 g4
      subst hm
      subst g4
      have e3 : dl = false := by cases dl <;> first | rfl | cases g3
      subst e3
      have e4 : sl = #[k0, k1, k2, k3, some (.builtin "ValueError.__new__"), k5] := by
        apply Array.toList_inj.mp
        rw [hs]
      subst e4
      exact ⟨nm, qn, ns, bs, bm, sn, sub, ab, col, dd, k0, k1, k2, k3, k5, ho, g5⟩
    · cases h1
  · cases h1
def iniB (K : Fg) (file : Str) (x : Str) : Bool :=
  oexB K (He.ga K x) && ((match K.lookup (He.ma K (He.ga K x) "__init__") with
    | some ⟨_, _, .func fd, _⟩ => (match fd.closure with
      | [(n, cc)] => decide (n = ("__class__" : Str)) && (match K.lookup cc with
        | some ⟨_, _, .cell (some (.ref D)), _⟩ => decide (D = He.ga K x)
        | _ => false)
      | _ => false) && (match fd.code with
      | .ref cda => (match K.lookup cda with
        | some ⟨_, _, .fields vs, _⟩ => (match (show Option Value from vs[2]?) with
          | some (.str y _) => file == y
          | _ => false) && PySem.W.codeIn K (.ref cda) fd.qualname
        | _ => false)
      | _ => false)
    | _ => false) && (He.eqO (PySem.W.ks_superIn K (He.ga K x) (He.ga K x) "__init__") (some (some (.builtin "ValueError.__init__"))) && (decide (PySem.W.mroIn K (He.ga K x) (.ref (He.ga K x)) = some true) &&
      (decide (PySem.W.subIn K (.ref (He.ga K x)) (.type "ValueError") = some true) && (He.eqO (PySem.W.nsIn K cStatics "thirdparty.any") (some none) &&
      (He.eqO (PySem.W.findIn K (.ref (He.ga K x)) "__init__") (some (some (.ref (He.ma K (He.ga K x) "__init__")))) && decide (PySem.W.typeIn K (.ref (He.ma K (He.ga K x) "__init__")) = some (.type "function"))))))))
theorem iniB_ok {P : Program} {K : Fg} {d : IniD} {x : Str} (h : iniB K P.main.file x = true) (ho : iniObs K x = d.val) (top : (P.main.scope.names.lookup ("super" : Str)).isSome = false) :
    (∃ cc, IniC P K d (He.ga K x) (He.ma K (He.ga K x) "__init__") cc) ∧ PySem.W.findIn K (.ref (He.ga K x)) "__init__" = some (some (.ref (He.ma K (He.ga K x) "__init__"))) ∧ PySem.W.typeIn K (.ref (He.ma K (He.ga K x) "__init__")) = some (.type "function") := by
  obtain ⟨h1, h⟩ := He.ba h
  obtain ⟨h2, h⟩ := He.ba h
  obtain ⟨h3, h⟩ := He.ba h
  obtain ⟨h4, h⟩ := He.ba h
  obtain ⟨h5, h⟩ := He.ba h
  obtain ⟨h6, h⟩ := He.ba h
  obtain ⟨h7, h8⟩ := He.ba h
  refine ⟨?_, He.eqO_ok h7, of_decide_eq_true h8⟩
  unfold iniObs at ho
  split at h2
  · rename_i oc od fd osl lk
    rw [lk] at ho
    obtain ⟨g1, g2⟩ := He.ba h2
    obtain ⟨n1, n2, n3, n4, n5, n6, n7, n8, n9, n10, n11, n12, n13, n14, n15⟩ := fd
    have e2 : (some (n1, n2, n3, n4, n5, n6, n8, n15) : IniV) = some (("__init__" : Str), d.qual, d.params, FuncBody.stmts d.body, d.scope, mainGlobals, .none, builtinsNs) := ho
    simp only [Option.some.injEq, Prod.mk.injEq] at e2
    obtain ⟨a1, a2, a3, a4, a5, a6, a8, a7⟩ := e2
    subst a1 a2 a3 a4 a5 a6 a8 a7
    split at g1
    · rename_i n cc hcl
      obtain ⟨b1, b2⟩ := He.ba g1
      have e3 := of_decide_eq_true b1
      subst e3
      dsimp only at hcl
      subst hcl
      split at b2
      · rename_i c1 c2 D c3 hcell
        have e4 := of_decide_eq_true b2
        subst e4
        split at g2
        · rename_i cda hcode
          dsimp only at hcode
          subst hcode
          split at g2
          · rename_i k1 k2 vs k3 lc
            obtain ⟨f1, f2⟩ := He.ba g2
            split at f1
            · rename_i y ty hy
              exact ⟨cc, oexB_ok h1, ⟨oc, od, osl, _, _, _, _, _, cda, k1, k2, k3, vs, y, ty, lk, f2, lc, hy, f1⟩, ⟨c1, c2, c3, hcell⟩, He.eqO_ok h3, of_decide_eq_true h4, of_decide_eq_true h5, He.eqO_ok h6, top⟩
            · cases f1
          · cases g2
        · cases g2
      · cases b2
    · cases g1
  · cases h2

/-! ### the head -/
abbrev AlY : Type := (Bool × He.AlD) × List IniV
def frY (n : Nat) (g : Addr → Option Obj) : Fg := He.frG g (He.asD g n ++ [cStatics])
def obsYG (n : Nat) (fa : List He.Fa) (fn : List He.DefD) (ini : List IniD) (ex : Fg → Bool) (g : Addr → Option Obj) : AlY := ((ex (frY n g), He.obsD fa fn (frY n g)), ini.map fun d => iniObs (frY n g) d.cls)
def hookY (n : Nat) (fa : List He.Fa) (fn : List He.DefD) (ini : List IniD) (ex : Fg → Bool) : PySem.W.Hook where
  α := AlY
  obs := fun s => obsYG n fa fn ini ex s.heap.get?
  val := fun _ => ((true, He.valD fn), ini.map IniD.val)
  says := fun _ h => ∃ K : Fg, K.In h ∧ He.SaysD fa fn K ∧ ex K = true ∧ (ini.map fun d => iniObs K d.cls) = ini.map IniD.val
  of := fun _ _ e => ⟨_, He.frG_in, congrArg (fun z : AlY => z.1.2) e, congrArg (fun z : AlY => z.1.1) e, congrArg (fun z : AlY => z.2) e⟩
  keeps := fun _ _ _ ⟨K, hK, c⟩ k => ⟨K, PySem.W.Frag.In.keeps hK k, c⟩
theorem obsYG_eq {n : Nat} {fa : List He.Fa} {fn : List He.DefD} {ini : List IniD} {ex : Fg → Bool} {g : Addr → Option Obj} {s : Shared} (h : ∀ a, g a = s.heap.get? a) : obsYG n fa fn ini ex g = (hookY n fa fn ini ex).obs s := by
  have e : g = s.heap.get? := funext h
  rw [e] <;> rfl
/-- what the walk takes from such a head -/
structure WdY (fa : List He.Fa) (fn : List He.DefD) (ini : List IniD) (ex : Fg → Bool) (K : Fg) (mg : Str → Option Value) : Prop extends Wd fa fn K mg where
  ex : ex K = true
  ini : (ini.map fun d => iniObs K d.cls) = ini.map IniD.val
theorem WdY.of {fa : List He.Fa} {fn : List He.DefD} {ini : List IniD} {ex : Fg → Bool} {K : Fg} {h : Heap} {mg : Str → Option Value} (kin : K.In h) (g : h.Ns mainGlobals mg) (c : He.SaysD fa fn K) (e : ex K = true)
    (i : (ini.map fun d => iniObs K d.cls) = ini.map IniD.val) : WdY fa fn ini ex K mg := ⟨Wd.of kin g c, e, i⟩
theorem WdY.obs {fa : List He.Fa} {fn : List He.DefD} {ini : List IniD} {ex : Fg → Bool} {K : Fg} {mg : Str → Option Value} (w : WdY fa fn ini ex K mg) (i : Nat) {d : IniD} (h : ini[i]? = some d := by rfl) : iniObs K d.cls = d.val := by
  have e2 : (ini.map fun d => iniObs K d.cls)[i]? = (ini.map IniD.val)[i]? := by rw [w.ini]
  rw [List.getElem?_map, List.getElem?_map, h] at e2
  exact Option.some.inj e2
/-- all that a class with its own __init__ needs: its look, its fields' absence -/
def exnB (K : Fg) (file : Str) (x : Str) (fs : List Str) : Bool := iniB K file x && (xfB K (He.ga K x) && fs.all fun f => He.eqO (PySem.W.findIn K (.ref (He.ga K x)) f) (some none))
theorem exnB_fld {K : Fg} {file x f : Str} {fs : List Str} (h : exnB K file x fs = true) (hf : f ∈ fs) : PySem.W.findIn K (.ref (He.ga K x)) f = some none :=
  He.eqO_ok (List.all_eq_true.mp (He.ba (He.ba h).2).2 f hf)
theorem exnB_xf {K : Fg} {file x : Str} {fs : List Str} (h : exnB K file x fs = true) : XfC K (He.ga K x) := xfB_ok (He.ba (He.ba h).2).1
end Mi
/-! text MiXj -/
set_option Elab.async false
set_option linter.all false
set_option maxRecDepth 100000
set_option maxHeartbeats 4000000
/-! MiXj: raise and except by names. -/
namespace Mi
open PySem PySem.Spec PyProof.Rows L2

/-- the class x is made of values for its fields fs, at a depth of at most k -/
def CalI (P : Program) (w : World) (K : Fg) (mg : Str → Option Value) (base : Heap) (x : Str) (fs : List Str) (k : Nat) : Prop :=
  ∃ (fI : Addr) (fd : FuncData) (ps : List Str), mg x = some (.ref (He.ga K x)) ∧ OexC K (He.ga K x) ∧ PySem.W.findIn K (.ref (He.ga K x)) "__init__" = some (some (.ref fI)) ∧ PySem.W.typeIn K (.ref fI) = some (.type "function") ∧
    fs.length + 1 = ps.length ∧ FnG P w K mg base k fI fd ps (spI (He.ga K x) fs (fs.length + 1)) ∧ Binds K fd ps []
section
variable {X : Cx} {W : WX} {e : Expr} {es : List Expr} {p pos pos2 : Pos} {x : Str} {k : Nat} {fs : List Str} {ms : Env' → R (List EV)}
theorem as_raiseC (c : CalI X.prog X.w X.K X.mg X.base x fs k) (hfs : fs.length ≤ 1000) (hc : X.calm = true) (tk : Takes X W) (hr : Rm (k + 1) X.A) (hg : Gl X x) (ha : AA X W ms (e :: es))
    (hdb : (x == ("__debug__" : Str)) = false := by decide) (he : starEach (e :: es) X.env = (false, eval e X.env) :: starEach es X.env := by rfl) (hpl : (backTo pos (starEach es X.env)).any (·.1) = false := by rfl) :
    AS X W (sRaise x fs ms) (.Raise (some (.Call (.Name x p) (e :: es) [] pos)) none pos2) := by
  obtain ⟨fI, fd, ps, h1, h2, h3, h4, h5, h6, h7⟩ := c
  exact as_raise hc tk h2 h3 h4 hfs h5 h6 rfl hr h7 hg h1 rfl ha hdb he hpl
end
section
variable {K : Fg} {cn x f : Str} {tab : List (Str × Bool)} {b : Bool}
theorem tab_nil : ∀ p ∈ ([] : List (Str × Bool)), PySem.W.exmOne K (.ref (He.ga K p.1)) (.ref (He.ga K cn)) = some p.2 := fun p h => by cases h
theorem tab_cons (h : (He.Fa.exm x cn b).ok K = true) (r : ∀ p ∈ tab, PySem.W.exmOne K (.ref (He.ga K p.1)) (.ref (He.ga K cn)) = some p.2) : ∀ p ∈ (x, b) :: tab, PySem.W.exmOne K (.ref (He.ga K p.1)) (.ref (He.ga K cn)) = some p.2 := fun p hp => by
  rcases List.mem_cons.mp hp with e | e
  · subst e
    exact He.exm_ok h
  · exact r p e
/-- all classes that are taken have the field f -/
def FldT (K : Fg) (f : Str) (tab : List (Str × Bool)) : Prop := ∀ y, tab.lookup y = some true → XfC K (He.ga K y) ∧ PySem.W.findIn K (.ref (He.ga K y)) f = some none
theorem fldT_nil : FldT K f [] := fun y h => by cases h
theorem fldT_yes (h1 : XfC K (He.ga K x)) (h2 : PySem.W.findIn K (.ref (He.ga K x)) f = some none) (r : FldT K f tab) : FldT K f ((x, true) :: tab) := fun y h => by
  by_cases e : y = x
  · subst e
    exact ⟨h1, h2⟩
  · have e' : (y == x) = false := by simpa using e
    simp only [List.lookup, e'] at h
    exact r y h
theorem fldT_no (r : FldT K f tab) : FldT K f ((x, false) :: tab) := fun y h => by
  by_cases e : y = x
  · subst e
    simp [List.lookup] at h
  · have e' : (y == x) = false := by simpa using e
    simp only [List.lookup, e'] at h
    exact r y h
end
section
variable {X : Cx} {W : WX} {f n : Str} {tab : List (Str × Bool)}
theorem az_fldT {a : Addr} {oe : Obj} {cls : Value} {d : Option Addr} {pn : List (Addr × Obj)} {i : Nat} {x : Ex} {p1 p2 : Pos} (hx : tab.lookup x.cls = some true) (T : FldT X.K f tab)
    (hz : Zc cls d oe) (hf : ∃ vs, oe.data = .fields vs) (hN : X.N[i]? = some n) (hv : X.env.scope.names.lookup n = some .local) (hd : (n == ("__debug__" : Str)) = false := by decide) (hcd : (n == ("__classdict__" : Str)) = false := by decide)
    (hb : attributeBase (.Name n p1) f X.env (eval (.Name n p1) X.env) = eval (.Name n p1) X.env := by rfl) :
    AZ (Zx X.K x a cls d i) (X.suite a ((a, oe) :: pn)) W (mXf f x) (.Attribute (.Name n p1) f p2) := by
  obtain ⟨h1, h2⟩ := T _ hx
  exact az_fld h1 h2 rfl hz hf hN (.inl hv) hd hcd hb
end
theorem bt_super : bootBuiltins "super" = some (.type "super") := by kernel_rfl
/-- from the head's look to the contract -/
theorem cal_ini1 {P : Program} {w : World} {K : Fg} {mg : Str → Option Value} {base : Heap} {d : IniD} {sf x1 f1 : Str} {p0 p1 p2 p3 p4 pos q1 q2 q3 q4 : Pos} (hB : exnB K P.main.file d.cls [f1] = true) (ho : iniObs K d.cls = d.val) (top : (P.main.scope.names.lookup ("super" : Str)).isSome = false)
    (hg : mg d.cls = some (.ref (He.ga K d.cls))) (hm : mg "super" = none) (S : IniS d [sf, x1] [sf, x1] sf)
    (body : d.body = [.Expr (.Call (.Attribute (.Call (.Name "super" p0) [] [] p1) "__init__" p2) [.Name x1 p4] [] p3) pos, .Assign [.Attribute (.Name sf q1) f1 q2] (.Name x1 q3) q4])
    (call : ∀ L f cda cc, ∃ pl : Sem Bool, eval (.Call (.Attribute (.Call (.Name "super" p0) [] [] p1) "__init__" p2) [.Name x1 p4] [] p3) (PySem.W.ksEnv d.qual d.scope L f (.ref cda) cc) = (do
      let ov ← attributeBase (.Call (.Name "super" p0) [] [] p1) "__init__" (PySem.W.ksEnv d.qual d.scope L f (.ref cda) cc) (eval (.Call (.Name "super" p0) [] [] p1) (PySem.W.ksEnv d.qual d.scope L f (.ref cda) cc))
      standAt p2.atName
      let (fu, first) ← holding [ov] (getMethod ov "__init__" pl)
      callWith p3 fu first (backTo p3 (starEach [.Name x1 p4] (PySem.W.ksEnv d.qual d.scope L f (.ref cda) cc))) []))
    (bind : ∀ kV doc pm an cdv ct cc, Binds K (PySem.W.ksFn "__init__" d.qual d.params d.body d.scope .none kV doc pm an cdv ct cc) [sf, x1] [])
    (d0 : (sf == ("__debug__" : Str)) = false) (d1 : (sf == ("__classdict__" : Str)) = false) (d2 : (x1 == ("__debug__" : Str)) = false) (d3 : (x1 == ("__classdict__" : Str)) = false) : CalI P w K mg base d.cls [f1] 1 := by
  obtain ⟨⟨cc, c⟩, h1, h2⟩ := iniB_ok (He.ba hB).1 ho top
  obtain ⟨fd, F, b⟩ := ini1 (w := w) (base := base) (k := 0) c S hm bt_super body call bind (exnB_fld hB (by simp)) d0 d1 d2 d3
  exact ⟨_, fd, _, hg, c.oex, h1, h2, rfl, F, b⟩
theorem cal_ini2 {P : Program} {w : World} {K : Fg} {mg : Str → Option Value} {base : Heap} {d : IniD} {sf x1 x2 f1 f2 : Str} {p0 p1 p2 p3 p4 pos q1 q2 q3 q4 q5 q6 q7 q8 q9 : Pos} (hB : exnB K P.main.file d.cls [f1, f2] = true) (ho : iniObs K d.cls = d.val) (top : (P.main.scope.names.lookup ("super" : Str)).isSome = false)
    (hg : mg d.cls = some (.ref (He.ga K d.cls))) (hm : mg "super" = none) (S : IniS d [sf, x1, x2] [sf, x1, x2] sf)
    (body : d.body = [.Expr (.Call (.Attribute (.Call (.Name "super" p0) [] [] p1) "__init__" p2) [.Name x1 p4, .Name x2 q9] [] p3) pos, .Assign [.Attribute (.Name sf q1) f1 q2] (.Name x1 q3) q4, .Assign [.Attribute (.Name sf q5) f2 q6] (.Name x2 q7) q8])
    (call : ∀ L f cda cc, ∃ pl : Sem Bool, eval (.Call (.Attribute (.Call (.Name "super" p0) [] [] p1) "__init__" p2) [.Name x1 p4, .Name x2 q9] [] p3) (PySem.W.ksEnv d.qual d.scope L f (.ref cda) cc) = (do
      let ov ← attributeBase (.Call (.Name "super" p0) [] [] p1) "__init__" (PySem.W.ksEnv d.qual d.scope L f (.ref cda) cc) (eval (.Call (.Name "super" p0) [] [] p1) (PySem.W.ksEnv d.qual d.scope L f (.ref cda) cc))
      standAt p2.atName
      let (fu, first) ← holding [ov] (getMethod ov "__init__" pl)
      callWith p3 fu first (backTo p3 (starEach [.Name x1 p4, .Name x2 q9] (PySem.W.ksEnv d.qual d.scope L f (.ref cda) cc))) []))
    (bind : ∀ kV doc pm an cdv ct cc, Binds K (PySem.W.ksFn "__init__" d.qual d.params d.body d.scope .none kV doc pm an cdv ct cc) [sf, x1, x2] [])
    (d0 : (sf == ("__debug__" : Str)) = false) (d1 : (sf == ("__classdict__" : Str)) = false) (d2 : (x1 == ("__debug__" : Str)) = false) (d3 : (x1 == ("__classdict__" : Str)) = false) (d4 : (x2 == ("__debug__" : Str)) = false) (d5 : (x2 == ("__classdict__" : Str)) = false) : CalI P w K mg base d.cls [f1, f2] 1 := by
  obtain ⟨⟨cc, c⟩, h1, h2⟩ := iniB_ok (He.ba hB).1 ho top
  obtain ⟨fd, F, b⟩ := ini2 (w := w) (base := base) (k := 0) c S hm bt_super body call bind (exnB_fld hB (by simp)) (exnB_fld hB (by simp)) d0 d1 d2 d3 d4 d5
  exact ⟨_, fd, _, hg, c.oex, h1, h2, rfl, F, b⟩
def iniOf : Stmt → Stmt
  | .ClassDef _ _ _ (s :: _) _ _ _ _ _ _ _ => s
  | s => s
end Mi
/-! text MiXk -/
set_option Elab.async false
set_option linter.all false
set_option maxRecDepth 100000
set_option maxHeartbeats 4000000
/-! MiXk: computing with raise and try. -/
namespace Mi
open PySem PySem.Spec PyProof.Rows L2
section
variable {ρ bs : Env'} {es : List EV} {as : List SV} {q : RS → Prop} {ms : Env' → R (List EV)} {Q : EV → Env' → Prop} {E : Ex → Env' → Prop} {cn f : Str} {fs : List Str} {x : Ex} {i : Nat} {tab : List (Str × Bool)} {mb : Env' → RS} {mx : Ex → Env' → RS} {t : RS}
@[simp] theorem retF_exc : retF as es ρ (.exc x bs) = if backOk as bs = true then .exc x (putBack ρ es bs) else .bad := rfl
def okRs (cn : Str) (fs : List Str) (q : RS → Prop) (ρ : Env') : Option (List D) → Prop
  | some ds => ds.length = fs.length ∧ q (.exc ⟨cn, (fs.zip ds).reverse⟩ ρ)
  | none => False
def kRaise (cn : Str) (fs : List Str) (q : RS → Prop) (es : List EV) (ρ : Env') : Prop := okRs cn fs q ρ (evDs es)
@[simp ↓] theorem w_sRaise : ws (sRaise cn fs ms ρ) q = sat (ms ρ) (kRaise cn fs q) (excQ q) := by
  unfold sRaise
  rw [ws_toS]
  unfold excQ
  congr 1
  funext es ρ1
  unfold kRaise okRs
  cases evDs es with
  | none => exact ws_bad
  | some ds =>
    by_cases h : ds.length = fs.length
    · simp [h]
    · simp [h]
@[simp] theorem kRaise_ap : kRaise cn fs q es ρ = okRs cn fs q ρ (evDs es) := (rfl)
@[simp] theorem okRs_s {ds : List D} : okRs cn fs q ρ (some ds) = (ds.length = fs.length ∧ q (.exc ⟨cn, (fs.zip ds).reverse⟩ ρ)) := (rfl)
def goneQ (i : Nat) (q : RS → Prop) : RS → Prop
  | .nx ρ => q (.nx (ρ.set i none))
  | .bk ρ => q (.bk (ρ.set i none))
  | .ct ρ => q (.ct (ρ.set i none))
  | .rt e ρ => q (.rt e ρ)
  | _ => False
theorem ws_gone : ws (goneS i t) q = ws t (goneQ i q) := by cases t <;> simp [goneS, goneQ]
@[simp] theorem goneQ_nx : goneQ i q (.nx ρ) = q (.nx (ρ.set i none)) := (rfl)
@[simp] theorem goneQ_bk : goneQ i q (.bk ρ) = q (.bk (ρ.set i none)) := (rfl)
@[simp] theorem goneQ_ct : goneQ i q (.ct ρ) = q (.ct (ρ.set i none)) := (rfl)
@[simp] theorem goneQ_rt {e : EV} : goneQ i q (.rt e ρ) = q (.rt e ρ) := (rfl)
def tryX (i : Nat) (mx : Ex → Env' → RS) (q : RS → Prop) (x : Ex) (ρ1 : Env') : Option Bool → Prop
  | some true => i < ρ1.length ∧ ws (mx x (ρ1.set i none)) (goneQ i q)
  | some false => q (.exc x ρ1)
  | none => False
def tryQ (i : Nat) (tab : List (Str × Bool)) (mx : Ex → Env' → RS) (q : RS → Prop) : RS → Prop
  | .exc x ρ1 => tryX i mx q x ρ1 (tab.lookup x.cls)
  | r => q r
@[simp ↓] theorem w_sTry : ws (sTry i tab mb mx ρ) q = ws (mb ρ) (tryQ i tab mx q) := by
  unfold sTry
  cases mb ρ with
  | exc x ρ1 =>
    show ws (match tab.lookup x.cls with
      | some true => if i < ρ1.length then goneS i (mx x (ρ1.set i none)) else .bad
      | some false => .exc x ρ1
      | none => .bad) q = _
    rw [ws_exc]
    show _ = tryX i mx q x ρ1 (tab.lookup x.cls)
    cases tab.lookup x.cls with
    | none => exact ws_bad
    | some b =>
      cases b with
      | false => exact ws_exc
      | true =>
        show ws (if i < ρ1.length then goneS i (mx x (ρ1.set i none)) else .bad) q = (i < ρ1.length ∧ ws (mx x (ρ1.set i none)) (goneQ i q))
        by_cases h : i < ρ1.length
        · rw [if_pos h, ws_gone]
          simp [h]
        · rw [if_neg h]
          simp [h]
  | nx ρ1 => exact (ws_nx (q := q)).trans (ws_nx (q := tryQ i tab mx q)).symm
  | rt e ρ1 => exact (ws_rt (q := q)).trans (ws_rt (q := tryQ i tab mx q)).symm
  | bk ρ1 => exact (ws_bk (q := q)).trans (ws_bk (q := tryQ i tab mx q)).symm
  | ct ρ1 => exact (ws_ct (q := q)).trans (ws_ct (q := tryQ i tab mx q)).symm
  | bad => simp
@[simp] theorem tryQ_nx : tryQ i tab mx q (.nx ρ) = q (.nx ρ) := (rfl)
@[simp] theorem tryQ_rt {e : EV} : tryQ i tab mx q (.rt e ρ) = q (.rt e ρ) := (rfl)
@[simp] theorem tryQ_bk : tryQ i tab mx q (.bk ρ) = q (.bk ρ) := (rfl)
@[simp] theorem tryQ_ct : tryQ i tab mx q (.ct ρ) = q (.ct ρ) := (rfl)
@[simp] theorem tryQ_exc : tryQ i tab mx q (.exc x ρ) = tryX i mx q x ρ (tab.lookup x.cls) := (rfl)
@[simp] theorem tryX_t : tryX i mx q x ρ (some true) = (i < ρ.length ∧ ws (mx x (ρ.set i none)) (goneQ i q)) := (rfl)
@[simp] theorem tryX_f : tryX i mx q x ρ (some false) = q (.exc x ρ) := (rfl)
def okXf (Q : EV → Env' → Prop) (ρ : Env') : Option D → Prop
  | some d => Q (.d d) ρ
  | none => False
@[simp ↓] theorem s_mXf : sat (mXf f x ρ) Q E = okXf Q ρ (x.fs.lookup f) := by
  unfold mXf okXf
  cases x.fs.lookup f with
  | none => exact sat_bad
  | some d => exact sat_ok
@[simp] theorem okXf_s {d : D} : okXf Q ρ (some d) = Q (.d d) ρ := (rfl)
/-- a def that ends in an error -/
def retX (as : Env') (x : Ex) (bs : Env') (r : RS) : Prop := endF as r = .exc x bs
theorem runF_wx {n : Nat} {b : Env' → RS} {as : List SV} {bs : Env'} (h : ws (b (as.map some ++ List.replicate (n - as.length) none)) (retX (as.map some) x bs)) : runF n b as = .exc x bs := by
  rw [runF_ap]; exact ws_out h
@[simp] theorem retX_exc {as : Env'} {y : Ex} : retX as x bs (.exc y ρ) = (outOk as ρ = true ∧ y = x ∧ outE as ρ = bs) := by
  unfold retX
  show ((if outOk as ρ then RF.exc y (outE as ρ) else .bad) = .exc x bs) = _
  by_cases h : outOk as ρ = true <;> simp [h]
end
end Mi
/-! text MiXl -/
set_option Elab.async false
set_option linter.all false
set_option maxRecDepth 100000
set_option maxHeartbeats 4000000
/-! MiXl: a text times an int. -/
namespace Mi
open PySem PySem.Spec PyProof.Rows L2
def repS (x : Str) (n : Nat) : Str := ⟨(List.replicate n x.cps).foldl (· ++ ·) #[]⟩
theorem foldl_size (a : Array Nat) : ∀ (n : Nat) (b : Array Nat), ((List.replicate n a).foldl (· ++ ·) b).size = b.size + n * a.size := by
  intro n
  induction n with
  | zero => intro b; simp
  | succ n ih =>
    intro b
    rw [List.replicate_succ, List.foldl_cons, ih, Array.size_append, Nat.succ_mul]
    omega
theorem repS_len (x : Str) (n : Nat) : (repS x n).length = n * x.length := by
  show ((List.replicate n x.cps).foldl (· ++ ·) #[]).size = _
  rw [foldl_size]
  simp [Str.length]
def rRepS : R2 := fun x y H Q => ∃ z k, x = .str z ∧ y = .int k ∧ 2 ≤ k ∧ k ≤ 1000 ∧ 1 ≤ z.length ∧ z.length ≤ 1000 ∧ Q (.str (repS z k.toNat)) H
theorem op_repS {X : Cx} : OpR X (binaryOp .Mult) rRepS := by
  intro pins s σ H x y v u Q I rx ry h
  obtain ⟨z, k, rfl, rfl, h1, h2, h3, h4, q⟩ := h
  obtain ⟨t, rfl⟩ := rx
  obtain ⟨t2, rfl⟩ := ry
  have hlen : z.length * k.toNat ≤ 1000000 := by
    have : k.toNat ≤ 1000 := by omega
    calc z.length * k.toNat ≤ 1000 * 1000 := Nat.mul_le_mul h4 this
      _ = _ := by decide
  refine PySem.P.mul_str ?_ ?_ ?_ ?_
  · rw [decide_eq_false (by omega), decide_eq_false (by omega)]; rfl
  · intro _ _
    have : (9000000 : Int) ≤ (2 ^ 63 - 1) / k := by
      rw [Int.le_ediv_iff_mul_le (by omega)]
      omega
    omega
  · intro _ _
    show decide (z.length * k.toNat > sizeLine) = false
    exact decide_eq_false (by rw [sizeLine_eq]; omega)
  · rw [if_neg (by omega), if_neg (by
      have e1 : (k == 1) = false := by simp; omega
      have e2 : (z.length == 0) = false := by simp; omega
      rw [e1, e2]; decide)]
    have hs := repS_len z k.toNat
    refine ⟨?_, ?_⟩
    · show (repS z k.toNat).length ≤ sizeLine
      rw [hs, sizeLine_eq, Nat.mul_comm]
      omega
    · exact ⟨.str (repS z k.toNat), H, I.tok _, ⟨_, rfl⟩, q⟩
def fMulT (a b : D) : Option EV := match a, b with
  | .str x, .int k => if 2 ≤ k ∧ k ≤ 1000 ∧ 1 ≤ x.length ∧ x.length ≤ 1000 then some (.d (.str (repS x k.toNat))) else none
  | a, b => fMulS a b
theorem o_mulT {X : Cx} : Op2 X (binaryOp .Mult) fMulT := by
  obtain ⟨r2, h2, q2⟩ := o_mulS (X := X)
  refine ⟨_, op_repS.or h2, fun G H x y a b ev Q s ha hb e res => ?_⟩
  unfold fMulT at e
  split at e
  · rename_i z k
    split at e
    · rename_i hc
      cases e
      obtain ⟨c1, c2, c3, c4⟩ := hc
      exact .inl ⟨z, k, ha.str, hb.int, c1, c2, c3, c4, res.same s (.str _)⟩
    · cases e
  · exact .inr (q2 G H x y _ _ ev Q s ha hb e res)
end Mi
/-! text K01 -/
set_option Elab.async false
set_option linter.all false
set_option maxRecDepth 100000
set_option maxHeartbeats 0
/-! what the defs of the text compute, and the walk that shows it. Printed by gen.py. -/
namespace K01
open PySem PySem.Spec PyProof.Rows L2 Mi
def top (i : Nat) : Stmt := PySem.Challenge.pw_sealedruns_k01_lexemes_and_names.main.body.getD i (.Pass ⟨0, 0, 0, 0⟩)
def D_run_end : He.DefD := ⟨(("run_end" : Str), none), ("run_end" : Str), ("run_end" : Str), defArgs (top 11), defBody (top 11), defScope (top 11), [], []⟩
def D_lexeme_at : He.DefD := ⟨(("lexeme_at" : Str), none), ("lexeme_at" : Str), ("lexeme_at" : Str), defArgs (top 12), defBody (top 12), defScope (top 12), [], []⟩
def D_lexemes : He.DefD := ⟨(("lexemes" : Str), none), ("lexemes" : Str), ("lexemes" : Str), defArgs (top 13), defBody (top 13), defScope (top 13), [], []⟩
def D_is_word : He.DefD := ⟨(("is_word" : Str), none), ("is_word" : Str), ("is_word" : Str), defArgs (top 14), defBody (top 14), defScope (top 14), [], []⟩
def D_is_name : He.DefD := ⟨(("is_name" : Str), none), ("is_name" : Str), ("is_name" : Str), defArgs (top 15), defBody (top 15), defScope (top 15), [], []⟩
def D_is_tag : He.DefD := ⟨(("is_tag" : Str), none), ("is_tag" : Str), ("is_tag" : Str), defArgs (top 16), defBody (top 16), defScope (top 16), [], []⟩
def D_L_source : He.DefD := ⟨(("_law_source" : Str), none), ("_law_source" : Str), ("_law_source" : Str), defArgs (top 18), defBody (top 18), defScope (top 18), [], []⟩
def D_L_pick : He.DefD := ⟨(("_law_pick" : Str), none), ("_law_pick" : Str), ("_law_pick" : Str), defArgs (top 19), defBody (top 19), defScope (top 19), [], []⟩
def D_L_of : He.DefD := ⟨(("_law_of" : Str), none), ("_law_of" : Str), ("_law_of" : Str), defArgs (top 20), defBody (top 20), defScope (top 20), [], []⟩
def D_L_kept : He.DefD := ⟨(("_law_kept" : Str), none), ("_law_kept" : Str), ("_law_kept" : Str), defArgs (top 21), defBody (top 21), defScope (top 21), [], []⟩
def D_L_lexemes : He.DefD := ⟨(("_law_lexemes" : Str), none), ("_law_lexemes" : Str), ("_law_lexemes" : Str), defArgs (top 22), defBody (top 22), defScope (top 22), [], []⟩
def D_L_is_name : He.DefD := ⟨(("_law_is_name" : Str), none), ("_law_is_name" : Str), ("_law_is_name" : Str), defArgs (top 23), defBody (top 23), defScope (top 23), [], []⟩
def D_L_told_lexemes : He.DefD := ⟨(("_law_told_lexemes" : Str), none), ("_law_told_lexemes" : Str), ("_law_told_lexemes" : Str), defArgs (top 24), defBody (top 24), defScope (top 24), [], []⟩
def D_law : He.DefD := ⟨(("law" : Str), none), ("law" : Str), ("law" : Str), defArgs (top 25), defBody (top 25), defScope (top 25), [], []⟩
def fns : List He.DefD := [D_run_end, D_lexeme_at, D_lexemes, D_is_word, D_is_name, D_is_tag, D_L_source, D_L_pick, D_L_of, D_L_kept, D_L_lexemes, D_L_is_name, D_L_told_lexemes, D_law]
def fas : List He.Fa := [.glo ("run_end" : Str), .glo ("lexeme_at" : Str), .glo ("lexemes" : Str), .glo ("is_word" : Str), .glo ("is_name" : Str), .glo ("is_tag" : Str), .glo ("_law_source" : Str), .glo ("_law_pick" : Str), .glo ("_law_of" : Str), .glo ("_law_kept" : Str), .glo ("_law_lexemes" : Str), .glo ("_law_is_name" : Str), .glo ("_law_told_lexemes" : Str), .glo ("law" : Str), .free ("len" : Str), .str ("BLANKS" : Str) (" \n" : Str), .str ("SIGNS" : Str) ("(),:;=+-<#" : Str), .str ("FIGURES" : Str) ("0123456789" : Str), .str ("SMALL" : Str) ("abcdefghijklmnopqrstuvwxyz" : Str), .str ("BIG" : Str) ("ABCDEFGHIJKLMNOPQRSTUVWXYZ" : Str), .glo ("BadText" : Str), .free ("super" : Str), .free ("isinstance" : Str), .free ("str" : Str), .int ("MOST_SIGNS" : Str) 12, .free ("all" : Str), .glo ("KEPT" : Str), .free ("int" : Str), .free ("abs" : Str), .free ("max" : Str), .exm ("BadText" : Str) ("BadText" : Str) true, .free ("range" : Str), .free ("repr" : Str)]
def theFile : Str := PySem.Challenge.pw_sealedruns_k01_lexemes_and_names.main.file
def PF (P : Program) : Prop := P.main.file = theFile ∧ (P.main.scope.names.lookup ("super" : Str)).isSome = false
def I_BadText : IniD := ⟨("BadText" : Str), ("BadText.__init__" : Str), defArgs (iniOf (top 2)), defBody (iniOf (top 2)), defScope (iniOf (top 2))⟩
def inis : List IniD := [I_BadText]
def exF (K : Fg) : Bool := (He.tupB K ("KEPT" : Str) (([("alike" : Str), ("ask" : Str), ("audit" : Str), ("bound" : Str), ("case" : Str), ("digest" : Str), ("else" : Str), ("end" : Str), ("from" : Str), ("fun" : Str), ("if" : Str), ("in" : Str), ("kind" : Str), ("let" : Str), ("num" : Str), ("of" : Str), ("open" : Str), ("or" : Str), ("seal" : Str), ("set" : Str), ("store" : Str), ("then" : Str), ("undo" : Str)] : List Str).map He.Dv.str) && (exnB K theFile ("BadText" : Str) [("place" : Str)] && true))
theorem x_KEPT {K : Fg} {mg : Str → Option Value} (wd : WdY fas fns inis exF K mg) : He.tupB K ("KEPT" : Str) (([("alike" : Str), ("ask" : Str), ("audit" : Str), ("bound" : Str), ("case" : Str), ("digest" : Str), ("else" : Str), ("end" : Str), ("from" : Str), ("fun" : Str), ("if" : Str), ("in" : Str), ("kind" : Str), ("let" : Str), ("num" : Str), ("of" : Str), ("open" : Str), ("or" : Str), ("seal" : Str), ("set" : Str), ("store" : Str), ("then" : Str), ("undo" : Str)] : List Str).map He.Dv.str) = true := (He.ba wd.ex).1
theorem x_BadText {K : Fg} {mg : Str → Option Value} (wd : WdY fas fns inis exF K mg) : exnB K theFile ("BadText" : Str) [("place" : Str)] = true := (He.ba (He.ba wd.ex).2).1
theorem e_BadText' {P : Program} {w : World} {K : Fg} {mg : Str → Option Value} {base : Heap} (wd : WdY fas fns inis exF K mg) (pf : PF P) : CalI P w K mg base ("BadText" : Str) [("place" : Str)] 1 := by
  have S : IniS I_BadText [("self" : Str), ("place" : Str)] [("self" : Str), ("place" : Str)] ("self" : Str) := ⟨rfl, rfl, rfl, by decide, rfl, by decide +kernel, fun y h => (by decide +kernel : ∀ p ∈ (defScope (iniOf (top 2))).names, p.2 = .free → p.1 = ("__class__" : Str)) (y, .free) (PySem.mem_of_lookup h) rfl, by decide +kernel, ⟨_, rfl, rfl⟩, rfl, by decide +kernel, by decide +kernel, by decide +kernel⟩
  exact cal_ini1 (d := I_BadText) (by rw [pf.1]; exact x_BadText wd) (wd.obs 0) pf.2 (wd.glo 20 ("BadText" : Str) rfl) (wd.free 21 "super" rfl) S rfl (fun _ _ _ _ => ⟨_, rfl⟩) (fun _ _ _ _ _ _ _ => Binds.all fun us hl => match us, hl with | [_, _], _ => rfl) (by decide) (by decide) (by decide) (by decide)
/-! ### what the defs compute -/
abbrev n_run_end : List Str := [("text" : Str), ("place" : Str), ("signs" : Str)]
noncomputable def wc_run_end_1 : Env' → R Bool := (mAnd (mTB (mBin fLt (getV 1) (mCall gLen (aCons (getV 0) aNil)))) (mTB (mBin fIn (mBin fIx (getV 0) (getV 1)) (getV 2))))
theorem uc_run_end_1 {ρ : Env'} {q : Bool → Env' → Prop} {E : Ex → Env' → Prop} : sat (wc_run_end_1 ρ) q E = sat ((mAnd (mTB (mBin fLt (getV 1) (mCall gLen (aCons (getV 0) aNil)))) (mTB (mBin fIn (mBin fIx (getV 0) (getV 1)) (getV 2)))) ρ) q E := (rfl)
noncomputable def wb_run_end_1 : Env' → RS := (sAug fIadd 1 (cst (.int 1)))
theorem ub_run_end_1 {ρ : Env'} {q : RS → Prop} : ws (wb_run_end_1 ρ) q = ws ((sAug fIadd 1 (cst (.int 1))) ρ) q := (rfl)
noncomputable def b_run_end : Env' → RS :=
  (sSeq (sWhile wc_run_end_1 wb_run_end_1)
  (sRet (getV 1)))
theorem u_run_end {ρ : Env'} {q : RS → Prop} : ws (b_run_end ρ) q = ws ((sSeq (sWhile wc_run_end_1 wb_run_end_1)
  (sRet (getV 1))) ρ) q := (rfl)
noncomputable abbrev f_run_end : List SV → RF := runF 3 b_run_end
abbrev n_lexeme_at : List Str := [("text" : Str), ("place" : Str)]
noncomputable def b_lexeme_at_1 : Env' → RS := (sAsg (asgN false 1) (mFn 3 f_run_end (aCons (getV 0) (aCons (getV 1) (aCons (cst (.str (" \n" : Str))) aNil)))))
theorem u_lexeme_at_1 {ρ : Env'} {q : RS → Prop} : ws (b_lexeme_at_1 ρ) q = ws ((sAsg (asgN false 1) (mFn 3 f_run_end (aCons (getV 0) (aCons (getV 1) (aCons (cst (.str (" \n" : Str))) aNil))))) ρ) q := (rfl)
noncomputable def b_lexeme_at_2 : Env' → RS := (sIf (mTB (mBin fEq (getV 1) (mCall gLen (aCons (getV 0) aNil)))) (sRet (mTup (aCons (cst (.str ("end" : Str))) (aCons (cst (.str ("" : Str))) (aCons (getV 1) aNil))))) sNil)
theorem u_lexeme_at_2 {ρ : Env'} {q : RS → Prop} : ws (b_lexeme_at_2 ρ) q = ws ((sIf (mTB (mBin fEq (getV 1) (mCall gLen (aCons (getV 0) aNil)))) (sRet (mTup (aCons (cst (.str ("end" : Str))) (aCons (cst (.str ("" : Str))) (aCons (getV 1) aNil))))) sNil) ρ) q := (rfl)
noncomputable def b_lexeme_at_3 : Env' → RS := (sIf (mTB (mBin fIn (mBin fIx (getV 0) (getV 1)) (cst (.str ("(),:;=+-<#" : Str))))) (sRet (mTup (aCons (cst (.str ("sign" : Str))) (aCons (mBin fIx (getV 0) (getV 1)) (aCons (getV 1) aNil))))) sNil)
theorem u_lexeme_at_3 {ρ : Env'} {q : RS → Prop} : ws (b_lexeme_at_3 ρ) q = ws ((sIf (mTB (mBin fIn (mBin fIx (getV 0) (getV 1)) (cst (.str ("(),:;=+-<#" : Str))))) (sRet (mTup (aCons (cst (.str ("sign" : Str))) (aCons (mBin fIx (getV 0) (getV 1)) (aCons (getV 1) aNil))))) sNil) ρ) q := (rfl)
noncomputable def b_lexeme_at_4 : Env' → RS := (sIf (mTB (mBin fEq (mBin fIx (getV 0) (getV 1)) (cst (.str ("0" : Str))))) (sRet (mTup (aCons (cst (.str ("numeral" : Str))) (aCons (cst (.str ("0" : Str))) (aCons (getV 1) aNil))))) sNil)
theorem u_lexeme_at_4 {ρ : Env'} {q : RS → Prop} : ws (b_lexeme_at_4 ρ) q = ws ((sIf (mTB (mBin fEq (mBin fIx (getV 0) (getV 1)) (cst (.str ("0" : Str))))) (sRet (mTup (aCons (cst (.str ("numeral" : Str))) (aCons (cst (.str ("0" : Str))) (aCons (getV 1) aNil))))) sNil) ρ) q := (rfl)
noncomputable def b_lexeme_at_5 : Env' → RS := (sIf (mTB (mBin fIn (mBin fIx (getV 0) (getV 1)) (cst (.str ("0123456789" : Str))))) (sRet (mTup (aCons (cst (.str ("numeral" : Str))) (aCons (mSl (getV 0) (oSome (getV 1)) (oSome (mFn 3 f_run_end (aCons (getV 0) (aCons (getV 1) (aCons (cst (.str ("0123456789" : Str))) aNil)))))) (aCons (getV 1) aNil))))) sNil)
theorem u_lexeme_at_5 {ρ : Env'} {q : RS → Prop} : ws (b_lexeme_at_5 ρ) q = ws ((sIf (mTB (mBin fIn (mBin fIx (getV 0) (getV 1)) (cst (.str ("0123456789" : Str))))) (sRet (mTup (aCons (cst (.str ("numeral" : Str))) (aCons (mSl (getV 0) (oSome (getV 1)) (oSome (mFn 3 f_run_end (aCons (getV 0) (aCons (getV 1) (aCons (cst (.str ("0123456789" : Str))) aNil)))))) (aCons (getV 1) aNil))))) sNil) ρ) q := (rfl)
noncomputable def b_lexeme_at_6 : Env' → RS := (sIf (mTB (mBin fIn (mBin fIx (getV 0) (getV 1)) (mBin fAdd (cst (.str ("abcdefghijklmnopqrstuvwxyz" : Str))) (cst (.str ("ABCDEFGHIJKLMNOPQRSTUVWXYZ" : Str)))))) (sRet (mTup (aCons (cst (.str ("word" : Str))) (aCons (mSl (getV 0) (oSome (getV 1)) (oSome (mFn 3 f_run_end (aCons (getV 0) (aCons (getV 1) (aCons (mBin fAdd (mBin fAdd (cst (.str ("abcdefghijklmnopqrstuvwxyz" : Str))) (cst (.str ("ABCDEFGHIJKLMNOPQRSTUVWXYZ" : Str)))) (cst (.str ("0123456789" : Str)))) aNil)))))) (aCons (getV 1) aNil))))) sNil)
theorem u_lexeme_at_6 {ρ : Env'} {q : RS → Prop} : ws (b_lexeme_at_6 ρ) q = ws ((sIf (mTB (mBin fIn (mBin fIx (getV 0) (getV 1)) (mBin fAdd (cst (.str ("abcdefghijklmnopqrstuvwxyz" : Str))) (cst (.str ("ABCDEFGHIJKLMNOPQRSTUVWXYZ" : Str)))))) (sRet (mTup (aCons (cst (.str ("word" : Str))) (aCons (mSl (getV 0) (oSome (getV 1)) (oSome (mFn 3 f_run_end (aCons (getV 0) (aCons (getV 1) (aCons (mBin fAdd (mBin fAdd (cst (.str ("abcdefghijklmnopqrstuvwxyz" : Str))) (cst (.str ("ABCDEFGHIJKLMNOPQRSTUVWXYZ" : Str)))) (cst (.str ("0123456789" : Str)))) aNil)))))) (aCons (getV 1) aNil))))) sNil) ρ) q := (rfl)
noncomputable def b_lexeme_at_7 : Env' → RS := (sRet (mTup (aCons (cst (.str ("wrong" : Str))) (aCons (cst (.str ("" : Str))) (aCons (getV 1) aNil)))))
theorem u_lexeme_at_7 {ρ : Env'} {q : RS → Prop} : ws (b_lexeme_at_7 ρ) q = ws ((sRet (mTup (aCons (cst (.str ("wrong" : Str))) (aCons (cst (.str ("" : Str))) (aCons (getV 1) aNil))))) ρ) q := (rfl)
noncomputable def b_lexeme_at : Env' → RS :=
  (sSeq b_lexeme_at_1
  (sSeq b_lexeme_at_2
  (sSeq b_lexeme_at_3
  (sSeq b_lexeme_at_4
  (sSeq b_lexeme_at_5
  (sSeq b_lexeme_at_6
  b_lexeme_at_7))))))
theorem u_lexeme_at {ρ : Env'} {q : RS → Prop} : ws (b_lexeme_at ρ) q = ws ((sSeq b_lexeme_at_1
  (sSeq b_lexeme_at_2
  (sSeq b_lexeme_at_3
  (sSeq b_lexeme_at_4
  (sSeq b_lexeme_at_5
  (sSeq b_lexeme_at_6
  b_lexeme_at_7)))))) ρ) q := (rfl)
noncomputable abbrev f_lexeme_at : List SV → RF := runF 2 b_lexeme_at
abbrev n_lexemes : List Str := [("text" : Str), ("found" : Str), ("here" : Str)]
noncomputable def wc_lexemes_1 : Env' → R Bool := (mTB (mBin fNe (mBin fIx (getV 2) (cst (.int 0))) (cst (.str ("end" : Str)))))
theorem uc_lexemes_1 {ρ : Env'} {q : Bool → Env' → Prop} {E : Ex → Env' → Prop} : sat (wc_lexemes_1 ρ) q E = sat ((mTB (mBin fNe (mBin fIx (getV 2) (cst (.int 0))) (cst (.str ("end" : Str))))) ρ) q E := (rfl)
noncomputable def wb_lexemes_1 : Env' → RS := (sSeq (sIf (mTB (mBin fEq (mBin fIx (getV 2) (cst (.int 0))) (cst (.str ("wrong" : Str))))) (sRaise ("BadText" : Str) [("place" : Str)] (aCons (mBin fIx (getV 2) (cst (.int 2))) aNil)) sNil)
  (sSeq (sExpr (mApp 1 (aCons (getV 2) aNil)))
  (sAsg (asgN false 2) (mFn 2 f_lexeme_at (aCons (getV 0) (aCons (mBin fAdd (mBin fIx (getV 2) (cst (.int 2))) (mCall gLen (aCons (mBin fIx (getV 2) (cst (.int 1))) aNil))) aNil))))))
theorem ub_lexemes_1 {ρ : Env'} {q : RS → Prop} : ws (wb_lexemes_1 ρ) q = ws ((sSeq (sIf (mTB (mBin fEq (mBin fIx (getV 2) (cst (.int 0))) (cst (.str ("wrong" : Str))))) (sRaise ("BadText" : Str) [("place" : Str)] (aCons (mBin fIx (getV 2) (cst (.int 2))) aNil)) sNil)
  (sSeq (sExpr (mApp 1 (aCons (getV 2) aNil)))
  (sAsg (asgN false 2) (mFn 2 f_lexeme_at (aCons (getV 0) (aCons (mBin fAdd (mBin fIx (getV 2) (cst (.int 2))) (mCall gLen (aCons (mBin fIx (getV 2) (cst (.int 1))) aNil))) aNil)))))) ρ) q := (rfl)
noncomputable def b_lexemes : Env' → RS :=
  (sSeq (sPar [(true, 1), (false, 2)] (oCons (mLst aNil) (oCons (mFn 2 f_lexeme_at (aCons (getV 0) (aCons (cst (.int 0)) aNil))) aNil)))
  (sSeq (sWhile wc_lexemes_1 wb_lexemes_1)
  (sRet (getV 1))))
theorem u_lexemes {ρ : Env'} {q : RS → Prop} : ws (b_lexemes ρ) q = ws ((sSeq (sPar [(true, 1), (false, 2)] (oCons (mLst aNil) (oCons (mFn 2 f_lexeme_at (aCons (getV 0) (aCons (cst (.int 0)) aNil))) aNil)))
  (sSeq (sWhile wc_lexemes_1 wb_lexemes_1)
  (sRet (getV 1)))) ρ) q := (rfl)
noncomputable abbrev f_lexemes : List SV → RF := runF 3 b_lexemes
abbrev n_is_word : List Str := [("value" : Str), ("firsts" : Str), ("sign" : Str)]
noncomputable def b_is_word : Env' → RS :=
  (sSeq (sIf (mOr (mNot (mTru (mIsi "str" (getV 0)))) (mOr (mNot (mTB (mChain fLt fLe (cst (.int 0)) (mCall gLen (aCons (getV 0) aNil)) (cst (.int 12))))) (mTB (mBin fNotIn (mBin fIx (getV 0) (cst (.int 0))) (getV 1))))) (sRet (cst (.bool false))) sNil)
  (sRet (mCall gAll (aCons (mLc (iSeq (mSl (getV 0) (oSome (cst (.int 1))) oNone)) [2] (asgN false 2) tYes' (mBin fIn (getV 2) (mBin fAdd (cst (.str ("abcdefghijklmnopqrstuvwxyz" : Str))) (cst (.str ("0123456789" : Str)))))) aNil))))
theorem u_is_word {ρ : Env'} {q : RS → Prop} : ws (b_is_word ρ) q = ws ((sSeq (sIf (mOr (mNot (mTru (mIsi "str" (getV 0)))) (mOr (mNot (mTB (mChain fLt fLe (cst (.int 0)) (mCall gLen (aCons (getV 0) aNil)) (cst (.int 12))))) (mTB (mBin fNotIn (mBin fIx (getV 0) (cst (.int 0))) (getV 1))))) (sRet (cst (.bool false))) sNil)
  (sRet (mCall gAll (aCons (mLc (iSeq (mSl (getV 0) (oSome (cst (.int 1))) oNone)) [2] (asgN false 2) tYes' (mBin fIn (getV 2) (mBin fAdd (cst (.str ("abcdefghijklmnopqrstuvwxyz" : Str))) (cst (.str ("0123456789" : Str)))))) aNil)))) ρ) q := (rfl)
noncomputable abbrev f_is_word : List SV → RF := runF 3 b_is_word
abbrev n_is_name : List Str := [("value" : Str)]
noncomputable def b_is_name : Env' → RS :=
  (sRet (mAndV (mFn 2 f_is_word (aCons (getV 0) (aCons (cst (.str ("abcdefghijklmnopqrstuvwxyz" : Str))) aNil))) (mBin fNotIn (getV 0) (cst (.tuple (([("alike" : Str), ("ask" : Str), ("audit" : Str), ("bound" : Str), ("case" : Str), ("digest" : Str), ("else" : Str), ("end" : Str), ("from" : Str), ("fun" : Str), ("if" : Str), ("in" : Str), ("kind" : Str), ("let" : Str), ("num" : Str), ("of" : Str), ("open" : Str), ("or" : Str), ("seal" : Str), ("set" : Str), ("store" : Str), ("then" : Str), ("undo" : Str)] : List Str).map .str))))))
theorem u_is_name {ρ : Env'} {q : RS → Prop} : ws (b_is_name ρ) q = ws ((sRet (mAndV (mFn 2 f_is_word (aCons (getV 0) (aCons (cst (.str ("abcdefghijklmnopqrstuvwxyz" : Str))) aNil))) (mBin fNotIn (getV 0) (cst (.tuple (([("alike" : Str), ("ask" : Str), ("audit" : Str), ("bound" : Str), ("case" : Str), ("digest" : Str), ("else" : Str), ("end" : Str), ("from" : Str), ("fun" : Str), ("if" : Str), ("in" : Str), ("kind" : Str), ("let" : Str), ("num" : Str), ("of" : Str), ("open" : Str), ("or" : Str), ("seal" : Str), ("set" : Str), ("store" : Str), ("then" : Str), ("undo" : Str)] : List Str).map .str)))))) ρ) q := (rfl)
noncomputable abbrev f_is_name : List SV → RF := runF 1 b_is_name
abbrev n_is_tag : List Str := [("value" : Str)]
noncomputable def b_is_tag : Env' → RS :=
  (sRet (mFn 2 f_is_word (aCons (getV 0) (aCons (cst (.str ("ABCDEFGHIJKLMNOPQRSTUVWXYZ" : Str))) aNil))))
theorem u_is_tag {ρ : Env'} {q : RS → Prop} : ws (b_is_tag ρ) q = ws ((sRet (mFn 2 f_is_word (aCons (getV 0) (aCons (cst (.str ("ABCDEFGHIJKLMNOPQRSTUVWXYZ" : Str))) aNil)))) ρ) q := (rfl)
noncomputable abbrev f_is_tag : List SV → RF := runF 1 b_is_tag
abbrev n_L_source : List Str := [("script" : Str), ("mixed" : Str), ("cell" : Str)]
noncomputable abbrev b_L_source : Env' → RS := s_source
noncomputable abbrev f_L_source : List SV → RF := fm_source
abbrev n_L_pick : List Str := [("source" : Str), ("many" : Str), ("left" : Str), ("mixed" : Str)]
noncomputable abbrev b_L_pick : Env' → RS := s_pick
noncomputable abbrev f_L_pick : List SV → RF := fm_pick
abbrev n_L_of : List Str := [("source" : Str), ("some" : Str)]
noncomputable abbrev b_L_of : Env' → RS := s_of
noncomputable abbrev f_L_of : List SV → RF := fm_of
abbrev n_L_kept : List Str := [("text" : Str)]
noncomputable def b_L_kept : Env' → RS :=
  (sSeq (sAsg (asgN false 0) (cst (.str ("alike ask audit bound case digest else end from fun if in kind let num of open or seal set store then undo" : Str))))
  (sRet (mMet0 sSplit (getV 0))))
theorem u_L_kept {ρ : Env'} {q : RS → Prop} : ws (b_L_kept ρ) q = ws ((sSeq (sAsg (asgN false 0) (cst (.str ("alike ask audit bound case digest else end from fun if in kind let num of open or seal set store then undo" : Str))))
  (sRet (mMet0 sSplit (getV 0)))) ρ) q := (rfl)
noncomputable abbrev f_L_kept : List SV → RF := runF 1 b_L_kept
abbrev n_L_lexemes : List Str := [("text" : Str), ("small" : Str), ("figures" : Str), ("found" : Str), ("place" : Str), ("signs" : Str), ("sign" : Str), ("end" : Str)]
noncomputable def b_L_lexemes_1 : Env' → RS := (sAsg (asgN false 1) (cst (.str ("abcdefghijklmnopqrstuvwxyz" : Str))))
theorem u_L_lexemes_1 {ρ : Env'} {q : RS → Prop} : ws (b_L_lexemes_1 ρ) q = ws ((sAsg (asgN false 1) (cst (.str ("abcdefghijklmnopqrstuvwxyz" : Str)))) ρ) q := (rfl)
noncomputable def b_L_lexemes_2 : Env' → RS := (sPar [(false, 2), (true, 3), (false, 4)] (oCons (cst (.str ("0123456789" : Str))) (oCons (mLst aNil) (oCons (cst (.int 0)) aNil))))
theorem u_L_lexemes_2 {ρ : Env'} {q : RS → Prop} : ws (b_L_lexemes_2 ρ) q = ws ((sPar [(false, 2), (true, 3), (false, 4)] (oCons (cst (.str ("0123456789" : Str))) (oCons (mLst aNil) (oCons (cst (.int 0)) aNil)))) ρ) q := (rfl)
noncomputable def b_L_lexemes_3 : Env' → RS := (sAsg (asgN false 5) (mBin fAdd (mBin fAdd (getV 1) (mMet0 sUpper (getV 1))) (getV 2)))
theorem u_L_lexemes_3 {ρ : Env'} {q : RS → Prop} : ws (b_L_lexemes_3 ρ) q = ws ((sAsg (asgN false 5) (mBin fAdd (mBin fAdd (getV 1) (mMet0 sUpper (getV 1))) (getV 2))) ρ) q := (rfl)
noncomputable def wc_L_lexemes_1 : Env' → R Bool := (mAnd (mTB (mBin fNe (getV 6) (cst (.str ("0" : Str))))) (mAnd (mTB (mBin fLt (getV 7) (mCall gLen (aCons (getV 0) aNil)))) (mTB (mBin fIn (mBin fIx (getV 0) (getV 7)) (getV 2)))))
theorem uc_L_lexemes_1 {ρ : Env'} {q : Bool → Env' → Prop} {E : Ex → Env' → Prop} : sat (wc_L_lexemes_1 ρ) q E = sat ((mAnd (mTB (mBin fNe (getV 6) (cst (.str ("0" : Str))))) (mAnd (mTB (mBin fLt (getV 7) (mCall gLen (aCons (getV 0) aNil)))) (mTB (mBin fIn (mBin fIx (getV 0) (getV 7)) (getV 2))))) ρ) q E := (rfl)
noncomputable def wb_L_lexemes_1 : Env' → RS := (sAsg (asgN false 7) (mBin fAdd (getV 7) (cst (.int 1))))
theorem ub_L_lexemes_1 {ρ : Env'} {q : RS → Prop} : ws (wb_L_lexemes_1 ρ) q = ws ((sAsg (asgN false 7) (mBin fAdd (getV 7) (cst (.int 1)))) ρ) q := (rfl)
noncomputable def wc_L_lexemes_2 : Env' → R Bool := (mAnd (mTB (mBin fLt (getV 7) (mCall gLen (aCons (getV 0) aNil)))) (mTB (mBin fIn (mBin fIx (getV 0) (getV 7)) (getV 5))))
theorem uc_L_lexemes_2 {ρ : Env'} {q : Bool → Env' → Prop} {E : Ex → Env' → Prop} : sat (wc_L_lexemes_2 ρ) q E = sat ((mAnd (mTB (mBin fLt (getV 7) (mCall gLen (aCons (getV 0) aNil)))) (mTB (mBin fIn (mBin fIx (getV 0) (getV 7)) (getV 5)))) ρ) q E := (rfl)
noncomputable def wb_L_lexemes_2 : Env' → RS := (sAsg (asgN false 7) (mBin fAdd (getV 7) (cst (.int 1))))
theorem ub_L_lexemes_2 {ρ : Env'} {q : RS → Prop} : ws (wb_L_lexemes_2 ρ) q = ws ((sAsg (asgN false 7) (mBin fAdd (getV 7) (cst (.int 1)))) ρ) q := (rfl)
noncomputable def wc_L_lexemes_3 : Env' → R Bool := (mTB (mBin fLt (getV 4) (mCall gLen (aCons (getV 0) aNil))))
theorem uc_L_lexemes_3 {ρ : Env'} {q : Bool → Env' → Prop} {E : Ex → Env' → Prop} : sat (wc_L_lexemes_3 ρ) q E = sat ((mTB (mBin fLt (getV 4) (mCall gLen (aCons (getV 0) aNil)))) ρ) q E := (rfl)
noncomputable def wb_L_lexemes_3 : Env' → RS := (sSeq (sPar [(false, 6), (false, 7)] (oCons (mBin fIx (getV 0) (getV 4)) (oCons (mBin fAdd (getV 4) (cst (.int 1))) aNil)))
  (sSeq (sIf (mTB (mBin fIn (getV 6) (cst (.str ("(),:;=+-<#" : Str))))) (sExpr (mApp 3 (aCons (mTup (aCons (cst (.str ("sign" : Str))) (aCons (getV 6) (aCons (getV 4) aNil)))) aNil))) (sIf (mTB (mBin fIn (getV 6) (getV 2))) (sSeq (sWhile wc_L_lexemes_1 wb_L_lexemes_1)
  (sExpr (mApp 3 (aCons (mTup (aCons (cst (.str ("numeral" : Str))) (aCons (mSl (getV 0) (oSome (getV 4)) (oSome (getV 7))) (aCons (getV 4) aNil)))) aNil)))) (sIf (mTB (mBin fIn (getV 6) (getV 5))) (sSeq (sWhile wc_L_lexemes_2 wb_L_lexemes_2)
  (sExpr (mApp 3 (aCons (mTup (aCons (cst (.str ("word" : Str))) (aCons (mSl (getV 0) (oSome (getV 4)) (oSome (getV 7))) (aCons (getV 4) aNil)))) aNil)))) (sIf (mTB (mBin fNotIn (getV 6) (cst (.str (" \n" : Str))))) (sRet (mBin fAdd (getV 3) (mLst (aCons (mTup (aCons (cst (.str ("wrong" : Str))) (aCons (cst (.str ("" : Str))) (aCons (getV 4) aNil)))) aNil)))) sNil))))
  (sAsg (asgN false 4) (getV 7))))
theorem ub_L_lexemes_3 {ρ : Env'} {q : RS → Prop} : ws (wb_L_lexemes_3 ρ) q = ws ((sSeq (sPar [(false, 6), (false, 7)] (oCons (mBin fIx (getV 0) (getV 4)) (oCons (mBin fAdd (getV 4) (cst (.int 1))) aNil)))
  (sSeq (sIf (mTB (mBin fIn (getV 6) (cst (.str ("(),:;=+-<#" : Str))))) (sExpr (mApp 3 (aCons (mTup (aCons (cst (.str ("sign" : Str))) (aCons (getV 6) (aCons (getV 4) aNil)))) aNil))) (sIf (mTB (mBin fIn (getV 6) (getV 2))) (sSeq (sWhile wc_L_lexemes_1 wb_L_lexemes_1)
  (sExpr (mApp 3 (aCons (mTup (aCons (cst (.str ("numeral" : Str))) (aCons (mSl (getV 0) (oSome (getV 4)) (oSome (getV 7))) (aCons (getV 4) aNil)))) aNil)))) (sIf (mTB (mBin fIn (getV 6) (getV 5))) (sSeq (sWhile wc_L_lexemes_2 wb_L_lexemes_2)
  (sExpr (mApp 3 (aCons (mTup (aCons (cst (.str ("word" : Str))) (aCons (mSl (getV 0) (oSome (getV 4)) (oSome (getV 7))) (aCons (getV 4) aNil)))) aNil)))) (sIf (mTB (mBin fNotIn (getV 6) (cst (.str (" \n" : Str))))) (sRet (mBin fAdd (getV 3) (mLst (aCons (mTup (aCons (cst (.str ("wrong" : Str))) (aCons (cst (.str ("" : Str))) (aCons (getV 4) aNil)))) aNil)))) sNil))))
  (sAsg (asgN false 4) (getV 7)))) ρ) q := (rfl)
noncomputable def b_L_lexemes_4 : Env' → RS := (sWhile wc_L_lexemes_3 wb_L_lexemes_3)
theorem u_L_lexemes_4 {ρ : Env'} {q : RS → Prop} : ws (b_L_lexemes_4 ρ) q = ws ((sWhile wc_L_lexemes_3 wb_L_lexemes_3) ρ) q := (rfl)
noncomputable def b_L_lexemes_5 : Env' → RS := (sRet (mBin fAdd (getV 3) (mLst (aCons (mTup (aCons (cst (.str ("end" : Str))) (aCons (cst (.str ("" : Str))) (aCons (mCall gLen (aCons (getV 0) aNil)) aNil)))) aNil))))
theorem u_L_lexemes_5 {ρ : Env'} {q : RS → Prop} : ws (b_L_lexemes_5 ρ) q = ws ((sRet (mBin fAdd (getV 3) (mLst (aCons (mTup (aCons (cst (.str ("end" : Str))) (aCons (cst (.str ("" : Str))) (aCons (mCall gLen (aCons (getV 0) aNil)) aNil)))) aNil)))) ρ) q := (rfl)
noncomputable def b_L_lexemes : Env' → RS :=
  (sSeq b_L_lexemes_1
  (sSeq b_L_lexemes_2
  (sSeq b_L_lexemes_3
  (sSeq b_L_lexemes_4
  b_L_lexemes_5))))
theorem u_L_lexemes {ρ : Env'} {q : RS → Prop} : ws (b_L_lexemes ρ) q = ws ((sSeq b_L_lexemes_1
  (sSeq b_L_lexemes_2
  (sSeq b_L_lexemes_3
  (sSeq b_L_lexemes_4
  b_L_lexemes_5)))) ρ) q := (rfl)
noncomputable abbrev f_L_lexemes : List SV → RF := runF 8 b_L_lexemes
abbrev n_L_is_name : List Str := [("value" : Str), ("sort" : Str), ("small" : Str), ("sign" : Str)]
noncomputable def b_L_is_name_1 : Env' → RS := (sAsg (asgN false 2) (cst (.str ("abcdefghijklmnopqrstuvwxyz" : Str))))
theorem u_L_is_name_1 {ρ : Env'} {q : RS → Prop} : ws (b_L_is_name_1 ρ) q = ws ((sAsg (asgN false 2) (cst (.str ("abcdefghijklmnopqrstuvwxyz" : Str)))) ρ) q := (rfl)
noncomputable def b_L_is_name_2 : Env' → RS := (sIf (mOr (mNot (mTru (mIsi "str" (getV 0)))) (mOr (mTB (mBin fLt (mCall gLen (aCons (getV 0) aNil)) (cst (.int 1)))) (mTB (mBin fGt (mCall gLen (aCons (getV 0) aNil)) (cst (.int 12)))))) (sRet (cst (.bool false))) sNil)
theorem u_L_is_name_2 {ρ : Env'} {q : RS → Prop} : ws (b_L_is_name_2 ρ) q = ws ((sIf (mOr (mNot (mTru (mIsi "str" (getV 0)))) (mOr (mTB (mBin fLt (mCall gLen (aCons (getV 0) aNil)) (cst (.int 1)))) (mTB (mBin fGt (mCall gLen (aCons (getV 0) aNil)) (cst (.int 12)))))) (sRet (cst (.bool false))) sNil) ρ) q := (rfl)
noncomputable def b_L_is_name_3 : Env' → RS := (sIf (mTB (mBin fNotIn (mBin fIx (getV 0) (cst (.int 0))) (mIf (mTB (mBin fEq (getV 1) (cst (.str ("small" : Str))))) (getV 2) (mMet0 sUpper (getV 2))))) (sRet (cst (.bool false))) sNil)
theorem u_L_is_name_3 {ρ : Env'} {q : RS → Prop} : ws (b_L_is_name_3 ρ) q = ws ((sIf (mTB (mBin fNotIn (mBin fIx (getV 0) (cst (.int 0))) (mIf (mTB (mBin fEq (getV 1) (cst (.str ("small" : Str))))) (getV 2) (mMet0 sUpper (getV 2))))) (sRet (cst (.bool false))) sNil) ρ) q := (rfl)
noncomputable def b_L_is_name_4 : Env' → RS := (sRet (mAndV (mBin fEq (mLc (iSeq (mSl (getV 0) (oSome (cst (.int 1))) oNone)) [3] (asgN false 3) (mTB (mBin fNotIn (getV 3) (mBin fAdd (getV 2) (cst (.str ("0123456789" : Str)))))) (getV 3)) (mLst aNil)) (mBin fNotIn (getV 0) (fun ρ => callF 0 f_L_kept [] ρ))))
theorem u_L_is_name_4 {ρ : Env'} {q : RS → Prop} : ws (b_L_is_name_4 ρ) q = ws ((sRet (mAndV (mBin fEq (mLc (iSeq (mSl (getV 0) (oSome (cst (.int 1))) oNone)) [3] (asgN false 3) (mTB (mBin fNotIn (getV 3) (mBin fAdd (getV 2) (cst (.str ("0123456789" : Str)))))) (getV 3)) (mLst aNil)) (mBin fNotIn (getV 0) (fun ρ => callF 0 f_L_kept [] ρ)))) ρ) q := (rfl)
noncomputable def b_L_is_name : Env' → RS :=
  (sSeq b_L_is_name_1
  (sSeq b_L_is_name_2
  (sSeq b_L_is_name_3
  b_L_is_name_4)))
theorem u_L_is_name {ρ : Env'} {q : RS → Prop} : ws (b_L_is_name ρ) q = ws ((sSeq b_L_is_name_1
  (sSeq b_L_is_name_2
  (sSeq b_L_is_name_3
  b_L_is_name_4))) ρ) q := (rfl)
noncomputable abbrev f_L_is_name : List SV → RF := runF 4 b_L_is_name
abbrev n_L_told_lexemes : List Str := [("text" : Str), ("error" : Str)]
noncomputable def b_L_told_lexemes : Env' → RS :=
  (sTry 1 [(("BadText" : Str), true)] (sRet (mTup (aCons (cst (.str ("told" : Str))) (aCons (mFn 1 f_lexemes (aCons (getV 0) aNil)) aNil)))) (fun x => sRet (mTup (aCons (cst (.str ("refused" : Str))) (aCons (mXf ("place" : Str) x) aNil)))))
theorem u_L_told_lexemes {ρ : Env'} {q : RS → Prop} : ws (b_L_told_lexemes ρ) q = ws ((sTry 1 [(("BadText" : Str), true)] (sRet (mTup (aCons (cst (.str ("told" : Str))) (aCons (mFn 1 f_lexemes (aCons (getV 0) aNil)) aNil)))) (fun x => sRet (mTup (aCons (cst (.str ("refused" : Str))) (aCons (mXf ("place" : Str) x) aNil))))) ρ) q := (rfl)
noncomputable abbrev f_L_told_lexemes : List SV → RF := runF 2 b_L_told_lexemes
abbrev n_law : List Str := [("script" : Str), ("source" : Str), ("some" : Str), ("lap" : Str), ("text" : Str), ("k" : Str), ("due" : Str), ("values" : Str), ("value" : Str)]
noncomputable def b_law_1 : Env' → RS := (sAsg (asgN true 1) (mFn 1 fm_source (aCons (getV 0) aNil)))
theorem u_law_1 {ρ : Env'} {q : RS → Prop} : ws (b_law_1 ρ) q = ws ((sAsg (asgN true 1) (mFn 1 fm_source (aCons (getV 0) aNil))) ρ) q := (rfl)
noncomputable def b_law_2 : Env' → RS := (sAsg (asgN false 2) (mLst (aCons (cst (.str ("a" : Str))) (aCons (cst (.str ("ab" : Str))) (aCons (cst (.str ("X" : Str))) (aCons (cst (.str ("Xs1" : Str))) (aCons (cst (.str ("x0" : Str))) (aCons (cst (.str ("seal" : Str))) (aCons (cst (.str ("in" : Str))) (aCons (cst (.str ("007" : Str))) (aCons (cst (.str ("12" : Str))) (aCons (cst (.str ("0" : Str))) (aCons (cst (.str ("(" : Str))) (aCons (cst (.str (")" : Str))) (aCons (cst (.str ("," : Str))) (aCons (cst (.str (":" : Str))) (aCons (cst (.str (";" : Str))) (aCons (cst (.str ("=" : Str))) (aCons (cst (.str ("+" : Str))) (aCons (cst (.str ("-" : Str))) aNil))))))))))))))))))))
theorem u_law_2 {ρ : Env'} {q : RS → Prop} : ws (b_law_2 ρ) q = ws ((sAsg (asgN false 2) (mLst (aCons (cst (.str ("a" : Str))) (aCons (cst (.str ("ab" : Str))) (aCons (cst (.str ("X" : Str))) (aCons (cst (.str ("Xs1" : Str))) (aCons (cst (.str ("x0" : Str))) (aCons (cst (.str ("seal" : Str))) (aCons (cst (.str ("in" : Str))) (aCons (cst (.str ("007" : Str))) (aCons (cst (.str ("12" : Str))) (aCons (cst (.str ("0" : Str))) (aCons (cst (.str ("(" : Str))) (aCons (cst (.str (")" : Str))) (aCons (cst (.str ("," : Str))) (aCons (cst (.str (":" : Str))) (aCons (cst (.str (";" : Str))) (aCons (cst (.str ("=" : Str))) (aCons (cst (.str ("+" : Str))) (aCons (cst (.str ("-" : Str))) aNil)))))))))))))))))))) ρ) q := (rfl)
noncomputable def b_law_3 : Env' → RS := (sAsg (asgN false 2) (mBin fAdd (getV 2) (mLst (aCons (cst (.str ("<" : Str))) (aCons (cst (.str ("#" : Str))) (aCons (cst (.str (" " : Str))) (aCons (cst (.str ("\n" : Str))) (aCons (cst (.str ("z9Q" : Str))) (aCons (cst (.str ("9999" : Str))) aNil)))))))))
theorem u_law_3 {ρ : Env'} {q : RS → Prop} : ws (b_law_3 ρ) q = ws ((sAsg (asgN false 2) (mBin fAdd (getV 2) (mLst (aCons (cst (.str ("<" : Str))) (aCons (cst (.str ("#" : Str))) (aCons (cst (.str (" " : Str))) (aCons (cst (.str ("\n" : Str))) (aCons (cst (.str ("z9Q" : Str))) (aCons (cst (.str ("9999" : Str))) aNil))))))))) ρ) q := (rfl)
noncomputable def b_law_4 : Env' → RS := (sAsg (asgN false 4) (mMet sJoin (cst (.str ("" : Str))) (aCons (mLc (iCall rng1 (aCons (mFn 2 fm_pick (aCons (getV 1) (aCons (cst (.int 12)) aNil))) aNil)) [5] (asgN false 5) tYes' (mFn 2 fm_of (aCons (getV 1) (aCons (getV 2) aNil)))) aNil)))
theorem u_law_4 {ρ : Env'} {q : RS → Prop} : ws (b_law_4 ρ) q = ws ((sAsg (asgN false 4) (mMet sJoin (cst (.str ("" : Str))) (aCons (mLc (iCall rng1 (aCons (mFn 2 fm_pick (aCons (getV 1) (aCons (cst (.int 12)) aNil))) aNil)) [5] (asgN false 5) tYes' (mFn 2 fm_of (aCons (getV 1) (aCons (getV 2) aNil)))) aNil))) ρ) q := (rfl)
noncomputable def b_law_5 : Env' → RS := (sIf (mTB (mBin fEq (mFn 2 fm_pick (aCons (getV 1) (aCons (cst (.int 3)) aNil))) (cst (.int 0)))) (sSeq (sAsg (asgN false 5) (mFn 2 fm_pick (aCons (getV 1) (aCons (mBin fAdd (mCall gLen (aCons (getV 4) aNil)) (cst (.int 1))) aNil))))
  (sAsg (asgN false 4) (mBin fAdd (mBin fAdd (mSl (getV 4) oNone (oSome (getV 5))) (mFn 2 fm_of (aCons (getV 1) (aCons (mLst (aCons (cst (.str ("?" : Str))) (aCons (cst (.str ("." : Str))) (aCons (cst (.str ("	" : Str))) (aCons (cst (.str (">" : Str))) (aCons (cst (.str ("_" : Str))) (aCons (cst (.str ("*" : Str))) aNil))))))) aNil)))) (mSl (getV 4) (oSome (getV 5)) oNone)))) sNil)
theorem u_law_5 {ρ : Env'} {q : RS → Prop} : ws (b_law_5 ρ) q = ws ((sIf (mTB (mBin fEq (mFn 2 fm_pick (aCons (getV 1) (aCons (cst (.int 3)) aNil))) (cst (.int 0)))) (sSeq (sAsg (asgN false 5) (mFn 2 fm_pick (aCons (getV 1) (aCons (mBin fAdd (mCall gLen (aCons (getV 4) aNil)) (cst (.int 1))) aNil))))
  (sAsg (asgN false 4) (mBin fAdd (mBin fAdd (mSl (getV 4) oNone (oSome (getV 5))) (mFn 2 fm_of (aCons (getV 1) (aCons (mLst (aCons (cst (.str ("?" : Str))) (aCons (cst (.str ("." : Str))) (aCons (cst (.str ("	" : Str))) (aCons (cst (.str (">" : Str))) (aCons (cst (.str ("_" : Str))) (aCons (cst (.str ("*" : Str))) aNil))))))) aNil)))) (mSl (getV 4) (oSome (getV 5)) oNone)))) sNil) ρ) q := (rfl)
noncomputable def b_law_6 : Env' → RS := (sAsg (asgN false 6) (mFn 1 f_L_lexemes (aCons (getV 4) aNil)))
theorem u_law_6 {ρ : Env'} {q : RS → Prop} : ws (b_law_6 ρ) q = ws ((sAsg (asgN false 6) (mFn 1 f_L_lexemes (aCons (getV 4) aNil))) ρ) q := (rfl)
noncomputable def b_law_7 : Env' → RS := (sAsg (asgN false 6) (mIf (mTB (mBin fEq (mBin fIx (mBin fIx (getV 6) (mUn fNeg (cst (.int 1)))) (cst (.int 0))) (cst (.str ("end" : Str))))) (mTup (aCons (cst (.str ("told" : Str))) (aCons (mSl (getV 6) oNone (oSome (mUn fNeg (cst (.int 1))))) aNil))) (mTup (aCons (cst (.str ("refused" : Str))) (aCons (mBin fIx (mBin fIx (getV 6) (mUn fNeg (cst (.int 1)))) (cst (.int 2))) aNil)))))
theorem u_law_7 {ρ : Env'} {q : RS → Prop} : ws (b_law_7 ρ) q = ws ((sAsg (asgN false 6) (mIf (mTB (mBin fEq (mBin fIx (mBin fIx (getV 6) (mUn fNeg (cst (.int 1)))) (cst (.int 0))) (cst (.str ("end" : Str))))) (mTup (aCons (cst (.str ("told" : Str))) (aCons (mSl (getV 6) oNone (oSome (mUn fNeg (cst (.int 1))))) aNil))) (mTup (aCons (cst (.str ("refused" : Str))) (aCons (mBin fIx (mBin fIx (getV 6) (mUn fNeg (cst (.int 1)))) (cst (.int 2))) aNil))))) ρ) q := (rfl)
noncomputable def b_law_8 : Env' → RS := (sIf (mTB (mBin fNe (mCall fRepr (aCons (mFn 1 f_L_told_lexemes (aCons (getV 4) aNil)) aNil)) (mCall fRepr (aCons (getV 6) aNil)))) (sRet (cst (.bool false))) sNil)
theorem u_law_8 {ρ : Env'} {q : RS → Prop} : ws (b_law_8 ρ) q = ws ((sIf (mTB (mBin fNe (mCall fRepr (aCons (mFn 1 f_L_told_lexemes (aCons (getV 4) aNil)) aNil)) (mCall fRepr (aCons (getV 6) aNil)))) (sRet (cst (.bool false))) sNil) ρ) q := (rfl)
noncomputable def b_law_9 : Env' → RS := (sFor (iCall rng1 (aCons (cst (.int 8)) aNil)) (asgN false 3) (sSeq b_law_4
  (sSeq b_law_5
  (sSeq b_law_6
  (sSeq b_law_7
  b_law_8)))))
theorem u_law_9 {ρ : Env'} {q : RS → Prop} : ws (b_law_9 ρ) q = ws ((sFor (iCall rng1 (aCons (cst (.int 8)) aNil)) (asgN false 3) (sSeq b_law_4
  (sSeq b_law_5
  (sSeq b_law_6
  (sSeq b_law_7
  b_law_8))))) ρ) q := (rfl)
noncomputable def b_law_10 : Env' → RS := (sAsg (asgN false 7) (mLst (aCons (cst .none) (aCons (cst (.bool true)) (aCons (cst (.int 0)) (aCons (mTup aNil) (aCons (mTup (aCons (cst (.str ("a" : Str))) aNil)) (aCons (mLst (aCons (cst (.str ("a" : Str))) aNil)) (aCons (cst (.str ("" : Str))) (aCons (cst (.str ("a" : Str))) (aCons (cst (.str ("aB" : Str))) (aCons (cst (.str ("a1" : Str))) (aCons (cst (.str ("1a" : Str))) (aCons (cst (.str ("x" : Str))) (aCons (cst (.str ("xX" : Str))) (aCons (cst (.str ("X" : Str))) (aCons (cst (.str ("Xx" : Str))) (aCons (cst (.str ("XX" : Str))) (aCons (cst (.str ("X1b" : Str))) (aCons (mBin fMulT (cst (.str ("x" : Str))) (cst (.int 12))) aNil))))))))))))))))))))
theorem u_law_10 {ρ : Env'} {q : RS → Prop} : ws (b_law_10 ρ) q = ws ((sAsg (asgN false 7) (mLst (aCons (cst .none) (aCons (cst (.bool true)) (aCons (cst (.int 0)) (aCons (mTup aNil) (aCons (mTup (aCons (cst (.str ("a" : Str))) aNil)) (aCons (mLst (aCons (cst (.str ("a" : Str))) aNil)) (aCons (cst (.str ("" : Str))) (aCons (cst (.str ("a" : Str))) (aCons (cst (.str ("aB" : Str))) (aCons (cst (.str ("a1" : Str))) (aCons (cst (.str ("1a" : Str))) (aCons (cst (.str ("x" : Str))) (aCons (cst (.str ("xX" : Str))) (aCons (cst (.str ("X" : Str))) (aCons (cst (.str ("Xx" : Str))) (aCons (cst (.str ("XX" : Str))) (aCons (cst (.str ("X1b" : Str))) (aCons (mBin fMulT (cst (.str ("x" : Str))) (cst (.int 12))) aNil)))))))))))))))))))) ρ) q := (rfl)
noncomputable def b_law_11 : Env' → RS := (sAsg (asgN false 7) (mBin fAdd (getV 7) (mLst (aCons (mBin fMulT (cst (.str ("x" : Str))) (cst (.int 13))) (aCons (mBin fAdd (cst (.str ("X" : Str))) (mBin fMulT (cst (.str ("x" : Str))) (cst (.int 11)))) (aCons (mBin fAdd (cst (.str ("X" : Str))) (mBin fMulT (cst (.str ("x" : Str))) (cst (.int 12)))) (aCons (cst (.str ("Open" : Str))) (aCons (cst (.str ("opens" : Str))) (aCons (cst (.str ("A" : Str))) (aCons (cst (.str ("x-" : Str))) (aCons (cst (.str ("B2" : Str))) (aCons (cst (.str ("#" : Str))) (aCons (cst (.str ("a b" : Str))) aNil)))))))))))))
theorem u_law_11 {ρ : Env'} {q : RS → Prop} : ws (b_law_11 ρ) q = ws ((sAsg (asgN false 7) (mBin fAdd (getV 7) (mLst (aCons (mBin fMulT (cst (.str ("x" : Str))) (cst (.int 13))) (aCons (mBin fAdd (cst (.str ("X" : Str))) (mBin fMulT (cst (.str ("x" : Str))) (cst (.int 11)))) (aCons (mBin fAdd (cst (.str ("X" : Str))) (mBin fMulT (cst (.str ("x" : Str))) (cst (.int 12)))) (aCons (cst (.str ("Open" : Str))) (aCons (cst (.str ("opens" : Str))) (aCons (cst (.str ("A" : Str))) (aCons (cst (.str ("x-" : Str))) (aCons (cst (.str ("B2" : Str))) (aCons (cst (.str ("#" : Str))) (aCons (cst (.str ("a b" : Str))) aNil))))))))))))) ρ) q := (rfl)
noncomputable def b_law_12 : Env' → RS := (sFor (iSeq (mBin fAdd (mBin fAdd (getV 7) (fun ρ => callF 0 f_L_kept [] ρ)) (mLst (aCons (mBin fAdd (mFn 2 fm_of (aCons (getV 1) (aCons (fun ρ => callF 0 f_L_kept [] ρ) aNil))) (cst (.str ("1" : Str)))) aNil)))) (asgN false 8) (sSeq (sAsg (asgN false 6) (mLst (aCons (mFn 2 f_L_is_name (aCons (getV 8) (aCons (cst (.str ("small" : Str))) aNil))) (aCons (mFn 2 f_L_is_name (aCons (getV 8) (aCons (cst (.str ("big" : Str))) aNil))) aNil))))
  (sIf (mTB (mBin fNe (mCall fRepr (aCons (mLst (aCons (mFn 1 f_is_name (aCons (getV 8) aNil)) (aCons (mFn 1 f_is_tag (aCons (getV 8) aNil)) aNil))) aNil)) (mCall fRepr (aCons (getV 6) aNil)))) (sRet (cst (.bool false))) sNil)))
theorem u_law_12 {ρ : Env'} {q : RS → Prop} : ws (b_law_12 ρ) q = ws ((sFor (iSeq (mBin fAdd (mBin fAdd (getV 7) (fun ρ => callF 0 f_L_kept [] ρ)) (mLst (aCons (mBin fAdd (mFn 2 fm_of (aCons (getV 1) (aCons (fun ρ => callF 0 f_L_kept [] ρ) aNil))) (cst (.str ("1" : Str)))) aNil)))) (asgN false 8) (sSeq (sAsg (asgN false 6) (mLst (aCons (mFn 2 f_L_is_name (aCons (getV 8) (aCons (cst (.str ("small" : Str))) aNil))) (aCons (mFn 2 f_L_is_name (aCons (getV 8) (aCons (cst (.str ("big" : Str))) aNil))) aNil))))
  (sIf (mTB (mBin fNe (mCall fRepr (aCons (mLst (aCons (mFn 1 f_is_name (aCons (getV 8) aNil)) (aCons (mFn 1 f_is_tag (aCons (getV 8) aNil)) aNil))) aNil)) (mCall fRepr (aCons (getV 6) aNil)))) (sRet (cst (.bool false))) sNil))) ρ) q := (rfl)
noncomputable def b_law_13 : Env' → RS := (sRet (mBin fEq (mBin fIx (mFn 1 f_lexemes (aCons (cst (.str ("T(x0)" : Str))) aNil)) (cst (.int 2))) (mTup (aCons (cst (.str ("word" : Str))) (aCons (cst (.str ("x0" : Str))) (aCons (cst (.int 2)) aNil))))))
theorem u_law_13 {ρ : Env'} {q : RS → Prop} : ws (b_law_13 ρ) q = ws ((sRet (mBin fEq (mBin fIx (mFn 1 f_lexemes (aCons (cst (.str ("T(x0)" : Str))) aNil)) (cst (.int 2))) (mTup (aCons (cst (.str ("word" : Str))) (aCons (cst (.str ("x0" : Str))) (aCons (cst (.int 2)) aNil)))))) ρ) q := (rfl)
noncomputable def b_law : Env' → RS :=
  (sSeq b_law_1
  (sSeq b_law_2
  (sSeq b_law_3
  (sSeq b_law_9
  (sSeq b_law_10
  (sSeq b_law_11
  (sSeq b_law_12
  b_law_13)))))))
theorem u_law {ρ : Env'} {q : RS → Prop} : ws (b_law ρ) q = ws ((sSeq b_law_1
  (sSeq b_law_2
  (sSeq b_law_3
  (sSeq b_law_9
  (sSeq b_law_10
  (sSeq b_law_11
  (sSeq b_law_12
  b_law_13))))))) ρ) q := (rfl)
noncomputable abbrev f_law : List SV → RF := runF 9 b_law
/-! ### the walk -/
section
variable {P : Program} {w : World} {K : Fg} {mg : Str → Option Value} {base : Heap}
theorem c_run_end' (wd : WdY fas fns inis exF K mg) (pf : PF P) : Cal P w K mg base ("run_end" : Str) 3 1 f_run_end := by
  obtain ⟨fd, F⟩ := wd.says.def_ 0 (d := D_run_end) rfl
  have sc : FnScope n_run_end [("text" : Str), ("place" : Str), ("signs" : Str)] (defScope (top 11)) := ⟨rfl, rfl, rfl, by decide +kernel, rfl, by decide +kernel, by decide +kernel⟩
  refine cal_of F (wd.glo 0 ("run_end" : Str) rfl) sc (fun _ _ _ _ _ _ us hl => match us, hl with | [_, _, _], _ => rfl) fun cdv A outer st H E hr => ?_
  exact (as_cons (as_while ppF (AW.t (aw_and (at_cmp o_lt (ae_var 1) (ae_callB (g_len) rfl (wd.free 14 ("len" : Str) rfl) bt_len (aa_cons (ae_var 0) aa_nil)) (by first | exact nomark _ | rfl)) (aw_and1 (at_cmp o_in (ae_ix hr.u1 (ae_var 0) (ae_var 1)) (ae_var 2) (by first | exact nomark _ | rfl))))) (as_one (as_aug 1 sc.nd o_iadd' ae_int)))
  (as_one (as_ret (ae_var 1))))
theorem c_lexeme_at' (wd : WdY fas fns inis exF K mg) (pf : PF P) : Cal P w K mg base ("lexeme_at" : Str) 2 2 f_lexeme_at := by
  have c_run_end := c_run_end' (P := P) (w := w) (base := base) wd pf
  obtain ⟨fd, F⟩ := wd.says.def_ 1 (d := D_lexeme_at) rfl
  have sc : FnScope n_lexeme_at [("text" : Str), ("place" : Str)] (defScope (top 12)) := ⟨rfl, rfl, rfl, by decide +kernel, rfl, by decide +kernel, by decide +kernel⟩
  refine cal_of F (wd.glo 1 ("lexeme_at" : Str) rfl) sc (fun _ _ _ _ _ _ us hl => match us, hl with | [_, _], _ => rfl) fun cdv A outer st H E hr => ?_
  exact (as_cons (as_set false 1 sc.nd (ae_cal c_run_end (hr.mono (by decide)) rfl tkF (aa_cons (ae_var 0) (aa_cons (ae_var 1) (aa_cons (ae_gstr (wd.gstr 15 ("BLANKS" : Str) (" \n" : Str) rfl) rfl) aa_nil)))))
  (as_cons (as_if (at_cmp (o_eq hr.u2100) (ae_var 1) (ae_callB (g_len) rfl (wd.free 14 ("len" : Str) rfl) bt_len (aa_cons (ae_var 0) aa_nil)) (by first | exact nomark _ | rfl)) (as_one (as_ret (ae_tup (aa_cons ae_str (aa_cons ae_str (aa_cons (ae_var 1) aa_nil)))))) as_nil)
  (as_cons (as_if (at_cmp o_in (ae_ix hr.u1 (ae_var 0) (ae_var 1)) (ae_gstr (wd.gstr 16 ("SIGNS" : Str) ("(),:;=+-<#" : Str) rfl) rfl) (by first | exact nomark _ | rfl)) (as_one (as_ret (ae_tup (aa_cons ae_str (aa_cons (ae_ix hr.u1 (ae_var 0) (ae_var 1)) (aa_cons (ae_var 1) aa_nil)))))) as_nil)
  (as_cons (as_if (at_cmp (o_eq hr.u2100) (ae_ix hr.u1 (ae_var 0) (ae_var 1)) ae_str (by first | exact nomark _ | rfl)) (as_one (as_ret (ae_tup (aa_cons ae_str (aa_cons ae_str (aa_cons (ae_var 1) aa_nil)))))) as_nil)
  (as_cons (as_if (at_cmp o_in (ae_ix hr.u1 (ae_var 0) (ae_var 1)) (ae_gstr (wd.gstr 17 ("FIGURES" : Str) ("0123456789" : Str) rfl) rfl) (by first | exact nomark _ | rfl)) (as_one (as_ret (ae_tup (aa_cons ae_str (aa_cons (ae_sl (ae_var 0) (ao_some (ae_var 1)) (ao_some (ae_cal c_run_end (hr.mono (by decide)) rfl tkF (aa_cons (ae_var 0) (aa_cons (ae_var 1) (aa_cons (ae_gstr (wd.gstr 17 ("FIGURES" : Str) ("0123456789" : Str) rfl) rfl) aa_nil)))))) (aa_cons (ae_var 1) aa_nil)))))) as_nil)
  (as_cons (as_if (at_cmp o_in (ae_ix hr.u1 (ae_var 0) (ae_var 1)) (ae_bin o_add (ae_gstr (wd.gstr 18 ("SMALL" : Str) ("abcdefghijklmnopqrstuvwxyz" : Str) rfl) rfl) (ae_gstr (wd.gstr 19 ("BIG" : Str) ("ABCDEFGHIJKLMNOPQRSTUVWXYZ" : Str) rfl) rfl)) (by first | exact nomark _ | rfl)) (as_one (as_ret (ae_tup (aa_cons ae_str (aa_cons (ae_sl (ae_var 0) (ao_some (ae_var 1)) (ao_some (ae_cal c_run_end (hr.mono (by decide)) rfl tkF (aa_cons (ae_var 0) (aa_cons (ae_var 1) (aa_cons (ae_bin o_add (ae_bin o_add (ae_gstr (wd.gstr 18 ("SMALL" : Str) ("abcdefghijklmnopqrstuvwxyz" : Str) rfl) rfl) (ae_gstr (wd.gstr 19 ("BIG" : Str) ("ABCDEFGHIJKLMNOPQRSTUVWXYZ" : Str) rfl) rfl)) (ae_gstr (wd.gstr 17 ("FIGURES" : Str) ("0123456789" : Str) rfl) rfl)) aa_nil)))))) (aa_cons (ae_var 1) aa_nil)))))) as_nil)
  (as_one (as_ret (ae_tup (aa_cons ae_str (aa_cons ae_str (aa_cons (ae_var 1) aa_nil))))))))))))
theorem c_lexemes' (wd : WdY fas fns inis exF K mg) (pf : PF P) : Cal P w K mg base ("lexemes" : Str) 1 3 f_lexemes := by
  have c_lexeme_at := c_lexeme_at' (P := P) (w := w) (base := base) wd pf
  have e_BadText := e_BadText' (P := P) (w := w) (base := base) wd pf
  obtain ⟨fd, F⟩ := wd.says.def_ 2 (d := D_lexemes) rfl
  have sc : FnScope n_lexemes [("text" : Str)] (defScope (top 13)) := ⟨rfl, rfl, rfl, by decide +kernel, rfl, by decide +kernel, by decide +kernel⟩
  refine cal_of F (wd.glo 2 ("lexemes" : Str) rfl) sc (fun _ _ _ _ _ _ us hl => match us, hl with | [_], _ => rfl) fun cdv A outer st H E hr => ?_
  exact (as_cons (as_par2 1 2 rfl sc.nd (oa_cons (ae_lst aa_nil) (oa_cons (ae_cal c_lexeme_at (hr.mono (by decide)) rfl tkF (aa_cons (ae_var 0) (aa_cons ae_int aa_nil))) oa_nil)))
  (as_cons (as_while ppF (at_cmp (o_ne hr.u2100) (ae_ix hr.u1 (ae_var 2) ae_int) ae_str (by first | exact nomark _ | rfl)) (as_cons (as_if (at_cmp (o_eq hr.u2100) (ae_ix hr.u1 (ae_var 2) ae_int) ae_str (by first | exact nomark _ | rfl)) (as_one (as_raiseC e_BadText (by decide) rfl tkF (hr.mono (by decide)) rfl (aa_cons (ae_ix hr.u1 (ae_var 2) ae_int) aa_nil))) as_nil)
  (as_cons (as_expr (ae_app 1 (aa_cons (ae_var 2) aa_nil)))
  (as_one (as_set false 2 sc.nd (ae_cal c_lexeme_at (hr.mono (by decide)) rfl tkF (aa_cons (ae_var 0) (aa_cons (ae_bin o_add (ae_ix hr.u1 (ae_var 2) ae_int) (ae_callB (g_len) rfl (wd.free 14 ("len" : Str) rfl) bt_len (aa_cons (ae_ix hr.u1 (ae_var 2) ae_int) aa_nil))) aa_nil))))))))
  (as_one (as_ret (ae_var 1)))))
theorem c_is_word' (wd : WdY fas fns inis exF K mg) (pf : PF P) : Cal P w K mg base ("is_word" : Str) 2 1 f_is_word := by
  obtain ⟨fd, F⟩ := wd.says.def_ 3 (d := D_is_word) rfl
  have sc : FnScope n_is_word [("value" : Str), ("firsts" : Str)] (defScope (top 14)) := ⟨rfl, rfl, rfl, by decide +kernel, rfl, by decide +kernel, by decide +kernel⟩
  refine cal_of F (wd.glo 3 ("is_word" : Str) rfl) sc (fun _ _ _ _ _ _ us hl => match us, hl with | [_, _], _ => rfl) fun cdv A outer st H E hr => ?_
  exact (as_cons (as_if (AW.t (aw_or (at_not (at_truth (ae_isi isi_str (ae_var 0) rfl (wd.free 22 ("isinstance" : Str) rfl) bt_isinstance rfl (wd.free 23 ("str" : Str) rfl) bt_str))) (aw_or (at_not (at_chain o_lt o_le ae_int (ae_callB (g_len) rfl (wd.free 14 ("len" : Str) rfl) bt_len (aa_cons (ae_var 0) aa_nil)) (ae_gint (wd.gint 24 ("MOST_SIGNS" : Str) 12 rfl) rfl))) (aw_or1 (at_cmp o_notIn (ae_ix hr.u1 (ae_var 0) ae_int) (ae_var 1) (by first | exact nomark _ | rfl)))))) (as_one (as_ret ae_bl)) as_nil)
  (as_one (as_ret (ae_callB (g_all rfl) rfl (wd.free 25 ("all" : Str) rfl) bt_all (aa_cons (ae_lc rfl sc.nd (own := [(("sign" : Str), 2)]) (ai_seq (ae_sl (ae_var 0) (ao_some ae_int) ao_none)) (blk_of (N := n_is_word) (sc := (defScope (top 14))) (by decide +kernel)) (fun _ _ _ _ _ => (ag_name false 2 sc.nd)) (fun _ _ _ _ _ => ats_nil) (fun _ _ _ _ _ => (ae_cmp o_in (ae_var 2) (ae_bin o_add (ae_gstr (wd.gstr 18 ("SMALL" : Str) ("abcdefghijklmnopqrstuvwxyz" : Str) rfl) rfl) (ae_gstr (wd.gstr 17 ("FIGURES" : Str) ("0123456789" : Str) rfl) rfl)) (by first | exact nomark _ | rfl))) (by decide)) aa_nil)))))
theorem c_is_name' (wd : WdY fas fns inis exF K mg) (pf : PF P) : Cal P w K mg base ("is_name" : Str) 1 2 f_is_name := by
  have c_is_word := c_is_word' (P := P) (w := w) (base := base) wd pf
  obtain ⟨fd, F⟩ := wd.says.def_ 4 (d := D_is_name) rfl
  have sc : FnScope n_is_name [("value" : Str)] (defScope (top 15)) := ⟨rfl, rfl, rfl, by decide +kernel, rfl, by decide +kernel, by decide +kernel⟩
  refine cal_of F (wd.glo 4 ("is_name" : Str) rfl) sc (fun _ _ _ _ _ _ us hl => match us, hl with | [_], _ => rfl) fun cdv A outer st H E hr => ?_
  exact (as_one (as_ret (ae_and (ae_cal c_is_word (hr.mono (by decide)) rfl tkF (aa_cons (ae_var 0) (aa_cons (ae_gstr (wd.gstr 18 ("SMALL" : Str) ("abcdefghijklmnopqrstuvwxyz" : Str) rfl) rfl) aa_nil))) (ae_one (ae_cmp o_notIn (ae_var 0) (ae_gtup (x_KEPT wd) (wd.glo 26 ("KEPT" : Str) rfl) rfl (by decide)) (by first | exact nomark _ | rfl))))))
theorem c_is_tag' (wd : WdY fas fns inis exF K mg) (pf : PF P) : Cal P w K mg base ("is_tag" : Str) 1 2 f_is_tag := by
  have c_is_word := c_is_word' (P := P) (w := w) (base := base) wd pf
  obtain ⟨fd, F⟩ := wd.says.def_ 5 (d := D_is_tag) rfl
  have sc : FnScope n_is_tag [("value" : Str)] (defScope (top 16)) := ⟨rfl, rfl, rfl, by decide +kernel, rfl, by decide +kernel, by decide +kernel⟩
  refine cal_of F (wd.glo 5 ("is_tag" : Str) rfl) sc (fun _ _ _ _ _ _ us hl => match us, hl with | [_], _ => rfl) fun cdv A outer st H E hr => ?_
  exact (as_one (as_ret (ae_cal c_is_word (hr.mono (by decide)) rfl tkF (aa_cons (ae_var 0) (aa_cons (ae_gstr (wd.gstr 19 ("BIG" : Str) ("ABCDEFGHIJKLMNOPQRSTUVWXYZ" : Str) rfl) rfl) aa_nil)))))
theorem c_L_source' (wd : WdY fas fns inis exF K mg) (pf : PF P) : Cal P w K mg base ("_law_source" : Str) 1 1 f_L_source := by
  obtain ⟨fd, F⟩ := wd.says.def_ 6 (d := D_L_source) rfl
  have sc : FnScope n_L_source [("script" : Str)] (defScope (top 18)) := ⟨rfl, rfl, rfl, by decide +kernel, rfl, by decide +kernel, by decide +kernel⟩
  refine cal_of F (wd.glo 6 ("_law_source" : Str) rfl) sc (fun _ _ _ _ _ _ us hl => match us, hl with | [_], _ => rfl) fun cdv A outer st H E hr => ?_
  exact (as_cons (as_set false 1 sc.nd ae_int)
  (as_cons (as_for ppF rfl (ai_seq (ae_var 0)) (ag_name false 2 sc.nd) (as_one (as_set false 1 sc.nd (ae_bin o_mod (ae_callTy g_int rfl (wd.free 27 ("int" : Str) rfl) bt_int (aa_cons (ae_bin o_add (ae_bin o_add (ae_bin o_mulS (ae_var 1) ae_int) (ae_bin o_mulS (ae_var 2) ae_int)) ae_int) aa_nil)) ae_int))))
  (as_one (as_ret (ae_disp (ad_str (ae_rev (ae_lc rfl sc.nd (own := [(("cell" : Str), 2)]) (ai_seq (ae_var 0)) (blk_of (N := n_L_source) (sc := (defScope (top 18))) (by decide +kernel)) (fun _ _ _ _ _ => (ag_name false 2 sc.nd)) (fun _ _ _ _ _ => ats_nil) (fun _ _ _ _ _ => (ae_callB g_abs rfl (wd.free 28 ("abs" : Str) rfl) bt_abs (aa_cons (ae_var 2) aa_nil))) (by decide))) (ad_str ae_int (ad_str (ae_var 1) (ad_str ae_int ad_nil)))))))))
theorem c_L_pick' (wd : WdY fas fns inis exF K mg) (pf : PF P) : Cal P w K mg base ("_law_pick" : Str) 2 1 f_L_pick := by
  obtain ⟨fd, F⟩ := wd.says.def_ 7 (d := D_L_pick) rfl
  have sc : FnScope n_L_pick [("source" : Str), ("many" : Str)] (defScope (top 19)) := ⟨rfl, rfl, rfl, by decide +kernel, rfl, by decide +kernel, by decide +kernel⟩
  refine cal_of F (wd.glo 7 ("_law_pick" : Str) rfl) sc (fun _ _ _ _ _ _ us hl => match us, hl with | [_, _], _ => rfl) fun cdv A outer st H E hr => ?_
  exact (as_cons (as_while ppF (AW.t (aw_and (at_cmp o_gt (ae_var 1) ae_int (by first | exact nomark _ | rfl)) (aw_and (at_cmp o_lt (ae_fld 0 hr.u1 (ae_var 0)) ae_int (by first | exact nomark _ | rfl)) (aw_and1 (at_cmp o_gt (ae_fldLen 0 hr.u1 (ae_var 0) rfl (wd.free 14 ("len" : Str) rfl)) ae_int (by first | exact nomark _ | rfl)))))) (as_one (as_fld 0 hr.u1 (ae_var 0) (ae_fldPop 0 hr.u1 (ae_var 0)))))
  (as_cons (as_set false 2 sc.nd (ae_fld 0 hr.u1 (ae_var 0)))
  (as_cons (as_if (AW.t (aw_or (at_cmp o_lt (ae_var 1) ae_int (by first | exact nomark _ | rfl)) (aw_or1 (at_cmp o_gt (ae_var 2) ae_int (by first | exact nomark _ | rfl))))) (as_cons (as_fld 0 hr.u1 (ae_var 0) (ae_bin o_div (ae_var 2) (ae_callB (g_max rfl) rfl (wd.free 29 ("max" : Str) rfl) bt_max (aa_cons ae_int (aa_cons (ae_var 1) aa_nil)))))
  (as_one (as_ret (ae_bin o_mod (ae_callTy g_int rfl (wd.free 27 ("int" : Str) rfl) bt_int (aa_cons (ae_var 2) aa_nil)) (ae_callB (g_max rfl) rfl (wd.free 29 ("max" : Str) rfl) bt_max (aa_cons ae_int (aa_cons (ae_var 1) aa_nil))))))) as_nil)
  (as_cons (as_fld 0 hr.u1 (ae_var 0) (ae_bin o_add (ae_fld 0 hr.u1 (ae_var 0)) ae_int))
  (as_cons (as_set false 3 sc.nd (ae_bin o_mod (ae_callTy g_int rfl (wd.free 27 ("int" : Str) rfl) bt_int (aa_cons (ae_bin o_add (ae_fld 0 hr.u1 (ae_var 0)) (ae_bin o_mulS (ae_fld 0 hr.u1 (ae_var 0)) ae_int)) aa_nil)) ae_int))
  (as_cons (as_set false 3 sc.nd (ae_bin o_mod (ae_callTy g_int rfl (wd.free 27 ("int" : Str) rfl) bt_int (aa_cons (ae_bin o_add (ae_bin o_mulS (ae_var 3) (ae_var 3)) (ae_bin o_mulS (ae_fld 0 hr.u1 (ae_var 0)) ae_int)) aa_nil)) ae_int))
  (as_cons (as_fld 0 hr.u1 (ae_var 0) (ae_var 3))
  (as_one (as_ret (ae_bin o_mod (ae_callTy g_int rfl (wd.free 27 ("int" : Str) rfl) bt_int (aa_cons (ae_bin o_div (ae_var 3) ae_int) aa_nil)) (ae_var 1)))))))))))
theorem c_L_of' (wd : WdY fas fns inis exF K mg) (pf : PF P) : Cal P w K mg base ("_law_of" : Str) 2 2 f_L_of := by
  have c_L_pick := c_L_pick' (P := P) (w := w) (base := base) wd pf
  obtain ⟨fd, F⟩ := wd.says.def_ 8 (d := D_L_of) rfl
  have sc : FnScope n_L_of [("source" : Str), ("some" : Str)] (defScope (top 20)) := ⟨rfl, rfl, rfl, by decide +kernel, rfl, by decide +kernel, by decide +kernel⟩
  refine cal_of F (wd.glo 8 ("_law_of" : Str) rfl) sc (fun _ _ _ _ _ _ us hl => match us, hl with | [_, _], _ => rfl) fun cdv A outer st H E hr => ?_
  exact (as_one (as_ret (ae_ix hr.u1 (ae_var 1) (ae_cal c_L_pick (hr.mono (by decide)) rfl tkF (aa_cons (ae_var 0) (aa_cons (ae_callB (g_len) rfl (wd.free 14 ("len" : Str) rfl) bt_len (aa_cons (ae_var 1) aa_nil)) aa_nil))))))
theorem c_L_kept' (wd : WdY fas fns inis exF K mg) (pf : PF P) : Cal P w K mg base ("_law_kept" : Str) 0 1 f_L_kept := by
  obtain ⟨fd, F⟩ := wd.says.def_ 9 (d := D_L_kept) rfl
  have sc : FnScope n_L_kept [] (defScope (top 21)) := ⟨rfl, rfl, rfl, by decide +kernel, rfl, by decide +kernel, by decide +kernel⟩
  refine cal_of F (wd.glo 9 ("_law_kept" : Str) rfl) sc (fun _ _ _ _ _ _ us hl => match us, hl with | [], _ => rfl) fun cdv A outer st H E hr => ?_
  exact (as_cons (as_set false 0 sc.nd ae_str)
  (as_one (as_ret (ae_met0 PySem.F.slot_str_split PySem.F.type_str_split g_split (ae_var 0)))))
theorem c_L_lexemes' (wd : WdY fas fns inis exF K mg) (pf : PF P) : Cal P w K mg base ("_law_lexemes" : Str) 1 1 f_L_lexemes := by
  obtain ⟨fd, F⟩ := wd.says.def_ 10 (d := D_L_lexemes) rfl
  have sc : FnScope n_L_lexemes [("text" : Str)] (defScope (top 22)) := ⟨rfl, rfl, rfl, by decide +kernel, rfl, by decide +kernel, by decide +kernel⟩
  refine cal_of F (wd.glo 10 ("_law_lexemes" : Str) rfl) sc (fun _ _ _ _ _ _ us hl => match us, hl with | [_], _ => rfl) fun cdv A outer st H E hr => ?_
  exact (as_cons (as_set false 1 sc.nd ae_str)
  (as_cons (as_par3 2 3 4 rfl sc.nd (oa_cons ae_str (oa_cons (ae_lst aa_nil) (oa_cons ae_int oa_nil))))
  (as_cons (as_set false 5 sc.nd (ae_bin o_add (ae_bin o_add (ae_var 1) (ae_met0 PySem.F.slot_str_upper PySem.F.type_str_upper g_upper (ae_var 1))) (ae_var 2)))
  (as_cons (as_while ppF (at_cmp o_lt (ae_var 4) (ae_callB (g_len) rfl (wd.free 14 ("len" : Str) rfl) bt_len (aa_cons (ae_var 0) aa_nil)) (by first | exact nomark _ | rfl)) (as_cons (as_par2 6 7 rfl sc.nd (oa_cons (ae_ix hr.u1 (ae_var 0) (ae_var 4)) (oa_cons (ae_bin o_add (ae_var 4) ae_int) oa_nil)))
  (as_cons (as_if (at_cmp o_in (ae_var 6) ae_str (by first | exact nomark _ | rfl)) (as_one (as_expr (ae_app 3 (aa_cons (ae_tup (aa_cons ae_str (aa_cons (ae_var 6) (aa_cons (ae_var 4) aa_nil)))) aa_nil)))) (as_one (as_if (at_cmp o_in (ae_var 6) (ae_var 2) (by first | exact nomark _ | rfl)) (as_cons (as_while ppF (AW.t (aw_and (at_cmp (o_ne hr.u2100) (ae_var 6) ae_str (by first | exact nomark _ | rfl)) (aw_and (at_cmp o_lt (ae_var 7) (ae_callB (g_len) rfl (wd.free 14 ("len" : Str) rfl) bt_len (aa_cons (ae_var 0) aa_nil)) (by first | exact nomark _ | rfl)) (aw_and1 (at_cmp o_in (ae_ix hr.u1 (ae_var 0) (ae_var 7)) (ae_var 2) (by first | exact nomark _ | rfl)))))) (as_one (as_set false 7 sc.nd (ae_bin o_add (ae_var 7) ae_int))))
  (as_one (as_expr (ae_app 3 (aa_cons (ae_tup (aa_cons ae_str (aa_cons (ae_sl (ae_var 0) (ao_some (ae_var 4)) (ao_some (ae_var 7))) (aa_cons (ae_var 4) aa_nil)))) aa_nil))))) (as_one (as_if (at_cmp o_in (ae_var 6) (ae_var 5) (by first | exact nomark _ | rfl)) (as_cons (as_while ppF (AW.t (aw_and (at_cmp o_lt (ae_var 7) (ae_callB (g_len) rfl (wd.free 14 ("len" : Str) rfl) bt_len (aa_cons (ae_var 0) aa_nil)) (by first | exact nomark _ | rfl)) (aw_and1 (at_cmp o_in (ae_ix hr.u1 (ae_var 0) (ae_var 7)) (ae_var 5) (by first | exact nomark _ | rfl))))) (as_one (as_set false 7 sc.nd (ae_bin o_add (ae_var 7) ae_int))))
  (as_one (as_expr (ae_app 3 (aa_cons (ae_tup (aa_cons ae_str (aa_cons (ae_sl (ae_var 0) (ao_some (ae_var 4)) (ao_some (ae_var 7))) (aa_cons (ae_var 4) aa_nil)))) aa_nil))))) (as_one (as_if (at_cmp o_notIn (ae_var 6) ae_str (by first | exact nomark _ | rfl)) (as_one (as_ret (ae_bin o_add (ae_var 3) (ae_lst (aa_cons (ae_tup (aa_cons ae_str (aa_cons ae_str (aa_cons (ae_var 4) aa_nil)))) aa_nil))))) as_nil)))))))
  (as_one (as_set false 4 sc.nd (ae_var 7))))))
  (as_one (as_ret (ae_bin o_add (ae_var 3) (ae_lst (aa_cons (ae_tup (aa_cons ae_str (aa_cons ae_str (aa_cons (ae_callB (g_len) rfl (wd.free 14 ("len" : Str) rfl) bt_len (aa_cons (ae_var 0) aa_nil)) aa_nil)))) aa_nil)))))))))
theorem c_L_is_name' (wd : WdY fas fns inis exF K mg) (pf : PF P) : Cal P w K mg base ("_law_is_name" : Str) 2 2 f_L_is_name := by
  have c_L_kept := c_L_kept' (P := P) (w := w) (base := base) wd pf
  obtain ⟨fd, F⟩ := wd.says.def_ 11 (d := D_L_is_name) rfl
  have sc : FnScope n_L_is_name [("value" : Str), ("sort" : Str)] (defScope (top 23)) := ⟨rfl, rfl, rfl, by decide +kernel, rfl, by decide +kernel, by decide +kernel⟩
  refine cal_of F (wd.glo 11 ("_law_is_name" : Str) rfl) sc (fun _ _ _ _ _ _ us hl => match us, hl with | [_, _], _ => rfl) fun cdv A outer st H E hr => ?_
  exact (as_cons (as_set false 2 sc.nd ae_str)
  (as_cons (as_if (AW.t (aw_or (at_not (at_truth (ae_isi isi_str (ae_var 0) rfl (wd.free 22 ("isinstance" : Str) rfl) bt_isinstance rfl (wd.free 23 ("str" : Str) rfl) bt_str))) (aw_or (at_cmp o_lt (ae_callB (g_len) rfl (wd.free 14 ("len" : Str) rfl) bt_len (aa_cons (ae_var 0) aa_nil)) ae_int (by first | exact nomark _ | rfl)) (aw_or1 (at_cmp o_gt (ae_callB (g_len) rfl (wd.free 14 ("len" : Str) rfl) bt_len (aa_cons (ae_var 0) aa_nil)) ae_int (by first | exact nomark _ | rfl)))))) (as_one (as_ret ae_bl)) as_nil)
  (as_cons (as_if (at_cmp o_notIn (ae_ix hr.u1 (ae_var 0) ae_int) (ae_if (at_cmp (o_eq hr.u2100) (ae_var 1) ae_str (by first | exact nomark _ | rfl)) (ae_var 2) (ae_met0 PySem.F.slot_str_upper PySem.F.type_str_upper g_upper (ae_var 2))) (by first | exact nomark _ | rfl)) (as_one (as_ret ae_bl)) as_nil)
  (as_one (as_ret (ae_and (ae_cmp (o_eq hr.u2100) (ae_lc rfl sc.nd (own := [(("sign" : Str), 3)]) (ai_seq (ae_sl (ae_var 0) (ao_some ae_int) ao_none)) (blk_of (N := n_L_is_name) (sc := (defScope (top 23))) (by decide +kernel)) (fun _ _ _ _ _ => (ag_name false 3 sc.nd)) (fun _ _ _ _ _ => (ats_one (at_cmp o_notIn (ae_var 3) (ae_bin o_add (ae_var 2) ae_str) (by first | exact nomark _ | rfl)))) (fun _ _ _ _ _ => (ae_var 3)) (by decide)) (ae_lst aa_nil) (by first | exact nomark _ | rfl)) (ae_one (ae_cmp o_notIn (ae_var 0) (ae_cal0 c_L_kept (hr.mono (by decide)) rfl tkF) (by first | exact nomark _ | rfl)))))))))
theorem c_L_told_lexemes' (wd : WdY fas fns inis exF K mg) (pf : PF P) : Cal P w K mg base ("_law_told_lexemes" : Str) 1 4 f_L_told_lexemes := by
  have c_lexemes := c_lexemes' (P := P) (w := w) (base := base) wd pf
  obtain ⟨fd, F⟩ := wd.says.def_ 12 (d := D_L_told_lexemes) rfl
  have sc : FnScope n_L_told_lexemes [("text" : Str)] (defScope (top 24)) := ⟨rfl, rfl, rfl, by decide +kernel, rfl, by decide +kernel, by decide +kernel⟩
  refine cal_of F (wd.glo 12 ("_law_told_lexemes" : Str) rfl) sc (fun _ _ _ _ _ _ us hl => match us, hl with | [_], _ => rfl) fun cdv A outer st H E hr => ?_
  exact (as_one (as_try (i := 1) (tab := [(("BadText" : Str), true)]) rfl rfl sc.nd rfl rfl ⟨rfl, by decide, .inl (wd.glo 20 ("BadText" : Str) rfl)⟩ tkF (tab_cons (wd.says.fact 30 rfl) tab_nil) (fun W' pn xe tk' pp' => (as_one (as_ret (ae_tup (aa_cons ae_str (aa_cons (ae_cal c_lexemes (hr.mono (by decide)) rfl tk' (aa_cons (ae_var 0) aa_nil)) aa_nil)))))) (fun x a oe cls d pn hx hz hf => az_ret (az_tup (az_cons Zx.mono (AE.z ae_str) (az_cons Zx.mono (az_fldT hx (fldT_yes (exnB_xf (x_BadText wd)) (exnB_fld (x_BadText wd) (by decide)) fldT_nil) hz hf rfl rfl) az_nil))))))
theorem g_law {f : Addr} {fd : FuncData} (wd : WdY fas fns inis exF K mg) (pf : PF P) (F : FunD K D_law.name D_law.qual D_law.params D_law.body D_law.scope (D_law.dvs K) (D_law.kws K) f fd) : FnG P w K mg base 5 f fd ["script"] (spF K 1 f_law) := by
  have c_lexemes := c_lexemes' (P := P) (w := w) (base := base) wd pf
  have c_is_name := c_is_name' (P := P) (w := w) (base := base) wd pf
  have c_is_tag := c_is_tag' (P := P) (w := w) (base := base) wd pf
  have c_L_source := c_L_source' (P := P) (w := w) (base := base) wd pf
  have c_L_pick := c_L_pick' (P := P) (w := w) (base := base) wd pf
  have c_L_of := c_L_of' (P := P) (w := w) (base := base) wd pf
  have c_L_kept := c_L_kept' (P := P) (w := w) (base := base) wd pf
  have c_L_lexemes := c_L_lexemes' (P := P) (w := w) (base := base) wd pf
  have c_L_is_name := c_L_is_name' (P := P) (w := w) (base := base) wd pf
  have c_L_told_lexemes := c_L_told_lexemes' (P := P) (w := w) (base := base) wd pf
  have sc : FnScope n_law ["script"] (defScope (top 25)) := ⟨rfl, rfl, rfl, by decide +kernel, rfl, by decide +kernel, by decide +kernel⟩
  refine FnG.run' F sc fun cdv A outer st H E hr => ?_
  exact (as_cons (as_set true 1 sc.nd (ae_cal c_L_source (hr.mono (by decide)) rfl tkF (aa_cons (ae_var 0) aa_nil)))
  (as_cons (as_set false 2 sc.nd (ae_lst (aa_cons ae_str (aa_cons ae_str (aa_cons ae_str (aa_cons ae_str (aa_cons ae_str (aa_cons ae_str (aa_cons ae_str (aa_cons ae_str (aa_cons ae_str (aa_cons ae_str (aa_cons ae_str (aa_cons ae_str (aa_cons ae_str (aa_cons ae_str (aa_cons ae_str (aa_cons ae_str (aa_cons ae_str (aa_cons ae_str aa_nil))))))))))))))))))))
  (as_cons (as_set false 2 sc.nd (ae_bin o_add (ae_var 2) (ae_lst (aa_cons ae_str (aa_cons ae_str (aa_cons ae_str (aa_cons ae_str (aa_cons ae_str (aa_cons ae_str aa_nil)))))))))
  (as_cons (as_for ppF rfl (ai_rng1 rfl (wd.free 31 ("range" : Str) rfl) (aa_cons ae_int aa_nil)) (ag_name false 3 sc.nd) (as_cons (as_set false 4 sc.nd (ae_met PySem.F.slot_str_join PySem.F.type_str_join g_join ae_str (aa_cons (ae_lc rfl sc.nd (own := [(("k" : Str), 5)]) (ai_rng1 rfl (wd.free 31 ("range" : Str) rfl) (aa_cons (ae_cal c_L_pick (hr.mono (by decide)) rfl tkF (aa_cons (ae_var 1) (aa_cons ae_int aa_nil))) aa_nil)) (blk_of (N := n_law) (sc := (defScope (top 25))) (by decide +kernel)) (fun _ _ _ _ _ => (ag_name false 5 sc.nd)) (fun _ _ _ _ _ => ats_nil) (fun _ _ _ _ _ => (ae_cal c_L_of (hr.mono (by decide)) rfl tkB (aa_cons (ae_var 1) (aa_cons (ae_var 2) aa_nil)))) (by decide)) aa_nil)))
  (as_cons (as_if (at_cmp (o_eq hr.u2100) (ae_cal c_L_pick (hr.mono (by decide)) rfl tkF (aa_cons (ae_var 1) (aa_cons ae_int aa_nil))) ae_int (by first | exact nomark _ | rfl)) (as_cons (as_set false 5 sc.nd (ae_cal c_L_pick (hr.mono (by decide)) rfl tkF (aa_cons (ae_var 1) (aa_cons (ae_bin o_add (ae_callB (g_len) rfl (wd.free 14 ("len" : Str) rfl) bt_len (aa_cons (ae_var 4) aa_nil)) ae_int) aa_nil))))
  (as_one (as_set false 4 sc.nd (ae_bin o_add (ae_bin o_add (ae_sl (ae_var 4) ao_none (ao_some (ae_var 5))) (ae_cal c_L_of (hr.mono (by decide)) rfl tkF (aa_cons (ae_var 1) (aa_cons (ae_lst (aa_cons ae_str (aa_cons ae_str (aa_cons ae_str (aa_cons ae_str (aa_cons ae_str (aa_cons ae_str aa_nil))))))) aa_nil)))) (ae_sl (ae_var 4) (ao_some (ae_var 5)) ao_none))))) as_nil)
  (as_cons (as_set false 6 sc.nd (ae_cal c_L_lexemes (hr.mono (by decide)) rfl tkF (aa_cons (ae_var 4) aa_nil)))
  (as_cons (as_set false 6 sc.nd (ae_if (at_cmp (o_eq hr.u2100) (ae_ix hr.u1 (ae_ix hr.u1 (ae_var 6) (ae_un o_neg ae_int)) ae_int) ae_str (by first | exact nomark _ | rfl)) (ae_tup (aa_cons ae_str (aa_cons (ae_sl (ae_var 6) ao_none (ao_some (ae_un o_neg ae_int))) aa_nil))) (ae_tup (aa_cons ae_str (aa_cons (ae_ix hr.u1 (ae_ix hr.u1 (ae_var 6) (ae_un o_neg ae_int)) ae_int) aa_nil)))))
  (as_one (as_if (at_cmp (o_ne hr.u2100) (ae_callB (g_repr hr.u2100 hr.gd) rfl (wd.free 32 ("repr" : Str) rfl) bt_repr (aa_cons (ae_cal c_L_told_lexemes (hr.mono (by decide)) rfl tkF (aa_cons (ae_var 4) aa_nil)) aa_nil)) (ae_callB (g_repr hr.u2100 hr.gd) rfl (wd.free 32 ("repr" : Str) rfl) bt_repr (aa_cons (ae_var 6) aa_nil)) (by first | exact nomark _ | rfl)) (as_one (as_ret ae_bl)) as_nil)))))))
  (as_cons (as_set false 7 sc.nd (ae_lst (aa_cons ae_non (aa_cons ae_bl (aa_cons ae_int (aa_cons (ae_tup aa_nil) (aa_cons (ae_tup (aa_cons ae_str aa_nil)) (aa_cons (ae_lst (aa_cons ae_str aa_nil)) (aa_cons ae_str (aa_cons ae_str (aa_cons ae_str (aa_cons ae_str (aa_cons ae_str (aa_cons ae_str (aa_cons ae_str (aa_cons ae_str (aa_cons ae_str (aa_cons ae_str (aa_cons ae_str (aa_cons (ae_bin o_mulT ae_str ae_int) aa_nil))))))))))))))))))))
  (as_cons (as_set false 7 sc.nd (ae_bin o_add (ae_var 7) (ae_lst (aa_cons (ae_bin o_mulT ae_str ae_int) (aa_cons (ae_bin o_add ae_str (ae_bin o_mulT ae_str ae_int)) (aa_cons (ae_bin o_add ae_str (ae_bin o_mulT ae_str ae_int)) (aa_cons ae_str (aa_cons ae_str (aa_cons ae_str (aa_cons ae_str (aa_cons ae_str (aa_cons ae_str (aa_cons ae_str aa_nil)))))))))))))
  (as_cons (as_for ppF rfl (ai_seq (ae_bin o_add (ae_bin o_add (ae_var 7) (ae_cal0 c_L_kept (hr.mono (by decide)) rfl tkF)) (ae_lst (aa_cons (ae_bin o_add (ae_cal c_L_of (hr.mono (by decide)) rfl tkF (aa_cons (ae_var 1) (aa_cons (ae_cal0 c_L_kept (hr.mono (by decide)) rfl tkF) aa_nil))) ae_str) aa_nil)))) (ag_name false 8 sc.nd) (as_cons (as_set false 6 sc.nd (ae_lst (aa_cons (ae_cal c_L_is_name (hr.mono (by decide)) rfl tkF (aa_cons (ae_var 8) (aa_cons ae_str aa_nil))) (aa_cons (ae_cal c_L_is_name (hr.mono (by decide)) rfl tkF (aa_cons (ae_var 8) (aa_cons ae_str aa_nil))) aa_nil))))
  (as_one (as_if (at_cmp (o_ne hr.u2100) (ae_callB (g_repr hr.u2100 hr.gd) rfl (wd.free 32 ("repr" : Str) rfl) bt_repr (aa_cons (ae_lst (aa_cons (ae_cal c_is_name (hr.mono (by decide)) rfl tkF (aa_cons (ae_var 8) aa_nil)) (aa_cons (ae_cal c_is_tag (hr.mono (by decide)) rfl tkF (aa_cons (ae_var 8) aa_nil)) aa_nil))) aa_nil)) (ae_callB (g_repr hr.u2100 hr.gd) rfl (wd.free 32 ("repr" : Str) rfl) bt_repr (aa_cons (ae_var 6) aa_nil)) (by first | exact nomark _ | rfl)) (as_one (as_ret ae_bl)) as_nil))))
  (as_one (as_ret (ae_cmp (o_eq hr.u2100) (ae_ix hr.u1 (ae_cal c_lexemes (hr.mono (by decide)) rfl tkF (aa_cons ae_str aa_nil)) ae_int) (ae_tup (aa_cons ae_str (aa_cons ae_str (aa_cons ae_int aa_nil)))) (by first | exact nomark _ | rfl)))))))))))
end
/-! ### the head -/
abbrev Rw : PySem.W.OpenRow := PySem.W.OpenLaw.row PySem.Challenge.rw_sealedruns_k01_lexemes_and_names
abbrev hk : PySem.W.Hook := hookY 4 fas fns inis exF
def ob (s : PySem.W.SharedT) : AlY := obsYG 4 fas fns inis exF (HandSHeadRun.getT s)
theorem ob_eq (s : PySem.W.SharedT) : ob s = hk.obs s.abs := obsYG_eq (HandSHeadRun.getT_eq s)
def loose : List Str := ([("SealError" : Str), ("BadText" : Str), ("BLANKS" : Str), ("SIGNS" : Str), ("SMALL" : Str), ("BIG" : Str), ("FIGURES" : Str), ("MOST_SIGNS" : Str), ("KEPT" : Str), ("run_end" : Str), ("lexeme_at" : Str), ("lexemes" : Str), ("is_word" : Str), ("is_name" : Str), ("is_tag" : Str), ("_law_source" : Str), ("_law_pick" : Str), ("_law_of" : Str), ("_law_kept" : Str), ("_law_lexemes" : Str), ("_law_is_name" : Str), ("_law_told_lexemes" : Str)] : List Str)
theorem run (w : World) : HandSHeadRun.RunEq Rw (PySem.W.view Rw.prog [25]) hk ob 3000 loose w := by
  intro os
  kernel_rfl
theorem call : (∀ ns : List Int, ns.length ≤ 63 → ∃ bs, f_law [.scr ns] = .ok (.d (.bool true)) bs) →
    PySem.W.WalkO (PySem.W.view Rw.prog [25]) loose (PySem.W.XL (PySem.W.view Rw.prog [25]) []) hk.says Rw.toRowW (HandSHeadRun.topDef Rw.prog 25) [] (fun f vs => PySem.call f vs) := by
  intro math
  refine Mi.walkG (l := PySem.Challenge.rw_sealedruns_k01_lexemes_and_names) (n := 63) (k := 5) (x := "script") (fm := f_law) rfl (by decide) (by kernel_rfl) (by decide) ?F math
  intro w mg fa h Y G hmg0
  obtain ⟨K, KX, c⟩ := Y
  obtain ⟨c, ex, ini⟩ := c
  have wd := Mi.WdY.of KX G c ex ini
  have pf : PF (PySem.W.view Rw.prog [25]) := ⟨rfl, by kernel_rfl⟩
  obtain ⟨fd, F⟩ := wd.says.def_ 13 (d := D_law) rfl
  have hmg : mg ("law" : Str) = some (.ref fa) := by
    have e : (HandSHeadRun.topDef Rw.prog 25).name = ("law" : Str) := by kernel_rfl
    rw [← e]
    exact hmg0
  have e := hmg.symm.trans (wd.glo 13 "law" rfl)
  cases e
  have b := FunD.bindsA (ps := ["script"]) F fun _ _ _ _ _ _ us hl => match us, hl with | [_], _ => rfl
  exact ⟨K, fd, KX, fun s v => b s [v] rfl, fun base _ _ => g_law wd pf F⟩
end K01
/-! text K01A -/
set_option Elab.async false
set_option linter.all false
set_option maxRecDepth 100000
set_option maxHeartbeats 4000000
/-! k01: runs of characters, the lexeme at a place. -/
namespace K01
open PySem PySem.Spec PyProof.Rows L2 TL Mi
theorem len_tl (x : Str) : x.length = (tl x).length := by simp [tl, Str.length]
theorem sIx_at {n d : Nat} {p : Nat} (h : p ≤ n) : HT.sIx n d (some (p : Int)) = p := by
  unfold HT.sIx
  simp
  rw [if_neg (by omega)]
  omega
theorem sIx_no {n d : Nat} : HT.sIx n d none = d := rfl
theorem cut_to {z : Str} {p q : Nat} (h : p ≤ q) (hq : q ≤ (tl z).length) : cutS z (some (p : Int)) (some (q : Int)) = ⟨(((tl z).drop p).take (q - p)).toArray⟩ := by
  have hl := len_tl z
  unfold cutS
  rw [sIx_at (by omega), sIx_at (by omega)]
theorem fIx_s {z : Str} {p c : Nat} (hz : z.length ≤ sizeLine) (h : (tl z)[p]? = some c) : fIx (.str z) (.int (p : Nat)) = some (.d (.str ⟨#[c]⟩)) := by
  show (if z.length ≤ sizeLine then (L2.atI z.cps.toList (p : Nat)).map fun c => EV.d (.str ⟨#[c]⟩) else none) = _
  rw [if_pos hz, Mi.atI_nat]
  show ((tl z)[p]?).map _ = _
  rw [h]; rfl
theorem inD_s {z : Str} {c : Nat} : inD (.str ⟨#[c]⟩) (.str z) = some (decide (c ∈ tl z)) := rfl
/-- where the run of characters of S ends -/
def run_ (S : List Nat) (T : List Nat) (p : Nat) : Nat := p + ((T.drop p).takeWhile fun c => decide (c ∈ S)).length
theorem run_le {S T : List Nat} {p : Nat} (h : p ≤ T.length) : run_ S T p ≤ T.length := by
  unfold run_
  have := List.Sublist.length_le (List.takeWhile_sublist (l := T.drop p) fun c => decide (c ∈ S))
  rw [List.length_drop] at this
  omega
theorem run_ge {S T : List Nat} {p : Nat} : p ≤ run_ S T p := Nat.le_add_right _ _
theorem drop_some {T : List Nat} {p c : Nat} (h : T[p]? = some c) : T.drop p = c :: T.drop (p + 1) := by
  obtain ⟨h1, h2⟩ := List.getElem?_eq_some_iff.mp h
  rw [List.drop_eq_getElem_cons h1, h2]
theorem run_end_ {S T : List Nat} {p : Nat} (h : T.length ≤ p) : run_ S T p = p := by
  unfold run_
  rw [List.drop_eq_nil_of_le h]
  rfl
theorem run_yes {S T : List Nat} {p c : Nat} (h : T[p]? = some c) (hc : c ∈ S) : run_ S T p = run_ S T (p + 1) := by
  unfold run_
  rw [drop_some h, List.takeWhile_cons, if_pos (by simpa using hc), List.length_cons]
  omega
theorem run_no {S T : List Nat} {p c : Nat} (h : T[p]? = some c) (hc : c ∉ S) : run_ S T p = p := by
  unfold run_
  rw [drop_some h, List.takeWhile_cons, if_neg (by simpa using hc)]
  rfl
/-- behind the run there is no further one -/
theorem run_stop {S T : List Nat} : ∀ (k p : Nat), T.length - p ≤ k → ∀ c, T[run_ S T p]? = some c → c ∉ S := by
  intro k
  induction k with
  | zero =>
    intro p hp c hc
    rw [run_end_ (by omega)] at hc
    have := (List.getElem?_eq_some_iff.mp hc).1
    omega
  | succ k ih =>
    intro p hp c hc
    cases q : T[p]? with
    | none =>
      have h1 := List.getElem?_eq_none_iff.mp q
      rw [run_end_ h1, q] at hc
      cases hc
    | some d =>
      by_cases hd : d ∈ S
      · rw [run_yes q hd] at hc
        have := (List.getElem?_eq_some_iff.mp q).1
        exact ih (p + 1) (by omega) c hc
      · rw [run_no q hd, q] at hc
        cases hc
        exact hd
section
variable {T S : Str}
theorem run_sp (hT : T.length ≤ 1000000) : ∀ (k p : Nat), (tl T).length - p ≤ k → p ≤ (tl T).length →
    ∀ (q : RS → Prop), q (.rt (.d (.int (run_ (tl S) (tl T) p : Nat))) [some (.d (.str T)), some (.d (.int (run_ (tl S) (tl T) p : Nat))), some (.d (.str S))]) →
      ws (sWhile wc_run_end_1 wb_run_end_1 [some (.d (.str T)), some (.d (.int (p : Nat))), some (.d (.str S))]) (thenQ (sRet (getV 1)) q) := by
  have hz : T.length ≤ sizeLine := by rw [sizeLine_eq]; omega
  have hl := len_tl T
  intro k
  induction k with
  | zero =>
    intro p h1 h2 q hq
    rw [run_end_ (by omega)] at hq
    have hp : ¬ ((p : Int) < (T.length : Nat)) := by omega
    rw [ws_wh]
    simp -implicitDefEqProofs [uc_run_end_1, hz, hp, gLen]
    exact hq
  | succ k ih =>
    intro p h1 h2 q hq
    cases e : (tl T)[p]? with
    | none =>
      have h3 := List.getElem?_eq_none_iff.mp e
      rw [run_end_ h3] at hq
      have hp : ¬ ((p : Int) < (T.length : Nat)) := by omega
      rw [ws_wh]
      simp -implicitDefEqProofs [uc_run_end_1, hz, hp, gLen]
      exact hq
    | some c =>
      have h3 := (List.getElem?_eq_some_iff.mp e).1
      have hp : (p : Int) < (T.length : Nat) := by omega
      have fi := fIx_s hz e
      have f := inD_s (z := S) (c := c)
      by_cases h : c ∈ tl S
      · rw [decide_eq_true h] at f
        rw [run_yes e h] at hq
        have := ih (p + 1) (by omega) (by omega) q hq
        rw [ws_wh]
        simp -implicitDefEqProofs [uc_run_end_1, ub_run_end_1, hz, hp, gLen, fi, fIn, f]
        exact this
      · rw [decide_eq_false h] at f
        rw [run_no e h] at hq
        rw [ws_wh]
        simp -implicitDefEqProofs [uc_run_end_1, ub_run_end_1, hz, hp, gLen, fi, fIn, f]
        exact hq
theorem run_end_sp (hT : T.length ≤ 1000000) {p : Nat} (hp : p ≤ (tl T).length) :
    f_run_end [.d (.str T), .d (.int (p : Nat)), .d (.str S)] = .ok (.d (.int (run_ (tl S) (tl T) p : Nat))) [some (.d (.str T)), some (.d (.int (p : Nat))), some (.d (.str S))] := by
  refine runF_ws ?_
  have := run_sp (S := S) hT _ p (Nat.le_refl _) hp (retQ [some (.d (.str T)), some (.d (.int (p : Nat))), some (.d (.str S))] (.d (.int (run_ (tl S) (tl T) p : Nat))) [some (.d (.str T)), some (.d (.int (p : Nat))), some (.d (.str S))]) (by simp)
  simp -implicitDefEqProofs [u_run_end]
  exact this
end
end K01
/-! text K01B -/
set_option Elab.async false
set_option linter.all false
set_option maxRecDepth 100000
set_option maxHeartbeats 4000000
/-! k01: lexeme_at. -/
namespace K01
open PySem PySem.Spec PyProof.Rows L2 TL Mi
abbrev SGs : Str := "(),:;=+-<#"
abbrev FGs : Str := "0123456789"
abbrev SMs : Str := "abcdefghijklmnopqrstuvwxyz"
abbrev BGs : Str := "ABCDEFGHIJKLMNOPQRSTUVWXYZ"
abbrev BLs : Str := " \n"
def tok (s l : Str) (p : Nat) : D := .tuple [.str s, .str l, .int (p : Nat)]
def cut (T : Str) (p q : Nat) : Str := ⟨(((tl T).drop p).take (q - p)).toArray⟩
def at_ (T : Str) (q : Nat) : D := match (tl T)[q]? with
  | none => tok "end" "" q
  | some c => if c ∈ tl SGs then tok "sign" ⟨#[c]⟩ q else if c = 48 then tok "numeral" "0" q else if c ∈ tl FGs then tok "numeral" (cut T q (run_ (tl FGs) (tl T) q)) q
    else if c ∈ tl (SMs ++ BGs) then tok "word" (cut T q (run_ (tl (SMs ++ BGs ++ FGs)) (tl T) q)) q else tok "wrong" "" q
def lexAt (T : Str) (p : Nat) : D := at_ T (run_ (tl BLs) (tl T) p)
theorem one_eq {c d : Nat} : ((⟨#[c]⟩ : Str) == ⟨#[d]⟩) = decide (c = d) := by
  by_cases h : c = d
  · subst h; simp
  · simp [h]
theorem fSl_s {T : Str} {p q : Nat} (hT : T.length ≤ 1000000) (h : p ≤ q) (hq : q ≤ (tl T).length) : fSl (.str T) (some (p : Int)) (some (q : Int)) = some (.d (.str (cut T p q))) := by
  show (if T.length ≤ sizeLine then some (EV.d (.str (cutS T _ _))) else none) = _
  rw [if_pos (by rw [sizeLine_eq]; omega), cut_to h hq]
  rfl
theorem lex_sp {T : Str} (hT : T.length ≤ 1000000) {p : Nat} (hp : p ≤ (tl T).length) : f_lexeme_at [.d (.str T), .d (.int (p : Nat))] = .ok (.d (lexAt T p)) [some (.d (.str T)), some (.d (.int (p : Nat)))] := by
  have r0 := run_end_sp (S := BLs) hT hp
  have hq := run_le (S := tl BLs) hp
  refine runF_ws ?_
  unfold lexAt
  generalize run_ (tl BLs) (tl T) p = q at *
  have hz : T.length ≤ sizeLine := by rw [sizeLine_eq]; omega
  have hl := len_tl T
  have r1 := run_end_sp (S := FGs) hT hq
  have r2 := run_end_sp (S := SMs ++ BGs ++ FGs) hT hq
  have s1 := fSl_s hT (run_ge (S := tl FGs) (T := tl T) (p := q)) (run_le hq)
  have s2 := fSl_s hT (run_ge (S := tl (SMs ++ BGs ++ FGs)) (T := tl T) (p := q)) (run_le hq)
  have gl : gLen [.str T] = some (.d (.int (T.length : Nat))) := by
    show (if T.length ≤ sizeLine then some (EV.d (.int (T.length : Nat))) else none) = _
    rw [if_pos hz]
  cases e : (tl T)[q]? with
  | none =>
    have ea : at_ T q = tok "end" "" q := by unfold at_; rw [e]
    rw [ea]
    have h3 := List.getElem?_eq_none_iff.mp e
    have hq' : (q : Int) = (T.length : Nat) := by omega
    simp -implicitDefEqProofs [u_lexeme_at, u_lexeme_at_1, u_lexeme_at_2, r0, gl, hq', sizeLine_eq, tok]
  | some c =>
    have ea : at_ T q = if c ∈ tl SGs then tok "sign" ⟨#[c]⟩ q else if c = 48 then tok "numeral" "0" q else if c ∈ tl FGs then tok "numeral" (cut T q (run_ (tl FGs) (tl T) q)) q
        else if c ∈ tl (SMs ++ BGs) then tok "word" (cut T q (run_ (tl (SMs ++ BGs ++ FGs)) (tl T) q)) q else tok "wrong" "" q := by unfold at_; rw [e]
    rw [ea]
    have h3 := (List.getElem?_eq_some_iff.mp e).1
    have hq' : ¬ ((q : Int) = (T.length : Nat)) := by omega
    have hqb : ((q : Int) == ((T.length : Nat) : Int)) = false := by rw [ib]; exact decide_eq_false hq'
    have fi := fIx_s hz e
    have z1 : SMs.length + BGs.length ≤ 16777216 := by decide
    have z2 : (SMs ++ BGs).length + FGs.length ≤ 16777216 := by decide
    have f1 := inD_s (z := SGs) (c := c)
    have f2 := inD_s (z := FGs) (c := c)
    have f3 := inD_s (z := SMs ++ BGs) (c := c)
    by_cases h1 : c ∈ tl SGs
    · rw [decide_eq_true h1] at f1
      rw [if_pos h1]
      simp -implicitDefEqProofs [u_lexeme_at, u_lexeme_at_1, u_lexeme_at_2, u_lexeme_at_3, r0, gl, hqb, sizeLine_eq, fi, fIn, f1, tok]
    · rw [decide_eq_false h1] at f1
      rw [if_neg h1]
      have f0 : ((⟨#[c]⟩ : Str) == ("0" : Str)) = decide (c = 48) := one_eq (c := c) (d := 48)
      by_cases h4 : c = 48
      · rw [decide_eq_true h4] at f0
        rw [if_pos h4]
        simp -implicitDefEqProofs [u_lexeme_at, u_lexeme_at_1, u_lexeme_at_2, u_lexeme_at_3, u_lexeme_at_4, r0, gl, hqb, sizeLine_eq, fi, fIn, f1, f0, tok]
      · rw [decide_eq_false h4] at f0
        rw [if_neg h4]
        by_cases h5 : c ∈ tl FGs
        · rw [decide_eq_true h5] at f2
          rw [if_pos h5]
          simp -implicitDefEqProofs [u_lexeme_at, u_lexeme_at_1, u_lexeme_at_2, u_lexeme_at_3, u_lexeme_at_4, u_lexeme_at_5, r0, gl, hqb, sizeLine_eq, fi, fIn, f1, f0, f2, r1, s1, tok]
        · rw [decide_eq_false h5] at f2
          rw [if_neg h5]
          by_cases h6 : c ∈ tl (SMs ++ BGs)
          · rw [decide_eq_true h6] at f3
            rw [if_pos h6]
            simp -implicitDefEqProofs [u_lexeme_at, u_lexeme_at_1, u_lexeme_at_2, u_lexeme_at_3, u_lexeme_at_4, u_lexeme_at_5, u_lexeme_at_6, r0, gl, hqb, sizeLine_eq, fi, fIn, f1, f0, f2, f3, r2, s2, z1, z2, tok]
          · rw [decide_eq_false h6] at f3
            rw [if_neg h6]
            simp -implicitDefEqProofs [u_lexeme_at, u_lexeme_at_1, u_lexeme_at_2, u_lexeme_at_3, u_lexeme_at_4, u_lexeme_at_5, u_lexeme_at_6, u_lexeme_at_7, r0, gl, hqb, sizeLine_eq, fi, fIn, f1, f0, f2, f3, r2, s2, z1, z2, tok]
end K01
/-! text K01C -/
set_option Elab.async false
set_option linter.all false
set_option maxRecDepth 100000
set_option maxHeartbeats 4000000
/-! k01: lexemes. -/
namespace K01
open PySem PySem.Spec PyProof.Rows L2 TL Mi
inductive Stp where
  | fin
  | no
  | go (s l : Str) (e : Nat)
def step (T : Str) (q : Nat) : Stp := match (tl T)[q]? with
  | none => .fin
  | some c => if c ∈ tl SGs then .go "sign" ⟨#[c]⟩ (q + 1) else if c = 48 then .go "numeral" "0" (q + 1) else if c ∈ tl FGs then .go "numeral" (cut T q (run_ (tl FGs) (tl T) q)) (run_ (tl FGs) (tl T) q)
    else if c ∈ tl (SMs ++ BGs) then .go "word" (cut T q (run_ (tl (SMs ++ BGs ++ FGs)) (tl T) q)) (run_ (tl (SMs ++ BGs ++ FGs)) (tl T) q) else .no
def stD (q : Nat) : Stp → D
  | .fin => tok "end" "" q
  | .no => tok "wrong" "" q
  | .go s l _ => tok s l q
theorem at_step (T : Str) (q : Nat) : at_ T q = stD q (step T q) := by
  unfold at_ step
  cases (tl T)[q]? with
  | none => rfl
  | some c =>
    dsimp only
    split
    · rfl
    split
    · rfl
    split
    · rfl
    split
    · rfl
    · rfl
theorem cut_len {T : Str} {p q : Nat} (h : q ≤ (tl T).length) : (cut T p q).length = q - p := by
  show (((tl T).drop p).take (q - p)).toArray.size = _
  rw [List.size_toArray, List.length_take, List.length_drop]
  omega
theorem sub_ws {c : Nat} (h : c ∈ tl (SMs ++ BGs)) : c ∈ tl (SMs ++ BGs ++ FGs) := by
  have e : tl (SMs ++ BGs ++ FGs) = tl (SMs ++ BGs) ++ tl FGs := by decide
  rw [e]
  exact List.mem_append_left _ h
theorem step_go {T : Str} {q e : Nat} {s l : Str} (h : step T q = .go s l e) : (s == ("end" : Str)) = false ∧ (s == ("wrong" : Str)) = false ∧ q + l.length = e ∧ q < e ∧ e ≤ (tl T).length := by
  unfold step at h
  cases z : (tl T)[q]? with
  | none => rw [z] at h; cases h
  | some c =>
    have hlt := (List.getElem?_eq_some_iff.mp z).1
    rw [z] at h
    dsimp only at h
    split at h
    · cases h
      exact ⟨by decide, by decide, rfl, by omega, by omega⟩
    split at h
    · cases h
      exact ⟨by decide, by decide, rfl, by omega, by omega⟩
    split at h
    · rename_i hc
      cases h
      have h1 := run_le (S := tl FGs) (Nat.le_of_lt hlt)
      have h2 : q + 1 ≤ run_ (tl FGs) (tl T) q := by rw [run_yes z hc]; exact run_ge
      refine ⟨by decide, by decide, ?_, by omega, h1⟩
      rw [cut_len h1]; omega
    split at h
    · rename_i hc
      cases h
      have h1 := run_le (S := tl (SMs ++ BGs ++ FGs)) (Nat.le_of_lt hlt)
      have h2 : q + 1 ≤ run_ (tl (SMs ++ BGs ++ FGs)) (tl T) q := by rw [run_yes z (sub_ws hc)]; exact run_ge
      refine ⟨by decide, by decide, ?_, by omega, h1⟩
      rw [cut_len h1]; omega
    · cases h
/-- the lexemes from a place on, and the wrong place -/
def PX (T : Str) : Nat → Nat → List D × Option Nat
  | 0, _ => ([], none)
  | k + 1, p => match step T (run_ (tl BLs) (tl T) p) with
    | .fin => ([], none)
    | .no => ([], some (run_ (tl BLs) (tl T) p))
    | .go s l e => (tok s l (run_ (tl BLs) (tl T) p) :: (PX T k e).1, (PX T k e).2)
theorem PX_len (T : Str) : ∀ (k p : Nat), p ≤ (tl T).length → (PX T k p).1.length + p ≤ (tl T).length := by
  intro k
  induction k with
  | zero => intro p hp; simpa [PX] using hp
  | succ k ih =>
    intro p hp
    unfold PX
    cases z : step T (run_ (tl BLs) (tl T) p) with
    | fin => simpa using hp
    | no => simpa using hp
    | go s l e =>
      obtain ⟨_, _, _, h1, h2⟩ := step_go z
      have := ih e h2
      have h3 := run_ge (S := tl BLs) (T := tl T) (p := p)
      show ((PX T k e).1.length + 1) + p ≤ _
      omega
def Aft (T : Str) (q : RS → Prop) (acc : List D) (r : List D × Option Nat) : Prop := match r.2 with
  | none => ∀ x, q (.rt (.fr (.lst (acc ++ r.1))) [some (.d (.str T)), none, some (.d x)])
  | some w => ∀ x y, q (.exc ⟨"BadText", [("place", .int (w : Nat))]⟩ [some (.d (.str T)), some (.o (.lst x)), some (.d y)])
theorem lx_sp {T : Str} (hT : T.length ≤ 1000000) : ∀ (k p : Nat) (acc : List D) (q : RS → Prop), (tl T).length - p < k → p ≤ (tl T).length → acc.length ≤ p → Aft T q acc (PX T k p) →
    ws (sWhile wc_lexemes_1 wb_lexemes_1 [some (.d (.str T)), some (.o (.lst acc)), some (.d (lexAt T p))]) (thenQ (sRet (getV 1)) q) := by
  intro k
  induction k with
  | zero => intro p acc q h; omega
  | succ k ih =>
    intro p acc q hk hp ha h
    have hq := run_le (S := tl BLs) hp
    have hge := run_ge (S := tl BLs) (T := tl T) (p := p)
    unfold PX at h
    unfold lexAt
    rw [at_step]
    generalize run_ (tl BLs) (tl T) p = w at *
    rw [ws_wh]
    cases z : step T w with
    | fin =>
      rw [z] at h
      have h' : ∀ x, q (.rt (.fr (.lst (acc ++ []))) [some (.d (.str T)), none, some (.d x)]) := h
      rw [List.append_nil] at h'
      simp -implicitDefEqProofs [uc_lexemes_1, stD, tok]
      exact h' _
    | no =>
      rw [z] at h
      have h' : ∀ x y, q (.exc ⟨"BadText", [("place", .int (w : Nat))]⟩ [some (.d (.str T)), some (.o (.lst x)), some (.d y)]) := h
      have w1 : (("wrong" : Str) == ("end" : Str)) = false := by decide
      simp -implicitDefEqProofs [uc_lexemes_1, ub_lexemes_1, stD, tok, w1]
      exact h' _ _
    | go s l e =>
      rw [z] at h
      obtain ⟨g1, g2, g3, g4, g5⟩ := step_go z
      have hz : T.length ≤ sizeLine := by rw [sizeLine_eq]; omega
      have hl := len_tl T
      have l2 := lex_sp hT g5
      have gl : gLen [.str l] = some (.d (.int (l.length : Nat))) := by
        show (if l.length ≤ sizeLine then some (EV.d (.int (l.length : Nat))) else none) = _
        rw [if_pos (by rw [sizeLine_eq]; omega)]
      have ee : ((w : Int) + (l.length : Nat)) = (e : Nat) := by omega
      have hacc : acc.length < 16777216 := by omega
      have := ih e (acc ++ [tok s l w]) q (by omega) g5 (by simp; omega) (by
        unfold Aft at h ⊢
        revert h
        dsimp only
        cases (PX T k e).2 with
        | none =>
          intro h x
          have := h x
          simpa using this
        | some v => exact fun h => h)
      rw [tok] at this
      simp -implicitDefEqProofs [uc_lexemes_1, ub_lexemes_1, stD, tok, g1, g2, gl, ee, l2, sizeLine_eq, hacc]
      exact this
/-- what lexemes tells -/
theorem lexemes_sp {T : Str} (hT : T.length ≤ 1000000) : f_lexemes [.d (.str T)] = match (PX T ((tl T).length + 1) 0).2 with
    | none => .ok (.fr (.lst (PX T ((tl T).length + 1) 0).1)) [some (.d (.str T))]
    | some w => .exc ⟨"BadText", [("place", .int (w : Nat))]⟩ [some (.d (.str T))] := by
  have l0 := lex_sp hT (p := 0) (Nat.zero_le _)
  have l0' : f_lexeme_at [.d (.str T), .d (.int 0)] = .ok (.d (lexAt T 0)) [some (.d (.str T)), some (.d (.int 0))] := l0
  cases z : (PX T ((tl T).length + 1) 0).2 with
  | none =>
    dsimp only
    refine runF_ws ?_
    have := lx_sp hT ((tl T).length + 1) 0 [] (retQ [some (.d (.str T))] (.fr (.lst (PX T ((tl T).length + 1) 0).1)) [some (.d (.str T))]) (by omega) (Nat.zero_le _) (by simp) (by
      unfold Aft
      rw [z]
      intro x
      simp)
    simp -implicitDefEqProofs [u_lexemes, l0', sizeLine_eq]
    exact this
  | some w =>
    dsimp only
    refine runF_wx ?_
    have := lx_sp hT ((tl T).length + 1) 0 [] (retX [some (.d (.str T))] ⟨"BadText", [("place", .int (w : Nat))]⟩ [some (.d (.str T))]) (by omega) (Nat.zero_le _) (by simp) (by
      unfold Aft
      rw [z]
      intro x y
      simp)
    simp -implicitDefEqProofs [u_lexemes, l0', sizeLine_eq]
    exact this
/-- .. told apart -/
def told (T : Str) : D := match (PX T ((tl T).length + 1) 0).2 with
  | none => .tuple [.str "told", .list (PX T ((tl T).length + 1) 0).1]
  | some w => .tuple [.str "refused", .int (w : Nat)]
theorem told_sp {T : Str} (hT : T.length ≤ 1000000) : f_L_told_lexemes [.d (.str T)] = .ok (.d (told T)) [some (.d (.str T))] := by
  have h := lexemes_sp hT
  refine runF_ws ?_
  unfold told
  cases z : (PX T ((tl T).length + 1) 0).2 with
  | none =>
    rw [z] at h
    dsimp only at h ⊢
    simp -implicitDefEqProofs [u_L_told_lexemes, h, sizeLine_eq]
  | some w =>
    rw [z] at h
    dsimp only at h ⊢
    simp -implicitDefEqProofs [u_L_told_lexemes, h, sizeLine_eq, List.lookup]
end K01
/-! text K01D -/
set_option Elab.async false
set_option linter.all false
set_option maxRecDepth 100000
set_option maxHeartbeats 4000000
/-! k01: the law's own lexemes. -/
namespace K01
open PySem PySem.Spec PyProof.Rows L2 TL Mi
abbrev WSs : Str := SMs ++ BGs ++ FGs
theorem up_sm : Txt.upper SMs = BGs := by decide +kernel
theorem sg_bl : ∀ c ∈ tl SGs, c ∉ tl BLs := by decide
theorem fg_bl : ∀ c ∈ tl FGs, c ∉ tl BLs := by decide
theorem ws_bl : ∀ c ∈ tl WSs, c ∉ tl BLs := by decide
theorem fg_sg : ∀ c ∈ tl FGs, c ∉ tl SGs := by decide
theorem ws_split {c : Nat} : c ∈ tl WSs ↔ c ∈ tl (SMs ++ BGs) ∨ c ∈ tl FGs := by
  have e : tl (SMs ++ BGs ++ FGs) = tl (SMs ++ BGs) ++ tl FGs := by decide
  rw [e]
  exact List.mem_append
theorem cut_one {T : Str} {p c : Nat} (h : (tl T)[p]? = some c) : cut T p (p + 1) = ⟨#[c]⟩ := by
  unfold cut
  rw [drop_some h, show p + 1 - p = 1 by omega]
  rfl
section
variable {T : Str} {acc : List D} {x y : Option SV} {p c : Nat}
abbrev eL (T : Str) (acc : List D) (p : Nat) (x y : Option SV) : Env' := [some (.d (.str T)), some (.d (.str SMs)), some (.d (.str FGs)), some (.o (.lst acc)), some (.d (.int (p : Nat))), some (.d (.str WSs)), x, y]
theorem inn1 (hT : T.length ≤ 1000000) (hc : c ≠ 48) : ∀ (j e : Nat), (tl T).length - e ≤ j → e ≤ (tl T).length → ∀ (q : RS → Prop), q (.nx (eL T acc p (some (.d (.str ⟨#[c]⟩))) (some (.d (.int (run_ (tl FGs) (tl T) e : Nat)))))) →
    ws (sWhile wc_L_lexemes_1 wb_L_lexemes_1 (eL T acc p (some (.d (.str ⟨#[c]⟩))) (some (.d (.int (e : Nat)))))) q := by
  have hz : T.length ≤ sizeLine := by rw [sizeLine_eq]; omega
  have hl := len_tl T
  have gl : gLen [.str T] = some (.d (.int (T.length : Nat))) := by
    show (if T.length ≤ sizeLine then some (EV.d (.int (T.length : Nat))) else none) = _
    rw [if_pos hz]
  have f0 : ((⟨#[c]⟩ : Str) == ("0" : Str)) = false := (one_eq (c := c) (d := 48)).trans (decide_eq_false hc)
  intro j
  induction j with
  | zero =>
    intro e h1 h2 q hq
    rw [run_end_ (by omega)] at hq
    have hp : ¬ ((e : Int) < (T.length : Nat)) := by omega
    rw [ws_wh]
    simp -implicitDefEqProofs [uc_L_lexemes_1, f0, hp, gl]
    exact hq
  | succ j ih =>
    intro e h1 h2 q hq
    cases z : (tl T)[e]? with
    | none =>
      have h3 := List.getElem?_eq_none_iff.mp z
      rw [run_end_ h3] at hq
      have hp : ¬ ((e : Int) < (T.length : Nat)) := by omega
      rw [ws_wh]
      simp -implicitDefEqProofs [uc_L_lexemes_1, f0, hp, gl]
      exact hq
    | some d =>
      have h3 := (List.getElem?_eq_some_iff.mp z).1
      have hp : (e : Int) < (T.length : Nat) := by omega
      have fi := fIx_s hz z
      have f := inD_s (z := FGs) (c := d)
      by_cases h : d ∈ tl FGs
      · rw [decide_eq_true h] at f
        rw [run_yes z h] at hq
        have := ih (e + 1) (by omega) (by omega) q hq
        rw [ws_wh]
        simp -implicitDefEqProofs [uc_L_lexemes_1, ub_L_lexemes_1, f0, hp, gl, fi, fIn, f]
        exact this
      · rw [decide_eq_false h] at f
        rw [run_no z h] at hq
        rw [ws_wh]
        simp -implicitDefEqProofs [uc_L_lexemes_1, ub_L_lexemes_1, f0, hp, gl, fi, fIn, f]
        exact hq
theorem inn0 {e : Nat} {q : RS → Prop} (hq : q (.nx (eL T acc p (some (.d (.str ("0" : Str)))) (some (.d (.int (e : Nat))))))) :
    ws (sWhile wc_L_lexemes_1 wb_L_lexemes_1 (eL T acc p (some (.d (.str ("0" : Str)))) (some (.d (.int (e : Nat)))))) q := by
  rw [ws_wh]
  simp -implicitDefEqProofs [uc_L_lexemes_1]
  exact hq
theorem inn2 (hT : T.length ≤ 1000000) : ∀ (j e : Nat), (tl T).length - e ≤ j → e ≤ (tl T).length → ∀ (q : RS → Prop), q (.nx (eL T acc p x (some (.d (.int (run_ (tl WSs) (tl T) e : Nat)))))) →
    ws (sWhile wc_L_lexemes_2 wb_L_lexemes_2 (eL T acc p x (some (.d (.int (e : Nat)))))) q := by
  have hz : T.length ≤ sizeLine := by rw [sizeLine_eq]; omega
  have hl := len_tl T
  have gl : gLen [.str T] = some (.d (.int (T.length : Nat))) := by
    show (if T.length ≤ sizeLine then some (EV.d (.int (T.length : Nat))) else none) = _
    rw [if_pos hz]
  intro j
  induction j with
  | zero =>
    intro e h1 h2 q hq
    rw [run_end_ (by omega)] at hq
    have hp : ¬ ((e : Int) < (T.length : Nat)) := by omega
    rw [ws_wh]
    simp -implicitDefEqProofs [uc_L_lexemes_2, hp, gl]
    exact hq
  | succ j ih =>
    intro e h1 h2 q hq
    cases z : (tl T)[e]? with
    | none =>
      have h3 := List.getElem?_eq_none_iff.mp z
      rw [run_end_ h3] at hq
      have hp : ¬ ((e : Int) < (T.length : Nat)) := by omega
      rw [ws_wh]
      simp -implicitDefEqProofs [uc_L_lexemes_2, hp, gl]
      exact hq
    | some d =>
      have h3 := (List.getElem?_eq_some_iff.mp z).1
      have hp : (e : Int) < (T.length : Nat) := by omega
      have fi := fIx_s hz z
      have f := inD_s (z := WSs) (c := d)
      by_cases h : d ∈ tl WSs
      · rw [decide_eq_true h] at f
        rw [run_yes z h] at hq
        have := ih (e + 1) (by omega) (by omega) q hq
        rw [ws_wh]
        simp -implicitDefEqProofs [uc_L_lexemes_2, ub_L_lexemes_2, hp, gl, fi, fIn, f]
        exact this
      · rw [decide_eq_false h] at f
        rw [run_no z h] at hq
        rw [ws_wh]
        simp -implicitDefEqProofs [uc_L_lexemes_2, ub_L_lexemes_2, hp, gl, fi, fIn, f]
        exact hq
end
end K01
/-! text K01E -/
set_option Elab.async false
set_option linter.all false
set_option maxRecDepth 100000
set_option maxHeartbeats 4000000
/-! k01: the law's own lexemes, the whole loop. -/
namespace K01
open PySem PySem.Spec PyProof.Rows L2 TL Mi
section
variable {T : Str} {acc : List D} {p c k : Nat}
theorem PX_succ : PX T (k + 1) p = match step T (run_ (tl BLs) (tl T) p) with
    | .fin => ([], none)
    | .no => ([], some (run_ (tl BLs) (tl T) p))
    | .go s l e => (tok s l (run_ (tl BLs) (tl T) p) :: (PX T k e).1, (PX T k e).2) := rfl
theorem PX_blank (h : (tl T)[p]? = some c) (hc : c ∈ tl BLs) : PX T (k + 1) p = PX T (k + 1) (p + 1) := by
  rw [PX_succ, PX_succ, run_yes h hc]
theorem PX_fin (h : (tl T)[p]? = none) : PX T (k + 1) p = ([], none) := by
  have h1 := List.getElem?_eq_none_iff.mp h
  rw [PX_succ, run_end_ h1]
  have e : step T p = .fin := by unfold step; rw [h]
  rw [e]
theorem PX_go {s l : Str} {e : Nat} (h : (tl T)[p]? = some c) (hc : c ∉ tl BLs) (hs : step T p = .go s l e) : PX T (k + 1) p = (tok s l p :: (PX T k e).1, (PX T k e).2) := by
  rw [PX_succ, run_no h hc, hs]
theorem PX_no (h : (tl T)[p]? = some c) (hc : c ∉ tl BLs) (hs : step T p = .no) : PX T (k + 1) p = ([], some p) := by
  rw [PX_succ, run_no h hc, hs]
def AftL (T : Str) (q : RS → Prop) (acc : List D) (r : List D × Option Nat) : Prop := ∀ (p : Nat) (x y : Option SV), pl x = true → pl y = true →
  match r.2 with
  | none => q (.rt (.fr (.lst (acc ++ r.1 ++ [tok "end" "" (tl T).length]))) (eL T (acc ++ r.1) p x y))
  | some w => q (.rt (.fr (.lst (acc ++ r.1 ++ [tok "wrong" "" w]))) (eL T (acc ++ r.1) p x y))
theorem AftL.cons {q : RS → Prop} {d : D} {r : List D × Option Nat} (h : AftL T q acc (d :: r.1, r.2)) : AftL T q (acc ++ [d]) r := by
  intro p x y hx hy
  have := h p x y hx hy
  revert this
  dsimp only
  cases r.2 with
  | none => intro this; simpa using this
  | some w => intro this; simpa using this
theorem ll_sp (hT : T.length ≤ 1000000) : ∀ (j p k : Nat) (acc : List D) (x y : Option SV) (q : RS → Prop), (tl T).length - p ≤ j → (tl T).length - p ≤ k → p ≤ (tl T).length → acc.length ≤ p → pl x = true → pl y = true → AftL T q acc (PX T (k + 1) p) →
    ws (sWhile wc_L_lexemes_3 wb_L_lexemes_3 (eL T acc p x y)) (thenQ b_L_lexemes_5 q) := by
  have hz : T.length ≤ sizeLine := by rw [sizeLine_eq]; omega
  have hl := len_tl T
  have gl : gLen [.str T] = some (.d (.int (T.length : Nat))) := by
    show (if T.length ≤ sizeLine then some (EV.d (.int (T.length : Nat))) else none) = _
    rw [if_pos hz]
  intro j
  induction j with
  | zero =>
    intro p k acc x y q h1 hk h2 ha hx hy h
    have e : (tl T)[p]? = none := List.getElem?_eq_none_iff.mpr (by omega)
    rw [PX_fin e] at h
    have h' := h p x y hx hy
    dsimp only at h'
    rw [List.append_nil, ← hl] at h'
    have hp : ¬ ((p : Int) < (T.length : Nat)) := by omega
    have hacc : acc.length + 1 ≤ 16777216 := by omega
    rw [ws_wh]
    simp -implicitDefEqProofs [uc_L_lexemes_3, u_L_lexemes_5, hp, gl, hx, hy, sizeLine_eq, hacc]
    exact h'
  | succ j ih =>
    intro p k acc x y q h1 hk h2 ha hx hy h
    cases e : (tl T)[p]? with
    | none =>
      rw [PX_fin e] at h
      have h3 := List.getElem?_eq_none_iff.mp e
      have h' := h p x y hx hy
      dsimp only at h'
      rw [List.append_nil, ← hl] at h'
      have hp : ¬ ((p : Int) < (T.length : Nat)) := by omega
      have hacc : acc.length + 1 ≤ 16777216 := by omega
      rw [ws_wh]
      simp -implicitDefEqProofs [uc_L_lexemes_3, u_L_lexemes_5, hp, gl, hx, hy, sizeLine_eq, hacc]
      exact h'
    | some c =>
      have h3 := (List.getElem?_eq_some_iff.mp e).1
      have hp : (p : Int) < (T.length : Nat) := by omega
      have hacc : acc.length < 16777216 := by omega
      have hacc1 : acc.length + 1 ≤ 16777216 := by omega
      have fi := fIx_s hz e
      have f1 := inD_s (z := SGs) (c := c)
      have f2 := inD_s (z := FGs) (c := c)
      have f3 := inD_s (z := WSs) (c := c)
      have f4 := inD_s (z := BLs) (c := c)
      have go : ∀ (s l : Str) (e' : Nat) (sx : Option SV), pl sx = true → c ∉ tl BLs → step T p = .go s l e' → ws (sWhile wc_L_lexemes_3 wb_L_lexemes_3 (eL T (acc ++ [tok s l p]) e' sx (some (.d (.int (e' : Nat)))))) (thenQ b_L_lexemes_5 q) := by
        intro s l e' sx hsx hb hs
        obtain ⟨_, _, g3, g4, g5⟩ := step_go hs
        rw [PX_go e hb hs] at h
        cases k with
        | zero => omega
        | succ k => exact ih e' k _ _ _ q (by omega) (by omega) g5 (by simp; omega) hsx rfl h.cons
      by_cases hs : c ∈ tl SGs
      · rw [decide_eq_true hs] at f1
        have := go "sign" ⟨#[c]⟩ (p + 1) (some (.d (.str ⟨#[c]⟩))) rfl (sg_bl c hs) (by unfold step; rw [e]; dsimp only; rw [if_pos hs])
        rw [tok] at this
        rw [ws_wh]
        simp -implicitDefEqProofs [uc_L_lexemes_3, ub_L_lexemes_3, hp, gl, hx, hy, sizeLine_eq, hacc, fi, fIn, f1]
        exact this
      · rw [decide_eq_false hs] at f1
        by_cases hf : c ∈ tl FGs
        · rw [decide_eq_true hf] at f2
          by_cases h0 : c = 48
          · have s1 := fSl_s hT (Nat.le_succ p) (show p + 1 ≤ (tl T).length from h3)
            rw [cut_one e] at s1
            have := go "numeral" "0" (p + 1) (some (.d (.str ("0" : Str)))) rfl (fg_bl c hf) (by unfold step; rw [e]; dsimp only; rw [if_neg hs, if_pos h0])
            rw [tok] at this
            subst h0
            have fi' : fIx (.str T) (.int (p : Nat)) = some (.d (.str ("0" : Str))) := fi
            have f1' : inD (.str ("0" : Str)) (.str SGs) = some false := f1
            have f2' : inD (.str ("0" : Str)) (.str FGs) = some true := f2
            have s1' : fSl (.str T) (some (p : Int)) (some ((p : Int) + 1)) = some (.d (.str ("0" : Str))) := s1
            rw [ws_wh]
            simp -implicitDefEqProofs [uc_L_lexemes_3, ub_L_lexemes_3, hp, gl, hx, hy, sizeLine_eq, hacc, fi', fIn, f1', f2']
            refine inn0 (e := p + 1) ?_
            simp -implicitDefEqProofs [sizeLine_eq, hacc, s1']
            exact this
          · have s1 := fSl_s hT (run_ge (S := tl FGs) (T := tl T) (p := p)) (run_le (Nat.le_of_lt h3))
            have := go "numeral" (cut T p (run_ (tl FGs) (tl T) p)) (run_ (tl FGs) (tl T) p) (some (.d (.str ⟨#[c]⟩))) rfl (fg_bl c hf) (by unfold step; rw [e]; dsimp only; rw [if_neg hs, if_neg h0, if_pos hf])
            rw [tok] at this
            rw [run_yes e hf] at this s1
            rw [ws_wh]
            simp -implicitDefEqProofs [uc_L_lexemes_3, ub_L_lexemes_3, hp, gl, hx, hy, sizeLine_eq, hacc, fi, fIn, f1, f2]
            refine inn1 (e := p + 1) hT h0 _ (Nat.le_refl _) h3 _ ?_
            simp -implicitDefEqProofs [sizeLine_eq, hacc, s1]
            exact this
        · rw [decide_eq_false hf] at f2
          have h0 : c ≠ 48 := fun z => hf (by rw [z]; decide)
          by_cases hw : c ∈ tl (SMs ++ BGs)
          · have hw' : c ∈ tl WSs := ws_split.mpr (.inl hw)
            rw [decide_eq_true hw'] at f3
            have s1 := fSl_s hT (run_ge (S := tl WSs) (T := tl T) (p := p)) (run_le (Nat.le_of_lt h3))
            have := go "word" (cut T p (run_ (tl WSs) (tl T) p)) (run_ (tl WSs) (tl T) p) (some (.d (.str ⟨#[c]⟩))) rfl (ws_bl c hw') (by unfold step; rw [e]; dsimp only; rw [if_neg hs, if_neg h0, if_neg hf, if_pos hw])
            rw [tok] at this
            rw [run_yes e hw'] at this s1
            rw [ws_wh]
            simp -implicitDefEqProofs [uc_L_lexemes_3, ub_L_lexemes_3, hp, gl, hx, hy, sizeLine_eq, hacc, fi, fIn, f1, f2, f3]
            refine inn2 (e := p + 1) hT _ (Nat.le_refl _) h3 _ ?_
            simp -implicitDefEqProofs [sizeLine_eq, hacc, s1]
            exact this
          · have hw' : c ∉ tl WSs := fun z => (ws_split.mp z).elim hw hf
            rw [decide_eq_false hw'] at f3
            by_cases hb : c ∈ tl BLs
            · rw [decide_eq_true hb] at f4
              rw [PX_blank e hb] at h
              have := ih (p + 1) k acc (some (.d (.str ⟨#[c]⟩))) (some (.d (.int ((p + 1 : Nat) : Int)))) q (by omega) (by omega) h3 (by omega) rfl rfl h
              rw [ws_wh]
              simp -implicitDefEqProofs [uc_L_lexemes_3, ub_L_lexemes_3, hp, gl, hx, hy, sizeLine_eq, hacc, fi, fIn, fNotIn, f1, f2, f3, f4]
              exact this
            · rw [decide_eq_false hb] at f4
              rw [PX_no e hb (by unfold step; rw [e]; dsimp only; rw [if_neg hs, if_neg h0, if_neg hf, if_neg hw])] at h
              have h' := h p (some (.d (.str ⟨#[c]⟩))) (some (.d (.int ((p + 1 : Nat) : Int)))) rfl rfl
              dsimp only at h'
              rw [List.append_nil] at h'
              rw [ws_wh]
              simp -implicitDefEqProofs [uc_L_lexemes_3, ub_L_lexemes_3, hp, gl, hx, hy, sizeLine_eq, hacc, hacc1, fi, fIn, fNotIn, f1, f2, f3, f4]
              exact h'
/-- the law's own list -/
def due0 (T : Str) : List D := (PX T ((tl T).length + 1) 0).1 ++ [match (PX T ((tl T).length + 1) 0).2 with
  | none => tok "end" "" (tl T).length
  | some w => tok "wrong" "" w]
theorem due0_sp (hT : T.length ≤ 1000000) : f_L_lexemes [.d (.str T)] = .ok (.fr (.lst (due0 T))) [some (.d (.str T))] := by
  have up := up_sm
  have z1 : SMs.length + BGs.length ≤ 16777216 := by decide
  have z2 : (SMs ++ BGs).length + FGs.length ≤ 16777216 := by decide
  have gu : sUpper SMs [] = some (.d (.str BGs)) := by
    show (if SMs.length ≤ 5592405 then some (EV.d (.str (Txt.upper SMs))) else none) = _
    rw [if_pos (by decide), up]
  refine runF_ws ?_
  have := ll_sp hT (tl T).length 0 (tl T).length [] none none (retQ [some (.d (.str T))] (.fr (.lst (due0 T))) [some (.d (.str T))]) (by omega) (by omega) (Nat.zero_le _) (by simp) rfl rfl (by
    intro p x y hx hy
    unfold due0
    cases (PX T ((tl T).length + 1) 0).2 with
    | none => simp
    | some w => simp)
  simp -implicitDefEqProofs [u_L_lexemes, u_L_lexemes_1, u_L_lexemes_2, u_L_lexemes_3, u_L_lexemes_4, sizeLine_eq, gu, z1, z2]
  exact this
end
end K01
/-! text K01F -/
set_option Elab.async false
set_option linter.all false
set_option maxRecDepth 100000
set_option maxHeartbeats 4000000
/-! k01: names and tags. -/
namespace K01
open PySem PySem.Spec PyProof.Rows L2 TL Mi
abbrev SFs : Str := SMs ++ FGs
def bD (c : Nat) : D := .str ⟨#[c]⟩
/-- a word that begins with one of F -/
def isW (F : List Nat) (x : Str) : Bool := decide (1 ≤ x.length) && (decide (x.length ≤ 12) && (match tl x with
  | [] => false
  | c :: r => decide (c ∈ F) && r.all fun d => decide (d ∈ tl SFs)))
theorem cut_from {z : Str} {p : Nat} (h : p ≤ (tl z).length) : cutS z (some (p : Int)) none = ⟨((tl z).drop p).toArray⟩ := by
  have hl := len_tl z
  unfold cutS
  rw [sIx_at (by omega), sIx_no]
  congr 2
  show ((tl z).drop p).take _ = _
  rw [List.take_of_length_le]
  rw [List.length_drop]; omega
theorem sl1 {x : Str} {c : Nat} {r : List Nat} (hx : x.length ≤ 1000000) (h : tl x = c :: r) : fSl (.str x) (some 1) none = some (.d (.str ⟨r.toArray⟩)) := by
  have := cut_from (z := x) (p := 1) (by rw [h]; simp)
  show (if x.length ≤ sizeLine then some (EV.d (.str (cutS x (some 1) none))) else none) = _
  rw [if_pos (by rw [sizeLine_eq]; omega)]
  have e : cutS x (some 1) none = ⟨((tl x).drop 1).toArray⟩ := this
  rw [e, h]
  rfl
theorem ix0 {x : Str} {c : Nat} {r : List Nat} (hx : x.length ≤ 1000000) (h : tl x = c :: r) : fIx (.str x) (.int 0) = some (.d (.str ⟨#[c]⟩)) :=
  fIx_s (p := 0) (by rw [sizeLine_eq]; omega) (by rw [h]; rfl)
def inF (d : D) : D := match d with
  | .str x => .bool ((tl x).all fun c => decide (c ∈ tl SFs))
  | _ => .none
theorem all_bools (r : List Nat) : boolsD ((r.map bD).map inF) = some (r.map fun d => decide (d ∈ tl SFs)) := by
  induction r with
  | nil => rfl
  | cons c r ih =>
    have e : inF (bD c) = .bool (decide (c ∈ tl SFs)) := by
      show PyData.bool (([c] : List Nat).all fun c => decide (c ∈ tl SFs)) = _
      simp
    rw [List.map_cons, List.map_cons, e]
    show (boolsD ((r.map bD).map inF)).map _ = _
    rw [ih]
    rfl
theorem all_id (r : List Nat) : (r.map fun d => decide (d ∈ tl SFs)).all id = r.all fun d => decide (d ∈ tl SFs) := by
  rw [List.all_map]; rfl
section
variable {x F : Str} {v : D}
theorem word_s (hx : x.length ≤ 1000000) : f_is_word [.d (.str x), .d (.str F)] = .ok (.d (.bool (isW (tl F) x))) [some (.d (.str x)), some (.d (.str F))] := by
  have hl := len_tl x
  have gl : gLen [.str x] = some (.d (.int (x.length : Nat))) := by
    show (if x.length ≤ sizeLine then some (EV.d (.int (x.length : Nat))) else none) = _
    rw [if_pos (by rw [sizeLine_eq]; omega)]
  have is : isiD "str" (.str x) = true := rfl
  refine runF_ws ?_
  by_cases h1 : 1 ≤ x.length
  · have c1' : (0 : Int) < (x.length : Nat) := by omega
    have c1 : fLt (.int 0) (.int (x.length : Nat)) = some (.d (.bool true)) := by
      show some (EV.d (.bool (decide ((0 : Int) < (x.length : Nat))))) = _
      rw [decide_eq_true c1']
    by_cases h2 : x.length ≤ 12
    · have c2' : ((x.length : Nat) : Int) ≤ 12 := by omega
      have c2 : fLe (.int (x.length : Nat)) (.int 12) = some (.d (.bool true)) := by
        show some (EV.d (.bool (decide (((x.length : Nat) : Int) ≤ 12)))) = _
        rw [decide_eq_true c2']
      cases e : tl x with
      | nil => rw [e] at hl; simp at hl; omega
      | cons c r =>
        have fi := ix0 hx e
        have sl := sl1 hx e
        have f := inD_s (z := F) (c := c)
        have ew : isW (tl F) x = (decide (c ∈ tl F) && r.all fun d => decide (d ∈ tl SFs)) := by
          unfold isW
          rw [decide_eq_true h1, decide_eq_true h2, e]
          rfl
        rw [ew]
        have et : tl (⟨r.toArray⟩ : Str) = r := tl_mk _
        have hrl : r.length ≤ 16777216 := by rw [e] at hl; simp at hl; omega
        by_cases hc : c ∈ tl F
        · rw [decide_eq_true hc] at f ⊢
          simp -implicitDefEqProofs [u_is_word, is, gl, c1, c2, fi, fNotIn, f, sl, et]
          refine sat_lcMap inF (by rw [List.length_map, sizeLine_eq]; exact hrl) ?_ ?_
          · intro d hd
            obtain ⟨y, hy, rfl⟩ := List.mem_map.mp hd
            have f3 := inD_s (z := SFs) (c := y)
            have z1 : SMs.length + FGs.length ≤ 16777216 := by decide
            have ey : inF (bD y) = .bool (decide (y ∈ tl SFs)) := by
              show PyData.bool (([y] : List Nat).all fun c => decide (c ∈ tl SFs)) = _
              simp
            simp -implicitDefEqProofs [sizeLine_eq, z1, fIn, f3]
            simpa [bD, tl] using ey.symm
          · have e1 : (r.map fun c => (.str ⟨#[c]⟩ : D)) = r.map bD := rfl
            rw [e1]
            have ga : gAll [.list ((r.map bD).map inF)] = some (.d (.bool (r.all fun d => decide (d ∈ tl SFs)))) := by
              show (boolsD ((r.map bD).map inF)).map _ = _
              rw [all_bools, Option.map_some, all_id]
            generalize (r.map bD).map inF = Z at *
            simp -implicitDefEqProofs [ga]
        · rw [decide_eq_false hc] at f ⊢
          simp -implicitDefEqProofs [u_is_word, is, gl, c1, c2, fi, fNotIn, f]
    · have c2' : ¬ ((x.length : Nat) : Int) ≤ 12 := by omega
      have c2 : fLe (.int (x.length : Nat)) (.int 12) = some (.d (.bool false)) := by
        show some (EV.d (.bool (decide (((x.length : Nat) : Int) ≤ 12)))) = _
        rw [decide_eq_false c2']
      have ew : isW (tl F) x = false := by unfold isW; rw [decide_eq_false h2]; simp
      rw [ew]
      simp -implicitDefEqProofs [u_is_word, is, gl, c1, c2]
  · have c1' : ¬ (0 : Int) < (x.length : Nat) := by omega
    have c1 : fLt (.int 0) (.int (x.length : Nat)) = some (.d (.bool false)) := by
      show some (EV.d (.bool (decide ((0 : Int) < (x.length : Nat))))) = _
      rw [decide_eq_false c1']
    have ew : isW (tl F) x = false := by unfold isW; rw [decide_eq_false h1]; simp
    rw [ew]
    simp -implicitDefEqProofs [u_is_word, is, gl, c1]
theorem word_n (h : isiD "str" v = false) : f_is_word [.d v, .d (.str F)] = .ok (.d (.bool false)) [some (.d v), some (.d (.str F))] := by
  refine runF_ws ?_
  simp -implicitDefEqProofs [u_is_word, h]
/-! ### names -/
def KTs : List Str := ["alike", "ask", "audit", "bound", "case", "digest", "else", "end", "from", "fun", "if", "in", "kind", "let", "num", "of", "open", "or", "seal", "set", "store", "then", "undo"]
def kp (x : Str) : Bool := inV (.str x) (KTs.map V.str)
theorem in_t : inD (.str x) (.tuple (KTs.map .str)) = some (kp x) := rfl
theorem in_l : inD (.str x) (.list (KTs.map .str)) = some (kp x) := rfl
theorem kp_big {c : Nat} {r : List Nat} (h : tl x = c :: r) (hc : c ∈ tl BGs) : kp x = false := by
  have key : ∀ y ∈ KTs, (match tl y with | [] => false | d :: _ => decide (d ∈ tl BGs)) = false := by decide +kernel
  unfold kp inV
  rw [List.any_map, List.any_eq_false]
  intro y hy hq
  have e : y = x := by
    have hq' : (y == x) = true := hq
    simpa using hq'
  have := key y hy
  rw [e, h] at this
  dsimp only at this
  rw [decide_eq_true hc] at this
  cases this
theorem name_s (hx : x.length ≤ 1000000) : f_is_name [.d (.str x)] = .ok (.d (.bool (isW (tl SMs) x && !kp x))) [some (.d (.str x))] := by
  have w := word_s (F := SMs) hx
  have hf : flDs (KTs.map .str) = some (KTs.map V.str) := rfl
  have hk : inV (.str x) (KTs.map V.str) = kp x := rfl
  refine runF_ws ?_
  rw [u_is_name]
  show ws ((sRet (mAndV (mFn 2 f_is_word (aCons (getV 0) (aCons (cst (.str SMs)) aNil))) (mBin fNotIn (getV 0) (cst (.tuple (KTs.map .str)))))) _) _
  generalize KTs.map (.str : Str → D) = Z at *
  generalize KTs.map V.str = ZV at *
  cases e : isW (tl SMs) x with
  | false =>
    rw [e] at w
    simp -implicitDefEqProofs [w]
  | true =>
    rw [e] at w
    simp -implicitDefEqProofs [w, hf, hk]
theorem name_n (h : isiD "str" v = false) : f_is_name [.d v] = .ok (.d (.bool false)) [some (.d v)] := by
  have w := word_n (F := SMs) h
  refine runF_ws ?_
  simp -implicitDefEqProofs [u_is_name, w]
theorem tag_s (hx : x.length ≤ 1000000) : f_is_tag [.d (.str x)] = .ok (.d (.bool (isW (tl BGs) x))) [some (.d (.str x))] := by
  have w := word_s (F := BGs) hx
  refine runF_ws ?_
  simp -implicitDefEqProofs [u_is_tag, w]
theorem tag_n (h : isiD "str" v = false) : f_is_tag [.d v] = .ok (.d (.bool false)) [some (.d v)] := by
  have w := word_n (F := BGs) h
  refine runF_ws ?_
  simp -implicitDefEqProofs [u_is_tag, w]
end
end K01
/-! text K01G -/
set_option Elab.async false
set_option linter.all false
set_option maxRecDepth 100000
set_option maxHeartbeats 4000000
/-! k01: the law's names. -/
namespace K01
open PySem PySem.Spec PyProof.Rows L2 TL Mi
abbrev KPs : Str := "alike ask audit bound case digest else end from fun if in kind let num of open or seal set store then undo"
theorem words_kp : Txt.words KPs = KTs := by decide +kernel
theorem kept_sp : f_L_kept [] = .ok (.fr (.lst (KTs.map .str))) [] := by
  have g : sSplit KPs [] = some (.fr (.lst (KTs.map .str))) := by
    show (if KPs.length + 2 ≤ sizeLine then some (EV.fr (.lst ((Txt.words KPs).map .str))) else none) = _
    rw [if_pos (by rw [sizeLine_eq]; decide), words_kp]
  generalize KTs.map (.str : Str → D) = Z at *
  refine runF_ws ?_
  simp -implicitDefEqProofs [u_L_kept, g]
def notF (d : D) : Bool := match d with
  | .str x => !((tl x).all fun c => decide (c ∈ tl SFs))
  | _ => false
theorem notF_one (c : Nat) : notF (.str ⟨#[c]⟩) = !decide (c ∈ tl SFs) := by
  show (!(([c] : List Nat).all fun c => decide (c ∈ tl SFs))) = _
  simp
theorem filt_nil (r : List Nat) : (((r.map bD).filter notF).map id).isEmpty = r.all fun d => decide (d ∈ tl SFs) := by
  induction r with
  | nil => rfl
  | cons c r ih =>
    have e := notF_one c
    rw [List.map_cons, List.all_cons, ← ih]
    by_cases h : c ∈ tl SFs
    · rw [decide_eq_true h] at e ⊢
      rw [List.filter_cons_of_neg (by show ¬ notF (.str ⟨#[c]⟩) = true; rw [e]; decide), Bool.true_and]
    · rw [decide_eq_false h] at e ⊢
      rw [List.filter_cons_of_pos (by show notF (.str ⟨#[c]⟩) = true; rw [e]; rfl)]
      rfl
section
variable {x F s : Str} {v : D}
theorem lname_n (h : isiD "str" v = false) : f_L_is_name [.d v, .d (.str s)] = .ok (.d (.bool false)) [some (.d v), some (.d (.str s))] := by
  refine runF_ws ?_
  simp -implicitDefEqProofs [u_L_is_name, u_L_is_name_1, u_L_is_name_2, h]
theorem lname_s (hx : x.length ≤ 1000000) (hs : (s == ("small" : Str)) = true ∧ F = SMs ∨ (s == ("small" : Str)) = false ∧ F = BGs) :
    f_L_is_name [.d (.str x), .d (.str s)] = .ok (.d (.bool (isW (tl F) x && !kp x))) [some (.d (.str x)), some (.d (.str s))] := by
  have hl := len_tl x
  have gl : gLen [.str x] = some (.d (.int (x.length : Nat))) := by
    show (if x.length ≤ sizeLine then some (EV.d (.int (x.length : Nat))) else none) = _
    rw [if_pos (by rw [sizeLine_eq]; omega)]
  have is : isiD "str" (.str x) = true := rfl
  have gu : sUpper SMs [] = some (.d (.str BGs)) := by
    show (if SMs.length ≤ 5592405 then some (EV.d (.str (Txt.upper SMs))) else none) = _
    rw [if_pos (by decide), up_sm]
  refine runF_ws ?_
  by_cases h1 : 1 ≤ x.length
  · have c1' : ¬ ((x.length : Nat) : Int) < 1 := by omega
    have c1 : fLt (.int (x.length : Nat)) (.int 1) = some (.d (.bool false)) := by
      show some (EV.d (.bool (decide (((x.length : Nat) : Int) < 1)))) = _
      rw [decide_eq_false c1']
    by_cases h2 : x.length ≤ 12
    · have c2' : ¬ ((x.length : Nat) : Int) > 12 := by omega
      have c2 : fGt (.int (x.length : Nat)) (.int 12) = some (.d (.bool false)) := by
        show some (EV.d (.bool (decide (((x.length : Nat) : Int) > 12)))) = _
        rw [decide_eq_false c2']
      cases e : tl x with
      | nil => rw [e] at hl; simp at hl; omega
      | cons c r =>
        have fi := ix0 hx e
        have sl := sl1 hx e
        have f := inD_s (z := F) (c := c)
        have ew : isW (tl F) x = (decide (c ∈ tl F) && r.all fun d => decide (d ∈ tl SFs)) := by
          unfold isW
          rw [decide_eq_true h1, decide_eq_true h2, e]
          rfl
        rw [ew]
        have et : tl (⟨r.toArray⟩ : Str) = r := tl_mk _
        have hrl : r.length ≤ 16777216 := by rw [e] at hl; simp at hl; omega
        have z1 : SMs.length + FGs.length ≤ 16777216 := by decide
        have kk := kept_sp
        have hi := in_l (x := x)
        generalize KTs.map (.str : Str → D) = Z at *
        by_cases hc : c ∈ tl F
        · rw [decide_eq_true hc] at f ⊢
          have e1 : (r.map fun c => (.str ⟨#[c]⟩ : D)) = r.map bD := rfl
          have fe := filt_nil r
          generalize (r.all fun d => decide (d ∈ tl SFs)) = bb at *
          rcases hs with ⟨hs, rfl⟩ | ⟨hs, rfl⟩
          · simp -implicitDefEqProofs [u_L_is_name, u_L_is_name_1, u_L_is_name_2, u_L_is_name_3, u_L_is_name_4, is, gl, c1, c2, fi, fNotIn, f, sl, et, hs, gu]
            refine sat_lcFilter notF id (by rw [List.length_map, sizeLine_eq]; exact hrl) ?_ ?_
            · intro d hd
              obtain ⟨y, hy, rfl⟩ := List.mem_map.mp hd
              have f3 := inD_s (z := SFs) (c := y)
              have ny := notF_one y
              rw [ny]
              by_cases hy : y ∈ tl SFs
              · rw [decide_eq_true hy] at f3
                have hy' : y ∈ SFs.cps := by simpa [tl] using hy
                simp -implicitDefEqProofs [sizeLine_eq, z1, fNotIn, f3, hy']
              · rw [decide_eq_false hy] at f3
                have hy' : y ∉ SFs.cps := by simpa [tl] using hy
                simp -implicitDefEqProofs [sizeLine_eq, z1, fNotIn, f3, hy']
            · rw [e1]
              generalize ((r.map bD).filter notF).map id = W at *
              rw [← fe]
              cases hw : W.isEmpty with
              | true => simp -implicitDefEqProofs [hw, kk, hi]
              | false => simp -implicitDefEqProofs [hw]
          · simp -implicitDefEqProofs [u_L_is_name, u_L_is_name_1, u_L_is_name_2, u_L_is_name_3, u_L_is_name_4, is, gl, c1, c2, fi, fNotIn, f, sl, et, hs, gu]
            refine sat_lcFilter notF id (by rw [List.length_map, sizeLine_eq]; exact hrl) ?_ ?_
            · intro d hd
              obtain ⟨y, hy, rfl⟩ := List.mem_map.mp hd
              have f3 := inD_s (z := SFs) (c := y)
              have ny := notF_one y
              rw [ny]
              by_cases hy : y ∈ tl SFs
              · rw [decide_eq_true hy] at f3
                have hy' : y ∈ SFs.cps := by simpa [tl] using hy
                simp -implicitDefEqProofs [sizeLine_eq, z1, fNotIn, f3, hy']
              · rw [decide_eq_false hy] at f3
                have hy' : y ∉ SFs.cps := by simpa [tl] using hy
                simp -implicitDefEqProofs [sizeLine_eq, z1, fNotIn, f3, hy']
            · rw [e1]
              generalize ((r.map bD).filter notF).map id = W at *
              rw [← fe]
              cases hw : W.isEmpty with
              | true => simp -implicitDefEqProofs [hw, kk, hi]
              | false => simp -implicitDefEqProofs [hw]
        · rw [decide_eq_false hc] at f ⊢
          rcases hs with ⟨hs, rfl⟩ | ⟨hs, rfl⟩
          · simp -implicitDefEqProofs [u_L_is_name, u_L_is_name_1, u_L_is_name_2, u_L_is_name_3, is, gl, c1, c2, fi, fNotIn, f, hs, gu]
          · simp -implicitDefEqProofs [u_L_is_name, u_L_is_name_1, u_L_is_name_2, u_L_is_name_3, is, gl, c1, c2, fi, fNotIn, f, hs, gu]
    · have c2' : ((x.length : Nat) : Int) > 12 := by omega
      have c2 : fGt (.int (x.length : Nat)) (.int 12) = some (.d (.bool true)) := by
        show some (EV.d (.bool (decide (((x.length : Nat) : Int) > 12)))) = _
        rw [decide_eq_true c2']
      have ew : isW (tl F) x = false := by unfold isW; rw [decide_eq_false h2]; simp
      rw [ew]
      simp -implicitDefEqProofs [u_L_is_name, u_L_is_name_1, u_L_is_name_2, is, gl, c1, c2]
  · have c1' : ((x.length : Nat) : Int) < 1 := by omega
    have c1 : fLt (.int (x.length : Nat)) (.int 1) = some (.d (.bool true)) := by
      show some (EV.d (.bool (decide (((x.length : Nat) : Int) < 1)))) = _
      rw [decide_eq_true c1']
    have ew : isW (tl F) x = false := by unfold isW; rw [decide_eq_false h1]; simp
    rw [ew]
    simp -implicitDefEqProofs [u_L_is_name, u_L_is_name_1, u_L_is_name_2, is, gl, c1]
end
end K01
/-! text K01H -/
set_option Elab.async false
set_option linter.all false
set_option maxRecDepth 100000
set_option maxHeartbeats 4000000
/-! k01: what is told can be written; the law's due. -/
namespace K01
open PySem PySem.Spec PyProof.Rows L2 TL Mi
theorem strOk_cut {T : Str} (h : PyData.strOk T = true) (p q : Nat) : PyData.strOk (cut T p q) = true := by
  rw [strOk_iff] at h ⊢
  intro c hc
  have e : tl (cut T p q) = ((tl T).drop p).take (q - p) := tl_mk _
  rw [e] at hc
  exact h c (List.mem_of_mem_drop (List.mem_of_mem_take hc))
structure TkOk (n : Nat) (d : D) : Prop where
  ex : ∃ (s l : Str) (q : Nat), d = tok s l q ∧ s.cps.size ≤ 7 ∧ PyData.strOk s = true ∧ l.cps.size ≤ n ∧ PyData.strOk l = true ∧ q ≤ n
theorem szl (x : Str) : x.cps.size = (tl x).length := by simp [tl]
theorem step_tk {T : Str} (h : PyData.strOk T = true) {q e : Nat} {s l : Str} (hs : step T q = .go s l e) : s.cps.size ≤ 7 ∧ PyData.strOk s = true ∧ l.cps.size ≤ (tl T).length ∧ PyData.strOk l = true ∧ q ≤ (tl T).length := by
  obtain ⟨_, _, g3, g4, g5⟩ := step_go hs
  have hl : l.cps.size ≤ (tl T).length := by
    have : l.length = l.cps.size := rfl
    omega
  unfold step at hs
  cases z : (tl T)[q]? with
  | none => rw [z] at hs; cases hs
  | some c =>
    rw [z] at hs
    dsimp only at hs
    have hc : c < 0x110000 := (strOk_iff.mp h) c (List.mem_of_getElem? z)
    split at hs
    · cases hs
      refine ⟨by decide, by decide +kernel, hl, ?_, by omega⟩
      rw [strOk_iff]
      intro d hd
      have e : d ∈ [c] := hd
      rw [List.mem_singleton.mp e]
      exact hc
    split at hs
    · cases hs
      exact ⟨by decide, by decide +kernel, hl, by decide +kernel, by omega⟩
    split at hs
    · cases hs
      exact ⟨by decide, by decide +kernel, hl, strOk_cut h _ _, by omega⟩
    split at hs
    · cases hs
      exact ⟨by decide, by decide +kernel, hl, strOk_cut h _ _, by omega⟩
    · cases hs
theorem PX_tk {T : Str} (h : PyData.strOk T = true) : ∀ (k p : Nat), p ≤ (tl T).length → ∀ d ∈ (PX T k p).1, TkOk (tl T).length d := by
  intro k
  induction k with
  | zero => intro p _ d hd; simp [PX] at hd
  | succ k ih =>
    intro p hp d hd
    rw [PX_succ] at hd
    cases z : step T (run_ (tl BLs) (tl T) p) with
    | fin => rw [z] at hd; simp at hd
    | no => rw [z] at hd; simp at hd
    | go s l e =>
      rw [z] at hd
      obtain ⟨_, _, _, _, g5⟩ := step_go z
      rcases List.mem_cons.mp hd with rfl | hd
      · obtain ⟨t1, t2, t3, t4, t5⟩ := step_tk h z
        exact ⟨s, l, _, rfl, t1, t2, t3, t4, t5⟩
      · exact ih e g5 d hd
theorem PX_w {T : Str} : ∀ (k p w : Nat), p ≤ (tl T).length → (PX T k p).2 = some w → w ≤ (tl T).length := by
  intro k
  induction k with
  | zero => intro p w _ h; simp [PX] at h
  | succ k ih =>
    intro p w hp h
    rw [PX_succ] at h
    have hq := run_le (S := tl BLs) hp
    cases z : step T (run_ (tl BLs) (tl T) p) with
    | fin => rw [z] at h; simp at h
    | no => rw [z] at h; simp at h; omega
    | go s l e =>
      rw [z] at h
      obtain ⟨_, _, _, _, g5⟩ := step_go z
      exact ih e w g5 h
theorem told_rp {T : Str} (h : PyData.strOk T = true) (hn : (tl T).length ≤ 100) : Rp 40000 3 (told T) := by
  unfold told
  have tk := PX_tk h ((tl T).length + 1) 0 (Nat.zero_le _)
  have ln := PX_len T ((tl T).length + 1) 0 (Nat.zero_le _)
  have wq := PX_w (T := T) ((tl T).length + 1) 0
  cases z : (PX T ((tl T).length + 1) 0).2 with
  | none =>
    dsimp only
    have each : ∀ d ∈ (PX T ((tl T).length + 1) 0).1, Rp 200 1 d := fun d hd => by
      obtain ⟨s, l, q, rfl, t1, t2, t3, t4, t5⟩ := (tk d hd).ex
      exact (Rp.tup (Rps.cons ((Rp.str t2).mono (w' := 7) (k' := 0) t1 (Nat.le_refl _)) (Rps.cons ((Rp.str t4).mono (w' := 100) (k' := 0) (by omega) (Nat.le_refl _)) (Rps.cons (Rp.nat (by omega)) Rps.nil)))).mono (by decide) (by decide)
    have r := (Rps.all each).mono (w' := 21000) (k' := 1) (by
      have : (PX T ((tl T).length + 1) 0).1.length ≤ 100 := by omega
      calc _ ≤ 100 * (200 + 1) := Nat.mul_le_mul_right _ this
        _ ≤ _ := by decide) (Nat.le_refl _)
    exact (Rp.tup (Rps.cons ((Rp.str (x := "told") (by decide +kernel)).mono (w' := 4) (k' := 0) (by decide) (Nat.le_refl _)) (Rps.cons (Rp.lst r) Rps.nil))).mono (by decide) (by decide)
  | some w =>
    dsimp only
    have := wq w (Nat.zero_le _) z
    exact (Rp.tup (Rps.cons ((Rp.str (x := "refused") (by decide +kernel)).mono (w' := 7) (k' := 0) (by decide) (Nat.le_refl _)) (Rps.cons (Rp.nat (by omega)) Rps.nil))).mono (by decide) (by decide)
theorem last_ix (xs : List D) (d : D) : fIx (.list (xs ++ [d])) (.int (-1)) = some (.d d) := by
  show (L2.atI (xs ++ [d]) (-1)).map EV.d = _
  unfold L2.atI ixN
  have e : (-1 + ((xs.length : Int) + 1)).toNat = xs.length := by omega
  have e2 : (1 : Int) ≤ (xs.length : Int) + 1 := by omega
  simp [e, e2]
theorem last_cut (xs : List D) (d : D) : fSl (.list (xs ++ [d])) none (some (-1)) = some (.fr (.lst xs)) := by
  show some (EV.fr (.lst (cutD (xs ++ [d]) none (some (-1))))) = _
  unfold Mi.cutD HT.sIx
  have e : (-1 + ((xs.length : Int) + 1)).toNat = xs.length := by omega
  simp [e]
end K01
/-! text K01I -/
set_option Elab.async false
set_option linter.all false
set_option maxRecDepth 100000
set_option maxHeartbeats 4000000
/-! k01: a lap. -/
namespace K01
open PySem PySem.Spec PyProof.Rows L2 TL Mi
abbrev eZ (ns : List Int) (s : Src) (x2 x3 x4 x5 x6 x7 x8 : Option SV) : Env' := [some (.scr ns), some (.o (srcM s)), x2, x3, x4, x5, x6, x7, x8]
structure Tx (n : Nat) (T : Str) : Prop where
  ok : PyData.strOk T = true
  len : (tl T).length ≤ n
section
variable {ns : List Int} {s : Src} {x2 x3 x5 x6 x7 x8 : Option SV} {q : RS → Prop} {T : Str}
theorem rest_sp (hT : Tx 100 T) (p6 : pl x6 = true) (h : ∀ y6, pl y6 = true → q (.nx (eZ ns s x2 x3 (some (.d (.str T))) x5 y6 x7 x8))) :
    ws (sSeq b_law_6 (sSeq b_law_7 b_law_8) (eZ ns s x2 x3 (some (.d (.str T))) x5 x6 x7 x8)) q := by
  have hl := len_tl T
  have hT6 : T.length ≤ 1000000 := by have := hT.len; omega
  have d0 := due0_sp hT6
  have t0 := told_sp hT6
  have r0 := (told_rp hT.ok hT.len).repr
  generalize (told T).shown = z at *
  obtain ⟨xs, d, hd, hc⟩ : ∃ xs d, due0 T = xs ++ [d] ∧ ((∃ n, d = tok "end" "" n ∧ told T = .tuple [.str "told", .list xs]) ∨ ∃ w, d = tok "wrong" "" w ∧ told T = .tuple [.str "refused", .int (w : Nat)]) := by
    unfold due0 told
    cases (PX T ((tl T).length + 1) 0).2 with
    | none => exact ⟨_, _, rfl, .inl ⟨_, rfl, rfl⟩⟩
    | some w => exact ⟨_, _, rfl, .inr ⟨_, rfl, rfl⟩⟩
  have li := last_ix xs d
  have lc := last_cut xs d
  rw [← hd] at li lc
  generalize due0 T = L at *
  rcases hc with ⟨n, hdd, ht⟩ | ⟨w, hdd, ht⟩
  · rw [hdd, tok] at li
    rw [ht] at t0 r0
    simp -implicitDefEqProofs [u_law_6, u_law_7, u_law_8, d0, p6, li, lc, t0, r0, sizeLine_eq]
    exact h _ rfl
  · rw [hdd, tok] at li
    rw [ht] at t0 r0
    have w1 : (("wrong" : Str) == ("end" : Str)) = false := by decide
    simp -implicitDefEqProofs [u_law_6, u_law_7, u_law_8, d0, p6, li, lc, t0, r0, sizeLine_eq, w1]
    exact h _ rfl
theorem len_app (a b : Str) : (a ++ b).length = a.length + b.length := by
  show (a.cps ++ b.cps).size = _
  exact Array.size_append
theorem cut_pre {z : Str} {p : Nat} (h : p ≤ (tl z).length) : cutS z none (some (p : Int)) = ⟨((tl z).take p).toArray⟩ := by
  have hl := len_tl z
  unfold cutS
  rw [sIx_at (by omega), sIx_no]
  rfl
theorem ins_sp (hT : Tx 44 T) (p5 : pl x5 = true) (p6 : pl x6 = true) (h : ∀ s y4 y5 y6, pl y4 = true → pl y5 = true → pl y6 = true → q (.nx (eZ ns s x2 x3 y4 y5 y6 x7 x8))) :
    ws (sSeq b_law_5 (sSeq b_law_6 (sSeq b_law_7 b_law_8)) (eZ ns s x2 x3 (some (.d (.str T))) x5 x6 x7 x8)) q := by
  have hl := len_tl T
  have hlen := hT.len
  have gl : gLen [.str T] = some (.d (.int (T.length : Nat))) := by
    show (if T.length ≤ sizeLine then some (EV.d (.int (T.length : Nat))) else none) = _
    rw [if_pos (by rw [sizeLine_eq]; omega)]
  simp -implicitDefEqProofs [u_law_5]
  refine sat_pickN 3 (by decide) fun r s1 hr => ?_
  by_cases h0 : r = 0
  · subst h0
    simp -implicitDefEqProofs [gl]
    refine sat_pickN (T.length + 1) (by omega) fun k s2 hk => ?_
    have hk' : k ≤ (tl T).length := by omega
    have c1 : fSl (.str T) none (some (k : Int)) = some (.d (.str ⟨((tl T).take k).toArray⟩)) := by
      show (if T.length ≤ sizeLine then some (EV.d (.str (cutS T none (some (k : Int))))) else none) = _
      rw [if_pos (by rw [sizeLine_eq]; omega), cut_pre hk']
    have c2 : fSl (.str T) (some (k : Int)) none = some (.d (.str ⟨((tl T).drop k).toArray⟩)) := by
      show (if T.length ≤ sizeLine then some (EV.d (.str (cutS T (some (k : Int)) none))) else none) = _
      rw [if_pos (by rw [sizeLine_eq]; omega), cut_from hk']
    have ea : tl (⟨((tl T).take k).toArray⟩ : Str) = (tl T).take k := tl_mk _
    have eb : tl (⟨((tl T).drop k).toArray⟩ : Str) = (tl T).drop k := tl_mk _
    have oka : PyData.strOk (⟨((tl T).take k).toArray⟩ : Str) = true := by
      rw [strOk_iff, ea]
      exact fun c hc => (strOk_iff.mp hT.ok) c (List.mem_of_mem_take hc)
    have okb : PyData.strOk (⟨((tl T).drop k).toArray⟩ : Str) = true := by
      rw [strOk_iff, eb]
      exact fun c hc => (strOk_iff.mp hT.ok) c (List.mem_of_mem_drop hc)
    have la := len_tl (⟨((tl T).take k).toArray⟩ : Str)
    have lb := len_tl (⟨((tl T).drop k).toArray⟩ : Str)
    rw [ea, List.length_take] at la
    rw [eb, List.length_drop] at lb
    generalize (⟨((tl T).take k).toArray⟩ : Str) = a at *
    generalize (⟨((tl T).drop k).toArray⟩ : Str) = b at *
    simp -implicitDefEqProofs [p5, c1, c2, sizeLine_eq]
    refine sat_of_l (by simp) (by simp) fun x s3 hx => ?_
    have hx' : ∃ y : Str, x = .str y ∧ y.length = 1 ∧ PyData.strOk y = true := by
      have key : ∀ y ∈ ([("?" : Str), ".", "\t", ">", "_", "*"] : List Str), y.length = 1 ∧ PyData.strOk y = true := by decide +kernel
      have hx2 : x ∈ (([("?" : Str), ".", "\t", ">", "_", "*"] : List Str).map .str : List D) := hx
      obtain ⟨y, hy, rfl⟩ := List.mem_map.mp hx2
      exact ⟨y, rfl, key y hy⟩
    obtain ⟨y, rfl, hy1, hy2⟩ := hx'
    have g1 : a.length + y.length ≤ 16777216 := by omega
    have g2 : (a ++ y).length + b.length ≤ 16777216 := by
      have := len_app a y
      omega
    simp -implicitDefEqProofs [p5, c1, c2, sizeLine_eq, g1, g2]
    rw [← w_sSeq]
    refine rest_sp ⟨strOk_app (strOk_app oka hy2) okb, ?_⟩ p6 fun y6 hy6 => h s3 (some (.d (.str (a ++ y ++ b)))) (some (.d (.int (k : Nat)))) y6 rfl rfl hy6
    rw [← len_tl]
    have := len_app a y
    have := len_app (a ++ y) b
    omega
  · have hr' : ((r : Int) == 0) = false := by rw [ib]; exact decide_eq_false (by omega)
    simp -implicitDefEqProofs [hr']
    rw [← w_sSeq]
    exact rest_sp (s := s1) ⟨hT.ok, by omega⟩ p6 fun y6 hy6 => h s1 (some (.d (.str T))) x5 y6 rfl p5 hy6
def PT : List Str := ["a", "ab", "X", "Xs1", "x0", "seal", "in", "007", "12", "0", "(", ")", ",", ":", ";", "=", "+", "-", "<", "#", " ", "\n", "z9Q", "9999"]
theorem PT_ok : ∀ y ∈ PT, y.length ≤ 4 ∧ PyData.strOk y = true := by decide +kernel
theorem strs_of : ∀ {ds : List D}, (∀ d ∈ ds, ∃ y ∈ PT, d = .str y) → ∃ ys : List Str, ds = ys.map .str ∧ ∀ y ∈ ys, y ∈ PT
  | [], _ => ⟨[], rfl, by simp⟩
  | d :: ds, h => by
    obtain ⟨y, hy, rfl⟩ := h d (List.mem_cons_self ..)
    obtain ⟨ys, rfl, h2⟩ := strs_of (ds := ds) fun d hd => h d (List.mem_cons_of_mem _ hd)
    exact ⟨y :: ys, rfl, fun z hz => by
      rcases List.mem_cons.mp hz with rfl | hz
      · exact hy
      · exact h2 z hz⟩
theorem strsD_map : ∀ ys : List Str, strsD (ys.map .str) = some ys
  | [] => rfl
  | y :: ys => by
    show (strsD (ys.map .str)).map _ = _
    rw [strsD_map ys]; rfl
theorem sum_le : ∀ ys : List Str, (∀ y ∈ ys, y ∈ PT) → (ys.map (·.length)).sum ≤ 4 * ys.length
  | [], _ => by simp
  | y :: ys, h => by
    have h1 := (PT_ok y (h y (List.mem_cons_self ..))).1
    have h2 := sum_le ys fun z hz => h z (List.mem_cons_of_mem _ hz)
    simp only [List.map_cons, List.sum_cons, List.length_cons]
    omega
theorem join_tx : ∀ ys : List Str, (∀ y ∈ ys, y ∈ PT) → Tx (4 * ys.length) (Txt.join "" ys) := by
  intro ys h
  have e : tl (Txt.join "" ys) = (ys.map tl).flatten := by
    rw [join_eq, tl_join]
    have e0 : tl (Str.ofString "") = [] := by decide +kernel
    have jn : ∀ l : List (List Nat), joinL [] l = l.flatten := by
      intro l
      induction l with
      | nil => rfl
      | cons p r ih =>
        cases r with
        | nil => simp [joinL]
        | cons q r =>
          simp only [joinL, List.nil_append] at ih ⊢
          rw [ih]; simp
    show joinL (tl (Str.ofString "")) _ = _
    rw [e0, jn]
  refine ⟨?_, ?_⟩
  · rw [strOk_iff, e]
    intro c hc
    obtain ⟨l, hl, hc⟩ := List.mem_flatten.mp hc
    obtain ⟨y, hy, rfl⟩ := List.mem_map.mp hl
    exact (strOk_iff.mp (PT_ok y (h y hy)).2) c hc
  · rw [e, List.length_flatten, List.map_map]
    have := sum_le ys h
    have e2 : (List.length ∘ tl : Str → Nat) = fun y => y.length := by funext y; exact (len_tl y).symm
    rw [e2]
    exact this
theorem lap_sp (p3 : pl x3 = true) (p5 : pl x5 = true) (p6 : pl x6 = true) (x4 : Option SV) (p4 : pl x4 = true) (h : ∀ s y4 y5 y6, pl y4 = true → pl y5 = true → pl y6 = true → q (.nx (eZ ns s (some (.d (.list (PT.map .str)))) x3 y4 y5 y6 x7 x8))) :
    ws (sSeq b_law_4 (sSeq b_law_5 (sSeq b_law_6 (sSeq b_law_7 b_law_8))) (eZ ns s (some (.d (.list (PT.map .str)))) x3 x4 x5 x6 x7 x8)) q := by
  have nP : (PT.map .str : List D) ≠ [] := by decide
  have lP : (PT.map .str : List D).length < 1073741824 := by decide
  have mP : ∀ d ∈ (PT.map .str : List D), ∃ y ∈ PT, d = .str y := fun d hd => by
    obtain ⟨y, hy, rfl⟩ := List.mem_map.mp hd
    exact ⟨y, hy, rfl⟩
  generalize (PT.map .str : List D) = P at *
  simp -implicitDefEqProofs [u_law_4]
  refine sat_pickN 12 (by decide) fun r s1 hr => ?_
  simp -implicitDefEqProofs [p5]
  first | refine ⟨by omega, ?_⟩ | skip
  refine sat_lcDraw 1 .o s1 (fun d => ∃ y ∈ PT, d = .str y) ?_ (by rfl) ?_ ?_
  · rw [List.length_map, List.length_range]; exact szB _ (by omega)
  · intro s d hd
    simp -implicitDefEqProofs
    refine sat_of_l nP lP fun x s2 hx => ?_
    simp -implicitDefEqProofs
    exact ⟨mP x hx, s2, rfl⟩
  intro ds s3 hl1 hds
  rw [List.length_map, List.length_range] at hl1
  obtain ⟨ys, rfl, hys⟩ := strs_of hds
  have hyl : ys.length ≤ 11 := by rw [List.length_map] at hl1; omega
  have tx := join_tx ys hys
  have gj : sJoin "" [.list (ys.map .str)] = some (.d (.str (Txt.join "" ys))) := by
    have hs := sum_le ys hys
    show ((strsD (ys.map .str)).bind fun ys => if (ys.map (·.length)).sum + ys.length * (Str.ofString "").length ≤ 16777216 then some (EV.d (.str (Txt.join "" ys))) else none) = _
    rw [strsD_map, Option.bind_some, if_pos]
    have : (Str.ofString "").length = 0 := by decide +kernel
    rw [this]; omega
  have tx' : Tx 44 (Txt.join "" ys) := ⟨tx.ok, by have := tx.len; omega⟩
  clear hds hl1 tx
  generalize Txt.join "" ys = T at *
  generalize (ys.map .str : List D) = Y at *
  simp -implicitDefEqProofs [gj, p4, p5]
  rw [← w_sSeq]
  exact ins_sp tx' (by first | exact p5 | rfl) p6 h
end
end K01
/-! text K01J -/
set_option Elab.async false
set_option linter.all false
set_option maxRecDepth 100000
set_option maxHeartbeats 4000000
/-! k01: the values. -/
namespace K01
open PySem PySem.Spec PyProof.Rows L2 TL Mi
def V1 : List D := [.none, .bool true, .int 0, .tuple [], .tuple [.str "a"], .list [.str "a"], .str "", .str "a", .str "aB", .str "a1", .str "1a", .str "x", .str "xX", .str "X", .str "Xx", .str "XX", .str "X1b", .str "xxxxxxxxxxxx"]
def V2 : List D := [.str "xxxxxxxxxxxxx", .str "Xxxxxxxxxxxx", .str "Xxxxxxxxxxxxx", .str "Open", .str "opens", .str "A", .str "x-", .str "B2", .str "#", .str "a b"]
/-- a value that the law asks about -/
def Vok (v : D) : Prop := isiD "str" v = false ∨ ∃ x : Str, v = .str x ∧ x.length ≤ 1000
theorem V1_ok : ∀ v ∈ V1 ++ V2 ++ KTs.map .str, Vok v := by
  have key : ∀ v ∈ V1 ++ V2 ++ KTs.map .str, (match v with | .str x => decide (x.length ≤ 1000) | v => !(isiD "str" v)) = true := by decide +kernel
  intro v hv
  have := key v hv
  cases v with
  | str x => exact .inr ⟨x, rfl, of_decide_eq_true this⟩
  | _ => exact .inl rfl
section
variable {ns : List Int} {s : Src} {x2 x3 x4 x5 x6 x7 : Option SV} {q : RS → Prop} {v : D}
theorem rp_bb (a b : Bool) : Rp 2 1 (.list [.bool a, .bool b]) := (Rp.lst (Rps.cons (Rp.bool a) (Rps.cons (Rp.bool b) Rps.nil))).mono (by decide) (by decide)
theorem val_sp (hv : Vok v) (p6 : pl x6 = true) (h : ∀ y6, pl y6 = true → q (.nx (eZ ns s x2 x3 x4 x5 y6 x7 (some (.d v))))) :
    ws (sSeq (sAsg (asgN false 6) (mLst (aCons (mFn 2 f_L_is_name (aCons (getV 8) (aCons (cst (.str ("small" : Str))) aNil))) (aCons (mFn 2 f_L_is_name (aCons (getV 8) (aCons (cst (.str ("big" : Str))) aNil))) aNil))))
      (sIf (mTB (mBin fNe (mCall fRepr (aCons (mLst (aCons (mFn 1 f_is_name (aCons (getV 8) aNil)) (aCons (mFn 1 f_is_tag (aCons (getV 8) aNil)) aNil))) aNil)) (mCall fRepr (aCons (getV 6) aNil)))) (sRet (cst (.bool false))) sNil)
      (eZ ns s x2 x3 x4 x5 x6 x7 (some (.d v)))) q := by
  obtain ⟨a, b, e1, e2, e3, e4⟩ : ∃ a b, f_is_name [.d v] = .ok (.d (.bool a)) [some (.d v)] ∧ f_is_tag [.d v] = .ok (.d (.bool b)) [some (.d v)] ∧
      f_L_is_name [.d v, .d (.str "small")] = .ok (.d (.bool a)) [some (.d v), some (.d (.str "small"))] ∧ f_L_is_name [.d v, .d (.str "big")] = .ok (.d (.bool b)) [some (.d v), some (.d (.str "big"))] := by
    rcases hv with hv | ⟨x, rfl, hx⟩
    · exact ⟨false, false, name_n hv, tag_n hv, lname_n hv, lname_n hv⟩
    · have hx' : x.length ≤ 1000000 := by omega
      refine ⟨_, _, name_s hx', tag_s hx', lname_s hx' (.inl ⟨by decide, rfl⟩), ?_⟩
      have := lname_s (F := BGs) (s := "big") hx' (.inr ⟨by decide, rfl⟩)
      rw [this]
      congr 3
      cases hw : isW (tl BGs) x with
      | false => rfl
      | true =>
        unfold isW at hw
        cases e : tl x with
        | nil => rw [e] at hw; simp at hw
        | cons c r =>
          rw [e] at hw
          simp only [Bool.and_eq_true, decide_eq_true_eq] at hw
          rw [kp_big e hw.2.2.1]
          rfl
  have r := (rp_bb a b).repr
  generalize (PyData.list [.bool a, .bool b]).shown = z at *
  simp -implicitDefEqProofs [e1, e2, e3, e4, p6, r, sizeLine_eq]
  exact h _ rfl
end
end K01
/-! text K01K -/
set_option Elab.async false
set_option linter.all false
set_option maxRecDepth 100000
set_option maxHeartbeats 4000000
/-! k01: the law. -/
namespace K01
open PySem PySem.Spec PyProof.Rows L2 TL Mi
def Good (ns : List Int) (r : RS) : Prop := ∃ bs, endF [some (.scr ns)] r = .ok (.d (.bool true)) bs
def IA (ns : List Int) (ρ : Env') : Prop := ∃ s x3 x4 x5 x6, (pl x3 && pl x4 && pl x5 && pl x6) = true ∧ ρ = eZ ns s (some (.d (.list (PT.map .str)))) x3 x4 x5 x6 none none
def IB (ns : List Int) (ρ : Env') : Prop := ∃ s x2 x3 x4 x5 x6 x7 x8, (pl x2 && pl x3 && pl x4 && pl x5 && pl x6 && pl x7 && pl x8) = true ∧ ρ = eZ ns s x2 x3 x4 x5 x6 x7 x8
theorem px_T : PX "T(x0)" ((tl ("T(x0)" : Str)).length + 1) 0 = ([tok "word" "T" 0, tok "sign" "(" 1, tok "word" "x0" 2, tok "sign" ")" 4], none) := by kernel_rfl
theorem lex_T : f_lexemes [.d (.str "T(x0)")] = .ok (.fr (.lst [tok "word" "T" 0, tok "sign" "(" 1, tok "word" "x0" 2, tok "sign" ")" 4])) [some (.d (.str "T(x0)"))] := by
  have := lexemes_sp (T := "T(x0)") (by decide)
  rw [px_T] at this
  exact this
theorem eq_T : eqO (tok "word" "x0" 2) (tok "word" "x0" 2) = some true := by
  have r : Rp 100 1 (tok "word" "x0" 2) := (Rp.tup (Rps.cons ((Rp.str (x := "word") (by decide +kernel)).mono (w' := 4) (k' := 0) (by decide +kernel) (Nat.le_refl _)) (Rps.cons ((Rp.str (x := "x0") (by decide +kernel)).mono (w' := 2) (k' := 0) (by decide +kernel) (Nat.le_refl _)) (Rps.cons (Rp.nat (n := 2) (by decide)) Rps.nil)))).mono (by decide) (by decide)
  rw [eqO_nb (by simp [tok, NB, NBs]) (by simp [tok, NB, NBs]) r.lay r.lay (by have := r.dep; omega), sm_refl]
theorem fMulT_s {x z : Str} {k : Int} (h1 : 2 ≤ k) (h2 : k ≤ 1000) (h3 : 1 ≤ x.length) (h4 : x.length ≤ 1000) (e : repS x k.toNat = z) : fMulT (.str x) (.int k) = some (.d (.str z)) := by
  unfold fMulT
  dsimp only
  rw [if_pos ⟨h1, h2, h3, h4⟩, e]
theorem K_ok : ∀ y ∈ KTs, y.length ≤ 10 := by decide +kernel
theorem law_true (ns : List Int) (hn : ns.length ≤ 63) : ∃ bs, f_law [.scr ns] = .ok (.d (.bool true)) bs := by
  show Good ns (b_law [some (.scr ns), none, none, none, none, none, none, none, none])
  refine ws_out (q := Good ns) ?_
  obtain ⟨src0, h0⟩ := source_sp ns (szB _ (by omega))
  rw [u_law]
  simp -implicitDefEqProofs [u_law_1, u_law_2, u_law_3, h0, sizeLine_eq]
  have eP : ∀ L : List D, L = PT.map .str → True := fun _ _ => trivial
  rw [u_law_9]
  simp -implicitDefEqProofs
  refine ws_fL (fun _ => IA ns) ⟨src0, none, none, none, none, rfl, rfl⟩ ?_ ?_
  · rintro i d ρ hi ⟨s, x3, x4, x5, x6, hp, rfl⟩
    simp only [Bool.and_eq_true] at hp
    obtain ⟨⟨⟨p3, p4⟩, p5⟩, p6⟩ := hp
    have e : RS.ofO (asgN false 3 (.d d) (eZ ns s (some (.d (.list (PT.map .str)))) x3 x4 x5 x6 none none)) = .nx (eZ ns s (some (.d (.list (PT.map .str)))) (some (.d d)) x4 x5 x6 none none) := by simp [p3]
    rw [e, RS.then_nx]
    refine lap_sp rfl p5 p6 x4 p4 fun s y4 y5 y6 q4 q5 q6 => ?_
    rw [lpQ_nx]
    exact ⟨s, _, y4, y5, y6, by simp [q4, q5, q6], rfl⟩
  · rintro ρ ⟨s, x3, x4, x5, x6, hp, rfl⟩
    simp only [Bool.and_eq_true] at hp
    obtain ⟨⟨⟨p3, p4⟩, p5⟩, p6⟩ := hp
    have m12 : fMulT (.str "x") (.int 12) = some (.d (.str "xxxxxxxxxxxx")) := fMulT_s (by decide) (by decide) (by decide) (by decide) (by decide +kernel)
    have m13 : fMulT (.str "x") (.int 13) = some (.d (.str "xxxxxxxxxxxxx")) := fMulT_s (by decide) (by decide) (by decide) (by decide) (by decide +kernel)
    have m11 : fMulT (.str "x") (.int 11) = some (.d (.str "xxxxxxxxxxx")) := fMulT_s (by decide) (by decide) (by decide) (by decide) (by decide +kernel)
    have a11 : ("X" : Str) ++ ("xxxxxxxxxxx" : Str) = "Xxxxxxxxxxxx" := by decide +kernel
    have a12 : ("X" : Str) ++ ("xxxxxxxxxxxx" : Str) = "Xxxxxxxxxxxxx" := by decide +kernel
    have z11 : ("X" : Str).length + ("xxxxxxxxxxx" : Str).length ≤ 16777216 := by decide +kernel
    have z12 : ("X" : Str).length + ("xxxxxxxxxxxx" : Str).length ≤ 16777216 := by decide +kernel
    simp -implicitDefEqProofs [u_law_10, u_law_11, sizeLine_eq, m11, m12, m13, a11, a12, z11, z12]
    have vok := V1_ok
    have mk : ∀ d ∈ (KTs.map .str : List D), ∃ y ∈ KTs, d = .str y := fun d hd => by
      obtain ⟨y, hy, rfl⟩ := List.mem_map.mp hd
      exact ⟨y, hy, rfl⟩
    have lk : (KTs.map .str : List D).length = 23 := by decide
    have lv : (V1 ++ V2).length = 28 := by decide
    have kk := kept_sp
    have nk : (KTs.map .str : List D) ≠ [] := by decide
    show ws (b_law_12 (eZ ns s (some (.d (.list (PT.map .str)))) x3 x4 x5 x6 (some (.d (.list (V1 ++ V2)))) none)) (thenQ b_law_13 (Good ns))
    generalize (KTs.map .str : List D) = Z at *
    generalize V1 ++ V2 = VV at *
    generalize (PT.map .str : List D) = P at *
    rw [u_law_12]
    simp -implicitDefEqProofs [kk, sizeLine_eq, lk, lv]
    refine sat_of_l nk (by omega) fun x s2 hx => ?_
    obtain ⟨y, hy, rfl⟩ := mk x hx
    have hyl := K_ok y hy
    have g1 : y.length + ("1" : Str).length ≤ 16777216 := by
      have : ("1" : Str).length = 1 := by decide
      omega
    have y1 : Vok (.str (y ++ "1")) := .inr ⟨_, rfl, by
      have : ("1" : Str).length = 1 := by decide
      rw [len_app]; omega⟩
    simp -implicitDefEqProofs [kk, sizeLine_eq, lk, lv, g1]
    have all : ∀ d ∈ VV ++ (Z ++ [.str (y ++ "1")]), Vok d := fun d hd => by
      rw [← List.append_assoc] at hd
      rcases List.mem_append.mp hd with hd | hd
      · exact vok d hd
      · rw [List.mem_singleton.mp hd]
        exact y1
    have lt : f_lexemes [.d (.str "T(x0)")] = .ok (.fr (.lst [tok "word" "T" 0, tok "sign" "(" 1, .tuple [.str "word", .str "x0", .int 2], tok "sign" ")" 4])) [some (.d (.str "T(x0)"))] := lex_T
    have et : eqO (.tuple [.str "word", .str "x0", .int 2]) (.tuple [.str "word", .str "x0", .int 2]) = some true := eq_T
    generalize VV ++ (Z ++ [.str (y ++ "1")]) = W at *
    refine ws_fL (fun _ => IB ns) ⟨s2, _, _, _, _, _, _, _, by simp [p3, p4, p5, p6], rfl⟩ ?_ ?_
    · rintro i d ρ hi ⟨s, x2, x3, x4, x5, x6, x7, x8, hp, rfl⟩
      simp only [Bool.and_eq_true] at hp
      obtain ⟨⟨⟨⟨⟨⟨p2, p3⟩, p4⟩, p5⟩, p6⟩, p7⟩, p8⟩ := hp
      have e : RS.ofO (asgN false 8 (.d d) (eZ ns s x2 x3 x4 x5 x6 x7 x8)) = .nx (eZ ns s x2 x3 x4 x5 x6 x7 (some (.d d))) := by simp [p8]
      rw [e, RS.then_nx]
      refine val_sp (all d (List.mem_of_getElem? hi)) p6 fun y6 q6 => ?_
      rw [lpQ_nx]
      exact ⟨s, x2, x3, x4, x5, y6, x7, _, by simp [p2, p3, p4, p5, q6, p7], rfl⟩
    · rintro ρ ⟨s, x2, x3, x4, x5, x6, x7, x8, hp, rfl⟩
      simp only [Bool.and_eq_true] at hp
      obtain ⟨⟨⟨⟨⟨⟨p2, p3⟩, p4⟩, p5⟩, p6⟩, p7⟩, p8⟩ := hp
      simp -implicitDefEqProofs [u_law_13, lt, et, sizeLine_eq, p2, p3, p4, p5, p6, p7, p8]
      exact ⟨_, rfl⟩
end K01
/-! text K01Z -/
set_option Elab.async false
set_option linter.all false
set_option maxRecDepth 100000
set_option maxHeartbeats 0
open PySem PySem.W PySem.Calls PyProof.Rows
theorem PySem.Challenge.cw_sealedruns_k01_lexemes_and_names_holds : PySem.Challenge.rw_sealedruns_k01_lexemes_and_names.Holds := by
  w_on; o_law
  refine HandSHeadRun.head_any (r := K01.Rw) (q := view K01.Rw.prog [25]) (H := K01.hk) (ob := K01.ob) (M := 3000) (loose := K01.loose) (d := HandSHeadRun.topDef K01.Rw.prog 25) (kwd := []) K01.ob_eq
    (by kernel_rfl) (fun s => by kernel_rfl) K01.run (by kernel_rfl) (by kernel_rfl) (by kernel_rfl) (by rfl) (by first | assumption | decide +kernel) (by decide +kernel) ⟨rfl, rfl, rfl, rfl, rfl, by decide +kernel⟩ ?hw ?hc
  case hw => w_witness2
  case hc => exact K01.call K01.law_true
