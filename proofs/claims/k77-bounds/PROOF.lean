import PyProof.Rows.All
import Wide.All
import OpenK.AllK
import Wide.FinOn
import HandS.ForMost
import HandS.Flow
import HandS.TupAny
import HandS.TupMul
import HandS.Style
import HandS.IsInst
import HandS.Conv
import HandS.SetFor
import HandS.Sort
import HandS.Strs
import HandS.Zip
import HandS.Small
import KE.GoesNew
import KE.GoesEnum
import KE.GoesMore
import HandS.Wide
import HandS.Defaults
import HandS.Exc
import HandS.Head0
import HandS.Head1
import HandS.Head2
import HandS.HeadEnd
import HandS.HeadHook1
import HandS.HeadHook2
import HandS.HeadHook3
import KE.SortData
import KE.KItemsList
import PySem.Challenge.RW_contesthouse_k77_whole_bounds_reached_an
section
set_option Elab.async false
set_option linter.all false
set_option maxRecDepth 100000
/-! Part 1: plain data, and how it is borne by the hand layer's heap. -/
namespace DI
open PySem PySem.Spec PyProof.Rows L2

/-- plain data; a text is the list of its codes -/
inductive D where
  | non | bl (b : Bool) | int (i : Int) | str (x : List Nat) | ty (n : String) | cl (n : String)
  | tup (xs : List D) | lst (xs : List D) | scr (xs : List D) | dct (kvs : List (Key × D)) | rng (lo hi : Int)

/-- what a name of a def holds: nothing, data, a list or a dict of its own (b: lent by the caller) -/
inductive Sl where
  | un | va (d : D) | li (b : Bool) (xs : List D) | di (b : Bool) (kvs : List (Key × D))

/-- what an expression gives: data, a new list, a new dict, a look at a name's own object -/
inductive Vl where
  | va (d : D) | ol (xs : List D) | od (kvs : List (Key × D)) | vw (i : Nat)

abbrev Envi := List Sl

inductive Res (α : Type) where
  | ok (a : α) | bad

/-- a list, a tuple of the written part -/
def WrL (K : PySem.W.Frag) (a : Addr) (xs : List V) : Prop := ∀ H : Hp, SqL K H a xs
def WrT (K : PySem.W.Frag) (a : Addr) (xs : List V) : Prop := ∀ H : Hp, SqT K H a xs

mutual
/-- data d is borne by v; U: addresses that no data may use -/
inductive VR (K : PySem.W.Frag) (U : Addr → Prop) (H : Hp) : D → V → Prop
  | non : VR K U H .non .non
  | bl (b : Bool) : VR K U H (.bl b) (.bl b)
  | int (i : Int) : VR K U H (.int i) (.int i)
  | str (x : List Nat) : VR K U H (.str x) (.str ⟨x.toArray⟩)
  | ty (n : String) : VR K U H (.ty n) (.ty n)
  | cl (n : String) : VR K U H (.cl n) (.ref (He.ga K n))
  | tup {a : Addr} {vs : List V} {ds : List D} : ((Rd H a (.tup vs) ∧ ¬ U a) ∨ WrT K a vs) → VRs K U H ds vs → VR K U H (.tup ds) (.ref a)
  | lst {a : Addr} {vs : List V} {ds : List D} : H a = some (.lst vs) → ¬ U a → VRs K U H ds vs → VR K U H (.lst ds) (.ref a)
  | scr {a : Addr} {vs : List V} {ds : List D} : ((Rd H a (.lst vs) ∧ ¬ U a) ∨ WrL K a vs) → VRs K U H ds vs → VR K U H (.scr ds) (.ref a)
  | dct {a : Addr} {kvs : List (Key × D)} {us : List (Key × V)} : H a = some (.dK us) → ¬ U a → VKs K U H kvs us → VR K U H (.dct kvs) (.ref a)
  | rng {a : Addr} {lo hi : Int} : H a = some (.rng lo hi) → ¬ U a → VR K U H (.rng lo hi) (.ref a)
inductive VRs (K : PySem.W.Frag) (U : Addr → Prop) (H : Hp) : List D → List V → Prop
  | nil : VRs K U H [] []
  | cons {d : D} {v : V} {ds : List D} {vs : List V} : VR K U H d v → VRs K U H ds vs → VRs K U H (d :: ds) (v :: vs)
inductive VKs (K : PySem.W.Frag) (U : Addr → Prop) (H : Hp) : List (Key × D) → List (Key × V) → Prop
  | nil : VKs K U H [] []
  | cons {k : Key} {d : D} {v : V} {ds : List (Key × D)} {vs : List (Key × V)} : VR K U H d v → VKs K U H ds vs → VKs K U H ((k, d) :: ds) ((k, v) :: vs)
end

/-- from H to H': only what stands at W changed, nothing is forgotten -/
structure Ev (W : Addr → Prop) (H H' : Hp) : Prop where
  keep : ∀ a o, H a = some o → ¬ W a → H' a = some o
  more : ∀ a, H a ≠ none → H' a ≠ none

abbrev No : Addr → Prop := fun _ => False
/-- U and one more -/
abbrev pl (U : Addr → Prop) (a : Addr) : Addr → Prop := fun b => U b ∨ b = a

theorem Ev.refl {W : Addr → Prop} {H : Hp} : Ev W H H := ⟨fun _ _ e _ => e, fun _ e => e⟩
theorem Ev.mono {W W' : Addr → Prop} {H H' : Hp} (e : Ev W H H') (h : ∀ a, W a → W' a) : Ev W' H H' := ⟨fun a o q n => e.keep a o q fun z => n (h a z), e.more⟩
theorem Ev.trans {W : Addr → Prop} {H H1 H2 : Hp} (a : Ev W H H1) (b : Ev W H1 H2) : Ev W H H2 := ⟨fun x o q n => b.keep x o (a.keep x o q n) n, fun x q => b.more x (a.more x q)⟩
/-- the later step may change what the first one made -/
theorem Ev.trans2 {W W1 : Addr → Prop} {H H1 H2 : Hp} (a : Ev W H H1) (b : Ev W1 H1 H2) (h : ∀ x, W1 x → W x ∨ H x = none) : Ev W H H2 :=
  ⟨fun x o q n => b.keep x o (a.keep x o q n) (fun z => (h x z).elim n fun z => (by rw [q] at z; cases z)), fun x q => b.more x (a.more x q)⟩
theorem upd_more {H : Hp} {p a : Addr} {o : HO} (e : H a ≠ none) : upd H p o a ≠ none := by
  by_cases q : a = p
  · subst q; rw [upd_same]; exact fun z => nomatch z
  · rw [upd_ne q]; exact e
theorem Ev.new {W : Addr → Prop} {H : Hp} {p : Addr} {o : HO} (h : H p = none) : Ev W H (upd H p o) :=
  ⟨fun a u e _ => (upd_ne (ne_of_none e h)).trans e, fun a e => upd_more e⟩
theorem Ev.set {W : Addr → Prop} {H : Hp} {p : Addr} {o : HO} (h : W p) : Ev W H (upd H p o) :=
  ⟨fun a u e n => (upd_ne fun q => n (by rw [q]; exact h)).trans e, fun a e => upd_more e⟩
theorem Ev.none {W : Addr → Prop} {H H' : Hp} (e : Ev W H H') {a : Addr} (h : H' a = none) : H a = none := Decidable.byContradiction fun q => e.more a q h

section
variable {K : PySem.W.Frag} {U U' W : Addr → Prop} {H H' : Hp}
theorem rd_keep {a : Addr} {u : HO} (e : Ev W H H') (hu : ¬ W a) (r : Rd H a u) : Rd H' a u := by
  rcases r with r | ⟨o, r⟩
  · exact .inl (e.keep a _ r hu)
  · exact .inr ⟨o, e.keep a _ r hu⟩
theorem rd_some {a : Addr} {u : HO} (r : Rd H a u) : H a ≠ none := by
  rcases r with r | ⟨o, r⟩ <;> (rw [r]; exact fun z => nomatch z)
/-- what stays true of the set of what no data may use -/
structure Step (W U U' : Addr → Prop) (H H' : Hp) : Prop where
  ev : Ev W H H'
  wu : ∀ a, W a → U a
  uu : ∀ a, U' a → U a ∨ H a = Option.none
theorem Step.nu (s : Step W U U' H H') {a : Addr} (n : ¬ U a) (h : H a ≠ Option.none) : ¬ U' a := fun z => (s.uu a z).elim n h
mutual
theorem VR.mono (s : Step W U U' H H') : ∀ {d : D} {v : V}, VR K U H d v → VR K U' H' d v
  | _, _, .non => .non
  | _, _, .bl b => .bl b
  | _, _, .int i => .int i
  | _, _, .str x => .str x
  | _, _, .ty n => .ty n
  | _, _, .cl n => .cl n
  | _, _, .tup h r => .tup (h.imp (fun q => ⟨rd_keep s.ev (fun z => q.2 (s.wu _ z)) q.1, s.nu q.2 (rd_some q.1)⟩) id) (VRs.mono s r)
  | _, _, .lst h n r => .lst (s.ev.keep _ _ h fun z => n (s.wu _ z)) (s.nu n (by rw [h]; exact fun z => nomatch z)) (VRs.mono s r)
  | _, _, .scr h r => .scr (h.imp (fun q => ⟨rd_keep s.ev (fun z => q.2 (s.wu _ z)) q.1, s.nu q.2 (rd_some q.1)⟩) id) (VRs.mono s r)
  | _, _, .dct h n r => .dct (s.ev.keep _ _ h fun z => n (s.wu _ z)) (s.nu n (by rw [h]; exact fun z => nomatch z)) (VKs.mono s r)
  | _, _, .rng h n => .rng (s.ev.keep _ _ h fun z => n (s.wu _ z)) (s.nu n (by rw [h]; exact fun z => nomatch z))
theorem VRs.mono (s : Step W U U' H H') : ∀ {d : List D} {v : List V}, VRs K U H d v → VRs K U' H' d v
  | _, _, .nil => .nil
  | _, _, .cons h r => .cons (VR.mono s h) (VRs.mono s r)
theorem VKs.mono (s : Step W U U' H H') : ∀ {d : List (Key × D)} {v : List (Key × V)}, VKs K U H d v → VKs K U' H' d v
  | _, _, .nil => .nil
  | _, _, .cons h r => .cons (VR.mono s h) (VKs.mono s r)
end
theorem Step.weak (h : ∀ a, U' a → U a) : Step No U U' H H := ⟨.refl, fun _ z => z.elim, fun a z => .inl (h a z)⟩
theorem VRs.length : ∀ {ds : List D} {vs : List V}, VRs K U H ds vs → ds.length = vs.length
  | _, _, .nil => rfl
  | _, _, .cons _ r => by simp [VRs.length r]
theorem VRs.get : ∀ {ds : List D} {vs : List V} {i : Nat} {d : D}, VRs K U H ds vs → ds[i]? = some d → ∃ v, vs[i]? = some v ∧ VR K U H d v
  | _, _, _, _, .nil, e => by simp at e
  | _, _, 0, _, .cons r _, e => by simp at e; subst e; exact ⟨_, rfl, r⟩
  | _, _, i + 1, d, .cons _ t, e => by
    obtain ⟨u, h1, h2⟩ := VRs.get (i := i) (d := d) t (by simpa using e)
    exact ⟨u, by simpa using h1, h2⟩
theorem VRs.getV : ∀ {ds : List D} {vs : List V} {i : Nat} {v : V}, VRs K U H ds vs → vs[i]? = some v → ∃ d, ds[i]? = some d ∧ VR K U H d v
  | _, _, _, _, .nil, e => by simp at e
  | _, _, 0, _, .cons r _, e => by simp at e; subst e; exact ⟨_, rfl, r⟩
  | _, _, i + 1, d, .cons _ t, e => by
    obtain ⟨u, h1, h2⟩ := VRs.getV (i := i) (v := d) t (by simpa using e)
    exact ⟨u, by simpa using h1, h2⟩
theorem VRs.append : ∀ {ds es : List D} {vs us : List V}, VRs K U H ds vs → VRs K U H es us → VRs K U H (ds ++ es) (vs ++ us)
  | _, _, _, _, .nil, s => s
  | _, _, _, _, .cons r t, s => .cons r (VRs.append t s)
theorem VRs.take : ∀ {ds : List D} {vs : List V} (n : Nat), VRs K U H ds vs → VRs K U H (ds.take n) (vs.take n)
  | _, _, 0, _ => .nil
  | _, _, _ + 1, .nil => .nil
  | _, _, n + 1, .cons r t => .cons r (VRs.take n t)
theorem VRs.drop : ∀ {ds : List D} {vs : List V} (n : Nat), VRs K U H ds vs → VRs K U H (ds.drop n) (vs.drop n)
  | _, _, 0, r => r
  | _, _, _ + 1, .nil => .nil
  | _, _, n + 1, .cons _ t => VRs.drop n t
theorem VRs.set {d : D} {v : V} (r : VR K U H d v) : ∀ {ds : List D} {vs : List V} (i : Nat), VRs K U H ds vs → VRs K U H (ds.set i d) (vs.set i v)
  | _, _, _, .nil => .nil
  | _, _, 0, .cons _ t => .cons r t
  | _, _, i + 1, .cons q t => .cons q (VRs.set r i t)
theorem VRs.eraseIdx : ∀ {ds : List D} {vs : List V} (i : Nat), VRs K U H ds vs → VRs K U H (ds.eraseIdx i) (vs.eraseIdx i)
  | _, _, _, .nil => .nil
  | _, _, 0, .cons _ t => t
  | _, _, i + 1, .cons q t => .cons q (VRs.eraseIdx i t)
theorem VRs.reverse {ds : List D} {vs : List V} (h : VRs K U H ds vs) : VRs K U H ds.reverse vs.reverse := by
  induction h using VRs.rec (motive_1 := fun _ _ _ => True) (motive_3 := fun _ _ _ => True) with
  | nil => exact .nil
  | cons r t _ ih => rw [List.reverse_cons, List.reverse_cons]; exact ih.append (.cons r .nil)
  | _ => trivial
theorem VRs.rep {ds : List D} {vs : List V} (h : VRs K U H ds vs) : ∀ k : Nat, VRs K U H (List.replicate k ds).flatten (List.replicate k vs).flatten
  | 0 => .nil
  | k + 1 => by rw [List.replicate_succ, List.replicate_succ, List.flatten_cons, List.flatten_cons]; exact h.append (VRs.rep h k)
theorem VRs.ints : ∀ {ns : List Int} {vs : List V}, VRs K U H (ns.map D.int) vs → vs = ns.map V.int
  | [], _, .nil => rfl
  | _ :: _, _, .cons r t => by cases r; rw [VRs.ints t]; rfl
theorem VRs.of_ints : ∀ {ns : List Int}, VRs K U H (ns.map D.int) (ns.map V.int)
  | [] => .nil
  | _ :: _ => .cons (.int _) VRs.of_ints
theorem VKs.length : ∀ {ds : List (Key × D)} {vs : List (Key × V)}, VKs K U H ds vs → ds.length = vs.length
  | _, _, .nil => rfl
  | _, _, .cons _ r => by simp [VKs.length r]
end

/-! ### what a name holds -/
def Sl.own : Sl → Bool
  | .li _ _ => true
  | .di _ _ => true
  | _ => false
def Sl.bor : Sl → Bool
  | .li b _ => b
  | .di b _ => b
  | _ => false
/-- its make -/
inductive Kd | un | va | li (b : Bool) | di (b : Bool) deriving DecidableEq
def Sl.kd : Sl → Kd
  | .un => .un
  | .va _ => .va
  | .li b _ => .li b
  | .di b _ => .di b
def SlR (K : PySem.W.Frag) (U B L : Addr → Prop) (H : Hp) (s : Sl) (o : Option (Option V)) : Prop := match s with
  | .un => True
  | .va d => ∃ v, o = some (some v) ∧ VR K U H d v
  | .li b ds => ∃ a vs, o = some (some (.ref a)) ∧ (if b = true then B a else L a) ∧ H a = some (.lst vs) ∧ VRs K U H ds vs
  | .di b kvs => ∃ a us, o = some (some (.ref a)) ∧ (if b = true then B a else L a) ∧ H a = some (.dK us) ∧ VKs K U H kvs us

/-- a def's names stand. U: what no data uses; B: lent objects; L: own objects -/
structure ER (K : PySem.W.Frag) (U B L : Addr → Prop) (env : Envi) (σ : L2.St) (H : Hp) : Prop where
  len : env.length = σ.length
  sl : ∀ (i : Nat) (s : Sl), env[i]? = some s → SlR K U B L H s (σ[i]?)
  dj : ∀ (i j : Nat) (s t : Sl) (a : Addr), env[i]? = some s → env[j]? = some t → s.own = true → t.own = true → σ[i]? = some (some (.ref a)) → σ[j]? = some (some (.ref a)) → i = j
  bu : ∀ a, B a → U a
  lu : ∀ a, L a → U a
  tr : ∀ a, U a → H a ≠ none

abbrev Wof (B L : Addr → Prop) : Addr → Prop := fun a => B a ∨ L a

section
variable {K : PySem.W.Frag} {U U' B L W : Addr → Prop} {H H' : Hp} {env : Envi} {σ : L2.St}
theorem SlR.addr {s : Sl} {o : Option (Option V)} (r : SlR K U B L H s o) (h : s.own = true) : ∃ a, o = some (some (.ref a)) ∧ Wof B L a := by
  cases s with
  | un => cases h
  | va d => cases h
  | li b ds => obtain ⟨a, vs, e, w, _⟩ := r; exact ⟨a, e, by cases b <;> simp at w <;> simp [w, Wof]⟩
  | di b ds => obtain ⟨a, vs, e, w, _⟩ := r; exact ⟨a, e, by cases b <;> simp at w <;> simp [w, Wof]⟩
/-- nothing of the names' own changed -/
theorem SlR.grow {s : Sl} {o : Option (Option V)} (e : Ev No H H') (uu : ∀ a, U' a → U a ∨ H a = none) (r : SlR K U B L H s o) : SlR K U' B L H' s o := by
  have st : Step No U U' H H' := ⟨e, fun _ z => z.elim, uu⟩
  cases s with
  | un => trivial
  | va d => obtain ⟨v, e1, r1⟩ := r; exact ⟨v, e1, r1.mono st⟩
  | li b ds => obtain ⟨a, vs, e1, w, h, r1⟩ := r; exact ⟨a, vs, e1, w, e.keep _ _ h (fun z => z), r1.mono st⟩
  | di b ds => obtain ⟨a, vs, e1, w, h, r1⟩ := r; exact ⟨a, vs, e1, w, e.keep _ _ h (fun z => z), r1.mono st⟩
theorem ER.grow (R : ER K U B L env σ H) (e : Ev No H H') : ER K U B L env σ H' :=
  ⟨R.len, fun i s h => (R.sl i s h).grow e fun a z => .inl z, R.dj, R.bu, R.lu, fun a h => e.more a (R.tr a h)⟩
/-- one more address that no data uses -/
theorem ER.more {p : Addr} (R : ER K U B L env σ H) (e : Ev No H H') (h : H p = none) (h' : H' p ≠ none) : ER K (pl U p) B L env σ H' :=
  ⟨R.len, fun i s q => (R.sl i s q).grow e fun a z => z.imp id fun z => by rw [z]; exact h, R.dj, fun a z => .inl (R.bu a z), fun a z => .inl (R.lu a z), fun a z => by
    rcases z with z | z
    · exact e.more a (R.tr a z)
    · rw [z]; exact h'⟩
theorem SlR.weak {s : Sl} {o : Option (Option V)} (h : ∀ a, U' a → U a) (r : SlR K U B L H s o) : SlR K U' B L H s o := r.grow .refl fun a z => .inl (h a z)
theorem ER.weak (R : ER K U B L env σ H) (h : ∀ a, U' a → U a) (hb : ∀ a, B a → U' a) (hl : ∀ a, L a → U' a) : ER K U' B L env σ H :=
  ⟨R.len, fun i s q => (R.sl i s q).weak h, R.dj, hb, hl, fun a z => R.tr a (h a z)⟩
theorem ER.step (R : ER K U B L env σ H) (e : Ev (Wof B L) H H') : Step (Wof B L) U U H H' := ⟨e, fun a z => z.elim (R.bu a) (R.lu a), fun _ z => .inl z⟩
theorem ER.nou (R : ER K U B L env σ H) {p : Addr} (h : H p = none) : ¬ U p := fun z => R.tr p z h
end
end DI
end

section
set_option Elab.async false
set_option linter.all false
set_option maxRecDepth 100000
/-! Part 2: a small total interpreter over plain data. -/
namespace DI
open PySem PySem.Spec PyProof.Rows L2

/-! ### operations on data -/
def Res.bind {α β : Type} (r : Res α) (k : α → Res β) : Res β := match r with
  | .ok a => k a
  | .bad => .bad
@[simp] theorem Res.ok_bind {α β : Type} (a : α) (k : α → Res β) : (Res.ok a).bind k = k a := rfl
@[simp] theorem Res.bad_bind {α β : Type} (k : α → Res β) : (Res.bad : Res α).bind k = .bad := rfl
def ro {α : Type} (o : Option α) : Res α := match o with
  | some a => .ok a
  | none => .bad
@[simp] theorem ro_some {α : Type} (a : α) : ro (some a) = .ok a := rfl
@[simp] theorem ro_none {α : Type} : ro (none : Option α) = .bad := rfl

/-- what a value is to be read as -/
def look (env : Envi) : Vl → Option D
  | .va d => some d
  | .ol xs => some (.lst xs)
  | .od kvs => some (.dct kvs)
  | .vw i => match env[i]? with
    | some (.li _ xs) => some (.lst xs)
    | some (.di _ kvs) => some (.dct kvs)
    | _ => none
/-- .. as data to be kept -/
def dat : Vl → Option D
  | .va d => some d
  | .ol xs => some (.lst xs)
  | .od kvs => some (.dct kvs)
  | .vw _ => none
def fz : Vl → Vl
  | .ol xs => .va (.lst xs)
  | .od kvs => .va (.dct kvs)
  | x => x
def looks (env : Envi) : List Vl → Option (List D)
  | [] => some []
  | x :: xs => match look env x, looks env xs with
    | some d, some ds => some (d :: ds)
    | _, _ => none
def dats : List Vl → Option (List D)
  | [] => some []
  | x :: xs => match dat x, dats xs with
    | some d, some ds => some (d :: ds)
    | _, _ => none

def scalD : D → D → Bool
  | .non, .non => true | .non, .int _ => true | .int _, .non => true | .non, .bl _ => true | .bl _, .non => true | .non, .str _ => true | .str _, .non => true
  | .int _, .int _ => true | .bl _, .bl _ => true | .str _, .str _ => true
  | .int _, .str _ => true | .str _, .int _ => true | .bl _, .str _ => true | .str _, .bl _ => true
  | _, _ => false
/-- equality of flat data -/
def eqF : D → D → Bool
  | .non, .non => true
  | .bl a, .bl b => a == b
  | .bl a, .int b => (if a then 1 else 0) == b
  | .int a, .bl b => a == (if b then 1 else 0)
  | .int a, .int b => decide (a = b)
  | .str a, .str b => decide (a = b)
  | _, _ => false
mutual
/-- the model's data -/
def toP : D → PyData
  | .non => .none
  | .bl b => .bool b
  | .int i => .int i
  | .str x => .str ⟨x.toArray⟩
  | .ty _ => .none
  | .cl _ => .none
  | .tup xs => .tuple (toPs xs)
  | .lst xs => .list (toPs xs)
  | .scr xs => .list (toPs xs)
  | .dct _ => .none
  | .rng _ _ => .none
def toPs : List D → List PyData
  | [] => []
  | x :: xs => toP x :: toPs xs
end
/-- data of at most n storeys, without dicts and classes -/
def lay : Nat → D → Bool
  | 0, _ => false
  | n + 1, d => match d with
    | .non => true
    | .bl _ => true
    | .int _ => true
    | .str x => x.all fun c => decide (c < 128)
    | .tup xs => xs.all (lay n)
    | .lst xs => xs.all (lay n)
    | .scr xs => xs.all (lay n)
    | _ => false
def eqD (a b : D) : Bool := PyData.eqv (toP a) (toP b)
def eqO (a b : D) : Option Bool := if scalD a b = true then some (eqF a b) else if (lay 50 a && lay 50 b) = true then some (eqD a b) else none
def flatD : D → Bool
  | .non => true | .bl _ => true | .int _ => true | .str _ => true
  | _ => false
def inD (x : D) (xs : List D) : Bool := xs.any fun y => eqF y x
def inO (x : D) (xs : List D) : Option Bool := if (flatD x && xs.all flatD) = true then some (inD x xs) else none

def fits (n : Nat) : Bool := decide (n ≤ sizeLine)
def binD : Operator → D → D → Option Vl
  | .Add, .int a, .int b => some (.va (.int (a + b)))
  | .Add, .str a, .str b => if fits (a.length + b.length) = true then some (.va (.str (a ++ b))) else none
  | .Add, .lst a, .lst b => if fits (a.length + b.length) = true then some (.ol (a ++ b)) else none
  | .Add, .tup a, .tup b => if fits (a.length + b.length) = true then some (.va (.tup (a ++ b))) else none
  | .Sub, .int a, .int b => some (.va (.int (a - b)))
  | .Mult, .int a, .int b => if (decide (-(2 ^ 64) < a ∧ a < 2 ^ 64) || decide (-(2 ^ 64) < b ∧ b < 2 ^ 64)) = true then some (.va (.int (a * b))) else none
  | .Mult, .tup a, .int k => if (decide (1 ≤ k ∧ k ≤ 1000) && decide (1 ≤ a.length ∧ a.length ≤ 1000)) = true then some (.va (.tup (List.replicate k.toNat a).flatten)) else none
  | .Mult, .lst a, .int k => if (decide (-(2 ^ 63) ≤ k ∧ k < 2 ^ 63) && fits (a.length * k.toNat)) = true then some (.ol (List.replicate k.toNat a).flatten) else none
  | .FloorDiv, .int a, .int b => if decide (0 < b ∧ b < 1073741824) = true then some (.va (.int (a / b))) else none
  | .Mod, .int a, .int b => if decide (0 < b) = true then some (.va (.int (a % b))) else none
  | .Pow, .int a, .int b => if decide (0 ≤ b ∧ b ≤ 1000000 ∧ a.natAbs < 2 ^ 64) = true then some (.va (.int (a ^ b.toNat))) else none
  | _, _, _ => none
def seqD : D → Option (List D)
  | .lst xs => some xs
  | .scr xs => some xs
  | .tup xs => some xs
  | _ => none
def cmpD : CmpOp → D → D → Option Bool
  | .Eq, a, b => eqO a b
  | .NotEq, a, b => (eqO a b).map fun c => !c
  | .Lt, .int a, .int b => some (decide (a < b))
  | .LtE, .int a, .int b => some (decide (a ≤ b))
  | .Gt, .int a, .int b => some (decide (b < a))
  | .GtE, .int a, .int b => some (decide (b ≤ a))
  | .In, a, b => (seqD b).bind fun xs => inO a xs
  | .NotIn, a, b => ((seqD b).bind fun xs => inO a xs).map fun c => !c
  | _, _, _ => none
def keyD : D → Option Key
  | .int i => some (.inl i)
  | .str x => some (.inr ⟨x.toArray⟩)
  | _ => none
def kget (kvs : List (Key × D)) (k : Key) : Option D := (kvs.find? fun p => decide (p.1 = k)).map (·.2)
def kput (kvs : List (Key × D)) (k : Key) (d : D) : List (Key × D) :=
  if (kvs.any fun p => decide (p.1 = k)) = true then kvs.map (fun p => if p.1 = k then (p.1, d) else p) else kvs ++ [(k, d)]
def idxD : D → D → Option D
  | .tup xs, .int i => atI xs i
  | .lst xs, .int i => atI xs i
  | .scr xs, .int i => atI xs i
  | .str x, .int i => if fits x.length = true then (atI x i).map fun c => .str [c] else none
  | .dct kvs, d => (keyD d).bind fun k => kget kvs k
  | _, _ => none
def cutD {α : Type} (xs : List α) (lo hi : Option Int) : List α := (xs.drop (HT.sIx xs.length 0 lo)).take (HT.sIx xs.length xs.length hi - HT.sIx xs.length 0 lo)
def slcD : D → Option Int → Option Int → Option Vl
  | .lst xs, l, h => some (.ol (cutD xs l h))
  | .scr xs, l, h => some (.ol (cutD xs l h))
  | .tup xs, l, h => some (.va (.tup (cutD xs l h)))
  | .str x, l, h => if fits x.length = true then some (.va (.str (cutD x l h))) else none
  | _, _, _ => none
def truD : D → Option Bool
  | .bl b => some b
  | .non => some false
  | .int i => some (i != 0)
  | .str x => if fits x.length = true then some ((x.length : Int) != 0) else none
  | .lst xs => some (!xs.isEmpty)
  | .scr xs => some (!xs.isEmpty)
  | .tup xs => some (!xs.isEmpty)
  | .dct xs => some (!xs.isEmpty)
  | _ => none
def intsD : List D → Option (List Int)
  | [] => some []
  | .int i :: r => (intsD r).map (i :: ·)
  | _ => none
def blsD : List D → Option (List Bool)
  | [] => some []
  | .bl i :: r => (blsD r).map (i :: ·)
  | _ => none
def ins1 (x : Int) : List Int → List Int
  | [] => [x]
  | y :: r => if x ≤ y then x :: y :: r else y :: ins1 x r
/-- in order -/
def isort : List Int → List Int
  | [] => []
  | x :: r => ins1 x (isort r)
/-- each once, as first met -/
def uniq : List Int → List Int
  | [] => []
  | x :: r => x :: (uniq r).filter fun y => decide (y ≠ x)

/-- built-ins by name -/
inductive Bi | rng1 | rng2 | len | abs | max2 | min2 | maxL | minL | int | str | repr | sum | all | any | list | tuple | sorted | divmod | bool
  deriving DecidableEq
def most (gt : Int → Int → Bool) : List Int → Option Int
  | [] => none
  | x :: r => match most gt r with
    | none => some x
    | some y => if gt y x = true then some y else some x
def biD : Bi → List D → Option Vl
  | .rng1, [.int n] => some (.va (.rng 0 n))
  | .rng2, [.int m, .int n] => some (.va (.rng m n))
  | .len, [.str x] => if fits x.length = true then some (.va (.int x.length)) else none
  | .len, [.dct x] => some (.va (.int x.length))
  | .len, [d] => (seqD d).map fun xs => .va (.int xs.length)
  | .abs, [.int i] => some (.va (.int (if i < 0 then -i else i)))
  | .max2, [.int i, .int j] => some (.va (.int (if j > i then j else i)))
  | .min2, [.int i, .int j] => some (.va (.int (if j < i then j else i)))
  | .maxL, [d] => ((seqD d).bind intsD).bind fun ns => (most (fun a b => decide (a > b)) ns).map fun i => .va (.int i)
  | .minL, [d] => ((seqD d).bind intsD).bind fun ns => (most (fun a b => decide (a < b)) ns).map fun i => .va (.int i)
  | .int, [.int i] => some (.va (.int i))
  | .int, [.bl b] => some (.va (.int (if b then 1 else 0)))
  | .bool, [.bl b] => some (.va (.bl b))
  | .str, [.int i] => if decide (i.natAbs.log2 < 1920) = true then some (.va (.str (toString i : Str).cps.toList)) else none
  | .repr, [d] => if ((seqD d).isSome && lay 50 d && (toP d).showable && fits (toP d).shown.length) = true then some (.va (.str (toP d).shown.cps.toList)) else none
  | .sum, [.lst xs] => (intsD xs).map fun ns => .va (.int ns.sum)
  | .sum, [.scr xs] => (intsD xs).map fun ns => .va (.int ns.sum)
  | .all, [.lst xs] => (blsD xs).map fun bs => .va (.bl (bs.all id))
  | .any, [.lst xs] => (blsD xs).map fun bs => .va (.bl (bs.any id))
  | .list, [d] => (seqD d).map fun xs => .ol xs
  | .tuple, [d] => (seqD d).map fun xs => .va (.tup xs)
  | .sorted, [.lst xs] => (intsD xs).bind fun ns => if decide (ns.length < 64) = true then some (.ol ((isort ns).map .int)) else none
  | .divmod, [.int i, .int j] => if decide (0 < j ∧ j < 1073741824) = true then some (.va (.tup [.int (i / j), .int (i % j)])) else none
  | _, _ => none
/-- methods -/
inductive Me | append | extend | pop | popAt | count
  deriving DecidableEq
def mutM : Me → Bool
  | .count => false
  | _ => true
/-- .. that change the name's own object -/
def meS : Me → Sl → List D → Option (D × Sl)
  | .append, .li b xs, [d] => if decide (xs.length < sizeLine) = true then some (.non, .li b (xs ++ [d])) else none
  | .extend, .li b xs, [.lst ys] => if fits (xs.length + ys.length) = true then some (.non, .li b (xs ++ ys)) else none
  | .pop, .li b xs, [] => (xs[xs.length - 1]?).map fun d => (d, .li b xs.dropLast)
  | .popAt, .li b xs, [.int i] => if decide (-(2 ^ 63) ≤ i ∧ i < 2 ^ 63) = true then (ixN xs.length i).bind fun k => (xs[k]?).map fun d => (d, .li b (xs.eraseIdx k)) else none
  | _, _, _ => none
/-- what they are methods of -/
def meTy : Me → D → Bool
  | _, .lst _ => true
  | _, _ => false
/-- .. that change nothing -/
def meD : Me → D → List D → Option Vl
  | .count, .lst xs, [.int k] => (intsD xs).map fun ns => .va (.int (ns.count k))
  | _, _, _ => none
/-- o[i] = d -/
def putS : Sl → D → D → Option Sl
  | .li b xs, .int i, d => (ixN xs.length i).map fun k => .li b (xs.set k d)
  | .di b kvs, k, d => (keyD k).bind fun k => if decide (kvs.length < sizeLine) = true then some (.di b (kput kvs k d)) else none
  | _, _, _ => none
/-- the built-in types of data -/
def tyD : D → Option String
  | .non => some "NoneType" | .bl _ => some "bool" | .int _ => some "int" | .str _ => some "str"
  | .tup _ => some "tuple" | .lst _ => some "list" | .scr _ => some "list" | .dct _ => some "dict"
  | _ => none
def isiT : String → List String → Option Bool
  | _, [] => some false
  | t, c :: cs => match kitB t c with
    | some true => some true
    | some false => isiT t cs
    | none => none
/-- entries whose keys and values are ints -/
def pairsI : List (Key × D) → Option (List (Int × Int))
  | [] => some []
  | (.inl k, .int i) :: r => (pairsI r).map ((k, i) :: ·)
  | _ => none
def insP (x : Int × Int) : List (Int × Int) → List (Int × Int)
  | [] => [x]
  | y :: r => if decide (x.1 < y.1 ∨ (x.1 = y.1 ∧ x.2 ≤ y.2)) = true then x :: y :: r else y :: insP x r
def psort : List (Int × Int) → List (Int × Int)
  | [] => []
  | x :: r => insP x (psort r)

/-! ### the text -/
mutual
inductive IE where
  | var (i : Nat) | lit (d : D) | glo (x : Str) (d : D)
  | bin (op : Operator) (a b : IE) | neg (a : IE)
  | cmp (op : CmpOp) (a b : IE) | isN (n : Bool) (a : IE) | chn (o p : CmpOp) (a b c : IE)
  | and (a b : IE) | or (a b : IE) | not (a : IE) | ife (c : IT) (a b : IE)
  | tup (es : IEs) | lst (es : IEs) | dnew
  | idx (a i : IE) | slc (a : IE) (lo hi : IEo) | rev (a : IE)
  | gget (x : Str) (t : List (Key × D)) (e : IE) | gin (n : Bool) (x : Str) (t : List (Key × D)) (e : IE)
  | isi (e : IE) (ts : List String)
  | call (f : Nat) (es : IEs) | bi (b : Bi) (es : IEs) | me (m : Me) (o : IE) (es : IEs)
  | srs (e : IE) | sit (e : IE) | rgl (t : Bool) (e : IE)
  | comp (elt : IE) (tg : ITg) (it : II) (c : Option' ) (own : List (Str × Nat))
inductive Option' where | no | so (c : IT)
inductive IT where
  | e (a : IE) | and (a b : IT) | or (a b : IT) | not (a : IT)
inductive IEs where | nil | cons (e : IE) (es : IEs)
inductive IEo where | no | so (e : IE)
inductive II where
  | seq (e : IE) | rng1 (e : IE) | rng2 (a b : IE) | enum (e : IE) | zip (a b : IE)
inductive ITg where
  | nm (i : Nat) | tup (ts : ITgs) | sub (o i : IE)
inductive ITgs where | nil | cons (t : ITg) (ts : ITgs)
end
mutual
inductive IS where
  | set (i : Nat) (keep : Bool) (e : IE) | asg (t : ITg) (e : IE) | par (is : List (Nat × Bool)) (es : IEs)
  | ret (e : IE) | retN | expr (e : IE) | ifs (c : IT) (a b : ISs) | for (t : ITg) (it : II) (b : ISs) | whl (n : Nat) (c : IT) (b : ISs)
  | brk | cnt | pass | never
inductive ISs where | nil | cons (s : IS) (ss : ISs) | frz (i : Nat) (ss : ISs)
end

/-! ### its meaning -/
def bor (env : Envi) (i : Nat) : Bool := match env[i]? with
  | some s => s.bor
  | none => false
def rngL (lo : Int) : Nat → List D
  | 0 => []
  | n + 1 => .int lo :: rngL (lo + 1) n
def enumL : Int → List D → List D
  | _, [] => []
  | i, d :: ds => .tup [.int i, d] :: enumL (i + 1) ds
def zipL : List D → List D → List D
  | a :: as, b :: bs => .tup [a, b] :: zipL as bs
  | _, _ => []
/-- what is walked: a list, a tuple, a text -/
def itD : D → Option (List D)
  | .rng lo hi => if decide (-(2 ^ 62) ≤ lo ∧ lo < 2 ^ 62 ∧ -(2 ^ 62) ≤ hi ∧ hi < 2 ^ 62) = true then some (rngL lo (hi - lo).toNat) else none
  | .str x => some (x.map fun c => .str [c])
  | d => seqD d
/-- .. by enumerate and zip -/
def srcD : D → Option (List D)
  | .str x => some (x.map fun c => .str [c])
  | d => seqD d
def wipeE (env : Envi) : List Nat → Envi
  | [] => env
  | i :: is => (wipeE env is).set i .un
/-- the places of own stand as they stood in env0 -/
def restE (env0 env : Envi) : List Nat → Envi
  | [] => env
  | i :: is => match env0[i]? with
    | some s => (restE env0 env is).set i s
    | none => restE env0 env is
/-- nothing of an own make stands there -/
def plainAt (env : Envi) : List Nat → Bool
  | [] => true
  | i :: is => (match env[i]? with
    | some s => !s.own
    | none => false) && plainAt env is
def compL (asg : D → Envi → Res Envi) (cond : Envi → Res (Bool × Envi)) (elt : Envi → Res (D × Envi)) (own : List Nat) : List D → Envi → List D → Res (List D × Envi)
  | [], env, acc => .ok (acc, env)
  | d :: ds, env, acc => (asg d (wipeE env own)).bind fun env1 => (cond env1).bind fun p =>
    if p.1 = true then (elt p.2).bind fun q => if decide (acc.length < sizeLine) = true then compL asg cond elt own ds q.2 (acc ++ [q.1]) else .bad
    else compL asg cond elt own ds p.2 acc
/-- lent -/
def lend (env : Envi) : List Vl → Option (List Sl)
  | [] => some []
  | x :: xs => match lend env xs with
    | none => none
    | some r => match x with
      | .va d => some (.va d :: r)
      | .vw i => (match env[i]? with
        | some (.li _ ds) => some (.li true ds :: r)
        | some (.di _ kvs) => some (.di true kvs :: r)
        | _ => none)
      | _ => none
def vws : List Vl → List Nat
  | [] => []
  | .vw i :: r => i :: vws r
  | _ :: r => vws r
/-- given back -/
def back (env : Envi) : List Vl → List Sl → Envi
  | .vw i :: xs, s :: r => (back env xs r).set i (match s, env[i]? with
    | .li _ ds, some (.li b _) => .li b ds
    | .di _ ds, some (.di b _) => .di b ds
    | s, _ => s)
  | _ :: xs, _ :: r => back env xs r
  | _, _ => env
def nodupB : List Nat → Bool
  | [] => true
  | i :: r => !r.contains i && nodupB r

abbrev CF := Nat → List Sl → Res (Vl × List Sl)
def sto (env : Envi) (i : Nat) (s : Sl) : Res Envi := if (bor env i || decide (env.length ≤ i)) = true then .bad else .ok (env.set i s)
/-- an own object's change by a name -/
def chg (env : Envi) (x : Vl) (f : Sl → Option Sl) : Res Envi := match x with
  | .vw i => match env[i]? with
    | some s => (ro (f s)).bind fun s' => .ok (env.set i s')
    | none => .bad
  | _ => .bad

mutual
def evE (F : CF) : IE → Envi → Res (Vl × Envi)
  | .var i, env => match env[i]? with
    | some (.va d) => .ok (.va d, env)
    | some (.li _ _) => .ok (.vw i, env)
    | some (.di _ _) => .ok (.vw i, env)
    | _ => .bad
  | .lit d, env => .ok (.va d, env)
  | .glo _ d, env => .ok (.va d, env)
  | .bin op a b, env => (evE F a env).bind fun p => (evE F b p.2).bind fun q => (ro (look q.2 p.1)).bind fun x => (ro (look q.2 q.1)).bind fun y => (ro (binD op x y)).bind fun r => .ok (r, q.2)
  | .neg a, env => (evE F a env).bind fun p => match p.1 with
    | .va (.int i) => .ok (.va (.int (-i)), p.2)
    | _ => .bad
  | .cmp op a b, env => (evE F a env).bind fun p => (evE F b p.2).bind fun q => (ro (look q.2 p.1)).bind fun x => (ro (look q.2 q.1)).bind fun y => (ro (cmpD op x y)).bind fun r => .ok (.va (.bl r), q.2)
  | .isN n a, env => (evE F a env).bind fun p => match p.1 with
    | .va .non => .ok (.va (.bl (!n)), p.2)
    | .vw _ => .bad
    | _ => .ok (.va (.bl n), p.2)
  | .chn o o' a b c, env => (evE F a env).bind fun p => (evE F b p.2).bind fun q => match p.1, q.1 with
    | .va x, .va y => (ro (cmpD o x y)).bind fun r => if r = true then (evE F c q.2).bind fun s => (match s.1 with
      | .va z => (ro (cmpD o' y z)).bind fun r => .ok (.va (.bl r), s.2)
      | _ => .bad) else .ok (.va (.bl false), q.2)
    | _, _ => .bad
  | .and a b, env => (evE F a env).bind fun p => match p.1 with
    | .va (.bl c) => if c = true then evE F b p.2 else .ok (.va (.bl false), p.2)
    | _ => .bad
  | .or a b, env => (evE F a env).bind fun p => match p.1 with
    | .va (.bl c) => if c = true then .ok (.va (.bl true), p.2) else evE F b p.2
    | _ => .bad
  | .not a, env => (evE F a env).bind fun p => match p.1 with
    | .va (.bl c) => .ok (.va (.bl (!c)), p.2)
    | _ => .bad
  | .ife c a b, env => (evT F c env).bind fun p => if p.1 = true then evE F a p.2 else evE F b p.2
  | .tup es, env => (evVs F es env).bind fun p => (ro (dats p.1)).bind fun ds => if fits ds.length = true then .ok (.va (.tup ds), p.2) else .bad
  | .lst es, env => (evVs F es env).bind fun p => (ro (dats p.1)).bind fun ds => if fits ds.length = true then .ok (.ol ds, p.2) else .bad
  | .dnew, env => .ok (.od [], env)
  | .idx a i, env => (evE F a env).bind fun p => (evE F i p.2).bind fun q => (ro (look q.2 p.1)).bind fun x => (ro (dat q.1)).bind fun y => (ro (idxD x y)).bind fun r => .ok (.va r, q.2)
  | .slc a l h, env => (evE F a env).bind fun p => (evO F l p.2).bind fun q => (evO F h q.2).bind fun s => (ro (look s.2 p.1)).bind fun x => (ro (slcD x q.1 s.1)).bind fun r => .ok (r, s.2)
  | .rev a, env => (evE F a env).bind fun p => (ro (look p.2 p.1)).bind fun x => match x with
    | .lst xs => .ok (.ol xs.reverse, p.2)
    | _ => .bad
  | .gget _ t e, env => (evE F e env).bind fun p => match p.1 with
    | .va (.str x) => (ro (kget t (.inr ⟨x.toArray⟩))).bind fun d => .ok (.va d, p.2)
    | _ => .bad
  | .gin n _ t e, env => (evE F e env).bind fun p => match p.1 with
    | .va (.str x) => .ok (.va (.bl (if n = true then !(kget t (.inr ⟨x.toArray⟩)).isSome else (kget t (.inr ⟨x.toArray⟩)).isSome)), p.2)
    | _ => .bad
  | .isi e ts, env => (evE F e env).bind fun p => (ro (look p.2 p.1)).bind fun d => (ro ((tyD d).bind fun t => isiT t ts)).bind fun b => .ok (.va (.bl b), p.2)
  | .call f es, env => (evVs F es env).bind fun p => if nodupB (vws p.1) = true then (ro (lend p.2 p.1)).bind fun args => (F f args).bind fun r => .ok (r.1, back p.2 p.1 r.2) else .bad
  | .bi b es, env => (evVs F es env).bind fun p => (ro (looks p.2 p.1)).bind fun ds => (ro (biD b ds)).bind fun r => .ok (r, p.2)
  | .me m o es, env => (evE F o env).bind fun p => (ro (look p.2 p.1)).bind fun d0 => if meTy m d0 = true then (evVs F es p.2).bind fun q =>
    if mutM m = true then (match p.1 with
      | .vw i => (ro (q.2[i]?)).bind fun s => (ro (if decide (m = .extend) = true then looks q.2 q.1 else dats q.1)).bind fun ds => (ro (meS m s ds)).bind fun r => .ok (.va r.1, q.2.set i r.2)
      | _ => .bad)
    else (ro (looks q.2 q.1)).bind fun ds => (ro (look q.2 p.1)).bind fun x => (ro (meD m x ds)).bind fun r => .ok (r, q.2) else .bad
  | .srs e, env => (evE F e env).bind fun p => (ro (look p.2 p.1)).bind fun x => match x with
    | .lst xs => (ro (intsD xs)).bind fun ns => if decide (ns.length < 64) = true then .ok (.ol ((isort (uniq ns)).map .int), p.2) else .bad
    | _ => .bad
  | .sit e, env => (evE F e env).bind fun p => (ro (look p.2 p.1)).bind fun x => match x with
    | .dct kvs => (ro (pairsI kvs)).bind fun ps => if decide (ps.length < 64) = true then .ok (.ol ((psort ps).map fun q => .tup [.int q.1, .int q.2]), p.2) else .bad
    | _ => .bad
  | .rgl t e, env => (evE F e env).bind fun p => match p.1 with
    | .va (.int n) => if decide (-(2 ^ 62) ≤ n ∧ n < 2 ^ 62 ∧ n.toNat ≤ 2 ^ 24) = true then .ok (if t = true then .va (.tup (rngL 0 n.toNat)) else .ol (rngL 0 n.toNat), p.2) else .bad
    | _ => .bad
  | .comp elt tg it c own, env => (evI F it env).bind fun p => if plainAt p.2 (own.map (·.2)) = true then
    (compL (fun d e => asgT F tg d e) (fun e => evC' F c e) (fun e => (evE F elt e).bind fun q => (ro (dat q.1)).bind fun d => .ok (d, q.2)) (own.map (·.2)) p.1 p.2 []).bind fun r => .ok (.ol r.1, restE p.2 r.2 (own.map (·.2))) else .bad
def evC' (F : CF) : Option' → Envi → Res (Bool × Envi)
  | .no, env => .ok (true, env)
  | .so c, env => evT F c env
def evT (F : CF) : IT → Envi → Res (Bool × Envi)
  | .e a, env => (evE F a env).bind fun p => (ro (look p.2 p.1)).bind fun x => (ro (truD x)).bind fun b => .ok (b, p.2)
  | .and a b, env => (evT F a env).bind fun p => if p.1 = true then evT F b p.2 else .ok (false, p.2)
  | .or a b, env => (evT F a env).bind fun p => if p.1 = true then .ok (true, p.2) else evT F b p.2
  | .not a, env => (evT F a env).bind fun p => .ok (!p.1, p.2)
def evVs (F : CF) : IEs → Envi → Res (List Vl × Envi)
  | .nil, env => .ok ([], env)
  | .cons e es, env => (evE F e env).bind fun p => (evVs F es p.2).bind fun q => .ok (fz p.1 :: q.1, q.2)
def evO (F : CF) : IEo → Envi → Res (Option Int × Envi)
  | .no, env => .ok (none, env)
  | .so e, env => (evE F e env).bind fun p => match p.1 with
    | .va (.int i) => .ok (some i, p.2)
    | _ => .bad
def evI (F : CF) : II → Envi → Res (List D × Envi)
  | .seq e, env => (evE F e env).bind fun p => (ro (dat p.1)).bind fun d => (ro (itD d)).bind fun xs => .ok (xs, p.2)
  | .rng1 e, env => (evE F e env).bind fun p => match p.1 with
    | .va (.int n) => if decide (-(2 ^ 62) ≤ n ∧ n < 2 ^ 62) = true then .ok (rngL 0 n.toNat, p.2) else .bad
    | _ => .bad
  | .rng2 a b, env => (evE F a env).bind fun p => (evE F b p.2).bind fun q => match p.1, q.1 with
    | .va (.int m), .va (.int n) => if decide (-(2 ^ 62) ≤ m ∧ m < 2 ^ 62 ∧ -(2 ^ 62) ≤ n ∧ n < 2 ^ 62) = true then .ok (rngL m (n - m).toNat, q.2) else .bad
    | _, _ => .bad
  | .enum e, env => (evE F e env).bind fun p => (ro (dat p.1)).bind fun d => (ro (srcD d)).bind fun xs => .ok (enumL 0 xs, p.2)
  | .zip a b, env => (evE F a env).bind fun p => (evE F b p.2).bind fun q => (ro (dat p.1)).bind fun d => (ro (dat q.1)).bind fun d' => (ro (srcD d)).bind fun xs => (ro (srcD d')).bind fun ys => .ok (zipL xs ys, q.2)
def asgT (F : CF) : ITg → D → Envi → Res Envi
  | .nm i, d, env => sto env i (.va d)
  | .tup ts, d, env => match d with
    | .tup xs => asgTs F ts xs env
    | _ => .bad
  | .sub o i, d, env => (evE F o env).bind fun p => (evE F i p.2).bind fun q => (ro (dat q.1)).bind fun k => chg q.2 p.1 fun s => putS s k d
def asgTs (F : CF) : ITgs → List D → Envi → Res Envi
  | .nil, [], env => .ok env
  | .cons t ts, d :: ds, env => (asgT F t d env).bind fun env1 => asgTs F ts ds env1
  | _, _, _ => .bad
end

inductive Fl where | nx | br | ct | rt (x : Vl)
def slotOf (keep : Bool) : Vl → Option Sl
  | .va d => some (.va d)
  | .ol xs => some (if keep = true then .li false xs else .va (.lst xs))
  | .od kvs => some (if keep = true then .di false kvs else .va (.dct kvs))
  | .vw _ => none
def parS : Envi → List (Nat × Bool) → List Vl → Res Envi
  | env, [], [] => .ok env
  | env, (i, k) :: is, x :: xs => (ro (slotOf k x)).bind fun s => (sto env i s).bind fun env1 => parS env1 is xs
  | _, _, _ => .bad
def forL (body : D → Envi → Res (Fl × Envi)) : List D → Envi → Res (Fl × Envi)
  | [], env => .ok (.nx, env)
  | d :: ds, env => (body d env).bind fun p => match p.1 with
    | .nx => forL body ds p.2
    | .ct => forL body ds p.2
    | .br => .ok (.nx, p.2)
    | .rt x => .ok (.rt x, p.2)
def whlL (c : Envi → Res (Bool × Envi)) (body : Envi → Res (Fl × Envi)) : Nat → Envi → Res (Fl × Envi)
  | 0, _ => .bad
  | n + 1, env => (c env).bind fun p => if p.1 = true then (body p.2).bind fun q => (match q.1 with
    | .nx => whlL c body n q.2
    | .ct => whlL c body n q.2
    | .br => .ok (.nx, q.2)
    | .rt x => .ok (.rt x, q.2)) else .ok (.nx, p.2)
/-- several new things at once -/
def evNs (F : CF) : IEs → Envi → Res (List Vl × Envi)
  | .nil, env => .ok ([], env)
  | .cons e es, env => (evE F e env).bind fun p => (evNs F es p.2).bind fun q => .ok (p.1 :: q.1, q.2)
mutual
def evS (F : CF) : IS → Envi → Res (Fl × Envi)
  | .set i k e, env => (evE F e env).bind fun p => (ro (slotOf k p.1)).bind fun s => (sto p.2 i s).bind fun env1 => .ok (.nx, env1)
  | .asg t e, env => (evE F e env).bind fun p => (ro (dat p.1)).bind fun d => (asgT F t d p.2).bind fun env1 => .ok (.nx, env1)
  | .par is es, env => (evNs F es env).bind fun p => (parS p.2 is p.1).bind fun env1 => .ok (.nx, env1)
  | .ret e, env => (evE F e env).bind fun p => .ok (.rt p.1, p.2)
  | .retN, env => .ok (.rt (.va .non), env)
  | .expr e, env => (evE F e env).bind fun p => .ok (.nx, p.2)
  | .ifs c a b, env => (evT F c env).bind fun p => if p.1 = true then evSs F a p.2 else evSs F b p.2
  | .for t it b, env => (evI F it env).bind fun p => forL (fun d e => (asgT F t d e).bind fun e1 => evSs F b e1) p.1 p.2
  | .whl n c b, env => whlL (fun e => evT F c e) (fun e => evSs F b e) n env
  | .brk, env => .ok (.br, env)
  | .cnt, env => .ok (.ct, env)
  | .pass, env => .ok (.nx, env)
  | .never, _ => .bad
def evSs (F : CF) : ISs → Envi → Res (Fl × Envi)
  | .nil, env => .ok (.nx, env)
  | .cons s ss, env => (evS F s env).bind fun p => match p.1 with
    | .nx => evSs F ss p.2
    | f => .ok (f, p.2)
  | .frz i ss, env => match env[i]? with
    | some (.li false xs) => evSs F ss (env.set i (.va (.lst xs)))
    | some (.di false kvs) => evSs F ss (env.set i (.va (.dct kvs)))
    | _ => .bad
end
/-- a def -/
structure Df where
  np : Nat
  nl : Nat
  body : ISs
def keepB : Sl → Sl
  | .li true xs => .li true xs
  | .di true xs => .di true xs
  | _ => .un
def outV (env : Envi) : Vl → Res Vl
  | .vw i => match env[i]? with
    | some (.li false xs) => .ok (.ol xs)
    | some (.di false xs) => .ok (.od xs)
    | _ => .bad
  | x => .ok x
def evD (T : List Df) : Nat → CF
  | 0, _, _ => .bad
  | n + 1, f, args => match T[f]? with
    | none => .bad
    | some d => if decide (args.length = d.np) = true then (evSs (evD T n) d.body (args ++ List.replicate d.nl .un)).bind fun p => (match p.1 with
      | .nx => .ok (.va .non, (p.2.take d.np).map keepB)
      | .rt x => (outV p.2 x).bind fun y => .ok (y, (p.2.take d.np).map keepB)
      | _ => .bad) else .bad
end DI
end

section
set_option Elab.async false
set_option linter.all false
set_option maxRecDepth 100000
/-! Part 3: the operations are the machine's. -/
namespace DI
open PySem PySem.Spec PyProof.Rows L2

section
variable {K : PySem.W.Frag} {U U' : Addr → Prop} {H H' : Hp}
/-- data as it is read: borne, or looked at in a name's own object -/
def RdV (K : PySem.W.Frag) (U : Addr → Prop) (H : Hp) (d : D) (v : V) : Prop :=
  VR K U H d v ∨ (∃ a vs ds, d = .lst ds ∧ v = .ref a ∧ H a = some (.lst vs) ∧ VRs K U H ds vs) ∨ (∃ a us kvs, d = .dct kvs ∧ v = .ref a ∧ H a = some (.dK us) ∧ VKs K U H kvs us)
abbrev Trk (U : Addr → Prop) (H : Hp) : Prop := ∀ a, U a → H a ≠ none
/-- a result that is new, or data -/
def NewR (K : PySem.W.Frag) (U : Addr → Prop) (H H' : Hp) : Vl → V → Prop
  | .va d, z => Ev No H H' ∧ VR K U H' d z
  | .ol ds, z => ∃ p vs, H p = none ∧ z = .ref p ∧ H' = upd H p (.lst vs) ∧ VRs K U H ds vs
  | .od kvs, z => ∃ p us, H p = none ∧ z = .ref p ∧ H' = upd H p (.dK us) ∧ VKs K U H kvs us
  | .vw _, _ => False
theorem RdV.int {i : Int} {v : V} (h : RdV K U H (.int i) v) : v = .int i := by
  rcases h with h | ⟨_, _, _, e, _⟩ | ⟨_, _, _, e, _⟩
  · cases h; rfl
  · cases e
  · cases e
theorem RdV.bl {i : Bool} {v : V} (h : RdV K U H (.bl i) v) : v = .bl i := by
  rcases h with h | ⟨_, _, _, e, _⟩ | ⟨_, _, _, e, _⟩
  · cases h; rfl
  · cases e
  · cases e
theorem RdV.str {x : List Nat} {v : V} (h : RdV K U H (.str x) v) : v = .str ⟨x.toArray⟩ := by
  rcases h with h | ⟨_, _, _, e, _⟩ | ⟨_, _, _, e, _⟩
  · cases h; rfl
  · cases e
  · cases e
theorem RdV.non {v : V} (h : RdV K U H .non v) : v = .non := by
  rcases h with h | ⟨_, _, _, e, _⟩ | ⟨_, _, _, e, _⟩
  · cases h; rfl
  · cases e
  · cases e
theorem RdV.lst {ds : List D} {v : V} (h : RdV K U H (.lst ds) v) : ∃ a vs, v = .ref a ∧ H a = some (.lst vs) ∧ VRs K U H ds vs := by
  rcases h with h | ⟨a, vs, _, e, ev, h, r⟩ | ⟨_, _, _, e, _⟩
  · cases h with
    | lst h n r => exact ⟨_, _, rfl, h, r⟩
  · cases e; exact ⟨a, vs, ev, h, r⟩
  · cases e
theorem RdV.dct {kvs : List (Key × D)} {v : V} (h : RdV K U H (.dct kvs) v) : ∃ a us, v = .ref a ∧ H a = some (.dK us) ∧ VKs K U H kvs us := by
  rcases h with h | ⟨_, _, _, e, _⟩ | ⟨a, us, _, e, ev, h, r⟩
  · cases h with
    | dct h n r => exact ⟨_, _, rfl, h, r⟩
  · cases e
  · cases e; exact ⟨a, us, ev, h, r⟩
theorem sqt_of {a : Addr} {vs : List V} (h : (Rd H a (.tup vs) ∧ ¬ U a) ∨ WrT K a vs) : SqT K H a vs := h.elim (fun q => .inl q.1) fun q => q H
theorem sql_of {a : Addr} {vs : List V} (h : (Rd H a (.lst vs) ∧ ¬ U a) ∨ WrL K a vs) : SqL K H a vs := h.elim (fun q => .inl q.1) fun q => q H
theorem RdV.tup {ds : List D} {v : V} (h : RdV K U H (.tup ds) v) : ∃ a vs, v = .ref a ∧ SqT K H a vs ∧ VRs K U H ds vs := by
  rcases h with h | ⟨_, _, _, e, _⟩ | ⟨_, _, _, e, _⟩
  · cases h with
    | tup h r => exact ⟨_, _, rfl, sqt_of h, r⟩
  · cases e
  · cases e
theorem RdV.scr {ds : List D} {v : V} (h : RdV K U H (.scr ds) v) : ∃ a vs, v = .ref a ∧ SqL K H a vs ∧ VRs K U H ds vs := by
  rcases h with h | ⟨_, _, _, e, _⟩ | ⟨_, _, _, e, _⟩
  · cases h with
    | scr h r => exact ⟨_, _, rfl, sql_of h, r⟩
  · cases e
  · cases e
theorem RdV.rng {lo hi : Int} {v : V} (h : RdV K U H (.rng lo hi) v) : ∃ a, v = .ref a ∧ H a = some (.rng lo hi) := by
  rcases h with h | ⟨_, _, _, e, _⟩ | ⟨_, _, _, e, _⟩
  · cases h with
    | rng h n => exact ⟨_, rfl, h⟩
  · cases e
  · cases e
/-- a list or a tuple -/
theorem RdV.seq {d : D} {xs : List D} {v : V} (h : RdV K U H d v) (e : seqD d = some xs) : ∃ a vs, v = .ref a ∧ (SqL K H a vs ∨ SqT K H a vs) ∧ VRs K U H xs vs := by
  cases d with
  | lst ds => cases e; obtain ⟨a, vs, q1, q2, q3⟩ := h.lst; exact ⟨a, vs, q1, .inl (SqL.of q2), q3⟩
  | scr ds => cases e; obtain ⟨a, vs, q1, q2, q3⟩ := h.scr; exact ⟨a, vs, q1, .inl q2, q3⟩
  | tup ds => cases e; obtain ⟨a, vs, q1, q2, q3⟩ := h.tup; exact ⟨a, vs, q1, .inr q2, q3⟩
  | _ => cases e
theorem Step.new {p : Addr} {o : HO} (h : H p = none) : Step No U U H (upd H p o) := ⟨.new h, fun _ z => False.elim z, fun _ z => .inl z⟩
theorem VR.tupOf {a : Addr} {vs : List V} {ds : List D} (t : Trk U H) (h : H a = none) (r : VRs K U H ds vs) : VR K U (upd H a (.tup vs)) (.tup ds) (.ref a) :=
  .tup (.inl ⟨.inl upd_same, fun z => t a z h⟩) (r.mono (Step.new h))
theorem new_tup {a : Addr} {vs : List V} {ds : List D} (t : Trk U H) (h : H a = none) (r : VRs K U H ds vs) : NewR K U H (upd H a (.tup vs)) (.va (.tup ds)) (.ref a) := ⟨.new h, VR.tupOf t h r⟩
theorem new_lst {a : Addr} {vs : List V} {ds : List D} (h : H a = none) (r : VRs K U H ds vs) : NewR K U H (upd H a (.lst vs)) (.ol ds) (.ref a) := ⟨a, vs, h, rfl, rfl, r⟩
theorem new_int {i : Int} : NewR K U H H (.va (.int i)) (.int i) := ⟨.refl, .int i⟩
theorem new_bl {i : Bool} : NewR K U H H (.va (.bl i)) (.bl i) := ⟨.refl, .bl i⟩
theorem new_str {x : List Nat} : NewR K U H H (.va (.str x)) (.str ⟨x.toArray⟩) := ⟨.refl, .str x⟩
theorem new_non : NewR K U H H (.va .non) .non := ⟨.refl, .non⟩
theorem new_va {d : D} {z : V} (r : VR K U H d z) : NewR K U H H (.va d) z := ⟨.refl, r⟩
/-- a text's make -/
theorem str_len {x : List Nat} : (⟨x.toArray⟩ : Str).length = x.length := by simp [Str.length]
theorem str_app {x y : List Nat} : (⟨x.toArray⟩ : Str) ++ (⟨y.toArray⟩ : Str) = ⟨(x ++ y).toArray⟩ := by
  show (⟨x.toArray ++ y.toArray⟩ : Str) = _
  simp
theorem str_eta (z : Str) : (⟨z.cps.toList.toArray⟩ : Str) = z := by simp
theorem fits_ok {n : Nat} (h : fits n = true) : n ≤ sizeLine := of_decide_eq_true h

theorem cut_map {vs : List V} {ds : List D} (r : VRs K U H ds vs) (lo hi : Option Int) : VRs K U H (cutD ds lo hi) (cutV vs lo hi) := by
  unfold cutD cutV
  rw [r.length]
  exact (r.drop _).take _
theorem VRs.at {vs : List V} {ds : List D} {i : Int} {d : D} (r : VRs K U H ds vs) (h : atI ds i = some d) : ∃ v, atI vs i = some v ∧ VR K U H d v := by
  unfold atI at h ⊢
  rw [← r.length]
  cases e : ixN ds.length i with
  | none => rw [e] at h; cases h
  | some j => rw [e] at h; exact r.get h
theorem ints_of : ∀ {xs : List D} {ns : List Int}, intsD xs = some ns → xs = ns.map D.int
  | [], _, e => by cases e; rfl
  | .int i :: r, ns, e => by
    have e' : (intsD r).map (i :: ·) = some ns := e
    cases q : intsD r with
    | none => rw [q] at e'; cases e'
    | some ms => rw [q] at e'; cases e'; rw [ints_of q]; rfl
  | .non :: _, _, e => by cases e
  | .bl _ :: _, _, e => by cases e
  | .str _ :: _, _, e => by cases e
  | .ty _ :: _, _, e => by cases e
  | .cl _ :: _, _, e => by cases e
  | .tup _ :: _, _, e => by cases e
  | .lst _ :: _, _, e => by cases e
  | .scr _ :: _, _, e => by cases e
  | .dct _ :: _, _, e => by cases e
  | .rng _ _ :: _, _, e => by cases e
theorem intsD_map : ∀ ns : List Int, intsD (ns.map D.int) = some ns
  | [] => rfl
  | i :: r => by show (intsD (r.map D.int)).map (i :: ·) = _; rw [intsD_map r]; rfl
theorem VRs.intsV {xs : List D} {vs : List V} {ns : List Int} (r : VRs K U H xs vs) (e : intsD xs = some ns) : vs = ns.map V.int := by
  rw [ints_of e] at r; exact r.ints
theorem bls_of : ∀ {xs : List D} {ns : List Bool}, blsD xs = some ns → xs = ns.map D.bl
  | [], _, e => by cases e; rfl
  | .bl i :: r, ns, e => by
    have e' : (blsD r).map (i :: ·) = some ns := e
    cases q : blsD r with
    | none => rw [q] at e'; cases e'
    | some ms => rw [q] at e'; cases e'; rw [bls_of q]; rfl
  | .non :: _, _, e => by cases e
  | .int _ :: _, _, e => by cases e
  | .str _ :: _, _, e => by cases e
  | .ty _ :: _, _, e => by cases e
  | .cl _ :: _, _, e => by cases e
  | .tup _ :: _, _, e => by cases e
  | .lst _ :: _, _, e => by cases e
  | .scr _ :: _, _, e => by cases e
  | .dct _ :: _, _, e => by cases e
  | .rng _ _ :: _, _, e => by cases e
theorem blsD_map : ∀ ns : List Bool, blsD (ns.map D.bl) = some ns
  | [] => rfl
  | i :: r => by show (blsD (r.map D.bl)).map (i :: ·) = _; rw [blsD_map r]; rfl
theorem VRs.bls : ∀ {ns : List Bool} {vs : List V}, VRs K U H (ns.map D.bl) vs → vs = ns.map V.bl
  | [], _, .nil => rfl
  | _ :: _, _, .cons r t => by cases r; rw [VRs.bls t]; rfl
theorem VRs.blsV {xs : List D} {vs : List V} {ns : List Bool} (r : VRs K U H xs vs) (e : blsD xs = some ns) : vs = ns.map V.bl := by
  rw [bls_of e] at r; exact r.bls

/-! ### data at any depth, for == and repr -/
theorem all_cons {α : Type} {p : α → Bool} {x : α} {xs : List α} (h : (x :: xs).all p = true) : p x = true ∧ xs.all p = true := by
  simpa using h
mutual
theorem VR.dp : ∀ (n : Nat) {d : D} {v : V}, lay n d = true → VR K U H d v → Dp K H v (toP d)
  | 0, _, _, e, _ => by simp [lay] at e
  | n + 1, _, _, _, .non => .non
  | n + 1, _, _, _, .bl b => .bl b
  | n + 1, _, _, _, .int i => .int i
  | n + 1, _, _, _, .str x => .str _
  | n + 1, _, _, e, .ty _ => by simp [lay] at e
  | n + 1, _, _, e, .cl _ => by simp [lay] at e
  | n + 1, _, _, e, .tup h r => .tup (sqt_of h) (VRs.dp n (by simpa [lay] using e) r)
  | n + 1, _, _, e, .lst h _ r => .lst (SqL.of h) (VRs.dp n (by simpa [lay] using e) r)
  | n + 1, _, _, e, .scr h r => .lst (sql_of h) (VRs.dp n (by simpa [lay] using e) r)
  | n + 1, _, _, e, .dct _ _ _ => by simp [lay] at e
  | n + 1, _, _, e, .rng _ _ => by simp [lay] at e
theorem VRs.dp : ∀ (n : Nat) {ds : List D} {vs : List V}, (∀ x ∈ ds, lay n x = true) → VRs K U H ds vs → DpAll K H vs (toPs ds)
  | _, _, _, _, .nil => .nil
  | n, _, _, e, .cons r t => .cons (VR.dp n (e _ (List.mem_cons_self ..)) r) (VRs.dp n (fun x hx => e x (List.mem_cons_of_mem _ hx)) t)
end
theorem RdV.dp {n : Nat} {d : D} {v : V} (e : lay n d = true) (h : RdV K U H d v) : Dp K H v (toP d) := by
  rcases h with h | ⟨a, vs, ds, rfl, rfl, h, r⟩ | ⟨_, _, _, rfl, _⟩
  · exact h.dp n e
  · cases n with
    | zero => simp [lay] at e
    | succ n => exact .lst (SqL.of h) (VRs.dp n (by simpa [lay] using e) r)
  · cases n <;> simp [lay] at e
end
mutual
theorem lay_can : ∀ (n : Nat) (d : D), lay n d = true → (toP d).canLay0 = true ∧ (toP d).depth ≤ n
  | 0, _, e => by simp [lay] at e
  | n + 1, .non, _ => by simp [toP, PyData.canLay0, PyData.depth]
  | n + 1, .bl _, _ => by simp [toP, PyData.canLay0, PyData.depth]
  | n + 1, .int _, _ => by simp [toP, PyData.canLay0, PyData.depth]
  | n + 1, .str x, e => by
    have e' : ∀ c ∈ x, c < 128 := by simpa [lay] using e
    refine ⟨?_, by simp [toP, PyData.depth]⟩
    simp only [toP, PyData.canLay0, PyData.strOk]
    rw [List.all_toArray, List.all_eq_true]
    intro c hc
    have := e' c hc
    simp
    omega
  | n + 1, .ty _, e => by simp [lay] at e
  | n + 1, .cl _, e => by simp [lay] at e
  | n + 1, .tup xs, e => by
    have q := lays_can n xs (by simpa [lay] using e)
    simp only [toP, PyData.canLay0, PyData.depth]
    exact ⟨q.1, by omega⟩
  | n + 1, .lst xs, e => by
    have q := lays_can n xs (by simpa [lay] using e)
    simp only [toP, PyData.canLay0, PyData.depth]
    exact ⟨q.1, by omega⟩
  | n + 1, .scr xs, e => by
    have q := lays_can n xs (by simpa [lay] using e)
    simp only [toP, PyData.canLay0, PyData.depth]
    exact ⟨q.1, by omega⟩
  | n + 1, .dct _, e => by simp [lay] at e
  | n + 1, .rng _ _, e => by simp [lay] at e
theorem lays_can : ∀ (n : Nat) (ds : List D), (∀ x ∈ ds, lay n x = true) → PyData.canLayAll0 (toPs ds) = true ∧ PyData.depthAll (toPs ds) ≤ n
  | _, [], _ => by simp [toPs, PyData.canLayAll0, PyData.depthAll]
  | n, x :: xs, e => by
    have q := lay_can n x (e x (List.mem_cons_self ..))
    have r := lays_can n xs fun y hy => e y (List.mem_cons_of_mem _ hy)
    simp only [toPs, PyData.canLayAll0, PyData.depthAll, q.1, r.1, Bool.and_self, true_and]
    exact Nat.max_le.mpr ⟨q.2, r.2⟩
end
theorem lay_shaped {d : D} (h : lay 50 d = true) : SeqAt.shaped (toP d) = true := by
  have q := lay_can 50 d h
  unfold SeqAt.shaped
  rw [q.1, Bool.true_and]
  exact decide_eq_true (by omega)

/-! ### binary operators -/
def rBin (K : PySem.W.Frag) (g : D → D → Option Vl) : R2 := fun x y H Q => ∃ U d e r, Trk U H ∧ RdV K U H d x ∧ RdV K U H e y ∧ g d e = some r ∧ ∀ H' z, NewR K U H H' r z → Q z H'
section
variable {X : Cx}
theorem if_some {α : Type} {c : Bool} {a b : α} (h : (if c = true then some a else none) = some b) : c = true ∧ a = b := by
  cases c with
  | true => exact ⟨rfl, by simpa using h⟩
  | false => simp at h
theorem ba2 {a b : Bool} (h : (a && b) = true) : a = true ∧ b = true := by simpa using h
theorem tup_once (l : Addr) (its : Array Value) (n : Nat) (dd : Option Addr) (sl : Array (Option Value)) (u : Tok) :
    Meets (Builtin.«tuple.__mul__» ⟨[.ref l, .int 1 u], []⟩) (fun _ R s => s.heap.get? l = some { cls := .type "tuple", dict := dd, data := .seq its n, slots := sl } ∧ R (.ok (.ret (Value.ref l))) s) :=
  .of_wp fun prog w A R s h => by
    obtain ⟨hp, g, d, tk, os⟩ := s
    obtain ⟨hl, h⟩ := h
    have f1 := AutoSeq1.idx_int
    have c1 : (its.isEmpty || (1 : Int) == 1) = true := by simp
    wp_walk using wpAny_loadPart' hl
    exact ⟨_, rfl, h⟩
theorem op_repT1 {pins : List (Addr × Obj)} {s : Shared} {σ : L2.St} {H : Hp} {l : Addr} {t : Tok} {xs : List V} {Q : VK} (I : Inv X pins σ H s) (hs : SqT X.K H l xs) (h : Q (.ref l) H) :
    wpAny (model X.prog X.w) X.A (binaryOp .Mult (.ref l) (.int 1 t)) (EP X pins σ Q) X.xe s := by
  obtain ⟨its, r, ⟨⟨cls, dd, data, sl⟩, ho, hc, n, hd⟩, _⟩ := I.tuple hs
  have hc' : cls = .type "tuple" := hc
  have hd' : data = .seq its.toArray n := hd
  subst hc' hd'
  have ty : s.TypeIs (.ref l) "tuple" := ⟨_, ho, rfl⟩
  have mul := call_meets PySem.F.slot_tuple_mul ty PySem.F.entry_tuple_mul (PySem.F.args_tuple_mul_2 _ _) (tup_once l its.toArray n dd sl t)
    (Q := EP X pins σ Q) (prog := X.prog) (w := X.w) (A := X.A) (E := X.xe) ⟨ho, ⟨.ref l, H, I, rfl, h⟩⟩
  exact wpAny_binaryOp_repeat_ref (T := "tuple") (U := "int") (by decide) ty (fun s' => typeIs_int s' 1 t) noFill_tuple_mul PySem.F.fills_int_mul PySem.F.slot_int_rmul repeat_tuple PySem.F.slot_int_index.lookup
    (call_meets PySem.F.slot_int_rmul (typeIs_int s 1 t) PySem.F.entry_int_rmul (PySem.F.args_int_rmul_2 _ _) (int_rmul_tuple 1 t l its.toArray n dd sl) ⟨ho, rfl, ty, mul⟩)
theorem op_bin (op : Operator) : OpR X (binaryOp op) (rBin X.K (binD op)) := by
  intro pins s σ H x y v u Q I rx ry ⟨U, d, e, r, tr, rd, re, hg, q⟩
  cases op with
  | Add =>
    cases d with
    | int a => cases e with
      | int b => cases hg; cases rd.int; cases re.int; exact op_add pins s σ H _ _ v u Q I rx ry ⟨_, _, rfl, rfl, q _ _ new_int⟩
      | _ => cases hg
    | str a => cases e with
      | str b =>
        obtain ⟨h1, h2⟩ := if_some hg
        cases h2; cases rd.str; cases re.str
        refine op_add_str pins s σ H _ _ v u Q I rx ry ⟨_, _, rfl, rfl, ?_, ?_⟩
        · rw [str_len, str_len]; exact fits_ok h1
        · rw [str_app]; exact q _ _ new_str
      | _ => cases hg
    | lst a => cases e with
      | lst b =>
        obtain ⟨h1, h2⟩ := if_some hg
        cases h2
        obtain ⟨p1, vs1, rfl, k1, r1⟩ := rd.lst
        obtain ⟨p2, vs2, rfl, k2, r2⟩ := re.lst
        exact op_cat pins s σ H _ _ v u Q I rx ry ⟨p1, p2, vs1, vs2, rfl, rfl, k1, k2, by rw [← r1.length, ← r2.length]; exact fits_ok h1, fun p hp => q _ _ (new_lst hp (r1.append r2))⟩
      | _ => cases hg
    | tup a => cases e with
      | tup b =>
        obtain ⟨h1, h2⟩ := if_some hg
        cases h2
        rcases rd with rd | ⟨_, _, _, z, _⟩ | ⟨_, _, _, z, _⟩
        · rcases re with re | ⟨_, _, _, z, _⟩ | ⟨_, _, _, z, _⟩
          · obtain ⟨p1, vs1, rfl, k1, r1⟩ := RdV.tup (K := X.K) (U := U) (H := H) (.inl rd)
            obtain ⟨p2, vs2, rfl, k2, r2⟩ := RdV.tup (K := X.K) (U := U) (H := H) (.inl re)
            refine op_catA pins s σ H _ _ v u Q I rx ry ⟨p1, p2, vs1, vs2, rfl, rfl, k1, k2, by rw [← r1.length, ← r2.length]; exact fits_ok h1, fun z => ?_, fun _ z => ?_, fun _ _ p hp => q _ _ (new_tup tr hp (r1.append r2))⟩
            · have e0 : a = [] := List.length_eq_zero_iff.mp (by rw [r1.length, z]; rfl)
              subst e0
              exact q _ _ (new_va re)
            · have e0 : b = [] := List.length_eq_zero_iff.mp (by rw [r2.length, z]; rfl)
              subst e0
              rw [List.append_nil] at q
              exact q _ _ (new_va rd)
          · cases z
          · cases z
        · cases z
        · cases z
      | _ => cases hg
    | _ => cases hg
  | Sub =>
    cases d with
    | int a => cases e with
      | int b => cases hg; cases rd.int; cases re.int; exact op_sub pins s σ H _ _ v u Q I rx ry ⟨_, _, rfl, rfl, q _ _ new_int⟩
      | _ => cases hg
    | _ => cases hg
  | Mult =>
    cases d with
    | int a => cases e with
      | int b =>
        obtain ⟨h1, h2⟩ := if_some hg
        cases h2; cases rd.int; cases re.int
        refine op_mul pins s σ H _ _ v u Q I rx ry ⟨_, _, rfl, rfl, ?_, q _ _ new_int⟩
        rcases Bool.or_eq_true_iff.mp h1 with z | z
        · exact .inl (of_decide_eq_true z)
        · exact .inr (of_decide_eq_true z)
      | _ => cases hg
    | tup a => cases e with
      | int k =>
        obtain ⟨h1, h2⟩ := if_some hg
        cases h2; cases re.int
        obtain ⟨h1, h3⟩ := ba2 h1
        have h1 := of_decide_eq_true h1
        have h3 := of_decide_eq_true h3
        rcases rd with rd | ⟨_, _, _, z, _⟩ | ⟨_, _, _, z, _⟩
        · obtain ⟨p1, vs1, rfl, k1, r1⟩ := RdV.tup (K := X.K) (U := U) (H := H) (.inl rd)
          by_cases hk : k = 1
          · subst hk
            have ex : (List.replicate (1 : Int).toNat a).flatten = a := by
              show (List.replicate 1 a).flatten = a
              simp
            rw [ex] at q
            obtain ⟨t, rfl⟩ := ry
            obtain rfl : v = Value.ref p1 := rx
            exact op_repT1 I k1 (q _ _ (new_va rd))
          · refine op_repT pins s σ H _ _ v u Q I rx ry ⟨p1, k, vs1, rfl, rfl, k1, ?_, by omega, h1.2, by rw [← r1.length]; exact h3.2, fun p hp => q _ _ (new_tup tr hp (r1.rep _))⟩
            intro z
            have := r1.length
            rw [z] at this
            simp at this
            rw [this] at h3
            simp at h3
        · cases z
        · cases z
      | _ => cases hg
    | lst a => cases e with
      | int k =>
        obtain ⟨h1, h2⟩ := if_some hg
        cases h2; cases re.int
        obtain ⟨h1, h3⟩ := ba2 h1
        have h1 := of_decide_eq_true h1
        obtain ⟨p1, vs1, rfl, k1, r1⟩ := rd.lst
        exact op_rep pins s σ H _ _ v u Q I rx ry ⟨p1, k, vs1, rfl, rfl, k1, h1.1, h1.2, by rw [← r1.length]; exact fits_ok h3, fun p hp => q _ _ (new_lst hp (r1.rep _))⟩
      | _ => cases hg
    | _ => cases hg
  | FloorDiv =>
    cases d with
    | int a => cases e with
      | int b =>
        obtain ⟨h1, h2⟩ := if_some hg
        cases h2; cases rd.int; cases re.int
        have h1 := of_decide_eq_true h1
        exact op_fdiv pins s σ H _ _ v u Q I rx ry ⟨_, _, rfl, rfl, h1, q _ _ new_int⟩
      | _ => cases hg
    | _ => cases hg
  | Mod =>
    cases d with
    | int a => cases e with
      | int b =>
        obtain ⟨h1, h2⟩ := if_some hg
        cases h2; cases rd.int; cases re.int
        exact op_mod pins s σ H _ _ v u Q I rx ry ⟨_, _, rfl, rfl, by simpa using h1, q _ _ new_int⟩
      | _ => cases hg
    | _ => cases hg
  | Pow =>
    cases d with
    | int a => cases e with
      | int b =>
        obtain ⟨h1, h2⟩ := if_some hg
        cases h2; cases rd.int; cases re.int
        have h1 := of_decide_eq_true h1
        exact op_pow pins s σ H _ _ v u Q I rx ry ⟨_, _, rfl, rfl, h1, q _ _ new_int⟩
      | _ => cases hg
    | _ => cases hg
  | _ => cases d <;> cases hg

/-! ### comparisons -/
theorem V.str_inj {x y : List Nat} : (V.str ⟨x.toArray⟩ = V.str ⟨y.toArray⟩) ↔ x = y := by
  constructor
  · intro e
    have e1 : (⟨x.toArray⟩ : Str) = ⟨y.toArray⟩ := V.str.inj e
    have e2 : x.toArray = y.toArray := by injection e1
    simpa using congrArg Array.toList e2
  · intro e; rw [e]
theorem scal_eq {U : Addr → Prop} {H : Hp} {d e : D} {x y : V} (h : scalD d e = true) (rd : RdV X.K U H d x) (re : RdV X.K U H e y) : scal x y = true ∧ decide (x = y) = eqF d e := by
  cases d <;> cases e <;> first
    | (simp [scalD] at h; done)
    | (cases rd.non; cases re.non; exact ⟨rfl, by simp [eqF]⟩)
    | (cases rd.non; cases re.int; exact ⟨rfl, by simp [eqF]⟩)
    | (cases rd.non; cases re.bl; exact ⟨rfl, by simp [eqF]⟩)
    | (cases rd.non; cases re.str; exact ⟨rfl, by simp [eqF]⟩)
    | (cases rd.int; cases re.non; exact ⟨rfl, by simp [eqF]⟩)
    | (cases rd.int; cases re.int; exact ⟨rfl, by simp [eqF]⟩)
    | (cases rd.int; cases re.str; exact ⟨rfl, by simp [eqF]⟩)
    | (cases rd.bl; cases re.non; exact ⟨rfl, by simp [eqF]⟩)
    | (cases rd.bl; cases re.bl; exact ⟨rfl, by rename_i b c; cases b <;> cases c <;> rfl⟩)
    | (cases rd.bl; cases re.str; exact ⟨rfl, by simp [eqF]⟩)
    | (cases rd.str; cases re.non; exact ⟨rfl, by simp [eqF]⟩)
    | (cases rd.str; cases re.int; exact ⟨rfl, by simp [eqF]⟩)
    | (cases rd.str; cases re.bl; exact ⟨rfl, by simp [eqF]⟩)
    | (cases rd.str; cases re.str; exact ⟨rfl, by simp only [eqF]; exact decide_eq_decide.mpr V.str_inj⟩)
theorem flat_v {U : Addr → Prop} {H : Hp} {d : D} {x : V} (h : flatD d = true) (r : VR X.K U H d x) : flatV x = true := by
  cases r <;> first | rfl | (simp [flatD] at h; done)
theorem flat_vs {U : Addr → Prop} {H : Hp} : ∀ {ds : List D} {vs : List V}, ds.all flatD = true → VRs X.K U H ds vs → vs.all flatV = true
  | _, _, _, .nil => rfl
  | _, _, h, .cons r t => by
    obtain ⟨h1, h2⟩ := all_cons h
    simp only [List.all_cons, flat_v h1 r, flat_vs h2 t, Bool.and_self]
theorem eqV_f {U : Addr → Prop} {H : Hp} {d e : D} {x y : V} (h1 : flatD d = true) (h2 : flatD e = true) (r1 : VR X.K U H d x) (r2 : VR X.K U H e y) : eqV x y = eqF d e := by
  cases r1 <;> first
    | (simp [flatD] at h1; done)
    | (cases r2 <;> first
        | (simp [flatD] at h2; done)
        | rfl
        | (simp [eqV, eqF]; done)
        | (simp only [eqV, eqF]; rw [Bool.eq_iff_iff]; simp))
theorem in_f {U : Addr → Prop} {H : Hp} {d : D} {x : V} (h1 : flatD d = true) (r1 : VR X.K U H d x) : ∀ {ds : List D} {vs : List V}, ds.all flatD = true → VRs X.K U H ds vs → inV x vs = inD d ds
  | _, _, _, .nil => rfl
  | _, _, h, .cons r t => by
    obtain ⟨h2, h3⟩ := all_cons h
    have ih := in_f h1 r1 h3 t
    unfold inV inD at ih ⊢
    rw [List.any_cons, List.any_cons, ih, eqV_f h2 h1 r r1]
theorem rdv_flat {U : Addr → Prop} {H : Hp} {d : D} {x : V} (h : flatD d = true) (r : RdV X.K U H d x) : VR X.K U H d x := by
  rcases r with r | ⟨_, _, _, rfl, _⟩ | ⟨_, _, _, rfl, _⟩
  · exact r
  · simp [flatD] at h
  · simp [flatD] at h
theorem op_cmpD (hu : X.A.units + 64 < cLine) (op : CmpOp) : OpR X (compareOp op) (rBin X.K fun d e => (cmpD op d e).map fun b => .va (.bl b)) := by
  intro pins s σ H x y v u Q I rx ry ⟨U, d, e, r, tr, rd, re, hg, q⟩
  obtain ⟨b, hb, rfl⟩ := Option.map_eq_some_iff.mp hg
  have fin : Q (.bl b) H := q _ _ new_bl
  have inO_ok : ∀ {b : Bool}, (seqD e).bind (fun xs => inO d xs) = some b → ∃ (p : Addr) (vs : List V), y = .ref p ∧ (SqL X.K H p vs ∨ SqT X.K H p vs) ∧ flatV x = true ∧ vs.all flatV = true ∧ b = inV x vs := by
    intro b h
    obtain ⟨xs, h1, h2⟩ := Option.bind_eq_some_iff.mp h
    obtain ⟨h3, h4⟩ := if_some h2
    obtain ⟨h5, h6⟩ := ba2 h3
    obtain ⟨p, vs, e1, e2, e3⟩ := re.seq h1
    exact ⟨p, vs, e1, e2, flat_v h5 (rdv_flat h5 rd), flat_vs h6 e3, by rw [← h4]; exact (in_f h5 (rdv_flat h5 rd) h6 e3).symm⟩
  cases op with
  | Eq =>
    have hb : eqO d e = some b := hb
    unfold eqO at hb
    by_cases h : scalD d e = true
    · rw [if_pos h] at hb
      cases hb
      obtain ⟨h1, h2⟩ := scal_eq h rd re
      exact op_eq pins s σ H x y v u Q I rx ry ⟨h1, by rw [h2]; exact fin⟩
    · rw [if_neg h] at hb
      obtain ⟨h1, h2⟩ := if_some hb
      obtain ⟨h3, h4⟩ := ba2 h1
      exact op_eqD hu pins s σ H x y v u Q I rx ry ⟨_, _, rd.dp h3, re.dp h4, lay_shaped h3, lay_shaped h4, by rw [show PyData.eqv (toP d) (toP e) = b from h2]; exact fin⟩
  | NotEq =>
    have hb : (eqO d e).map (fun c => !c) = some b := hb
    obtain ⟨c, hc, rfl⟩ := Option.map_eq_some_iff.mp hb
    unfold eqO at hc
    by_cases h : scalD d e = true
    · rw [if_pos h] at hc
      cases hc
      obtain ⟨h1, h2⟩ := scal_eq h rd re
      exact op_ne pins s σ H x y v u Q I rx ry ⟨h1, by rw [h2]; exact fin⟩
    · rw [if_neg h] at hc
      obtain ⟨h1, h2⟩ := if_some hc
      obtain ⟨h3, h4⟩ := ba2 h1
      exact op_neD hu pins s σ H x y v u Q I rx ry ⟨_, _, rd.dp h3, re.dp h4, lay_shaped h3, lay_shaped h4, by rw [show PyData.eqv (toP d) (toP e) = c from h2]; exact fin⟩
  | Lt =>
    cases d with
    | int i => cases e with
      | int j => cases hb; cases rd.int; cases re.int; exact op_lt pins s σ H _ _ v u Q I rx ry ⟨_, _, rfl, rfl, fin⟩
      | _ => cases hb
    | _ => cases hb
  | LtE =>
    cases d with
    | int i => cases e with
      | int j => cases hb; cases rd.int; cases re.int; exact op_le pins s σ H _ _ v u Q I rx ry ⟨_, _, rfl, rfl, fin⟩
      | _ => cases hb
    | _ => cases hb
  | Gt =>
    cases d with
    | int i => cases e with
      | int j => cases hb; cases rd.int; cases re.int; exact op_gt pins s σ H _ _ v u Q I rx ry ⟨_, _, rfl, rfl, fin⟩
      | _ => cases hb
    | _ => cases hb
  | GtE =>
    cases d with
    | int i => cases e with
      | int j => cases hb; cases rd.int; cases re.int; exact op_ge pins s σ H _ _ v u Q I rx ry ⟨_, _, rfl, rfl, fin⟩
      | _ => cases hb
    | _ => cases hb
  | In =>
    obtain ⟨p, vs, e1, e2, e3, e4, e5⟩ := inO_ok hb
    exact op_in_seq pins s σ H x y v u Q I rx ry ⟨p, vs, e1, e2, e3, e4, by rw [if_neg (by decide), ← e5]; exact fin⟩
  | NotIn =>
    have hb : ((seqD e).bind fun xs => inO d xs).map (fun c => !c) = some b := hb
    obtain ⟨c, hc, rfl⟩ := Option.map_eq_some_iff.mp hb
    obtain ⟨p, vs, e1, e2, e3, e4, e5⟩ := inO_ok hc
    exact op_notIn_seq pins s σ H x y v u Q I rx ry ⟨p, vs, e1, e2, e3, e4, by rw [if_pos rfl, ← e5]; exact fin⟩
  | _ => cases d <;> cases hb
end
end DI
end

section
set_option Elab.async false
set_option linter.all false
set_option maxRecDepth 100000
/-! Part 4: subscripts, truth, built-ins, methods. -/
namespace DI
open PySem PySem.Spec PyProof.Rows L2
mutual
theorem toP_nodict : ∀ d : D, (toP d).hasDict = false
  | .non => by simp [toP, PyData.hasDict]
  | .bl _ => by simp [toP, PyData.hasDict]
  | .int _ => by simp [toP, PyData.hasDict]
  | .str _ => by simp [toP, PyData.hasDict]
  | .ty _ => by simp [toP, PyData.hasDict]
  | .cl _ => by simp [toP, PyData.hasDict]
  | .tup xs => by simp only [toP, PyData.hasDict]; exact toPs_nodict xs
  | .lst xs => by simp only [toP, PyData.hasDict]; exact toPs_nodict xs
  | .scr xs => by simp only [toP, PyData.hasDict]; exact toPs_nodict xs
  | .dct _ => by simp [toP, PyData.hasDict]
  | .rng _ _ => by simp [toP, PyData.hasDict]
theorem toPs_nodict : ∀ ds : List D, PyData.hasDictAll (toPs ds) = false
  | [] => by simp [toPs, PyData.hasDictAll]
  | d :: ds => by simp [toPs, PyData.hasDictAll, toP_nodict d, toPs_nodict ds]
end
section
variable {X : Cx}

/-! ### subscripts -/
theorem valV_get {K : PySem.W.Frag} {U : Addr → Prop} {H : Hp} {k : Key} : ∀ {kvs : List (Key × D)} {us : List (Key × V)}, VKs K U H kvs us →
    (∀ d, kget kvs k = some d → ∃ v, valV us k = some v ∧ VR K U H d v) ∧ (kget kvs k = none → valV us k = none)
  | _, _, .nil => ⟨fun d h => by simp [kget] at h, fun _ => by simp [valV]⟩
  | (j, d0) :: kvs, _, .cons (v := v0) (vs := us) r t => by
    have ih := valV_get (k := k) t
    by_cases e : j = k
    · have e1 : kget ((j, d0) :: kvs) k = some d0 := by simp [kget, e]
      have e2 : valV ((j, v0) :: us) k = some v0 := valV_pos (p := (j, v0)) e
      rw [e1, e2]
      exact ⟨fun d h => by cases h; exact ⟨_, rfl, r⟩, fun h => nomatch h⟩
    · have e1 : kget ((j, d0) :: kvs) k = kget kvs k := by simp [kget, e]
      have e2 : valV ((j, v0) :: us) k = valV us k := valV_neg (p := (j, v0)) e
      rw [e1, e2]
      exact ih
theorem key_v {K : PySem.W.Frag} {U : Addr → Prop} {H : Hp} {d : D} {k : Key} {v : V} (h : keyD d = some k) (r : RdV K U H d v) : v = kV k := by
  cases d with
  | int i => cases h; exact r.int
  | str x => cases h; exact r.str
  | _ => cases h
def rIdx (K : PySem.W.Frag) : R2 := rBin K fun d e => (idxD d e).map .va
theorem ix_data (hu : X.A.units + 1 < cLine) : IxR X (rIdx X.K) := by
  intro value slice pins s σ H x y v u Q I rx ry ⟨U, d, e, r, tr, rd, re, hg, q⟩ hs
  obtain ⟨b, hb, rfl⟩ := Option.map_eq_some_iff.mp hg
  cases d with
  | tup xs => cases e with
    | int i =>
      cases re.int
      obtain ⟨a, vs, rfl, h1, h2⟩ := rd.tup
      obtain ⟨w, h3, h4⟩ := h2.at hb
      exact ix_tup value slice pins s σ H _ _ v u Q I rx ry ⟨_, _, _, _, rfl, rfl, h1, h3, q _ _ (new_va h4)⟩ hs
    | _ => cases hb
  | lst xs => cases e with
    | int i =>
      cases re.int
      obtain ⟨a, vs, rfl, h1, h2⟩ := rd.lst
      obtain ⟨w, h3, h4⟩ := h2.at hb
      exact ix_list value slice pins s σ H _ _ v u Q I rx ry ⟨_, _, _, _, rfl, rfl, SqL.of h1, h3, q _ _ (new_va h4)⟩ hs
    | _ => cases hb
  | scr xs => cases e with
    | int i =>
      cases re.int
      obtain ⟨a, vs, rfl, h1, h2⟩ := rd.scr
      obtain ⟨w, h3, h4⟩ := h2.at hb
      exact ix_list value slice pins s σ H _ _ v u Q I rx ry ⟨_, _, _, _, rfl, rfl, h1, h3, q _ _ (new_va h4)⟩ hs
    | _ => cases hb
  | str x => cases e with
    | int i =>
      cases re.int; cases rd.str
      obtain ⟨h1, h2⟩ : fits x.length = true ∧ (atI x i).map (fun c => D.str [c]) = some b := by
        have h : (if fits x.length = true then (atI x i).map (fun c => D.str [c]) else none) = some b := hb
        by_cases z : fits x.length = true
        · rw [if_pos z] at h; exact ⟨z, h⟩
        · rw [if_neg z] at h; cases h
      obtain ⟨c, hc, rfl⟩ := Option.map_eq_some_iff.mp h2
      refine ix_str value slice pins s σ H _ _ v u Q I rx ry ⟨_, _, c, rfl, rfl, ?_, ?_, q _ _ (new_str (x := [c]))⟩ hs
      · rw [str_len]; exact fits_ok h1
      · exact hc
    | _ => cases hb
  | dct kvs =>
    obtain ⟨k, hk, hb⟩ := Option.bind_eq_some_iff.mp (show (keyD e).bind (fun k => kget kvs k) = some b from hb)
    obtain ⟨a, us, rfl, h1, h2⟩ := rd.dct
    obtain ⟨w, h3, h4⟩ := (valV_get (k := k) h2).1 b hb
    obtain rfl := key_v hk re
    obtain rfl : v = Value.ref a := rx
    have g : DGet H a (kV k) (some w) := by rw [← h3]; exact DGet.k h1
    exact tail_any (dict_typeIs I g) PySem.F.slot_dict_getitem.lookup (d_getItem hu I g ry fun w' s' I' rw' => ⟨w, H, I', rw', q _ _ (new_va h4)⟩) hs
  | _ => cases e <;> cases hb

/-! ### slices -/
def rSlD (K : PySem.W.Frag) : V → Option Int → Option Int → Hp → VK → Prop := fun x lo hi H Q => ∃ U d r, Trk U H ∧ RdV K U H d x ∧ slcD d lo hi = some r ∧ ∀ H' z, NewR K U H H' r z → Q z H'
theorem cut_str (x : List Nat) (lo hi : Option Int) : cutS ⟨x.toArray⟩ lo hi = ⟨(cutD x lo hi).toArray⟩ := by
  unfold cutS cutD
  rw [str_len]
theorem sl_data : L2.SlR X (rSlD X.K) := by
  intro pins s σ H x v vl vu lo hi sl Q I rx hs pl pu ⟨U, d, r, tr, rd, hg, q⟩
  cases d with
  | lst xs =>
    cases hg
    obtain ⟨a, vs, rfl, h1, h2⟩ := rd.lst
    exact sl_list pins s σ H _ v vl vu lo hi sl Q I rx hs pl pu ⟨_, _, rfl, SqL.of h1, fun p hp => q _ _ (new_lst hp (cut_map h2 lo hi))⟩
  | scr xs =>
    cases hg
    obtain ⟨a, vs, rfl, h1, h2⟩ := rd.scr
    exact sl_list pins s σ H _ v vl vu lo hi sl Q I rx hs pl pu ⟨_, _, rfl, h1, fun p hp => q _ _ (new_lst hp (cut_map h2 lo hi))⟩
  | tup xs =>
    cases hg
    obtain ⟨a, vs, rfl, h1, h2⟩ := rd.tup
    refine sl_tupA pins s σ H _ v vl vu lo hi sl Q I rx hs pl pu ⟨_, _, rfl, h1, fun z => ?_, fun _ p hp => q _ _ (new_tup tr hp (cut_map h2 lo hi))⟩
    have e : cutD xs lo hi = xs := by
      unfold cutD
      rw [h2.length, z.1, z.2, List.drop_zero, Nat.sub_zero, ← h2.length, List.take_length]
    rw [e] at q
    rcases rd with rd | ⟨_, _, _, z, _⟩ | ⟨_, _, _, z, _⟩
    · exact q _ _ (new_va rd)
    · cases z
    · cases z
  | str x =>
    obtain ⟨h1, h2⟩ := if_some hg
    cases h2; cases rd.str
    exact sl_str pins s σ H _ v vl vu lo hi sl Q I rx hs pl pu ⟨_, rfl, by rw [str_len]; exact fits_ok h1, by rw [cut_str]; exact q _ _ new_str⟩
  | _ => cases hg

/-! ### truth -/
theorem tru_data {H : Hp} {U : Addr → Prop} {d : D} {b : Bool} {x : V} (rd : RdV X.K U H d x) (h : truD d = some b) : TruV X.K x H b := by
  cases d with
  | bl c => cases h; cases rd.bl; rfl
  | non => cases h; cases rd.non; rfl
  | int i => cases h; cases rd.int; rfl
  | str x =>
    obtain ⟨h1, h2⟩ := if_some h
    cases h2; cases rd.str
    exact ⟨by rw [str_len]; exact fits_ok h1, by rw [str_len]⟩
  | lst xs =>
    cases h
    obtain ⟨a, vs, rfl, h1, h2⟩ := rd.lst
    refine .inl ⟨vs, SqL.of h1, ?_⟩
    have := h2.length
    cases xs <;> cases vs <;> simp at this ⊢
  | scr xs =>
    cases h
    obtain ⟨a, vs, rfl, h1, h2⟩ := rd.scr
    refine .inl ⟨vs, h1, ?_⟩
    have := h2.length
    cases xs <;> cases vs <;> simp at this ⊢
  | tup xs =>
    cases h
    obtain ⟨a, vs, rfl, h1, h2⟩ := rd.tup
    refine .inr (.inl ⟨vs, h1, ?_⟩)
    have := h2.length
    cases xs <;> cases vs <;> simp at this ⊢
  | dct xs =>
    cases h
    obtain ⟨a, vs, rfl, h1, h2⟩ := rd.dct
    refine .inr (.inr ⟨vs, h1, ?_⟩)
    have := h2.length
    cases xs <;> cases vs <;> simp at this ⊢
  | _ => cases h

/-! ### built-ins -/
inductive RdVs (K : PySem.W.Frag) (U : Addr → Prop) (H : Hp) : List D → List V → Prop
  | nil : RdVs K U H [] []
  | cons {d : D} {v : V} {ds : List D} {vs : List V} : RdV K U H d v → RdVs K U H ds vs → RdVs K U H (d :: ds) (v :: vs)
def rBi (K : PySem.W.Frag) (g : List D → Option Vl) : List V → Hp → VK → Prop := fun vs H Q => ∃ U ds r, Trk U H ∧ RdVs K U H ds vs ∧ g ds = some r ∧ ∀ H' z, NewR K U H H' r z → Q z H'
def biV : Bi → Value
  | .rng1 => .type "range" | .rng2 => .type "range" | .len => .builtin "len" | .abs => .builtin "abs" | .max2 => .builtin "max" | .min2 => .builtin "min" | .maxL => .builtin "max" | .minL => .builtin "min"
  | .int => .type "int" | .str => .type "str" | .repr => .builtin "repr" | .sum => .builtin "sum" | .all => .builtin "all" | .any => .builtin "any" | .list => .type "list" | .tuple => .type "tuple"
  | .sorted => .builtin "sorted" | .divmod => .builtin "divmod" | .bool => .type "bool"
theorem one_v {K : PySem.W.Frag} {U : Addr → Prop} {H : Hp} {d : D} {vs : List V} (h : RdVs K U H [d] vs) : ∃ v, vs = [v] ∧ RdV K U H d v := by
  cases h with
  | cons r t => cases t; exact ⟨_, rfl, r⟩
theorem two_v {K : PySem.W.Frag} {U : Addr → Prop} {H : Hp} {d e : D} {vs : List V} (h : RdVs K U H [d, e] vs) : ∃ v u, vs = [v, u] ∧ RdV K U H d v ∧ RdV K U H e u := by
  cases h with
  | cons r t => cases t with
    | cons r' t' => cases t'; exact ⟨_, _, rfl, r, r'⟩
theorem isort_perm : ∀ ns : List Int, (isort ns).Perm ns
  | [] => List.Perm.nil
  | x :: r => by
    have h : ∀ (l : List Int), (ins1 x l).Perm (x :: l) := by
      intro l
      induction l with
      | nil => exact List.Perm.refl _
      | cons y t ih =>
        unfold ins1
        by_cases q : x ≤ y
        · rw [if_pos q]
        · rw [if_neg q]
          exact (ih.cons y).trans (List.Perm.swap x y t)
    exact (h _).trans ((isort_perm r).cons x)
theorem isort_sorted : ∀ ns : List Int, (isort ns).Pairwise (· ≤ ·)
  | [] => List.Pairwise.nil
  | x :: r => by
    have h : ∀ (l : List Int), l.Pairwise (· ≤ ·) → (ins1 x l).Pairwise (· ≤ ·) ∧ ∀ z ∈ ins1 x l, z = x ∨ z ∈ l := by
      intro l
      induction l with
      | nil => intro _; exact ⟨List.pairwise_singleton _ _, fun z hz => .inl (by simpa [ins1] using hz)⟩
      | cons y t ih =>
        intro hl
        obtain ⟨h1, h2⟩ := List.pairwise_cons.mp hl
        unfold ins1
        by_cases q : x ≤ y
        · rw [if_pos q]
          exact ⟨List.pairwise_cons.mpr ⟨fun z hz => by
            rcases List.mem_cons.mp hz with rfl | hz
            · exact q
            · exact Int.le_trans q (h1 z hz), hl⟩, fun z hz => by
            rcases List.mem_cons.mp hz with rfl | hz
            · exact .inl rfl
            · exact .inr hz⟩
        · rw [if_neg q]
          obtain ⟨i1, i2⟩ := ih h2
          refine ⟨List.pairwise_cons.mpr ⟨fun z hz => ?_, i1⟩, fun z hz => ?_⟩
          · rcases i2 z hz with rfl | hz
            · omega
            · exact h1 z hz
          · rcases List.mem_cons.mp hz with rfl | hz
            · exact .inr (List.mem_cons_self ..)
            · exact (i2 z hz).imp id (List.mem_cons_of_mem _)
    exact (h _ (isort_sorted r)).1
theorem sorted_uniq : ∀ {a b : List Int}, a.Perm b → a.Pairwise (· ≤ ·) → b.Pairwise (· ≤ ·) → a = b := fun h1 h2 h3 => List.Perm.eq_of_pairwise (fun _ _ _ _ q r => Int.le_antisymm q r) h2 h3 h1
theorem most_max {ns : List Int} {m : Int} : ∀ {l : List Int} {i : Int}, most (fun a b => decide (a > b)) l = some i → i ∈ l ∧ ∀ y ∈ l, y ≤ i
  | [], _, h => by cases h
  | x :: r, i, h => by
    unfold most at h
    cases e : most (fun a b => decide (a > b)) r with
    | none =>
      rw [e] at h
      cases h
      cases r with
      | nil => exact ⟨by simp, fun y hy => by simp at hy; omega⟩
      | cons y t =>
        exfalso
        unfold most at e
        cases e2 : most (fun a b => decide (a > b)) t with
        | none => rw [e2] at e; cases e
        | some z => rw [e2] at e; dsimp only at e; split at e <;> cases e
    | some y =>
      rw [e] at h
      obtain ⟨h1, h2⟩ := most_max (ns := ns) (m := m) e
      dsimp only at h
      by_cases q : y > x
      · rw [if_pos (decide_eq_true q)] at h
        cases h
        exact ⟨List.mem_cons_of_mem _ h1, fun z hz => by
          rcases List.mem_cons.mp hz with rfl | hz
          · omega
          · exact h2 z hz⟩
      · rw [if_neg (by simpa using q)] at h
        cases h
        exact ⟨List.mem_cons_self .., fun z hz => by
          rcases List.mem_cons.mp hz with rfl | hz
          · omega
          · have := h2 z hz; omega⟩
theorem most_min : ∀ {l : List Int} {i : Int}, most (fun a b => decide (a < b)) l = some i → i ∈ l ∧ ∀ y ∈ l, i ≤ y
  | [], _, h => by cases h
  | x :: r, i, h => by
    unfold most at h
    cases e : most (fun a b => decide (a < b)) r with
    | none =>
      rw [e] at h
      cases h
      cases r with
      | nil => exact ⟨by simp, fun y hy => by simp at hy; omega⟩
      | cons y t =>
        exfalso
        unfold most at e
        cases e2 : most (fun a b => decide (a < b)) t with
        | none => rw [e2] at e; cases e
        | some z => rw [e2] at e; dsimp only at e; split at e <;> cases e
    | some y =>
      rw [e] at h
      obtain ⟨h1, h2⟩ := most_min e
      dsimp only at h
      by_cases q : y < x
      · rw [if_pos (decide_eq_true q)] at h
        cases h
        refine ⟨List.mem_cons_of_mem _ h1, fun z hz => (List.mem_cons.mp hz).elim (fun e => by subst e; omega) (h2 z)⟩
      · rw [if_neg (by simpa using q)] at h
        cases h
        refine ⟨List.mem_cons_self .., fun z hz => (List.mem_cons.mp hz).elim (fun e => by subst e; exact Int.le_refl _) fun hz => ?_⟩
        have := h2 z hz
        omega
/-! max, min of a tuple of ints -/
section
variable {prog : Program} {w : World} {A : Around} {E : Value → Shared → Prop} {s : Shared} {l : Addr} {its : List Value} {ns : List Int} {Q : Value → Shared → Prop}
theorem iter_tupI {xs : Array (Int × Tok)} {Q : Value → Shared → Prop} (hl : s.heap.IsTuple l (intItems xs))
    (h : ∀ t : Shared, t = { s with heap := s.heap.push { cls := .type "tuple_iterator", data := .fields #[.ref l, .int 0 0] } } → (t.heap.IsTupleIter s.heap.objs.size l 0 ∧ t.heap.IsTuple l (intItems xs)) →
      (∀ b ∈ [s.heap.objs.size, l], b < t.heap.objs.size) → l ≠ s.heap.objs.size → (∀ h' : Heap, (∀ b o, b ∉ [s.heap.objs.size] → t.heap.get? b = some o → h'.get? b = some o) → ∀ b o, s.heap.get? b = some o → h'.get? b = some o) → Q (.ref s.heap.objs.size) t) :
    wpAny (model prog w) A (pyIter (.ref l)) Q E s := by
  have hlt : l < s.heap.objs.size := let ⟨_, e, _⟩ := hl; Heap.lt_size e
  refine wpAny_pyIter_tuple hl (h _ rfl ⟨⟨_, Heap.get?_push_size _ rfl, rfl, rfl⟩, ?_⟩ (fun b hb => ?_) (Nat.ne_of_lt hlt) fun h' k b o e => k b o (fun m => ?_) (Heap.get?_push_of_some _ e))
  · obtain ⟨o, e, q⟩ := hl
    exact ⟨o, Heap.get?_push_of_some _ e, q⟩
  · rw [show ({ s with heap := s.heap.push { cls := .type "tuple_iterator", data := .fields #[.ref l, .int 0 0] } } : Shared).heap.objs.size = s.heap.objs.size + 1 from Heap.size_push ..]
    have e' : b = s.heap.objs.size ∨ b = l := by simpa using hb
    rcases e' with z | z
    · rw [z]; exact Nat.lt_succ_self _
    · rw [z]; exact Nat.lt_succ_of_lt hlt
  · have e' : b = s.heap.objs.size := by simpa using m
    exact absurd (Heap.lt_size e) (by rw [e']; exact Nat.lt_irrefl _)
theorem max_tupI (hh : A.handled = none) (hl : s.heap.IsTuple l its.toArray) (hi : IntsAre its ns) (hne : 0 < ns.length)
    (h : ∀ h' tk m t', (∀ b o, s.heap.get? b = some o → h'.get? b = some o) → m ∈ ns → (∀ a ∈ ns, a ≤ m) → Q (.int m t') { s with heap := h', toks := tk }) : wpAny (model prog w) A (call (.builtin "max") [.ref l]) Q E s := by
  obtain ⟨xs, e⟩ := hi.allInts.items
  have hn : numsOf (intItems xs).toList = ns := by rw [← e]; exact hi.numsOf
  rw [nums_intItems] at hn
  subst hn
  rw [e] at hl
  have hsz : 0 < xs.size := by simpa using hne
  refine call_max_walk (iter_tupI hl fun t et st hfp hne' old => ?_)
  subst et
  refine ⟨_, _, _, _, _, _, _, rfl, Walks.tuple (A := A.in1) hh _ l hne' (intItems xs), st, hfp, by simpa [intItems] using hne, CmpOf.ints_gt (numAt xs) (fun _ _ => intItems_at), fun v h' tk hP hk => ?_⟩
  obtain ⟨t, rfl⟩ := intItems_at hP
  have hz : (intItems xs).size = xs.size := by simp [intItems]
  rw [hz]
  obtain ⟨h1, h2⟩ := argBest_gt (numAt xs) (xs.size - 1)
  refine h h' tk _ t (old h' hk) ?_ fun a ha => ?_
  · rw [numAt_eq]; refine PySem.getD_mem ?_; rw [List.length_map, Array.length_toList]; omega
  · obtain ⟨j, hj, rfl⟩ := mem_getD ha
    rw [List.length_map, Array.length_toList] at hj
    have := h2 j (by omega)
    simpa only [numAt_eq] using this
theorem min_tupI (hh : A.handled = none) (hl : s.heap.IsTuple l its.toArray) (hi : IntsAre its ns) (hne : 0 < ns.length)
    (h : ∀ h' tk m t', (∀ b o, s.heap.get? b = some o → h'.get? b = some o) → m ∈ ns → (∀ a ∈ ns, m ≤ a) → Q (.int m t') { s with heap := h', toks := tk }) : wpAny (model prog w) A (call (.builtin "min") [.ref l]) Q E s := by
  obtain ⟨xs, e⟩ := hi.allInts.items
  have hn : numsOf (intItems xs).toList = ns := by rw [← e]; exact hi.numsOf
  rw [nums_intItems] at hn
  subst hn
  rw [e] at hl
  have hsz : 0 < xs.size := by simpa using hne
  refine call_min_walk (iter_tupI hl fun t et st hfp hne' old => ?_)
  subst et
  refine ⟨_, _, _, _, _, _, _, rfl, Walks.tuple (A := A.in1) hh _ l hne' (intItems xs), st, hfp, by simpa [intItems] using hne, CmpOf.ints_lt (numAt xs) (fun _ _ => intItems_at), fun v h' tk hP hk => ?_⟩
  obtain ⟨t, rfl⟩ := intItems_at hP
  have hz : (intItems xs).size = xs.size := by simp [intItems]
  rw [hz]
  obtain ⟨h1, h2⟩ := argBest_lt (numAt xs) (xs.size - 1)
  refine h h' tk _ t (old h' hk) ?_ fun a ha => ?_
  · rw [numAt_eq]; refine PySem.getD_mem ?_; rw [List.length_map, Array.length_toList]; omega
  · obtain ⟨j, hj, rfl⟩ := mem_getD ha
    rw [List.length_map, Array.length_toList] at hj
    have := h2 j (by omega)
    simpa only [numAt_eq] using this
end
theorem call_bi (hu : X.A.units + 64 < cLine) (hgd : X.A.guards = some []) (hc : X.calm = true) (b : Bi) : CallR X (biV b) (rBi X.K (biD b)) := by
  intro pins s σ H vs us Q I rv ⟨U, ds, r, tr, rds, hg, q⟩
  cases b with
  | len =>
    match ds, rds, hg with
    | [d], rds, hg =>
      obtain ⟨v, rfl, rd⟩ := one_v rds
      cases d with
      | str x =>
        obtain ⟨h1, h2⟩ := if_some hg
        cases h2; cases rd.str
        refine call_len pins s σ H _ us Q I rv ⟨_, x.length, rfl, ⟨by rw [str_len]; exact fits_ok h1, by rw [str_len]⟩, q _ _ new_int⟩
      | dct kvs =>
        cases hg
        obtain ⟨a, us', rfl, h1, h2⟩ := rd.dct
        cases rv with
        | cons r rr =>
          cases rr
          cases r
          refine d_len I (.inl h1) fun t s' I' => ⟨.int us'.length, H, I', ⟨t, rfl⟩, ?_⟩
          rw [← h2.length]
          exact q _ _ new_int
      | lst xs =>
        cases hg
        obtain ⟨a, vs, rfl, h1, h2⟩ := rd.lst
        exact call_len pins s σ H _ us Q I rv ⟨_, _, rfl, .inl ⟨vs, SqL.of h1, h2.length⟩, q _ _ new_int⟩
      | scr xs =>
        cases hg
        obtain ⟨a, vs, rfl, h1, h2⟩ := rd.scr
        exact call_len pins s σ H _ us Q I rv ⟨_, _, rfl, .inl ⟨vs, h1, h2.length⟩, q _ _ new_int⟩
      | tup xs =>
        cases hg
        obtain ⟨a, vs, rfl, h1, h2⟩ := rd.tup
        exact call_len pins s σ H _ us Q I rv ⟨_, _, rfl, .inr ⟨vs, h1, h2.length⟩, q _ _ new_int⟩
      | _ => cases hg
    | [], _, hg => cases hg
    | d :: _ :: _, _, hg => cases d <;> cases hg
  | abs =>
    match ds, rds, hg with
    | [.int i], rds, hg => cases hg; obtain ⟨v, rfl, rd⟩ := one_v rds; cases rd.int; exact call_abs pins s σ H _ us Q I rv ⟨_, rfl, q _ _ new_int⟩
  | max2 =>
    match ds, rds, hg with
    | [.int i, .int j], rds, hg => cases hg; obtain ⟨v, u, rfl, rd, re⟩ := two_v rds; cases rd.int; cases re.int; exact call_max2 hc pins s σ H _ us Q I rv ⟨_, _, rfl, q _ _ new_int⟩
  | min2 =>
    match ds, rds, hg with
    | [.int i, .int j], rds, hg => cases hg; obtain ⟨v, u, rfl, rd, re⟩ := two_v rds; cases rd.int; cases re.int; exact call_min2 hc pins s σ H _ us Q I rv ⟨_, _, rfl, q _ _ new_int⟩
  | int =>
    match ds, rds, hg with
    | [.int i], rds, hg => cases hg; obtain ⟨v, rfl, rd⟩ := one_v rds; cases rd.int; exact call_int1 pins s σ H _ us Q I rv (.inl ⟨_, rfl, q _ _ new_int⟩)
    | [.bl i], rds, hg => cases hg; obtain ⟨v, rfl, rd⟩ := one_v rds; cases rd.bl; exact call_int1 pins s σ H _ us Q I rv (.inr ⟨_, rfl, q _ _ new_int⟩)
  | bool =>
    match ds, rds, hg with
    | [.bl i], rds, hg => cases hg; obtain ⟨v, rfl, rd⟩ := one_v rds; cases rd.bl; exact call_bool1 pins s σ H _ us Q I rv (.inr ⟨_, rfl, q _ _ new_bl⟩)
  | str =>
    match ds, rds, hg with
    | [.int i], rds, hg =>
      obtain ⟨h1, h2⟩ := if_some hg
      cases h2; obtain ⟨v, rfl, rd⟩ := one_v rds; cases rd.int
      refine call_str_int pins s σ H _ us Q I rv ⟨_, rfl, of_decide_eq_true h1, ?_⟩
      have e := new_str (K := X.K) (U := U) (H := H) (x := (toString i : Str).cps.toList)
      rw [str_eta] at e
      exact q _ _ e
  | repr =>
    match ds, rds, hg with
    | [d], rds, hg =>
      obtain ⟨h1, h2⟩ := if_some hg
      cases h2
      obtain ⟨v, rfl, rd⟩ := one_v rds
      obtain ⟨b0, b1, b2, b3⟩ : (seqD d).isSome = true ∧ lay 50 d = true ∧ (toP d).showable = true ∧ fits (toP d).shown.length = true := by simpa [and_assoc] using h1
      obtain ⟨xs, hx⟩ := Option.isSome_iff_exists.mp b0
      obtain ⟨a, vs', rfl, _, _⟩ := rd.seq hx
      cases rv with
      | cons r rr =>
        cases rr
        obtain ⟨as, rs⟩ := Dp.reads I (toP d) _ _ (rd.dp b1) r
        cases r
        obtain ⟨c1, c2⟩ := lay_can 50 d b1
        have nd : (toP d).hasDict = false := toP_nodict d
        refine repr_of_reads' rs b2 (PyData.noDict_hsm nd) hgd (by omega) (fun _ _ e => e) (fun h' u tk hk => ⟨.str (toP d).shown, H, I.kept hk, ⟨u, rfl⟩, ?_⟩) (fits_ok b3)
        have e := new_str (K := X.K) (U := U) (H := H) (x := (toP d).shown.cps.toList)
        rw [str_eta] at e
        exact q _ _ e
  | sum =>
    match ds, rds, hg with
    | [.lst xs], rds, hg =>
      obtain ⟨ns, hn, rfl⟩ := Option.map_eq_some_iff.mp hg
      obtain ⟨v, rfl, rd⟩ := one_v rds
      obtain ⟨a, vs, rfl, h1, h2⟩ := rd.lst
      exact cr_sum hc pins s σ H _ us Q I rv ⟨a, ns, rfl, by rw [← h2.intsV hn]; exact SqL.of h1, q _ _ new_int⟩
    | [.scr xs], rds, hg =>
      obtain ⟨ns, hn, rfl⟩ := Option.map_eq_some_iff.mp hg
      obtain ⟨v, rfl, rd⟩ := one_v rds
      obtain ⟨a, vs, rfl, h1, h2⟩ := rd.scr
      exact cr_sum hc pins s σ H _ us Q I rv ⟨a, ns, rfl, by rw [← h2.intsV hn]; exact h1, q _ _ new_int⟩
  | all =>
    match ds, rds, hg with
    | [.lst xs], rds, hg =>
      obtain ⟨ns, hn, rfl⟩ := Option.map_eq_some_iff.mp hg
      obtain ⟨v, rfl, rd⟩ := one_v rds
      obtain ⟨a, vs, rfl, h1, h2⟩ := rd.lst
      exact cr_all hc pins s σ H _ us Q I rv ⟨a, ns, rfl, by rw [← h2.blsV hn]; exact SqL.of h1, q _ _ new_bl⟩
  | any =>
    match ds, rds, hg with
    | [.lst xs], rds, hg =>
      obtain ⟨ns, hn, rfl⟩ := Option.map_eq_some_iff.mp hg
      obtain ⟨v, rfl, rd⟩ := one_v rds
      obtain ⟨a, vs, rfl, h1, h2⟩ := rd.lst
      exact cr_any hc pins s σ H _ us Q I rv ⟨a, ns, rfl, by rw [← h2.blsV hn]; exact SqL.of h1, q _ _ new_bl⟩
  | list =>
    match ds, rds, hg with
    | [d], rds, hg =>
      obtain ⟨xs, hn, rfl⟩ := Option.map_eq_some_iff.mp hg
      obtain ⟨v, rfl, rd⟩ := one_v rds
      obtain ⟨a, vs, rfl, h1, h2⟩ := rd.seq hn
      exact call_list_of pins s σ H _ us Q I rv ⟨a, vs, rfl, h1, fun p hp => q _ _ (new_lst hp h2)⟩
    | [], _, hg => cases hg
    | _ :: _ :: _, _, hg => cases hg
  | tuple =>
    match ds, rds, hg with
    | [d], rds, hg =>
      obtain ⟨xs, hn, rfl⟩ := Option.map_eq_some_iff.mp hg
      obtain ⟨v, rfl, rd⟩ := one_v rds
      cases d with
      | lst ys =>
        cases hn
        obtain ⟨a, vs, rfl, h1, h2⟩ := rd.lst
        exact call_tuple_of pins s σ H _ us Q I rv ⟨a, vs, rfl, .inl ⟨SqL.of h1, fun p hp => q _ _ (new_tup tr hp h2)⟩⟩
      | scr ys =>
        cases hn
        obtain ⟨a, vs, rfl, h1, h2⟩ := rd.scr
        exact call_tuple_of pins s σ H _ us Q I rv ⟨a, vs, rfl, .inl ⟨h1, fun p hp => q _ _ (new_tup tr hp h2)⟩⟩
      | tup ys =>
        cases hn
        have rd' := rd
        obtain ⟨a, vs, rfl, h1, h2⟩ := rd.tup
        rcases rd' with rd' | ⟨_, _, _, z, _⟩ | ⟨_, _, _, z, _⟩
        · exact call_tuple_of pins s σ H _ us Q I rv ⟨a, vs, rfl, .inr ⟨h1, q _ _ (new_va rd')⟩⟩
        · cases z
        · cases z
      | _ => cases hn
    | [], _, hg => cases hg
    | _ :: _ :: _, _, hg => cases hg
  | sorted =>
    match ds, rds, hg with
    | [.lst xs], rds, hg =>
      obtain ⟨ns, hn, hg⟩ := Option.bind_eq_some_iff.mp hg
      obtain ⟨h1, h2⟩ := if_some hg
      cases h2
      obtain ⟨v, rfl, rd⟩ := one_v rds
      obtain ⟨a, vs, rfl, h3, h4⟩ := rd.lst
      refine cr_sorted pins s σ H _ us Q I rv ⟨a, ns, rfl, by rw [← h4.intsV hn]; exact SqL.of h3, of_decide_eq_true h1, fun ms p hp1 hp2 hp => ?_⟩
      rw [sorted_uniq (hp1.trans (isort_perm ns).symm) hp2 (isort_sorted ns)]
      exact q _ _ (new_lst hp VRs.of_ints)
  | divmod =>
    match ds, rds, hg with
    | [.int i, .int j], rds, hg =>
      obtain ⟨h1, h2⟩ := if_some hg
      cases h2
      obtain ⟨v, u, rfl, rd, re⟩ := two_v rds
      cases rd.int; cases re.int
      have h1 := of_decide_eq_true h1
      exact call_divmod pins s σ H _ us Q I rv ⟨_, _, rfl, h1, fun p hp => q _ _ (new_tup tr hp (.cons (.int _) (.cons (.int _) .nil)))⟩
  | maxL =>
    match ds, rds, hg with
    | [d], rds, hg =>
      obtain ⟨ns, hn, hg⟩ := Option.bind_eq_some_iff.mp hg
      obtain ⟨m, hm, rfl⟩ := Option.map_eq_some_iff.mp hg
      obtain ⟨xs, hx, hn⟩ := Option.bind_eq_some_iff.mp hn
      obtain ⟨v, rfl, rd⟩ := one_v rds
      obtain ⟨a, vs', rfl, h1, h2⟩ := rd.seq hx
      have hv := h2.intsV hn
      subst hv
      obtain ⟨m1, m2⟩ := most_max (ns := ns) (m := m) hm
      have hne : 0 < ns.length := List.length_pos_of_mem m1
      have same : ∀ i, i ∈ ns → (∀ y ∈ ns, y ≤ i) → i = m := fun i i1 i2 => Int.le_antisymm (m2 i i1) (i2 m m1)
      rcases h1 with h1 | h1
      · exact cr_max hc pins s σ H _ us Q I rv ⟨a, ns, rfl, h1, hne, fun i i1 i2 => by rw [same i i1 i2]; exact q _ _ new_int⟩
      · obtain ⟨its, r1, r2, _⟩ := I.tuple h1
        cases rv with
        | cons r rr =>
          cases rr
          cases r
          exact max_tupI (I.ok.hd hc) (show s.heap.IsTuple a its.toArray from r2) r1.ints hne fun h' tk i t' hk i1 i2 => ⟨.int i, H, I.kept hk, ⟨t', rfl⟩, by rw [same i i1 i2]; exact q _ _ new_int⟩
    | [], _, hg => cases hg
    | _ :: _ :: _, _, hg => cases hg
  | minL =>
    match ds, rds, hg with
    | [d], rds, hg =>
      obtain ⟨ns, hn, hg⟩ := Option.bind_eq_some_iff.mp hg
      obtain ⟨m, hm, rfl⟩ := Option.map_eq_some_iff.mp hg
      obtain ⟨xs, hx, hn⟩ := Option.bind_eq_some_iff.mp hn
      obtain ⟨v, rfl, rd⟩ := one_v rds
      obtain ⟨a, vs', rfl, h1, h2⟩ := rd.seq hx
      have hv := h2.intsV hn
      subst hv
      obtain ⟨m1, m2⟩ := most_min hm
      have hne : 0 < ns.length := List.length_pos_of_mem m1
      have same : ∀ i, i ∈ ns → (∀ y ∈ ns, i ≤ y) → i = m := fun i i1 i2 => Int.le_antisymm (i2 m m1) (m2 i i1)
      rcases h1 with h1 | h1
      · exact cr_min hc pins s σ H _ us Q I rv ⟨a, ns, rfl, h1, hne, fun i i1 i2 => by rw [same i i1 i2]; exact q _ _ new_int⟩
      · obtain ⟨its, r1, r2, _⟩ := I.tuple h1
        cases rv with
        | cons r rr =>
          cases rr
          cases r
          exact min_tupI (I.ok.hd hc) (show s.heap.IsTuple a its.toArray from r2) r1.ints hne fun h' tk i t' hk i1 i2 => ⟨.int i, H, I.kept hk, ⟨t', rfl⟩, by rw [same i i1 i2]; exact q _ _ new_int⟩
    | [], _, hg => cases hg
    | _ :: _ :: _, _, hg => cases hg
  | rng1 =>
    match ds, rds, hg with
    | [.int n], rds, hg =>
      cases hg
      obtain ⟨v, rfl, rd⟩ := one_v rds
      cases rd.int
      cases rv with
      | cons r rr =>
        cases rr
        obtain ⟨t, rfl⟩ := r
        refine call_range_1 ⟨.ref s.heap.objs.size, upd H s.heap.objs.size (.rng 0 n), I.laid (t' := s.toks + 1 + 1) (fun b o e => Heap.get?_push_of_some _ e) (Nat.le_refl _) ⟨_, _, _, Heap.get?_push_size _ rfl⟩, rfl, ?_⟩
        have hp := I.hok.fresh (Nat.le_refl s.heap.objs.size)
        exact q _ _ ⟨.new hp, .rng upd_same fun z => tr _ z hp⟩
  | rng2 =>
    match ds, rds, hg with
    | [.int i, .int j], rds, hg =>
      cases hg
      obtain ⟨v, u, rfl, rd, re⟩ := two_v rds
      cases rd.int; cases re.int
      exact cr_range2 pins s σ H _ us Q I rv ⟨_, _, rfl, fun p hp => q _ _ ⟨.new hp, .rng upd_same fun z => tr p z hp⟩⟩
end
end DI
end

section
set_option Elab.async false
set_option linter.all false
set_option maxRecDepth 100000
/-! Part 5: readings by the interpreter; how they are put together. -/
namespace DI
open PySem PySem.Spec PyProof.Rows L2

section
variable {K : PySem.W.Frag} {U U' B L W : Addr → Prop} {σ σ' : L2.St} {env env' env1 : Envi} {H H' H1 H2 : Hp}

/-- a value stands -/
def VS (K : PySem.W.Frag) (U : Addr → Prop) (σ : L2.St) (H : Hp) : Vl → V → Prop
  | .va d, z => VR K U H d z
  | .ol ds, z => VR K U H (.lst ds) z
  | .od kvs, z => VR K U H (.dct kvs) z
  | .vw i, z => σ[i]? = some (some z)
/-- an expression's result -/
def OutR (K : PySem.W.Frag) (U B L : Addr → Prop) (σ : L2.St) (H H' : Hp) (env' : Envi) : Vl → V → Prop
  | .va d, z => ER K U B L env' σ H' ∧ VR K U H' d z
  | .ol ds, z => ∃ p vs, z = .ref p ∧ H p = none ∧ H' p = some (.lst vs) ∧ ER K (pl U p) B L env' σ H' ∧ VRs K (pl U p) H' ds vs
  | .od kvs, z => ∃ p us, z = .ref p ∧ H p = none ∧ H' p = some (.dK us) ∧ ER K (pl U p) B L env' σ H' ∧ VKs K (pl U p) H' kvs us
  | .vw i, z => ER K U B L env' σ H' ∧ σ[i]? = some (some z)
/-- the same makes -/
abbrev SameK (env env' : Envi) : Prop := env'.map Sl.kd = env.map Sl.kd
def PostE (K : PySem.W.Frag) (U B L : Addr → Prop) (σ : L2.St) (env : Envi) (H : Hp) (Q : VK) : Res (Vl × Envi) → Prop
  | .ok (x, env') => ∀ H' z, Ev (Wof B L) H H' → SameK env env' → OutR K U B L σ H H' env' x z → Q z H'
  | .bad => False
def tI (K : PySem.W.Frag) (F : CF) (e : IE) : TE := fun σ H Q => ∃ U B L env, ER K U B L env σ H ∧ PostE K U B L σ env H Q (evE F e env)

theorem pl_weak {p : Addr} (R : ER K U B L env σ H) (h : H p = none) (S : ER K (pl U p) B L env' σ H') : ER K U B L env' σ H' := S.weak (fun _ z => .inl z) R.bu R.lu
theorem OutR.er {x : Vl} {z : V} (R : ER K U B L env σ H) (o : OutR K U B L σ H H' env' x z) : ER K U B L env' σ H' := by
  cases x with
  | va d => exact o.1
  | vw i => exact o.1
  | ol ds => obtain ⟨p, vs, _, h, _, S, _⟩ := o; exact pl_weak R h S
  | od ds => obtain ⟨p, vs, _, h, _, S, _⟩ := o; exact pl_weak R h S
theorem OutR.vs {x : Vl} {z : V} (R : ER K U B L env σ H) (o : OutR K U B L σ H H' env' x z) : VS K U σ H' x z := by
  cases x with
  | va d => exact o.2
  | vw i => exact o.2
  | ol ds =>
    obtain ⟨p, vs, rfl, h, h', S, r⟩ := o
    exact .lst h' (R.nou h) (r.mono (Step.weak fun _ z => .inl z))
  | od ds =>
    obtain ⟨p, vs, rfl, h, h', S, r⟩ := o
    exact .dct h' (R.nou h) (r.mono (Step.weak fun _ z => .inl z))
theorem OutR.back {x : Vl} {z : V} (e : Ev W H H1) (o : OutR K U B L σ H1 H' env' x z) : OutR K U B L σ H H' env' x z := by
  cases x with
  | va d => exact o
  | vw i => exact o
  | ol ds => obtain ⟨p, vs, e1, h, h', S, r⟩ := o; exact ⟨p, vs, e1, e.none h, h', S, r⟩
  | od ds => obtain ⟨p, vs, e1, h, h', S, r⟩ := o; exact ⟨p, vs, e1, e.none h, h', S, r⟩
theorem VS.mono {x : Vl} {z : V} (s : Step W U U H H') (v : VS K U σ H x z) : VS K U σ H' x z := by
  cases x with
  | va d => exact VR.mono s v
  | vw i => exact v
  | ol ds => exact VR.mono s v
  | od ds => exact VR.mono s v
theorem VS.step {x : Vl} {z : V} (R : ER K U B L env σ H) (e : Ev (Wof B L) H H') (v : VS K U σ H x z) : VS K U σ H' x z := v.mono (R.step e)
theorem VS.dat {x : Vl} {z : V} {d : D} (v : VS K U σ H x z) (h : dat x = some d) : VR K U H d z := by
  cases x with
  | va d => cases h; exact v
  | vw i => cases h
  | ol ds => cases h; exact v
  | od ds => cases h; exact v
theorem VS.look {x : Vl} {z : V} {d : D} (R : ER K U B L env σ H) (v : VS K U σ H x z) (h : look env x = some d) : RdV K U H d z := by
  cases x with
  | va d => cases h; exact .inl v
  | ol ds => cases h; exact .inl v
  | od ds => cases h; exact .inl v
  | vw i =>
    have h : (match env[i]? with
      | some (.li _ xs) => some (D.lst xs)
      | some (.di _ kvs) => some (D.dct kvs)
      | _ => none) = some d := h
    cases e : env[i]? with
    | none => rw [e] at h; cases h
    | some s =>
      have r := R.sl i s e
      have v : σ[i]? = some (some z) := v
      cases s with
      | un => rw [e] at h; cases h
      | va _ => rw [e] at h; cases h
      | li b xs =>
        rw [e] at h; cases h
        obtain ⟨a, vs, e1, _, h1, r1⟩ := r
        rw [v] at e1; cases e1
        exact .inr (.inl ⟨a, vs, xs, rfl, rfl, h1, r1⟩)
      | di b xs =>
        rw [e] at h; cases h
        obtain ⟨a, vs, e1, _, h1, r1⟩ := r
        rw [v] at e1; cases e1
        exact .inr (.inr ⟨a, vs, xs, rfl, rfl, h1, r1⟩)
theorem VS.fz {x : Vl} {z : V} (v : VS K U σ H x z) : VS K U σ H (fz x) z := by
  cases x <;> exact v
/-- a new result stands -/
theorem out_new {x : Vl} {z : V} (R : ER K U B L env σ H) (n : NewR K U H H' x z) : Ev (Wof B L) H H' ∧ OutR K U B L σ H H' env x z := by
  cases x with
  | va d => exact ⟨n.1.mono fun _ z => z.elim, R.grow n.1, n.2⟩
  | vw i => exact n.elim
  | ol ds =>
    obtain ⟨p, vs, h, rfl, rfl, r⟩ := n
    exact ⟨.new h, p, vs, rfl, h, upd_same, R.more (.new h) h (by rw [upd_same]; exact fun z => nomatch z), r.mono ⟨Ev.new (W := No) h, fun _ z => z.elim, fun a z => z.imp id fun z => by rw [z]; exact h⟩⟩
  | od ds =>
    obtain ⟨p, vs, h, rfl, rfl, r⟩ := n
    exact ⟨.new h, p, vs, rfl, h, upd_same, R.more (.new h) h (by rw [upd_same]; exact fun z => nomatch z), r.mono ⟨Ev.new (W := No) h, fun _ z => z.elim, fun a z => z.imp id fun z => by rw [z]; exact h⟩⟩

theorem SameK.trans {a b c : Envi} (h1 : SameK a b) (h2 : SameK b c) : SameK a c := Eq.trans h2 h1
theorem PostE.step {Q : VK} {r : Res (Vl × Envi)} (h : PostE K U B L σ env H Q r) (e : Ev (Wof B L) H H1) (k : SameK env env1) : PostE K U B L σ env1 H1 Q r := by
  cases r with
  | bad => exact h
  | ok p => exact fun H' z e' k' o => h H' z (e.trans e') (SameK.trans k k') (o.back e)
theorem PostE.ro {Q : VK} {α : Type} {o : Option α} {k : α → Res (Vl × Envi)} (h : PostE K U B L σ env H Q ((ro o).bind k)) : ∃ a, o = some a ∧ PostE K U B L σ env H Q (k a) := by
  cases o with
  | none => exact h.elim
  | some a => exact ⟨a, rfl, h⟩
theorem PostE.ifB {Q : VK} {c : Bool} {r : Res (Vl × Envi)} (h : PostE K U B L σ env H Q (if c = true then r else .bad)) : c = true ∧ PostE K U B L σ env H Q r := by
  cases c with
  | true => exact ⟨rfl, by simpa using h⟩
  | false => exact (by simpa [PostE] using h : False).elim
/-- the end: a new result -/
theorem PostE.fin {Q : VK} {x : Vl} {z : V} (R : ER K U B L env σ H) (h : PostE K U B L σ env H Q (.ok (x, env))) (n : NewR K U H H' x z) : Q z H' :=
  let ⟨e, o⟩ := out_new R n
  h H' z e rfl o
theorem PostE.now {Q : VK} {d : D} {z : V} (R : ER K U B L env σ H) (h : PostE K U B L σ env H Q (.ok (.va d, env))) (n : VR K U H d z) : Q z H := h.fin R (new_va n)
/-- one expression, then more -/
theorem tI_bind {F : CF} {a : IE} {Q : VK} {k : Vl × Envi → Res (Vl × Envi)} {T : VK} (R : ER K U B L env σ H) (h : PostE K U B L σ env H Q ((evE F a env).bind k))
    (hk : ∀ x env1 H1 z, Ev (Wof B L) H H1 → SameK env env1 → ER K U B L env1 σ H1 → VS K U σ H1 x z → PostE K U B L σ env1 H1 Q (k (x, env1)) → T z H1) : tI K F a σ H T := by
  refine ⟨U, B, L, env, R, ?_⟩
  cases e : evE F a env with
  | bad => rw [e] at h; exact h
  | ok p =>
    obtain ⟨x, env1⟩ := p
    rw [e] at h
    exact fun H1 z e1 k1 o => hk x env1 H1 z e1 k1 (o.er R) (o.vs R) (h.step e1 k1)
theorem tI_last {F : CF} {a : IE} {Q : VK} (R : ER K U B L env σ H) (h : PostE K U B L σ env H Q (evE F a env)) : tI K F a σ H Q := ⟨U, B, L, env, R, h⟩
theorem tI.imp {F : CF} {a : IE} {Q Q' : VK} (h : tI K F a σ H Q) (hq : ∀ z H', Q z H' → Q' z H') : tI K F a σ H Q' := by
  obtain ⟨U, B, L, env, R, h⟩ := h
  refine ⟨U, B, L, env, R, ?_⟩
  cases e : evE F a env with
  | bad => rw [e] at h; exact h
  | ok p => rw [e] at h; exact fun H' z e1 k1 o => hq _ _ (h H' z e1 k1 o)

/-! ### tests -/
def PostT (K : PySem.W.Frag) (U B L : Addr → Prop) (σ : L2.St) (env : Envi) (H : Hp) (Q : Bool → Hp → Prop) : Res (Bool × Envi) → Prop
  | .ok (b, env') => ∀ H', Ev (Wof B L) H H' → SameK env env' → ER K U B L env' σ H' → Q b H'
  | .bad => False
def tTt (K : PySem.W.Frag) (F : CF) (c : IT) : TT := fun σ H Q => ∃ U B L env, ER K U B L env σ H ∧ PostT K U B L σ env H Q (evT F c env)
theorem PostT.step {Q : Bool → Hp → Prop} {r : Res (Bool × Envi)} (h : PostT K U B L σ env H Q r) (e : Ev (Wof B L) H H1) (k : SameK env env1) : PostT K U B L σ env1 H1 Q r := by
  cases r with
  | bad => exact h
  | ok p => exact fun H' e' k' o => h H' (e.trans e') (SameK.trans k k') o
theorem PostT.ro {Q : Bool → Hp → Prop} {α : Type} {o : Option α} {k : α → Res (Bool × Envi)} (h : PostT K U B L σ env H Q ((ro o).bind k)) : ∃ a, o = some a ∧ PostT K U B L σ env H Q (k a) := by
  cases o with
  | none => exact h.elim
  | some a => exact ⟨a, rfl, h⟩
theorem tI_bindT {F : CF} {a : IE} {Q : Bool → Hp → Prop} {k : Vl × Envi → Res (Bool × Envi)} {T : VK} (R : ER K U B L env σ H) (h : PostT K U B L σ env H Q ((evE F a env).bind k))
    (hk : ∀ x env1 H1 z, Ev (Wof B L) H H1 → SameK env env1 → ER K U B L env1 σ H1 → VS K U σ H1 x z → PostT K U B L σ env1 H1 Q (k (x, env1)) → T z H1) : tI K F a σ H T := by
  refine ⟨U, B, L, env, R, ?_⟩
  cases e : evE F a env with
  | bad => rw [e] at h; exact h
  | ok p =>
    obtain ⟨x, env1⟩ := p
    rw [e] at h
    exact fun H1 z e1 k1 o => hk x env1 H1 z e1 k1 (o.er R) (o.vs R) (h.step e1 k1)
theorem tT_bindT {F : CF} {c : IT} {Q : Bool → Hp → Prop} {k : Bool × Envi → Res (Bool × Envi)} {T : Bool → Hp → Prop} (R : ER K U B L env σ H) (h : PostT K U B L σ env H Q ((evT F c env).bind k))
    (hk : ∀ b env1 H1, Ev (Wof B L) H H1 → SameK env env1 → ER K U B L env1 σ H1 → PostT K U B L σ env1 H1 Q (k (b, env1)) → T b H1) : tTt K F c σ H T := by
  refine ⟨U, B, L, env, R, ?_⟩
  cases e : evT F c env with
  | bad => rw [e] at h; exact h
  | ok p =>
    obtain ⟨x, env1⟩ := p
    rw [e] at h
    exact fun H1 e1 k1 o => hk x env1 H1 e1 k1 o (h.step e1 k1)
theorem tT_bind {F : CF} {c : IT} {Q : VK} {k : Bool × Envi → Res (Vl × Envi)} {T : Bool → Hp → Prop} (R : ER K U B L env σ H) (h : PostE K U B L σ env H Q ((evT F c env).bind k))
    (hk : ∀ b env1 H1, Ev (Wof B L) H H1 → SameK env env1 → ER K U B L env1 σ H1 → PostE K U B L σ env1 H1 Q (k (b, env1)) → T b H1) : tTt K F c σ H T := by
  refine ⟨U, B, L, env, R, ?_⟩
  cases e : evT F c env with
  | bad => rw [e] at h; exact h
  | ok p =>
    obtain ⟨x, env1⟩ := p
    rw [e] at h
    exact fun H1 e1 k1 o => hk x env1 H1 e1 k1 o (h.step e1 k1)

/-! ### arguments -/
inductive VSs (K : PySem.W.Frag) (U : Addr → Prop) (σ : L2.St) (H : Hp) : List Vl → List V → Prop
  | nil : VSs K U σ H [] []
  | cons {x : Vl} {z : V} {xs : List Vl} {zs : List V} : VS K U σ H x z → VSs K U σ H xs zs → VSs K U σ H (x :: xs) (z :: zs)
theorem VSs.mono (s : Step W U U H H') : ∀ {xs : List Vl} {zs : List V}, VSs K U σ H xs zs → VSs K U σ H' xs zs
  | _, _, .nil => .nil
  | _, _, .cons r t => .cons (r.mono s) (VSs.mono s t)
theorem VSs.dats : ∀ {xs : List Vl} {zs : List V} {ds : List D}, VSs K U σ H xs zs → dats xs = some ds → VRs K U H ds zs
  | _, _, _, .nil, h => by cases h; exact .nil
  | x :: xs, _, ds, .cons r t, h => by
    have h : (match dat x, DI.dats xs with
      | some d, some ds => some (d :: ds)
      | _, _ => none) = some ds := h
    cases e : dat x with
    | none => rw [e] at h; cases h
    | some d =>
      cases e2 : DI.dats xs with
      | none => rw [e, e2] at h; cases h
      | some ds' => rw [e, e2] at h; cases h; exact .cons (r.dat e) (VSs.dats t e2)
theorem VSs.looks (R : ER K U B L env σ H) : ∀ {xs : List Vl} {zs : List V} {ds : List D}, VSs K U σ H xs zs → looks env xs = some ds → RdVs K U H ds zs
  | _, _, _, .nil, h => by cases h; exact .nil
  | x :: xs, _, ds, .cons r t, h => by
    have h : (match look env x, DI.looks env xs with
      | some d, some ds => some (d :: ds)
      | _, _ => none) = some ds := h
    cases e : look env x with
    | none => rw [e] at h; cases h
    | some d =>
      cases e2 : DI.looks env xs with
      | none => rw [e, e2] at h; cases h
      | some ds' => rw [e, e2] at h; cases h; exact .cons (r.look R e) (VSs.looks R t e2)
theorem VSs.length : ∀ {xs : List Vl} {zs : List V}, VSs K U σ H xs zs → xs.length = zs.length
  | _, _, .nil => rfl
  | _, _, .cons _ t => by simp [VSs.length t]
def PostA (K : PySem.W.Frag) (U B L : Addr → Prop) (σ : L2.St) (env : Envi) (H : Hp) (Q : List V → Hp → Prop) : Res (List Vl × Envi) → Prop
  | .ok (xs, env') => ∀ H' zs, Ev (Wof B L) H H' → SameK env env' → ER K U B L env' σ H' → VSs K U σ H' xs zs → Q zs H'
  | .bad => False
def tA (K : PySem.W.Frag) (F : CF) (es : IEs) : TA := fun σ H Q => ∃ U B L env, ER K U B L env σ H ∧ PostA K U B L σ env H Q (evVs F es env)
theorem PostA.step {Q : List V → Hp → Prop} {r : Res (List Vl × Envi)} (h : PostA K U B L σ env H Q r) (e : Ev (Wof B L) H H1) (k : SameK env env1) : PostA K U B L σ env1 H1 Q r := by
  cases r with
  | bad => exact h
  | ok p => exact fun H' zs e' k' o v => h H' zs (e.trans e') (SameK.trans k k') o v
theorem tI_bindA {F : CF} {a : IE} {Q : List V → Hp → Prop} {k : Vl × Envi → Res (List Vl × Envi)} {T : VK} (R : ER K U B L env σ H) (h : PostA K U B L σ env H Q ((evE F a env).bind k))
    (hk : ∀ x env1 H1 z, Ev (Wof B L) H H1 → SameK env env1 → ER K U B L env1 σ H1 → VS K U σ H1 x z → PostA K U B L σ env1 H1 Q (k (x, env1)) → T z H1) : tI K F a σ H T := by
  refine ⟨U, B, L, env, R, ?_⟩
  cases e : evE F a env with
  | bad => rw [e] at h; exact h
  | ok p =>
    obtain ⟨x, env1⟩ := p
    rw [e] at h
    exact fun H1 z e1 k1 o => hk x env1 H1 z e1 k1 (o.er R) (o.vs R) (h.step e1 k1)
theorem tA_bindA {F : CF} {es : IEs} {Q : List V → Hp → Prop} {k : List Vl × Envi → Res (List Vl × Envi)} {T : List V → Hp → Prop} (R : ER K U B L env σ H) (h : PostA K U B L σ env H Q ((evVs F es env).bind k))
    (hk : ∀ xs env1 H1 zs, Ev (Wof B L) H H1 → SameK env env1 → ER K U B L env1 σ H1 → VSs K U σ H1 xs zs → PostA K U B L σ env1 H1 Q (k (xs, env1)) → T zs H1) : tA K F es σ H T := by
  refine ⟨U, B, L, env, R, ?_⟩
  cases e : evVs F es env with
  | bad => rw [e] at h; exact h
  | ok p =>
    obtain ⟨x, env1⟩ := p
    rw [e] at h
    exact fun H1 zs e1 k1 R1 v1 => hk x env1 H1 zs e1 k1 R1 v1 (h.step e1 k1)
theorem tA_bind {F : CF} {es : IEs} {Q : VK} {k : List Vl × Envi → Res (Vl × Envi)} {T : List V → Hp → Prop} (R : ER K U B L env σ H) (h : PostE K U B L σ env H Q ((evVs F es env).bind k))
    (hk : ∀ xs env1 H1 zs, Ev (Wof B L) H H1 → SameK env env1 → ER K U B L env1 σ H1 → VSs K U σ H1 xs zs → PostE K U B L σ env1 H1 Q (k (xs, env1)) → T zs H1) : tA K F es σ H T := by
  refine ⟨U, B, L, env, R, ?_⟩
  cases e : evVs F es env with
  | bad => rw [e] at h; exact h
  | ok p =>
    obtain ⟨x, env1⟩ := p
    rw [e] at h
    exact fun H1 zs e1 k1 R1 v1 => hk x env1 H1 zs e1 k1 R1 v1 (h.step e1 k1)

/-! ### parts of slices -/
def PostO (K : PySem.W.Frag) (U B L : Addr → Prop) (σ : L2.St) (env : Envi) (H : Hp) (Q : Option Int → Hp → Prop) : Res (Option Int × Envi) → Prop
  | .ok (o, env') => ∀ H', Ev (Wof B L) H H' → SameK env env' → ER K U B L env' σ H' → Q o H'
  | .bad => False
def tOo (K : PySem.W.Frag) (F : CF) (e : IEo) : TO := fun σ H Q => ∃ U B L env, ER K U B L env σ H ∧ PostO K U B L σ env H Q (evO F e env)
theorem tO_bind {F : CF} {es : IEo} {Q : VK} {k : Option Int × Envi → Res (Vl × Envi)} {T : Option Int → Hp → Prop} (R : ER K U B L env σ H) (h : PostE K U B L σ env H Q ((evO F es env).bind k))
    (hk : ∀ o env1 H1, Ev (Wof B L) H H1 → SameK env env1 → ER K U B L env1 σ H1 → PostE K U B L σ env1 H1 Q (k (o, env1)) → T o H1) : tOo K F es σ H T := by
  refine ⟨U, B, L, env, R, ?_⟩
  cases e : evO F es env with
  | bad => rw [e] at h; exact h
  | ok p =>
    obtain ⟨x, env1⟩ := p
    rw [e] at h
    exact fun H1 e1 k1 R1 => hk x env1 H1 e1 k1 R1 (h.step e1 k1)
end

theorem Res.bind_assoc {α β γ : Type} (r : Res α) (k : α → Res β) (l : β → Res γ) : (r.bind k).bind l = r.bind fun a => (k a).bind l := by
  cases r <;> rfl
theorem cmp_map {op : CmpOp} {d e : D} {r : Bool} (h : cmpD op d e = some r) : (cmpD op d e).map (fun b => Vl.va (D.bl b)) = some (.va (.bl r)) := by rw [h]; rfl
theorem idx_map {d e r : D} (h : idxD d e = some r) : (idxD d e).map Vl.va = some (.va r) := by rw [h]; rfl
theorem NewR.test {K : PySem.W.Frag} {U B L : Addr → Prop} {σ : L2.St} {env : Envi} {H H' : Hp} {r : Bool} {z : V} {Q : Bool → Hp → Prop} (n : NewR K U H H' (.va (.bl r)) z) (R : ER K U B L env σ H)
    (h : PostT K U B L σ env H Q (.ok (r, env))) : ∃ k, z = V.bl k ∧ Q k H' := by
  obtain ⟨n1, n2⟩ := n
  cases n2
  exact ⟨r, rfl, h H' (n1.mono fun _ z => z.elim) rfl (R.grow n1)⟩
theorem PE_imp {X : Cx} {e : Expr} {t t' : TE} (h : PE X e t) (hi : ∀ σ H Q, t' σ H Q → t σ H Q) : PE X e t' := ⟨fun pins s σ H Q I w => h.run pins s σ H Q I (hi σ H Q w)⟩
theorem PT_imp {X : Cx} {e : Expr} {t t' : TT} (h : PT X e t) (hi : ∀ σ H Q, t' σ H Q → t σ H Q) : PT X e t' := ⟨fun pins s σ H Q I w => h.run pins s σ H Q I (hi σ H Q w)⟩
theorem PW_imp {X : Cx} {e : Expr} {t t' : TT} (h : PW X e t) (hi : ∀ σ H Q, t' σ H Q → t σ H Q) : PW X e t' := ⟨fun wh pins s σ H Q I w => h.run wh pins s σ H Q I (hi σ H Q w)⟩
theorem PA_imp {X : Cx} {e : List Expr} {t t' : TA} (h : PA X e t) (hi : ∀ σ H Q, t' σ H Q → t σ H Q) : PA X e t' := ⟨fun p pins s σ H Q I w => h.run p pins s σ H Q I (hi σ H Q w)⟩
theorem PO_imp {X : Cx} {e : Option Expr} {t t' : TO} (h : PO X e t) (hi : ∀ σ H Q, t' σ H Q → t σ H Q) : PO X e t' := ⟨fun pins s σ H Q I w => h.run pins s σ H Q I (hi σ H Q w)⟩
theorem PS_imp {X : Cx} {e : Stmt} {t t' : TS} (h : PS X e t) (hi : ∀ D σ H, t' D σ H → t D σ H) : PS X e t' := ⟨fun pins s σ H D I w => h.run pins s σ H D I (hi D σ H w)⟩
theorem PSs_imp {X : Cx} {e : List Stmt} {t t' : TS} (h : PSs X e t) (hi : ∀ D σ H, t' D σ H → t D σ H) : PSs X e t' := ⟨fun pins s σ H D I w => h.run pins s σ H D I (hi D σ H w)⟩
theorem PG_imp {X : Cx} {e : Expr} {t t' : TG} (h : PG X e t) (hi : ∀ v σ H Q, t' v σ H Q → t v σ H Q) : PG X e t' := ⟨fun pins s σ H v u Q I r w => h.run pins s σ H v u Q I r (hi v σ H Q w)⟩
theorem PI_imp {X : Cx} {tg e : Expr} {t t' : TI} (h : PI X tg e t) (hi : ∀ σ H Q, t' σ H Q → t σ H Q) : PI X tg e t' := ⟨fun pins s σ H Q I w => h.run pins s σ H Q I (hi σ H Q w)⟩

/-! ### expressions, one by one -/
section
variable {X : Cx} {F : CF} {a b c : Expr} {ia ib ic : IE} {pos : Pos}
theorem i_var {i : Nat} {x : Str} (hN : X.N[i]? = some x) (hv : Vis X.env.scope x) (hd : (x == ("__debug__" : Str)) = false) (hcd : (x == ("__classdict__" : Str)) = false) : PE X (.Name x pos) (tI X.K F (.var i)) := by
  refine PE_imp (pe_var hN hv hd hcd) fun σ H Q ⟨U, B, L, env, R, h⟩ => ?_
  unfold evE at h
  cases e : env[i]? with
  | none => rw [e] at h; exact h.elim
  | some s =>
    rw [e] at h
    have r := R.sl i s e
    cases s with
    | un => exact h.elim
    | va d =>
      obtain ⟨v, e1, r1⟩ := r
      exact ⟨v, e1, h H v .refl rfl ⟨R, r1⟩⟩
    | li b xs =>
      obtain ⟨p, vs, e1, _⟩ := r
      exact ⟨_, e1, h H _ .refl rfl ⟨R, e1⟩⟩
    | di b xs =>
      obtain ⟨p, vs, e1, _⟩ := r
      exact ⟨_, e1, h H _ .refl rfl ⟨R, e1⟩⟩
theorem i_lit {e : Expr} {d : D} {v : V} (h : PE X e (tC v)) (r : ∀ U H, VR X.K U H d v) : PE X e (tI X.K F (.lit d)) :=
  PE_imp h fun σ H Q ⟨U, B, L, env, R, h⟩ => h H v .refl rfl ⟨R, r U H⟩
theorem i_glo {x y : Str} {d : D} {v : V} {u : Value} (hg : Gl X y) (hm : X.mg y = some u) (hr : RelV v u) (r : ∀ U H, VR X.K U H d v) (hd : (y == ("__debug__" : Str)) = false) : PE X (.Name y pos) (tI X.K F (.glo x d)) :=
  PE_imp (pe_glob hg hm hr hd) fun σ H Q ⟨U, B, L, env, R, h⟩ => h H v .refl rfl ⟨R, r U H⟩
theorem i_bin {op : Operator} (ha : PE X a (tI X.K F ia)) (hb : PE X b (tI X.K F ib)) : PE X (.BinOp a op b pos) (tI X.K F (.bin op ia ib)) := by
  refine PE_imp (pe_op (op_bin op) ha hb) fun σ H Q ⟨U, B, L, env, R, h⟩ => ?_
  refine tI_bind R h fun x env1 H1 z1 e1 k1 R1 v1 h => tI_bind R1 h fun y env2 H2 z2 e2 k2 R2 v2 h => ?_
  obtain ⟨d1, l1, h⟩ := h.ro
  obtain ⟨d2, l2, h⟩ := h.ro
  obtain ⟨r, l3, h⟩ := h.ro
  exact ⟨U, d1, d2, r, R2.tr, (v1.step R1 e2).look R2 l1, v2.look R2 l2, l3, fun H' z n => h.fin R2 n⟩
theorem i_cmp (hu : X.A.units + 64 < cLine) {op : CmpOp} (ha : PE X a (tI X.K F ia)) (hb : PE X b (tI X.K F ib)) (hm : behindInMarks op b = false) : PE X (.Compare a [op] [b] pos) (tI X.K F (.cmp op ia ib)) := by
  refine PE_imp (pe_cmpR (op_cmpD hu op) ha hb hm) fun σ H Q ⟨U, B, L, env, R, h⟩ => ?_
  refine tI_bind R h fun x env1 H1 z1 e1 k1 R1 v1 h => tI_bind R1 h fun y env2 H2 z2 e2 k2 R2 v2 h => ?_
  obtain ⟨d1, l1, h⟩ := h.ro
  obtain ⟨d2, l2, h⟩ := h.ro
  obtain ⟨r, l3, h⟩ := h.ro
  exact ⟨U, d1, d2, _, R2.tr, (v1.step R1 e2).look R2 l1, v2.look R2 l2, cmp_map l3, fun H' z n => h.fin R2 n⟩
theorem i_cmpT (hu : X.A.units + 64 < cLine) {op : CmpOp} (ha : PE X a (tI X.K F ia)) (hb : PE X b (tI X.K F ib)) (hm : behindInMarks op b = false) : PT X (.Compare a [op] [b] pos) (tTt X.K F (.e (.cmp op ia ib))) := by
  refine PT_imp (pt_cmpR (op_cmpD hu op) ha hb hm) fun σ H Q ⟨U, B, L, env, R, h⟩ => ?_
  unfold evT evE at h
  simp only [Res.bind_assoc] at h
  refine tI_bindT R h fun x env1 H1 z1 e1 k1 R1 v1 h => tI_bindT R1 h fun y env2 H2 z2 e2 k2 R2 v2 h => ?_
  obtain ⟨d1, l1, h⟩ := h.ro
  obtain ⟨d2, l2, h⟩ := h.ro
  obtain ⟨r, l3, h⟩ := h.ro
  exact ⟨U, d1, d2, .va (.bl r), R2.tr, (v1.step R1 e2).look R2 l1, v2.look R2 l2, cmp_map l3, fun H' z n => n.test R2 h⟩
theorem i_neg (ha : PE X a (tI X.K F ia)) : PE X (.UnaryOp .USub a pos) (tI X.K F (.neg ia)) := by
  refine PE_imp (pe_un un_neg ha) fun σ H Q ⟨U, B, L, env, R, h⟩ => ?_
  refine tI_bind R h fun x env1 H1 z1 e1 k1 R1 v1 h => ?_
  match x, v1, h with
  | .va (.int i), v1, h => cases v1; exact ⟨i, rfl, h.fin R1 new_int⟩
theorem non_iff {K : PySem.W.Frag} {U : Addr → Prop} {σ : L2.St} {H : Hp} {x : Vl} {z : V} (v : VS K U σ H x z) (h : ∀ i, x ≠ .vw i) :
    decide (z = .non) = (match x with
      | .va .non => true
      | _ => false) := by
  cases x with
  | va d => cases v <;> first | rfl | exact decide_eq_false fun e => nomatch e
  | ol ds => cases v; exact decide_eq_false fun e => nomatch e
  | od ds => cases v; exact decide_eq_false fun e => nomatch e
  | vw i => exact absurd rfl (h i)
theorem i_and {x : Expr} {rest : List Expr} (ha : PE X a (tI X.K F ia)) (hb : PE X (.BoolOp .And (x :: rest) pos) (tI X.K F ib)) : PE X (.BoolOp .And (a :: x :: rest) pos) (tI X.K F (.and ia ib)) := by
  refine PE_imp (pe_and ha hb) fun σ H Q ⟨U, B, L, env, R, h⟩ => ?_
  refine tI_bind R h fun x env1 H1 z1 e1 k1 R1 v1 h => ?_
  match x, v1, h with
  | .va (.bl true), v1, h => cases v1; exact ⟨true, rfl, tI_last R1 h⟩
  | .va (.bl false), v1, h => cases v1; exact ⟨false, rfl, h.fin R1 new_bl⟩
theorem i_or {x : Expr} {rest : List Expr} (ha : PE X a (tI X.K F ia)) (hb : PE X (.BoolOp .Or (x :: rest) pos) (tI X.K F ib)) : PE X (.BoolOp .Or (a :: x :: rest) pos) (tI X.K F (.or ia ib)) := by
  refine PE_imp (pe_or ha hb) fun σ H Q ⟨U, B, L, env, R, h⟩ => ?_
  refine tI_bind R h fun x env1 H1 z1 e1 k1 R1 v1 h => ?_
  match x, v1, h with
  | .va (.bl true), v1, h => cases v1; exact ⟨true, rfl, h.fin R1 new_bl⟩
  | .va (.bl false), v1, h => cases v1; exact ⟨false, rfl, tI_last R1 h⟩
theorem i_not (ha : PE X a (tI X.K F ia)) : PE X (.UnaryOp .Not a pos) (tI X.K F (.not ia)) := by
  refine PE_imp (pe_not ha) fun σ H Q ⟨U, B, L, env, R, h⟩ => ?_
  refine tI_bind R h fun x env1 H1 z1 e1 k1 R1 v1 h => ?_
  match x, v1, h with
  | .va (.bl c), v1, h => cases v1; exact ⟨c, rfl, h.fin R1 new_bl⟩
theorem i_ife {ic : IT} (hc : PT X c (tTt X.K F ic)) (ha : PE X a (tI X.K F ia)) (hb : PE X b (tI X.K F ib)) : PE X (.IfExp c a b pos) (tI X.K F (.ife ic ia ib)) := by
  refine PE_imp (pe_ifExp hc ha hb) fun σ H Q ⟨U, B, L, env, R, h⟩ => ?_
  refine tT_bind R h fun c env1 H1 e1 k1 R1 h => ?_
  cases c with
  | true => exact tI_last R1 h
  | false => exact tI_last R1 h
theorem i_tup {es : List Expr} {x1 : Nat} {is : IEs} (h : PA X es (tA X.K F is)) : PE X (.Tuple es x1 pos) (tI X.K F (.tup is)) := by
  refine PE_imp (pe_tup h) fun σ H Q ⟨U, B, L, env, R, h⟩ => ?_
  refine tA_bind R h fun xs env1 H1 zs e1 k1 R1 v1 h => ?_
  obtain ⟨ds, l1, h⟩ := h.ro
  obtain ⟨l2, h⟩ := h.ifB
  have r := v1.dats l1
  exact ⟨by rw [← r.length]; exact fits_ok l2, fun p hp => h.fin R1 (new_tup R1.tr hp r)⟩
theorem i_lst {es : List Expr} {is : IEs} (h : PA X es (tA X.K F is)) : PE X (.List es pos) (tI X.K F (.lst is)) := by
  refine PE_imp (pe_lst h) fun σ H Q ⟨U, B, L, env, R, h⟩ => ?_
  refine tA_bind R h fun xs env1 H1 zs e1 k1 R1 v1 h => ?_
  obtain ⟨ds, l1, h⟩ := h.ro
  obtain ⟨l2, h⟩ := h.ifB
  have r := v1.dats l1
  exact ⟨by rw [← r.length]; exact fits_ok l2, fun p hp => h.fin R1 (new_lst hp r)⟩
theorem i_dnew : PE X (.Dict [] [] pos) (tI X.K F .dnew) :=
  PE_imp pe_dnewK fun σ H Q ⟨U, B, L, env, R, h⟩ => fun p hp => h.fin R ⟨p, [], hp, rfl, rfl, .nil⟩
theorem i_idx (hu : X.A.units + 1 < cLine) (ha : PE X a (tI X.K F ia)) (hb : PE X b (tI X.K F ib)) (hs : PlainIx b) : PE X (.Subscript a b pos) (tI X.K F (.idx ia ib)) := by
  refine PE_imp (pe_ix (ix_data hu) ha hb hs) fun σ H Q ⟨U, B, L, env, R, h⟩ => ?_
  refine tI_bind R h fun x env1 H1 z1 e1 k1 R1 v1 h => tI_bind R1 h fun y env2 H2 z2 e2 k2 R2 v2 h => ?_
  obtain ⟨d1, l1, h⟩ := h.ro
  obtain ⟨d2, l2, h⟩ := h.ro
  obtain ⟨r, l3, h⟩ := h.ro
  exact ⟨U, d1, d2, .va r, R2.tr, (v1.step R1 e2).look R2 l1, .inl (v2.dat l2), idx_map l3, fun H' z n => h.fin R2 n⟩
theorem i_slc {lo hi : Option Expr} {il ih : IEo} {p2 : Pos} (ha : PE X a (tI X.K F ia)) (hl : PO X lo (tOo X.K F il)) (hh : PO X hi (tOo X.K F ih)) : PE X (.Subscript a (.Slice lo hi none p2) pos) (tI X.K F (.slc ia il ih)) := by
  refine PE_imp (pe_slice sl_data ha hl hh) fun σ H Q ⟨U, B, L, env, R, h⟩ => ?_
  refine tI_bind R h fun x env1 H1 z1 e1 k1 R1 v1 h => tO_bind R1 h fun y env2 H2 e2 k2 R2 h => tO_bind R2 h fun y' env3 H3 e3 k3 R3 h => ?_
  obtain ⟨d1, l1, h⟩ := h.ro
  obtain ⟨r, l3, h⟩ := h.ro
  exact ⟨U, d1, r, R3.tr, ((v1.step R1 e2).step R2 e3).look R3 l1, l3, fun H' z n => h.fin R3 n⟩
theorem i_rev {k : Nat} {p1 p2 p3 : Pos} (ha : PE X a (tI X.K F ia)) : PE X (.Subscript a (.Slice none none (some (.UnaryOp .USub (.Constant (.int 1) k p1) p2)) p3) pos) (tI X.K F (.rev ia)) := by
  refine PE_imp (pe_revL ha) fun σ H Q ⟨U, B, L, env, R, h⟩ => ?_
  refine tI_bind R h fun x env1 H1 z1 e1 k1 R1 v1 h => ?_
  obtain ⟨d1, l1, h⟩ := h.ro
  cases d1 with
  | lst xs =>
    obtain ⟨p, vs, rfl, h1, h2⟩ := (v1.look R1 l1).lst
    exact ⟨p, vs, rfl, SqL.of h1, fun q hq => h.fin R1 (new_lst hq h2.reverse)⟩
  | _ => exact h.elim
end
end DI
end

section
set_option Elab.async false
set_option linter.all false
set_option maxRecDepth 100000
/-! Part 6: more expressions, tests, arguments. -/
namespace DI
open PySem PySem.Spec PyProof.Rows L2

section
variable {X : Cx} {F : CF} {a b c : Expr} {ia ib ic : IE} {pos : Pos}
theorem NewR.blv {K : PySem.W.Frag} {U : Addr → Prop} {H H' : Hp} {r : Bool} {z : V} (n : NewR K U H H' (.va (.bl r)) z) : z = .bl r ∧ Ev No H H' := by
  obtain ⟨n1, n2⟩ := n
  cases n2
  exact ⟨rfl, n1⟩
theorem i_isN {j : Nat} {p' : Pos} (ha : PE X a (tI X.K F ia)) : PE X (.Compare a [.Is] [.Constant .none j p'] pos) (tI X.K F (.isN false ia)) := by
  refine PE_imp (pe_cmpR op_isN ha pe_non (nomark _)) fun σ H Q ⟨U, B, L, env, R, h⟩ => ?_
  refine tI_bind R h fun x env1 H1 z1 e1 k1 R1 v1 h => ?_
  refine ⟨rfl, ?_⟩
  rw [non_iff v1 (fun i e => by subst e; exact h.elim)]
  match x, v1, h with
  | .va .non, v1, h => exact h.fin R1 new_bl
  | .va (.bl _), v1, h => exact h.fin R1 new_bl
  | .va (.int _), v1, h => exact h.fin R1 new_bl
  | .va (.str _), v1, h => exact h.fin R1 new_bl
  | .va (.ty _), v1, h => exact h.fin R1 new_bl
  | .va (.cl _), v1, h => exact h.fin R1 new_bl
  | .va (.tup _), v1, h => exact h.fin R1 new_bl
  | .va (.lst _), v1, h => exact h.fin R1 new_bl
  | .va (.scr _), v1, h => exact h.fin R1 new_bl
  | .va (.dct _), v1, h => exact h.fin R1 new_bl
  | .va (.rng _ _), v1, h => exact h.fin R1 new_bl
  | .ol _, v1, h => exact h.fin R1 new_bl
  | .od _, v1, h => exact h.fin R1 new_bl
  | .vw _, v1, h => exact h.elim
theorem i_notN {j : Nat} {p' : Pos} (ha : PE X a (tI X.K F ia)) : PE X (.Compare a [.IsNot] [.Constant .none j p'] pos) (tI X.K F (.isN true ia)) := by
  refine PE_imp (pe_cmpR op_notN ha pe_non (nomark _)) fun σ H Q ⟨U, B, L, env, R, h⟩ => ?_
  refine tI_bind R h fun x env1 H1 z1 e1 k1 R1 v1 h => ?_
  refine ⟨rfl, ?_⟩
  rw [non_iff v1 (fun i e => by subst e; exact h.elim)]
  match x, v1, h with
  | .va .non, v1, h => exact h.fin R1 new_bl
  | .va (.bl _), v1, h => exact h.fin R1 new_bl
  | .va (.int _), v1, h => exact h.fin R1 new_bl
  | .va (.str _), v1, h => exact h.fin R1 new_bl
  | .va (.ty _), v1, h => exact h.fin R1 new_bl
  | .va (.cl _), v1, h => exact h.fin R1 new_bl
  | .va (.tup _), v1, h => exact h.fin R1 new_bl
  | .va (.lst _), v1, h => exact h.fin R1 new_bl
  | .va (.scr _), v1, h => exact h.fin R1 new_bl
  | .va (.dct _), v1, h => exact h.fin R1 new_bl
  | .va (.rng _ _), v1, h => exact h.fin R1 new_bl
  | .ol _, v1, h => exact h.fin R1 new_bl
  | .od _, v1, h => exact h.fin R1 new_bl
  | .vw _, v1, h => exact h.elim
/-- the value's data -/
theorem VS.va {K : PySem.W.Frag} {U : Addr → Prop} {σ : L2.St} {H : Hp} {d : D} {z : V} (v : VS K U σ H (.va d) z) : RdV K U H d z := .inl v
theorem i_chn (hu : X.A.units + 64 < cLine) {o p : CmpOp} (ha : PE X a (tI X.K F ia)) (hb : PE X b (tI X.K F ib)) (hc : PE X c (tI X.K F ic)) (hm : lastMarks [o, p] [b, c] = false) : PE X (.Compare a [o, p] [b, c] pos) (tI X.K F (.chn o p ia ib ic)) := by
  refine PE_imp (pe_chain (op_cmpD hu o) (op_cmpD hu p) ha hb hc hm) fun σ H Q ⟨U, B, L, env, R, h⟩ => ?_
  refine tI_bind R h fun x env1 H1 z1 e1 k1 R1 v1 h => tI_bind R1 h fun y env2 H2 z2 e2 k2 R2 v2 h => ?_
  match x, y, v1, v2, h with
  | .va d1, .va d2, v1, v2, h =>
    obtain ⟨r, l3, h⟩ := h.ro
    refine ⟨U, d1, d2, .va (.bl r), R2.tr, (v1.step R1 e2).va, v2.va, cmp_map l3, fun H' z n => ?_⟩
    obtain ⟨rfl, e3⟩ := n.blv
    refine ⟨r, rfl, ?_⟩
    cases r with
    | false => exact (h.step (e3.mono fun _ z => z.elim) rfl).fin (R2.grow e3) new_bl
    | true =>
      have e3' : Ev (Wof B L) H2 H' := e3.mono fun _ z => z.elim
      have R3 := R2.grow e3
      refine tI_bind R3 (h.step e3' rfl) fun s env4 H4 z4 e4 k4 R4 v4 h => ?_
      match s, v4, h with
      | .va d3, v4, h =>
        obtain ⟨r', l4, h⟩ := h.ro
        exact ⟨U, d2, d3, .va (.bl r'), R4.tr, ((v2.step R2 e3').step R3 e4).va, v4.va, cmp_map l4, fun H5 z n => h.fin R4 n⟩
/-- a table of the module, text keys -/
structure GD (X : Cx) (y : Str) (t : List (Key × D)) (p : Addr) : Prop where
  mg : X.mg y = some (.ref p)
  get : ∀ (z : List Nat) (d : D), kget t (.inr ⟨z.toArray⟩) = some d → ∃ v, KDct X.K X.w p ⟨z.toArray⟩ v ∧ ∀ U H, VR X.K U H d v
  kd : ∃ es n, KDict X.K X.w p es n ∧ ∀ z : List Nat, ∃ r, PySem.W.nsIn X.K p ⟨z.toArray⟩ = some r ∧ r.isSome = (kget t (.inr ⟨z.toArray⟩)).isSome
theorem i_gget {x y : Str} {t : List (Key × D)} {g : Addr} {p : Pos} (G : GD X y t g) (hg : Gl X y) (hd : (y == ("__debug__" : Str)) = false) (ha : PE X a (tI X.K F ia)) (hs : PlainIx a) : PE X (.Subscript (.Name y p) a pos) (tI X.K F (.gget x t ia)) := by
  refine PE_imp (pe_ix ix_kdict (pe_glob (v := .ref g) hg G.mg rfl hd) ha hs) fun σ H Q ⟨U, B, L, env, R, h⟩ => ?_
  refine tI_bind R h fun x env1 H1 z1 e1 k1 R1 v1 h => ?_
  match x, v1, h with
  | .va (.str x), v1, h =>
    cases v1
    obtain ⟨d, l, h⟩ := h.ro
    obtain ⟨v, h1, h2⟩ := G.get x d l
    exact ⟨g, _, v, rfl, rfl, h1, h.now R1 (h2 _ _)⟩
theorem i_gin {x y : Str} {t : List (Key × D)} {g : Addr} {p : Pos} (G : GD X y t g) (hg : Gl X y) (hd : (y == ("__debug__" : Str)) = false) (ha : PE X a (tI X.K F ia)) : PE X (.Compare a [.In] [.Name y p] pos) (tI X.K F (.gin false x t ia)) := by
  obtain ⟨es, n, D0, hk⟩ := G.kd
  refine PE_imp (pe_cmpR (op_in_kd D0) ha (pe_glob (v := .ref g) hg G.mg rfl hd) rfl) fun σ H Q ⟨U, B, L, env, R, h⟩ => ?_
  refine tI_bind R h fun x env1 H1 z1 e1 k1 R1 v1 h => ?_
  match x, v1, h with
  | .va (.str x), v1, h =>
    cases v1
    obtain ⟨r, h1, h2⟩ := hk x
    exact ⟨_, r, rfl, rfl, h1, by rw [h2]; exact h.fin R1 new_bl⟩
theorem i_gnin {x y : Str} {t : List (Key × D)} {g : Addr} {p : Pos} (G : GD X y t g) (hg : Gl X y) (hd : (y == ("__debug__" : Str)) = false) (ha : PE X a (tI X.K F ia)) : PE X (.Compare a [.NotIn] [.Name y p] pos) (tI X.K F (.gin true x t ia)) := by
  obtain ⟨es, n, D0, hk⟩ := G.kd
  refine PE_imp (pe_cmpR (op_notIn_kd D0) ha (pe_glob (v := .ref g) hg G.mg rfl hd) rfl) fun σ H Q ⟨U, B, L, env, R, h⟩ => ?_
  refine tI_bind R h fun x env1 H1 z1 e1 k1 R1 v1 h => ?_
  match x, v1, h with
  | .va (.str x), v1, h =>
    cases v1
    obtain ⟨r, h1, h2⟩ := hk x
    exact ⟨_, r, rfl, rfl, h1, by rw [h2]; exact h.fin R1 new_bl⟩
/-! isinstance -/
theorem wrt_type {K : PySem.W.Frag} {H : Hp} {p : Addr} {vs : List V} (h : WrT K p vs) : TyX K H (.ref p) (.type "tuple") := by
  rcases h (fun _ => none) with h | ⟨o, its, n, h1, h2, _⟩
  · rcases h with h | ⟨_, h⟩ <;> cases h
  · exact .kTuple h1 h2
theorem wrl_type {K : PySem.W.Frag} {H : Hp} {p : Addr} {vs : List V} (h : WrL K p vs) : TyX K H (.ref p) (.type "list") := by
  rcases h (fun _ => none) with h | ⟨o, its, n, h1, h2, _⟩
  · rcases h with h | ⟨_, h⟩ <;> cases h
  · exact .kList h1 h2
theorem ty_x {U : Addr → Prop} {H : Hp} {d : D} {z : V} {t : String} (r : RdV X.K U H d z) (h : tyD d = some t) : TyX X.K H z (.type t) := by
  rcases r with r | ⟨p, vs, ds, rfl, rfl, h1, _⟩ | ⟨p, us, kvs, rfl, rfl, h1, _⟩
  · cases r with
    | non => cases h; exact .base .non
    | bl b => cases h; exact .base (.bl b)
    | int i => cases h; exact .base (.int i)
    | str x => cases h; exact .base (.str _)
    | ty n => cases h
    | cl n => cases h
    | tup h1 _ =>
      cases h
      rcases h1 with ⟨h1 | ⟨o, h1⟩, _⟩ | h1
      · exact .base (.tup h1)
      · exact .fTuple h1
      · exact wrt_type h1
    | lst h1 _ _ => cases h; exact .base (.lst h1)
    | scr h1 _ =>
      cases h
      rcases h1 with ⟨h1 | ⟨o, h1⟩, _⟩ | h1
      · exact .base (.lst h1)
      · exact .base (.frz h1)
      · exact wrl_type h1
    | dct h1 _ _ => cases h; exact .base (.dK h1)
    | rng _ _ => cases h
  · cases h; exact .base (.lst h1)
  · cases h; exact .base (.dK h1)
theorem isi_one {t c : String} {b : Bool} (h : isiT t [c] = some b) : kitB t c = some b := by
  unfold isiT at h
  cases e : kitB t c with
  | none => rw [e] at h; cases h
  | some k => cases k <;> (rw [e] at h; exact h)
theorem isi_any {K : PySem.W.Frag} {t : String} : ∀ {cs : List String} {b : Bool}, isiT t cs = some b → PySem.W.kitAny K (.type t) (cs.map Value.type) = some b
  | [], b, h => by cases h; exact kitAny_nil
  | c :: cs, b, h => by
    unfold isiT at h
    cases e : kitB t c with
    | none => rw [e] at h; cases h
    | some k =>
      rw [e] at h
      cases k with
      | true => cases h; exact kitAny_cons (kit_ty e) (fun z => nomatch z) fun _ => rfl
      | false => exact kitAny_cons (kit_ty e) (fun _ => isi_any h) fun z => nomatch z
theorem starEach1 {e : Expr} {env : Env} (h : ∀ x p, e ≠ .Starred x p) (es : List Expr) : starEach (e :: es) env = (false, eval e env) :: starEach es env := by
  cases e <;> first | rfl | exact absurd rfl (h _ _)
theorem i_isi1 {T : Str} {n : String} {p q : Pos} (hg : Gl X "isinstance") (hm : X.mg "isinstance" = none) (hg2 : Gl X T) (hm2 : X.mg T = none) (hv : bootBuiltins T = some (.type n)) (hn : T ≠ "__name__") (hd : (T == ("__debug__" : Str)) = false)
    (ha : PE X a (tI X.K F ia)) (hs : ∀ x p, a ≠ .Starred x p) : PE X (.Call (.Name "isinstance" p) [a, .Name T q] [] pos) (tI X.K F (.isi ia [n])) := by
  refine PE_imp (pe_callB call_isi hg hm (by decide +kernel) (pa_cons ha (pa_cons (pe_bltn (v := .ty n) hg2 hm2 hv rfl hn hd) pa_nil) (starEach1 hs _)) (he := starEach1 hs _)) fun σ H Q ⟨U, B, L, env, R, h⟩ => ?_
  refine tI_bind R h fun x env1 H1 z1 e1 k1 R1 v1 h => ?_
  obtain ⟨d, l1, h⟩ := h.ro
  obtain ⟨b, l2, h⟩ := h.ro
  obtain ⟨t, l3, l4⟩ := Option.bind_eq_some_iff.mp l2
  exact ⟨z1, .ty n, .type t, .type n, b, rfl, .ty n, ty_x (v1.look R1 l1) l3, kit_ty (isi_one l4), h.fin R1 new_bl⟩
/-! built-ins -/
def unst : Expr → Bool
  | .Starred _ _ => false
  | _ => true
theorem plain_args {es : List Expr} {env : Env} (h : es.all unst = true) (pos : Pos) : (backTo pos (starEach es env)).any (·.1) = false := by
  induction es with
  | nil => rfl
  | cons e es ih =>
    obtain ⟨h1, h2⟩ := all_cons h
    cases e <;> first | exact ih h2 | cases h1
theorem nostar {e : Expr} (h : unst e = true) : ∀ x p, e ≠ .Starred x p := by
  intro x p z
  subst z
  cases h
theorem i_bi (hu : X.A.units + 64 < cLine) (hgd : X.A.guards = some []) (hc : X.calm = true) {b : Bi} {x : Str} {e : Expr} {es : List Expr} {is : IEs} {p : Pos} (hg : Gl X x) (hm : X.mg x = none) (hv : bootBuiltins x = some (biV b)) (hn : x ≠ "__name__") (hd : (x == ("__debug__" : Str)) = false)
    (hs : (e :: es).all unst = true) (h : PA X (e :: es) (tA X.K F is)) : PE X (.Call (.Name x p) (e :: es) [] pos) (tI X.K F (.bi b is)) := by
  have h1 := starEach1 (env := X.env) (nostar (all_cons hs).1) es
  have h2 := plain_args (env := X.env) (all_cons hs).2 pos
  have fin : ∀ σ H Q, tI X.K F (.bi b is) σ H Q → tCB (rBi X.K (biD b)) (tA X.K F is) σ H Q := fun σ H Q ⟨U, B, L, env, R, h⟩ => by
    refine tA_bind R h fun xs env1 H1 zs e1 k1 R1 v1 h => ?_
    obtain ⟨ds, l1, h⟩ := h.ro
    obtain ⟨r, l2, h⟩ := h.ro
    exact ⟨U, ds, r, R1.tr, v1.looks R1 l1, l2, fun H' z n => h.fin R1 n⟩
  have hc := call_bi hu hgd hc b
  have key : (∃ id, biV b = .builtin id) ∨ ∃ T, biV b = .type T := by cases b <;> first | exact .inl ⟨_, rfl⟩ | exact .inr ⟨_, rfl⟩
  rcases key with ⟨id, e1⟩ | ⟨T, e1⟩
  · rw [e1] at hv hc
    exact PE_imp (pe_callB hc hg hm hv h hn hd h1 h2) fin
  · rw [e1] at hv hc
    exact PE_imp (pe_callTy hc hg hm hv h hn hd h1 h2) fin
theorem i_rgl (hc : X.calm = true) {t : Bool} {x : Str} {p q pos2 : Pos} (hx : x = if t = true then ("tuple" : Str) else "list") (hg : Gl X x) (hm : X.mg x = none) (hg2 : Gl X "range") (hm2 : X.mg "range" = none) (ha : PE X a (tI X.K F ia)) (hs : ∀ x p, a ≠ .Starred x p) :
    PE X (.Call (.Name x p) [.Call (.Name "range" q) [a] [] pos2] [] pos) (tI X.K F (.rgl t ia)) := by
  have rg : ∀ (n : Int), n.toNat ≤ 2 ^ 24 → ∀ U H, VRs X.K U H (rngL 0 n.toNat) (rgV 0 n) := by
    intro n hn U H
    have aux : ∀ (k : Nat) (lo : Int), VRs X.K U H (rngL lo k) ((List.range k).map fun i => V.int (lo + (i : Nat))) := by
      intro k
      induction k with
      | zero => intro lo; exact .nil
      | succ k ih =>
        intro lo
        rw [List.range_succ_eq_map, List.map_cons, List.map_map]
        refine .cons (by simpa using VR.int (K := X.K) (U := U) (H := H) lo) ?_
        have := ih (lo + 1)
        have e : (fun i : Nat => V.int (lo + 1 + (i : Nat))) = (fun i : Nat => V.int (lo + (i : Nat))) ∘ Nat.succ := by
          funext i
          show V.int (lo + 1 + (i : Nat)) = V.int (lo + ((i + 1 : Nat) : Int))
          congr 1
          omega
        rw [e] at this
        exact this
    have := aux n.toNat 0
    unfold rgV
    rw [show n - 0 = n by omega]
    exact this
  cases t with
  | true =>
    subst hx
    refine PE_imp (pe_tupRg hc hg hm (prg_1 hg2 hm2 ha (starEach1 hs _))) fun σ H Q ⟨U, B, L, env, R, h⟩ => ?_
    refine tI_bind R h fun x env1 H1 z1 e1 k1 R1 v1 h => ?_
    match x, v1, h with
    | .va (.int n), v1, h =>
      cases v1
      obtain ⟨l1, h⟩ := h.ifB
      have l1 := of_decide_eq_true l1
      exact ⟨n, rfl, ⟨by decide, by decide, l1.1, l1.2.1, by simpa using l1.2.2⟩, fun q hq => h.fin R1 (new_tup R1.tr hq (rg n l1.2.2 _ _))⟩
  | false =>
    subst hx
    refine PE_imp (pe_listRg hc hg hm (prg_1 hg2 hm2 ha (starEach1 hs _))) fun σ H Q ⟨U, B, L, env, R, h⟩ => ?_
    refine tI_bind R h fun x env1 H1 z1 e1 k1 R1 v1 h => ?_
    match x, v1, h with
    | .va (.int n), v1, h =>
      cases v1
      obtain ⟨l1, h⟩ := h.ifB
      have l1 := of_decide_eq_true l1
      exact ⟨n, rfl, ⟨by decide, by decide, l1.1, l1.2.1, by simpa using l1.2.2⟩, fun q hq => h.fin R1 (new_lst hq (rg n l1.2.2 _ _))⟩

/-! ### tests -/
theorem i_and_t {x : Expr} {rest : List Expr} {ia ib : IT} (ha : PT X a (tTt X.K F ia)) (hb : PW X (.BoolOp .And (x :: rest) pos) (tTt X.K F ib)) : PW X (.BoolOp .And (a :: x :: rest) pos) (tTt X.K F (.and ia ib)) := by
  refine PW_imp (pw_and ha hb) fun σ H Q ⟨U, B, L, env, R, h⟩ => ?_
  refine tT_bindT R h fun c env1 H1 e1 k1 R1 h => ?_
  cases c with
  | true => exact ⟨U, B, L, env1, R1, h⟩
  | false => exact h H1 .refl rfl R1
theorem i_or_t {x : Expr} {rest : List Expr} {ia ib : IT} (ha : PT X a (tTt X.K F ia)) (hb : PW X (.BoolOp .Or (x :: rest) pos) (tTt X.K F ib)) : PW X (.BoolOp .Or (a :: x :: rest) pos) (tTt X.K F (.or ia ib)) := by
  refine PW_imp (pw_or ha hb) fun σ H Q ⟨U, B, L, env, R, h⟩ => ?_
  refine tT_bindT R h fun c env1 H1 e1 k1 R1 h => ?_
  cases c with
  | true => exact h H1 .refl rfl R1
  | false => exact ⟨U, B, L, env1, R1, h⟩
theorem i_not_t {ia : IT} (ha : PT X a (tTt X.K F ia)) : PT X (.UnaryOp .Not a pos) (tTt X.K F (.not ia)) := by
  refine PT_imp (pt_not ha) fun σ H Q ⟨U, B, L, env, R, h⟩ => ?_
  refine tT_bindT R h fun c env1 H1 e1 k1 R1 h => ?_
  exact h H1 .refl rfl R1
theorem i_e_t (ha : PE X a (tI X.K F ia)) (he : ∀ whole, isTrue a X.env whole = (do let v ← whole; standAt a.pos; holding [v] (truthy v))) : PT X a (tTt X.K F (.e ia)) := by
  refine PT_imp (pt_truth ha he) fun σ H Q ⟨U, B, L, env, R, h⟩ => ?_
  unfold evT at h
  refine tI_bindT R h fun x env1 H1 z1 e1 k1 R1 v1 h => ?_
  obtain ⟨d, l1, h⟩ := h.ro
  obtain ⟨b, l2, h⟩ := h.ro
  exact ⟨b, tru_data (v1.look R1 l1) l2, h H1 .refl rfl R1⟩
theorem i_isN_t {j : Nat} {p' : Pos} (ha : PE X a (tI X.K F ia)) : PT X (.Compare a [.Is] [.Constant .none j p'] pos) (tTt X.K F (.e (.isN false ia))) := by
  refine PT_imp (pt_cmpR op_isN ha pe_non (nomark _)) fun σ H Q ⟨U, B, L, env, R, h⟩ => ?_
  unfold evT evE at h
  simp only [Res.bind_assoc] at h
  refine tI_bindT R h fun x env1 H1 z1 e1 k1 R1 v1 h => ?_
  refine ⟨rfl, _, rfl, ?_⟩
  rw [non_iff v1 (fun i e => by subst e; exact h.elim)]
  match x, v1, h with
  | .va .non, v1, h => exact h H1 .refl rfl R1
  | .va (.bl _), v1, h => exact h H1 .refl rfl R1
  | .va (.int _), v1, h => exact h H1 .refl rfl R1
  | .va (.str _), v1, h => exact h H1 .refl rfl R1
  | .va (.ty _), v1, h => exact h H1 .refl rfl R1
  | .va (.cl _), v1, h => exact h H1 .refl rfl R1
  | .va (.tup _), v1, h => exact h H1 .refl rfl R1
  | .va (.lst _), v1, h => exact h H1 .refl rfl R1
  | .va (.scr _), v1, h => exact h H1 .refl rfl R1
  | .va (.dct _), v1, h => exact h H1 .refl rfl R1
  | .va (.rng _ _), v1, h => exact h H1 .refl rfl R1
  | .ol _, v1, h => exact h H1 .refl rfl R1
  | .od _, v1, h => exact h H1 .refl rfl R1
  | .vw _, v1, h => exact h.elim
theorem i_notN_t {j : Nat} {p' : Pos} (ha : PE X a (tI X.K F ia)) : PT X (.Compare a [.IsNot] [.Constant .none j p'] pos) (tTt X.K F (.e (.isN true ia))) := by
  refine PT_imp (pt_cmpR op_notN ha pe_non (nomark _)) fun σ H Q ⟨U, B, L, env, R, h⟩ => ?_
  unfold evT evE at h
  simp only [Res.bind_assoc] at h
  refine tI_bindT R h fun x env1 H1 z1 e1 k1 R1 v1 h => ?_
  refine ⟨rfl, _, rfl, ?_⟩
  rw [non_iff v1 (fun i e => by subst e; exact h.elim)]
  match x, v1, h with
  | .va .non, v1, h => exact h H1 .refl rfl R1
  | .va (.bl _), v1, h => exact h H1 .refl rfl R1
  | .va (.int _), v1, h => exact h H1 .refl rfl R1
  | .va (.str _), v1, h => exact h H1 .refl rfl R1
  | .va (.ty _), v1, h => exact h H1 .refl rfl R1
  | .va (.cl _), v1, h => exact h H1 .refl rfl R1
  | .va (.tup _), v1, h => exact h H1 .refl rfl R1
  | .va (.lst _), v1, h => exact h H1 .refl rfl R1
  | .va (.scr _), v1, h => exact h H1 .refl rfl R1
  | .va (.dct _), v1, h => exact h H1 .refl rfl R1
  | .va (.rng _ _), v1, h => exact h H1 .refl rfl R1
  | .ol _, v1, h => exact h H1 .refl rfl R1
  | .od _, v1, h => exact h H1 .refl rfl R1
  | .vw _, v1, h => exact h.elim
theorem i_gin_t {x y : Str} {t : List (Key × D)} {g : Addr} {p : Pos} (G : GD X y t g) (hg : Gl X y) (hd : (y == ("__debug__" : Str)) = false) (ha : PE X a (tI X.K F ia)) : PT X (.Compare a [.In] [.Name y p] pos) (tTt X.K F (.e (.gin false x t ia))) := by
  obtain ⟨es, n, D0, hk⟩ := G.kd
  refine PT_imp (pt_cmpR (op_in_kd D0) ha (pe_glob (v := .ref g) hg G.mg rfl hd) rfl) fun σ H Q ⟨U, B, L, env, R, h⟩ => ?_
  unfold evT evE at h
  simp only [Res.bind_assoc] at h
  refine tI_bindT R h fun x env1 H1 z1 e1 k1 R1 v1 h => ?_
  match x, v1, h with
  | .va (.str x), v1, h =>
    cases v1
    obtain ⟨r, h1, h2⟩ := hk x
    exact ⟨_, r, rfl, rfl, h1, _, rfl, by rw [h2]; exact h H1 .refl rfl R1⟩
theorem i_gnin_t {x y : Str} {t : List (Key × D)} {g : Addr} {p : Pos} (G : GD X y t g) (hg : Gl X y) (hd : (y == ("__debug__" : Str)) = false) (ha : PE X a (tI X.K F ia)) : PT X (.Compare a [.NotIn] [.Name y p] pos) (tTt X.K F (.e (.gin true x t ia))) := by
  obtain ⟨es, n, D0, hk⟩ := G.kd
  refine PT_imp (pt_cmpR (op_notIn_kd D0) ha (pe_glob (v := .ref g) hg G.mg rfl hd) rfl) fun σ H Q ⟨U, B, L, env, R, h⟩ => ?_
  unfold evT evE at h
  simp only [Res.bind_assoc] at h
  refine tI_bindT R h fun x env1 H1 z1 e1 k1 R1 v1 h => ?_
  match x, v1, h with
  | .va (.str x), v1, h =>
    cases v1
    obtain ⟨r, h1, h2⟩ := hk x
    exact ⟨_, r, rfl, rfl, h1, _, rfl, by rw [h2]; exact h H1 .refl rfl R1⟩

/-! ### arguments, parts of slices -/
theorem i_nil : PA X [] (tA X.K F .nil) := PA_imp pa_nil fun σ H Q ⟨U, B, L, env, R, h⟩ => h H [] .refl rfl R .nil
theorem i_cons {es : List Expr} {is : IEs} (ha : PE X a (tI X.K F ia)) (h : PA X es (tA X.K F is)) (hs : ∀ x p, a ≠ .Starred x p) : PA X (a :: es) (tA X.K F (.cons ia is)) := by
  refine PA_imp (pa_cons ha h (starEach1 hs _)) fun σ H Q ⟨U, B, L, env, R, h⟩ => ?_
  refine tI_bindA R h fun x env1 H1 z1 e1 k1 R1 v1 h => ?_
  refine tA_bindA R1 h fun xs env2 H2 zs e2 k2 R2 v2 h => ?_
  exact h H2 _ .refl rfl R2 (.cons (v1.step R1 e2).fz v2)
theorem i_no : PO X none (tOo X.K F .no) := PO_imp po_none fun σ H Q ⟨U, B, L, env, R, h⟩ => h H .refl rfl R
theorem i_so (ha : PE X a (tI X.K F ia)) : PO X (some a) (tOo X.K F (.so ia)) := by
  refine PO_imp (po_some ha) fun σ H Q ⟨U, B, L, env, R, h⟩ => ?_
  refine ⟨U, B, L, env, R, ?_⟩
  have h : PostO X.K U B L σ env H Q ((evE F ia env).bind fun p => match p.1 with
    | .va (.int i) => .ok (some i, p.2)
    | _ => .bad) := h
  cases e : evE F ia env with
  | bad => rw [e] at h; exact h
  | ok p =>
    obtain ⟨x, env1⟩ := p
    rw [e] at h
    intro H1 z e1 k1 o
    have v1 := o.vs R
    have R1 := o.er R
    match x, v1, h with
    | .va (.int i), v1, h => cases v1; exact ⟨i, rfl, h H1 e1 k1 R1⟩
end
end DI
end

section
set_option Elab.async false
set_option linter.all false
set_option maxRecDepth 100000
/-! Part 7: own objects changed; calls of defs. -/
namespace DI
open PySem PySem.Spec PyProof.Rows L2

section
variable {K : PySem.W.Frag} {U U' B L W : Addr → Prop} {σ σ' : L2.St} {env env' env1 : Envi} {H H' H1 H2 : Hp}
theorem Step.at {a : Addr} {o : HO} (h : U a) : Step (fun x => x = a) U U H (upd H a o) := ⟨.set rfl, fun x e => by rw [e]; exact h, fun _ z => .inl z⟩
theorem kd_own {s s' : Sl} (h : s'.kd = s.kd) : s'.own = s.own ∧ s'.bor = s.bor := by
  cases s <;> cases s' <;> simp [Sl.kd] at h <;> simp [Sl.own, Sl.bor, h]
theorem SlR.other {a : Addr} {o : HO} {s : Sl} {v : Option (Option V)} (ua : U a) (r : SlR K U B L H s v) (h : s.own = true → v ≠ some (some (.ref a))) : SlR K U B L (upd H a o) s v := by
  have st : Step (fun x => x = a) U U H (upd H a o) := Step.at ua
  cases s with
  | un => trivial
  | va d => obtain ⟨z, e, q⟩ := r; exact ⟨z, e, q.mono st⟩
  | li b ds =>
    obtain ⟨p, vs, e, w, h1, q⟩ := r
    exact ⟨p, vs, e, w, by rw [upd_ne fun z => h rfl (by rw [e, z])]; exact h1, q.mono st⟩
  | di b ds =>
    obtain ⟨p, vs, e, w, h1, q⟩ := r
    exact ⟨p, vs, e, w, by rw [upd_ne fun z => h rfl (by rw [e, z])]; exact h1, q.mono st⟩
theorem sameK_set {i : Nat} {s s' : Sl} (he : env[i]? = some s) (hk : s'.kd = s.kd) : SameK env (env.set i s') := by
  unfold SameK
  apply List.ext_getElem?
  intro j
  rw [List.getElem?_map, List.getElem?_map]
  by_cases e : i = j
  · subst e
    rw [List.getElem?_set_self (List.getElem?_eq_some_iff.mp he).1, he, Option.map_some, Option.map_some, hk]
  · rw [List.getElem?_set_ne e]
/-- an own object's change -/
theorem ER.chg {i : Nat} {s s' : Sl} {a : Addr} {o : HO} (R : ER K U B L env σ H) (he : env[i]? = some s) (hs : s.own = true) (ha : σ[i]? = some (some (.ref a))) (hk : s'.kd = s.kd) (hn : SlR K U B L (upd H a o) s' (σ[i]?)) :
    Ev (Wof B L) H (upd H a o) ∧ ER K U B L (env.set i s') σ (upd H a o) := by
  have wa : Wof B L a := by
    obtain ⟨p, e, w⟩ := (R.sl i s he).addr hs
    rw [ha] at e
    cases e
    exact w
  have ua : U a := wa.elim (R.bu a) (R.lu a)
  have get : ∀ (j : Nat) (t : Sl), (env.set i s')[j]? = some t → (j = i ∧ t = s') ∨ (j ≠ i ∧ env[j]? = some t) := fun j t e => by
    by_cases q : i = j
    · subst q
      rw [List.getElem?_set_self (List.getElem?_eq_some_iff.mp he).1] at e
      exact .inl ⟨rfl, (Option.some.inj e).symm⟩
    · rw [List.getElem?_set_ne q] at e
      exact .inr ⟨fun z => q z.symm, e⟩
  have old : ∀ (j : Nat) (t : Sl), (env.set i s')[j]? = some t → t.own = true → ∃ u, env[j]? = some u ∧ u.own = true := fun j t e w => by
    rcases get j t e with ⟨rfl, rfl⟩ | ⟨_, e⟩
    · exact ⟨s, he, hs⟩
    · exact ⟨t, e, w⟩
  refine ⟨.set wa, by rw [List.length_set]; exact R.len, fun j t e => ?_, fun j k t u p e1 e2 w1 w2 => ?_, R.bu, R.lu, fun p h => upd_more (R.tr p h)⟩
  · rcases get j t e with ⟨rfl, rfl⟩ | ⟨ne, e⟩
    · exact hn
    · exact (R.sl j t e).other ua fun w z => ne (R.dj j i t s a e he w hs z ha)
  · obtain ⟨t', e1', w1'⟩ := old j t e1 w1
    obtain ⟨u', e2', w2'⟩ := old k u e2 w2
    exact R.dj j k t' u' p e1' e2' w1' w2'
/-- a list of its own -/
theorem ER.list {i : Nat} {b : Bool} {xs : List D} {z : V} (R : ER K U B L env σ H) (he : env[i]? = some (.li b xs)) (hz : σ[i]? = some (some z)) : ∃ a vs, z = .ref a ∧ U a ∧ H a = some (.lst vs) ∧ VRs K U H xs vs ∧
    ∀ ys us, VRs K U H ys us → Ev (Wof B L) H (upd H a (.lst us)) ∧ SameK env (env.set i (.li b ys)) ∧ ER K U B L (env.set i (.li b ys)) σ (upd H a (.lst us)) := by
  obtain ⟨a, vs, e, w, h, r⟩ := R.sl i _ he
  rw [hz] at e
  cases e
  have ua : U a := by
    cases b
    · exact R.lu a w
    · exact R.bu a w
  refine ⟨a, vs, rfl, ua, h, r, fun ys us ru => ?_⟩
  obtain ⟨e1, R1⟩ := R.chg (s' := .li b ys) (o := .lst us) he rfl hz rfl ⟨a, us, hz, w, upd_same, ru.mono (Step.at ua)⟩
  exact ⟨e1, sameK_set he rfl, R1⟩
theorem ER.dict {i : Nat} {b : Bool} {xs : List (Key × D)} {z : V} (R : ER K U B L env σ H) (he : env[i]? = some (.di b xs)) (hz : σ[i]? = some (some z)) : ∃ a vs, z = .ref a ∧ U a ∧ H a = some (.dK vs) ∧ VKs K U H xs vs ∧
    ∀ ys us, VKs K U H ys us → Ev (Wof B L) H (upd H a (.dK us)) ∧ SameK env (env.set i (.di b ys)) ∧ ER K U B L (env.set i (.di b ys)) σ (upd H a (.dK us)) := by
  obtain ⟨a, vs, e, w, h, r⟩ := R.sl i _ he
  rw [hz] at e
  cases e
  have ua : U a := by
    cases b
    · exact R.lu a w
    · exact R.bu a w
  refine ⟨a, vs, rfl, ua, h, r, fun ys us ru => ?_⟩
  obtain ⟨e1, R1⟩ := R.chg (s' := .di b ys) (o := .dK us) he rfl hz rfl ⟨a, us, hz, w, upd_same, ru.mono (Step.at ua)⟩
  exact ⟨e1, sameK_set he rfl, R1⟩
end

section
variable {X : Cx} {F : CF} {a b c o : Expr} {ia ib ic io : IE} {pos : Pos}
def noCall : Expr → Bool
  | .Call .. => false
  | _ => true
theorem base_plain {o : Expr} {name : Str} {env : Env} (h : noCall o = true) : attributeBase o name env (eval o env) = eval o env := by
  cases o <;> first | rfl | cases h
theorem few_ok {e : Expr} {es : List Expr} {env : Env} {cpos : Pos} (hs : (e :: es).all unst = true) (hl : (e :: es).length ≤ 20) :
    ((backTo cpos (starEach (e :: es) env)).all (fun x => !x.1) && (backToKw cpos (keywordEach [] env)).all (fun x => x.1.isSome)
      && decide ((e :: es).length + ([] : List Keyword).length + (if ([] : List Keyword).isEmpty then 0 else 1) < 30)) = true := by
  have h1 : (backTo cpos (starEach (e :: es) env)).all (fun x => !x.1) = true := by
    have := plain_args (env := env) hs cpos
    rw [List.any_eq_false] at this
    rw [List.all_eq_true]
    intro x hx
    have := this x hx
    simpa using this
  have h2 : (backToKw cpos (keywordEach [] env)).all (fun x => x.1.isSome) = true := rfl
  rw [h1, h2, Bool.true_and, Bool.true_and]
  apply decide_eq_true
  have : ([] : List Keyword).length + (if ([] : List Keyword).isEmpty = true then 0 else 1) = 0 := rfl
  omega
/-- what a method's reading asks -/
theorem me_list {U : Addr → Prop} {H : Hp} {m : Me} {d : D} {z : V} (h : meTy m d = true) (r : RdV X.K U H d z) : tyV X.K "list" z H := by
  cases d with
  | lst xs => obtain ⟨a, vs, rfl, h1, _⟩ := r.lst; exact .inl ⟨rfl, vs, SqL.of h1⟩
  | _ => cases m <;> cases h
theorem i_append {apos : Pos} {e : Expr} {is : IEs} (ho : PE X o (tI X.K F io)) (ha : PA X [e] (tA X.K F is)) (hb : noCall o = true) (hs : ([e]).all unst = true) (hl : (apos.endLine == pos.line) = true) :
    PE X (.Call (.Attribute o "append" apos) [e] [] pos) (tI X.K F (.me .append io is)) := by
  refine PE_imp (pe_bm PySem.F.plainAttrs_list PySem.F.slot_list_append PySem.F.type_list_append mt_append ho ha (base_plain hb) (few_ok hs (by simp)) hl (starEach1 (nostar (all_cons hs).1) _) rfl) fun σ H Q ⟨U, B, L, env, R, h⟩ => ?_
  refine tI_bind R h fun x env1 H1 z1 e1 k1 R1 v1 h => ?_
  obtain ⟨d0, l0, h⟩ := h.ro
  obtain ⟨l1, h⟩ := h.ifB
  refine ⟨me_list l1 (v1.look R1 l0), ?_⟩
  refine tA_bind R1 h fun xs env2 H2 zs e2 k2 R2 v2 h => ?_
  rw [if_pos (show mutM .append = true from rfl)] at h
  match x, v1, h with
  | .vw i, v1, h =>
    obtain ⟨s, hs, h⟩ := h.ro
    obtain ⟨ds, hd, h⟩ := h.ro
    obtain ⟨r, hr, h⟩ := h.ro
    have hd : dats xs = some ds := hd
    match s, ds, hs, hd, hr with
    | .li b ys, [d], hs, hd, hr =>
      obtain ⟨q1, q2⟩ := if_some hr
      subst q2
      obtain ⟨p, vs, rfl, up, h1, r1, kk⟩ := R2.list hs v1
      have rd := v2.dats hd
      cases rd with
      | cons rd rt =>
        cases rt
        rename_i v
        obtain ⟨e3, k3, R3⟩ := kk (ys ++ [d]) (vs ++ [v]) (r1.append (.cons rd .nil))
        exact ⟨p, vs, v, rfl, rfl, h1, by rw [← r1.length]; exact of_decide_eq_true q1, h _ _ e3 k3 ⟨R3, .non⟩⟩
theorem i_extend {apos : Pos} {e : Expr} {is : IEs} (ho : PE X o (tI X.K F io)) (ha : PA X [e] (tA X.K F is)) (hb : noCall o = true) (hs : ([e]).all unst = true) (hl : (apos.endLine == pos.line) = true) :
    PE X (.Call (.Attribute o "extend" apos) [e] [] pos) (tI X.K F (.me .extend io is)) := by
  refine PE_imp (pe_bm PySem.F.plainAttrs_list PySem.F.slot_list_extend PySem.F.type_list_extend mt_extend ho ha (base_plain hb) (few_ok hs (by simp)) hl (starEach1 (nostar (all_cons hs).1) _) rfl) fun σ H Q ⟨U, B, L, env, R, h⟩ => ?_
  refine tI_bind R h fun x env1 H1 z1 e1 k1 R1 v1 h => ?_
  obtain ⟨d0, l0, h⟩ := h.ro
  obtain ⟨l1, h⟩ := h.ifB
  refine ⟨me_list l1 (v1.look R1 l0), ?_⟩
  refine tA_bind R1 h fun xs env2 H2 zs e2 k2 R2 v2 h => ?_
  rw [if_pos (show mutM .extend = true from rfl)] at h
  match x, v1, h with
  | .vw i, v1, h =>
    obtain ⟨s, hs, h⟩ := h.ro
    obtain ⟨ds, hd, h⟩ := h.ro
    obtain ⟨r, hr, h⟩ := h.ro
    have hd : looks env2 xs = some ds := hd
    match s, ds, hs, hd, hr with
    | .li b ys, [.lst d], hs, hd, hr =>
      obtain ⟨q1, q2⟩ := if_some hr
      subst q2
      obtain ⟨p, vs, rfl, up, h1, r1, kk⟩ := R2.list hs v1
      obtain ⟨v, rfl, rd⟩ := one_v (v2.looks R2 hd)
      obtain ⟨p2, vs2, rfl, h2, r2⟩ := rd.lst
      obtain ⟨e3, k3, R3⟩ := kk (ys ++ d) (vs ++ vs2) (r1.append r2)
      exact ⟨p, p2, vs, vs2, rfl, rfl, h1, h2, by rw [← r1.length, ← r2.length]; exact fits_ok q1, h _ _ e3 k3 ⟨R3, .non⟩⟩
theorem i_popAt {apos : Pos} {e : Expr} {is : IEs} (ho : PE X o (tI X.K F io)) (ha : PA X [e] (tA X.K F is)) (hb : noCall o = true) (hs : ([e]).all unst = true) (hl : (apos.endLine == pos.line) = true) :
    PE X (.Call (.Attribute o "pop" apos) [e] [] pos) (tI X.K F (.me .popAt io is)) := by
  refine PE_imp (pe_bm PySem.F.plainAttrs_list PySem.F.slot_list_pop PySem.F.type_list_pop mt_popAt ho ha (base_plain hb) (few_ok hs (by simp)) hl (starEach1 (nostar (all_cons hs).1) _) rfl) fun σ H Q ⟨U, B, L, env, R, h⟩ => ?_
  refine tI_bind R h fun x env1 H1 z1 e1 k1 R1 v1 h => ?_
  obtain ⟨d0, l0, h⟩ := h.ro
  obtain ⟨l1, h⟩ := h.ifB
  refine ⟨me_list l1 (v1.look R1 l0), ?_⟩
  refine tA_bind R1 h fun xs env2 H2 zs e2 k2 R2 v2 h => ?_
  rw [if_pos (show mutM .popAt = true from rfl)] at h
  match x, v1, h with
  | .vw i, v1, h =>
    obtain ⟨s, hs, h⟩ := h.ro
    obtain ⟨ds, hd, h⟩ := h.ro
    obtain ⟨r, hr, h⟩ := h.ro
    have hd : dats xs = some ds := hd
    match s, ds, hs, hd, hr with
    | .li b ys, [.int n], hs, hd, hr =>
      have hr : (if decide (-(2 ^ 63) ≤ n ∧ n < 2 ^ 63) = true then (ixN ys.length n).bind fun k => (ys[k]?).map fun d => (d, Sl.li b (ys.eraseIdx k)) else none) = some r := hr
      by_cases q1 : decide (-(2 ^ 63) ≤ n ∧ n < 2 ^ 63) = true
      · rw [if_pos q1] at hr
        have q1 := of_decide_eq_true q1
        obtain ⟨k, hk, hr⟩ := Option.bind_eq_some_iff.mp hr
        obtain ⟨d, hd2, rfl⟩ := Option.map_eq_some_iff.mp hr
        obtain ⟨p, vs, rfl, up, h1, r1, kk⟩ := R2.list hs v1
        have rd := v2.dats hd
        cases rd with
        | cons rd rt =>
          cases rt
          cases rd
          obtain ⟨v, hv, rv⟩ := r1.get hd2
          obtain ⟨e3, k3, R3⟩ := kk (ys.eraseIdx k) (vs.eraseIdx k) (r1.eraseIdx k)
          exact ⟨p, vs, n, k, v, rfl, rfl, h1, q1.1, q1.2, by rw [← r1.length]; exact (ixN_seq hk).1, hv, h _ _ e3 k3 ⟨R3, rv.mono (Step.at up)⟩⟩
      · rw [if_neg q1] at hr
        cases hr
theorem i_pop {apos : Pos} (ho : PE X o (tI X.K F io)) (hb : noCall o = true) (hl : (apos.endLine == pos.line) = true) :
    PE X (.Call (.Attribute o "pop" apos) [] [] pos) (tI X.K F (.me .pop io .nil)) := by
  refine PE_imp (pe_bm0 PySem.F.plainAttrs_list PySem.F.slot_list_pop PySem.F.type_list_pop mt_pop ho (base_plain hb) hl) fun σ H Q ⟨U, B, L, env, R, h⟩ => ?_
  refine tI_bind R h fun x env1 H1 z1 e1 k1 R1 v1 h => ?_
  obtain ⟨d0, l0, h⟩ := h.ro
  obtain ⟨l1, h⟩ := h.ifB
  refine ⟨me_list l1 (v1.look R1 l0), ?_⟩
  rw [show evVs F IEs.nil (x, env1).snd = .ok ([], env1) from rfl, Res.ok_bind, if_pos (show mutM .pop = true from rfl)] at h
  match x, v1, h with
  | .vw i, v1, h =>
    obtain ⟨s, hs, h⟩ := h.ro
    obtain ⟨ds, hd, h⟩ := h.ro
    obtain ⟨r, hr, h⟩ := h.ro
    have hd : some [] = some ds := hd
    cases hd
    match s, hs, hr with
    | .li b ys, hs, hr =>
      obtain ⟨d, hd2, rfl⟩ := Option.map_eq_some_iff.mp hr
      obtain ⟨p, vs, rfl, up, h1, r1, kk⟩ := R1.list hs v1
      obtain ⟨v, hv, rv⟩ := r1.get hd2
      have rl : VRs X.K U H1 ys.dropLast vs.dropLast := by
        rw [List.dropLast_eq_take, List.dropLast_eq_take, r1.length]
        exact r1.take _
      obtain ⟨e3, k3, R3⟩ := kk ys.dropLast vs.dropLast rl
      exact ⟨p, vs, v, rfl, rfl, h1, by rw [← r1.length]; exact hv, h _ _ e3 k3 ⟨R3, rv.mono (Step.at up)⟩⟩
theorem i_count {apos : Pos} {e : Expr} {is : IEs} (ho : PE X o (tI X.K F io)) (ha : PA X [e] (tA X.K F is)) (hb : noCall o = true) (hs : ([e]).all unst = true) (hl : (apos.endLine == pos.line) = true) :
    PE X (.Call (.Attribute o "count" apos) [e] [] pos) (tI X.K F (.me .count io is)) := by
  refine PE_imp (pe_bm PySem.F.plainAttrs_list PySem.F.slot_list_count PySem.F.type_list_count mt_lcount ho ha (base_plain hb) (few_ok hs (by simp)) hl (starEach1 (nostar (all_cons hs).1) _) rfl) fun σ H Q ⟨U, B, L, env, R, h⟩ => ?_
  refine tI_bind R h fun x env1 H1 z1 e1 k1 R1 v1 h => ?_
  obtain ⟨d0, l0, h⟩ := h.ro
  obtain ⟨l1, h⟩ := h.ifB
  refine ⟨me_list l1 (v1.look R1 l0), ?_⟩
  refine tA_bind R1 h fun xs env2 H2 zs e2 k2 R2 v2 h => ?_
  rw [if_neg (show ¬ mutM .count = true by decide)] at h
  obtain ⟨ds, hd, h⟩ := h.ro
  obtain ⟨d, l2, h⟩ := h.ro
  obtain ⟨r, hr, h⟩ := h.ro
  match d, ds, l2, hd, hr with
  | .lst ys, [.int k], l2, hd, hr =>
    obtain ⟨ns, hn, rfl⟩ := Option.map_eq_some_iff.mp hr
    obtain ⟨v, rfl, rd⟩ := one_v (v2.looks R2 hd)
    cases rd.int
    obtain ⟨p, vs, rfl, h1, r1⟩ := ((v1.step R1 e2).look R2 l2).lst
    exact ⟨p, ns, k, rfl, rfl, by rw [← r1.intsV hn]; exact SqL.of h1, h.fin R2 new_int⟩
end
end DI
end

section
set_option Elab.async false
set_option linter.all false
set_option maxRecDepth 100000
/-! Part 8: calls of defs. -/
namespace DI
open PySem PySem.Spec PyProof.Rows L2

/-- a promise of a def from which nothing is raised, where no guard stands around -/
abbrev Sg := List V → Hp → VK → Prop
structure FnG (P : Program) (w : World) (K : PySem.W.Frag) (mg : Str → Option Value) (base : Heap) (k : Nat) (f : Addr) (fd : FuncData) (ps : List Str) (sp : Sg) : Prop where
  len : ∀ vs H Q, sp vs H Q → vs.length = ps.length
  run : ∀ (A : Around) (outer : List Env) (s : Shared) (H : Hp) (args : Args) (us : List Value) (vs : List V) (Q : VK), Room k A → A.guards = some [] → Env0 P w K mg base A outer s H → BindsTo s fd args (ps.zip us) → Vals vs us → sp vs H Q →
    codeAny (model P w) A (.call (.ref f) args) (fun r s' => ∃ u, r = .ok (.ret u) ∧ CE outer P w H s Q u s') s

section
variable {X : Cx} {F : CF} {k : Nat} {f : Addr} {fd : FuncData} {ps : List Str} {sp : Sg} {x : Str} {p pos : Pos} {e : Expr} {es : List Expr} {t : TA}
theorem callG (G : FnG X.prog X.w X.K X.mg X.base k f fd ps sp) (hr : Room k X.A) (hgd : X.A.guards = some []) (hb : Binds X.K fd ps []) {pins : List (Addr × Obj)} {σ : L2.St} {H : Hp} {s : Shared} {Q : VK} {us : List Value} {vs : List V} (I : Inv X pins σ H s) (r : Vals vs us) (h : sp vs H Q) :
    wpAny (model X.prog X.w) X.A (call (.ref f) us) (EP X pins σ Q) X.xe s := by
  have hl : us.length = ps.length := by rw [← r.length]; exact G.len vs H Q h
  have bind : BindsTo s fd ⟨us, []⟩ (ps.zip us) := by
    have := hb s us I.kIn (by rw [List.append_nil]; exact hl)
    rw [List.append_nil] at this
    exact this
  exact wpAny_call (codeAny_mono (G.run X.A X.stack s H ⟨us, []⟩ us vs Q hr hgd I.env0 bind r h) fun res s' ⟨u, e, q⟩ => by subst e; exact I.after q)
theorem pe_callG (G : FnG X.prog X.w X.K X.mg X.base k f fd ps sp) (hr : Room k X.A) (hgd : X.A.guards = some []) (hg : Gl X x) (hm : X.mg x = some (.ref f)) (hk : PySem.W.keepIn X.K (.ref f) = true) (hb : Binds X.K fd ps []) (ha : PA X (e :: es) t)
    (hdb : (x == ("__debug__" : Str)) = false) (hs : (e :: es).all unst = true) : PE X (.Call (.Name x p) (e :: es) [] pos) (fun σ H Q => t σ H fun vs H1 => sp vs H1 Q) := by
  refine ⟨fun pins s σ H Q I h => ?_⟩
  have q1 := starEach1 (env := X.env) (nostar (all_cons hs).1) es
  have q2 := plain_args (env := X.env) (all_cons hs).2 pos
  refine wpAny_Call_Name_kw (ld_glob I hg hm ?_ hdb)
  refine PySem.W.callWith_K (h₀ := X.base) I.ok.mod.kin hk ?_ q1 q2
  exact thn (ha.run pos pins s σ H _ I h) fun us s1 ⟨vs, H1, I1, r, q⟩ => ⟨I1.kIn, callG G hr hgd hb I1 r q⟩
end

/-! ### what is lent, and given back -/
section
variable {K : PySem.W.Frag} {U U' B L W : Addr → Prop} {σ σ' : L2.St} {env env' env1 : Envi} {H H' H1 H2 : Hp}
def SameB (args args' : List Sl) : Prop := ∀ (i : Nat) (s : Sl), args[i]? = some s → s.bor = true → ∃ s', args'[i]? = some s' ∧ s'.kd = s.kd
def PostC (K : PySem.W.Frag) (U B : Addr → Prop) (vs : List V) (H : Hp) (Q : VK) (args : List Sl) : Res (Vl × List Sl) → Prop
  | .ok (x, args') => ∀ H' z, Ev B H H' → SameB args args' → (∀ i, x ≠ .vw i) → OutR K U B No (vs.map some) H H' args' x z → Q z H'
  | .bad => False
def spI (K : PySem.W.Frag) (np : Nat) (g : List Sl → Res (Vl × List Sl)) : Sg := fun vs H Q => vs.length = np ∧ ∃ U B args, ER K U B No args (vs.map some) H ∧ PostC K U B vs H Q args (g args)

theorem nodup_ok : ∀ {l : List Nat}, nodupB l = true → l.Nodup
  | [], _ => List.nodup_nil
  | i :: r, h => by
    obtain ⟨h1, h2⟩ := ba2 h
    refine List.nodup_cons.mpr ⟨?_, nodup_ok h2⟩
    intro z
    have : r.contains i = true := List.contains_iff_mem.mpr z
    simp [this] at h1
    exact h1 z
theorem mem_vws : ∀ {xs : List Vl} {k i : Nat}, xs[k]? = some (.vw i) → i ∈ vws xs
  | x :: xs, 0, i, h => by
    have : x = .vw i := by simpa using h
    subst this
    exact List.mem_cons_self ..
  | x :: xs, k + 1, i, h => by
    have := mem_vws (xs := xs) (k := k) (by simpa using h)
    cases x <;> first | exact this | exact List.mem_cons_of_mem _ this
theorem vws_at : ∀ {xs : List Vl} {k l i : Nat}, (vws xs).Nodup → xs[k]? = some (.vw i) → xs[l]? = some (.vw i) → k = l
  | x :: xs, 0, 0, i, _, _, _ => rfl
  | x :: xs, 0, l + 1, i, n, h1, h2 => by
    have e : x = .vw i := by simpa using h1
    subst e
    have := mem_vws (xs := xs) (k := l) (by simpa using h2)
    exact absurd this (List.nodup_cons.mp n).1
  | x :: xs, k + 1, 0, i, n, h1, h2 => by
    have e : x = .vw i := by simpa using h2
    subst e
    have := mem_vws (xs := xs) (k := k) (by simpa using h1)
    exact absurd this (List.nodup_cons.mp n).1
  | x :: xs, k + 1, l + 1, i, n, h1, h2 => by
    have n' : (vws xs).Nodup := by cases x <;> first | exact n | exact (List.nodup_cons.mp n).2
    have ih : k = l := vws_at (xs := xs) (i := i) n' (by simpa using h1) (by simpa using h2)
    rw [ih]
/-- the slot that a value is lent as -/
def slOf (env : Envi) : Vl → Option Sl
  | .va d => some (.va d)
  | .vw i => match env[i]? with
    | some (.li _ ds) => some (.li true ds)
    | some (.di _ kvs) => some (.di true kvs)
    | _ => none
  | _ => none
theorem lend_get : ∀ {xs : List Vl} {args : List Sl}, lend env xs = some args → args.length = xs.length ∧ ∀ (k : Nat) (s : Sl), args[k]? = some s → ∃ x, xs[k]? = some x ∧ slOf env x = some s
  | [], _, h => by cases h; exact ⟨rfl, fun k s e => by simp at e⟩
  | x :: xs, args, h => by
    unfold lend at h
    cases e : lend env xs with
    | none => rw [e] at h; cases h
    | some r =>
      rw [e] at h
      obtain ⟨l1, l2⟩ := lend_get e
      have key : ∃ s, slOf env x = some s ∧ args = s :: r := by
        cases x with
        | va d => cases h; exact ⟨_, rfl, rfl⟩
        | ol _ => cases h
        | od _ => cases h
        | vw i =>
          dsimp only at h
          unfold slOf
          dsimp only
          cases q : env[i]? with
          | none => rw [q] at h; cases h
          | some s =>
            rw [q] at h
            cases s <;> first | (cases h; done) | (cases h; exact ⟨_, rfl, rfl⟩)
      obtain ⟨s, h1, rfl⟩ := key
      refine ⟨by simp [l1], fun k t e => ?_⟩
      cases k with
      | zero =>
        have : s = t := by simpa using e
        subst this
        exact ⟨x, by simp, h1⟩
      | succ k =>
        obtain ⟨y, h2, h3⟩ := l2 k t (by simpa using e)
        exact ⟨y, by simpa using h2, h3⟩
theorem VSs.get : ∀ {xs : List Vl} {zs : List V} {k : Nat} {x : Vl}, VSs K U σ H xs zs → xs[k]? = some x → ∃ z, zs[k]? = some z ∧ VS K U σ H x z
  | _, _, _, _, .nil, e => by simp at e
  | _, _, 0, _, .cons r _, e => by simp at e; subst e; exact ⟨_, rfl, r⟩
  | _, _, k + 1, x, .cons _ t, e => by
    obtain ⟨u, h1, h2⟩ := VSs.get (k := k) (x := x) t (by simpa using e)
    exact ⟨u, by simpa using h1, h2⟩
/-- what is lent -/
def lent (xs : List Vl) (zs : List V) : Addr → Prop := fun a => ∃ (k i : Nat), xs[k]? = some (Vl.vw i) ∧ zs[k]? = some (V.ref a)
theorem slOf_own {x : Vl} {s : Sl} (h : slOf env x = some s) (w : s.own = true) : ∃ i t, x = .vw i ∧ env[i]? = some t ∧ t.own = true ∧ ((∃ b ds, t = .li b ds ∧ s = .li true ds) ∨ ∃ b ds, t = .di b ds ∧ s = .di true ds) := by
  cases x with
  | va d => cases h; cases w
  | ol _ => cases h
  | od _ => cases h
  | vw i =>
    unfold slOf at h
    dsimp only at h
    cases q : env[i]? with
    | none => rw [q] at h; cases h
    | some t =>
      rw [q] at h
      cases t with
      | un => cases h
      | va _ => cases h
      | li b ds => cases h; exact ⟨i, _, rfl, q, rfl, .inl ⟨b, ds, rfl, rfl⟩⟩
      | di b ds => cases h; exact ⟨i, _, rfl, q, rfl, .inr ⟨b, ds, rfl, rfl⟩⟩
theorem lent_own {xs : List Vl} {zs : List V} {args : List Sl} (R : ER K U B L env σ H) (v : VSs K U σ H xs zs) (h : lend env xs = some args) : ∀ a, lent xs zs a → Wof B L a ∨ ∃ (k i : Nat), xs[k]? = some (Vl.vw i) ∧ args[k]? = none := by
  rintro a ⟨k, i, h1, h2⟩
  obtain ⟨l1, l2⟩ := lend_get h
  cases e : args[k]? with
  | none => exact .inr ⟨k, i, h1, e⟩
  | some s =>
    left
    obtain ⟨x, h3, h4⟩ := l2 k s e
    rw [h1] at h3
    cases h3
    have w : s.own = true := by
      unfold slOf at h4
      dsimp only at h4
      cases q : env[i]? with
      | none => rw [q] at h4; cases h4
      | some t => rw [q] at h4; cases t <;> cases h4 <;> rfl
    obtain ⟨j, t, e1, e2, e3, _⟩ := slOf_own h4 w
    cases e1
    obtain ⟨p, e4, w4⟩ := (R.sl i t e2).addr e3
    obtain ⟨z, h5, h6⟩ := v.get h1
    rw [h2] at h5
    cases h5
    have h6 : σ[i]? = some (some (.ref a)) := h6
    rw [h6] at e4
    cases e4
    exact w4
theorem lend_er {xs : List Vl} {zs : List V} {args : List Sl} (R : ER K U B L env σ H) (v : VSs K U σ H xs zs) (n : (vws xs).Nodup) (h : lend env xs = some args) :
    ER K U (lent xs zs) No args (zs.map some) H ∧ ∀ a, lent xs zs a → Wof B L a := by
  obtain ⟨l1, l2⟩ := lend_get h
  have len := v.length
  have lw : ∀ a, lent xs zs a → Wof B L a := fun a q => by
    rcases lent_own R v h a q with q | ⟨k, i, h1, h2⟩
    · exact q
    · have : k < args.length := by rw [l1]; exact (List.getElem?_eq_some_iff.mp h1).1
      rw [List.getElem?_eq_getElem this] at h2
      cases h2
  refine ⟨⟨by rw [l1, List.length_map, len], fun k s e => ?_, fun j k s t a e1 e2 w1 w2 a1 a2 => ?_, fun a q => (lw a q).elim (R.bu a) (R.lu a), fun _ z => z.elim, R.tr⟩, lw⟩
  · obtain ⟨x, h3, h4⟩ := l2 k s e
    obtain ⟨z, h5, h6⟩ := v.get h3
    rw [List.getElem?_map, h5]
    cases x with
    | va d => cases h4; exact ⟨z, rfl, h6⟩
    | ol _ => cases h4
    | od _ => cases h4
    | vw i =>
      have w : s.own = true := by
        unfold slOf at h4
        dsimp only at h4
        cases q : env[i]? with
        | none => rw [q] at h4; cases h4
        | some t => rw [q] at h4; cases t <;> cases h4 <;> rfl
      have h6 : σ[i]? = some (some z) := h6
      obtain ⟨j, t, e1, e2, e3, q⟩ := slOf_own h4 w
      cases e1
      rcases q with ⟨b, ds, rfl, rfl⟩ | ⟨b, ds, rfl, rfl⟩
      · obtain ⟨a, vs, g1, g2, g3, g4⟩ := R.sl i _ e2
        rw [h6] at g1
        cases g1
        exact ⟨a, vs, rfl, ⟨k, i, h3, h5⟩, g3, g4⟩
      · obtain ⟨a, vs, g1, g2, g3, g4⟩ := R.sl i _ e2
        rw [h6] at g1
        cases g1
        exact ⟨a, vs, rfl, ⟨k, i, h3, h5⟩, g3, g4⟩
  · obtain ⟨x, h3, h4⟩ := l2 j s e1
    obtain ⟨y, h5, h6⟩ := l2 k t e2
    obtain ⟨i1, t1, rfl, f1, f2, _⟩ := slOf_own h4 w1
    obtain ⟨i2, t2, rfl, g1, g2, _⟩ := slOf_own h6 w2
    obtain ⟨z1, c1, c2⟩ := v.get h3
    obtain ⟨z2, d1, d2⟩ := v.get h5
    rw [List.getElem?_map, c1] at a1
    rw [List.getElem?_map, d1] at a2
    cases a1
    cases a2
    have c2 : σ[i1]? = some (some (.ref a)) := c2
    have d2 : σ[i2]? = some (some (.ref a)) := d2
    have : i1 = i2 := R.dj i1 i2 t1 t2 a f1 g1 f2 g2 c2 d2
    subst this
    exact vws_at n h3 h5
/-- given back -/
def mrg (s : Sl) (t : Option Sl) : Sl := match s, t with
  | .li _ ds, some (.li b _) => .li b ds
  | .di _ ds, some (.di b _) => .di b ds
  | s, _ => s
theorem back_len : ∀ (xs : List Vl) (r : List Sl), (back env xs r).length = env.length
  | [], _ => rfl
  | .vw i :: xs, s :: r => by
    show ((back env xs r).set i (match s, env[i]? with
    | .li _ ds, some (.li b _) => .li b ds
    | .di _ ds, some (.di b _) => .di b ds
    | s, _ => s)).length = env.length
    rw [List.length_set]; exact back_len xs r
  | .va _ :: xs, s :: r => back_len xs r
  | .ol _ :: xs, s :: r => back_len xs r
  | .od _ :: xs, s :: r => back_len xs r
  | .vw _ :: xs, [] => rfl
  | .va _ :: xs, [] => rfl
  | .ol _ :: xs, [] => rfl
  | .od _ :: xs, [] => rfl
theorem back_out : ∀ (xs : List Vl) (r : List Sl) (j : Nat), j ∉ vws xs → (back env xs r)[j]? = env[j]?
  | [], _, _, _ => rfl
  | .vw i :: xs, s :: r, j, h => by
    have h1 : j ≠ i := fun e => h (by rw [e]; exact List.mem_cons_self ..)
    have h2 : j ∉ vws xs := fun e => h (List.mem_cons_of_mem _ e)
    show ((back env xs r).set i _)[j]? = env[j]?
    rw [List.getElem?_set_ne (Ne.symm h1)]
    exact back_out xs r j h2
  | .va _ :: xs, s :: r, j, h => back_out xs r j h
  | .ol _ :: xs, s :: r, j, h => back_out xs r j h
  | .od _ :: xs, s :: r, j, h => back_out xs r j h
  | .vw _ :: xs, [], _, _ => rfl
  | .va _ :: xs, [], _, _ => rfl
  | .ol _ :: xs, [], _, _ => rfl
  | .od _ :: xs, [], _, _ => rfl
theorem back_in : ∀ (xs : List Vl) (r : List Sl) (k i : Nat) (s : Sl), (vws xs).Nodup → xs[k]? = some (.vw i) → r[k]? = some s → i < env.length → (back env xs r)[i]? = some (mrg s env[i]?)
  | [], _, _, _, _, _, h, _, _ => by simp at h
  | x :: xs, [], _, _, _, _, _, h, _ => by simp at h
  | .vw i :: xs, t :: r, 0, j, s, n, h1, h2, h3 => by
    have e1 : i = j := by simpa using h1
    have e2 : t = s := by simpa using h2
    subst e1; subst e2
    show ((back env xs r).set i _)[i]? = _
    rw [List.getElem?_set_self (by rw [back_len]; exact h3)]
    rfl
  | .vw i :: xs, t :: r, k + 1, j, s, n, h1, h2, h3 => by
    have m := mem_vws (xs := xs) (k := k) (i := j) (by simpa using h1)
    have ne : i ≠ j := fun e => (List.nodup_cons.mp n).1 (e ▸ m)
    show ((back env xs r).set i _)[j]? = _
    rw [List.getElem?_set_ne ne]
    exact back_in xs r k j s (List.nodup_cons.mp n).2 (by simpa using h1) (by simpa using h2) h3
  | .va _ :: xs, t :: r, 0, j, s, n, h1, h2, h3 => by simp at h1
  | .ol _ :: xs, t :: r, 0, j, s, n, h1, h2, h3 => by simp at h1
  | .od _ :: xs, t :: r, 0, j, s, n, h1, h2, h3 => by simp at h1
  | .va _ :: xs, t :: r, k + 1, j, s, n, h1, h2, h3 => back_in xs r k j s n (by simpa using h1) (by simpa using h2) h3
  | .ol _ :: xs, t :: r, k + 1, j, s, n, h1, h2, h3 => back_in xs r k j s n (by simpa using h1) (by simpa using h2) h3
  | .od _ :: xs, t :: r, k + 1, j, s, n, h1, h2, h3 => back_in xs r k j s n (by simpa using h1) (by simpa using h2) h3
theorem vws_mem : ∀ {xs : List Vl} {i : Nat}, i ∈ vws xs → ∃ k : Nat, xs[k]? = some (Vl.vw i)
  | .vw j :: xs, i, h => by
    rcases List.mem_cons.mp h with rfl | h
    · exact ⟨0, rfl⟩
    · obtain ⟨k, e⟩ := vws_mem h; exact ⟨k + 1, by simpa using e⟩
  | .va _ :: xs, i, h => by obtain ⟨k, e⟩ := vws_mem (xs := xs) h; exact ⟨k + 1, by simpa using e⟩
  | .ol _ :: xs, i, h => by obtain ⟨k, e⟩ := vws_mem (xs := xs) h; exact ⟨k + 1, by simpa using e⟩
  | .od _ :: xs, i, h => by obtain ⟨k, e⟩ := vws_mem (xs := xs) h; exact ⟨k + 1, by simpa using e⟩
/-- behind a call -/
theorem back_er {xs : List Vl} {zs : List V} {args args' : List Sl} (R : ER K U B L env σ H) (v : VSs K U σ H xs zs) (n : (vws xs).Nodup) (h : lend env xs = some args) (ev : Ev (lent xs zs) H H') (sb : SameB args args')
    (uu : ∀ a, U' a → U a ∨ H a = none) (ut : ∀ a, U a → U' a) (RA : ER K U' (lent xs zs) No args' (zs.map some) H') : Ev (Wof B L) H H' ∧ SameK env (back env xs args') ∧ ER K U' B L (back env xs args') σ H' := by
  obtain ⟨l1, l2⟩ := lend_get h
  obtain ⟨RL, lw⟩ := lend_er R v n h
  -- each place of the names
  have place : ∀ (j : Nat) (t' : Sl), (back env xs args')[j]? = some t' → (j ∉ vws xs ∧ env[j]? = some t') ∨ ∃ (k : Nat) (s t : Sl) (a : Addr), xs[k]? = some (Vl.vw j) ∧ env[j]? = some t ∧ t.own = true ∧ args'[k]? = some s ∧ σ[j]? = some (some (.ref a)) ∧ zs[k]? = some (.ref a) ∧
      ((∃ b0 b1 b ds, t = .li b b0 ∧ s = .li b1 ds ∧ t' = .li b ds) ∨ ∃ b0 b1 b ds, t = .di b b0 ∧ s = .di b1 ds ∧ t' = .di b ds) := fun j t' e => by
    by_cases m : j ∈ vws xs
    · right
      obtain ⟨k, hk⟩ := vws_mem m
      have hk' : k < args.length := by rw [l1]; exact (List.getElem?_eq_some_iff.mp hk).1
      obtain ⟨y, h3, h4⟩ := l2 k _ (List.getElem?_eq_getElem hk')
      rw [hk] at h3
      cases h3
      have w : (args[k]).own = true := by
        unfold slOf at h4
        dsimp only at h4
        cases q : env[j]? with
        | none => rw [q] at h4; cases h4
        | some t =>
          rw [q] at h4
          cases t with
          | un => cases h4
          | va _ => cases h4
          | li b ds => rw [← Option.some.inj h4]; rfl
          | di b ds => rw [← Option.some.inj h4]; rfl
      obtain ⟨i, t, e1, e2, e3, q⟩ := slOf_own h4 w
      cases e1
      have jl : j < env.length := (List.getElem?_eq_some_iff.mp e2).1
      have wb : (args[k]).bor = true := by rcases q with ⟨_, _, _, z⟩ | ⟨_, _, _, z⟩ <;> rw [z] <;> rfl
      obtain ⟨s', g1, g2⟩ := sb k _ (List.getElem?_eq_getElem hk') wb
      have bi := back_in (env := env) xs args' k j s' n hk g1 jl
      rw [e, e2] at bi
      obtain ⟨z, h5, h6⟩ := v.get hk
      obtain ⟨a, e4, _⟩ := (R.sl j t e2).addr e3
      have h6 : σ[j]? = some (some z) := h6
      rw [h6] at e4
      cases e4
      refine ⟨k, s', t, a, hk, e2, e3, g1, h6, h5, ?_⟩
      rcases q with ⟨b, ds, rfl, z⟩ | ⟨b, ds, rfl, z⟩
      · rw [z] at g2
        cases s' with
        | li b1 ds' => cases bi; exact .inl ⟨_, _, _, _, rfl, rfl, rfl⟩
        | _ => cases g2
      · rw [z] at g2
        cases s' with
        | di b1 ds' => cases bi; exact .inr ⟨_, _, _, _, rfl, rfl, rfl⟩
        | _ => cases g2
    · exact .inl ⟨m, by rw [← back_out xs args' j m]; exact e⟩
  have ev' : Ev (Wof B L) H H' := ev.mono lw
  have same : SameK env (back env xs args') := by
    unfold SameK
    apply List.ext_getElem?
    intro j
    rw [List.getElem?_map, List.getElem?_map]
    cases e : (back env xs args')[j]? with
    | none =>
      have : env.length ≤ j := by rw [← back_len xs args']; exact List.getElem?_eq_none_iff.mp e
      rw [List.getElem?_eq_none_iff.mpr this]
    | some t' =>
      rcases place j t' e with ⟨_, e2⟩ | ⟨k, s, t, a, _, e2, _, _, _, _, q⟩
      · rw [e2]
      · rw [e2]
        rcases q with ⟨_, _, b, ds, rfl, _, rfl⟩ | ⟨_, _, b, ds, rfl, _, rfl⟩ <;> rfl
  refine ⟨ev', same, by rw [back_len]; exact R.len, fun j t' e => ?_, fun j k s t a e1 e2 w1 w2 a1 a2 => ?_, fun a q => ut a (R.bu a q), fun a q => ut a (R.lu a q), RA.tr⟩
  · rcases place j t' e with ⟨m, e2⟩ | ⟨k, s, t, a, hk, e2, e3, g1, h6, h5, q⟩
    · -- not lent
      have r := R.sl j t' e2
      have st : Step (lent xs zs) U U' H H' := ⟨ev, fun a q => (lw a q).elim (R.bu a) (R.lu a), uu⟩
      cases t' with
      | un => trivial
      | va d => obtain ⟨z, c1, c2⟩ := r; exact ⟨z, c1, c2.mono st⟩
      | li b ds =>
        obtain ⟨p, vs, c1, c2, c3, c4⟩ := r
        refine ⟨p, vs, c1, c2, ev.keep _ _ c3 fun ⟨k, i, z1, z2⟩ => m ?_, c4.mono st⟩
        obtain ⟨z, z3, z4⟩ := v.get z1
        rw [z2] at z3
        cases z3
        have hk' : k < args.length := by rw [l1]; exact (List.getElem?_eq_some_iff.mp z1).1
        obtain ⟨y, z5, z6⟩ := l2 k _ (List.getElem?_eq_getElem hk')
        rw [z1] at z5
        cases z5
        have : ∃ t, env[i]? = some t ∧ t.own = true := by
          unfold slOf at z6
          dsimp only at z6
          cases q : env[i]? with
          | none => rw [q] at z6; cases z6
          | some t => rw [q] at z6; cases t <;> first | (cases z6; done) | exact ⟨_, rfl, rfl⟩
        obtain ⟨t, z7, z8⟩ := this
        rw [R.dj j i _ t p e2 z7 rfl z8 c1 z4]
        exact mem_vws z1
      | di b ds =>
        obtain ⟨p, vs, c1, c2, c3, c4⟩ := r
        refine ⟨p, vs, c1, c2, ev.keep _ _ c3 fun ⟨k, i, z1, z2⟩ => m ?_, c4.mono st⟩
        obtain ⟨z, z3, z4⟩ := v.get z1
        rw [z2] at z3
        cases z3
        have hk' : k < args.length := by rw [l1]; exact (List.getElem?_eq_some_iff.mp z1).1
        obtain ⟨y, z5, z6⟩ := l2 k _ (List.getElem?_eq_getElem hk')
        rw [z1] at z5
        cases z5
        have : ∃ t, env[i]? = some t ∧ t.own = true := by
          unfold slOf at z6
          dsimp only at z6
          cases q : env[i]? with
          | none => rw [q] at z6; cases z6
          | some t => rw [q] at z6; cases t <;> first | (cases z6; done) | exact ⟨_, rfl, rfl⟩
        obtain ⟨t, z7, z8⟩ := this
        rw [R.dj j i _ t p e2 z7 rfl z8 c1 z4]
        exact mem_vws z1
    · -- lent
      have r0 := R.sl j t e2
      have r1 := RA.sl k s g1
      rw [List.getElem?_map, h5] at r1
      rcases q with ⟨b0, b1, b, ds, rfl, rfl, rfl⟩ | ⟨b0, b1, b, ds, rfl, rfl, rfl⟩
      · obtain ⟨p, vs, c1, c2, c3, c4⟩ := r0
        obtain ⟨p', vs', d1, d2, d3, d4⟩ := r1
        rw [h6] at c1
        cases c1
        cases d1
        exact ⟨a, vs', h6, c2, d3, d4⟩
      · obtain ⟨p, vs, c1, c2, c3, c4⟩ := r0
        obtain ⟨p', vs', d1, d2, d3, d4⟩ := r1
        rw [h6] at c1
        cases c1
        cases d1
        exact ⟨a, vs', h6, c2, d3, d4⟩
  · have old : ∀ (j : Nat) (t' : Sl), (back env xs args')[j]? = some t' → t'.own = true → ∃ t, env[j]? = some t ∧ t.own = true := fun j t' e w => by
      rcases place j t' e with ⟨_, e2⟩ | ⟨k, s, t, a, _, e2, e3, _⟩
      · exact ⟨t', e2, w⟩
      · exact ⟨t, e2, e3⟩
    obtain ⟨s', c1, c2⟩ := old j s e1 w1
    obtain ⟨t', d1, d2⟩ := old k t e2 w2
    exact R.dj j k s' t' a c1 d1 c2 d2 a1 a2
end

section
variable {X : Cx} {F : CF} {k : Nat} {f : Addr} {fd : FuncData} {ps : List Str} {x : Str} {p pos : Pos} {e : Expr} {es : List Expr} {is : IEs} {n : Nat}
theorem i_call (G : FnG X.prog X.w X.K X.mg X.base k f fd ps (spI X.K ps.length (F n))) (hr : Room k X.A) (hgd : X.A.guards = some []) (hg : Gl X x) (hm : X.mg x = some (.ref f)) (hk : PySem.W.keepIn X.K (.ref f) = true) (hb : Binds X.K fd ps []) (ha : PA X (e :: es) (tA X.K F is))
    (hdb : (x == ("__debug__" : Str)) = false) (hs : (e :: es).all unst = true) (hl : ∀ env r, evVs F is env = .ok r → r.1.length = ps.length) : PE X (.Call (.Name x p) (e :: es) [] pos) (tI X.K F (.call n is)) := by
  refine PE_imp (pe_callG G hr hgd hg hm hk hb ha hdb hs) fun σ H Q ⟨U, B, L, env, R, h⟩ => ?_
  have hlen := hl env
  refine ⟨U, B, L, env, R, ?_⟩
  have h : PostE X.K U B L σ env H Q ((evVs F is env).bind fun p => if nodupB (vws p.1) = true then (ro (lend p.2 p.1)).bind fun args => (F n args).bind fun r => .ok (r.1, back p.2 p.1 r.2) else .bad) := h
  cases q : evVs F is env with
  | bad => rw [q] at h; exact h
  | ok r =>
    obtain ⟨xs, env1⟩ := r
    rw [q] at h
    intro H1 zs e1 k1 R1 v1
    have h := h.step e1 k1
    obtain ⟨l1, h⟩ := h.ifB
    obtain ⟨args, l2, h⟩ := h.ro
    obtain ⟨RL, lw⟩ := lend_er R1 v1 (nodup_ok l1) l2
    refine ⟨by rw [← v1.length]; exact hlen _ q, U, lent xs zs, args, RL, ?_⟩
    cases q2 : F n args with
    | bad => rw [q2] at h; exact h
    | ok r =>
      obtain ⟨y, args'⟩ := r
      rw [q2] at h
      intro H' z ev sb nv o
      cases y with
      | va d =>
        obtain ⟨RA, rv⟩ := o
        obtain ⟨e2, k2, R2⟩ := back_er R1 v1 (nodup_ok l1) l2 ev sb (fun _ z => .inl z) (fun _ z => z) RA
        exact h H' z e2 k2 ⟨R2, rv⟩
      | ol ds =>
        obtain ⟨a, vs, rfl, h1, h2, RA, rv⟩ := o
        obtain ⟨e2, k2, R2⟩ := back_er R1 v1 (nodup_ok l1) l2 ev sb (fun b z => z.imp id fun z => by rw [z]; exact h1) (fun _ z => .inl z) RA
        exact h H' _ e2 k2 ⟨a, vs, rfl, h1, h2, R2, rv⟩
      | od ds =>
        obtain ⟨a, vs, rfl, h1, h2, RA, rv⟩ := o
        obtain ⟨e2, k2, R2⟩ := back_er R1 v1 (nodup_ok l1) l2 ev sb (fun b z => z.imp id fun z => by rw [z]; exact h1) (fun _ z => .inl z) RA
        exact h H' _ e2 k2 ⟨a, vs, rfl, h1, h2, R2, rv⟩
      | vw i => exact absurd rfl (nv i)
end
end DI
end

section
set_option Elab.async false
set_option linter.all false
set_option maxRecDepth 100000
/-! Part 9: targets. -/
namespace DI
open PySem PySem.Spec PyProof.Rows L2

/-- lent names stay -/
structure KB (env : Envi) (σ : L2.St) (env' : Envi) (σ' : L2.St) : Prop where
  len : env'.length = env.length
  b : ∀ i, bor env' i = bor env i
  k : ∀ i, bor env i = true → σ'[i]? = σ[i]? ∧ (env'[i]?).map Sl.kd = (env[i]?).map Sl.kd
theorem bor_kd {env env' : Envi} {i : Nat} (h : (env'[i]?).map Sl.kd = (env[i]?).map Sl.kd) : bor env' i = bor env i := by
  unfold bor
  cases e1 : env'[i]? with
  | none => cases e2 : env[i]? with
    | none => rfl
    | some t => rw [e1, e2] at h; cases h
  | some s => cases e2 : env[i]? with
    | none => rw [e1, e2] at h; cases h
    | some t => rw [e1, e2] at h; exact (kd_own (Option.some.inj h)).2
theorem SameK.at {env env' : Envi} (h : SameK env env') (i : Nat) : (env'[i]?).map Sl.kd = (env[i]?).map Sl.kd := by
  have := congrArg (fun l => l[i]?) h
  simpa using this
theorem SameK.kb {env env' : Envi} {σ : L2.St} (h : SameK env env') : KB env σ env' σ :=
  ⟨by have := congrArg List.length h; simpa using this, fun i => bor_kd (h.at i), fun i _ => ⟨rfl, h.at i⟩⟩
theorem KB.trans {a b c : Envi} {σ τ ρ : L2.St} (h : KB a σ b τ) (g : KB b τ c ρ) : KB a σ c ρ :=
  ⟨g.len.trans h.len, fun i => (g.b i).trans (h.b i), fun i q => by
    have q1 := h.k i q
    have q2 := g.k i (by rw [h.b i]; exact q)
    exact ⟨q2.1.trans q1.1, q2.2.trans q1.2⟩⟩

section
variable {K : PySem.W.Frag} {U U' B L W : Addr → Prop} {σ σ' : L2.St} {env env' env1 : Envi} {H H' H1 H2 : Hp}
theorem get_set {α : Type} {l : List α} {i j : Nat} {x y : α} (h : (l.set i x)[j]? = some y) : (j = i ∧ y = x) ∨ (j ≠ i ∧ l[j]? = some y) := by
  by_cases e : i = j
  · subst e
    by_cases q : i < l.length
    · rw [List.getElem?_set_self q] at h
      exact .inl ⟨rfl, (Option.some.inj h).symm⟩
    · rw [List.getElem?_eq_none (by rw [List.length_set]; omega)] at h
      cases h
  · rw [List.getElem?_set_ne e] at h
    exact .inr ⟨fun z => e z.symm, h⟩
/-- a name is stored -/
theorem ER.sto {i : Nat} {s : Sl} {v : V} (R : ER K U B L env σ H) (hi : i < env.length) (hs : SlR K U B L H s (some (some v))) (hd : s.own = true → ∀ (j : Nat) (t : Sl), env[j]? = some t → t.own = true → σ[j]? = some (some v) → j = i) : ER K U B L (env.set i s) (σ.set i (some v)) H := by
  have hi' : i < σ.length := by rw [← R.len]; exact hi
  refine ⟨by rw [List.length_set, List.length_set]; exact R.len, fun j t e => ?_, fun j k t u a e1 e2 w1 w2 a1 a2 => ?_, R.bu, R.lu, R.tr⟩
  · rcases get_set e with ⟨rfl, rfl⟩ | ⟨ne, e⟩
    · rw [List.getElem?_set_self hi']; exact hs
    · rw [List.getElem?_set_ne (Ne.symm ne)]; exact R.sl j t e
  · rcases get_set e1 with ⟨rfl, rfl⟩ | ⟨n1, e1⟩
    · rcases get_set e2 with ⟨rfl, rfl⟩ | ⟨n2, e2⟩
      · rfl
      · rw [List.getElem?_set_self hi'] at a1
        cases a1
        rw [List.getElem?_set_ne (Ne.symm n2)] at a2
        exact (hd w1 k u e2 w2 a2).symm
    · rw [List.getElem?_set_ne (Ne.symm n1)] at a1
      rcases get_set e2 with ⟨rfl, rfl⟩ | ⟨n2, e2⟩
      · rw [List.getElem?_set_self hi'] at a2
        cases a2
        exact hd w2 j t (by assumption) w1 a1
      · rw [List.getElem?_set_ne (Ne.symm n2)] at a2
        exact R.dj j k t u a e1 e2 w1 w2 a1 a2
theorem kb_set {i : Nat} {s : Sl} {v : V} (h : bor env i = false) (hs : s.bor = false) : KB env σ (env.set i s) (σ.set i (some v)) := by
  have nb : ∀ j, j ≠ i → (env.set i s)[j]? = env[j]? := fun j e => List.getElem?_set_ne (Ne.symm e)
  refine ⟨List.length_set, fun j => ?_, fun j q => ?_⟩
  · by_cases e : j = i
    · subst e
      rw [h]
      unfold bor
      cases q : (env.set j s)[j]? with
      | none => rfl
      | some t =>
        rcases get_set q with ⟨_, rfl⟩ | ⟨ne, _⟩
        · exact hs
        · exact absurd rfl ne
    · unfold bor
      rw [nb j e]
  · have e : j ≠ i := fun e => by subst e; rw [h] at q; cases q
    rw [nb j e, List.getElem?_set_ne (Ne.symm e)]
    exact ⟨rfl, rfl⟩
theorem sto_ok {i : Nat} {s : Sl} {env' : Envi} (h : sto env i s = .ok env') : bor env i = false ∧ i < env.length ∧ env' = env.set i s := by
  unfold sto at h
  by_cases c : (bor env i || decide (env.length ≤ i)) = true
  · rw [if_pos c] at h; cases h
  · rw [if_neg c] at h
    cases h
    simp at c
    exact ⟨c.1, c.2, rfl⟩

def PostG (K : PySem.W.Frag) (U B L : Addr → Prop) (σ : L2.St) (env : Envi) (H : Hp) (N : List Nat) (Q : L2.St → Hp → Prop) : Res Envi → Prop
  | .ok env' => ∀ H' σ', Ev (Wof B L) H H' → KB env σ env' σ' → (∀ i, i ∉ N → σ'[i]? = σ[i]? ∧ (env'[i]?).map Sl.kd = (env[i]?).map Sl.kd) → ER K U B L env' σ' H' → Q σ' H'
  | .bad => False
mutual
def tgN : ITg → List Nat
  | .nm i => [i]
  | .tup ts => tgNs ts
  | .sub _ _ => []
def tgNs : ITgs → List Nat
  | .nil => []
  | .cons t ts => tgN t ++ tgNs ts
end
def lenT : ITgs → Nat
  | .nil => 0
  | .cons _ ts => lenT ts + 1
def gI (K : PySem.W.Frag) (F : CF) (t : ITg) : TG := fun v σ H Q => ∃ U B L env d, ER K U B L env σ H ∧ VR K U H d v ∧ PostG K U B L σ env H (tgN t) Q (asgT F t d env)
def gIs (K : PySem.W.Frag) (F : CF) (ts : ITgs) : TGs := fun vs σ H Q => ∃ U B L env ds, ER K U B L env σ H ∧ VRs K U H ds vs ∧ PostG K U B L σ env H (tgNs ts) Q (asgTs F ts ds env)
theorem PostG.step {N N' : List Nat} {Q : L2.St → Hp → Prop} {r : Res Envi} (h : PostG K U B L σ env H N Q r) (e : Ev (Wof B L) H H1) (k : KB env σ env1 σ') (ks : ∀ i, i ∉ N → σ'[i]? = σ[i]? ∧ (env1[i]?).map Sl.kd = (env[i]?).map Sl.kd) (hN : ∀ i, i ∈ N' → i ∈ N) : PostG K U B L σ' env1 H1 N' Q r := by
  cases r with
  | bad => exact h
  | ok env2 => exact fun H' σ2 e' k' ks' R => h H' σ2 (e.trans e') (k.trans k') (fun i hi => ⟨(ks' i fun z => hi (hN i z)).1.trans (ks i hi).1, (ks' i fun z => hi (hN i z)).2.trans (ks i hi).2⟩) R
theorem PGi {X : Cx} {tg : Expr} {t t' : TG} (h : PG X tg t) (i : ∀ v σ H Q, t' v σ H Q → t v σ H Q) : PG X tg t' := ⟨fun pins s σ H v u Q I r q => h.run pins s σ H v u Q I r (i _ _ _ _ q)⟩
theorem PGsi {X : Cx} {tg : List Expr} {t t' : TGs} (h : PGs X tg t) (i : ∀ v σ H Q, t' v σ H Q → t v σ H Q) : PGs X tg t' := ⟨fun pins s σ H v u Q I r q => h.run pins s σ H v u Q I r (i _ _ _ _ q)⟩
end

section
variable {X : Cx} {F : CF} {x : Str} {pos : Pos} {o ie e : Expr} {es : List Expr} {io ii : IE}
theorem g_name {i : Nat} (hN : X.N.Nodup) (hi : X.N[i]? = some x) (hx : Loc X.env.scope x) (hf : X.fn x = true ∨ X.env.scope.names.lookup x = some .local) : PG X (.Name x pos) (gI X.K F (.nm i)) := by
  refine PGi (pg_name hN hi hx hf) fun v σ H Q ⟨U, B, L, env, d, R, r, h⟩ => ?_
  have h : PostG X.K U B L σ env H [i] Q (sto env i (.va d)) := h
  cases e : sto env i (.va d) with
  | bad => rw [e] at h; exact h.elim
  | ok env' =>
    rw [e] at h
    obtain ⟨h1, h2, rfl⟩ := sto_ok e
    refine h H _ .refl (kb_set h1 rfl) (fun j hj => ?_) (R.sto h2 ⟨v, rfl, r⟩ fun z => nomatch z)
    have ne : i ≠ j := fun z => hj (by rw [z]; exact List.mem_singleton.mpr rfl)
    rw [List.getElem?_set_ne ne, List.getElem?_set_ne ne]
    exact ⟨rfl, rfl⟩
theorem gs_nil : PGs X [] (gIs X.K F .nil) := by
  refine PGsi pgs_nil fun vs σ H Q ⟨U, B, L, env, ds, R, r, h⟩ => ?_
  cases r with
  | nil => exact ⟨rfl, h H σ .refl (SameK.kb rfl) (fun _ _ => ⟨rfl, rfl⟩) R⟩
  | cons _ _ => exact h.elim
theorem asgEach1 (h : unst e = true) (env : Env) : (assignEach (e :: es) env).map (·.2) = assign e env :: (assignEach es env).map (·.2) := by
  cases e <;> first | rfl | cases h
theorem gs_cons {t : ITg} {ts : ITgs} (h1 : PG X e (gI X.K F t)) (h2 : PGs X es (gIs X.K F ts)) (hs : unst e = true) : PGs X (e :: es) (gIs X.K F (.cons t ts)) := by
  refine PGsi (pgs_cons h1 h2 (asgEach1 hs _)) fun vs σ H Q ⟨U, B, L, env, ds, R, r, h⟩ => ?_
  cases r with
  | nil => exact h.elim
  | @cons d v ds vs r rs =>
    refine ⟨v, vs, rfl, U, B, L, env, d, R, r, ?_⟩
    have h : PostG X.K U B L σ env H (tgN t ++ tgNs ts) Q ((asgT F t d env).bind fun env1 => asgTs F ts ds env1) := h
    cases q : asgT F t d env with
    | bad => rw [q] at h; exact h
    | ok env1 =>
      rw [q] at h
      intro H' σ' e1 k1 ks R1
      refine ⟨U, B, L, env1, ds, R1, rs.mono (R.step e1), h.step e1 k1 (fun i hi => ks i fun z => hi (List.mem_append_left _ z)) fun i z => List.mem_append_right _ z⟩
theorem asgTs_len {F : CF} : ∀ {ts : ITgs} {ds : List D} {env : Envi}, asgTs F ts ds env ≠ .bad → ds.length = lenT ts
  | .nil, [], _, _ => rfl
  | .nil, _ :: _, _, h => absurd rfl h
  | .cons _ _, [], _, h => absurd rfl h
  | .cons t ts, d :: ds, env, h => by
    have h : ((asgT F t d env).bind fun env1 => asgTs F ts ds env1) ≠ .bad := h
    cases q : asgT F t d env with
    | bad => rw [q] at h; exact absurd rfl h
    | ok env1 =>
      rw [q] at h
      show ds.length + 1 = lenT ts + 1
      rw [asgTs_len h]
theorem each_len (env : Env) : ∀ es : List Expr, (assignEach es env).length = es.length
  | [] => rfl
  | e :: es => by cases e <;> exact congrArg (· + 1) (each_len env es)
theorem each_un (env : Env) : ∀ {es : List Expr}, es.all unst = true → (assignEach es env).findIdx? (·.1) = none
  | [], _ => rfl
  | e :: es, h => by
    obtain ⟨h1, h2⟩ := all_cons h
    have ih := each_un env h2
    cases e <;> first | (cases h1; done) | (show List.findIdx? _ ((false, _) :: _) = none; rw [List.findIdx?_cons]; simp [ih])
theorem g_tup {k : Nat} {ts : ITgs} (hc : X.calm = true) (h : PGs X es (gIs X.K F ts)) (hl : es.length = lenT ts) (hs : es.all unst = true) : PG X (.Tuple es k pos) (gI X.K F (.tup ts)) := by
  refine PGi (pg_tup (n := lenT ts) hc h (by rw [each_len, hl]) (each_un _ hs)) fun v σ H Q ⟨U, B, L, env, d, R, r, h⟩ => ?_
  cases d with
  | tup ds =>
    have h : PostG X.K U B L σ env H (tgNs ts) Q (asgTs F ts ds env) := h
    cases r with
    | @tup a vs _ h1 r =>
      refine ⟨a, vs, rfl, sqt_of h1, ?_, U, B, L, env, ds, R, r, h⟩
      rw [← r.length]
      refine asgTs_len (F := F) (env := env) fun z => ?_
      rw [z] at h
      exact h
  | _ => exact h.elim
def rSet : TSet := fun o i v H Q => rSetL o i v H Q ∨ rSetD o i v H Q
theorem set_data (hu : X.A.units + 1 < cLine) : PSet X rSet := fun pins s σ H o i v ov iv u Q I ro ri rv h => h.elim (set_list pins s σ H o i v ov iv u Q I ro ri rv) (set_dict hu pins s σ H o i v ov iv u Q I ro ri rv)
def notSl : Expr → Bool
  | .Slice .. => false
  | _ => true
theorem asg_sub (h : notSl ie = true) (env : Env) (v : Value) : assign (.Subscript o ie pos) env v = (do
      let ov ← holding [v] (eval o env)
      let iv ← holding [v, ov] (eval ie env)
      standAt pos
      holding [v, ov, iv] (setItem ov iv v)
      release [v, ov, iv] []) := by
  cases ie <;> first | rfl | cases h
theorem anyE {K : PySem.W.Frag} {U : Addr → Prop} {H : Hp} {k : Key} : ∀ {kvs : List (Key × D)} {us : List (Key × V)}, VKs K U H kvs us → (kvs.any fun p => decide (p.1 = k)) = us.any fun p => decide (p.1 = k)
  | _, _, .nil => rfl
  | _, _, .cons _ t => by rw [List.any_cons, List.any_cons, anyE t]
theorem mapE {K : PySem.W.Frag} {U : Addr → Prop} {H : Hp} {k : Key} {d : D} {v : V} (r : VR K U H d v) : ∀ {kvs : List (Key × D)} {us : List (Key × V)}, VKs K U H kvs us → VKs K U H (kvs.map fun p => if p.1 = k then (p.1, d) else p) (us.map fun p => if p.1 = k then (p.1, v) else p)
  | _, _, .nil => .nil
  | (j, _) :: _, _, .cons r0 t => by
    rw [List.map_cons, List.map_cons]
    by_cases e : j = k
    · rw [if_pos e, if_pos e]; exact .cons r (mapE r t)
    · rw [if_neg e, if_neg e]; exact .cons r0 (mapE r t)
theorem appE {K : PySem.W.Frag} {U : Addr → Prop} {H : Hp} {k : Key} {d : D} {v : V} (r : VR K U H d v) : ∀ {kvs : List (Key × D)} {us : List (Key × V)}, VKs K U H kvs us → VKs K U H (kvs ++ [(k, d)]) (us ++ [(k, v)])
  | _, _, .nil => .cons r .nil
  | _, _, .cons r0 t => .cons r0 (appE r t)
theorem VKs.put {K : PySem.W.Frag} {U : Addr → Prop} {H : Hp} {k : Key} {d : D} {v : V} (r : VR K U H d v) {kvs : List (Key × D)} {us : List (Key × V)} (h : VKs K U H kvs us) : VKs K U H (kput kvs k d) (putK us k v) := by
  unfold kput putK
  rw [anyE h]
  split
  · exact mapE r h
  · exact appE r h
theorem PostG.ro {K : PySem.W.Frag} {U B L : Addr → Prop} {σ : L2.St} {env : Envi} {H : Hp} {N : List Nat} {Q : L2.St → Hp → Prop} {α : Type} {o : Option α} {k : α → Res Envi} (h : PostG K U B L σ env H N Q ((ro o).bind k)) : ∃ a, o = some a ∧ PostG K U B L σ env H N Q (k a) := by
  cases o with
  | none => exact h.elim
  | some a => exact ⟨a, rfl, h⟩
theorem tI_bindG {K : PySem.W.Frag} {U B L : Addr → Prop} {σ : L2.St} {env : Envi} {H : Hp} {N : List Nat} {F : CF} {a : IE} {Q : L2.St → Hp → Prop} {k : Vl × Envi → Res Envi} {T : VK} (R : ER K U B L env σ H) (h : PostG K U B L σ env H N Q ((evE F a env).bind k))
    (hk : ∀ x env1 H1 z, Ev (Wof B L) H H1 → SameK env env1 → ER K U B L env1 σ H1 → VS K U σ H1 x z → PostG K U B L σ env1 H1 N Q (k (x, env1)) → T z H1) : tI K F a σ H T := by
  refine ⟨U, B, L, env, R, ?_⟩
  cases e : evE F a env with
  | bad => rw [e] at h; exact h
  | ok p =>
    obtain ⟨x, env1⟩ := p
    rw [e] at h
    exact fun H1 z e1 k1 o => hk x env1 H1 z e1 k1 (o.er R) (o.vs R) (h.step e1 (SameK.kb k1) (fun i _ => ⟨rfl, k1.at i⟩) fun _ z => z)
theorem g_sub (hu : X.A.units + 1 < cLine) (ho : PE X o (tI X.K F io)) (hi : PE X ie (tI X.K F ii)) (hs : notSl ie = true) : PG X (.Subscript o ie pos) (gI X.K F (.sub io ii)) := by
  refine PGi (pg_sub ho hi (set_data hu) (asg_sub hs _)) fun v σ H Q ⟨U, B, L, env, d, R, r, h⟩ => ?_
  unfold asgT at h
  refine tI_bindG R h fun x env1 H1 z1 e1 k1 R1 v1 h => ?_
  refine tI_bindG R1 h fun y env2 H2 z2 e2 k2 R2 v2 h => ?_
  obtain ⟨k, l1, h⟩ := h.ro
  have r2 := (r.mono (R.step e1)).mono (R1.step e2)
  match x, v1, h with
  | .vw i, v1, h =>
    unfold chg at h
    dsimp only at h
    cases q : env2[i]? with
    | none => rw [q] at h; exact h.elim
    | some s =>
      rw [q] at h
      obtain ⟨s', l2, h⟩ := h.ro
      have rk := v2.dat l1
      have fin : ∀ {s s' : Sl}, env2[i]? = some s → s'.kd = s.kd → ∀ H3, Ev (Wof B L) H2 H3 → ER X.K U B L (env2.set i s') σ H3 → PostG X.K U B L σ env2 H2 (tgN (.sub io ii)) Q (.ok (env2.set i s')) → Q σ H3 := fun hq hk H3 e3 R3 h =>
        h H3 σ e3 (SameK.kb (sameK_set hq hk)) (fun j _ => ⟨rfl, (sameK_set hq hk).at j⟩) R3
      cases s with
      | li b xs =>
        match k, l2, rk with
        | .int n, l2, rk =>
          obtain ⟨m, hm, rfl⟩ := Option.map_eq_some_iff.mp l2
          cases rk
          obtain ⟨a, vs, rfl, ua, h1, rl, kk⟩ := R2.list q v1
          obtain ⟨e3, k3, R3⟩ := kk _ _ (rl.set r2 m)
          exact .inl ⟨a, vs, n, m, rfl, rfl, h1, by rw [← rl.length]; exact hm, fin (s' := .li b (xs.set m d)) q rfl _ e3 R3 h⟩
        | .non, l2, _ => cases l2
        | .bl _, l2, _ => cases l2
        | .str _, l2, _ => cases l2
        | .ty _, l2, _ => cases l2
        | .cl _, l2, _ => cases l2
        | .tup _, l2, _ => cases l2
        | .lst _, l2, _ => cases l2
        | .scr _, l2, _ => cases l2
        | .dct _, l2, _ => cases l2
        | .rng _ _, l2, _ => cases l2
      | di b kvs =>
        obtain ⟨j, hj, l2⟩ := Option.bind_eq_some_iff.mp (show ((keyD k).bind fun k => if decide (kvs.length < sizeLine) = true then some (Sl.di b (kput kvs k d)) else none) = some s' from l2)
        obtain ⟨l3, l4⟩ := if_some l2
        subst l4
        obtain ⟨a, us, rfl, ua, h1, rl, kk⟩ := R2.dict q v1
        obtain ⟨e3, k3, R3⟩ := kk _ _ (VKs.put (k := j) r2 rl)
        obtain rfl := key_v hj (.inl rk)
        exact .inr ⟨a, _, rfl, DPut.k h1 (by rw [← rl.length]; exact of_decide_eq_true l3), fin (s' := .di b (kput kvs j d)) q rfl _ e3 R3 h⟩
      | _ => cases l2
end
end DI
end

section
set_option Elab.async false
set_option linter.all false
set_option maxRecDepth 100000
/-! Part 10: what is walked: enumerate and zip of lists, tuples, texts. -/
namespace DI
open PySem PySem.Spec PyProof.Rows L2

/-- a list, a tuple, a text that is walked -/
inductive Src where
  | li (a : Addr) | tu (a : Addr) | tx (x : Str) (t : Tok)
def Src.val : Src → Value
  | .li a => .ref a
  | .tu a => .ref a
  | .tx x t => .str x t
def Src.obj : Src → Obj
  | .li a => { cls := .type "list_iterator", data := .fields #[.ref a, .int 0 0] }
  | .tu a => { cls := .type "tuple_iterator", data := .fields #[.ref a, .int 0 0] }
  | .tx x t => { cls := .type (strIterType x), data := .fields #[.str x t, .int 0 0] }
def Src.ad : Src → List Addr
  | .li a => [a]
  | .tu a => [a]
  | .tx _ _ => []
def chV (x : Str) : List V := x.cps.toList.map fun c => V.str ⟨#[c]⟩
/-- its items, as the abstract heap knows them -/
def Src.has (K : PySem.W.Frag) (S : Src) (H : Hp) (vs : List V) : Prop := match S with
  | .li a => SqL K H a vs
  | .tu a => SqT K H a vs
  | .tx x _ => vs = chV x
/-- the iterator at it has given i of them -/
def Src.it (S : Src) (h : Heap) (it : Addr) (i : Nat) : Prop := match S with
  | .li a => h.IsListIter it a i
  | .tu a => h.IsTupleIter it a i
  | .tx x t => h.IsStrIter it (strIterType x) x t i
/-- .. and they stand -/
def Src.on (S : Src) (h : Heap) (its : List Value) : Prop := match S with
  | .li a => h.IsList a its.toArray
  | .tu a => h.IsTuple a its.toArray
  | .tx _ _ => True

theorem Src.begins (S : Src) (its : List Value) : Begins S.val S.obj fun h => S.on h its := by
  cases S with
  | li a => exact begins_list a its.toArray
  | tu a => exact begins_tuple a its.toArray
  | tx x t => exact begins_text x t
theorem Src.it_new (S : Src) {h : Heap} {it : Addr} (e : h.get? it = some S.obj) : S.it h it 0 := by
  cases S with
  | li a => exact ⟨_, e, rfl, rfl⟩
  | tu a => exact ⟨_, e, rfl, rfl⟩
  | tx x t => exact ⟨_, e, rfl, rfl⟩
theorem Src.it_obj (S : Src) {h : Heap} {it : Addr} {i : Nat} (st : S.it h it i) : ∃ o, h.get? it = some o ∧ ∀ v, o.data ≠ .cell v := by
  cases S with
  | li a => obtain ⟨o, e, _, d⟩ := st; exact ⟨o, e, fun v z => by rw [d] at z; cases z⟩
  | tu a => obtain ⟨o, e, _, d⟩ := st; exact ⟨o, e, fun v z => by rw [d] at z; cases z⟩
  | tx x t => obtain ⟨o, e, _, d⟩ := st; exact ⟨o, e, fun v z => by rw [d] at z; cases z⟩
theorem Src.it_keep (S : Src) {h h' : Heap} {it : Addr} {i : Nat} (st : S.it h it i) (k : ∀ o, h.get? it = some o → h'.get? it = some o) : S.it h' it i := by
  cases S with
  | li a => obtain ⟨o, e, r⟩ := st; exact ⟨o, k o e, r⟩
  | tu a => obtain ⟨o, e, r⟩ := st; exact ⟨o, k o e, r⟩
  | tx x t => obtain ⟨o, e, r⟩ := st; exact ⟨o, k o e, r⟩
theorem vals_back {vs : List V} {its : List Value} {i : Nat} {v : Value} (r : Vals vs its) (h : its[i]? = some v) : ∃ x, vs[i]? = some x ∧ RelV x v := by
  have hl : i < vs.length := by rw [r.length]; exact (List.getElem?_eq_some_iff.mp h).1
  obtain ⟨u, h1, h2⟩ := r.get (List.getElem?_eq_getElem hl)
  rw [h] at h1
  cases h1
  exact ⟨_, List.getElem?_eq_getElem hl, h2⟩
section
variable {X : Cx} {pins : List (Addr × Obj)} {σ : L2.St} {H : Hp} {s : Shared} {vs ws : List V}
theorem Src.inj (S : Src) (I : Inv X pins σ H s) (h : S.has X.K H vs) (g : S.has X.K H ws) : vs = ws := by
  cases S with
  | li a => exact I.list_inj h g
  | tu a => exact I.tuple_inj h g
  | tx x t =>
    have h : vs = chV x := h
    have g : ws = chV x := g
    rw [h, g]
/-- what its iterator draws -/
theorem Src.draws (S : Src) {A : Around} (I : Inv X pins σ H s) (hh : A.handled = none) (h : S.has X.K H vs) : ∃ its : List Value, S.on s.heap its ∧ (∀ a ∈ S.ad, a < s.heap.objs.size) ∧ ∀ it, it ∉ S.ad →
    ∃ (P : Nat → Value → Prop) (St : Nat → Heap → Prop), Draws X.prog X.w A it (it :: S.ad) vs.length P St ∧ (∀ i, S.it s.heap it i → St i s.heap) ∧ (∀ i h, St i h → S.it h it i) ∧ ∀ i v, P i v → ∃ x, vs[i]? = some x ∧ RelV x v := by
  cases S with
  | li a =>
    obtain ⟨its, rv, p, hz⟩ := I.list h
    refine ⟨its, p.isList, fun b hb => ?_, fun it hn => ⟨fun i v => its.toArray[i]? = some v, fun i h => h.IsListIter it a i ∧ h.IsList a its.toArray, ?_, fun i st => ⟨st, p.isList⟩, fun i h st => st.1, fun i v hv => ?_⟩⟩
    · have e : b = a := by simpa [Src.ad] using hb
      subst e
      exact p.lt
    · have D := Draws.list (prog := X.prog) (w := X.w) hh it a (fun e => hn (by simp [Src.ad, e])) its.toArray
      rw [List.size_toArray, ← rv.length] at D
      exact D
    · exact vals_back rv (by simpa using hv)
  | tu a =>
    obtain ⟨its, rv, p, hz⟩ := I.tuple h
    have p' : s.heap.IsTuple a its.toArray := p
    refine ⟨its, p', fun b hb => ?_, fun it hn => ⟨fun i v => its.toArray[i]? = some v, fun i h => h.IsTupleIter it a i ∧ h.IsTuple a its.toArray, ?_, fun i st => ⟨st, p'⟩, fun i h st => st.1, fun i v hv => ?_⟩⟩
    · have e : b = a := by simpa [Src.ad] using hb
      subst e
      obtain ⟨o, ho, _⟩ := p'
      exact Heap.lt_size ho
    · have D := Draws.tuple (prog := X.prog) (w := X.w) hh it a (fun e => hn (by simp [Src.ad, e])) its.toArray
      rw [List.size_toArray, ← rv.length] at D
      exact D
    · exact vals_back rv (by simpa using hv)
  | tx x t =>
    have h : vs = chV x := h
    subst h
    refine ⟨[], trivial, fun b hb => absurd hb (by simp [Src.ad]), fun it hn => ⟨fun i v => ∃ c u, x.cps[i]? = some c ∧ v = .str ⟨#[c]⟩ u, fun i h => h.IsStrIter it (strIterType x) x t i, ?_, fun i st => st, fun i h st => st, fun i v hv => ?_⟩⟩
    · have D := Draws.text (prog := X.prog) (w := X.w) hh it x t
      have e : (chV x).length = x.cps.size := by simp [chV]
      rw [e]
      exact D
    · obtain ⟨c, u, hc, rfl⟩ := hv
      refine ⟨.str ⟨#[c]⟩, ?_, u, rfl⟩
      simp [chV, hc]
end
/-! ### enumerate -/
def IteS (K : PySem.W.Frag) (S : Src) : It :=
  ⟨fun i H => ∃ vs, S.has K H vs ∧ i < vs.length, fun i H v H' => ∃ T x, v = .ref T ∧ H T = none ∧ H' = upd H T (.tup [.int (i : Nat), x]) ∧ ∀ vs, S.has K H vs → vs[i]? = some x, fun i H => ∃ vs, S.has K H vs ∧ vs.length = i⟩
theorem turn_enumS {P : Program} {w : World} {K : PySem.W.Frag} {elts : List Expr} {kk : Nat} {tpos : Pos} (S : Src) (e it : Addr) (hei : e ≠ it) (he : e ∉ S.ad) (hi : it ∉ S.ad) :
    Turn P w K (.Tuple elts kk tpos) (IteS K S) [e, it] e (fun i h => (∃ old, IsEnum h e it (0 + ((i : Nat) : Int)) old) ∧ S.it h it i) where
  mem := by simp
  obj := fun i h st b hb => by
    obtain ⟨⟨old, h1⟩, h2⟩ := st
    have e' : b = e ∨ b = it := by simpa using hb
    rcases e' with z | z
    · subst z; exact ⟨_, h1, fun v q => nomatch q⟩
    · subst z; exact S.it_obj h2
  keep := fun i h h' st k => ⟨st.1.imp fun old q => k e (by simp) _ q, S.it_keep st.2 fun o q => k it (by simp) o q⟩
  item := by
    intro X hP hw hK hc i pins s σ H E I hf st hg
    subst hP hw hK
    obtain ⟨vs, hq, hx⟩ := hg
    obtain ⟨its, hon, _, hd⟩ := S.draws (A := X.A.in1) I (I.ok.hd hc) hq
    obtain ⟨Pd, Sd, D, d1, d2, d3⟩ := hd it hi
    have hef : e ∉ it :: S.ad := fun z => (List.mem_cons.mp z).elim hei he
    have G := GoesN.enumFrom (elts := elts) (x1 := kk) (pos := tpos) 0 D e hei hef (List.mem_cons_self ..)
    refine G.goes i s (fun v s2 => ∃ x H', Inv X pins σ H' s2 ∧ RelV x v ∧ (IteS X.K S).yld i H x H' ∧ ((∃ old, IsEnum s2.heap e it (0 + ((i + 1 : Nat) : Int)) old) ∧ S.it s2.heap it (i + 1)) ∧ ∀ b ∈ [e, it], H' b = none) E hx ⟨st.1, d1 i st.2⟩ fun v h' tk hY st' hk htk => ?_
    obtain ⟨T, t, u, rfl, hT, hP, ht⟩ := hY
    obtain ⟨x, hx1, rx⟩ := d3 i u hP
    have new : ObjOk X.prog X.w (upd H T (.tup [.int (i : Nat), x])) h' T (.tup [.int (i : Nat), x]) := by
      rw [Int.zero_add] at ht
      exact ⟨by show 2 ≤ sizeLine; decide, [.int i t, u], .cons ⟨_, rfl⟩ (.cons rx .nil), ht⟩
    have I1 : Inv X pins σ (upd H T (.tup [.int (i : Nat), x])) { s with heap := h', toks := tk } := I.turnedNew (ch := [e, it]) (fun b o hb q => hk b o hb q) hf hT new
    refine ⟨.ref T, _, I1, rfl, ⟨T, x, rfl, I.hok.fresh hT, rfl, fun ys hy => by rw [S.inj I hy hq]; exact hx1⟩, ⟨st'.1, d2 _ _ st'.2⟩, fun b hb => ?_⟩
    have hb' : b < s.heap.objs.size := by
      have e' : b = e ∨ b = it := by simpa using hb
      rcases e' with z | z
      · obtain ⟨old, q⟩ := st.1; rw [z]; exact Heap.lt_size q
      · obtain ⟨o, q, _⟩ := S.it_obj st.2; rw [z]; exact Heap.lt_size q
    rw [upd_ne (Nat.ne_of_lt (Nat.lt_of_lt_of_le hb' hT))]
    exact (hf b hb).1
  done := by
    intro X hP hw hK hc i pins s σ H E I hf st hg
    subst hP hw hK
    obtain ⟨vs, hq, hx⟩ := hg
    obtain ⟨its, hon, _, hd⟩ := S.draws (A := X.A.in1) I (I.ok.hd hc) hq
    obtain ⟨Pd, Sd, D, d1, d2, d3⟩ := hd it hi
    have hef : e ∉ it :: S.ad := fun z => (List.mem_cons.mp z).elim hei he
    have G := GoesN.enumFrom (elts := elts) (x1 := kk) (pos := tpos) 0 D e hei hef (List.mem_cons_self ..)
    subst hx
    exact G.stops s (fun s1 => Inv X pins σ H s1) E ⟨st.1, d1 _ st.2⟩ fun h' tk hk htk => I.turnedL (ch := [e, it]) (fun b o hb q => hk b o hb q) hf
  self := fun A i s Q E st h => let ⟨⟨_, q⟩, _⟩ := st; wpAny_pyIter_enum q h
/-- enumerate(v) begins -/
theorem meets_enum1 {v : Value} {o : Obj} {H : Heap → Prop} (B : Begins v o H) : Meets (Builtin.«enumerate.__new__» ⟨[.type "enumerate", v], []⟩) (fun _ R s => H s.heap ∧
      R (.ok (.ret (.ref (s.heap.push o).objs.size))) { s with heap := (s.heap.push o).push { cls := .type "enumerate", data := .fields #[.none, .bool false, .ref s.heap.objs.size, rawInt 0, .none, .none] } }) := by
  refine .of_wp fun prog w A R s h => ?_
  obtain ⟨hp, g, d, tk, os⟩ := s
  obtain ⟨h1, h⟩ := h
  have hsub := sub_enumerate
  have begin1 : ∀ {A' : Around} {E : Value → Shared → Prop} {Q : Value → Shared → Prop}, Q (.ref hp.objs.size) ⟨hp.push o, g, d, tk, os⟩ → wpAny (model prog w) A' (pyIter v) Q E ⟨hp, g, d, tk, os⟩ := fun q => B.iter prog w _ _ ⟨hp, g, d, tk, os⟩ _ h1 q
  wp_walk using begin1
  refine wpAny_stack_any fun st => wpAny_pure ?_
  split
  · rename_i c _ _ _ _ _
    cases (c == Value.type "enumerate") <;> (wp_walk using begin1; exact ⟨_, rfl, h⟩)
  · wp_walk using begin1
    exact ⟨_, rfl, h⟩
section
variable {prog : Program} {w : World} {A : Around} {E : Value → Shared → Prop} {s : Shared}
theorem call_enum1 {v : Value} {o : Obj} {H : Heap → Prop} {Q : Value → Shared → Prop} (B : Begins v o H) (h1 : H s.heap)
    (h : ∀ h', IsEnum h' (s.heap.objs.size + 1) s.heap.objs.size 0 .none → h'.get? s.heap.objs.size = some o → (∀ b u, s.heap.get? b = some u → h'.get? b = some u) → Q (.ref (s.heap.objs.size + 1)) { s with heap := h' }) :
    wpAny (model prog w) A (call (.type "enumerate") [v]) Q E s := by
  refine callType_new F.called_enumerate (by decide) (F.typeCall_enumerate_1 _) (F.newCall_enumerate_1 _) (fun obj => F.args_object_init_2 obj _) F.entry_enumerate_new (meets_enum1 B) ⟨h1, ?_⟩
  have hz : (s.heap.push o).objs.size = s.heap.objs.size + 1 := Heap.size_push ..
  have he := Heap.get?_push_size (s.heap.push o) (o := { cls := .type "enumerate", data := .fields #[.none, .bool false, .ref s.heap.objs.size, rawInt 0, .none, .none] }) rfl
  show _ ∧ _
  rw [hz] at he ⊢
  exact ⟨⟨_, he, rfl⟩, h _ he (Heap.get?_push_of_some _ (Heap.get?_push_size _ B.free)) fun b u x => Heap.get?_push_of_some _ (Heap.get?_push_of_some _ x)⟩
end
/-- what a value is walked as -/
def SrcOf (K : PySem.W.Frag) (H : Hp) (v : V) (k : Src → Prop) : Prop :=
  (∃ a xs, v = .ref a ∧ SqL K H a xs ∧ k (.li a)) ∨ (∃ a xs, v = .ref a ∧ SqT K H a xs ∧ k (.tu a)) ∨ ∃ x, v = .str x ∧ ∀ t, k (.tx x t)
theorem SrcOf.get {K : PySem.W.Frag} {H : Hp} {v : V} {k : Src → Prop} {u : Value} (h : SrcOf K H v k) (r : RelV v u) : ∃ S vs, S.val = u ∧ S.has K H vs ∧ k S := by
  rcases h with ⟨a, xs, rfl, h, q⟩ | ⟨a, xs, rfl, h, q⟩ | ⟨x, rfl, q⟩
  · cases r; exact ⟨.li a, xs, rfl, h, q⟩
  · cases r; exact ⟨.tu a, xs, rfl, h, q⟩
  · obtain ⟨t, rfl⟩ := r; exact ⟨.tx x t, _, rfl, rfl, q t⟩
def iEn (K : PySem.W.Frag) (ta : TA) : TI := fun σ H R => ta σ H fun vs H1 => ∃ v, vs = [v] ∧ SrcOf K H1 v fun S => R (IteS K S) H1
theorem pi_en {X : Cx} {e : Expr} {ta : TA} {p pos tpos : Pos} {elts : List Expr} {kk : Nat} (hc : X.calm = true) (hg : Gl X "enumerate") (hm : X.mg "enumerate" = none) (ha : PA X [e] ta) (hs : unst e = true) :
    PI X (.Tuple elts kk tpos) (.Call (.Name "enumerate" p) [e] [] pos) (iEn X.K ta) := by
  refine ⟨fun pins s σ H R I h => Call_ (ld_blt I hg hm boot_enumerate (PyProof.Rows.callWith_type1 (thn (ha.run pos pins s σ H _ I h) fun us s1 ⟨vs, H1, I1, r1, q1⟩ => ?_) (starEach1 (nostar hs) _) rfl))⟩
  obtain ⟨v, rfl, q1⟩ := q1
  cases r1 with
  | cons r rr =>
    cases rr
    obtain ⟨S, vs, rfl, hq, q⟩ := q1.get r
    obtain ⟨its, hon, hlt, _⟩ := S.draws (A := X.A.in1) I1 (I1.ok.hd hc) hq
    refine call_enum1 (S.begins its) hon fun h' he hit hk => wpAny_pyIter_enum he ?_
    have I2 : Inv X pins σ H1 { s1 with heap := h' } := I1.kept (t' := s1.toks) hk
    have far : ∀ {b : Addr}, s1.heap.objs.size ≤ b → b ∉ S.ad := fun hb z => absurd (Nat.lt_of_lt_of_le (hlt _ z) hb) (Nat.lt_irrefl _)
    refine ⟨s1.heap.objs.size + 1, [s1.heap.objs.size + 1, s1.heap.objs.size], _, _, H1, rfl, I2, turn_enumS S (s1.heap.objs.size + 1) s1.heap.objs.size (Nat.succ_ne_self _) (far (Nat.le_succ _)) (far (Nat.le_refl _)), ⟨⟨.none, by simpa using he⟩, S.it_new hit⟩, fun b hb => ?_, q⟩
    have hle : s1.heap.objs.size ≤ b := by
      have e' : b = s1.heap.objs.size + 1 ∨ b = s1.heap.objs.size := by simpa using hb
      rcases e' with z | z
      · rw [z]; exact Nat.le_succ _
      · rw [z]; exact Nat.le_refl _
    exact I1.fpOk hle (I1.hok.fresh hle)
/-! ### zip -/
def ItzS (K : PySem.W.Frag) (S T : Src) : It :=
  ⟨fun i H => ∃ vs ws, S.has K H vs ∧ T.has K H ws ∧ i < min vs.length ws.length, fun i H v H' => ∃ p x y, v = .ref p ∧ H p = none ∧ H' = upd H p (.tup [x, y]) ∧ (∀ vs, S.has K H vs → vs[i]? = some x) ∧ ∀ ws, T.has K H ws → ws[i]? = some y,
    fun i H => ∃ vs ws, S.has K H vs ∧ T.has K H ws ∧ min vs.length ws.length = i⟩
theorem turn_zipS {P : Program} {w : World} {K : PySem.W.Frag} {elts : List Expr} {kk : Nat} {tpos : Pos} (S T : Src) {z TI TO i1 i2 : Addr} (Z : ZipSep2 z TI TO i1 i2 (i1 :: S.ad) (i2 :: T.ad)) (n1 : i1 ∉ S.ad) (n2 : i2 ∉ T.ad) :
    Turn P w K (.Tuple elts kk tpos) (ItzS K S T) [z, TI, TO, i1, i2] z (fun i h => IsZip h z TI TO .none ∧ IsTupOf2 h TI (.ref i1) (.ref i2) ∧ (∃ a1 a2, IsTupOf2 h TO a1 a2) ∧ S.it h i1 i ∧ T.it h i2 i) where
  mem := by simp
  obj := fun i h st b hb => by
    obtain ⟨hz, hTI, ⟨x, y, hTO⟩, h1, h2⟩ := st
    have e' : b = z ∨ b = TI ∨ b = TO ∨ b = i1 ∨ b = i2 := by simpa using hb
    rcases e' with q | q | q | q | q
    · subst q; exact ⟨_, hz, fun v q => nomatch q⟩
    · subst q; exact ⟨_, hTI, fun v q => nomatch q⟩
    · subst q; exact ⟨_, hTO, fun v q => nomatch q⟩
    · subst q; exact S.it_obj h1
    · subst q; exact T.it_obj h2
  keep := fun i h h' st k => by
    obtain ⟨hz, hTI, ⟨x, y, hTO⟩, h1, h2⟩ := st
    exact ⟨k z (by simp) _ hz, k TI (by simp) _ hTI, ⟨x, y, k TO (by simp) _ hTO⟩, S.it_keep h1 fun o q => k i1 (by simp) o q, T.it_keep h2 fun o q => k i2 (by simp) o q⟩
  item := by
    intro X hP hw hK hc i pins s σ H E I hf st hg
    subst hP hw hK
    obtain ⟨vs, ws, hq, hq2, hx⟩ := hg
    obtain ⟨_, _, _, hd⟩ := S.draws (A := X.A.in1) I (I.ok.hd hc) hq
    obtain ⟨_, _, _, hd'⟩ := T.draws (A := X.A.in1) I (I.ok.hd hc) hq2
    obtain ⟨Pd, Sd, D, d1, d2, d3⟩ := hd i1 n1
    obtain ⟨Pd', Sd', D', d1', d2', d3'⟩ := hd' i2 n2
    obtain ⟨st1, st2, st3, st4, st5⟩ := st
    have G := GoesN.zip2 (elts := elts) (x1 := kk) (pos := tpos) Z D D'
    refine G.goes i s (fun v s2 => ∃ x H', Inv X pins σ H' s2 ∧ RelV x v ∧ (ItzS X.K S T).yld i H x H' ∧ (IsZip s2.heap z TI TO .none ∧ IsTupOf2 s2.heap TI (.ref i1) (.ref i2) ∧ (∃ a1 a2, IsTupOf2 s2.heap TO a1 a2) ∧ S.it s2.heap i1 (i + 1) ∧ T.it s2.heap i2 (i + 1)) ∧ ∀ b ∈ [z, TI, TO, i1, i2], H' b = none)
      E hx ⟨st1, st2, st3, d1 i st4, d1' i st5⟩ fun v h' tk hY st' hk htk => ?_
    obtain ⟨p, u, u', rfl, hT, hP, hP', ht⟩ := hY
    obtain ⟨x, hx1, rx⟩ := d3 i u hP
    obtain ⟨y, hy1, ry⟩ := d3' i u' hP'
    have new : ObjOk X.prog X.w (upd H p (.tup [x, y])) h' p (.tup [x, y]) := ⟨by show 2 ≤ sizeLine; decide, [u, u'], .cons rx (.cons ry .nil), ht⟩
    have I1 : Inv X pins σ (upd H p (.tup [x, y])) { s with heap := h', toks := tk } := I.turnedNew (ch := [z, TI, TO, i1, i2]) (fun b o hb q => hk b o (fun m => hb (by
      have e' : b = z ∨ b = TO ∨ b = i1 ∨ b = i2 := by simpa using m
      rcases e' with q | q | q | q <;> simp [q])) q) hf hT new
    obtain ⟨s1, s2, s3, s4, s5⟩ := st'
    refine ⟨.ref p, _, I1, rfl, ⟨p, x, y, rfl, I.hok.fresh hT, rfl, fun ys hy => by rw [S.inj I hy hq]; exact hx1, fun ys hy => by rw [T.inj I hy hq2]; exact hy1⟩, ⟨s1, s2, s3, d2 _ _ s4, d2' _ _ s5⟩, fun b hb => ?_⟩
    have hb' : b < s.heap.objs.size := by
      have e' : b = z ∨ b = TI ∨ b = TO ∨ b = i1 ∨ b = i2 := by simpa using hb
      rcases e' with q | q | q | q | q
      · rw [q]; exact Heap.lt_size st1
      · rw [q]; exact Heap.lt_size st2
      · obtain ⟨_, _, m⟩ := st3; rw [q]; exact Heap.lt_size m
      · obtain ⟨o, m, _⟩ := S.it_obj st4; rw [q]; exact Heap.lt_size m
      · obtain ⟨o, m, _⟩ := T.it_obj st5; rw [q]; exact Heap.lt_size m
    rw [upd_ne (Nat.ne_of_lt (Nat.lt_of_lt_of_le hb' hT))]
    exact (hf b hb).1
  done := by
    intro X hP hw hK hc i pins s σ H E I hf st hg
    subst hP hw hK
    obtain ⟨vs, ws, hq, hq2, hx⟩ := hg
    obtain ⟨_, _, _, hd⟩ := S.draws (A := X.A.in1) I (I.ok.hd hc) hq
    obtain ⟨_, _, _, hd'⟩ := T.draws (A := X.A.in1) I (I.ok.hd hc) hq2
    obtain ⟨Pd, Sd, D, d1, d2, d3⟩ := hd i1 n1
    obtain ⟨Pd', Sd', D', d1', d2', d3'⟩ := hd' i2 n2
    obtain ⟨st1, st2, st3, st4, st5⟩ := st
    have G := GoesN.zip2 (elts := elts) (x1 := kk) (pos := tpos) Z D D'
    subst hx
    refine G.stops s (fun s1 => Inv X pins σ H s1) E ⟨st1, st2, st3, d1 _ st4, d1' _ st5⟩ fun h' tk hk htk => I.turnedL (ch := [z, TI, TO, i1, i2]) (fun b o hb q => hk b o (fun m => hb (by
      have e' : b = z ∨ b = TO ∨ b = i1 ∨ b = i2 := by simpa using m
      rcases e' with q | q | q | q <;> simp [q])) q) hf
  self := fun A i s Q E st h => wpAny_pyIter_zip st.1 h
def iZp (K : PySem.W.Frag) (ta : TA) : TI := fun σ H R => ta σ H fun vs H1 => ∃ v u, vs = [v, u] ∧ SrcOf K H1 v fun S => SrcOf K H1 u fun T => R (ItzS K S T) H1
theorem pi_zp {X : Cx} {e e2 : Expr} {ta : TA} {p pos tpos : Pos} {elts : List Expr} {kk : Nat} (hc : X.calm = true) (hg : Gl X "zip") (hm : X.mg "zip" = none) (ha : PA X [e, e2] ta) (hs : [e, e2].all unst = true) :
    PI X (.Tuple elts kk tpos) (.Call (.Name "zip" p) [e, e2] [] pos) (iZp X.K ta) := by
  refine ⟨fun pins s σ H R I h => Call_ (ld_blt I hg hm PyProof.Rows.boot_zip (PyProof.Rows.callWith_type1 (thn (ha.run pos pins s σ H _ I h) fun us s1 ⟨vs, H1, I1, r1, q1⟩ => ?_) (starEach1 (nostar (all_cons hs).1) _) (plain_args (all_cons hs).2 pos)))⟩
  obtain ⟨v, u, rfl, q1⟩ := q1
  cases r1 with
  | cons r rr =>
    cases rr with
    | cons r' rr =>
      cases rr
      obtain ⟨S, vs, rfl, hq, q1⟩ := q1.get r
      obtain ⟨T, ws, rfl, hq2, q⟩ := q1.get r'
      obtain ⟨its, hon, hlt, _⟩ := S.draws (A := X.A.in1) I1 (I1.ok.hd hc) hq
      obtain ⟨its', hon', hlt', _⟩ := T.draws (A := X.A.in1) I1 (I1.ok.hd hc) hq2
      refine zip_begins2 (S.begins its) (T.begins its') hon hon' fun h' hz hTI hTO h1 h2 _ hk => wpAny_pyIter_zip hz ?_
      have I2 : Inv X pins σ H1 { s1 with heap := h' } := I1.kept (t' := s1.toks) hk
      have far : ∀ {b : Addr}, s1.heap.objs.size ≤ b → b ∉ S.ad := fun hb z => absurd (Nat.lt_of_lt_of_le (hlt _ z) hb) (Nat.lt_irrefl _)
      have far' : ∀ {b : Addr}, s1.heap.objs.size ≤ b → b ∉ T.ad := fun hb z => absurd (Nat.lt_of_lt_of_le (hlt' _ z) hb) (Nat.lt_irrefl _)
      refine ⟨s1.heap.objs.size + 4, [s1.heap.objs.size + 4, s1.heap.objs.size + 2, s1.heap.objs.size + 3, s1.heap.objs.size, s1.heap.objs.size + 1], _, _, H1, rfl, I2, turn_zipS S T (zip_sep2 hlt hlt') (far (Nat.le_refl _)) (far' (Nat.le_succ _)), ⟨hz, hTI, ⟨_, _, hTO⟩, S.it_new h1, T.it_new h2⟩, fun b hb => ?_, q⟩
      have hle : s1.heap.objs.size ≤ b := by
        have e' : b = s1.heap.objs.size + 4 ∨ b = s1.heap.objs.size + 2 ∨ b = s1.heap.objs.size + 3 ∨ b = s1.heap.objs.size ∨ b = s1.heap.objs.size + 1 := by simpa using hb
        rcases e' with z | z | z | z | z
        · rw [z]; exact Nat.le_add_right _ _
        · rw [z]; exact Nat.le_add_right _ _
        · rw [z]; exact Nat.le_add_right _ _
        · rw [z]; exact Nat.le_refl _
        · rw [z]; exact Nat.le_add_right _ _
      exact I1.fpOk hle (I1.hok.fresh hle)
end DI
end

section
set_option Elab.async false
set_option linter.all false
set_option maxRecDepth 100000
/-! Part 11: what loops go over. -/
namespace DI
open PySem PySem.Spec PyProof.Rows L2

/-- ds is what J gives from H0 on, while only W and things in U change -/
def ItD (K : PySem.W.Frag) (W U : Addr → Prop) (H0 : Hp) (ds : List D) (J : It) : Prop := ∀ (U' : Addr → Prop) (H : Hp) (i : Nat), Step W U U' H0 H → Trk U' H →
  (∀ d, ds[i]? = some d → J.go i H ∧ ∀ x H', J.yld i H x H' → Ev No H H' ∧ VR K U' H' d x) ∧ (i = ds.length → J.stop i H)
def PostI (K : PySem.W.Frag) (U B L : Addr → Prop) (σ : L2.St) (env : Envi) (H : Hp) (R : It → Hp → Prop) : Res (List D × Envi) → Prop
  | .ok (ds, env') => ∀ J H', Ev (Wof B L) H H' → SameK env env' → ER K U B L env' σ H' → ItD K (Wof B L) U H' ds J → R J H'
  | .bad => False
def tII (K : PySem.W.Frag) (F : CF) (it : II) : TI := fun σ H R => ∃ U B L env, ER K U B L env σ H ∧ PostI K U B L σ env H R (evI F it env)

section
variable {K : PySem.W.Frag} {U U' B L W : Addr → Prop} {σ σ' : L2.St} {env env' env1 : Envi} {H H' H1 H2 H0 : Hp} {ds : List D}
theorem PostI.step {R : It → Hp → Prop} {r : Res (List D × Envi)} (h : PostI K U B L σ env H R r) (e : Ev (Wof B L) H H1) (k : SameK env env1) : PostI K U B L σ env1 H1 R r := by
  cases r with
  | bad => exact h
  | ok p => exact fun J H' e' k' o q => h J H' (e.trans e') (SameK.trans k k') o q
theorem PostI.ro {R : It → Hp → Prop} {α : Type} {o : Option α} {k : α → Res (List D × Envi)} (h : PostI K U B L σ env H R ((ro o).bind k)) : ∃ a, o = some a ∧ PostI K U B L σ env H R (k a) := by
  cases o with
  | none => exact h.elim
  | some a => exact ⟨a, rfl, h⟩
theorem PostI.ifB {R : It → Hp → Prop} {c : Bool} {r : Res (List D × Envi)} (h : PostI K U B L σ env H R (if c = true then r else .bad)) : c = true ∧ PostI K U B L σ env H R r := by
  cases c with
  | true => exact ⟨rfl, h⟩
  | false => exact h.elim
theorem tI_bindI {F : CF} {a : IE} {R' : It → Hp → Prop} {k : Vl × Envi → Res (List D × Envi)} {T : VK} (R : ER K U B L env σ H) (h : PostI K U B L σ env H R' ((evE F a env).bind k))
    (hk : ∀ x env1 H1 z, Ev (Wof B L) H H1 → SameK env env1 → ER K U B L env1 σ H1 → VS K U σ H1 x z → PostI K U B L σ env1 H1 R' (k (x, env1)) → T z H1) : tI K F a σ H T := by
  refine ⟨U, B, L, env, R, ?_⟩
  cases e : evE F a env with
  | bad => rw [e] at h; exact h
  | ok p =>
    obtain ⟨x, env1⟩ := p
    rw [e] at h
    exact fun H1 z e1 k1 o => hk x env1 H1 z e1 k1 (o.er R) (o.vs R) (h.step e1 k1)
/-! each kind -/
theorem it_lst {a : Addr} (h : ∀ U' H, Step W U U' H0 H → ∃ vs, SqL K H a vs ∧ VRs K U' H ds vs) : ItD K W U H0 ds (Itl K a) := fun U' H i st tr => by
  obtain ⟨vs, h1, h2⟩ := h U' H st
  refine ⟨fun d e => ?_, fun e => ⟨vs, h1, by rw [e, h2.length]; exact Nat.le_refl _⟩⟩
  obtain ⟨v, h3, h4⟩ := h2.get e
  refine ⟨⟨vs, v, h1, h3⟩, fun x H' y => ?_⟩
  obtain ⟨rfl, y⟩ := y
  have := y vs h1
  rw [h3] at this
  cases this
  exact ⟨.refl, h4⟩
theorem it_tup {a : Addr} (h : ∀ U' H, Step W U U' H0 H → ∃ vs, SqT K H a vs ∧ VRs K U' H ds vs) : ItD K W U H0 ds (Itt K a) := fun U' H i st tr => by
  obtain ⟨vs, h1, h2⟩ := h U' H st
  refine ⟨fun d e => ?_, fun e => ⟨vs, h1, by rw [e, h2.length]; exact Nat.le_refl _⟩⟩
  obtain ⟨v, h3, h4⟩ := h2.get e
  refine ⟨⟨vs, v, h1, h3⟩, fun x H' y => ?_⟩
  obtain ⟨rfl, y⟩ := y
  have := y vs h1
  rw [h3] at this
  cases this
  exact ⟨.refl, h4⟩
theorem rngL_len : ∀ (n : Nat) (lo : Int), (rngL lo n).length = n
  | 0, _ => rfl
  | n + 1, lo => by show (rngL (lo + 1) n).length + 1 = n + 1; rw [rngL_len n]
theorem rngL_get : ∀ (n : Nat) (lo : Int) (i : Nat), (rngL lo n)[i]? = if i < n then some (.int (lo + (i : Nat))) else none
  | 0, _, i => by simp [rngL]
  | n + 1, lo, 0 => by simp [rngL]
  | n + 1, lo, i + 1 => by
    show (rngL (lo + 1) n)[i]? = _
    rw [rngL_get n (lo + 1) i, show lo + 1 + (i : Int) = lo + ((i + 1 : Nat) : Int) by omega]
    by_cases h : i < n
    · rw [if_pos h, if_pos (by omega)]
    · rw [if_neg h, if_neg (by omega)]
theorem it_rng {lo : Int} {n : Nat} : ItD K W U H0 (rngL lo n) (Itr lo n) := fun U' H i st tr => by
  refine ⟨fun d e => ?_, fun e => by rw [rngL_len] at e; exact Nat.le_of_eq e.symm⟩
  rw [rngL_get] at e
  by_cases h : i < n
  · rw [if_pos h] at e
    cases e
    exact ⟨h, fun x H' y => by obtain ⟨rfl, rfl⟩ := y; exact ⟨.refl, .int _⟩⟩
  · rw [if_neg h] at e; cases e
theorem it_str {x : List Nat} : ItD K W U H0 (x.map fun c => D.str [c]) (Its ⟨x.toArray⟩) := fun U' H i st tr => by
  refine ⟨fun d e => ?_, fun e => by rw [List.length_map] at e; exact Nat.le_of_eq (by simp [e])⟩
  rw [List.getElem?_map] at e
  cases q : x[i]? with
  | none => rw [q] at e; cases e
  | some c =>
    rw [q] at e
    cases e
    refine ⟨by show i < (⟨x.toArray⟩ : Str).cps.size; simpa using (List.getElem?_eq_some_iff.mp q).1, fun v H' y => ?_⟩
    obtain ⟨rfl, c', h1, rfl⟩ := y
    have : x[i]? = some c' := by simpa using h1
    rw [q] at this
    cases this
    exact ⟨.refl, .str [c]⟩
theorem chs_v : ∀ x : List Nat, VRs K U H (x.map fun c => D.str [c]) (chV ⟨x.toArray⟩) := by
  intro x
  have : chV ⟨x.toArray⟩ = x.map fun c => V.str ⟨#[c]⟩ := by simp [chV]
  rw [this]
  induction x with
  | nil => exact .nil
  | cons c x ih => exact .cons (.str [c]) (ih (by simp [chV]))
/-- the things that enumerate and zip walk -/
theorem src_of {d : D} {z : V} {xs : List D} {k : Src → Prop} (r : VR K U H d z) (e : srcD d = some xs) (hk : ∀ S : Src, (∀ U' H', Step W U U' H H' → ∃ vs, S.has K H' vs ∧ VRs K U' H' xs vs) → k S) : SrcOf K H z k := by
  cases d with
  | lst ys =>
    cases e
    cases r with
    | @lst a vs _ h n r => exact .inl ⟨a, vs, rfl, SqL.of h, hk (.li a) fun U' H' st => ⟨vs, by
        have := (VR.lst h n r).mono st
        cases this with
        | lst h' n' r' => exact SqL.of (st.ev.keep _ _ h fun z => n (st.wu _ z)), r.mono st⟩⟩
  | scr ys =>
    cases e
    cases r with
    | @scr a vs _ h r => exact .inl ⟨a, vs, rfl, sql_of h, hk (.li a) fun U' H' st => ⟨vs, by
        rcases h with ⟨h, n⟩ | h
        · exact .inl (rd_keep st.ev (fun z => n (st.wu _ z)) h)
        · exact h H', r.mono st⟩⟩
  | tup ys =>
    cases e
    cases r with
    | @tup a vs _ h r => exact .inr (.inl ⟨a, vs, rfl, sqt_of h, hk (.tu a) fun U' H' st => ⟨vs, by
        rcases h with ⟨h, n⟩ | h
        · exact .inl (rd_keep st.ev (fun z => n (st.wu _ z)) h)
        · exact h H', r.mono st⟩⟩)
  | str x =>
    cases e
    cases r
    exact .inr (.inr ⟨_, rfl, fun t => hk (.tx _ t) fun U' H' st => ⟨_, rfl, chs_v x⟩⟩)
  | _ => cases e
theorem enumL_len : ∀ (xs : List D) (k : Int), (enumL k xs).length = xs.length
  | [], _ => rfl
  | _ :: xs, k => by show (enumL (k + 1) xs).length + 1 = xs.length + 1; rw [enumL_len xs]
theorem enumL_get : ∀ (xs : List D) (k : Int) (i : Nat), (enumL k xs)[i]? = (xs[i]?).map fun d => .tup [.int (k + (i : Nat)), d]
  | [], _, i => by simp [enumL]
  | d :: xs, k, 0 => by simp [enumL]
  | d :: xs, k, i + 1 => by
    show (enumL (k + 1) xs)[i]? = _
    rw [enumL_get xs (k + 1) i, show k + 1 + (i : Int) = k + ((i + 1 : Nat) : Int) by omega]
    rfl
theorem zipL_len : ∀ (xs ys : List D), (zipL xs ys).length = min xs.length ys.length
  | [], ys => by cases ys <;> simp [zipL]
  | _ :: _, [] => by simp [zipL]
  | _ :: xs, _ :: ys => by show (zipL xs ys).length + 1 = _; rw [zipL_len xs ys]; simp only [List.length_cons]; omega
theorem zipL_get : ∀ (xs ys : List D) (i : Nat) (d : D), (zipL xs ys)[i]? = some d → ∃ a b, xs[i]? = some a ∧ ys[i]? = some b ∧ d = .tup [a, b]
  | [], ys, i, d, e => by cases ys <;> simp [zipL] at e
  | _ :: _, [], i, d, e => by simp [zipL] at e
  | a :: xs, b :: ys, 0, d, e => by
    have : D.tup [a, b] = d := by simpa [zipL] using e
    exact ⟨a, b, rfl, rfl, this.symm⟩
  | _ :: xs, _ :: ys, i + 1, d, e => by
    obtain ⟨a, b, h1, h2, h3⟩ := zipL_get xs ys i d e
    exact ⟨a, b, by simpa using h1, by simpa using h2, h3⟩
theorem it_enum {S : Src} {xs : List D} (h : ∀ U' H, Step W U U' H0 H → ∃ vs, S.has K H vs ∧ VRs K U' H xs vs) : ItD K W U H0 (enumL 0 xs) (IteS K S) := fun U' H i st tr => by
  obtain ⟨vs, h1, h2⟩ := h U' H st
  refine ⟨fun d e => ?_, fun e => ⟨vs, h1, by rw [e, enumL_len, h2.length]⟩⟩
  rw [enumL_get] at e
  obtain ⟨d0, h3, rfl⟩ := Option.map_eq_some_iff.mp e
  obtain ⟨v, h4, h5⟩ := h2.get h3
  refine ⟨⟨vs, h1, (List.getElem?_eq_some_iff.mp h4).1⟩, fun x H' y => ?_⟩
  obtain ⟨T, u, rfl, hT, rfl, q⟩ := y
  have := q vs h1
  rw [h4] at this
  cases this
  refine ⟨.new hT, VR.tupOf tr hT (.cons ?_ (.cons h5 .nil))⟩
  rw [Int.zero_add]
  exact .int _
theorem it_zip {S T : Src} {xs ys : List D} (h : ∀ U' H, Step W U U' H0 H → ∃ vs, S.has K H vs ∧ VRs K U' H xs vs) (g : ∀ U' H, Step W U U' H0 H → ∃ vs, T.has K H vs ∧ VRs K U' H ys vs) : ItD K W U H0 (zipL xs ys) (ItzS K S T) := fun U' H i st tr => by
  obtain ⟨vs, h1, h2⟩ := h U' H st
  obtain ⟨ws, g1, g2⟩ := g U' H st
  refine ⟨fun d e => ?_, fun e => ⟨vs, ws, h1, g1, by rw [e, zipL_len, h2.length, g2.length]⟩⟩
  obtain ⟨a, b, h3, g3, rfl⟩ := zipL_get xs ys i d e
  obtain ⟨v, h4, h5⟩ := h2.get h3
  obtain ⟨u, g4, g5⟩ := g2.get g3
  refine ⟨⟨vs, ws, h1, g1, Nat.lt_min.mpr ⟨(List.getElem?_eq_some_iff.mp h4).1, (List.getElem?_eq_some_iff.mp g4).1⟩⟩, fun x H' y => ?_⟩
  obtain ⟨p, x1, y1, rfl, hp, rfl, q1, q2⟩ := y
  have e1 := q1 vs h1
  have e2 := q2 ws g1
  rw [h4] at e1
  rw [g4] at e2
  cases e1
  cases e2
  exact ⟨.new hp, VR.tupOf tr hp (.cons h5 (.cons g5 .nil))⟩
end
section
variable {X : Cx} {F : CF} {x : Str} {p pos tpos : Pos} {e a b tg : Expr} {es : List Expr} {ie ia ib : IE}
def iSq (K : PySem.W.Frag) (te : TE) : TI := fun σ H R => te σ H fun v H1 => (∃ a xs, v = .ref a ∧ SqL K H1 a xs ∧ R (Itl K a) H1) ∨ (∃ a xs, v = .ref a ∧ SqT K H1 a xs ∧ R (Itt K a) H1) ∨ (∃ x, v = .str x ∧ R (Its x) H1) ∨
  ∃ a lo hi, v = .ref a ∧ H1 a = some (.rng lo hi) ∧ (-(2 ^ 62) ≤ lo ∧ lo < 2 ^ 62 ∧ -(2 ^ 62) ≤ hi ∧ hi < 2 ^ 62) ∧ R (Itr lo (hi - lo).toNat) H1
theorem pi_sq {te : TE} (he : PE X e te) : PI X tg e (iSq X.K te) := by
  refine ⟨fun pins s σ H R I h => thn (he.run pins s σ H _ I h) fun v s1 ⟨y, H1, I1, r1, q1⟩ => ?_⟩
  rcases q1 with ⟨a, xs, rfl, hq, q⟩ | ⟨a, xs, rfl, hq, q⟩ | ⟨x, rfl, q⟩ | ⟨a, lo, hi, rfl, ha, ⟨b1, b2, b3, b4⟩, q⟩
  · cases r1
    obtain ⟨its, rv, p, hz⟩ := I1.list hq
    exact wpAny_pyIter_list p.isList (pi_one (tk := s1.toks) I1 _ (turn_list a _) ⟨_, Heap.get?_push_size _ rfl, rfl, rfl⟩ q)
  · cases r1
    obtain ⟨its, rv, p, hz⟩ := I1.tuple hq
    exact wpAny_pyIter_tuple (show s1.heap.IsTuple a its.toArray from p) (pi_one (tk := s1.toks) I1 _ (turn_tuple a _) ⟨_, Heap.get?_push_size _ rfl, rfl, rfl⟩ q)
  · obtain ⟨t, rfl⟩ := r1
    cases hx : x.cps.all (· < 128)
    · exact wpAny_pyIter_wide hx (pi_one (tk := s1.toks) I1 _ (turn_str _ x t "str_iterator" (.inr rfl)) ⟨_, Heap.get?_push_size _ rfl, rfl, rfl⟩ q)
    · exact wpAny_pyIter_ascii hx (pi_one (tk := s1.toks) I1 _ (turn_str _ x t "str_ascii_iterator" (.inl rfl)) ⟨_, Heap.get?_push_size _ rfl, rfl, rfl⟩ q)
  · cases r1
    obtain ⟨t, u, w, hr⟩ := I1.hok a _ ha
    refine wpAny_pyIter_range hr (small_one b1 b2 b3 b4) (pi_one (tk := s1.toks) I1 _ (turn_range _ lo (hi - lo).toNat) ?_ q)
    have e1 : lo + ((0 : Nat) : Int) * 1 = lo := by simp
    have e2 : (((hi - lo).toNat : Nat) : Int) - ((0 : Nat) : Int) = Builtin.Range.rangeSize lo hi 1 := by rw [rangeSize_one]; split <;> omega
    show IsRangeIter _ _ (lo + ((0 : Nat) : Int) * 1) ((((hi - lo).toNat : Nat) : Int) - ((0 : Nat) : Int)) 1
    rw [e1, e2]
    exact Heap.get?_push_size _ rfl
theorem PIi {wi wi' : TI} (h : PI X tg e wi) (i : ∀ σ H R, wi' σ H R → wi σ H R) : PI X tg e wi' := ⟨fun pins s σ H R I q => h.run pins s σ H R I (i _ _ _ q)⟩
theorem it_seq (he : PE X e (tI X.K F ie)) : PI X tg e (tII X.K F (.seq ie)) := by
  refine PIi (pi_sq he) fun σ H R' ⟨U, B, L, env, R, h⟩ => ?_
  refine tI_bindI R h fun x env1 H1 z1 e1 k1 R1 v1 h => ?_
  obtain ⟨d, l1, h⟩ := h.ro
  obtain ⟨xs, l2, h⟩ := h.ro
  have r := v1.dat l1
  cases d with
  | lst ys =>
    cases l2
    cases r with
    | @lst a vs _ h1 n r => exact .inl ⟨a, vs, rfl, SqL.of h1, h _ _ .refl rfl R1 (it_lst fun U' H' st => ⟨vs, SqL.of (st.ev.keep _ _ h1 fun z => n (st.wu _ z)), r.mono st⟩)⟩
  | scr ys =>
    cases l2
    cases r with
    | @scr a vs _ h1 r => exact .inl ⟨a, vs, rfl, sql_of h1, h _ _ .refl rfl R1 (it_lst fun U' H' st => ⟨vs, by
        rcases h1 with ⟨h1, n⟩ | h1
        · exact .inl (rd_keep st.ev (fun z => n (st.wu _ z)) h1)
        · exact h1 H', r.mono st⟩)⟩
  | tup ys =>
    cases l2
    cases r with
    | @tup a vs _ h1 r => exact .inr (.inl ⟨a, vs, rfl, sqt_of h1, h _ _ .refl rfl R1 (it_tup fun U' H' st => ⟨vs, by
        rcases h1 with ⟨h1, n⟩ | h1
        · exact .inl (rd_keep st.ev (fun z => n (st.wu _ z)) h1)
        · exact h1 H', r.mono st⟩)⟩)
  | str x =>
    cases l2
    cases r
    exact .inr (.inr (.inl ⟨_, rfl, h _ _ .refl rfl R1 it_str⟩))
  | rng lo hi =>
    obtain ⟨q1, q2⟩ := if_some l2
    subst q2
    cases r with
    | @rng a _ _ h1 n => exact .inr (.inr (.inr ⟨a, lo, hi, rfl, h1, of_decide_eq_true q1, h _ _ .refl rfl R1 it_rng⟩))
  | _ => cases l2
theorem it_rng1 (hg : Gl X "range") (hm : X.mg "range" = none) (ha : PE X a (tI X.K F ia)) (hs : unst a = true) : PI X tg (.Call (.Name "range" p) [a] [] pos) (tII X.K F (.rng1 ia)) := by
  refine PIi (pi_range1 hg hm (pa_cons ha pa_nil (starEach1 (nostar hs) _)) (starEach1 (nostar hs) _)) fun σ H R' ⟨U, B, L, env, R, h⟩ => ?_
  refine tI_bindI R h fun x env1 H1 z1 e1 k1 R1 v1 h => ?_
  match x, v1, h with
  | .va (.int n), v1, h =>
    cases v1
    obtain ⟨l1, h⟩ := h.ifB
    have l1 := of_decide_eq_true l1
    exact ⟨n, rfl, l1.1, l1.2, h _ _ .refl rfl R1 it_rng⟩
theorem it_rng2 (hg : Gl X "range") (hm : X.mg "range" = none) (ha : PE X a (tI X.K F ia)) (hb : PE X b (tI X.K F ib)) (hs : unst a = true) (hs2 : unst b = true) : PI X tg (.Call (.Name "range" p) [a, b] [] pos) (tII X.K F (.rng2 ia ib)) := by
  have q2 := starEach1 (env := X.env) (nostar hs2) []
  refine PIi (pi_range2 hg hm (pa_cons ha (pa_cons hb pa_nil q2) (starEach1 (nostar hs) _)) (by rw [starEach1 (nostar hs), q2]; rfl) (by rw [q2]; rfl)) fun σ H R' ⟨U, B, L, env, R, h⟩ => ?_
  refine tI_bindI R h fun x env1 H1 z1 e1 k1 R1 v1 h => ?_
  refine tI_bindI R1 h fun y env2 H2 z2 e2 k2 R2 v2 h => ?_
  match x, y, v1, v2, h with
  | .va (.int m), .va (.int n), v1, v2, h =>
    cases v1
    cases v2
    obtain ⟨l1, h⟩ := h.ifB
    exact ⟨m, n, rfl, of_decide_eq_true l1, h _ _ .refl rfl R2 it_rng⟩
theorem it_en {elts : List Expr} {kk : Nat} (hc : X.calm = true) (hg : Gl X "enumerate") (hm : X.mg "enumerate" = none) (ha : PE X a (tI X.K F ia)) (hs : unst a = true) : PI X (.Tuple elts kk tpos) (.Call (.Name "enumerate" p) [a] [] pos) (tII X.K F (.enum ia)) := by
  refine PIi (pi_en hc hg hm (pa_cons ha pa_nil (starEach1 (nostar hs) _)) hs) fun σ H R' ⟨U, B, L, env, R, h⟩ => ?_
  refine tI_bindI R h fun x env1 H1 z1 e1 k1 R1 v1 h => ?_
  obtain ⟨d, l1, h⟩ := h.ro
  obtain ⟨xs, l2, h⟩ := h.ro
  exact ⟨z1, rfl, src_of (W := Wof B L) (v1.dat l1) l2 fun S hS => h _ _ .refl rfl R1 (it_enum hS)⟩
theorem it_zp {elts : List Expr} {kk : Nat} (hc : X.calm = true) (hg : Gl X "zip") (hm : X.mg "zip" = none) (ha : PE X a (tI X.K F ia)) (hb : PE X b (tI X.K F ib)) (hs : [a, b].all unst = true) : PI X (.Tuple elts kk tpos) (.Call (.Name "zip" p) [a, b] [] pos) (tII X.K F (.zip ia ib)) := by
  refine PIi (pi_zp hc hg hm (pa_cons ha (pa_cons hb pa_nil (starEach1 (nostar (all_cons (all_cons hs).2).1) _)) (starEach1 (nostar (all_cons hs).1) _)) hs) fun σ H R' ⟨U, B, L, env, R, h⟩ => ?_
  refine tI_bindI R h fun x env1 H1 z1 e1 k1 R1 v1 h => ?_
  refine tI_bindI R1 h fun y env2 H2 z2 e2 k2 R2 v2 h => ?_
  obtain ⟨d, l1, h⟩ := h.ro
  obtain ⟨d', l1', h⟩ := h.ro
  obtain ⟨xs, l2, h⟩ := h.ro
  obtain ⟨ys, l2', h⟩ := h.ro
  exact ⟨z1, z2, rfl, src_of (W := Wof B L) ((v1.step R1 e2).dat l1) l2 fun S hS => src_of (W := Wof B L) (v2.dat l1') l2' fun T hT => h _ _ .refl rfl R2 (it_zip hS hT)⟩
end
end DI
end

section
set_option Elab.async false
set_option linter.all false
set_option maxRecDepth 100000
/-! Part 12: comprehensions. -/
namespace DI
open PySem PySem.Spec PyProof.Rows L2

section
variable {K : PySem.W.Frag} {U U' B L W : Addr → Prop} {σ σ' : L2.St} {env env' env0 env1 : Envi} {H H' H1 H2 H0 : Hp} {ds : List D}
theorem wipeE_len : ∀ vs : List Nat, (wipeE env vs).length = env.length
  | [] => rfl
  | i :: vs => by show ((wipeE env vs).set i .un).length = _; rw [List.length_set, wipeE_len vs]
theorem wipeE_out {j : Nat} : ∀ {vs : List Nat}, j ∉ vs → (wipeE env vs)[j]? = env[j]?
  | [], _ => rfl
  | i :: vs, h => by
    show ((wipeE env vs).set i .un)[j]? = _
    rw [List.getElem?_set_ne fun e => h (by rw [e]; exact List.mem_cons_self ..)]
    exact wipeE_out fun z => h (List.mem_cons_of_mem _ z)
theorem wipeE_in {j : Nat} {s : Sl} : ∀ {vs : List Nat}, j ∈ vs → (wipeE env vs)[j]? = some s → s = .un
  | i :: vs, h, e => by
    rcases get_set (show ((wipeE env vs).set i .un)[j]? = some s from e) with ⟨_, q⟩ | ⟨n, q⟩
    · exact q
    · exact wipeE_in ((List.mem_cons.mp h).resolve_left n) q
theorem restE_len : ∀ vs : List Nat, (restE env0 env vs).length = env.length
  | [] => rfl
  | i :: vs => by
    have ih := restE_len vs
    unfold restE
    split
    · rw [List.length_set, ih]
    · exact ih
theorem restE_out {j : Nat} : ∀ {vs : List Nat}, j ∉ vs → (restE env0 env vs)[j]? = env[j]?
  | [], _ => rfl
  | i :: vs, h => by
    have ih := restE_out (vs := vs) fun z => h (List.mem_cons_of_mem _ z)
    unfold restE
    split
    · rw [List.getElem?_set_ne fun e => h (by rw [e]; exact List.mem_cons_self ..)]
      exact ih
    · exact ih
theorem restE_in {j : Nat} : ∀ {vs : List Nat}, j ∈ vs → env0.length = env.length → (restE env0 env vs)[j]? = env0[j]?
  | i :: vs, h, hl => by
    by_cases e : j = i
    · subst e
      unfold restE
      cases q : env0[j]? with
      | none =>
        dsimp only
        rw [List.getElem?_eq_none_iff] at q ⊢
        rw [restE_len, ← hl]
        exact q
      | some s =>
        dsimp only
        rw [List.getElem?_set_self (by rw [restE_len, ← hl]; exact (List.getElem?_eq_some_iff.mp q).1)]
    · have ih := restE_in ((List.mem_cons.mp h).resolve_left e) hl
      unfold restE
      split
      · rw [List.getElem?_set_ne (Ne.symm e)]; exact ih
      · exact ih
theorem plain_at : ∀ {vs : List Nat}, plainAt env vs = true → ∀ j ∈ vs, ∃ s, env[j]? = some s ∧ s.own = false
  | i :: vs, h, j, hj => by
    obtain ⟨h1, h2⟩ := ba2 h
    rcases List.mem_cons.mp hj with rfl | hj
    · cases q : env[j]? with
      | none => rw [q] at h1; cases h1
      | some s => rw [q] at h1; exact ⟨s, rfl, by simpa using h1⟩
    · exact plain_at h2 j hj
theorem ER.wipe (R : ER K U B L env σ H) (vs : List Nat) : ER K U B L (wipeE env vs) (L2.wipe σ vs) H := by
  have out : ∀ (j : Nat) (t : Sl), (wipeE env vs)[j]? = some t → t.own = true → j ∉ vs ∧ env[j]? = some t := fun j t e w => by
    by_cases m : j ∈ vs
    · rw [wipeE_in m e] at w; cases w
    · exact ⟨m, by rw [← wipeE_out m]; exact e⟩
  refine ⟨by rw [wipeE_len, wipe_length]; exact R.len, fun j t e => ?_, fun j k t u a e1 e2 w1 w2 a1 a2 => ?_, R.bu, R.lu, R.tr⟩
  · by_cases m : j ∈ vs
    · rw [wipeE_in m e]; exact True.intro
    · rw [wipeE_out m] at e
      rw [wipe_out m]
      exact R.sl j t e
  · obtain ⟨m1, e1⟩ := out j t e1 w1
    obtain ⟨m2, e2⟩ := out k u e2 w2
    rw [wipe_out m1] at a1
    rw [wipe_out m2] at a2
    exact R.dj j k t u a e1 e2 w1 w2 a1 a2
/-- a reserved thing that is no name's changes -/
theorem ER.poke {p : Addr} {o : HO} (R : ER K U B L env σ H) (up : U p) (n : ¬ Wof B L p) : ER K U B L env σ (upd H p o) :=
  ⟨R.len, fun i s e => (R.sl i s e).other up fun w z => by
    obtain ⟨a, e1, w1⟩ := (R.sl i s e).addr w
    rw [z] at e1
    cases e1
    exact n w1, R.dj, R.bu, R.lu, fun a h => upd_more (R.tr a h)⟩
theorem wipe_in {vs : List Nat} {j : Nat} : j ∈ vs → (L2.wipe σ vs)[j]? = if j < σ.length then some none else none := by
  induction vs with
  | nil => intro h; cases h
  | cons i vs ih =>
    intro h
    show ((L2.wipe σ vs).set i none)[j]? = _
    by_cases e : i = j
    · subst e
      by_cases q : i < σ.length
      · rw [if_pos q, List.getElem?_set_self (by rw [wipe_length]; exact q)]
      · rw [if_neg q, List.getElem?_eq_none (by rw [List.length_set, wipe_length]; omega)]
    · rw [List.getElem?_set_ne e]
      exact ih ((List.mem_cons.mp h).resolve_left (Ne.symm e))
theorem wipe_same {vs : List Nat} (hl : σ'.length = σ.length) (h : ∀ j, j ∉ vs → σ'[j]? = (L2.wipe σ vs)[j]?) : L2.wipe σ' vs = L2.wipe σ vs := by
  apply List.ext_getElem?
  intro j
  by_cases m : j ∈ vs
  · rw [wipe_in m, wipe_in m, hl]
  · rw [wipe_out m, h j m]
def tCo (K : PySem.W.Frag) (F : CF) (c : Option') : TT := fun σ H Q => ∃ U B L env, ER K U B L env σ H ∧ PostT K U B L σ env H Q (evC' F c env)
theorem ER.back (R1 : ER K U B L env1 σ H1) {vs : List Nat} {p : Addr} (hp : plainAt env1 vs = true) (hl : env'.length = env1.length) (ev : Ev (Wof B L) H1 H) (hD : H1 p = none) (R : ER K (pl U p) B L (wipeE env' vs) (L2.wipe σ vs) H) : ER K (pl U p) B L (restE env1 env' vs) σ H := by
  have st : Step (Wof B L) U (pl U p) H1 H := ⟨ev, fun a z => z.elim (R1.bu a) (R1.lu a), fun a z => z.imp id fun z => by rw [z]; exact hD⟩
  have out : ∀ (j : Nat) (t : Sl), (restE env1 env' vs)[j]? = some t → t.own = true → j ∉ vs ∧ (wipeE env' vs)[j]? = some t ∧ (L2.wipe σ vs)[j]? = σ[j]? := fun j t e w => by
    by_cases m : j ∈ vs
    · rw [restE_in m hl.symm] at e
      obtain ⟨s, e1, w1⟩ := plain_at hp j m
      rw [e1] at e
      cases e
      rw [w1] at w
      cases w
    · exact ⟨m, by rw [wipeE_out m, ← restE_out m]; exact e, wipe_out m⟩
  refine ⟨by rw [restE_len, hl]; exact R1.len, fun j t e => ?_, fun j k t u a e1 e2 w1 w2 a1 a2 => ?_, R.bu, R.lu, R.tr⟩
  · by_cases m : j ∈ vs
    · rw [restE_in m hl.symm] at e
      obtain ⟨s, e1, w1⟩ := plain_at hp j m
      rw [e1] at e
      have e := Option.some.inj e
      subst e
      have r := R1.sl j s e1
      cases s with
      | un => exact True.intro
      | va d => obtain ⟨v, q1, q2⟩ := r; exact ⟨v, q1, q2.mono st⟩
      | li b ds => cases w1
      | di b ds => cases w1
    · have r := R.sl j t (by rw [wipeE_out m, ← restE_out m]; exact e)
      rw [wipe_out m] at r
      exact r
  · obtain ⟨m1, e1, s1⟩ := out j t e1 w1
    obtain ⟨m2, e2, s2⟩ := out k u e2 w2
    exact R.dj j k t u a e1 e2 w1 w2 (by rw [s1]; exact a1) (by rw [s2]; exact a2)
theorem tCo_bind {F : CF} {c : Option'} {Q : VK} {k : Bool × Envi → Res (Vl × Envi)} {T : Bool → Hp → Prop} {U2 : Addr → Prop} {σ2 : L2.St} {env2 : Envi} {H3 : Hp} (R : ER K U2 B L env2 σ2 H3) (h : PostE K U B L σ env H Q ((evC' F c env2).bind k))
    (hk : ∀ b env1 H1, Ev (Wof B L) H3 H1 → SameK env2 env1 → ER K U2 B L env1 σ2 H1 → PostE K U B L σ env H Q (k (b, env1)) → T b H1) : tCo K F c σ2 H3 T := by
  refine ⟨U2, B, L, env2, R, ?_⟩
  cases e : evC' F c env2 with
  | bad => rw [e] at h; exact h
  | ok p =>
    obtain ⟨x, env1⟩ := p
    rw [e] at h
    exact fun H1 e1 k1 R1 => hk x env1 H1 e1 k1 R1 h
theorem PostE.bindI {α β : Type} {Q : VK} {r : Res α} {k : α → Res β} {k' : β → Res (Vl × Envi)} (h : PostE K U B L σ env H Q ((r.bind k).bind k')) : ∃ a, r = .ok a ∧ PostE K U B L σ env H Q ((k a).bind k') := by
  cases r with
  | bad => exact h.elim
  | ok a => exact ⟨a, rfl, h⟩
theorem comp_ok {F : CF} {elt : IE} {tg : ITg} {it : II} {c : Option'} {own : List (Str × Nat)} {Q : VK} (hsub : ∀ i ∈ tgN tg, i ∈ own.map (·.2)) (h : tI K F (.comp elt tg it c own) σ H Q) : tLc (tII K F it) (gI K F tg) (tCo K F c) (tI K F elt) (own.map (·.2)) σ H Q := by
  obtain ⟨U, B, L, env, R, h⟩ := h
  refine ⟨U, B, L, env, R, ?_⟩
  unfold evE at h
  cases q : evI F it env with
  | bad => rw [q] at h; exact h
  | ok p =>
    obtain ⟨ds, env1⟩ := p
    rw [q] at h
    intro J H1 e1 k1 R1 hJ D hD
    have h := h.step e1 k1
    obtain ⟨hp, h⟩ := h.ifB
    generalize own.map (·.2) = vs at hsub hp h ⊢
    have nD : ¬ Wof B L D := fun z => R1.tr D (z.elim (R1.bu D) (R1.lu D)) hD
    have nU : ¬ U D := fun z => R1.tr D z hD
    have hk1 : ∀ {H' : Hp}, Ev (Wof B L) H1 H' → Step (Wof B L) U (pl U D) H1 H' := fun ev => ⟨ev, fun a z => z.elim (R1.bu a) (R1.lu a), fun a z => z.imp id fun z => by rw [z]; exact hD⟩
    refine ⟨fun i m H' => m = ds.length - i ∧ i ≤ ds.length ∧ ∃ env' acc us, Ev (Wof B L) H1 H' ∧ ER K (pl U D) B L (wipeE env' vs) (L2.wipe σ vs) H' ∧ env'.length = env1.length ∧ (∀ j, j ∉ vs → (env'[j]?).map Sl.kd = (env1[j]?).map Sl.kd) ∧ H' D = some (.lst us) ∧ VRs K (pl U D) H' acc us ∧
      PostE K U B L σ env1 H1 Q ((compL (fun d e => asgT F tg d e) (fun e => evC' F c e) (fun e => (evE F elt e).bind fun q => (ro (dat q.1)).bind fun d => .ok (d, q.2)) vs (ds.drop i) env' acc).bind fun r => .ok (.ol r.1, restE env1 r.2 vs)),
      ⟨ds.length, rfl, Nat.zero_le _, env1, [], [], .new hD, (R1.more (.new hD) hD (by rw [upd_same]; exact fun z => nomatch z)).wipe vs, rfl, fun _ _ => rfl, upd_same, .nil, by rw [List.drop_zero]; exact h⟩, ?_⟩
    rintro i m H2 ⟨rfl, hi, env2, acc, us, ev2, R2, hl2, hk2, hD2, ra, h2⟩
    have tr2 := R2.tr
    by_cases hlt : i < ds.length
    · right
      have hd : ds[i]? = some ds[i] := List.getElem?_eq_getElem hlt
      rw [List.drop_eq_getElem_cons hlt] at h2
      obtain ⟨go, yl⟩ := (hJ (pl U D) H2 i (hk1 ev2) tr2).1 _ hd
      refine ⟨go, _, fun H' w => ⟨ds.length - (i + 1), by omega, w⟩, fun x H3 y => ?_⟩
      obtain ⟨ev3, rx⟩ := yl x H3 y
      obtain ⟨env3, q3, h3⟩ := h2.bindI
      refine ⟨pl U D, B, L, wipeE env2 vs, ds[i], R2.grow ev3, rx, ?_⟩
      rw [show asgT F tg ds[i] (wipeE env2 vs) = .ok env3 from q3]
      intro H4 σ4 ev4 kb4 ks4 R4
      have sub4 : ∀ j, j ∉ vs → j ∉ tgN tg := fun j hj z => hj (hsub j z)
      have hl4 : env3.length = env1.length := by rw [kb4.len, wipeE_len, hl2]
      have hs4 : L2.wipe σ4 vs = L2.wipe σ vs := wipe_same (by rw [← R4.len, hl4, R1.len]) fun j hj => (ks4 j (sub4 j hj)).1
      have ev24 : Ev (Wof B L) H2 H4 := (ev3.mono fun _ z => False.elim z).trans ev4
      have st24 : Step (Wof B L) (pl U D) (pl U D) H2 H4 := R2.step ev24
      have kd4 : ∀ j, j ∉ vs → (env3[j]?).map Sl.kd = (env1[j]?).map Sl.kd := fun j hj => by
        rw [(ks4 j (sub4 j hj)).2, wipeE_out hj]
        exact hk2 j hj
      have hD4 : H4 D = some (.lst us) := ev24.keep _ _ hD2 nD
      have ra4 := ra.mono st24
      refine ⟨hs4, tCo_bind R4 (by rw [Res.bind_assoc] at h3; exact h3) fun b env5 H5 ev5 k5 R5 h5 => ?_⟩
      have hD5 : H5 D = some (.lst us) := ev5.keep _ _ hD4 nD
      have ra5 := ra4.mono (R4.step ev5)
      have ev25 := ev24.trans ev5
      have l5 : env5.length = env1.length := by rw [← hl4]; have := congrArg List.length k5; simpa using this
      have kd5 : ∀ j, j ∉ vs → (env5[j]?).map Sl.kd = (env1[j]?).map Sl.kd := fun j hj => (k5.at j).trans (kd4 j hj)
      cases b with
      | false =>
        refine ⟨rfl, hlt, env5, acc, us, ev2.trans ev25, ?_, l5, kd5, hD5, ra5, h5⟩
        rw [← hs4]
        exact R5.wipe vs
      | true =>
        have h5 : PostE K U B L σ env1 H1 Q ((((evE F elt env5).bind fun q => (ro (dat q.1)).bind fun d => .ok (d, q.2)).bind fun q => if decide (acc.length < sizeLine) = true then
          compL (fun d e => asgT F tg d e) (fun e => evC' F c e) (fun e => (evE F elt e).bind fun q => (ro (dat q.1)).bind fun d => .ok (d, q.2)) vs (ds.drop (i + 1)) q.2 (acc ++ [q.1]) else .bad).bind fun r => .ok (.ol r.1, restE env1 r.2 vs)) := h5
        rw [Res.bind_assoc] at h5
        refine ⟨pl U D, B, L, env5, R5, ?_⟩
        obtain ⟨p6, q6, h6⟩ := h5.bindI
        obtain ⟨x6, env6⟩ := p6
        rw [q6]
        intro H6 z6 ev6 k6 o6
        have R6 := o6.er R5
        have v6 := o6.vs R5
        have h6 : PostE K U B L σ env1 H1 Q (((ro (dat x6)).bind fun d => Res.ok (d, env6)).bind fun q => (if decide (acc.length < sizeLine) = true then
          compL (fun d e => asgT F tg d e) (fun e => evC' F c e) (fun e => (evE F elt e).bind fun q => (ro (dat q.1)).bind fun d => .ok (d, q.2)) vs (ds.drop (i + 1)) q.2 (acc ++ [q.1]) else .bad).bind fun r => .ok (.ol r.1, restE env1 r.2 vs)) := h6
        rw [Res.bind_assoc] at h6
        obtain ⟨d6, l6, h6⟩ := h6.ro
        rw [Res.ok_bind] at h6
        have hD6 : H6 D = some (.lst us) := ev6.keep _ _ hD5 nD
        have l7 : decide (acc.length < sizeLine) = true := by
          cases q : decide (acc.length < sizeLine) with
          | true => rfl
          | false => rw [q] at h6; exact h6.elim
        rw [l7, if_pos rfl] at h6
        have st6 : Step (fun x => x = D) (pl U D) (pl U D) H6 (upd H6 D (.lst (us ++ [z6]))) := Step.at (.inr rfl)
        refine ⟨us, hD6, by rw [← ra.length]; exact of_decide_eq_true l7, rfl, hlt, env6, acc ++ [d6], us ++ [z6], ?_, ?_, ?_, fun j hj => (k6.at j).trans (kd5 j hj), upd_same, ?_, h6⟩
        · exact ((ev2.trans ev25).trans ev6).trans2 (Ev.set (W := fun x => x = D) rfl) fun a z => .inr (by rw [z]; exact hD)
        · rw [← hs4]
          exact (R6.poke (.inr rfl) nD).wipe vs
        · rw [← l5]; have := congrArg List.length k6; simpa using this
        · exact (((ra5.mono (R5.step ev6)).append (.cons (v6.dat l6) .nil))).mono st6
    · left
      have e : i = ds.length := by omega
      subst e
      rw [List.drop_length] at h2
      refine ⟨(hJ (pl U D) H2 _ (hk1 ev2) tr2).2 rfl, ?_⟩
      have h2 : PostE K U B L σ env1 H1 Q (.ok (.ol acc, restE env1 env2 vs)) := h2
      refine h2 H2 _ ev2 ?_ ⟨D, us, rfl, hD, hD2, R1.back hp hl2 ev2 hD R2, ra⟩
      unfold SameK
      apply List.ext_getElem?
      intro j
      rw [List.getElem?_map, List.getElem?_map]
      by_cases mm : j ∈ vs
      · rw [restE_in mm hl2.symm]
      · rw [restE_out mm]; exact hk2 j mm
end
section
variable {X : Cx} {F : CF} {elt tg iter : Expr} {ifs : List Expr} {scope : Scope} {own : List (Str × Nat)} {pos : Pos} {ie : IE} {itg : ITg} {it : II} {c : Option'}
theorem co_no : PTs X [] (tCo X.K F .no) := ⟨fun pins s σ H Q I ⟨U, B, L, env, R, h⟩ => pts_nil.run pins s σ H Q I (h H .refl rfl R)⟩
theorem co_so {e : Expr} {ic : IT} (h : PT X e (tTt X.K F ic)) : PTs X [e] (tCo X.K F (.so ic)) := ⟨fun pins s σ H Q I q => (pts_one h).run pins s σ H Q I q⟩
def notSet : Expr → Bool
  | .Set .. => false
  | _ => true
theorem fold_ok {e : Expr} {env : Env} (h : notSet e = true) (x : Value) : foldedSetIterable e env x = pure x := by
  cases e <;> first | rfl | cases h
theorem i_comp (hc : X.calm = true) (hN : X.N.Nodup) (hi : PI X tg iter (tII X.K F it)) (ok : BlkOk X.N X.env.scope scope own) (hsub : ∀ i ∈ tgN itg, i ∈ own.map (·.2)) (hf : notSet iter = true)
    (hg : ∀ (s : Shared) (H : Hp) (C : Addr) (cl : List (Str × Addr)) (fp : List Addr), PG (X.blk s H scope (compEnvC scope cl C X.env) fp) tg (gI X.K F itg)) (ht : ∀ (s : Shared) (H : Hp) (C : Addr) (cl : List (Str × Addr)) (fp : List Addr), PTs (X.blk s H scope (compEnvC scope cl C X.env) fp) ifs (tCo X.K F c))
    (he : ∀ (s : Shared) (H : Hp) (C : Addr) (cl : List (Str × Addr)) (fp : List Addr), PE (X.blk s H scope (compEnvC scope cl C X.env) fp) elt (tI X.K F ie)) : PE X (.ListComp elt [⟨tg, iter, ifs, 0⟩] scope pos) (tI X.K F (.comp ie itg it c own)) :=
  PE_imp (pe_lc hc hN hi ok hg ht he (fun x => fold_ok hf x)) fun σ H Q h => comp_ok hsub h
end
end DI
end

section
set_option Elab.async false
set_option linter.all false
set_option maxRecDepth 100000
/-! Part 13: statements. -/
namespace DI
open PySem PySem.Spec PyProof.Rows L2

/-- E: what was reserved at the def's entry -/
structure SI (E B U L : Addr → Prop) : Prop where
  be : ∀ a, B a → E a
  eu : ∀ a, E a → U a
  el : ∀ a, L a → ¬ E a
structure Aft (K : PySem.W.Frag) (E U B L : Addr → Prop) (σ : L2.St) (env : Envi) (H : Hp) (U' L' : Addr → Prop) (σ' : L2.St) (env' : Envi) (H' : Hp) : Prop where
  ev : Ev (Wof B L) H H'
  uu : ∀ a, U' a → U a ∨ H a = none
  ll : ∀ a, L' a → L a ∨ H a = none
  kb : KB env σ env' σ'
  er : ER K U' B L' env' σ' H'
  si : SI E B U' L'
def RtR (K : PySem.W.Frag) (U' : Addr → Prop) (σ' : L2.St) (H H' : Hp) : Vl → V → Prop
  | .va d, z => VR K U' H' d z
  | .ol ds, z => ∃ p vs, z = .ref p ∧ H p = none ∧ U' p ∧ H' p = some (.lst vs) ∧ VRs K U' H' ds vs
  | .od kvs, z => ∃ p us, z = .ref p ∧ H p = none ∧ U' p ∧ H' p = some (.dK us) ∧ VKs K U' H' kvs us
  | .vw i, z => σ'[i]? = some (some z)
def PostS (K : PySem.W.Frag) (E U B L : Addr → Prop) (σ : L2.St) (env : Envi) (H : Hp) (T : Ends) : Res (Fl × Envi) → Prop
  | .ok (f, env') => ∀ U' L' σ' H', Aft K E U B L σ env H U' L' σ' env' H' → (match f with
    | .nx => T.nx σ' H'
    | .br => T.bk σ' H'
    | .ct => T.ct σ' H'
    | .rt x => ∀ z, RtR K U' σ' H H' x z → T.rt z H')
  | .bad => False
def tS (K : PySem.W.Frag) (F : CF) (s : IS) : TS := fun T σ H => ∃ E U B L env, ER K U B L env σ H ∧ SI E B U L ∧ PostS K E U B L σ env H T (evS F s env)
def tSs (K : PySem.W.Frag) (F : CF) (s : ISs) : TS := fun T σ H => ∃ E U B L env, ER K U B L env σ H ∧ SI E B U L ∧ PostS K E U B L σ env H T (evSs F s env)

section
variable {K : PySem.W.Frag} {E U U' U1 B L L' L1 W : Addr → Prop} {σ σ' σ1 : L2.St} {env env' env0 env1 : Envi} {H H' H1 H2 H0 : Hp} {ds : List D} {T : Ends}
theorem Aft.refl (R : ER K U B L env σ H) (S : SI E B U L) : Aft K E U B L σ env H U L σ env H := ⟨.refl, fun _ z => .inl z, fun _ z => .inl z, SameK.kb rfl, R, S⟩
theorem Aft.trans (a : Aft K E U B L σ env H U1 L1 σ1 env1 H1) (b : Aft K E U1 B L1 σ1 env1 H1 U' L' σ' env' H') : Aft K E U B L σ env H U' L' σ' env' H' :=
  ⟨a.ev.trans2 b.ev fun x z => by
      rcases z with z | z
      · exact .inl (.inl z)
      · exact (a.ll x z).imp .inr id,
    fun x z => by
      rcases b.uu x z with z | z
      · exact a.uu x z
      · exact .inr (a.ev.none z),
    fun x z => by
      rcases b.ll x z with z | z
      · exact a.ll x z
      · exact .inr (a.ev.none z), a.kb.trans b.kb, b.er, b.si⟩
theorem RtR.back {x : Vl} {z : V} (e : Ev W H H1) (r : RtR K U' σ' H1 H' x z) : RtR K U' σ' H H' x z := by
  cases x with
  | va d => exact r
  | vw i => exact r
  | ol ds => obtain ⟨p, vs, h1, h2, r⟩ := r; exact ⟨p, vs, h1, e.none h2, r⟩
  | od ds => obtain ⟨p, vs, h1, h2, r⟩ := r; exact ⟨p, vs, h1, e.none h2, r⟩
theorem PostS.step {r : Res (Fl × Envi)} (h : PostS K E U B L σ env H T r) (a : Aft K E U B L σ env H U1 L1 σ1 env1 H1) : PostS K E U1 B L1 σ1 env1 H1 T r := by
  cases r with
  | bad => exact h
  | ok p =>
    obtain ⟨f, env'⟩ := p
    intro U' L' σ' H' b
    have q := h U' L' σ' H' (a.trans b)
    cases f with
    | nx => exact q
    | br => exact q
    | ct => exact q
    | rt x => exact fun z r => q z (r.back a.ev)
/-- behind an expression -/
theorem Aft.expr {x : Vl} {z : V} (R : ER K U B L env σ H) (S : SI E B U L) (e : Ev (Wof B L) H H') (k : SameK env env') (o : OutR K U B L σ H H' env' x z) : Aft K E U B L σ env H U L σ env' H' := ⟨e, fun _ z => .inl z, fun _ z => .inl z, k.kb, o.er R, S⟩
theorem PostS.ro {α : Type} {o : Option α} {k : α → Res (Fl × Envi)} (h : PostS K E U B L σ env H T ((ro o).bind k)) : ∃ a, o = some a ∧ PostS K E U B L σ env H T (k a) := by
  cases o with
  | none => exact h.elim
  | some a => exact ⟨a, rfl, h⟩

/-! ### what is to be stored -/
inductive NVs (K : PySem.W.Frag) (U U' : Addr → Prop) (H : Hp) : List Vl → List V → List Addr → Prop
  | nil : NVs K U U' H [] [] []
  | va {d : D} {z : V} {xs : List Vl} {zs : List V} {ps : List Addr} : VR K U' H d z → NVs K U U' H xs zs ps → NVs K U U' H (.va d :: xs) (z :: zs) ps
  | ol {ds : List D} {p : Addr} {vs : List V} {xs : List Vl} {zs : List V} {ps : List Addr} : H p = some (.lst vs) → VRs K U' H ds vs → U' p → ¬ U p → p ∉ ps → NVs K U U' H xs zs ps → NVs K U U' H (.ol ds :: xs) (.ref p :: zs) (p :: ps)
  | od {ds : List (Key × D)} {p : Addr} {vs : List (Key × V)} {xs : List Vl} {zs : List V} {ps : List Addr} : H p = some (.dK vs) → VKs K U' H ds vs → U' p → ¬ U p → p ∉ ps → NVs K U U' H xs zs ps → NVs K U U' H (.od ds :: xs) (.ref p :: zs) (p :: ps)
  | vw {i : Nat} {z : V} {xs : List Vl} {zs : List V} {ps : List Addr} : NVs K U U' H xs zs ps → NVs K U U' H (.vw i :: xs) (z :: zs) ps
theorem NVs.len : ∀ {xs : List Vl} {zs : List V} {ps : List Addr}, NVs K U U' H xs zs ps → xs.length = zs.length
  | _, _, _, .nil => rfl
  | _, _, _, .va _ r => congrArg (· + 1) r.len
  | _, _, _, .ol _ _ _ _ _ r => congrArg (· + 1) r.len
  | _, _, _, .od _ _ _ _ _ r => congrArg (· + 1) r.len
  | _, _, _, .vw r => congrArg (· + 1) r.len
theorem NVs.new : ∀ {xs : List Vl} {zs : List V} {ps : List Addr}, NVs K U U' H xs zs ps → ∀ q ∈ ps, U' q ∧ ¬ U q
  | _, _, _, .nil, q, h => nomatch h
  | _, _, _, .va _ r, q, h => r.new q h
  | _, _, _, .ol _ _ u n _ r, q, h => (List.mem_cons.mp h).elim (fun e => by rw [e]; exact ⟨u, n⟩) (r.new q)
  | _, _, _, .od _ _ u n _ r, q, h => (List.mem_cons.mp h).elim (fun e => by rw [e]; exact ⟨u, n⟩) (r.new q)
  | _, _, _, .vw r, q, h => r.new q h
theorem NVs.less (hu : ∀ a, U a → U1 a) : ∀ {xs : List Vl} {zs : List V} {ps : List Addr}, NVs K U1 U' H xs zs ps → NVs K U U' H xs zs ps
  | _, _, _, .nil => .nil
  | _, _, _, .va r t => .va r (t.less hu)
  | _, _, _, .ol a b c d e t => .ol a b c (fun z => d (hu _ z)) e (t.less hu)
  | _, _, _, .od a b c d e t => .od a b c (fun z => d (hu _ z)) e (t.less hu)
  | _, _, _, .vw t => .vw (t.less hu)
theorem NVs.weak (hu : ∀ a, U1 a → U' a) : ∀ {xs : List Vl} {zs : List V} {ps : List Addr}, (∀ q ∈ ps, U1 q) → NVs K U U' H xs zs ps → NVs K U U1 H xs zs ps
  | _, _, _, _, .nil => .nil
  | _, _, _, g, .va r t => .va (r.mono (Step.weak hu)) (t.weak hu g)
  | _, _, _, g, .ol a b c d e t => .ol a (b.mono (Step.weak hu)) (g _ (List.mem_cons_self ..)) d e (t.weak hu fun q h => g q (List.mem_cons_of_mem _ h))
  | _, _, _, g, .od a b c d e t => .od a (b.mono (Step.weak hu)) (g _ (List.mem_cons_self ..)) d e (t.weak hu fun q h => g q (List.mem_cons_of_mem _ h))
  | _, _, _, g, .vw t => .vw (t.weak hu g)
def setAll (σ : L2.St) : List (Nat × Bool) → List V → L2.St
  | (i, _) :: is, z :: zs => setAll (σ.set i (some z)) is zs
  | _, _ => σ
/-- all are stored -/
theorem par_store (be : ∀ a, B a → E a) (eu : ∀ a, E a → U a) : ∀ {is : List (Nat × Bool)} {xs : List Vl} {zs : List V} {ps : List Addr} {U' L' : Addr → Prop} {env : Envi} {σ : L2.St}, ER K U' B L' env σ H → NVs K U U' H xs zs ps → (∀ a, U a → U' a) → (∀ a, L' a → ¬ E a) → (∀ q ∈ ps, ¬ L' q) → parS env is xs = .ok env' →
    ∃ U'' L'', (∀ a, U'' a → U' a) ∧ (∀ a, L'' a → L' a ∨ ¬ U a ∧ U' a) ∧ KB env σ env' (setAll σ is zs) ∧ ER K U'' B L'' env' (setAll σ is zs) H ∧ SI E B U'' L''
  | [], [], _, _, U', L', env, σ, R, .nil, ut, le, nl, h => by
    cases h
    exact ⟨U', L', fun _ z => z, fun _ z => .inl z, SameK.kb rfl, R, be, fun a z => ut a (eu a z), le⟩
  | (i, k) :: is, .vw _ :: xs, _, _, _, _, _, _, _, _, _, _, _, h => nomatch h
  | (i, k) :: is, .va d :: xs, z :: zs, ps, U', L', env, σ, R, .va r t, ut, le, nl, h => by
    have h : ((sto env i (.va d)).bind fun env1 => parS env1 is xs) = .ok env' := h
    cases q : sto env i (.va d) with
    | bad => rw [q] at h; cases h
    | ok env1 =>
      rw [q] at h
      obtain ⟨h1, h2, rfl⟩ := sto_ok q
      have R1 := R.sto (s := .va d) h2 ⟨z, rfl, r⟩ fun z => nomatch z
      obtain ⟨U'', L'', a1, a2, a3, a4, a5⟩ := par_store be eu R1 t ut le nl h
      exact ⟨U'', L'', a1, a2, (kb_set h1 rfl).trans a3, a4, a5⟩
  | (i, k) :: is, .ol ds :: xs, _, p :: ps, U', L', env, σ, R, .ol (vs := vs) hp r up nu hn t, ut, le, nl, h => by
    have far : ∀ (j : Nat) (t : Sl), env[j]? = some t → t.own = true → σ[j]? ≠ some (some (.ref p)) := fun j t e w z => by
      obtain ⟨a, e1, w1⟩ := (R.sl j t e).addr w
      rw [z] at e1
      cases e1
      rcases w1 with w1 | w1
      · exact nu (eu _ (be _ w1))
      · exact nl p (List.mem_cons_self ..) w1
    cases k with
    | true =>
      have h : ((sto env i (.li false ds)).bind fun env1 => parS env1 is xs) = .ok env' := h
      cases q : sto env i (.li false ds) with
      | bad => rw [q] at h; cases h
      | ok env1 =>
        rw [q] at h
        obtain ⟨h1, h2, rfl⟩ := sto_ok q
        have R0 : ER K U' B (pl L' p) env σ H := ⟨R.len, fun j s e => by
          have q := R.sl j s e
          cases s with
          | un => exact q
          | va d => exact q
          | li b ys => obtain ⟨a, us, q1, q2, q3⟩ := q; exact ⟨a, us, q1, by cases b <;> simp at q2 ⊢ <;> first | exact q2 | exact .inl q2, q3⟩
          | di b ys => obtain ⟨a, us, q1, q2, q3⟩ := q; exact ⟨a, us, q1, by cases b <;> simp at q2 ⊢ <;> first | exact q2 | exact .inl q2, q3⟩, R.dj, R.bu, fun a z => z.elim (R.lu a) fun z => by rw [z]; exact up, R.tr⟩
        have R1 := R0.sto (s := .li false ds) (v := .ref p) h2 ⟨p, vs, rfl, .inr rfl, hp, r⟩ fun _ j t e w z => absurd z (far j t e w)
        obtain ⟨U'', L'', a1, a2, a3, a4, a5⟩ := par_store be eu R1 t ut (fun a z => z.elim (le a) fun z => by rw [z]; exact fun z => nu (eu _ z)) (fun q hq z => z.elim (nl q (List.mem_cons_of_mem _ hq)) fun z => hn (by rw [← z]; exact hq)) h
        exact ⟨U'', L'', a1, fun a z => (a2 a z).elim (fun z => z.elim .inl fun z => .inr (by rw [z]; exact ⟨nu, up⟩)) .inr, (kb_set h1 rfl).trans a3, a4, a5⟩
    | false =>
      have h : ((sto env i (.va (.lst ds))).bind fun env1 => parS env1 is xs) = .ok env' := h
      cases q : sto env i (.va (.lst ds)) with
      | bad => rw [q] at h; cases h
      | ok env1 =>
        rw [q] at h
        obtain ⟨h1, h2, rfl⟩ := sto_ok q
        have hw : ∀ a, U' a ∧ a ≠ p → U' a := fun a z => z.1
        have R0 : ER K (fun a => U' a ∧ a ≠ p) B L' env σ H := R.weak hw (fun a z => ⟨R.bu a z, fun e => nu (by rw [← e]; exact eu a (be a z))⟩) fun a z => ⟨R.lu a z, fun e => nl p (List.mem_cons_self ..) (by rw [← e]; exact z)⟩
        have R1 := R0.sto (s := .va (.lst ds)) (v := .ref p) h2 ⟨.ref p, rfl, .lst hp (fun z => z.2 rfl) (r.mono (Step.weak hw))⟩ fun z => nomatch z
        obtain ⟨U'', L'', a1, a2, a3, a4, a5⟩ := par_store be eu R1 (t.weak hw fun q hq => ⟨(t.new q hq).1, fun e => hn (by rw [← e]; exact hq)⟩) (fun a z => ⟨ut a z, fun e => nu (by rw [← e]; exact z)⟩) le (fun q hq => nl q (List.mem_cons_of_mem _ hq)) h
        exact ⟨U'', L'', fun a z => (a1 a z).1, fun a z => (a2 a z).imp id fun z => ⟨z.1, z.2.1⟩, (kb_set h1 rfl).trans a3, a4, a5⟩
  | (i, k) :: is, .od ds :: xs, _, p :: ps, U', L', env, σ, R, .od (vs := vs) hp r up nu hn t, ut, le, nl, h => by
    have far : ∀ (j : Nat) (t : Sl), env[j]? = some t → t.own = true → σ[j]? ≠ some (some (.ref p)) := fun j t e w z => by
      obtain ⟨a, e1, w1⟩ := (R.sl j t e).addr w
      rw [z] at e1
      cases e1
      rcases w1 with w1 | w1
      · exact nu (eu _ (be _ w1))
      · exact nl p (List.mem_cons_self ..) w1
    cases k with
    | true =>
      have h : ((sto env i (.di false ds)).bind fun env1 => parS env1 is xs) = .ok env' := h
      cases q : sto env i (.di false ds) with
      | bad => rw [q] at h; cases h
      | ok env1 =>
        rw [q] at h
        obtain ⟨h1, h2, rfl⟩ := sto_ok q
        have R0 : ER K U' B (pl L' p) env σ H := ⟨R.len, fun j s e => by
          have q := R.sl j s e
          cases s with
          | un => exact q
          | va d => exact q
          | li b ys => obtain ⟨a, us, q1, q2, q3⟩ := q; exact ⟨a, us, q1, by cases b <;> simp at q2 ⊢ <;> first | exact q2 | exact .inl q2, q3⟩
          | di b ys => obtain ⟨a, us, q1, q2, q3⟩ := q; exact ⟨a, us, q1, by cases b <;> simp at q2 ⊢ <;> first | exact q2 | exact .inl q2, q3⟩, R.dj, R.bu, fun a z => z.elim (R.lu a) fun z => by rw [z]; exact up, R.tr⟩
        have R1 := R0.sto (s := .di false ds) (v := .ref p) h2 ⟨p, vs, rfl, .inr rfl, hp, r⟩ fun _ j t e w z => absurd z (far j t e w)
        obtain ⟨U'', L'', a1, a2, a3, a4, a5⟩ := par_store be eu R1 t ut (fun a z => z.elim (le a) fun z => by rw [z]; exact fun z => nu (eu _ z)) (fun q hq z => z.elim (nl q (List.mem_cons_of_mem _ hq)) fun z => hn (by rw [← z]; exact hq)) h
        exact ⟨U'', L'', a1, fun a z => (a2 a z).elim (fun z => z.elim .inl fun z => .inr (by rw [z]; exact ⟨nu, up⟩)) .inr, (kb_set h1 rfl).trans a3, a4, a5⟩
    | false =>
      have h : ((sto env i (.va (.dct ds))).bind fun env1 => parS env1 is xs) = .ok env' := h
      cases q : sto env i (.va (.dct ds)) with
      | bad => rw [q] at h; cases h
      | ok env1 =>
        rw [q] at h
        obtain ⟨h1, h2, rfl⟩ := sto_ok q
        have hw : ∀ a, U' a ∧ a ≠ p → U' a := fun a z => z.1
        have R0 : ER K (fun a => U' a ∧ a ≠ p) B L' env σ H := R.weak hw (fun a z => ⟨R.bu a z, fun e => nu (by rw [← e]; exact eu a (be a z))⟩) fun a z => ⟨R.lu a z, fun e => nl p (List.mem_cons_self ..) (by rw [← e]; exact z)⟩
        have R1 := R0.sto (s := .va (.dct ds)) (v := .ref p) h2 ⟨.ref p, rfl, .dct hp (fun z => z.2 rfl) (r.mono (Step.weak hw))⟩ fun z => nomatch z
        obtain ⟨U'', L'', a1, a2, a3, a4, a5⟩ := par_store be eu R1 (t.weak hw fun q hq => ⟨(t.new q hq).1, fun e => hn (by rw [← e]; exact hq)⟩) (fun a z => ⟨ut a z, fun e => nu (by rw [← e]; exact z)⟩) le (fun q hq => nl q (List.mem_cons_of_mem _ hq)) h
        exact ⟨U'', L'', fun a z => (a1 a z).1, fun a z => (a2 a z).imp id fun z => ⟨z.1, z.2.1⟩, (kb_set h1 rfl).trans a3, a4, a5⟩
  | [], _ :: _, _, _, _, _, _, _, _, _, _, _, _, h => nomatch h
  | _ :: _, [], _, _, _, _, _, _, _, _, _, _, _, h => by cases h
end
end DI
end

section
set_option Elab.async false
set_option linter.all false
set_option maxRecDepth 100000
/-! Part 14: each statement. -/
namespace DI
open PySem PySem.Spec PyProof.Rows L2

section
variable {K : PySem.W.Frag} {E U U' U1 B L L' L1 W : Addr → Prop} {σ σ' σ1 : L2.St} {env env' env0 env1 : Envi} {H H' H1 H2 H0 : Hp} {T : Ends} {F : CF}
/-- what stands behind an expression, ready to be stored -/
theorem OutR.nv {x : Vl} {z : V} (R : ER K U B L env σ H) (o : OutR K U B L σ H H' env' x z) : ∃ U' ps, ER K U' B L env' σ H' ∧ (∀ a, U a → U' a) ∧ (∀ a, U' a → U a ∨ H a = none) ∧ NVs K U U' H' [x] [z] ps := by
  cases x with
  | va d => exact ⟨U, [], o.1, fun _ z => z, fun _ z => .inl z, .va o.2 .nil⟩
  | vw i => exact ⟨U, [], o.1, fun _ z => z, fun _ z => .inl z, .vw .nil⟩
  | ol ds => obtain ⟨p, vs, rfl, h1, h2, S, r⟩ := o; exact ⟨pl U p, [p], S, fun _ z => .inl z, fun a z => z.imp id fun z => by rw [z]; exact h1, .ol h2 r (.inr rfl) (R.nou h1) (by simp) .nil⟩
  | od ds => obtain ⟨p, vs, rfl, h1, h2, S, r⟩ := o; exact ⟨pl U p, [p], S, fun _ z => .inl z, fun a z => z.imp id fun z => by rw [z]; exact h1, .od h2 r (.inr rfl) (R.nou h1) (by simp) .nil⟩
theorem OutR.rt {x : Vl} {z : V} (R : ER K U B L env σ H) (S : SI E B U L) (e : Ev (Wof B L) H H') (k : SameK env env') (o : OutR K U B L σ H H' env' x z) : ∃ U', Aft K E U B L σ env H U' L σ env' H' ∧ RtR K U' σ H H' x z := by
  cases x with
  | va d => exact ⟨U, .expr R S e k o, o.2⟩
  | vw i => exact ⟨U, .expr R S e k o, o.2⟩
  | ol ds =>
    obtain ⟨p, vs, rfl, h1, h2, R', r⟩ := o
    exact ⟨pl U p, ⟨e, fun a z => z.imp id fun z => by rw [z]; exact h1, fun _ z => .inl z, k.kb, R', S.be, fun a z => .inl (S.eu a z), S.el⟩, p, vs, rfl, h1, .inr rfl, h2, r⟩
  | od ds =>
    obtain ⟨p, vs, rfl, h1, h2, R', r⟩ := o
    exact ⟨pl U p, ⟨e, fun a z => z.imp id fun z => by rw [z]; exact h1, fun _ z => .inl z, k.kb, R', S.be, fun a z => .inl (S.eu a z), S.el⟩, p, vs, rfl, h1, .inr rfl, h2, r⟩
/-- an expression, then a store -/
theorem st_end {is : List (Nat × Bool)} {xs : List Vl} {zs : List V} {ps : List Addr} {U' : Addr → Prop} (S : SI E B U L) (R : ER K U B L env σ H) (e : Ev (Wof B L) H H') (k : SameK env env1) (R1 : ER K U' B L env1 σ H') (ut : ∀ a, U a → U' a) (uu : ∀ a, U' a → U a ∨ H a = none)
    (nv : NVs K U U' H' xs zs ps) (h : PostS K E U B L σ env H T ((parS env1 is xs).bind fun env1 => .ok (.nx, env1))) : T.nx (setAll σ is zs) H' := by
  cases q : parS env1 is xs with
  | bad => rw [q] at h; exact h.elim
  | ok env2 =>
    rw [q] at h
    obtain ⟨U'', L'', a1, a2, a3, a4, a5⟩ := par_store S.be S.eu R1 nv ut S.el (fun p hp z => (nv.new p hp).2 (R.lu p z)) q
    refine h U'' L'' _ H' ⟨e, fun a z => uu a (a1 a z), fun a z => (a2 a z).imp id fun z => (uu a z.2).resolve_left z.1, k.kb.trans a3, a4, a5⟩
theorem tI_bindS {a : IE} {k : Vl × Envi → Res (Fl × Envi)} {Q : VK} (R : ER K U B L env σ H) (h : PostS K E U B L σ env H T ((evE F a env).bind k))
    (hk : ∀ x env1 H1 z, Ev (Wof B L) H H1 → SameK env env1 → OutR K U B L σ H H1 env1 x z → PostS K E U B L σ env H T (k (x, env1)) → Q z H1) : tI K F a σ H Q := by
  refine ⟨U, B, L, env, R, ?_⟩
  cases e : evE F a env with
  | bad => rw [e] at h; exact h
  | ok p =>
    obtain ⟨x, env1⟩ := p
    rw [e] at h
    exact fun H1 z e1 k1 o => hk x env1 H1 z e1 k1 o h
theorem tT_bindS {c : IT} {k : Bool × Envi → Res (Fl × Envi)} {Q : Bool → Hp → Prop} (R : ER K U B L env σ H) (h : PostS K E U B L σ env H T ((evT F c env).bind k))
    (hk : ∀ b env1 H1, Ev (Wof B L) H H1 → SameK env env1 → ER K U B L env1 σ H1 → PostS K E U B L σ env H T (k (b, env1)) → Q b H1) : tTt K F c σ H Q := by
  refine ⟨U, B, L, env, R, ?_⟩
  cases e : evT F c env with
  | bad => rw [e] at h; exact h
  | ok p =>
    obtain ⟨x, env1⟩ := p
    rw [e] at h
    exact fun H1 e1 k1 R1 => hk x env1 H1 e1 k1 R1 h
/-! ### several new things -/
def PostN (K : PySem.W.Frag) (U B L : Addr → Prop) (σ : L2.St) (env : Envi) (H : Hp) (Q : List V → Hp → Prop) : Res (List Vl × Envi) → Prop
  | .ok (xs, env') => ∀ U' H' zs ps, Ev (Wof B L) H H' → SameK env env' → (∀ a, U a → U' a) → (∀ a, U' a → U a ∨ H a = none) → ER K U' B L env' σ H' → NVs K U U' H' xs zs ps → Q zs H'
  | .bad => False
def tN (K : PySem.W.Frag) (F : CF) (es : IEs) : TA := fun σ H Q => ∃ U B L env, ER K U B L env σ H ∧ PostN K U B L σ env H Q (evNs F es env)
end
section
variable {X : Cx} {F : CF} {st : Stmt} {e tg c iter a b : Expr} {es : List Expr} {body p q : List Stmt} {pos pos' : Pos} {ie ia ib : IE} {is : IEs} {ic : IT} {it : II} {itg : ITg} {x y : Str}
theorem PSi {t t' : TS} (h : PS X st t) (i : ∀ D σ H, t' D σ H → t D σ H) : PS X st t' := ⟨fun pins s σ H D I q => h.run pins s σ H D I (i _ _ _ q)⟩
theorem PSsi {t t' : TS} {sts : List Stmt} (h : PSs X sts t) (i : ∀ D σ H, t' D σ H → t D σ H) : PSs X sts t' := ⟨fun pins s σ H D I q => h.run pins s σ H D I (i _ _ _ q)⟩
theorem s_nil : PSs X [] (tSs X.K F .nil) := PSsi pss_nil fun T σ H ⟨E, U, B, L, env, R, S, h⟩ => h U L σ H (.refl R S)
theorem s_cons {s : IS} {ss : ISs} (h1 : PS X st (tS X.K F s)) (h2 : PSs X p (tSs X.K F ss)) : PSs X (st :: p) (tSs X.K F (.cons s ss)) := by
  refine PSsi (pss_cons h1 h2) fun T σ H ⟨E, U, B, L, env, R, S, h⟩ => ⟨E, U, B, L, env, R, S, ?_⟩
  have h : PostS X.K E U B L σ env H T ((evS F s env).bind fun p => match p.1 with
    | .nx => evSs F ss p.2
    | f => .ok (f, p.2)) := h
  cases q : evS F s env with
  | bad => rw [q] at h; exact h
  | ok r =>
    obtain ⟨f, env1⟩ := r
    rw [q] at h
    intro U' L' σ' H' a
    cases f with
    | nx => exact ⟨E, U', B, L', env1, a.er, a.si, PostS.step h a⟩
    | br => exact h U' L' σ' H' a
    | ct => exact h U' L' σ' H' a
    | rt x => exact h U' L' σ' H' a
theorem s_frz {i : Nat} {ss : ISs} (h : PSs X p (tSs X.K F ss)) : PSs X p (tSs X.K F (.frz i ss)) := by
  refine PSsi h fun T σ H ⟨E, U, B, L, env, R, S, h⟩ => ?_
  have h : PostS X.K E U B L σ env H T (match env[i]? with
    | some (.li false xs) => evSs F ss (env.set i (.va (.lst xs)))
    | some (.di false kvs) => evSs F ss (env.set i (.va (.dct kvs)))
    | _ => .bad) := h
  have main : ∀ {s : Sl} {a : Addr} {d : D}, env[i]? = some s → s.own = true → s.bor = false → σ[i]? = some (some (.ref a)) → L a → (VR X.K (fun b => U b ∧ b ≠ a) H d (.ref a)) → PostS X.K E U B L σ env H T (evSs F ss (env.set i (.va d))) → tSs X.K F ss T σ H := by
    intro s a d he hw hb hσ la rd h
    have hl : i < env.length := (List.getElem?_eq_some_iff.mp he).1
    have hw' : ∀ b, U b ∧ b ≠ a → U b := fun b z => z.1
    have na : ∀ b, B b → b ≠ a := fun b z e => S.el a la (by rw [← e]; exact S.be b z)
    have R1 : ER X.K (fun b => U b ∧ b ≠ a) B (fun b => L b ∧ b ≠ a) (env.set i (.va d)) σ H := by
      refine ⟨by rw [List.length_set]; exact R.len, fun j t e => ?_, fun j k t u q e1 e2 w1 w2 a1 a2 => ?_, fun b z => ⟨R.bu b z, na b z⟩, fun b z => ⟨R.lu b z.1, z.2⟩, fun b z => R.tr b z.1⟩
      · rcases get_set e with ⟨rfl, rfl⟩ | ⟨ne, e⟩
        · exact ⟨_, hσ, rd⟩
        · have r := (R.sl j t e).weak hw'
          have nn : t.own = true → σ[j]? ≠ some (some (.ref a)) := fun w z => ne (R.dj j i t s a e he w hw z hσ)
          cases t with
          | un => exact r
          | va d => exact r
          | li b ds => obtain ⟨q, vs, e1, w, r⟩ := r; exact ⟨q, vs, e1, by cases b <;> simp at w ⊢ <;> first | exact w | exact ⟨w, fun z => nn rfl (by rw [e1, z])⟩, r⟩
          | di b ds => obtain ⟨q, vs, e1, w, r⟩ := r; exact ⟨q, vs, e1, by cases b <;> simp at w ⊢ <;> first | exact w | exact ⟨w, fun z => nn rfl (by rw [e1, z])⟩, r⟩
      · rcases get_set e1 with ⟨_, rfl⟩ | ⟨_, e1⟩
        · cases w1
        · rcases get_set e2 with ⟨_, rfl⟩ | ⟨_, e2⟩
          · cases w2
          · exact R.dj j k t u q e1 e2 w1 w2 a1 a2
    have S1 : SI E B (fun b => U b ∧ b ≠ a) (fun b => L b ∧ b ≠ a) := ⟨S.be, fun b z => ⟨S.eu b z, fun e => S.el a la (by rw [← e]; exact z)⟩, fun b z => S.el b z.1⟩
    have nbk : ∀ j, (env.set i (.va d))[j]? = env[j]? ∨ j = i := fun j => by
      by_cases e : i = j
      · exact .inr e.symm
      · exact .inl (List.getElem?_set_ne e)
    have kb : KB env σ (env.set i (.va d)) σ := by
      have bi : bor env i = false := by unfold bor; rw [he]; exact hb
      refine ⟨List.length_set, fun j => ?_, fun j q => ?_⟩
      · rcases nbk j with e | rfl
        · unfold bor; rw [e]
        · rw [bi]; unfold bor; rw [List.getElem?_set_self hl]; rfl
      · rcases nbk j with e | rfl
        · rw [e]; exact ⟨rfl, rfl⟩
        · rw [bi] at q; cases q
    exact ⟨E, _, B, _, _, R1, S1, h.step ⟨.refl, fun b z => .inl z.1, fun b z => .inl z.1, kb, R1, S1⟩⟩
  cases he : env[i]? with
  | none => rw [he] at h; exact h.elim
  | some s =>
    rw [he] at h
    have r := R.sl i s he
    match s, he, r, h with
    | .li false xs, he, r, h =>
      obtain ⟨a, vs, e1, w, h1, r1⟩ := r
      exact main he rfl rfl e1 w (.lst h1 (fun z => z.2 rfl) (r1.mono (Step.weak fun b z => z.1))) h
    | .di false xs, he, r, h =>
      obtain ⟨a, vs, e1, w, h1, r1⟩ := r
      exact main he rfl rfl e1 w (.dct h1 (fun z => z.2 rfl) (r1.mono (Step.weak fun b z => z.1))) h
/-! ### stores -/
theorem set_read {i : Nat} {k : Bool} {T : Ends} {σ : L2.St} {H : Hp} (h : tS X.K F (.set i k ie) T σ H) : tAsg (tI X.K F ie) (gName i) T σ H := by
  obtain ⟨E, U, B, L, env, R, S, h⟩ := h
  refine tI_bindS R h fun x env1 H1 z e1 k1 o h => ?_
  obtain ⟨U', ps, R1, ut, uu, nv⟩ := o.nv R
  have q := st_end (is := [(i, k)]) (T := T) S R e1 k1 R1 ut uu nv (by
    show PostS X.K E U B L σ env H T (((ro (slotOf k x)).bind fun s => (sto env1 i s).bind fun e => parS e [] []).bind fun env1 => .ok (.nx, env1))
    rw [Res.bind_assoc]
    cases hs : slotOf k x with
    | none => rw [hs] at h; exact h
    | some s =>
      rw [hs] at h
      have h : PostS X.K E U B L σ env H T ((sto env1 i s).bind fun env1 => .ok (.nx, env1)) := h
      show PostS X.K E U B L σ env H T (((sto env1 i s).bind fun e => parS e [] []).bind fun env1 => .ok (.nx, env1))
      rw [Res.bind_assoc]
      exact h)
  exact q
theorem s_set {i : Nat} {k : Bool} (hN : X.N.Nodup) (hi : X.N[i]? = some x) (hx : Loc X.env.scope x) (he : PE X e (tI X.K F ie)) (hs : swapsWith e (some (.Name x pos')) pos.line X.env = pure false) (hf : X.fn x = true ∨ X.env.scope.names.lookup x = some .local) : PS X (.Assign [.Name x pos'] e pos) (tS X.K F (.set i k ie)) :=
  PSi (ps_set hN hi hx he hs hf) fun T σ H h => set_read h
theorem s_asg (he : PE X e (tI X.K F ie)) (hg : PG X tg (gI X.K F itg)) (hs : swapsWithSole [tg] e pos.line X.env = pure false) (hw : swappedStores [tg] e X.env = pure none) (hu : unst tg = true) : PS X (.Assign [tg] e pos) (tS X.K F (.asg itg ie)) := by
  refine PSi (ps_asg he hg hs hw (asgEach1 hu _)) fun T σ H ⟨E, U, B, L, env, R, S, h⟩ => ?_
  refine tI_bindS R h fun x env1 H1 z e1 k1 o h => ?_
  obtain ⟨d, l1, h⟩ := h.ro
  refine ⟨U, B, L, env1, d, o.er R, (o.vs R).dat l1, ?_⟩
  cases q : asgT F itg d env1 with
  | bad => rw [q] at h; exact h
  | ok env2 =>
    rw [q] at h
    exact fun H' σ' e2 kb _ R2 => h U L σ' H' ⟨e1.trans e2, fun _ z => .inl z, fun _ z => .inl z, k1.kb.trans kb, R2, S⟩
theorem n_nil : PA X [] (tN X.K F .nil) := PA_imp pa_nil fun σ H Q ⟨U, B, L, env, R, h⟩ => h U H [] [] .refl rfl (fun _ z => z) (fun _ z => .inl z) R .nil
theorem n_cons (ha : PE X a (tI X.K F ia)) (h : PA X es (tN X.K F is)) (hs : unst a = true) : PA X (a :: es) (tN X.K F (.cons ia is)) := by
  refine PA_imp (pa_cons ha h (starEach1 (nostar hs) _)) fun σ H Q ⟨U, B, L, env, R, h⟩ => ?_
  refine ⟨U, B, L, env, R, ?_⟩
  have h : PostN X.K U B L σ env H Q ((evE F ia env).bind fun p => (evNs F is p.2).bind fun q => .ok (p.1 :: q.1, q.2)) := h
  cases q : evE F ia env with
  | bad => rw [q] at h; exact h
  | ok r =>
    obtain ⟨x, env1⟩ := r
    rw [q] at h
    intro H1 z e1 k1 o
    have h : PostN X.K U B L σ env H Q ((evNs F is env1).bind fun q => .ok (x :: q.1, q.2)) := h
    have fin : ∀ (U1 : Addr → Prop), ER X.K U1 B L env1 σ H1 → (∀ a, U a → U1 a) → (∀ a, U1 a → U a ∨ H a = none) → (∀ (U' : Addr → Prop) (H2 : Hp) (xs : List Vl) (zs : List V) (ps : List Addr), Step (Wof B L) U1 U' H1 H2 → (∀ a, U1 a → U' a) → NVs X.K U1 U' H2 xs zs ps → ∃ ps', NVs X.K U U' H2 (x :: xs) (z :: zs) ps') → tN X.K F is σ H1 fun vs H2 => Q (z :: vs) H2 := by
      intro U1 R1 ut uu mk
      refine ⟨U1, B, L, env1, R1, ?_⟩
      cases q2 : evNs F is env1 with
      | bad => rw [q2] at h; exact h
      | ok r =>
        obtain ⟨xs, env2⟩ := r
        rw [q2] at h
        intro U' H2 zs ps e2 k2 ut2 uu2 R2 nv
        obtain ⟨ps', nv'⟩ := mk U' H2 xs zs ps ⟨e2, fun a z => z.elim (R1.bu a) (R1.lu a), uu2⟩ ut2 nv
        exact h U' H2 _ ps' (e1.trans e2) (SameK.trans k1 k2) (fun a z => ut2 a (ut a z)) (fun a z => (uu2 a z).elim (uu a) fun z => .inr (e1.none z)) R2 nv'
    cases x with
    | va d => exact fin U o.1 (fun _ z => z) (fun _ z => .inl z) fun U' H2 xs zs ps st _ nv => ⟨ps, .va (o.2.mono st) nv⟩
    | vw i => exact fin U o.1 (fun _ z => z) (fun _ z => .inl z) fun U' H2 xs zs ps st _ nv => ⟨ps, .vw nv⟩
    | ol ds =>
      obtain ⟨p, vs, rfl, h1, h2, R1, r⟩ := o
      refine fin (pl U p) R1 (fun _ z => .inl z) (fun a z => z.imp id fun z => by rw [z]; exact h1) fun U' H2 xs zs ps st ut nv => ⟨p :: ps, .ol (st.ev.keep _ _ h2 fun z => R.nou h1 (z.elim (R.bu p) (R.lu p))) (r.mono st) (ut p (.inr rfl)) (R.nou h1) (fun z => (nv.new p z).2 (.inr rfl)) (nv.less fun _ z => .inl z)⟩
    | od ds =>
      obtain ⟨p, vs, rfl, h1, h2, R1, r⟩ := o
      refine fin (pl U p) R1 (fun _ z => .inl z) (fun a z => z.imp id fun z => by rw [z]; exact h1) fun U' H2 xs zs ps st ut nv => ⟨p :: ps, .od (st.ev.keep _ _ h2 fun z => R.nou h1 (z.elim (R.bu p) (R.lu p))) (r.mono st) (ut p (.inr rfl)) (R.nou h1) (fun z => (nv.new p z).2 (.inr rfl)) (nv.less fun _ z => .inl z)⟩
theorem par_read {ks : List (Nat × Bool)} {T : Ends} {σ : L2.St} {H : Hp} (h : tS X.K F (.par ks is) T σ H) : tN X.K F is σ H fun zs H1 => zs.length = ks.length ∧ T.nx (setAll σ ks zs) H1 := by
  obtain ⟨E, U, B, L, env, R, S, h⟩ := h
  refine ⟨U, B, L, env, R, ?_⟩
  have h : PostS X.K E U B L σ env H T ((evNs F is env).bind fun p => (parS p.2 ks p.1).bind fun env1 => .ok (.nx, env1)) := h
  cases q : evNs F is env with
  | bad => rw [q] at h; exact h
  | ok r =>
    obtain ⟨xs, env1⟩ := r
    rw [q] at h
    intro U' H' zs ps e1 k1 ut uu R1 nv
    have len : ∀ (ks : List (Nat × Bool)) (xs : List Vl) (env : Envi), parS env ks xs ≠ .bad → xs.length = ks.length := by
      intro ks
      induction ks with
      | nil => intro xs env h; cases xs with
        | nil => rfl
        | cons x xs => exact absurd rfl h
      | cons k ks ih => intro xs env h; cases xs with
        | nil => exact absurd rfl h
        | cons x xs =>
          obtain ⟨i, kp⟩ := k
          have h : ((ro (slotOf kp x)).bind fun s => (sto env i s).bind fun env1 => parS env1 ks xs) ≠ .bad := h
          cases q1 : slotOf kp x with
          | none => rw [q1] at h; exact absurd rfl h
          | some s =>
            rw [q1] at h
            have h : ((sto env i s).bind fun env1 => parS env1 ks xs) ≠ .bad := h
            cases q2 : sto env i s with
            | bad => rw [q2] at h; exact absurd rfl h
            | ok env1 => rw [q2] at h; exact congrArg (· + 1) (ih xs env1 h)
    refine ⟨?_, st_end S R e1 k1 R1 ut uu nv h⟩
    rw [← nv.len]
    refine len ks xs env1 fun z => ?_
    have h : PostS X.K E U B L σ env H T ((parS env1 ks xs).bind fun env1 => .ok (.nx, env1)) := h
    rw [z] at h
    exact h
theorem s_par2 {i j : Nat} {ki kj : Bool} {px py pt pt2 : Pos} {kt k2 : Nat} (hc : X.calm = true) (hN : X.N.Nodup) (hi : X.N[i]? = some x) (hj : X.N[j]? = some y) (hij : i ≠ j)
    (hx : X.env.scope.names.lookup x = some .local) (hy : X.env.scope.names.lookup y = some .local) (ha : PA X [a, b] (tN X.K F is))
    (hw : swappedStores [.Tuple [.Name x px, .Name y py] kt pt] (.Tuple [a, b] k2 pt2) X.env = pure (some [x, y])) : PS X (.Assign [.Tuple [.Name x px, .Name y py] kt pt] (.Tuple [a, b] k2 pt2) pos) (tS X.K F (.par [(i, ki), (j, kj)] is)) := by
  refine PSi (ps_par hc hN hi hj hij hx hy ha hw) fun T σ H h => ?_
  obtain ⟨U, B, L, env, R, h⟩ := par_read h
  refine ⟨U, B, L, env, R, ?_⟩
  cases q : evNs F is env with
  | bad => rw [q] at h; exact h
  | ok r =>
    rw [q] at h
    intro U' H' zs ps e1 k1 ut uu R1 nv
    obtain ⟨h1, h2⟩ := h U' H' zs ps e1 k1 ut uu R1 nv
    match zs, h1, h2 with
    | [z1, z2], h1, h2 => exact ⟨z1, z2, rfl, h2⟩
theorem s_par3 {z : Str} {i j l : Nat} {ki kj kl : Bool} {px py pz pt pt2 : Pos} {kt k2 : Nat} (hc : X.calm = true) (hN : X.N.Nodup) (hi : X.N[i]? = some x) (hj : X.N[j]? = some y) (hl : X.N[l]? = some z) (hij : i ≠ j) (hil : i ≠ l) (hjl : j ≠ l)
    (hx : X.env.scope.names.lookup x = some .local) (hy : X.env.scope.names.lookup y = some .local) (hz : X.env.scope.names.lookup z = some .local) (ha : PA X [a, b, c] (tN X.K F is))
    (hw : swappedStores [.Tuple [.Name x px, .Name y py, .Name z pz] kt pt] (.Tuple [a, b, c] k2 pt2) X.env = pure (some [x, y, z])) : PS X (.Assign [.Tuple [.Name x px, .Name y py, .Name z pz] kt pt] (.Tuple [a, b, c] k2 pt2) pos) (tS X.K F (.par [(i, ki), (j, kj), (l, kl)] is)) := by
  refine PSi (ps_par3 hc hN hi hj hl hij hil hjl hx hy hz ha hw) fun T σ H h => ?_
  obtain ⟨U, B, L, env, R, h⟩ := par_read h
  refine ⟨U, B, L, env, R, ?_⟩
  cases q : evNs F is env with
  | bad => rw [q] at h; exact h
  | ok r =>
    rw [q] at h
    intro U' H' zs ps e1 k1 ut uu R1 nv
    obtain ⟨h1, h2⟩ := h U' H' zs ps e1 k1 ut uu R1 nv
    match zs, h1, h2 with
    | [z1, z2, z3], h1, h2 => exact ⟨z1, z2, z3, rfl, h2⟩
/-- the pairs' names, as targets -/
def gNames : List (Nat × Bool) → TGs
  | [] => gNil
  | (i, _) :: r => gCons (gName i) (gNames r)
theorem gNames_ok : ∀ (ks : List (Nat × Bool)) (zs : List V) (σ : L2.St) (H : Hp) (Q : L2.St → Hp → Prop), zs.length = ks.length → Q (setAll σ ks zs) H → gNames ks zs σ H Q
  | [], [], σ, H, Q, _, h => ⟨rfl, h⟩
  | (i, _) :: ks, z :: zs, σ, H, Q, hl, h => ⟨z, zs, rfl, gNames_ok ks zs _ H Q (by simpa using hl) h⟩
theorem s_parn {ks : List (Nat × Bool)} {ts : List Expr} {pt pt2 : Pos} {kt k2 : Nat} (hc : X.calm = true) (ht : PGs X ts (gNames ks)) (hl : ts.length = ks.length) (hu : ts.all unst = true) (hz : ks.length ≤ 100) (ha : PA X es (tN X.K F is))
    (hw : swappedStores [.Tuple ts kt pt] (.Tuple es k2 pt2) X.env = pure none) : PS X (.Assign [.Tuple ts kt pt] (.Tuple es k2 pt2) pos) (tS X.K F (.par ks is)) := by
  refine PSi (ps_asg (pe_tup ha) (pg_tup (n := ks.length) hc ht (by rw [each_len, hl]) (each_un _ hu)) rfl hw rfl) fun T σ H h => ?_
  obtain ⟨U, B, L, env, R, h⟩ := par_read h
  refine ⟨U, B, L, env, R, ?_⟩
  cases q : evNs F is env with
  | bad => rw [q] at h; exact h
  | ok r =>
    obtain ⟨xs, env1⟩ := r
    rw [q] at h
    intro U' H' zs ps e1 k1 ut uu R1 nv
    have hzs := (h U' H' zs ps e1 k1 ut uu R1 nv).1
    refine ⟨by rw [hzs]; exact Nat.le_trans hz (by decide), fun p hp => ⟨p, zs, rfl, .inl (.inl upd_same), hzs, gNames_ok ks zs _ _ _ hzs ?_⟩⟩
    have st : Step No U' U' H' (upd H' p (.tup zs)) := Step.new hp
    refine (h U' (upd H' p (.tup zs)) zs ps (e1.trans (.new hp)) k1 ut uu (R1.grow st.ev) ?_).2
    have key : ∀ {xs : List Vl} {zs' : List V} {ps : List Addr}, NVs X.K U U' H' xs zs' ps → NVs X.K U U' (upd H' p (.tup zs)) xs zs' ps := by
      intro xs zs' ps nv
      induction nv with
      | nil => exact .nil
      | va r _ ih => exact .va (r.mono st) ih
      | ol h r u n m _ ih => exact .ol (st.ev.keep _ _ h fun z => z) (r.mono st) u n m ih
      | od h r u n m _ ih => exact .od (st.ev.keep _ _ h fun z => z) (r.mono st) u n m ih
      | vw _ ih => exact .vw ih
    exact key nv
/-! ### the others -/
theorem s_ret (he : PE X e (tI X.K F ie)) : PS X (.Return (some e) pos) (tS X.K F (.ret ie)) := by
  refine PSi (ps_ret he) fun T σ H ⟨E, U, B, L, env, R, S, h⟩ => ?_
  refine tI_bindS R h fun x env1 H1 z e1 k1 o h => ?_
  obtain ⟨U', a, r⟩ := o.rt R S e1 k1
  exact h U' L σ H1 a z r
theorem s_retN : PS X (.Return none pos) (tS X.K F .retN) := PSi ps_retN fun T σ H ⟨E, U, B, L, env, R, S, h⟩ => h U L σ H (.refl R S) .non .non
theorem s_expr (he : PE X e (tI X.K F ie)) (hs : swapsWith e none pos.line X.env = pure false) : PS X (.Expr e pos) (tS X.K F (.expr ie)) := by
  refine PSi (ps_expr he hs) fun T σ H ⟨E, U, B, L, env, R, S, h⟩ => ?_
  refine tI_bindS R h fun x env1 H1 z e1 k1 o h => ?_
  exact h U L σ H1 (.expr R S e1 k1 o)
theorem s_doc {x : Str} {j : Nat} : PS X (.Expr (.Constant (.str x) j pos) pos') (tS X.K F .pass) := PSi ps_doc fun T σ H ⟨E, U, B, L, env, R, S, h⟩ => h U L σ H (.refl R S)
theorem s_pass : PS X (.Pass pos) (tS X.K F .pass) := PSi ps_pass fun T σ H ⟨E, U, B, L, env, R, S, h⟩ => h U L σ H (.refl R S)
theorem s_brk : PS X (.Break pos) (tS X.K F .brk) := PSi ps_break fun T σ H ⟨E, U, B, L, env, R, S, h⟩ => h U L σ H (.refl R S)
theorem s_cnt : PS X (.Continue pos) (tS X.K F .cnt) := PSi ps_continue fun T σ H ⟨E, U, B, L, env, R, S, h⟩ => h U L σ H (.refl R S)
theorem s_never : PS X st (tS X.K F .never) := PSi ps_never fun T σ H ⟨E, U, B, L, env, R, S, h⟩ => h
theorem s_if {sa sb : ISs} (hc : PT X c (tTt X.K F ic)) (ha : PSs X p (tSs X.K F sa)) (hb : PSs X q (tSs X.K F sb)) : PS X (.If c p q pos) (tS X.K F (.ifs ic sa sb)) := by
  refine PSi (ps_if hc ha hb) fun T σ H ⟨E, U, B, L, env, R, S, h⟩ => ?_
  refine tT_bindS R h fun b env1 H1 e1 k1 R1 h => ?_
  have a : Aft X.K E U B L σ env H U L σ env1 H1 := ⟨e1, fun _ z => .inl z, fun _ z => .inl z, k1.kb, R1, S⟩
  cases b with
  | true => exact ⟨E, U, B, L, env1, R1, S, PostS.step h a⟩
  | false => exact ⟨E, U, B, L, env1, R1, S, PostS.step h a⟩
theorem s_for {sb : ISs} (hp : PassesOwn (model X.prog X.w) X.A X.env X.xe) (hc : X.calm = true) (hi : PI X tg iter (tII X.K F it)) (hg : PG X tg (gI X.K F itg)) (hb : PSs X body (tSs X.K F sb)) (hf : notSet iter = true) : PS X (.For tg iter body [] pos) (tS X.K F (.for itg it sb)) := by
  refine PSi (ps_for hp hc hi hg hb fun x => fold_ok hf x) fun T σ H ⟨E, U, B, L, env, R, S, h⟩ => ?_
  refine ⟨U, B, L, env, R, ?_⟩
  have h : PostS X.K E U B L σ env H T ((evI F it env).bind fun p => forL (fun d e => (asgT F itg d e).bind fun e1 => evSs F sb e1) p.1 p.2) := h
  cases q : evI F it env with
  | bad => rw [q] at h; exact h
  | ok r =>
    obtain ⟨ds, env1⟩ := r
    rw [q] at h
    intro J H1 e1 k1 R1 hJ
    have a1 : Aft X.K E U B L σ env H U L σ env1 H1 := ⟨e1, fun _ z => .inl z, fun _ z => .inl z, k1.kb, R1, S⟩
    have h := h.step a1
    refine ⟨fun i m σ2 H2 => m = ds.length - i ∧ i ≤ ds.length ∧ ∃ U2 L2 env2, Aft X.K E U B L σ env1 H1 U2 L2 σ2 env2 H2 ∧ PostS X.K E U2 B L2 σ2 env2 H2 T (forL (fun d e => (asgT F itg d e).bind fun e1 => evSs F sb e1) (ds.drop i) env2),
      ⟨ds.length, rfl, Nat.zero_le _, U, L, env1, .refl R1 S, by rw [List.drop_zero]; exact h⟩, ?_⟩
    rintro i m σ2 H2 ⟨rfl, hi, U2, L2, env2, a2, h2⟩
    have st2 : Step (Wof B L) U U2 H1 H2 := ⟨a2.ev, fun a z => z.elim (R1.bu a) (R1.lu a), a2.uu⟩
    have jj := hJ U2 H2 i st2 a2.er.tr
    by_cases hlt : i < ds.length
    · right
      have hd : ds[i]? = some ds[i] := List.getElem?_eq_getElem hlt
      rw [List.drop_eq_getElem_cons hlt] at h2
      obtain ⟨go, yl⟩ := jj.1 _ hd
      refine ⟨go, _, fun σ' H' w => ⟨ds.length - (i + 1), by omega, w⟩, fun x H3 y => ?_⟩
      obtain ⟨ev3, rx⟩ := yl x H3 y
      have R3 := a2.er.grow ev3
      have a3 : Aft X.K E U2 B L2 σ2 env2 H2 U2 L2 σ2 env2 H3 := ⟨ev3.mono fun _ z => False.elim z, fun _ z => .inl z, fun _ z => .inl z, SameK.kb rfl, R3, a2.si⟩
      have h3 : PostS X.K E U2 B L2 σ2 env2 H2 T (((asgT F itg ds[i] env2).bind fun e1 => evSs F sb e1).bind fun p => match p.1 with
        | .nx => forL (fun d e => (asgT F itg d e).bind fun e1 => evSs F sb e1) (ds.drop (i + 1)) p.2
        | .ct => forL (fun d e => (asgT F itg d e).bind fun e1 => evSs F sb e1) (ds.drop (i + 1)) p.2
        | .br => .ok (.nx, p.2)
        | .rt x => .ok (.rt x, p.2)) := h2
      rw [Res.bind_assoc] at h3
      refine ⟨U2, B, L2, env2, ds[i], R3, rx, ?_⟩
      cases q3 : asgT F itg ds[i] env2 with
      | bad => rw [q3] at h3; exact h3
      | ok env4 =>
        rw [q3] at h3
        intro H4 σ4 e4 kb4 _ R4
        have a4 : Aft X.K E U2 B L2 σ2 env2 H2 U2 L2 σ4 env4 H4 := a3.trans ⟨e4, fun _ z => .inl z, fun _ z => .inl z, kb4, R4, a2.si⟩
        refine ⟨E, U2, B, L2, env4, R4, a2.si, ?_⟩
        have h4 := PostS.step (T := T) h3 a4
        have h4 : PostS X.K E U2 B L2 σ4 env4 H4 T ((evSs F sb env4).bind fun p => match p.1 with
          | .nx => forL (fun d e => (asgT F itg d e).bind fun e1 => evSs F sb e1) (ds.drop (i + 1)) p.2
          | .ct => forL (fun d e => (asgT F itg d e).bind fun e1 => evSs F sb e1) (ds.drop (i + 1)) p.2
          | .br => .ok (.nx, p.2)
          | .rt x => .ok (.rt x, p.2)) := h4
        cases q4 : evSs F sb env4 with
        | bad => rw [q4] at h4; exact h4
        | ok r =>
          obtain ⟨f, env5⟩ := r
          rw [q4] at h4
          intro U5 L5 σ5 H5 a5
          have a25 := a2.trans (a4.trans a5)
          cases f with
          | nx => exact ⟨rfl, hlt, U5, L5, env5, a25, PostS.step h4 a5⟩
          | ct => exact ⟨rfl, hlt, U5, L5, env5, a25, PostS.step h4 a5⟩
          | br => exact h4 U5 L5 σ5 H5 a5
          | rt x => exact fun z r => h4 U5 L5 σ5 H5 a5 z r
    · left
      have e : i = ds.length := by omega
      subst e
      rw [List.drop_length] at h2
      exact ⟨jj.2 rfl, h2 U2 L2 σ2 H2 (.refl a2.er a2.si)⟩
theorem s_whl {sb : ISs} {n : Nat} (hp : PassesOwn (model X.prog X.w) X.A X.env X.xe) (hc : PT X c (tTt X.K F ic)) (hb : PSs X body (tSs X.K F sb)) : PS X (.While c body [] pos) (tS X.K F (.whl n ic sb)) := by
  refine PSi (ps_while hp hc hb) fun T σ H ⟨E, U, B, L, env, R, S, h⟩ => ?_
  have h : PostS X.K E U B L σ env H T (whlL (fun e => evT F ic e) (fun e => evSs F sb e) n env) := h
  refine ⟨fun m σ2 H2 => ∃ E U B L env, ER X.K U B L env σ2 H2 ∧ SI E B U L ∧ PostS X.K E U B L σ2 env H2 T (whlL (fun e => evT F ic e) (fun e => evSs F sb e) m env), ⟨n, E, U, B, L, env, R, S, h⟩, ?_⟩
  rintro m σ H ⟨E, U, B, L, env, R, S, h⟩
  cases m with
  | zero => exact h.elim
  | succ m =>
    have h : PostS X.K E U B L σ env H T ((evT F ic env).bind fun p => if p.1 = true then (evSs F sb p.2).bind fun q => (match q.1 with
      | .nx => whlL (fun e => evT F ic e) (fun e => evSs F sb e) m q.2
      | .ct => whlL (fun e => evT F ic e) (fun e => evSs F sb e) m q.2
      | .br => .ok (.nx, q.2)
      | .rt x => .ok (.rt x, q.2)) else .ok (.nx, p.2)) := h
    refine tT_bindS R h fun b env1 H1 e1 k1 R1 h => ?_
    have a1 : Aft X.K E U B L σ env H U L σ env1 H1 := ⟨e1, fun _ z => .inl z, fun _ z => .inl z, k1.kb, R1, S⟩
    cases b with
    | false => exact h U L σ H1 a1
    | true =>
      rw [if_pos rfl]
      refine ⟨_, fun σ' H' w => ⟨m, Nat.lt_succ_self m, w⟩, E, U, B, L, env1, R1, S, ?_⟩
      have h := PostS.step (T := T) h a1
      have h : PostS X.K E U B L σ env1 H1 T ((evSs F sb env1).bind fun q => (match q.1 with
        | .nx => whlL (fun e => evT F ic e) (fun e => evSs F sb e) m q.2
        | .ct => whlL (fun e => evT F ic e) (fun e => evSs F sb e) m q.2
        | .br => .ok (.nx, q.2)
        | .rt x => .ok (.rt x, q.2))) := h
      cases q4 : evSs F sb env1 with
      | bad => rw [q4] at h; exact h
      | ok r =>
        obtain ⟨f, env5⟩ := r
        rw [q4] at h
        intro U5 L5 σ5 H5 a5
        cases f with
        | nx => exact ⟨E, U5, B, L5, env5, a5.er, a5.si, PostS.step h a5⟩
        | ct => exact ⟨E, U5, B, L5, env5, a5.er, a5.si, PostS.step h a5⟩
        | br => exact h U5 L5 σ5 H5 a5
        | rt x => exact fun z r => h U5 L5 σ5 H5 a5 z r
end
end DI
end

section
set_option Elab.async false
set_option linter.all false
set_option maxRecDepth 100000
/-! Part 15: the terms are the text's: a check, and what it gives. -/
namespace DI
open PySem PySem.Spec PyProof.Rows L2

/-! ### equal data -/
mutual
def eqDD : D → D → Bool
  | .non, e => (match e with | .non => true | _ => false)
  | .bl a, e => (match e with | .bl b => a == b | _ => false)
  | .int a, e => (match e with | .int b => decide (a = b) | _ => false)
  | .str a, e => (match e with | .str b => decide (a = b) | _ => false)
  | .ty a, e => (match e with | .ty b => decide (a = b) | _ => false)
  | .cl a, e => (match e with | .cl b => decide (a = b) | _ => false)
  | .tup a, e => (match e with | .tup b => eqDs a b | _ => false)
  | .lst a, e => (match e with | .lst b => eqDs a b | _ => false)
  | .scr a, e => (match e with | .scr b => eqDs a b | _ => false)
  | .dct a, e => (match e with | .dct b => eqKs a b | _ => false)
  | .rng a a', e => (match e with | .rng b b' => decide (a = b) && decide (a' = b') | _ => false)
def eqDs : List D → List D → Bool
  | [], e => (match e with | [] => true | _ => false)
  | a :: as, e => (match e with | b :: bs => eqDD a b && eqDs as bs | _ => false)
def eqKs : List (Key × D) → List (Key × D) → Bool
  | [], e => (match e with | [] => true | _ => false)
  | (k, a) :: as, e => (match e with | (j, b) :: bs => decide (k = j) && eqDD a b && eqKs as bs | _ => false)
end
mutual
theorem eqDD_ok : ∀ (a b : D), eqDD a b = true → a = b
  | .non, b, h => by cases b <;> first | rfl | cases h
  | .bl a, b, h => by cases b <;> first | (exact congrArg _ (eq_of_beq h)) | cases h
  | .int a, b, h => by cases b <;> first | (exact congrArg _ (of_decide_eq_true h)) | cases h
  | .str a, b, h => by cases b <;> first | (exact congrArg _ (of_decide_eq_true h)) | cases h
  | .ty a, b, h => by cases b <;> first | (exact congrArg _ (of_decide_eq_true h)) | cases h
  | .cl a, b, h => by cases b <;> first | (exact congrArg _ (of_decide_eq_true h)) | cases h
  | .tup a, b, h => by cases b <;> first | (exact congrArg _ (eqDs_ok a _ h)) | cases h
  | .lst a, b, h => by cases b <;> first | (exact congrArg _ (eqDs_ok a _ h)) | cases h
  | .scr a, b, h => by cases b <;> first | (exact congrArg _ (eqDs_ok a _ h)) | cases h
  | .dct a, b, h => by cases b <;> first | (exact congrArg _ (eqKs_ok a _ h)) | cases h
  | .rng a a', b, h => by
    cases b <;> first | (cases h; done) | skip
    obtain ⟨h1, h2⟩ := ba2 h
    rw [of_decide_eq_true h1, of_decide_eq_true h2]
theorem eqDs_ok : ∀ (a b : List D), eqDs a b = true → a = b
  | [], b, h => by cases b <;> first | rfl | cases h
  | a :: as, b, h => by
    cases b <;> first | (cases h; done) | skip
    obtain ⟨h1, h2⟩ := ba2 h
    rw [eqDD_ok a _ h1, eqDs_ok as _ h2]
theorem eqKs_ok : ∀ (a b : List (Key × D)), eqKs a b = true → a = b
  | [], b, h => by cases b <;> first | rfl | cases h
  | (k, a) :: as, b, h => by
    cases b <;> first | (cases h; done) | skip
    rename_i q bs
    obtain ⟨j, b⟩ := q
    obtain ⟨h1, h2⟩ := ba2 h
    obtain ⟨h0, h1⟩ := ba2 h1
    rw [eqDD_ok a _ h1, eqKs_ok as _ h2, of_decide_eq_true h0]
end

/-- the module's names -/
structure Gc where
  defs : List (Str × Nat)
  glos : List (Str × D)
  dcts : List (Str × List (Key × D))
  free : List Str
/-- the block's names -/
structure Cc where
  N : List Str
  sc : Scope
  fn : Str → Bool
def visB (sc : Scope) (x : Str) : Bool := match sc.names.lookup x with
  | some .local => true
  | some .cell => true
  | some .free => true
  | _ => false
def locB (C : Cc) (x : Str) : Bool := match C.sc.names.lookup x with
  | some .local => true
  | some .cell => C.fn x
  | _ => false
def glB (C : Cc) (x : Str) : Bool := match C.sc.names.lookup x with
  | some .globalImplicit => !(x == ("__debug__" : Str))
  | _ => false
/-- a built-in's name -/
def blB (G : Gc) (C : Cc) (x : Str) : Bool := glB C x && decide (x ∈ G.free)
def litB (d : D) (c : Const) : Bool := match c with
  | .none => eqDD d .non
  | .bool b => eqDD d (.bl b)
  | .int i => eqDD d (.int i)
  | .str x => eqDD d (.str x.cps.toList)
  | _ => false
def lookD (l : List (Str × D)) (x : Str) (d : D) : Bool := match l.lookup x with
  | some e => eqDD d e
  | none => false
def lookT (l : List (Str × List (Key × D))) (x : Str) (t : List (Key × D)) : Bool := match l.lookup x with
  | some u => eqKs t u
  | none => false
def biN : Bi → Str
  | .rng1 => "range" | .rng2 => "range" | .len => "len" | .abs => "abs" | .max2 => "max" | .min2 => "min" | .maxL => "max" | .minL => "min"
  | .int => "int" | .str => "str" | .repr => "repr" | .sum => "sum" | .all => "all" | .any => "any" | .list => "list" | .tuple => "tuple"
  | .sorted => "sorted" | .divmod => "divmod" | .bool => "bool"
def meN : Me → Str
  | .append => "append" | .extend => "extend" | .pop => "pop" | .popAt => "pop" | .count => "count"
def meA : Me → Nat
  | .pop => 0
  | _ => 1
def tyN : List (Str × String) := [("int", "int"), ("bool", "bool"), ("str", "str"), ("tuple", "tuple"), ("list", "list"), ("dict", "dict")]
def lenI : IEs → Nat
  | .nil => 0
  | .cons _ es => lenI es + 1
def plIx : Expr → Bool
  | .Slice .. => false
  | .Tuple .. => false
  | .Starred .. => false
  | _ => true
def plainT : Expr → Bool
  | .UnaryOp .Not _ _ => false
  | .BoolOp .. => false
  | .IfExp .. => false
  | .Compare .. => false
  | _ => true
def isE : IT → Bool
  | .e _ => true
  | _ => false
mutual
def chkE (G : Gc) : Cc → IE → Expr → Bool
  | C, .var i, e => (match e with
    | .Name x _ => decide (C.N[i]? = some x) && visB C.sc x && !(x == ("__debug__" : Str)) && !(x == ("__classdict__" : Str))
    | _ => false)
  | C, .lit d, e => (match e with
    | .Constant c _ _ => litB d c
    | _ => false)
  | C, .glo x d, e => (match e with
    | .Name y _ => decide (x = y) && glB C y && lookD G.glos y d
    | _ => false)
  | C, .bin op a b, e => (match e with
    | .BinOp l op' r _ => decide (op = op') && chkE G C a l && chkE G C b r
    | _ => false)
  | C, .neg a, e => (match e with
    | .UnaryOp .USub l _ => chkE G C a l
    | _ => false)
  | C, .cmp op a b, e => (match e with
    | .Compare l [op'] [r] _ => decide (op = op') && !behindInMarks op r && chkE G C a l && chkE G C b r
    | _ => false)
  | C, .isN n a, e => (match e with
    | .Compare l [.Is] [.Constant .none _ _] _ => !n && chkE G C a l
    | .Compare l [.IsNot] [.Constant .none _ _] _ => n && chkE G C a l
    | _ => false)
  | C, .chn o p a b c, e => (match e with
    | .Compare l [o', p'] [m, r] _ => decide (o = o') && decide (p = p') && !lastMarks [o, p] [m, r] && chkE G C a l && chkE G C b m && chkE G C c r
    | _ => false)
  | C, .and a b, e => (match e with
    | .BoolOp .And [l, r] _ => chkE G C a l && chkE G C b r
    | .BoolOp .And (l :: m :: r :: rest) pos => chkE G C a l && chkE G C b (.BoolOp .And (m :: r :: rest) pos)
    | _ => false)
  | C, .or a b, e => (match e with
    | .BoolOp .Or [l, r] _ => chkE G C a l && chkE G C b r
    | .BoolOp .Or (l :: m :: r :: rest) pos => chkE G C a l && chkE G C b (.BoolOp .Or (m :: r :: rest) pos)
    | _ => false)
  | C, .not a, e => (match e with
    | .UnaryOp .Not l _ => chkE G C a l
    | _ => false)
  | C, .ife c a b, e => (match e with
    | .IfExp t l r _ => chkT G C c t && chkE G C a l && chkE G C b r
    | _ => false)
  | C, .tup es, e => (match e with
    | .Tuple xs _ _ => chkEs G C es xs
    | _ => false)
  | C, .lst es, e => (match e with
    | .List xs _ => chkEs G C es xs
    | _ => false)
  | C, .dnew, e => (match e with
    | .Dict [] [] _ => true
    | _ => false)
  | C, .idx a i, e => (match e with
    | .Subscript l r _ => plIx r && chkE G C a l && chkE G C i r
    | _ => false)
  | C, .slc a lo hi, e => (match e with
    | .Subscript l (.Slice x y none _) _ => chkE G C a l && chkO G C lo x && chkO G C hi y
    | _ => false)
  | C, .rev a, e => (match e with
    | .Subscript l (.Slice none none (some (.UnaryOp .USub (.Constant (.int 1) _ _) _)) _) _ => chkE G C a l
    | _ => false)
  | C, .gget x t a, e => (match e with
    | .Subscript (.Name y _) r _ => decide (x = y) && glB C y && lookT G.dcts y t && plIx r && chkE G C a r
    | _ => false)
  | C, .gin n x t a, e => (match e with
    | .Compare l [.In] [.Name y _] _ => !n && decide (x = y) && glB C y && lookT G.dcts y t && chkE G C a l
    | .Compare l [.NotIn] [.Name y _] _ => n && decide (x = y) && glB C y && lookT G.dcts y t && chkE G C a l
    | _ => false)
  | C, .isi a ts, e => (match ts, e with
    | [n], .Call (.Name f _) [l, .Name T _] [] _ => decide (f = "isinstance") && blB G C f && blB G C T && decide (tyN.lookup T = some n) && unst l && chkE G C a l
    | _, _ => false)
  | C, .call f es, e => (match e with
    | .Call (.Name x _) (l :: ls) [] _ => glB C x && decide (G.defs[f]? = some (x, lenI es)) && (l :: ls).all unst && chkEs G C es (l :: ls)
    | _ => false)
  | C, .bi b es, e => (match e with
    | .Call (.Name x _) (l :: ls) [] _ => decide (x = biN b) && blB G C x && (l :: ls).all unst && chkEs G C es (l :: ls)
    | _ => false)
  | C, .me m o es, e => (match e with
    | .Call (.Attribute l f ap) ls [] pos => decide (f = meN m) && noCall l && (ap.endLine == pos.line) && ls.all unst && decide (ls.length = meA m) && chkE G C o l && chkEs G C es ls
    | _ => false)
  | C, .srs a, e => (match e with
    | .Call (.Name f _) [.Call (.Name g _) [l] [] _] [] _ => decide (f = "sorted") && decide (g = "set") && blB G C f && blB G C g && unst l && chkE G C a l
    | _ => false)
  | C, .sit a, e => (match e with
    | .Call (.Name f _) [.Call (.Attribute l g ap) [] [] p2] [] _ => decide (f = "sorted") && decide (g = "items") && blB G C f && noCall l && (ap.endLine == p2.line) && chkE G C a l
    | _ => false)
  | C, .rgl t a, e => (match e with
    | .Call (.Name f _) [.Call (.Name g _) [l] [] _] [] _ => decide (f = if t = true then ("tuple" : Str) else "list") && decide (g = "range") && blB G C f && blB G C g && unst l && chkE G C a l
    | _ => false)
  | C, .comp el tg it c own, e => (match e with
    | .ListComp x [⟨g, i, ifs, 0⟩] scope _ => blkC C.N C.sc scope own && (tgN tg).all (fun j => decide (j ∈ own.map (·.2))) && notSet i && chkI G C it g i &&
        chkG G ⟨C.N, relS scope C.sc, fun y => scope.names.lookup y == some .cell⟩ tg g && chkC G ⟨C.N, relS scope C.sc, fun y => scope.names.lookup y == some .cell⟩ c ifs && chkE G ⟨C.N, relS scope C.sc, fun y => scope.names.lookup y == some .cell⟩ el x
    | _ => false)
def chkC (G : Gc) : Cc → Option' → List Expr → Bool
  | C, .no, e => (match e with
    | [] => true
    | _ => false)
  | C, .so c, e => (match e with
    | [x] => chkT G C c x
    | _ => false)
def chkT (G : Gc) : Cc → IT → Expr → Bool
  | C, .and a b, e => (match e with
    | .BoolOp .And [l, r] _ => chkT G C a l && chkT G C b r
    | .BoolOp .And (l :: m :: r :: rest) pos => !isE b && chkT G C a l && chkT G C b (.BoolOp .And (m :: r :: rest) pos)
    | _ => false)
  | C, .or a b, e => (match e with
    | .BoolOp .Or [l, r] _ => chkT G C a l && chkT G C b r
    | .BoolOp .Or (l :: m :: r :: rest) pos => !isE b && chkT G C a l && chkT G C b (.BoolOp .Or (m :: r :: rest) pos)
    | _ => false)
  | C, .not a, e => (match e with
    | .UnaryOp .Not l _ => chkT G C a l
    | _ => false)
  | C, .e a, e => (match a, e with
    | .cmp op x y, .Compare l [op'] [r] _ => decide (op = op') && !behindInMarks op r && chkE G C x l && chkE G C y r
    | .isN n x, .Compare l [.Is] [.Constant .none _ _] _ => !n && chkE G C x l
    | .isN n x, .Compare l [.IsNot] [.Constant .none _ _] _ => n && chkE G C x l
    | .gin n x t z, .Compare l [.In] [.Name y _] _ => !n && decide (x = y) && glB C y && lookT G.dcts y t && chkE G C z l
    | .gin n x t z, .Compare l [.NotIn] [.Name y _] _ => n && decide (x = y) && glB C y && lookT G.dcts y t && chkE G C z l
    | a, e => plainT e && chkE G C a e)
def chkEs (G : Gc) : Cc → IEs → List Expr → Bool
  | C, .nil, e => (match e with
    | [] => true
    | _ => false)
  | C, .cons a as, e => (match e with
    | x :: xs => unst x && chkE G C a x && chkEs G C as xs
    | _ => false)
def chkO (G : Gc) : Cc → IEo → Option Expr → Bool
  | C, .no, e => (match e with
    | none => true
    | _ => false)
  | C, .so a, e => (match e with
    | some x => chkE G C a x
    | _ => false)
def chkI (G : Gc) : Cc → II → Expr → Expr → Bool
  | C, .seq a, _, e => chkE G C a e
  | C, .rng1 a, _, e => (match e with
    | .Call (.Name f _) [l] [] _ => decide (f = "range") && blB G C f && unst l && chkE G C a l
    | _ => false)
  | C, .rng2 a b, _, e => (match e with
    | .Call (.Name f _) [l, r] [] _ => decide (f = "range") && blB G C f && unst l && unst r && chkE G C a l && chkE G C b r
    | _ => false)
  | C, .enum a, tg, e => (match tg, e with
    | .Tuple _ _ _, .Call (.Name f _) [l] [] _ => decide (f = "enumerate") && blB G C f && unst l && chkE G C a l
    | _, _ => false)
  | C, .zip a b, tg, e => (match tg, e with
    | .Tuple _ _ _, .Call (.Name f _) [l, r] [] _ => decide (f = "zip") && blB G C f && [l, r].all unst && chkE G C a l && chkE G C b r
    | _, _ => false)
def chkG (G : Gc) : Cc → ITg → Expr → Bool
  | C, .nm i, e => (match e with
    | .Name x _ => decide (C.N[i]? = some x) && locB C x
    | _ => false)
  | C, .tup ts, e => (match e with
    | .Tuple xs _ _ => decide (xs.length = lenT ts) && xs.all unst && chkGs G C ts xs
    | _ => false)
  | C, .sub o i, e => (match e with
    | .Subscript l r _ => notSl r && chkE G C o l && chkE G C i r
    | _ => false)
def chkGs (G : Gc) : Cc → ITgs → List Expr → Bool
  | C, .nil, e => (match e with
    | [] => true
    | _ => false)
  | C, .cons a as, e => (match e with
    | x :: xs => unst x && chkG G C a x && chkGs G C as xs
    | _ => false)
end
end DI
end

section
set_option Elab.async false
set_option linter.all false
set_option maxRecDepth 100000
/-! Part 16a: sorted(set(a list of ints)). -/
namespace DI
open PySem PySem.Spec PyProof.Rows L2

/-- an empty set as it is made -/
abbrev eSet (w : World) : Obj := { cls := .type "set", dict := none, data := .set #[] 0 (.fresh 0 0 (!w.params.followText "set-order")) }
section
variable {P : Program} {w : World} {A : Around} {E : Value → Shared → Prop} {s : Shared}
set_option maxHeartbeats 3200000 in
theorem set_listI {l : Addr} {items : Array Value} (ns : List Int) {Q : Value → Shared → Prop} (hh : A.handled = none) (hl : s.heap.IsList l items) (hit : IntsAre items.toList ns) (hb : ns.length + 1 < scanBound)
    (fin : ∀ (h' : Heap) (tk c : Nat), SetR w h' s.heap.objs.size (fun j => decide (j ∈ ns)) c → c ≤ ns.length → (∀ b o, s.heap.get? b = some o → h'.get? b = some o) → Q (.ref s.heap.objs.size) { s with heap := h', toks := tk }) :
    wpAny (model P w) A (call (.type "set") [.ref l]) Q E s := by
  have size_ns : items.size = ns.length := by have q := IntsAre.length hit; rwa [Array.length_toList] at q
  obtain ⟨c, tl, hmro⟩ := F.called_set.mro
  have hmade := F.called_set.made
  have hsub := F.called_set.sub
  refine wpAny_call (codeAny_of_tree (show wpAny _ _ (callAny (.type "set") _) _ _ _ from ?_))
  refine wpAny_pure ⟨Code.quiet_builtin _ (by decide +kernel), codeAny_builtin F.entry_type_call ?_⟩
  rw [Around.under_plain (weight_type_call_type "set" [.ref l] []) rfl]
  have no1 := F.called_set.notType
  have yes1 := F.called_set.canCreate
  have one1 := F.typeCall_set_1 (.ref l)
  repeat (any_goals (first | assumption | wp_step))
  refine codeAny_mono (code_set_led1 (.ref l) (E := E) (Q₁ := fun obj t => obj = .ref s.heap.objs.size ∧ t = { s with heap := s.heap.push (eSet w) }) ⟨rfl, rfl⟩) fun r t hr => ?_
  cases r with
  | error e => exact hr
  | ok fl =>
    cases fl with
    | ret obj =>
      obtain ⟨rfl, rfl⟩ := hr
      have made : (s.heap.push (eSet w)).get? s.heap.objs.size = some (eSet w) := Heap.get?_push_size _ rfl
      have typ : Shared.TypeIs { s with heap := s.heap.push (eSet w) } (.ref s.heap.objs.size) "set" := ⟨_, made, rfl⟩
      have look1 := F.called_set.init.lookup
      have bind1 := F.called_set.init.bind (.ref s.heap.objs.size)
      repeat (any_goals (first | assumption | wp_step))
      refine codeAny_mono (codeAny_call_builtin (R := wants (fun r t => r = .none ∧ ∃ h' tk c, t = { s with heap := h', toks := tk } ∧ SetR w h' s.heap.objs.size (fun j => decide (j ∈ ns)) c ∧ c ≤ ns.length ∧ ∀ b o, s.heap.get? b = some o → h'.get? b = some o) E)
        F.called_set.init.plain F.entry_set_init (check_set_init_1 typ ?_)) fun r2 t2 hr2 => ?_
      · obtain ⟨⟨kc, kd, kt, ks⟩, hol, hcl, nl, hdl⟩ := hl
        have hcl : kc = .type "list" := hcl
        have hdl : kt = .seq items nl := hdl
        subst hcl hdl
        have hol' : (s.heap.push (eSet w)).get? l = some { cls := .type "list", dict := kd, data := .seq items nl, slots := ks } := Heap.get?_push_of_some _ hol
        have sub1 := F.sub_list_set
        have sub2 := F.sub_list_frozenset
        have ne1 : (Value.type "list" == Value.type "dict") = false := by decide
        have hl1 : (s.heap.push (eSet w)).IsList l items := ⟨_, hol', rfl, nl, rfl⟩
        unfold Builtin.«set.__init__» noKeywords Builtin.Frozenset.updateFrom
        generalize hPI : pyIter = PI
        wp_walk
        subst hPI
        refine wpAny_pyIter_list hl1 (wpAny_bind (wpAny_runValue ?_))
        have hlS : l < s.heap.objs.size := Heap.lt_size hol
        have h3 : A.in1.in1.in1.handled = none := by simp [hh]
        have z1 : (s.heap.push (eSet w)).objs.size = s.heap.objs.size + 1 := Heap.size_push ..
        have neI : l ≠ (s.heap.push (eSet w)).objs.size := by rw [z1]; exact Nat.ne_of_lt (Nat.lt_succ_of_lt hlS)
        have far : s.heap.objs.size ∉ [(s.heap.push (eSet w)).objs.size, l] := by
          rw [z1]
          intro m
          rcases List.mem_cons.mp m with e | m
          · exact absurd e (Nat.ne_of_lt (Nat.lt_succ_self _))
          · exact absurd (List.mem_singleton.mp m) (Nat.ne_of_gt hlS)
        have val : ∀ (i : Nat) (v : Value), items[i]? = some v → ∃ k t, ns[i]? = some k ∧ v = .int k t := fun i v hv => by
          have hi : i < ns.length := by rw [← size_ns]; exact (Array.getElem?_eq_some_iff.mp hv).1
          obtain ⟨t, e⟩ := PyProof.Rows.IntsAre.int_at hit i v (by rw [Array.getElem?_toList]; exact hv)
          exact ⟨ns[i], t, List.getElem?_eq_getElem hi, by rw [e, List.getD_eq_getElem?_getD, List.getElem?_eq_getElem hi]; rfl⟩
        refine set_update_ints ((Walks.list h3 _ l neI items).toS) s.heap.objs.size far ns size_ns hb val (items.size - 0) 0 _ (by omega) (Nat.zero_le _) ⟨⟨_, Heap.get?_push_size _ rfl, rfl, rfl⟩, hl1.push _⟩ ⟨0, Nat.le_refl 0, setR_new_at (Heap.get?_push_of_some _ made)⟩ fun t c' mv hc' hS' => ?_
        obtain ⟨h', g2, d2, tk', o2⟩ := t
        have eg : g2 = s.gens := mv.gens
        have ed : d2 = s.drawn := mv.drawn
        have eo : o2 = s.os := mv.os
        subst eg ed eo
        show wpAny _ _ _ _ _ _
        refine wpAny_pure ?_
        show wpAny _ _ (ret Value.none) _ _ _
        rw [size_ns] at hc'
        refine wpAny_pure ⟨rfl, h', tk', c', rfl, hS', hc', fun b o e => mv.heap b o (fun m => ?_) (Heap.get?_push_of_some _ (Heap.get?_push_of_some _ e))⟩
        have lt := Heap.lt_size e
        rcases List.mem_cons.mp m with q | m
        · rw [q] at lt; exact Nat.lt_irrefl _ lt
        · rw [List.mem_singleton.mp m, z1] at lt
          exact Nat.not_succ_lt_self lt
      · cases r2 with
        | error e => exact hr2
        | ok fl2 =>
          cases fl2 with
          | ret r =>
            obtain ⟨rfl, h', tk, c', rfl, q1, q2, q3⟩ := hr2
            repeat (any_goals (first | assumption | wp_step))
            exact fin _ _ _ q1 q2 q3
          | _ => exact hr2.elim
    | _ => exact hr.elim
end
theorem uniq_mem : ∀ (ns : List Int) (k : Int), k ∈ uniq ns ↔ k ∈ ns
  | [], k => by simp [uniq]
  | x :: r, k => by
    show k ∈ x :: (uniq r).filter (fun y => decide (y ≠ x)) ↔ _
    rw [List.mem_cons, List.mem_cons, List.mem_filter, uniq_mem r k, decide_eq_true_eq]
    by_cases e : k = x
    · simp [e]
    · simp [e]
theorem uniq_nodup : ∀ ns : List Int, (uniq ns).Nodup
  | [] => List.nodup_nil
  | x :: r => by
    show (x :: (uniq r).filter (fun y => decide (y ≠ x))).Nodup
    refine List.nodup_cons.mpr ⟨fun h => ?_, (uniq_nodup r).sublist (List.filter_sublist)⟩
    have := (List.mem_filter.mp h).2
    simp at this
theorem uniq_len : ∀ ns : List Int, (uniq ns).length ≤ ns.length
  | [] => Nat.le_refl _
  | x :: r => by
    show ((uniq r).filter (fun y => decide (y ≠ x))).length + 1 ≤ r.length + 1
    exact Nat.succ_le_succ (Nat.le_trans (List.length_filter_le _ _) (uniq_len r))
/-- rising without repeats: one list -/
theorem rise_one {a b : List Int} (ha : a.Pairwise (· < ·)) (hb : b.Pairwise (· < ·)) (h : ∀ k, k ∈ a ↔ k ∈ b) : a = b := by
  have na : a.Nodup := ha.imp fun q => Int.ne_of_lt q
  have nb : b.Nodup := hb.imp fun q => Int.ne_of_lt q
  exact sorted_uniq ((List.perm_ext_iff_of_nodup na nb).mpr h) (ha.imp fun q => Int.le_of_lt q) (hb.imp fun q => Int.le_of_lt q)
theorem isort_rise {ns : List Int} (h : ns.Nodup) : (isort ns).Pairwise (· < ·) := by
  have n2 : (isort ns).Nodup := (isort_perm ns).symm.nodup h
  have := (isort_sorted ns).and n2
  exact this.imp fun ⟨q, r⟩ => by omega
def rSetNew (X : Cx) : List V → Hp → VK → Prop := fun vs H Q => ∃ (a : Addr) (ns : List Int), vs = [.ref a] ∧ SqL X.K H a (ns.map V.int) ∧ ns.length < 64 ∧ ∀ (p : Addr) (n : Nat), H p = none → n ≤ ns.length → Q (.ref p) (upd H p (SetO X.w p (fun j => decide (j ∈ ns)) n))
theorem cr_setNew {X : Cx} (hc : X.calm = true) : CallR X (.type "set") (rSetNew X) := by
  intro pins s σ H vs us Q I r h
  obtain ⟨a, ns, rfl, hq, hl, q⟩ := h
  obtain ⟨its, rv, pl, _⟩ := I.list hq
  rw [Vals.ref1 r]
  refine set_listI ns (I.ok.hd hc) pl.isList rv.ints (by unfold scanBound; omega) fun h' tk n R1 hn k => ?_
  have hp := I.hok.fresh (Nat.le_refl s.heap.objs.size)
  exact ⟨.ref _, _, I.laid (t' := tk) k (Nat.le_refl _) (setO_new R1), rfl, q _ n hp hn⟩
theorem i_srs {X : Cx} {F : CF} {a : Expr} {ia : IE} (hc : X.calm = true) {p q pos pos2 : Pos} (hg : Gl X "sorted") (hm : X.mg "sorted" = none) (hg2 : Gl X "set") (hm2 : X.mg "set" = none) (ha : PE X a (tI X.K F ia)) (hs : unst a = true) :
    PE X (.Call (.Name "sorted" p) [.Call (.Name "set" q) [a] [] pos2] [] pos) (tI X.K F (.srs ia)) := by
  have inner := pe_callTy (p := q) (pos := pos2) (cr_setNew hc) hg2 hm2 (by decide +kernel) (pa_cons ha pa_nil (starEach1 (nostar hs) _)) (by decide) (by decide) (starEach1 (nostar hs) _) rfl
  refine PE_imp (pe_callB (cr_sortedSet hc) hg hm (by decide +kernel) (pa_cons inner pa_nil rfl) (by decide) (by decide) rfl rfl) fun σ H Q ⟨U, B, L, env, R, h⟩ => ?_
  unfold evE at h
  refine tI_bind R h fun x env1 H1 z1 e1 k1 R1 v1 h => ?_
  obtain ⟨d, l1, h⟩ := h.ro
  match d, l1, h with
  | .lst xs, l1, h =>
    have h : PostE X.K U B L σ env1 H1 Q ((ro (intsD xs)).bind fun ns => if decide (ns.length < 64) = true then .ok (.ol ((isort (uniq ns)).map .int), env1) else .bad) := h
    obtain ⟨ns, l2, h⟩ := h.ro
    obtain ⟨l3, h⟩ := h.ifB
    have l3 := of_decide_eq_true l3
    obtain ⟨b, vs, rfl, h1, h2⟩ := (v1.look R1 l1).lst
    refine ⟨b, ns, rfl, by rw [← h2.intsV l2]; exact SqL.of h1, l3, fun p1 n hp hn => ⟨p1, _, n, rfl, upd_same, by omega, fun ms p2 m1 m2 m3 hp2 => ?_⟩⟩
    have e3 : Ev (Wof B L) H1 (upd H1 p1 (SetO X.w p1 (fun j => decide (j ∈ ns)) n)) := .new hp
    have eq : ms = isort (uniq ns) := rise_one m1 (isort_rise (uniq_nodup ns)) fun k => by
      rw [m2 k, decide_eq_true_eq, (isort_perm (uniq ns)).mem_iff, uniq_mem]
    subst eq
    exact (h.step e3 rfl).fin (R1.grow (.new hp)) (new_lst hp2 VRs.of_ints)
end DI
end

section
set_option Elab.async false
set_option linter.all false
set_option maxRecDepth 100000
/-! Part 16b: sorted(d.items()), the keys and values ints. -/
namespace DI
open PySem PySem.Spec PyProof.Rows L2

/-! ### several new things in the abstract heap -/
def layF (H : Hp) (f : Addr → Option HO) : Hp := fun b => match f b with
  | some o => some o
  | none => H b
section
variable {X : Cx} {pins : List (Addr × Obj)} {σ : L2.St} {H : Hp} {s : Shared} {h' : Heap} {f : Addr → Option HO}
theorem layF_new {b : Addr} {o : HO} (e : f b = some o) : layF H f b = some o := by unfold layF; rw [e]
theorem layF_old {b : Addr} (e : f b = none) : layF H f b = H b := by unfold layF; rw [e]
theorem Inv.layF {t' : Nat} (I : Inv X pins σ H s) (k : ∀ b o, s.heap.get? b = some o → h'.get? b = some o) (hf : ∀ b o, f b = some o → s.heap.get? b = none ∧ ∀ H', ObjOk X.prog X.w H' h' b o) : Inv X pins σ (layF H f) { s with heap := h', toks := t' } := by
  have far : ∀ b o, s.heap.get? b = some o → f b = none := fun b o e => by
    cases q : f b with
    | none => rfl
    | some u => rw [(hf b u q).1] at e; cases e
  have kept : ∀ b u, H b = some u → f b = none := fun b u e => by
    cases q : f b with
    | none => rfl
    | some v => rw [I.hok.gone (hf b v q).1] at e; cases e
  refine I.call (ch := []) ⟨fun b o e _ _ _ => k b o e, fun b o e _ _ _ => ⟨o.slots, k b o e⟩, fun b o e n _ => (layF_old (far b o e)).trans n, fun b o e _ => ⟨o, k b o e⟩, fun b xs e => (layF_old (kept b _ e)).trans e, fun b o u e => (layF_old (kept b _ e)).trans e, fun b ps e => ⟨#[], by rw [layF_old (kept b _ e), e]; simp⟩⟩ (fun b u e => ?_) I.bare (fun _ z => nomatch z)
  cases q : f b with
  | some v =>
    rw [layF_new q] at e
    cases e
    exact (hf b _ q).2 _
  | none =>
    rw [layF_old q] at e
    exact (I.hok b u e).stay (fun c v _ q => k c v q) (fun c q => (layF_old (kept c _ q)).trans q) fun c xs q => (layF_old (kept c _ q)).trans q
end
/-! ### d.items() -/
def vwO (D d : Addr) : HO := .ext fun h => h.IsItemsView D d
theorem vwO_ok {P : Program} {w : World} {H : Hp} {h : Heap} {D d : Addr} (v : h.IsItemsView D d) : ObjOk P w H h D (vwO D d) := by
  refine ⟨v, v.imp fun o q => q.1, fun h1 h2 p k => ?_⟩
  obtain ⟨o, e, q⟩ := p
  exact ⟨o, k o e, q⟩
def tVw (to : TE) : TE := fun σ H Q => to σ H fun x H1 => ∃ d us, x = .ref d ∧ H1 d = some (.dK us) ∧ ∀ D, H1 D = none → Q (.ref D) (upd H1 D (vwO D d))
theorem pe_items {X : Cx} {o : Expr} {to : TE} {apos cpos : Pos} (ho : PE X o to) (hb : noCall o = true) (hl : (apos.endLine == cpos.line) = true) : PE X (.Call (.Attribute o "items" apos) [] [] cpos) (tVw to) := by
  refine ⟨fun pins s σ H Q I h => wpAny_Call_method (T := "dict") (id := "dict.items") (base_plain hb) rfl hl PySem.F.plainAttrs_dict PySem.F.slot_dict_items PySem.F.type_dict_items (thn (ho.run pins s σ H _ I h) fun u s1 ⟨x, H1, I1, rx, d, us, ex, hd, q⟩ => ?_)⟩
  subst ex
  obtain rfl : u = Value.ref d := rx
  obtain ⟨z, hs, vs, kv, hm⟩ := dk_of I1.hok hd
  refine ⟨hm.typeIs, hm.mapOf.noDict, ?_⟩
  have hn := I1.hok.fresh (Nat.le_refl s1.heap.objs.size)
  have I2 : Inv X pins σ (upd H1 s1.heap.objs.size (vwO s1.heap.objs.size d)) { s1 with heap := s1.heap.push { cls := .type "dict_items", data := .fields #[.ref d] } } := I1.laid (t' := s1.toks) (fun b ob q => Heap.get?_push_of_some _ q) (Nat.le_refl _) (vwO_ok ⟨_, Heap.get?_push_size _ rfl, rfl, rfl⟩)
  show wpAny _ _ (callWith cpos (.builtin "dict.items") [.ref d] [] []) _ X.xe s1
  exact method_meetsIn PySem.F.slot_dict_items PySem.F.entry_dict_items rfl (PySem.evalArgs_none ⟨rfl, hm.typeIs, PySem.F.args_dict_items_1 _, _, meets_dict_items (mixKind X.prog X.w) d hs, ⟨vs, hm⟩, .ref s1.heap.objs.size, _, I2, rfl, q _ hn⟩)
/-! ### its sorting -/
theorem each_idx {α β : Type} {R : α → β → Prop} : ∀ {vs : List α} {bs : List β}, vs.length = bs.length → (∀ (j : Nat) v b, vs[j]? = some v → bs[j]? = some b → R v b) → PySem.W.EachIs R vs bs
  | [], [], _, _ => .nil
  | [], _ :: _, h, _ => by simp at h
  | _ :: _, [], h, _ => by simp at h
  | v :: vs, b :: bs, h, r => .cons (r 0 v b rfl rfl) (each_idx (by simpa using h) fun j v b h1 h2 => r (j + 1) v b (by simpa using h1) (by simpa using h2))
def leP (x y : Int × Int) : Prop := x.1 < y.1 ∨ (x.1 = y.1 ∧ x.2 ≤ y.2)
theorem insP_ok (x : Int × Int) : ∀ l : List (Int × Int), (insP x l).Perm (x :: l) ∧ (l.Pairwise leP → (insP x l).Pairwise leP)
  | [] => ⟨.refl _, fun _ => List.pairwise_singleton _ _⟩
  | y :: r => by
    obtain ⟨i1, i2⟩ := insP_ok x r
    unfold insP
    by_cases q : x.1 < y.1 ∨ (x.1 = y.1 ∧ x.2 ≤ y.2)
    · rw [if_pos (decide_eq_true q)]
      refine ⟨.refl _, fun h => List.pairwise_cons.mpr ⟨fun z hz => ?_, h⟩⟩
      rcases List.mem_cons.mp hz with e | hz
      · rw [e]; exact q
      · have := (List.pairwise_cons.mp h).1 z hz
        unfold leP at this ⊢
        omega
    · rw [if_neg (by simpa using q)]
      refine ⟨(i1.cons y).trans (List.Perm.swap x y r), fun h => ?_⟩
      obtain ⟨h1, h2⟩ := List.pairwise_cons.mp h
      refine List.pairwise_cons.mpr ⟨fun z hz => ?_, i2 h2⟩
      rcases List.mem_cons.mp (i1.mem_iff.mp hz) with e | hz
      · rw [e]; unfold leP; omega
      · exact h1 z hz
theorem psort_ok : ∀ l : List (Int × Int), (psort l).Perm l ∧ (psort l).Pairwise leP
  | [] => ⟨.refl _, .nil⟩
  | x :: r => by
    obtain ⟨i1, i2⟩ := psort_ok r
    obtain ⟨j1, j2⟩ := insP_ok x (psort r)
    exact ⟨j1.trans (i1.cons x), j2 i2⟩
abbrev encP (b : Int × Int) : PyData := .tuple [.int b.1, .int b.2]
theorem psort_merge (l : List (Int × Int)) : l.mergeSort (PySem.W.dataLe false encP) = psort l := by
  rw [PySem.W.dataLe_ii (β := Int × Int) (fun p => p.1) (fun p => p.2)]
  have tot : PySem.W.TotalLe (fun p q : Int × Int => decide (p.1 < q.1 ∨ (p.1 = q.1 ∧ p.2 ≤ q.2))) := ⟨fun a b c h1 h2 => by simp only [decide_eq_true_eq] at h1 h2 ⊢; omega, fun a b => by simp only [Bool.or_eq_true, decide_eq_true_eq]; omega⟩
  have p1 := PySem.W.sort_pairwise tot l
  refine List.Perm.eq_of_pairwise (le := leP) (fun a b _ _ h1 h2 => ?_) ?_ (psort_ok l).2 ((List.mergeSort_perm l _).trans (psort_ok l).1.symm)
  · unfold leP at h1 h2
    have e1 : a.1 = b.1 := by omega
    have e2 : a.2 = b.2 := by omega
    exact Prod.ext e1 e2
  · exact p1.imp fun h => of_decide_eq_true h
theorem kv_get : ∀ {us : List (Key × V)} {vs : List (Key × Value)} {j : Nat} {k : Key} {v : V}, KV us vs → us[j]? = some (k, v) → ∃ x, vs[j]? = some (k, x) ∧ RelV v x
  | _, _, _, _, _, .nil, e => by simp at e
  | (k0, v0) :: _, (k1, x1) :: _, 0, k, v, .cons r _, e => by
    obtain ⟨r1, r2⟩ := r
    have r1 : k0 = k1 := r1
    subst r1
    cases e
    exact ⟨x1, rfl, r2⟩
  | _ :: us, _ :: vs, j + 1, k, v, .cons _ t, e => kv_get (j := j) t (by simpa using e)
/-- a pair of ints stands at t -/
def IsP (h : Heap) (t : Addr) (b : Int × Int) : Prop := ∃ k1 k2, h.get? t = some { cls := .type "tuple", data := .seq #[.int b.1 k1, .int b.2 k2] }
theorem IsP.one {h : Heap} {t : Addr} {b c : Int × Int} (x : IsP h t b) (y : IsP h t c) : b = c := by
  obtain ⟨k1, k2, e1⟩ := x
  obtain ⟨l1, l2, e2⟩ := y
  rw [e1] at e2
  simp only [Option.some.injEq, Obj.mk.injEq, Data.seq.injEq, Array.mk.injEq, List.cons.injEq, Value.int.injEq, and_true, true_and] at e2
  exact Prod.ext e2.1.1 e2.2.1
theorem vals_refs : ∀ ts : List Addr, Vals (ts.map V.ref) (ts.map Value.ref)
  | [] => .nil
  | _ :: ts => .cons rfl (vals_refs ts)
def rSit (X : Cx) : List V → Hp → VK → Prop := fun vs H Q => ∃ (D d : Addr) (us : List (Key × V)) (ps : List (Int × Int)), vs = [.ref D] ∧ H D = some (vwO D d) ∧ H d = some (.dK us) ∧ us = ps.map (fun b => (.inl b.1, .int b.2)) ∧ ps.length < 64 ∧
  ∀ (H' : Hp) (p : Addr) (ts : List Addr), Ev No H H' → H p = none → H' p = some (.lst (ts.map .ref)) → PySem.W.EachIs (fun t b => H t = none ∧ t ≠ p ∧ H' t = some (.tup [.int b.1, .int b.2])) ts (psort ps) → Q (.ref p) H'
open Classical in
theorem cr_sit {X : Cx} (hc : X.calm = true) (hu : X.A.units + 64 < cLine) : CallR X (.builtin "sorted") (rSit X) := by
  intro pins s σ H vs us Q I r h
  obtain ⟨D, d, us', ps, rfl, hD, hd, hp, hl, q⟩ := h
  have hv : s.heap.IsItemsView D d := (I.hok D _ hD).1
  obtain ⟨z, hs, kvs, kv, o, es, ep, hat⟩ := dk_of I.hok hd
  have at_ : s.heap.DictAt (mixKind X.prog X.w) d kvs ep := ⟨o, es, hat⟩
  have lk : kvs.length = ps.length := by rw [← Paired.length kv, hp, List.length_map]
  have big : 64 ≤ sizeLine := by decide
  rw [Vals.ref1 r]
  refine Calls.call_function_entry kind_sorted plain_sorted entry_sorted (args_sorted1 _) ?_
  unfold Builtin.«sorted»
  refine wpAny_bind (m := checkCount "sorted" 1 1 _) (wpAny_pure ?_)
  refine wpAny_bind (PySem.W.kdx_collect (A := X.A.in1) (knd := mixKind X.prog X.w) (kvs := kvs) (ep := ep) (I.ok.hd hc) hv at_ (by omega) fun h1 tk as k1 la G => ?_)
  refine wpAny_bind (wpAny_newList ?_ (by rw [List.length_map]; omega))
  generalize hp2 : h1.objs.size = p
  generalize hh2 : h1.push { cls := .type "list", data := .seq (as.map Value.ref).toArray } = h2
  have ho : h2.get? p = some (seqObj "list" (as.map Value.ref).toArray 0) := by rw [← hh2, ← hp2]; exact Heap.get?_push_size _ rfl
  have k2 : ∀ b o, h1.get? b = some o → h2.get? b = some o := fun b o e => by rw [← hh2]; exact Heap.get?_push_of_some _ e
  have pairs : ∀ (j : Nat) (a : Addr) (b : Int × Int), as[j]? = some a → ps[j]? = some b → IsP h1 a b := fun j a b ha hb => by
    obtain ⟨key, k, x, e1, e2, e3⟩ := G.pairs j a ha
    have e4 : us'[j]? = some (.inl b.1, .int b.2) := by rw [hp, List.getElem?_map, hb]; rfl
    obtain ⟨x2, e5, e7⟩ := kv_get kv e4
    rw [e1] at e5
    cases e5
    obtain ⟨tx, rfl⟩ : ∃ t, x = Value.int b.2 t := e7
    rcases keyIs_shape (show keyIs (.inl b.1) key = true from e2) with ⟨i, t, f1, rfl⟩ | ⟨_, _, f1, _⟩
    · cases f1
      exact ⟨t, tx, e3⟩
    · cases f1
  have mem1 : ∀ a ∈ as, ∃ b, IsP h1 a b := fun a ha => by
    obtain ⟨j, hj⟩ := List.getElem?_of_mem ha
    have : j < ps.length := by rw [← lk, ← la]; exact (List.getElem?_eq_some_iff.mp hj).1
    exact ⟨_, pairs j a _ hj (List.getElem?_eq_getElem this)⟩
  have er : PySem.W.EachIs (fun v b => ∃ t, v = Value.ref t ∧ t ∈ as ∧ IsP h1 t b) (as.map Value.ref) ps := each_idx (by rw [List.length_map, la, lk]) fun j v b e1 e2 => by
    rw [List.getElem?_map] at e1
    obtain ⟨a, f1, rfl⟩ := Option.map_eq_some_iff.mp e1
    exact ⟨a, rfl, List.mem_of_getElem? f1, pairs j a b f1 e2⟩
  have neP : ∀ t ∈ as, t ≠ p := fun t ht e => by
    obtain ⟨b, k3, k4, e1⟩ := mem1 t ht
    have := Heap.lt_size e1
    rw [e, ← hp2] at this
    exact Nat.lt_irrefl _ this
  refine wpAny_bind (wpAny_holding (PySem.W.list_sort_data (s := { s with heap := h2, toks := tk }) (enc := encP) (bs := ps) ho er (er.mono fun v b ⟨t, e1, e2, k3, k4, e3⟩ => by subst e1; exact ⟨_, .tuple (k2 _ _ e3) rfl rfl (.cons (.int _ _) (.cons (.int _ _) .nil)), by simp⟩) (PySem.W.AllAlike.of fun _ _ => by simp [PySem.W.alike, PySem.W.alikeAll]) (PySem.W.Sortable.tuples fun _ => ⟨_, _, rfl⟩) (by omega) (fun b _ => by
    rw [show (encP b).depth = 1 by simp [PyData.depth, PyData.depthAll]]
    show X.A.units + 1 + 1 + 1 < cLine
    omega) fun out lo eo => ?_))
  · rw [psort_merge] at eo
    obtain ⟨ts, rfl, et⟩ : ∃ ts : List Addr, out = ts.map Value.ref ∧ PySem.W.EachIs (fun t b => t ∈ as ∧ IsP h1 t b) ts (psort ps) := by
      clear lo
      generalize psort ps = bs at eo ⊢
      induction eo with
      | nil => exact ⟨[], rfl, .nil⟩
      | cons r0 _ ih =>
        obtain ⟨t, rfl, m⟩ := r0
        obtain ⟨ts, rfl, et⟩ := ih
        exact ⟨t :: ts, rfl, .cons m et⟩
    obtain ⟨ee, hat3⟩ := sortedHeap_at (vs := as.map Value.ref) (out := (ts.map Value.ref).toArray) ho
    have k3 : ∀ b o, b ≠ p → h2.get? b = some o → (sortedHeap h2 p (as.map Value.ref) (ts.map Value.ref).toArray).get? b = some o := fun b o n e => by rw [sortedHeap_old n (Heap.lt_size e)]; exact e
    have kAll : ∀ b o, s.heap.get? b = some o → (sortedHeap h2 p (as.map Value.ref) (ts.map Value.ref).toArray).get? b = some o := fun b o e => by
      have e1 := k1 b o e
      refine k3 b o (fun q => ?_) (k2 b o e1)
      have := Heap.lt_size e1
      rw [q, ← hp2] at this
      exact Nat.lt_irrefl _ this
    have out1 : ∀ b, h1.objs.size ≤ b → s.heap.get? b = none := fun b hb => by
      cases q : s.heap.get? b with
      | none => rfl
      | some o => exact absurd (Nat.lt_of_lt_of_le (Heap.lt_size (k1 b o q)) hb) (Nat.lt_irrefl _)
    have lp : s.heap.get? p = none := out1 p (Nat.le_of_eq hp2)
    let f : Addr → Option HO := fun b => if b = p then some (.lst (ts.map V.ref)) else if w : b ∈ as ∧ ∃ u, IsP h1 b u then some (.tup [.int w.2.choose.1, .int w.2.choose.2]) else none
    have fp : f p = some (.lst (ts.map V.ref)) := if_pos rfl
    have ft : ∀ t b, t ∈ as → IsP h1 t b → f t = some (.tup [.int b.1, .int b.2]) := fun t b ht hb => by
      have w : t ∈ as ∧ ∃ u, IsP h1 t u := ⟨ht, b, hb⟩
      show (if t = p then some (HO.lst (ts.map V.ref)) else if w : t ∈ as ∧ ∃ u, IsP h1 t u then some (.tup [.int w.2.choose.1, .int w.2.choose.2]) else none) = _
      rw [if_neg (neP t ht), dif_pos w, IsP.one w.2.choose_spec hb]
    have hf : ∀ b o, f b = some o → s.heap.get? b = none ∧ ∀ H', ObjOk X.prog X.w H' (sortedHeap h2 p (as.map Value.ref) (ts.map Value.ref).toArray) b o := fun b o e => by
      by_cases e1 : b = p
      · subst e1
        rw [fp] at e
        cases e
        exact ⟨lp, fun H' => ⟨by rw [List.length_map]; have := lo; rw [List.length_map] at this; omega, ts.map Value.ref, ee, vals_refs ts, hat3⟩⟩
      · have e2 : f b = if w : b ∈ as ∧ ∃ u, IsP h1 b u then some (.tup [.int w.2.choose.1, .int w.2.choose.2]) else none := if_neg e1
        rw [e2] at e
        split at e
        · rename_i w
          cases e
          obtain ⟨c1, c2, e3⟩ := w.2.choose_spec
          refine ⟨(by
            cases q : s.heap.get? b with
            | none => rfl
            | some o => exact absurd (Nat.lt_trans (Heap.lt_size q) (G.above b w.1)) (Nat.lt_irrefl _)), fun H' => ⟨by show 2 ≤ sizeLine; decide, [_, _], .cons ⟨c1, rfl⟩ (.cons ⟨c2, rfl⟩ .nil), ⟨_, k3 b _ (neP b w.1) (k2 _ _ e3), rfl, _, rfl⟩⟩⟩
        · cases e
    have J := Inv.layF (f := f) (t' := tk) I kAll hf
    have hfresh : ∀ b o, f b = some o → H b = none := fun b o e => I.hok.gone (hf b o e).1
    refine wpAny_pure ⟨_, rfl, .ref p, _, J, rfl, q _ p ts ⟨fun b o e _ => ?_, fun b e => ?_⟩ (hfresh p _ fp) (layF_new fp) (et.mono fun t b ⟨m1, m2⟩ => ⟨hfresh t _ (ft t b m1 m2), neP t m1, layF_new (ft t b m1 m2)⟩)⟩
    · rw [layF_old (by cases q : f b with
        | none => rfl
        | some u => rw [hfresh b u q] at e; cases e)]
      exact e
    · unfold layF
      split
      · exact fun z => nomatch z
      · exact e
theorem pairs_of : ∀ {kvs : List (Key × D)} {ps : List (Int × Int)}, pairsI kvs = some ps → kvs = ps.map fun b => (.inl b.1, .int b.2)
  | [], _, h => by cases h; rfl
  | (.inl k, .int i) :: r, ps, h => by
    obtain ⟨qs, h1, rfl⟩ := Option.map_eq_some_iff.mp (show (pairsI r).map ((k, i) :: ·) = some ps from h)
    rw [pairs_of h1]
    rfl
  | (.inr _, _) :: _, _, h => by cases h
  | (.inl _, .non) :: _, _, h => by cases h
  | (.inl _, .bl _) :: _, _, h => by cases h
  | (.inl _, .str _) :: _, _, h => by cases h
  | (.inl _, .ty _) :: _, _, h => by cases h
  | (.inl _, .cl _) :: _, _, h => by cases h
  | (.inl _, .tup _) :: _, _, h => by cases h
  | (.inl _, .lst _) :: _, _, h => by cases h
  | (.inl _, .scr _) :: _, _, h => by cases h
  | (.inl _, .dct _) :: _, _, h => by cases h
  | (.inl _, .rng _ _) :: _, _, h => by cases h
theorem vks_ints {K : PySem.W.Frag} {U : Addr → Prop} {H : Hp} : ∀ {ps : List (Int × Int)} {us : List (Key × V)}, VKs K U H (ps.map fun b => (.inl b.1, .int b.2)) us → us = ps.map fun b => (.inl b.1, .int b.2)
  | [], _, .nil => rfl
  | _ :: _, _, .cons r t => by cases r; rw [vks_ints t]; rfl
theorem i_sit {X : Cx} {F : CF} {a : Expr} {ia : IE} (hc : X.calm = true) (hu : X.A.units + 64 < cLine) {p ap pos p2 : Pos} (hg : Gl X "sorted") (hm : X.mg "sorted" = none) (ha : PE X a (tI X.K F ia)) (hb : noCall a = true) (hl : (ap.endLine == p2.line) = true) :
    PE X (.Call (.Name "sorted" p) [.Call (.Attribute a "items" ap) [] [] p2] [] pos) (tI X.K F (.sit ia)) := by
  refine PE_imp (pe_callB (cr_sit hc hu) hg hm (by decide +kernel) (pa_cons (pe_items ha hb hl) pa_nil rfl) (by decide) (by decide) rfl rfl) fun σ H Q ⟨U, B, L, env, R, h⟩ => ?_
  unfold evE at h
  refine tI_bind R h fun x env1 H1 z1 e1 k1 R1 v1 h => ?_
  obtain ⟨d, l1, h⟩ := h.ro
  match d, l1, h with
  | .dct kvs, l1, h =>
    have h : PostE X.K U B L σ env1 H1 Q ((ro (pairsI kvs)).bind fun ps => if decide (ps.length < 64) = true then .ok (.ol ((psort ps).map fun q => .tup [.int q.1, .int q.2]), env1) else .bad) := h
    obtain ⟨ps, l2, h⟩ := h.ro
    obtain ⟨l3, h⟩ := h.ifB
    obtain ⟨b, us, rfl, h1, h2⟩ := (v1.look R1 l1).dct
    rw [pairs_of l2] at h2
    refine ⟨b, us, rfl, h1, fun D hD => ⟨D, b, us, ps, rfl, upd_same, (upd_ne (ne_of_none h1 hD)).trans h1, vks_ints h2, of_decide_eq_true l3, fun H' q ts ev hq hq2 et => ?_⟩⟩
    have e3 : Ev No H1 H' := (Ev.new hD).trans ev
    have hq1 : H1 q = none := (Ev.new (W := No) hD).none hq
    refine h H' _ (e3.mono fun _ z => False.elim z) rfl ⟨q, ts.map V.ref, rfl, hq1, hq2, R1.more e3 hq1 (by rw [hq2]; exact fun z => nomatch z), ?_⟩
    have tr1 := R1.tr
    generalize psort ps = bs at et ⊢
    clear hq2
    induction et with
    | nil => exact .nil
    | @cons t b ts bs r0 _ ih =>
      obtain ⟨m1, m2, m3⟩ := r0
      have n1 : H1 t = none := (Ev.new (W := No) hD).none m1
      exact .cons (.tup (.inl ⟨.inl m3, fun z => z.elim (fun z => tr1 t z n1) m2⟩) (.cons (.int _) (.cons (.int _) .nil))) ih
end DI
end

section
set_option Elab.async false
set_option linter.all false
set_option maxRecDepth 100000
/-! Part 16: what passes the check is sound (expressions). -/
namespace DI
open PySem PySem.Spec PyProof.Rows L2

structure XOk (G : Gc) (F : CF) (X : Cx) : Prop where
  hu : X.A.units + 64 < cLine
  hgd : X.A.guards = some []
  hc : X.calm = true
  hN : X.N.Nodup
  defs : ∀ (f : Nat) (x : Str) (np : Nat), G.defs[f]? = some (x, np) → ∃ k a fd ps, X.mg x = some (.ref a) ∧ PySem.W.keepIn X.K (.ref a) = true ∧ FnG X.prog X.w X.K X.mg X.base k a fd ps (spI X.K ps.length (F f)) ∧ ps.length = np ∧ Room k X.A ∧ Binds X.K fd ps []
  glos : ∀ x d, G.glos.lookup x = some d → ∃ v u, X.mg x = some u ∧ RelV v u ∧ ∀ U H, VR X.K U H d v
  dcts : ∀ x t, G.dcts.lookup x = some t → ∃ g, GD X x t g
  free : ∀ x ∈ G.free, X.mg x = none
structure CcOk (C : Cc) (X : Cx) : Prop where
  N : X.N = C.N
  sc : X.env.scope = C.sc
  fn : ∀ x, C.fn x = true → X.fn x = true
section
variable {G : Gc} {F : CF} {X : Cx} {C : Cc} {x : Str}
theorem CcOk.vis (c : CcOk C X) (h : visB C.sc x = true) : Vis X.env.scope x := by
  unfold visB at h
  unfold Vis
  rw [c.sc]
  split at h
  · exact .inl (by assumption)
  · exact .inr (.inl (by assumption))
  · exact .inr (.inr (by assumption))
  · cases h
theorem CcOk.loc (c : CcOk C X) (h : locB C x = true) : L2.Loc X.env.scope x ∧ (X.fn x = true ∨ X.env.scope.names.lookup x = some .local) := by
  unfold locB at h
  unfold L2.Loc
  rw [c.sc]
  split at h
  · exact ⟨.inl (by assumption), .inr (by assumption)⟩
  · exact ⟨.inr (by assumption), .inl (c.fn x h)⟩
  · cases h
theorem CcOk.gl (c : CcOk C X) (h : glB C x = true) : Gl X x ∧ (x == ("__debug__" : Str)) = false := by
  unfold glB at h
  unfold Gl Env.kindOf
  rw [c.sc]
  split at h
  · exact ⟨by assumption, by simpa using h⟩
  · cases h
theorem CcOk.bl (o : XOk G F X) (c : CcOk C X) (h : blB G C x = true) : Gl X x ∧ (x == ("__debug__" : Str)) = false ∧ X.mg x = none := by
  obtain ⟨h1, h2⟩ := ba2 h
  obtain ⟨h3, h4⟩ := c.gl h1
  exact ⟨h3, h4, o.free x (of_decide_eq_true h2)⟩
theorem XOk.blk (o : XOk G F X) (s : Shared) (H : Hp) (scope : Scope) (ce : Env) (fp : List Addr) : XOk G F (X.blk s H scope ce fp) :=
  ⟨o.hu, o.hgd, o.hc, o.hN, o.defs, o.glos, fun x t h => let ⟨g, q⟩ := o.dcts x t h; ⟨g, q.mg, q.get, q.kd⟩, o.free⟩
theorem CcOk.blk (c : CcOk C X) (s : Shared) (H : Hp) (scope : Scope) (C0 : Addr) (cl : List (Str × Addr)) (fp : List Addr) : CcOk ⟨C.N, relS scope C.sc, fun y => scope.names.lookup y == some .cell⟩ (X.blk s H scope (compEnvC scope cl C0 X.env) fp) :=
  ⟨c.N, by rw [← c.sc]; rfl, fun x h => h⟩
theorem boot_bi (b : Bi) : bootBuiltins (biN b) = some (biV b) := by cases b <;> decide +kernel
theorem name_bi (b : Bi) : biN b ≠ "__name__" := by cases b <;> decide +kernel
theorem boot_ty : ∀ p ∈ tyN, bootBuiltins p.1 = some (.type p.2) ∧ p.1 ≠ "__name__" := by
  intro p hp
  simp only [tyN, List.mem_cons, List.not_mem_nil, or_false] at hp
  rcases hp with rfl | rfl | rfl | rfl | rfl | rfl <;> exact ⟨by decide +kernel, by decide +kernel⟩
theorem evVs_len {F : CF} : ∀ (es : IEs) (env : Envi) (r : List Vl × Envi), evVs F es env = .ok r → r.1.length = lenI es
  | .nil, _, _, h => by cases h; rfl
  | .cons e es, env, r, h => by
    have h : ((evE F e env).bind fun p => (evVs F es p.2).bind fun q => .ok (fz p.1 :: q.1, q.2)) = .ok r := h
    cases q1 : evE F e env with
    | bad => rw [q1] at h; cases h
    | ok p =>
      rw [q1, Res.ok_bind] at h
      cases q2 : evVs F es p.2 with
      | bad => rw [q2] at h; cases h
      | ok q => rw [q2] at h; cases h; exact congrArg (· + 1) (evVs_len es _ _ q2)
theorem lookD_ok {l : List (Str × D)} {x : Str} {d : D} (h : lookD l x d = true) : l.lookup x = some d := by
  unfold lookD at h
  split at h
  · rw [eqDD_ok _ _ h]; assumption
  · cases h
theorem lookT_ok {l : List (Str × List (Key × D))} {x : Str} {d : List (Key × D)} (h : lookT l x d = true) : l.lookup x = some d := by
  unfold lookT at h
  split at h
  · rw [eqKs_ok _ _ h]; assumption
  · cases h
theorem lit_ok {d : D} {k : Const} {n : Nat} {pos : Pos} (h : litB d k = true) : PE X (.Constant k n pos) (tI X.K F (.lit d)) := by
  unfold litB at h
  split at h
  · rw [eqDD_ok _ _ h]; exact i_lit pe_non fun U H => .non
  · rw [eqDD_ok _ _ h]; exact i_lit pe_bl fun U H => .bl _
  · rw [eqDD_ok _ _ h]; exact i_lit pe_int fun U H => .int _
  · rename_i x
    rw [eqDD_ok _ _ h]
    refine i_lit (v := .str x) pe_str fun U H => ?_
    have := VR.str (K := X.K) (U := U) (H := H) x.cps.toList
    rw [str_eta] at this
    exact this
  · cases h
theorem plix_ok {b : Expr} (h : plIx b = true) : PlainIx b := by
  intro o i
  cases b <;> first | rfl | cases h
theorem plainT_ok {e : Expr} (h : plainT e = true) (env : Env) : ∀ whole, isTrue e env whole = (do let v ← whole; standAt e.pos; holding [v] (truthy v)) := by
  intro whole
  cases e <;> first | rfl | (cases h; done) | skip
  rename_i op _ _
  cases op <;> first | rfl | cases h
theorem ba3 {a b c : Bool} (h : (a && b && c) = true) : a = true ∧ b = true ∧ c = true := by simpa [and_assoc] using h
theorem ba4 {a b c d : Bool} (h : (a && b && c && d) = true) : a = true ∧ b = true ∧ c = true ∧ d = true := by simpa [and_assoc] using h
theorem ba5 {a b c d e : Bool} (h : (a && b && c && d && e) = true) : a = true ∧ b = true ∧ c = true ∧ d = true ∧ e = true := by simpa [and_assoc] using h
theorem ba6 {a b c d e f : Bool} (h : (a && b && c && d && e && f) = true) : a = true ∧ b = true ∧ c = true ∧ d = true ∧ e = true ∧ f = true := by simpa [and_assoc] using h
theorem ba7 {a b c d e f g : Bool} (h : (a && b && c && d && e && f && g) = true) : a = true ∧ b = true ∧ c = true ∧ d = true ∧ e = true ∧ f = true ∧ g = true := by simpa [and_assoc] using h
theorem i_meth {m : Me} {l : Expr} {io : IE} {es : IEs} {ls : List Expr} {ap pos : Pos} (h1 : noCall l = true) (h2 : (ap.endLine == pos.line) = true) (h3 : ls.all unst = true) (h4 : ls.length = meA m) (ho : PE X l (tI X.K F io)) (ha : PA X ls (tA X.K F es)) (hn : m = .pop → es = .nil) :
    PE X (.Call (.Attribute l (meN m) ap) ls [] pos) (tI X.K F (.me m io es)) := by
  cases m with
  | pop =>
    have e : ls = [] := List.eq_nil_of_length_eq_zero h4
    subst e
    rw [hn rfl]
    exact i_pop ho h1 h2
  | append =>
    obtain ⟨e, rfl⟩ := List.length_eq_one_iff.mp h4
    exact i_append ho ha h1 h3 h2
  | extend =>
    obtain ⟨e, rfl⟩ := List.length_eq_one_iff.mp h4
    exact i_extend ho ha h1 h3 h2
  | popAt =>
    obtain ⟨e, rfl⟩ := List.length_eq_one_iff.mp h4
    exact i_popAt ho ha h1 h3 h2
  | count =>
    obtain ⟨e, rfl⟩ := List.length_eq_one_iff.mp h4
    exact i_count ho ha h1 h3 h2
end
set_option maxHeartbeats 4000000 in
mutual
theorem okE {G : Gc} {F : CF} : ∀ (i : IE) {C : Cc} {X : Cx} {e : Expr}, XOk G F X → CcOk C X → chkE G C i e = true → PE X e (tI X.K F i)
  | .var i, C, X, e, o, c, h => by
    unfold chkE at h
    split at h
    · obtain ⟨h1, h2, h3, h4⟩ := ba4 h
      exact i_var (by rw [c.N]; exact of_decide_eq_true h1) (c.vis h2) (by simpa using h3) (by simpa using h4)
    · cases h
  | .lit d, C, X, e, o, c, h => by
    unfold chkE at h
    split at h
    · exact lit_ok h
    · cases h
  | .glo x d, C, X, e, o, c, h => by
    unfold chkE at h
    split at h
    · obtain ⟨h1, h2, h3⟩ := ba3 h
      obtain ⟨v, u, g1, g2, g3⟩ := o.glos _ _ (lookD_ok h3)
      exact i_glo (c.gl h2).1 g1 g2 g3 (c.gl h2).2
    · cases h
  | .bin op a b, C, X, e, o, c, h => by
    unfold chkE at h
    split at h
    · obtain ⟨h1, h2, h3⟩ := ba3 h
      rw [← of_decide_eq_true h1]
      exact i_bin (okE a o c h2) (okE b o c h3)
    · cases h
  | .neg a, C, X, e, o, c, h => by
    unfold chkE at h
    split at h
    · exact i_neg (okE a o c h)
    · cases h
  | .cmp op a b, C, X, e, o, c, h => by
    unfold chkE at h
    split at h
    · obtain ⟨h1, h2, h3, h4⟩ := ba4 h
      rw [← of_decide_eq_true h1]
      exact i_cmp o.hu (okE a o c h3) (okE b o c h4) (by simpa using h2)
    · cases h
  | .isN n a, C, X, e, o, c, h => by
    unfold chkE at h
    split at h
    · obtain ⟨h1, h2⟩ := ba2 h
      cases n with
      | true => cases h1
      | false => exact i_isN (okE a o c h2)
    · obtain ⟨h1, h2⟩ := ba2 h
      cases n with
      | false => cases h1
      | true => exact i_notN (okE a o c h2)
    · cases h
  | .chn p q a b d, C, X, e, o, c, h => by
    unfold chkE at h
    split at h
    · obtain ⟨h1, h2, h3, h4, h5, h6⟩ := ba6 h
      rw [← of_decide_eq_true h1, ← of_decide_eq_true h2]
      exact i_chn o.hu (okE a o c h4) (okE b o c h5) (okE d o c h6) (by simpa using h3)
    · cases h
  | .and a b, C, X, e, o, c, h => by
    unfold chkE at h
    split at h
    · obtain ⟨h1, h2⟩ := ba2 h
      exact i_and (okE a o c h1) (pe_one (okE b o c h2))
    · obtain ⟨h1, h2⟩ := ba2 h
      exact i_and (okE a o c h1) (okE b o c h2)
    · cases h
  | .or a b, C, X, e, o, c, h => by
    unfold chkE at h
    split at h
    · obtain ⟨h1, h2⟩ := ba2 h
      exact i_or (okE a o c h1) (pe_one (okE b o c h2))
    · obtain ⟨h1, h2⟩ := ba2 h
      exact i_or (okE a o c h1) (okE b o c h2)
    · cases h
  | .not a, C, X, e, o, c, h => by
    unfold chkE at h
    split at h
    · exact i_not (okE a o c h)
    · cases h
  | .ife t a b, C, X, e, o, c, h => by
    unfold chkE at h
    split at h
    · obtain ⟨h1, h2, h3⟩ := ba3 h
      exact i_ife (okT t o c h1).1 (okE a o c h2) (okE b o c h3)
    · cases h
  | .tup es, C, X, e, o, c, h => by
    unfold chkE at h
    split at h
    · exact i_tup (okEs es o c h)
    · cases h
  | .lst es, C, X, e, o, c, h => by
    unfold chkE at h
    split at h
    · exact i_lst (okEs es o c h)
    · cases h
  | .dnew, C, X, e, o, c, h => by
    unfold chkE at h
    split at h
    · exact i_dnew
    · cases h
  | .idx a i, C, X, e, o, c, h => by
    unfold chkE at h
    split at h
    · obtain ⟨h1, h2, h3⟩ := ba3 h
      exact i_idx (Nat.lt_of_le_of_lt (Nat.add_le_add_left (by decide) _) o.hu) (okE a o c h2) (okE i o c h3) (plix_ok h1)
    · cases h
  | .slc a lo hi, C, X, e, o, c, h => by
    unfold chkE at h
    split at h
    · obtain ⟨h1, h2, h3⟩ := ba3 h
      exact i_slc (okE a o c h1) (okO lo o c h2) (okO hi o c h3)
    · cases h
  | .rev a, C, X, e, o, c, h => by
    unfold chkE at h
    split at h
    · exact i_rev (okE a o c h)
    · cases h
  | .gget x t a, C, X, e, o, c, h => by
    unfold chkE at h
    split at h
    · obtain ⟨h1, h2, h3, h4, h5⟩ := ba5 h
      obtain ⟨g, q⟩ := o.dcts _ _ (lookT_ok h3)
      exact i_gget q (c.gl h2).1 (c.gl h2).2 (okE a o c h5) (plix_ok h4)
    · cases h
  | .gin n x t a, C, X, e, o, c, h => by
    unfold chkE at h
    split at h
    · obtain ⟨h1, h2, h3, h4, h5⟩ := ba5 h
      obtain ⟨g, q⟩ := o.dcts _ _ (lookT_ok h4)
      cases n with
      | true => cases h1
      | false => exact i_gin q (c.gl h3).1 (c.gl h3).2 (okE a o c h5)
    · obtain ⟨h1, h2, h3, h4, h5⟩ := ba5 h
      obtain ⟨g, q⟩ := o.dcts _ _ (lookT_ok h4)
      cases n with
      | false => cases h1
      | true => exact i_gnin q (c.gl h3).1 (c.gl h3).2 (okE a o c h5)
    · cases h
  | .isi a ts, C, X, e, o, c, h => by
    unfold chkE at h
    split at h
    · obtain ⟨h1, h2, h3, h4, h5, h6⟩ := ba6 h
      have e1 := of_decide_eq_true h1
      subst e1
      obtain ⟨g1, g2, g3⟩ := c.bl o h2
      obtain ⟨k1, k2, k3⟩ := c.bl o h3
      obtain ⟨b1, b2⟩ := boot_ty _ (PySem.mem_of_lookup (of_decide_eq_true h4))
      exact i_isi1 g1 g3 k1 k3 b1 b2 k2 (okE a o c h6) (nostar h5)
    · cases h
  | .call f es, C, X, e, o, c, h => by
    unfold chkE at h
    split at h
    · obtain ⟨h1, h2, h3, h4⟩ := ba4 h
      obtain ⟨k, a, fd, ps, m1, m2, m3, m4, m5, m6⟩ := o.defs _ _ _ (of_decide_eq_true h2)
      have hg := c.gl h1
      have ha := okEs es o c h4
      have hl : ∀ env r, evVs F es env = .ok r → r.1.length = ps.length := fun env r hr => by rw [m4]; exact evVs_len es env r hr
      exact @i_call X F k a fd ps _ _ _ _ _ es f m3 m5 o.hgd hg.1 m1 m2 m6 ha hg.2 h3 hl
    · cases h
  | .bi b es, C, X, e, o, c, h => by
    unfold chkE at h
    split at h
    · obtain ⟨h1, h2, h3, h4⟩ := ba4 h
      have e1 := of_decide_eq_true h1
      subst e1
      obtain ⟨g1, g2, g3⟩ := c.bl o h2
      exact i_bi o.hu o.hgd o.hc g1 g3 (boot_bi b) (name_bi b) g2 h3 (okEs es o c h4)
    · cases h
  | .me m a es, C, X, e, o, c, h => by
    unfold chkE at h
    split at h
    · obtain ⟨h1, h2, h3, h4, h5, h6, h7⟩ := ba7 h
      have e1 := of_decide_eq_true h1
      subst e1
      have ho := okE (F := F) a o c h6
      have ha := okEs (F := F) es o c h7
      have h5 := of_decide_eq_true h5
      refine i_meth h2 h3 h4 h5 ho ha fun e1 => ?_
      subst e1
      have e2 := List.eq_nil_of_length_eq_zero h5
      subst e2
      cases es with
      | nil => rfl
      | cons _ _ => unfold chkEs at h7; cases h7
    · cases h
  | .srs a, C, X, e, o, c, h => by
    unfold chkE at h
    split at h
    · obtain ⟨h1, h2, h3, h4, h5, h6⟩ := ba6 h
      have e1 := of_decide_eq_true h1
      have e2 := of_decide_eq_true h2
      subst e1 e2
      exact i_srs o.hc (c.bl o h3).1 (c.bl o h3).2.2 (c.bl o h4).1 (c.bl o h4).2.2 (okE a o c h6) h5
    · cases h
  | .sit a, C, X, e, o, c, h => by
    unfold chkE at h
    split at h
    · obtain ⟨h1, h2, h3, h4, h5, h6⟩ := ba6 h
      have e1 := of_decide_eq_true h1
      have e2 := of_decide_eq_true h2
      subst e1 e2
      exact i_sit o.hc o.hu (c.bl o h3).1 (c.bl o h3).2.2 (okE a o c h6) h4 h5
    · cases h
  | .rgl t a, C, X, e, o, c, h => by
    unfold chkE at h
    split at h
    · obtain ⟨h1, h2, h3, h4, h5, h6⟩ := ba6 h
      have e1 := of_decide_eq_true h1
      have e2 := of_decide_eq_true h2
      subst e2
      exact i_rgl o.hc e1 (c.bl o h3).1 (c.bl o h3).2.2 (c.bl o h4).1 (c.bl o h4).2.2 (okE a o c h6) (nostar h5)
    · cases h
  | .comp el tg it d own, C, X, e, o, c, h => by
    unfold chkE at h
    split at h
    · obtain ⟨h1, h2, h3, h4, h5, h6, h7⟩ := ba7 h
      refine i_comp o.hc o.hN (okI it o c h4) (blkOk_by (by rw [c.N, c.sc]; exact h1)) (fun j hj => of_decide_eq_true (List.all_eq_true.mp h2 j hj)) h3 (fun s H C0 cl fp => ?_) (fun s H C0 cl fp => ?_) (fun s H C0 cl fp => ?_)
      · exact okG tg (o.blk s H _ _ fp) (c.blk s H _ C0 cl fp) h5
      · exact okC d (o.blk s H _ _ fp) (c.blk s H _ C0 cl fp) h6
      · exact okE el (o.blk s H _ _ fp) (c.blk s H _ C0 cl fp) h7
    · cases h
theorem okC {G : Gc} {F : CF} : ∀ (i : Option') {C : Cc} {X : Cx} {e : List Expr}, XOk G F X → CcOk C X → chkC G C i e = true → PTs X e (tCo X.K F i)
  | .no, C, X, e, o, c, h => by
    unfold chkC at h
    split at h
    · exact co_no
    · cases h
  | .so t, C, X, e, o, c, h => by
    unfold chkC at h
    split at h
    · exact co_so (okT t o c h).1
    · cases h
theorem okT {G : Gc} {F : CF} : ∀ (i : IT) {C : Cc} {X : Cx} {e : Expr}, XOk G F X → CcOk C X → chkT G C i e = true → PT X e (tTt X.K F i) ∧ (isE i = false → ∀ (op : BoolOp) (es : List Expr) (pos : Pos), e = .BoolOp op es pos → PW X e (tTt X.K F i))
  | .and a b, C, X, e, o, c, h => by
    have w : PW X e (tTt X.K F (.and a b)) := by
      unfold chkT at h
      split at h
      · obtain ⟨h1, h2⟩ := ba2 h
        exact i_and_t (okT a o c h1).1 (pw_and1 (okT b o c h2).1)
      · obtain ⟨h1, h2, h3⟩ := ba3 h
        exact i_and_t (okT a o c h2).1 ((okT b o c h3).2 (by simpa using h1) _ _ _ rfl)
      · cases h
    exact ⟨w.pt, fun _ _ _ _ _ => w⟩
  | .or a b, C, X, e, o, c, h => by
    have w : PW X e (tTt X.K F (.or a b)) := by
      unfold chkT at h
      split at h
      · obtain ⟨h1, h2⟩ := ba2 h
        exact i_or_t (okT a o c h1).1 (pw_or1 (okT b o c h2).1)
      · obtain ⟨h1, h2, h3⟩ := ba3 h
        exact i_or_t (okT a o c h2).1 ((okT b o c h3).2 (by simpa using h1) _ _ _ rfl)
      · cases h
    exact ⟨w.pt, fun _ _ _ _ _ => w⟩
  | .not a, C, X, e, o, c, h => by
    unfold chkT at h
    split at h
    · exact ⟨i_not_t (okT a o c h).1, fun _ _ _ _ e => nomatch e⟩
    · cases h
  | .e a, C, X, e, o, c, h => by
    refine ⟨?_, fun z => nomatch z⟩
    unfold chkT at h
    split at h
    · rename_i op x y l op' r pos
      obtain ⟨h1, h2, h3, h4⟩ := ba4 h
      rw [← of_decide_eq_true h1]
      exact i_cmpT o.hu (okE x o c h3) (okE y o c h4) (by simpa using h2)
    · rename_i n x l k p1 p2
      obtain ⟨h1, h2⟩ := ba2 h
      cases n with
      | true => cases h1
      | false => exact i_isN_t (okE x o c h2)
    · rename_i n x l k p1 p2
      obtain ⟨h1, h2⟩ := ba2 h
      cases n with
      | false => cases h1
      | true => exact i_notN_t (okE x o c h2)
    · rename_i n x t z l y p1 p2
      obtain ⟨h1, h2, h3, h4, h5⟩ := ba5 h
      obtain ⟨g, q⟩ := o.dcts _ _ (lookT_ok h4)
      cases n with
      | true => cases h1
      | false => exact i_gin_t q (c.gl h3).1 (c.gl h3).2 (okE z o c h5)
    · rename_i n x t z l y p1 p2
      obtain ⟨h1, h2, h3, h4, h5⟩ := ba5 h
      obtain ⟨g, q⟩ := o.dcts _ _ (lookT_ok h4)
      cases n with
      | false => cases h1
      | true => exact i_gnin_t q (c.gl h3).1 (c.gl h3).2 (okE z o c h5)
    · obtain ⟨h1, h2⟩ := ba2 h
      exact i_e_t (okE a o c h2) (plainT_ok h1 _)
theorem okEs {G : Gc} {F : CF} : ∀ (i : IEs) {C : Cc} {X : Cx} {e : List Expr}, XOk G F X → CcOk C X → chkEs G C i e = true → PA X e (tA X.K F i)
  | .nil, C, X, e, o, c, h => by
    unfold chkEs at h
    split at h
    · exact i_nil
    · cases h
  | .cons a as, C, X, e, o, c, h => by
    unfold chkEs at h
    split at h
    · obtain ⟨h1, h2, h3⟩ := ba3 h
      exact i_cons (okE a o c h2) (okEs as o c h3) (nostar h1)
    · cases h
theorem okO {G : Gc} {F : CF} : ∀ (i : IEo) {C : Cc} {X : Cx} {e : Option Expr}, XOk G F X → CcOk C X → chkO G C i e = true → PO X e (tOo X.K F i)
  | .no, C, X, e, o, c, h => by
    unfold chkO at h
    split at h
    · exact i_no
    · cases h
  | .so a, C, X, e, o, c, h => by
    unfold chkO at h
    split at h
    · exact i_so (okE a o c h)
    · cases h
theorem okI {G : Gc} {F : CF} : ∀ (i : II) {C : Cc} {X : Cx} {tg e : Expr}, XOk G F X → CcOk C X → chkI G C i tg e = true → PI X tg e (tII X.K F i)
  | .seq a, C, X, tg, e, o, c, h => by
    unfold chkI at h
    exact it_seq (okE a o c h)
  | .rng1 a, C, X, tg, e, o, c, h => by
    unfold chkI at h
    split at h
    · obtain ⟨h1, h2, h3, h4⟩ := ba4 h
      have e1 := of_decide_eq_true h1
      subst e1
      exact it_rng1 (c.bl o h2).1 (c.bl o h2).2.2 (okE a o c h4) h3
    · cases h
  | .rng2 a b, C, X, tg, e, o, c, h => by
    unfold chkI at h
    split at h
    · obtain ⟨h1, h2, h3, h4, h5, h6⟩ := ba6 h
      have e1 := of_decide_eq_true h1
      subst e1
      exact it_rng2 (c.bl o h2).1 (c.bl o h2).2.2 (okE a o c h5) (okE b o c h6) h3 h4
    · cases h
  | .enum a, C, X, tg, e, o, c, h => by
    unfold chkI at h
    split at h
    · obtain ⟨h1, h2, h3, h4⟩ := ba4 h
      have e1 := of_decide_eq_true h1
      subst e1
      exact it_en o.hc (c.bl o h2).1 (c.bl o h2).2.2 (okE a o c h4) h3
    · cases h
  | .zip a b, C, X, tg, e, o, c, h => by
    unfold chkI at h
    split at h
    · obtain ⟨h1, h2, h3, h4, h5⟩ := ba5 h
      have e1 := of_decide_eq_true h1
      subst e1
      exact it_zp o.hc (c.bl o h2).1 (c.bl o h2).2.2 (okE a o c h4) (okE b o c h5) h3
    · cases h
theorem okG {G : Gc} {F : CF} : ∀ (i : ITg) {C : Cc} {X : Cx} {e : Expr}, XOk G F X → CcOk C X → chkG G C i e = true → PG X e (gI X.K F i)
  | .nm i, C, X, e, o, c, h => by
    unfold chkG at h
    split at h
    · obtain ⟨h1, h2⟩ := ba2 h
      exact g_name o.hN (by rw [c.N]; exact of_decide_eq_true h1) (c.loc h2).1 (c.loc h2).2
    · cases h
  | .tup ts, C, X, e, o, c, h => by
    unfold chkG at h
    split at h
    · obtain ⟨h1, h2, h3⟩ := ba3 h
      exact g_tup o.hc (okGs ts o c h3) (of_decide_eq_true h1) h2
    · cases h
  | .sub a i, C, X, e, o, c, h => by
    unfold chkG at h
    split at h
    · obtain ⟨h1, h2, h3⟩ := ba3 h
      exact g_sub (Nat.lt_of_le_of_lt (Nat.add_le_add_left (by decide) _) o.hu) (okE a o c h2) (okE i o c h3) h1
    · cases h
theorem okGs {G : Gc} {F : CF} : ∀ (i : ITgs) {C : Cc} {X : Cx} {e : List Expr}, XOk G F X → CcOk C X → chkGs G C i e = true → PGs X e (gIs X.K F i)
  | .nil, C, X, e, o, c, h => by
    unfold chkGs at h
    split at h
    · exact gs_nil
    · cases h
  | .cons a as, C, X, e, o, c, h => by
    unfold chkGs at h
    split at h
    · obtain ⟨h1, h2, h3⟩ := ba3 h
      exact gs_cons (okG a o c h2) (okGs as o c h3) h1
    · cases h
end
end DI
end

section
set_option Elab.async false
set_option linter.all false
set_option maxRecDepth 100000
/-! Part 17: what passes the check is sound (statements, defs). -/
namespace DI
open PySem PySem.Spec PyProof.Rows L2

def notComp : Expr → Bool
  | .ListComp .. => false
  | .SetComp .. => false
  | .DictComp .. => false
  | _ => true
/-- the plain local names of a row's targets that stand on its first line -/
def nmQ (kf : Str → Option NameKind) (ts : List Expr) : List Str := ts.filterMap fun t => match t with
  | .Name id p => if (kf id == some .local && p.line == (ts.head?.map (·.pos.line)).getD 0) = true then some id else none
  | _ => none
def starQ : Expr → Bool
  | .Starred .. => true
  | _ => false
/-- stores from the right: some names; none told: not settled -/
def swapQ (kf : Str → Option NameKind) (ts vs : List Expr) : Option (Option (List Str)) :=
  if (!(ts.length == 2 || ts.length == 3) || vs.length != ts.length) = true then some none
  else if vs.any starQ = true then none
  else if ((nmQ kf ts).length != ts.length || (nmQ kf ts).eraseDups.length != (nmQ kf ts).length) = true then some none
  else if vs.all (foldedForSure 8) = true then some none
  else if vs.all (constantsAlone 8) = true then none
  else some (some (nmQ kf ts))
theorem swapQ_ok {env : Env} {ts vs : List Expr} {k k' : Nat} {p p' : Pos} {r : Option (List Str)} (hk : env.blockKind = .function) (h : swapQ env.kindOf ts vs = some r) : swappedStores [.Tuple ts k p] (.Tuple vs k' p') env = pure r := by
  unfold swapQ at h
  unfold swappedStores
  simp only [hk]
  have sh : ∀ {m : Sem (Option (List Str))}, ((if (!(ts.length == 2 || ts.length == 3) || vs.length != ts.length || ScopeKind.function != ScopeKind.function) = true then pure none
    else if vs.any starQ = true then pure none
    else if ((nmQ env.kindOf ts).length != ts.length || (nmQ env.kindOf ts).eraseDups.length != (nmQ env.kindOf ts).length) = true then pure none
    else if vs.all (foldedForSure 8) = true then pure none
    else if vs.all (constantsAlone 8) = true then m
    else pure (some (nmQ env.kindOf ts))) : Sem (Option (List Str))) = pure r := by
    intro m
    have e : (ScopeKind.function != ScopeKind.function) = false := by decide
    rw [e, Bool.or_false]
    split at h
    · rw [if_pos (by assumption)]; cases h; rfl
    · rw [if_neg (by assumption)]
      split at h
      · cases h
      · rw [if_neg (by assumption)]
        split at h
        · rw [if_pos (by assumption)]; cases h; rfl
        · rw [if_neg (by assumption)]
          split at h
          · rw [if_pos (by assumption)]; cases h; rfl
          · rw [if_neg (by assumption)]
            split at h
            · cases h
            · rw [if_neg (by assumption)]; cases h; rfl
  exact sh
/-- names with their places -/
def chkN (C : Cc) : List (Nat × Bool) → List Expr → Bool
  | [], [] => true
  | (i, _) :: ks, .Name x _ :: ts => decide (C.N[i]? = some x) && locB C x && chkN C ks ts
  | _, _ => false
def kfOf (C : Cc) : Str → Option NameKind := fun x => C.sc.names.lookup x
def isLoc (C : Cc) (x : Str) : Bool := match C.sc.names.lookup x with
  | some .local => true
  | _ => false
def notTup : Expr → Bool
  | .Tuple .. => false
  | _ => true
mutual
def chkS (G : Gc) (C : Cc) : IS → Stmt → Bool
  | .set i _ a, s => (match s with
    | .Assign [.Name x p] v pos => decide (C.N[i]? = some x) && locB C x && chkE G C a v && (notComp v || (match a, v with
      | .comp _ _ _ _ _, .ListComp _ _ sc p2 => true
      | _, _ => false))
    | _ => false)
  | .asg t a, s => (match s with
    | .Assign [g] v pos => unst g && notTup v && notComp v && chkG G C t g && chkE G C a v
    | _ => false)
  | .par ks es, s => (match s with
    | .Assign [.Tuple ts _ _] (.Tuple vs _ _) pos => chkN C ks ts && chkEs G C es vs && decide (ks.length ≤ 100) && (match swapQ (kfOf C) ts vs with
      | some none => true
      | some (some _) => (match ks, ts, vs with
        | [(i, _), (j, _)], [.Name x _, .Name y _], [_, _] => decide (i ≠ j) && isLoc C x && isLoc C y
        | [(i, _), (j, _), (l, _)], [.Name x _, .Name y _, .Name z _], [_, _, _] => decide (i ≠ j) && decide (i ≠ l) && decide (j ≠ l) && isLoc C x && isLoc C y && isLoc C z
        | _, _, _ => false)
      | none => false)
    | _ => false)
  | .ret a, s => (match s with
    | .Return (some v) _ => chkE G C a v
    | _ => false)
  | .retN, s => (match s with
    | .Return none _ => true
    | _ => false)
  | .expr a, s => (match s with
    | .Expr v pos => notComp v && chkE G C a v
    | _ => false)
  | .ifs c a b, s => (match s with
    | .If t p q _ => chkT G C c t && chkSs G C a p && chkSs G C b q
    | _ => false)
  | .for t it b, s => (match s with
    | .For g i p [] _ => notSet i && chkI G C it g i && chkG G C t g && chkSs G C b p
    | _ => false)
  | .whl n c b, s => (match s with
    | .While t p [] _ => chkT G C c t && chkSs G C b p
    | _ => false)
  | .brk, s => (match s with
    | .Break _ => true
    | _ => false)
  | .cnt, s => (match s with
    | .Continue _ => true
    | _ => false)
  | .pass, s => (match s with
    | .Pass _ => true
    | .Expr (.Constant (.str _) _ _) _ => true
    | _ => false)
  | .never, _ => true
def chkSs (G : Gc) (C : Cc) : ISs → List Stmt → Bool
  | .nil, s => (match s with
    | [] => true
    | _ => false)
  | .cons a as, s => (match s with
    | x :: xs => chkS G C a x && chkSs G C as xs
    | _ => false)
  | .frz _ as, s => chkSs G C as s
end
theorem swaps_no {v : Expr} {t : Option Expr} {n : Nat} {env : Env} (h : notComp v = true) : swapsWith v t n env = pure false := by
  cases v <;> first | rfl | cases h
theorem swaps_no' {g v : Expr} {n : Nat} {env : Env} (h : notComp v = true) : swapsWithSole [g] v n env = pure false := swaps_no h
theorem swst_no {g v : Expr} {env : Env} (h : notTup v = true) : swappedStores [g] v env = pure none := by
  cases v <;> first | (cases h; done) | (cases g <;> rfl)
section
variable {G : Gc} {F : CF} {X : Cx} {C : Cc} {x : Str}
theorem chkN_ok {F : CF} (o : XOk G F X) (c : CcOk C X) : ∀ {ks : List (Nat × Bool)} {ts : List Expr}, chkN C ks ts = true → PGs X ts (gNames ks) ∧ ts.length = ks.length ∧ ts.all unst = true
  | [], [], _ => ⟨pgs_nil, rfl, rfl⟩
  | (i, _) :: ks, .Name x _ :: ts, h => by
    obtain ⟨h1, h2, h3⟩ := ba3 h
    obtain ⟨g1, g2, g3⟩ := chkN_ok o c h3
    exact ⟨pgs_cons (pg_name o.hN (by rw [c.N]; exact of_decide_eq_true h1) (c.loc h2).1 (c.loc h2).2) g1 rfl, congrArg (· + 1) g2, g3⟩
theorem isLoc_ok (c : CcOk C X) (h : isLoc C x = true) : X.env.scope.names.lookup x = some .local := by
  unfold isLoc at h
  rw [c.sc]
  split at h
  · assumption
  · cases h
theorem okN {F : CF} (o : XOk G F X) (c : CcOk C X) : ∀ (i : IEs) {e : List Expr}, chkEs G C i e = true → PA X e (tN X.K F i)
  | .nil, e, h => by
    unfold chkEs at h
    split at h
    · exact n_nil
    · cases h
  | .cons a as, e, h => by
    unfold chkEs at h
    split at h
    · obtain ⟨h1, h2, h3⟩ := ba3 h
      exact n_cons (okE a o c h2) (okN o c as h3) h1
    · cases h
theorem s_setLc {i : Nat} {k : Bool} {elt tg iter : Expr} {ifs : List Expr} {scope : Scope} {own : List (Str × Nat)} {py pos spos : Pos} {F : CF} {ie : IE} {itg : ITg} {it : II} {d : Option'} (o : XOk G F X) (hi : X.N[i]? = some x) (hx : X.env.scope.names.lookup x = some .local)
    (hsw : swapsWith (.ListComp elt [⟨tg, iter, ifs, 0⟩] scope pos) (some (.Name x py)) spos.line X.env = pure true) (h2 : PI X tg iter (tII X.K F it)) (ok : BlkOk X.N X.env.scope scope own) (hsub : ∀ i ∈ tgN itg, i ∈ own.map (·.2)) (hf : notSet iter = true)
    (hg : ∀ (s : Shared) (H : Hp) (C : Addr) (cl : List (Str × Addr)) (fp : List Addr), PG (X.blk s H scope (compEnvC scope cl C X.env) fp) tg (gI X.K F itg)) (ht : ∀ (s : Shared) (H : Hp) (C : Addr) (cl : List (Str × Addr)) (fp : List Addr), PTs (X.blk s H scope (compEnvC scope cl C X.env) fp) ifs (tCo X.K F d))
    (he : ∀ (s : Shared) (H : Hp) (C : Addr) (cl : List (Str × Addr)) (fp : List Addr), PE (X.blk s H scope (compEnvC scope cl C X.env) fp) elt (tI X.K F ie)) : PS X (.Assign [.Name x py] (.ListComp elt [⟨tg, iter, ifs, 0⟩] scope pos) spos) (tS X.K F (.set i k (.comp ie itg it d own))) :=
  PSi (ps_setLc o.hc o.hN hi hx hsw h2 ok hg ht he fun x => fold_ok hf x) fun T σ H h => comp_ok hsub (set_read h)
end
set_option maxHeartbeats 4000000 in
mutual
theorem okS {G : Gc} {F : CF} {C : Cc} {X : Cx} (o : XOk G F X) (c : CcOk C X) (hp : PassesOwn (model X.prog X.w) X.A X.env X.xe) (hb : X.env.scope.kind = .function) : ∀ (i : IS) {s : Stmt}, chkS G C i s = true → PS X s (tS X.K F i)
  | .set i k a, s, h => by
    unfold chkS at h
    split at h
    · rename_i x p v pos
      obtain ⟨h1, h2, h3, h4⟩ := ba4 h
      have hi : X.N[i]? = some x := by rw [c.N]; exact of_decide_eq_true h1
      cases hc : notComp v with
      | true => exact s_set o.hN hi (c.loc h2).1 (okE a o c h3) (swaps_no hc) (c.loc h2).2
      | false =>
        rw [hc, Bool.false_or] at h4
        split at h4
        · rename_i el tg it d own x' gs sc p2
          have bk : X.env.blockKind = .function := by unfold Env.blockKind; rw [hb]; rfl
          have sw : swapsWith (.ListComp x' gs sc p2) (some (.Name x p)) pos.line X.env = pure (X.env.blockKind == .function && X.env.kindOf x == some .local && p.line == p2.line && !(sc.names.any fun y => y.1 == x && (y.2 == .local || y.2 == .cell))) := rfl
          cases cond : (X.env.blockKind == .function && X.env.kindOf x == some .local && p.line == p2.line && !(sc.names.any fun y => y.1 == x && (y.2 == .local || y.2 == .cell))) with
          | false => exact s_set o.hN hi (c.loc h2).1 (okE _ o c h3) (by rw [sw, cond]) (c.loc h2).2
          | true =>
            have hx : X.env.kindOf x = some .local := eq_of_beq (ba4 cond).2.1
            unfold chkE at h3
            split at h3
            · rename_i x2 g i2 ifs sc2 p3 heq
              cases heq
              obtain ⟨h1, h2, h3, h4, h5, h6, h7⟩ := ba7 h3
              refine s_setLc o hi hx (by rw [sw, cond]) (okI it o c h4) (blkOk_by (by rw [c.N, c.sc]; exact h1)) (fun j hj => of_decide_eq_true (List.all_eq_true.mp h2 j hj)) h3 (fun s H C0 cl fp => ?_) (fun s H C0 cl fp => ?_) (fun s H C0 cl fp => ?_)
              · exact okG tg (o.blk s H _ _ fp) (c.blk s H _ C0 cl fp) h5
              · exact okC d (o.blk s H _ _ fp) (c.blk s H _ C0 cl fp) h6
              · exact okE el (o.blk s H _ _ fp) (c.blk s H _ C0 cl fp) h7
            · cases h3
        · cases h4
    · cases h
  | .asg t a, s, h => by
    unfold chkS at h
    split at h
    · obtain ⟨h1, h2, h3, h4, h5⟩ := ba5 h
      exact s_asg (okE a o c h5) (okG t o c h4) (swaps_no' h3) (swst_no h2) h1
    · cases h
  | .par ks es, s, h => by
    unfold chkS at h
    split at h
    · rename_i ts kt pt vs k2 pt2 pos
      obtain ⟨h1, h2, h3, h4⟩ := ba4 h
      have bk : X.env.blockKind = .function := by unfold Env.blockKind; rw [hb]; rfl
      have ke : kfOf C = X.env.kindOf := by funext y; unfold kfOf Env.kindOf; rw [c.sc]
      rw [ke] at h4
      obtain ⟨n1, n2, n3⟩ := chkN_ok o c h1
      have ha := okN o c es h2
      split at h4
      · rename_i hq
        exact s_parn o.hc n1 n2 n3 (of_decide_eq_true h3) ha (swapQ_ok bk hq)
      · rename_i ns hq
        split at h4
        · rename_i i _ j _ x px y py a b
          obtain ⟨q1, q2, q3⟩ := ba3 h4
          have hi : X.N[i]? = some x := by rw [c.N]; exact of_decide_eq_true (ba3 h1).1
          have hj : X.N[j]? = some y := by rw [c.N]; exact of_decide_eq_true (ba3 (ba3 h1).2.2).1
          have hns : ns = [x, y] := by
            unfold swapQ at hq
            split at hq
            · cases hq
            · split at hq
              · cases hq
              · split at hq
                · cases hq
                · rename_i hl
                  split at hq
                  · cases hq
                  · split at hq
                    · cases hq
                    · cases hq
                      have hl : (nmQ X.env.kindOf [.Name x px, .Name y py]).length = 2 := by
                        cases e : (nmQ X.env.kindOf [.Name x px, .Name y py]).length != [Expr.Name x px, Expr.Name y py].length with
                        | true => rw [e, Bool.true_or] at hl; exact absurd rfl hl
                        | false => simpa using e
                      unfold nmQ at hl ⊢
                      simp only [List.filterMap_cons, List.filterMap_nil] at hl ⊢
                      split at hl
                      · split at hl <;> simp at hl
                      · rename_i e1
                        split at hl
                        · simp at hl
                        · rename_i e2
                          have f1 : ∀ {q : Bool} {z u : Str}, (if q = true then some z else none) = some u → u = z := fun {q z u} e => by
                            cases q with
                            | true => cases e; rfl
                            | false => cases e
                          rw [f1 e1, f1 e2]
          subst hns
          exact s_par2 o.hc o.hN hi hj (of_decide_eq_true q1) (isLoc_ok c q2) (isLoc_ok c q3) ha (swapQ_ok bk hq)
        · rename_i i _ j _ l _ x px y py z pz a b d
          obtain ⟨q1, q2, q3, q4, q5, q6⟩ := ba6 h4
          have hi : X.N[i]? = some x := by rw [c.N]; exact of_decide_eq_true (ba3 h1).1
          have hj : X.N[j]? = some y := by rw [c.N]; exact of_decide_eq_true (ba3 (ba3 h1).2.2).1
          have hl3 : X.N[l]? = some z := by rw [c.N]; exact of_decide_eq_true (ba3 (ba3 (ba3 h1).2.2).2.2).1
          have hns : ns = [x, y, z] := by
            unfold swapQ at hq
            split at hq
            · cases hq
            · split at hq
              · cases hq
              · split at hq
                · cases hq
                · rename_i hl
                  split at hq
                  · cases hq
                  · split at hq
                    · cases hq
                    · cases hq
                      have hl : (nmQ X.env.kindOf [.Name x px, .Name y py, .Name z pz]).length = 3 := by
                        cases e : (nmQ X.env.kindOf [.Name x px, .Name y py, .Name z pz]).length != [Expr.Name x px, Expr.Name y py, Expr.Name z pz].length with
                        | true => rw [e, Bool.true_or] at hl; exact absurd rfl hl
                        | false => simpa using e
                      unfold nmQ at hl ⊢
                      simp only [List.filterMap_cons, List.filterMap_nil] at hl ⊢
                      have f1 : ∀ {q : Bool} {z u : Str}, (if q = true then some z else none) = some u → u = z := fun {q z u} e => by
                        cases q with
                        | true => cases e; rfl
                        | false => cases e
                      split at hl
                      · split at hl
                        · split at hl <;> simp at hl
                        · split at hl <;> simp at hl
                      · rename_i e1
                        split at hl
                        · split at hl <;> simp at hl
                        · rename_i e2
                          split at hl
                          · simp at hl
                          · rename_i e3
                            rw [f1 e1, f1 e2, f1 e3]
          subst hns
          exact s_par3 o.hc o.hN hi hj hl3 (of_decide_eq_true q1) (of_decide_eq_true q2) (of_decide_eq_true q3) (isLoc_ok c q4) (isLoc_ok c q5) (isLoc_ok c q6) ha (swapQ_ok bk hq)
        · cases h4
      · cases h4
    · cases h
  | .ret a, s, h => by
    unfold chkS at h
    split at h
    · exact s_ret (okE a o c h)
    · cases h
  | .retN, s, h => by
    unfold chkS at h
    split at h
    · exact s_retN
    · cases h
  | .expr a, s, h => by
    unfold chkS at h
    split at h
    · obtain ⟨h1, h2⟩ := ba2 h
      exact s_expr (okE a o c h2) (swaps_no h1)
    · cases h
  | .ifs t a b, s, h => by
    unfold chkS at h
    split at h
    · obtain ⟨h1, h2, h3⟩ := ba3 h
      exact s_if (okT t o c h1).1 (okSs o c hp hb a h2) (okSs o c hp hb b h3)
    · cases h
  | .for t it b, s, h => by
    unfold chkS at h
    split at h
    · obtain ⟨h1, h2, h3, h4⟩ := ba4 h
      exact s_for hp o.hc (okI it o c h2) (okG t o c h3) (okSs o c hp hb b h4) h1
    · cases h
  | .whl n t b, s, h => by
    unfold chkS at h
    split at h
    · obtain ⟨h1, h2⟩ := ba2 h
      exact s_whl hp (okT t o c h1).1 (okSs o c hp hb b h2)
    · cases h
  | .brk, s, h => by
    unfold chkS at h
    split at h
    · exact s_brk
    · cases h
  | .cnt, s, h => by
    unfold chkS at h
    split at h
    · exact s_cnt
    · cases h
  | .pass, s, h => by
    unfold chkS at h
    split at h
    · exact s_pass
    · exact s_doc
    · cases h
  | .never, s, h => s_never
theorem okSs {G : Gc} {F : CF} {C : Cc} {X : Cx} (o : XOk G F X) (c : CcOk C X) (hp : PassesOwn (model X.prog X.w) X.A X.env X.xe) (hb : X.env.scope.kind = .function) : ∀ (i : ISs) {s : List Stmt}, chkSs G C i s = true → PSs X s (tSs X.K F i)
  | .nil, s, h => by
    unfold chkSs at h
    split at h
    · exact s_nil
    · cases h
  | .cons a as, s, h => by
    unfold chkSs at h
    split at h
    · obtain ⟨h1, h2⟩ := ba2 h
      exact s_cons (okS o c hp hb a h1) (okSs o c hp hb as h2)
    · cases h
  | .frz i as, s, h => by
    unfold chkSs at h
    exact s_frz (okSs o c hp hb as h)
end
end DI
end

section
set_option Elab.async false
set_option linter.all false
set_option maxRecDepth 100000
/-! Part 18: all defs keep what the interpreter tells. -/
namespace DI
open PySem PySem.Spec PyProof.Rows L2

section
variable {K : PySem.W.Frag} {U U' B L L' : Addr → Prop} {σ σ' : L2.St} {env env' : Envi} {H H' : Hp}
theorem start_at {N : List Str} {vs : List V} {i : Nat} (h : i < vs.length) : (L2.start N vs)[i]? = (vs.map some)[i]? := by
  unfold L2.start
  rw [List.getElem?_append_left (by rw [List.length_map]; exact h)]
/-- the names at the entry -/
theorem ER.entry {N : List Str} {vs : List V} {args : List Sl} {nl : Nat} (R : ER K U B No args (vs.map some) H) (hn : N.length = vs.length + nl) : ER K U B No (args ++ List.replicate nl .un) (L2.start N vs) H := by
  have hl : args.length = vs.length := by rw [R.len, List.length_map]
  have get : ∀ (i : Nat) (s : Sl), (args ++ List.replicate nl .un)[i]? = some s → (i < vs.length ∧ args[i]? = some s) ∨ s = .un := fun i s e => by
    by_cases q : i < args.length
    · rw [List.getElem?_append_left q] at e
      exact .inl ⟨by rw [← hl]; exact q, e⟩
    · rw [List.getElem?_append_right (by omega), List.getElem?_replicate] at e
      split at e
      · exact .inr (Option.some.inj e).symm
      · cases e
  refine ⟨?_, fun i s e => ?_, fun i j s t a e1 e2 w1 w2 a1 a2 => ?_, R.bu, R.lu, R.tr⟩
  · unfold L2.start
    rw [List.length_append, List.length_append, List.length_replicate, List.length_replicate, List.length_map, hl, hn]
    omega
  · rcases get i s e with ⟨h1, h2⟩ | rfl
    · rw [start_at h1]; exact R.sl i s h2
    · exact True.intro
  · rcases get i s e1 with ⟨h1, h2⟩ | rfl
    · rcases get j t e2 with ⟨h3, h4⟩ | rfl
      · rw [start_at h1] at a1
        rw [start_at h3] at a2
        exact R.dj i j s t a h2 h4 w1 w2 a1 a2
      · cases w2
    · cases w1
theorem keepB_kd {s : Sl} (h : s.bor = true) : keepB s = s ∧ s.own = true := by
  cases s with
  | li b xs => cases b with
    | true => exact ⟨rfl, rfl⟩
    | false => cases h
  | di b xs => cases b with
    | true => exact ⟨rfl, rfl⟩
    | false => cases h
  | _ => cases h
theorem keepB_own {s : Sl} (h : (keepB s).own = true) : s.bor = true ∧ keepB s = s := by
  cases s with
  | li b xs => cases b with
    | true => exact ⟨rfl, rfl⟩
    | false => cases h
  | di b xs => cases b with
    | true => exact ⟨rfl, rfl⟩
    | false => cases h
  | _ => cases h
/-- what is given back at the end -/
theorem ER.leave {N : List Str} {vs : List V} {args : List Sl} {nl np : Nat} {U0 : Addr → Prop} (hnp : np = vs.length) (R : ER K U B No args (vs.map some) H) (kb : KB (args ++ List.replicate nl .un) (L2.start N vs) env' σ') (R' : ER K U' B L' env' σ' H') (sub : ∀ a, U0 a → U' a) (hb : ∀ a, B a → U0 a) :
    ER K U0 B No ((env'.take np).map keepB) (vs.map some) H' ∧ SameB args ((env'.take np).map keepB) := by
  have hl : args.length = vs.length := by rw [R.len, List.length_map]
  have l0 : env'.length = vs.length + nl := by rw [kb.len, List.length_append, List.length_replicate, hl]
  have get : ∀ (i : Nat) (s : Sl), ((env'.take np).map keepB)[i]? = some s → ∃ t, i < vs.length ∧ env'[i]? = some t ∧ s = keepB t := fun i s e => by
    rw [List.getElem?_map, List.getElem?_take] at e
    split at e
    · rename_i q
      obtain ⟨t, h1, h2⟩ := Option.map_eq_some_iff.mp e
      exact ⟨t, by rw [← hnp]; exact q, h1, h2.symm⟩
    · cases e
  have same : ∀ (i : Nat) (t : Sl), i < vs.length → env'[i]? = some t → t.bor = true → σ'[i]? = (vs.map some)[i]? := fun i t q e w => by
    have b' : bor env' i = true := by unfold bor; rw [e]; exact w
    rw [kb.b i] at b'
    rw [(kb.k i b').1, start_at q]
  refine ⟨⟨?_, fun i s e => ?_, fun i j s t a e1 e2 w1 w2 a1 a2 => ?_, hb, fun _ z => z.elim, fun a z => R'.tr a (sub a z)⟩, fun i s e w => ?_⟩
  · rw [List.length_map, List.length_take, List.length_map, l0, hnp]
    omega
  · obtain ⟨t, q, h1, rfl⟩ := get i s e
    cases hw : (keepB t).own with
    | false =>
      cases t with
      | li b xs => cases b with
        | true => cases hw
        | false => exact True.intro
      | di b xs => cases b with
        | true => cases hw
        | false => exact True.intro
      | _ => exact True.intro
    | true =>
      obtain ⟨k1, k2⟩ := keepB_own hw
      rw [k2, ← same i t q h1 k1]
      have r := (R'.sl i t h1).weak sub
      cases t with
      | un => cases k1
      | va d => cases k1
      | li b xs =>
        cases b with
        | false => cases k1
        | true => exact r
      | di b xs =>
        cases b with
        | false => cases k1
        | true => exact r
  · obtain ⟨t1, q1, h1, rfl⟩ := get i s e1
    obtain ⟨t2, q2, h2, rfl⟩ := get j t e2
    obtain ⟨b1, c1⟩ := keepB_own w1
    obtain ⟨b2, c2⟩ := keepB_own w2
    rw [c1] at w1
    rw [c2] at w2
    exact R'.dj i j t1 t2 a h1 h2 w1 w2 ((same i t1 q1 h1 b1).trans a1) ((same j t2 q2 h2 b2).trans a2)
  · have q : i < args.length := (List.getElem?_eq_some_iff.mp e).1
    have e0 : (args ++ List.replicate nl .un)[i]? = some s := by rw [List.getElem?_append_left q]; exact e
    have b0 : bor (args ++ List.replicate nl .un) i = true := by unfold bor; rw [e0]; exact w
    have k := (kb.k i b0).2
    rw [e0] at k
    cases e1 : env'[i]? with
    | none => rw [e1] at k; cases k
    | some t =>
      rw [e1] at k
      have k : t.kd = s.kd := Option.some.inj k
      have wt : t.bor = true := by rw [(kd_own k).2]; exact w
      refine ⟨t, ?_, k⟩
      rw [List.getElem?_map, List.getElem?_take, if_pos (by rw [hnp, ← hl]; exact q), e1, Option.map_some, (keepB_kd wt).1]
end

/-- a body keeps the promise -/
theorem body_post {K : PySem.W.Frag} {T : List Df} {n f : Nat} {d : Df} {N : List Str} {vs : List V} {H : Hp} {Q : VK} {nps : Nat} (hd : T[f]? = some d) (hnp : d.np = nps) (hN : N.length = d.np + d.nl) (h : spI K nps (evD T (n + 1) f) vs H Q) :
    tSs K (evD T n) d.body { nx := fun _ H' => Q .non H', rt := Q } (L2.start N vs) H := by
  obtain ⟨hl, U, B, args, R, h⟩ := h
  have h : PostC K U B vs H Q args (match T[f]? with
    | none => .bad
    | some d => if decide (args.length = d.np) = true then (evSs (evD T n) d.body (args ++ List.replicate d.nl .un)).bind fun p => (match p.1 with
      | .nx => .ok (.va .non, (p.2.take d.np).map keepB)
      | .rt x => (outV p.2 x).bind fun y => .ok (y, (p.2.take d.np).map keepB)
      | _ => .bad) else .bad) := h
  rw [hd] at h
  have la : args.length = vs.length := by rw [R.len, List.length_map]
  have hv : d.np = vs.length := by rw [hl, hnp]
  have h : PostC K U B vs H Q args (if decide (args.length = d.np) = true then (evSs (evD T n) d.body (args ++ List.replicate d.nl .un)).bind fun p => (match p.1 with
      | .nx => .ok (.va .non, (p.2.take d.np).map keepB)
      | .rt x => (outV p.2 x).bind fun y => .ok (y, (p.2.take d.np).map keepB)
      | _ => .bad) else .bad) := h
  rw [if_pos (decide_eq_true (by rw [la, hv]))] at h
  refine ⟨U, U, B, No, _, R.entry (nl := d.nl) (by rw [hN, hv]), ⟨R.bu, fun _ z => z, fun _ z => z.elim⟩, ?_⟩
  cases q : evSs (evD T n) d.body (args ++ List.replicate d.nl .un) with
  | bad => rw [q] at h; exact h
  | ok r =>
    obtain ⟨fl, env'⟩ := r
    rw [q, Res.ok_bind] at h
    intro U' L' σ' H' a
    have ev : Ev B H H' := a.ev.mono fun x z => z.elim id fun z => z.elim
    obtain ⟨R0, sb⟩ := R.leave hv a.kb a.er a.si.eu R.bu
    cases fl with
    | br => exact h.elim
    | ct => exact h.elim
    | nx => exact h H' .non ev sb (fun i z => nomatch z) ⟨R0, .non⟩
    | rt x =>
      intro z rt
      have h : PostC K U B vs H Q args ((outV env' x).bind fun y => .ok (y, (env'.take d.np).map keepB)) := h
      have newL : ∀ {p : Addr} {us : List V} {ds : List D}, H p = none → U' p → H' p = some (.lst us) → VRs K U' H' ds us → PostC K U B vs H Q args (.ok (.ol ds, (env'.take d.np).map keepB)) → Q (.ref p) H' := fun {p us ds} h1 h2 h3 h4 h => by
        have hw : ∀ a, pl U p a → U' a := fun b z => z.elim (a.si.eu b) fun z => by rw [z]; exact h2
        obtain ⟨R1, _⟩ := R.leave hv a.kb a.er hw fun b z => .inl (R.bu b z)
        exact h H' _ ev sb (fun i z => nomatch z) ⟨p, us, rfl, h1, h3, R1, h4.mono (Step.weak hw)⟩
      have newD : ∀ {p : Addr} {us : List (Key × V)} {ds : List (Key × D)}, H p = none → U' p → H' p = some (.dK us) → VKs K U' H' ds us → PostC K U B vs H Q args (.ok (.od ds, (env'.take d.np).map keepB)) → Q (.ref p) H' := fun {p us ds} h1 h2 h3 h4 h => by
        have hw : ∀ a, pl U p a → U' a := fun b z => z.elim (a.si.eu b) fun z => by rw [z]; exact h2
        obtain ⟨R1, _⟩ := R.leave hv a.kb a.er hw fun b z => .inl (R.bu b z)
        exact h H' _ ev sb (fun i z => nomatch z) ⟨p, us, rfl, h1, h3, R1, h4.mono (Step.weak hw)⟩
      cases x with
      | va e => exact h H' z ev sb (fun i z => nomatch z) ⟨R0, VR.mono (Step.weak a.si.eu) rt⟩
      | ol ds => obtain ⟨p, us, rfl, h1, h2, h3, h4⟩ := rt; exact newL h1 h2 h3 h4 h
      | od ds => obtain ⟨p, us, rfl, h1, h2, h3, h4⟩ := rt; exact newD h1 h2 h3 h4 h
      | vw i =>
        have h : PostC K U B vs H Q args (Res.bind (match env'[i]? with
          | some (.li false xs) => Res.ok (.ol xs)
          | some (.di false xs) => .ok (.od xs)
          | _ => .bad) fun y => .ok (y, (env'.take d.np).map keepB)) := h
        have rt : σ'[i]? = some (some z) := rt
        cases e : env'[i]? with
        | none => rw [e] at h; exact h.elim
        | some s =>
          rw [e] at h
          have r := a.er.sl i s e
          match s, r, h with
          | .li false xs, r, h =>
            obtain ⟨p, us, e1, w, h1, h2⟩ := r
            rw [rt] at e1
            cases e1
            exact newL ((a.ll p w).resolve_left fun z => z.elim) (a.er.lu p w) h1 h2 h
          | .di false xs, r, h =>
            obtain ⟨p, us, e1, w, h1, h2⟩ := r
            rw [rt] at e1
            cases e1
            exact newD ((a.ll p w).resolve_left fun z => z.elim) (a.er.lu p w) h1 h2 h

section
variable {P : Program} {w : World} {K : PySem.W.Frag} {mg : Str → Option Value} {base : Heap} {f : Addr} {fd : FuncData}
/-- a def by its body, no guard around -/
theorem fnG_of {x qual : Str} {params : Arguments} {body : List Stmt} {scope : Scope} {N ps : List Str} {k : Nat} {sp : Sg} (F : FunD K x qual params body scope [] [] f fd) (S : FnScope N ps scope) (len : ∀ vs H Q, sp vs H Q → vs.length = ps.length)
    (hbody : ∀ (cdv : Value) (A : Around) (outer : List Env) (s : Shared) (H : Hp) (vs : List V) (Q : VK), Room k (A.deeper (envOfC qual scope s.heap.objs.size f cdv)) → A.guards = some [] → sp vs H Q →
      ∃ t, PSs (cxOf CX0 P w K mg base N qual scope f cdv A outer s H E0).nox body t ∧ t { nx := fun _ H' => Q .non H', rt := Q } (L2.start N vs) H) : FnG P w K mg base (k + 1) f fd ps sp := by
  obtain ⟨oc, od, dV, kV, doc, pm, an, cdv, ct, osl, rfl, lk, hcd, _, _⟩ := F.ex
  refine ⟨len, fun A outer s H args us vs Q hr hgd e0 hb rv hsp => ?_⟩
  have stands : K.In s.heap := e0.mod.kin.keeps fun b o e => (e0.bs b o e).1
  have free : s.heap.NoLimit := e0.mod.nolimit.keeps fun b o e => (e0.bs b o e).1
  have kinds : ∀ y ∈ ps.zip us, scope.names.lookup y.1 = some .local ∨ (scope.names.lookup y.1 = some .cell ∧ ((cellsFrom (s.heap.objs.size + 1) scope.names []).lookup y.1).isSome = true) := by
    intro y hy
    refine (S.par y.1 (List.of_mem_zip (a := y.1) (b := y.2) hy).1).imp id fun q => ⟨q, ?_⟩
    exact PySem.W.cellsFrom_some _ _ _ (.inl q)
  refine codeAny_call_function hr.depth (stands _ _ lk) rfl S.co S.gen rfl (PySem.W.codeRec_of stands hcd) (hb _ A.in1 _ _ ?_)
  refine wpAny_newFunctionEnv_cells S.kind kinds fun env he s1 x1 => ?_
  subst he
  refine ⟨free.keeps x1.toInCall.keep, codeAny_func ?_⟩
  obtain ⟨t, ht, hq⟩ := hbody cdv A outer s H vs Q (hr.deeper _) hgd hsp
  have I := inv_start (CX := CX0) (N := N) (qual := qual) (f := f) (cd := cdv) (outer := outer) (E := E0) S hr.hd e0 (len _ _ _ hsp) rv x1
  refine wpAny_mono (ht.nox.run [] s1 (L2.start N vs) H _ I hq) (fun fl s' hs => ?_) fun e s' hs => ?_
  · cases fl with
    | ret u =>
      obtain ⟨v, σ', H', J, r, q⟩ := hs
      exact ⟨u, rfl, v, H', J.os, J.bare, J.base, J.hok, r, q⟩
    | next =>
      obtain ⟨σ', H', J, q⟩ := hs
      exact ⟨.none, rfl, .non, H', J.os, J.bare, J.base, J.hok, rfl, q⟩
    | brk => obtain ⟨_, _, _, q⟩ := hs; exact q.elim
    | cont => obtain ⟨_, _, _, q⟩ := hs; exact q.elim
  · refine wpAny_mono hs (fun _ s'' z => ?_) fun e' s'' z => ?_
    · exact False.elim z
    · exact False.elim z
end
def scB (N P : List Str) (sc : Scope) : Bool := decide (sc.kind = .function) && !sc.isCoroutine && !sc.isGenerator && decide N.Nodup && decide (N.take P.length = P) && (P.all fun x => match sc.names.lookup x with
  | some .local => true
  | some .cell => true
  | _ => false) && sc.names.all fun y => match y.2 with
  | .free => false
  | _ => true
theorem scB_ok {N P : List Str} {sc : Scope} (h : scB N P sc = true) : FnScope N P sc := by
  obtain ⟨h1, h2, h3, h4, h5, h6, h7⟩ := ba7 h
  refine ⟨of_decide_eq_true h1, by simpa using h2, by simpa using h3, of_decide_eq_true h4, of_decide_eq_true h5, fun x hx => ?_, fun y hy e => ?_⟩
  · have q := List.all_eq_true.mp h6 x hx
    split at q
    · exact .inl (by assumption)
    · exact .inr (by assumption)
    · cases q
  · have q := List.all_eq_true.mp h7 y hy
    rw [e] at q
    cases q
/-- a def of the text: its name, its names, how many are parameters -/
structure DefS where
  x : Str
  params : Arguments
  body : List Stmt
  scope : Scope
  N : List Str
  ps : List Str
def chkDef (G : Gc) (s : DefS) (d : Df) : Bool := decide (d.np = s.ps.length) && decide (s.N.length = d.np + d.nl) && scB s.N s.ps s.scope && chkSs G ⟨s.N, s.scope, fun _ => true⟩ d.body s.body
def bindsB (s : DefS) : Prop := ∀ (kV doc pm : Value) (an : Option Addr) (cdv ct : Value) (us : List Value), us.length = s.ps.length → bindArgs (PySem.W.fnOf s.x s.x s.params s.body s.scope .none kV doc pm an cdv ct) ⟨us, []⟩ = pure (s.ps.zip us)
/-- the defs of the text, side by side with the table -/
structure AllD (G : Gc) (S : List DefS) (T : List Df) : Prop where
  len : S.length = T.length
  chk : ∀ (f : Nat) (s : DefS) (d : Df), S[f]? = some s → T[f]? = some d → chkDef G s d = true
  bind : ∀ s ∈ S, bindsB s
  defs : G.defs = S.map fun s => (s.x, s.ps.length)
/-- what is known of the module -/
structure ModK (G : Gc) (S : List DefS) (P : Program) (w : World) (K : PySem.W.Frag) (mg : Str → Option Value) : Prop where
  fn : ∀ s ∈ S, ∃ f fd, mg s.x = some (.ref f) ∧ FunD K s.x s.x s.params s.body s.scope [] [] f fd
  glos : ∀ x d, G.glos.lookup x = some d → ∃ v u, mg x = some u ∧ RelV v u ∧ ∀ U H, VR K U H d v
  dcts : ∀ x t, G.dcts.lookup x = some t → ∃ g, mg x = some (.ref g) ∧ (∀ (z : List Nat) (d : D), kget t (.inr ⟨z.toArray⟩) = some d → ∃ v, KDct K w g ⟨z.toArray⟩ v ∧ ∀ U H, VR K U H d v) ∧ ∃ es n, KDict K w g es n ∧ ∀ z : List Nat, ∃ r, PySem.W.nsIn K g ⟨z.toArray⟩ = some r ∧ r.isSome = (kget t (.inr ⟨z.toArray⟩)).isSome
  free : ∀ x ∈ G.free, mg x = none
theorem all_ok {G : Gc} {S : List DefS} {T : List Df} {P : Program} {w : World} {K : PySem.W.Frag} {mg : Str → Option Value} {base : Heap} (A : AllD G S T) (M : ModK G S P w K mg) : ∀ (n : Nat) (i : Nat) (s : DefS) (f : Addr) (fd : FuncData), S[i]? = some s → mg s.x = some (.ref f) → FunD K s.x s.x s.params s.body s.scope [] [] f fd →
    FnG P w K mg base n f fd s.ps (spI K s.ps.length (evD T n i))
  | 0, i, s, f, fd, hs, hm, F => by
    refine ⟨fun vs H Q h => h.1, fun A outer st H args us vs Q hr hgd e0 hb rv hsp => ?_⟩
    obtain ⟨_, U, B, args', R, h⟩ := hsp
    exact h.elim
  | n + 1, i, s, f, fd, hs, hm, F => by
    have hi : i < T.length := by rw [← A.len]; exact (List.getElem?_eq_some_iff.mp hs).1
    have hd : T[i]? = some T[i] := List.getElem?_eq_getElem hi
    obtain ⟨c1, c2, c3, c4⟩ := ba4 (A.chk i s _ hs hd)
    have c1 := of_decide_eq_true c1
    have c2 := of_decide_eq_true c2
    have sc := scB_ok c3
    refine fnG_of F sc (fun vs H Q h => h.1) fun cdv Ar outer st H vs Q hr hgd hsp => ⟨tSs K (evD T n) T[i].body, ?_, body_post hd c1 c2 hsp⟩
    refine okSs (G := G) (C := ⟨s.N, s.scope, fun _ => true⟩) (X := (cxOf CX0 P w K mg base s.N s.x s.scope f cdv Ar outer st H E0).nox) ?_ ⟨rfl, rfl, fun _ _ => rfl⟩ PassesOwn.never sc.kind _ c4
    refine ⟨hr.units, hgd, rfl, sc.nd, fun j x np hj => ?_, M.glos, fun x t ht => ?_, M.free⟩
    · rw [A.defs, List.getElem?_map] at hj
      obtain ⟨s2, h1, h2⟩ := Option.map_eq_some_iff.mp hj
      cases h2
      obtain ⟨f2, fd2, q1, q2⟩ := M.fn s2 (List.mem_of_getElem? h1)
      exact ⟨n, f2, fd2, s2.ps, q1, q2.kp, all_ok A M n j s2 f2 fd2 h1 q1 q2, rfl, hr, q2.bindsN (A.bind s2 (List.mem_of_getElem? h1))⟩
    · obtain ⟨g, q1, q2, q3⟩ := M.dcts x t ht
      exact ⟨g, q1, q2, q3⟩
end DI
end

section
set_option Elab.async false
set_option linter.all false
set_option maxRecDepth 100000
/-! Part 19: the law's call, and the law from the interpreter's word. -/
namespace DI
open PySem PySem.Spec PyProof.Rows L2

section
variable {P : Program} {w : World} {K : PySem.W.Frag} {mg mb : Str → Option Value} {k : Nat} {fa a : Addr} {fd : FuncData} {x : Str} {sp : Sg} {s : Shared} {vs : List Value} {ns : List Int}
abbrev Ends1 (P : Program) (w : World) (fa a : Addr) (s : Shared) : Prop := codeAny (model P w) callerA (.call (.ref fa) ⟨[.ref a], []⟩) (fun r s' => r = .ok (.ret (.bool true)) ∧ OldK s.heap s'.heap ∧ s'.os = s.os ∧ AllBare s'.gens) s
/-- from one abstract heap -/
theorem law_core {H : Hp} (KX : K.In s.heap) (hns : s.heap.Ns mainGlobals mg) (hbu : s.heap.Ns builtinsNs mb) (hbb : ∀ x : Str, x ≠ "__name__" → mb x = bootBuiltins x) (hlim : s.heap.NoLimit) (hg : s.gens = #[])
    (ha : s.heap.get? a = some { cls := .type "list", data := .seq vs.toArray }) (hr : Room k callerA) (F : ∀ base : Heap, K.In base → base.Ns mainGlobals mg → FnG P w K mg base k fa fd [x] sp) (hbind : ∀ (s : Shared) (u : Value), BindsTo s fd ⟨[u], []⟩ [(x, u)])
    (hO : Only H) (hsp : sp [.ref a] H (fun v _ => v = .bl true)) (hok : HOk P w H s.heap) (hA : ∀ b, H b ≠ none → b = a ∧ K.lookup a = none) : Ends1 P w fa a s := by
  have hide : ∀ {b : Addr} {o : Obj}, s.heap.get? b = some o → (b = a → K.lookup a = none → False) → (hidT s.heap H).get? b = some o := fun {b o} e n => hidT_get e (Decidable.byContradiction fun q => n (hA b q).1 (hA b q).2)
  have nsp : ∀ {b : Addr} {m : Str → Option Value}, s.heap.Ns b m → (hidT s.heap H).Ns b m := by
    rintro b m ⟨o, es, ep, e, d, r⟩
    refine ⟨o, es, ep, hide e fun q _ => ?_, d, r⟩
    subst q
    rw [ha] at e
    have e2 := congrArg Obj.data (Option.some.inj e)
    rw [d] at e2
    cases e2
  have kin : K.In (hidT s.heap H) := fun b o e => hide (KX b o e) fun q z => by subst q; rw [z] at e; cases e
  have md : Mod K mg (hidT s.heap H) := ⟨kin, nsp hns, ⟨mb, nsp hbu, hbb⟩, hlim.imp fun mc q => ⟨nsp q.1, q.2⟩⟩
  have en : Env0 P w K mg (hidT s.heap H) callerA [] s H := ⟨rfl, md, fun b o e => of_hidT e, Nat.le_of_eq (hidT_size _ _), trivial, fun b hb => absurd hb (List.not_mem_nil), hok, .of_eq hg⟩
  refine codeAny_mono ((F _ kin (nsp hns)).run callerA [] s H ⟨[.ref a], []⟩ [.ref a] [.ref a] _ hr rfl en (hbind s (.ref a)) (.cons rfl .nil) hsp) ?_
  rintro r s' ⟨u, rfl, v, H', os, bare, un, hok', rv, rfl⟩
  have rv : u = Value.bool true := rv
  subst rv
  refine ⟨rfl, OldK.of_keep fun b o e => ?_, os, bare⟩
  cases q : H b with
  | none => exact un.keep b o e q (List.not_mem_nil) (List.not_mem_nil)
  | some t =>
    rcases hO b with z | ⟨ob, xs, z⟩
    · rw [q] at z; cases z
    · have e1 := (hok b _ z).1
      have e2 := (hok' b _ (un.frzs b ob _ z)).1
      rw [e] at e1
      cases e1
      exact e2
theorem law_goG (KX : K.In s.heap) (hns : s.heap.Ns mainGlobals mg) (hbu : s.heap.Ns builtinsNs mb) (hbb : ∀ x : Str, x ≠ "__name__" → mb x = bootBuiltins x) (hlim : s.heap.NoLimit) (hg : s.gens = #[])
    (ha : s.heap.get? a = some { cls := .type "list", data := .seq vs.toArray }) (hi : IntsAre vs ns) (hl : ns.length ≤ sizeLine) (hr : Room k callerA) (F : ∀ base : Heap, K.In base → base.Ns mainGlobals mg → FnG P w K mg base k fa fd [x] sp) (hbind : ∀ (s : Shared) (u : Value), BindsTo s fd ⟨[u], []⟩ [(x, u)])
    (hsp : ∀ H : Hp, Only H → SqL K H a (ns.map V.int) → ((∃ o, H a = some (.frz o (.lst (ns.map V.int)))) ∨ WrL K a (ns.map V.int)) → sp [.ref a] H (fun v _ => v = .bl true)) : Ends1 P w fa a s := by
  have rv := vals_ints hi
  have hz : (ns.map V.int).length ≤ sizeLine := by rw [List.length_map]; exact hl
  cases hk : K.lookup a with
  | some o =>
    have e := KX a o hk
    rw [ha] at e
    cases e
    have wr : WrL K a (ns.map V.int) := fun H => .inr ⟨_, vs.toArray, _, hk, rfl, rfl, rfl, by rw [List.size_toArray, hi.length]; exact hl, by simpa using rv⟩
    have none' : ∀ {b : Addr} {u : HO}, (none : Option HO) = some u → False := fun z => nomatch z
    exact law_core (H := fun _ => none) KX hns hbu hbb hlim hg ha hr F hbind (fun _ => .inl rfl) (hsp _ (fun _ => .inl rfl) (wr _) (.inr wr)) (fun b u z => nomatch z) fun b z => absurd rfl z
  | none =>
    have at_ : ∀ b u, (if b = a then some (HO.frz { cls := .type "list", data := .seq vs.toArray } (.lst (ns.map V.int))) else none) = some u → b = a ∧ u = .frz { cls := .type "list", data := .seq vs.toArray } (.lst (ns.map V.int)) := fun b u z => by
      by_cases q : b = a
      · rw [if_pos q] at z; cases z; exact ⟨q, rfl⟩
      · rw [if_neg q] at z; cases z
    have hO : Only fun b => if b = a then some (HO.frz { cls := .type "list", data := .seq vs.toArray } (.lst (ns.map V.int))) else none := fun b => by
      by_cases q : b = a
      · exact .inr ⟨_, _, if_pos q⟩
      · exact .inl (if_neg q)
    refine law_core KX hns hbu hbb hlim hg ha hr F hbind hO (hsp _ hO (.inl (.inr ⟨_, if_pos rfl⟩)) (.inl ⟨_, if_pos rfl⟩)) (fun b u z => ?_) fun b z => ⟨?_, hk⟩
    · obtain ⟨rfl, rfl⟩ := at_ b u z
      exact ⟨ha, hz, vs, _, rv, ha⟩
    · by_cases q : b = a
      · exact q
      · exact absurd (if_neg q) z
end
/-- the law's promise, by the interpreter: the script a frozen list of ints -/
theorem law_sp {K : PySem.W.Frag} {a : Addr} {ns : List Int} {H : Hp} {g : List Sl → Res (Vl × List Sl)} {r : List Sl} (hg : g [.va (.scr (ns.map .int))] = .ok (.va (.bl true), r)) (h : (∃ o, H a = some (.frz o (.lst (ns.map V.int)))) ∨ WrL K a (ns.map V.int)) :
    spI K 1 g [.ref a] H (fun v _ => v = .bl true) := by
  refine ⟨rfl, No, No, [.va (.scr (ns.map .int))], ⟨rfl, fun i s e => ?_, fun i j s t p e1 e2 w1 w2 a1 a2 => ?_, fun _ z => z, fun _ z => z, fun _ z => z.elim⟩, ?_⟩
  · cases i with
    | zero =>
      cases e
      refine ⟨.ref a, rfl, .scr ?_ VRs.of_ints⟩
      rcases h with ⟨o, h⟩ | h
      · exact .inl ⟨.inr ⟨o, h⟩, fun z => z⟩
      · exact .inr h
    | succ i => cases e
  · cases i with
    | zero => cases e1; cases w1
    | succ i => cases e1
  · rw [hg]
    intro H' z _ _ _ o
    have r := o.2
    cases r
    rfl
/-- a law by the interpreter's answer -/
theorem walkG {l : PySem.W.OpenLaw} {n k i : Nat} {q : Program} {loose : List Str} {XP : (Str → Option Value) → Heap → Prop} {YP : World → Heap → Prop} {d : DefRec} {G : Gc} {S : List DefS} {T : List Df} {s : DefS} {x : Str}
    (hn : l.most = some n) (hn2 : n ≤ sizeLine) (hdf : d.params.defaults = []) (hr : Room k callerA) (A : AllD G S T) (hs : S[i]? = some s) (hps : s.ps = [x]) (hx : s.x = d.name)
    (F : ∀ (w : World) (mg : Str → Option Value) (h : Heap), YP w h → h.Ns mainGlobals mg → ∃ K : PySem.W.Frag, K.In h ∧ ModK G S l.prog w K mg)
    (law : ∀ ns : List Int, ns.length ≤ n → ∃ r, evD T k i [.va (.scr (ns.map .int))] = .ok (.va (.bl true), r)) :
    PySem.W.WalkO q loose XP YP l.row.toRowW d [] (fun f vs => PySem.call f vs) := by
  refine Att.attach_call hn hdf fun w s0 s1 mg mb fa o pm cd doc a vs ns Gr Y ho hd hcd hmg hobj hints hlen hg => ?_
  obtain ⟨K, KX, M⟩ := F w mg _ Y Gr.T.g
  obtain ⟨f, fd, q1, q2⟩ := M.fn s (List.mem_of_getElem? hs)
  have ef : f = fa := by
    rw [hx, hmg] at q1
    cases q1
    rfl
  subst ef
  have hb : ∀ (t : Shared) (u : Value), BindsTo t fd ⟨[u], []⟩ [(x, u)] := fun t u => by
    have := q2.bindsA (A.bind s (List.mem_of_getElem? hs)) t [u] (by rw [hps]; rfl)
    rw [hps] at this
    exact this
  obtain ⟨r, hlaw⟩ := law ns hlen
  refine law_goG KX Gr.T.g Gr.T.b Gr.T.builtins Gr.T.nolimit hg hobj hints (Nat.le_trans hlen hn2) hr (fun base _ _ => ?_) hb (sp := spI K 1 (evD T k i)) fun H hO hS hw => law_sp hlaw hw
  have := all_ok (base := base) A M k i s f fd hs q1 q2
  rw [hps] at this
  exact this
end DI
end

section
set_option Elab.async false
set_option linter.all false
set_option maxRecDepth 100000
/-! Part 20: what is read off the heap behind the top. -/
namespace DI
open PySem PySem.Spec PyProof.Rows L2

/-! ### data of the written part -/
mutual
def vrB (K : PySem.W.Frag) : D → Value → Bool
  | .non, u => (match u with | .none => true | _ => false)
  | .bl b, u => (match u with | .bool c => b == c | _ => false)
  | .int i, u => (match u with | .int j _ => decide (i = j) | _ => false)
  | .str x, u => (match u with | .str y _ => decide (⟨x.toArray⟩ = y) | _ => false)
  | .tup ds, u => (match u with
    | .ref a => (match K.lookup a with
      | some ⟨.type c, _, .seq its _, _⟩ => decide (c = "tuple") && decide (its.size ≤ sizeLine) && vrsB K ds its.toList
      | _ => false)
    | _ => false)
  | .scr ds, u => (match u with
    | .ref a => (match K.lookup a with
      | some ⟨.type c, none, .seq its _, _⟩ => decide (c = "list") && decide (its.size ≤ sizeLine) && vrsB K ds its.toList
      | _ => false)
    | _ => false)
  | _, _ => false
def vrsB (K : PySem.W.Frag) : List D → List Value → Bool
  | [], u => (match u with | [] => true | _ => false)
  | d :: ds, u => (match u with | x :: xs => vrB K d x && vrsB K ds xs | _ => false)
end
mutual
theorem vrB_ok {K : PySem.W.Frag} : ∀ {d : D} {u : Value}, vrB K d u = true → ∃ v, RelV v u ∧ ∀ U H, VR K U H d v
  | .non, u, h => by
    unfold vrB at h
    split at h
    · exact ⟨.non, rfl, fun _ _ => .non⟩
    · cases h
  | .bl b, u, h => by
    unfold vrB at h
    split at h
    · exact ⟨.bl b, congrArg _ (eq_of_beq h).symm, fun _ _ => .bl b⟩
    · cases h
  | .int i, u, h => by
    unfold vrB at h
    split at h
    · rename_i j t
      exact ⟨.int i, ⟨t, by rw [of_decide_eq_true h]⟩, fun _ _ => .int i⟩
    · cases h
  | .str x, u, h => by
    unfold vrB at h
    split at h
    · rename_i y t
      exact ⟨.str ⟨x.toArray⟩, ⟨t, by rw [of_decide_eq_true h]⟩, fun _ _ => .str x⟩
    · cases h
  | .tup ds, u, h => by
    unfold vrB at h
    split at h
    · rename_i a
      split at h
      · rename_i c od its n sl q
        obtain ⟨h1, h2, h3⟩ := ba3 h
        obtain ⟨vs, r1, r2⟩ := vrsB_ok h3
        exact ⟨.ref a, rfl, fun U H => .tup (.inr fun H => .inr ⟨_, its, n, q, congrArg Value.type (of_decide_eq_true h1), rfl, of_decide_eq_true h2, r1⟩) (r2 U H)⟩
      · cases h
    · cases h
  | .scr ds, u, h => by
    unfold vrB at h
    split at h
    · rename_i a
      split at h
      · rename_i c its n sl q
        obtain ⟨h1, h2, h3⟩ := ba3 h
        obtain ⟨vs, r1, r2⟩ := vrsB_ok h3
        exact ⟨.ref a, rfl, fun U H => .scr (.inr fun H => .inr ⟨_, its, n, q, congrArg Value.type (of_decide_eq_true h1), rfl, rfl, of_decide_eq_true h2, r1⟩) (r2 U H)⟩
      · cases h
    · cases h
  | .ty _, u, h => by unfold vrB at h; cases h
  | .cl _, u, h => by unfold vrB at h; cases h
  | .lst _, u, h => by unfold vrB at h; cases h
  | .dct _, u, h => by unfold vrB at h; cases h
  | .rng _ _, u, h => by unfold vrB at h; cases h
theorem vrsB_ok {K : PySem.W.Frag} : ∀ {ds : List D} {us : List Value}, vrsB K ds us = true → ∃ vs, Vals vs us ∧ ∀ U H, VRs K U H ds vs
  | [], us, h => by
    unfold vrsB at h
    split at h
    · exact ⟨[], .nil, fun _ _ => .nil⟩
    · cases h
  | d :: ds, us, h => by
    unfold vrsB at h
    split at h
    · obtain ⟨h1, h2⟩ := ba2 h
      obtain ⟨v, r1, r2⟩ := vrB_ok h1
      obtain ⟨vs, s1, s2⟩ := vrsB_ok h2
      exact ⟨v :: vs, .cons r1 s1, fun U H => .cons (r2 U H) (s2 U H)⟩
    · cases h
end
/-! ### tables of the written part -/
def entB (K : PySem.W.Frag) : List DictEntry → List (Key × D) → Bool
  | [], [] => true
  | e :: es, (.inr k, d) :: t => (match e.key with
    | .str x _ => decide (x = k)
    | _ => false) && vrB K d e.val && entB K es t
  | _, _ => false
theorem ent_find {K : PySem.W.Frag} (z : Str) : ∀ {es : List DictEntry} {t : List (Key × D)}, entB K es t = true →
    (∀ d, kget t (.inr z) = some d → ∃ e, es.find? (·.key.isStr z) = some e ∧ vrB K d e.val = true) ∧ (kget t (.inr z) = none → es.find? (·.key.isStr z) = none) ∧ es.any (·.refKey) = false
  | [], [], _ => ⟨fun d h => by simp [kget] at h, fun _ => rfl, rfl⟩
  | [], _ :: _, h => by simp [entB] at h
  | _ :: _, [], h => by simp [entB] at h
  | e :: es, (.inl k, d) :: t, h => by simp [entB] at h
  | e :: es, (.inr k, d) :: t, h => by
    obtain ⟨h1, h2, h3⟩ := ba3 (show ((match e.key with
      | .str x _ => decide (x = k)
      | _ => false) && vrB K d e.val && entB K es t) = true from h)
    obtain ⟨i1, i2, i3⟩ := ent_find z h3
    cases q : e.key with
    | str x tk =>
      rw [q] at h1
      have ex : x = k := of_decide_eq_true h1
      subst ex
      have rk : e.refKey = false := by unfold DictEntry.refKey; rw [q]
      by_cases c : x = z
      · subst c
        have f1 : (e :: es).find? (·.key.isStr x) = some e := by
          rw [List.find?_cons, q]
          simp [Value.isStr]
        have f2 : kget ((.inr x, d) :: t) (.inr x) = some d := by simp [kget]
        rw [f1, f2]
        exact ⟨fun d' e' => ⟨e, rfl, by cases e'; exact h2⟩, (fun e' => nomatch e'), (by rw [List.any_cons, rk, i3]; rfl)⟩
      · have f1 : (e :: es).find? (·.key.isStr z) = es.find? (·.key.isStr z) := by
          have e1 : (Value.str x tk).isStr z = false := by show (x == z) = false; simpa using c
          rw [List.find?_cons, q, e1]
        have f2 : kget ((.inr x, d) :: t) (.inr z) = kget t (.inr z) := by simp [kget, c]
        rw [f1, f2]
        exact ⟨i1, i2, by rw [List.any_cons, rk, i3]; rfl⟩
    | _ => rw [q] at h1; cases h1
def gloB (K : PySem.W.Frag) (q : Str × D) : Bool := match PySem.W.nsIn K mainGlobals q.1 with
  | some (some u) => vrB K q.2 u
  | _ => false
def tabB (K : PySem.W.Frag) (q : Str × List (Key × D)) : Bool := (He.Fa.glo q.1).ok K && (match K.lookup (He.ga K q.1) with
  | some ⟨_, _, .dict es _, _⟩ => entB K es.toList q.2
  | _ => false)
def txtKeys (t : List (Key × D)) : List Str := t.filterMap fun q => match q.1 with
  | .inr x => some x
  | .inl _ => none
def DefS.he (s : DefS) : He.DefD := ⟨(s.x, none), s.x, s.x, s.params, s.body, s.scope, [], []⟩
def moreB (G : Gc) (S : List DefS) (K : PySem.W.Frag) : Bool := (S.all fun s => (He.Fa.glo s.x).ok K && s.he.ok K) && (G.glos.all (gloB K)) && (G.dcts.all (tabB K)) && G.free.all fun x => (He.Fa.free x).ok K
abbrev AlK : Type := Bool × List He.FnW × List (Option (List (Option (Str × Int))))
def obsK (G : Gc) (S : List DefS) (K : PySem.W.Frag) : AlK := (moreB G S K, S.map (fun s => He.fnW K (s.x, none)), G.dcts.map fun q => He.dicW K (He.ga K q.1))
def valK (G : Gc) (S : List DefS) (w : World) : AlK := (true, S.map (fun s => s.he.val), G.dcts.map fun q => some (He.keysIn w.params (txtKeys q.2)))
def obsKG (n : Nat) (G : Gc) (S : List DefS) (g : Addr → Option Obj) : AlK := obsK G S (He.frG g (He.asD g n))
def hookK (n : Nat) (G : Gc) (S : List DefS) : PySem.W.Hook where
  α := AlK
  obs := fun s => obsKG n G S s.heap.get?
  val := fun w => valK G S w
  says := fun w h => ∃ K : PySem.W.Frag, K.In h ∧ obsK G S K = valK G S w
  of := fun _ _ e => ⟨_, He.frG_in, e⟩
  keeps := fun _ _ _ ⟨K, hK, c⟩ k => ⟨K, PySem.W.Frag.In.keeps hK k, c⟩
theorem obsKG_eq {n : Nat} {G : Gc} {S : List DefS} {g : Addr → Option Obj} {s : Shared} (h : ∀ a, g a = s.heap.get? a) : obsKG n G S g = (hookK n G S).obs s := by
  obtain rfl : g = s.heap.get? := funext h
  rfl
theorem map_at {α β : Type} {f g : α → β} {l : List α} (e : l.map f = l.map g) {x : α} (h : x ∈ l) : f x = g x := by
  obtain ⟨i, hi⟩ := List.getElem?_of_mem h
  have e2 : (l.map f)[i]? = (l.map g)[i]? := by rw [e]
  rw [List.getElem?_map, List.getElem?_map, hi] at e2
  exact Option.some.inj e2
theorem lookup_mem {α : Type} : ∀ {l : List (Str × α)} {x : Str} {a : α}, l.lookup x = some a → (x, a) ∈ l := fun h => PySem.mem_of_lookup h
theorem modK_of {G : Gc} {S : List DefS} {P : Program} {w : World} {K : PySem.W.Frag} {mg : Str → Option Value} {h : Heap} (X : K.In h) (N : h.Ns mainGlobals mg) (e : obsK G S K = valK G S w) : ModK G S P w K mg := by
  obtain ⟨m1, m2, m3, m4⟩ := ba4 (show moreB G S K = true from congrArg (fun z : AlK => z.1) e)
  refine ⟨fun s hs => ?_, fun x d hl => ?_, fun x t hl => ?_, fun x hx => He.free_ok X N (List.all_eq_true.mp m4 x hx)⟩
  · obtain ⟨q1, q2⟩ := ba2 (List.all_eq_true.mp m1 s hs)
    have e2 : S.map (fun s => He.fnW K (s.x, none)) = S.map fun s => s.he.val := congrArg (fun z : AlK => z.2.1) e
    obtain ⟨fd, F⟩ := He.DefD.funD (d := s.he) (map_at e2 hs) q2
    exact ⟨He.ga K s.x, fd, He.glo_ok X N q1, F⟩
  · have q := List.all_eq_true.mp m2 _ (lookup_mem hl)
    unfold gloB at q
    split at q
    · rename_i u hu
      obtain ⟨v, r1, r2⟩ := vrB_ok q
      exact ⟨v, u, PySem.W.mg_of X N hu, r1, r2⟩
    · cases q
  · have hm := lookup_mem hl
    obtain ⟨q1, q2⟩ := ba2 (List.all_eq_true.mp m3 _ hm)
    have e3 : G.dcts.map (fun q => He.dicW K (He.ga K q.1)) = G.dcts.map fun q => some (He.keysIn w.params (txtKeys q.2)) := congrArg (fun z : AlK => z.2.2) e
    obtain ⟨es, n, D0⟩ := He.dicW_ok (map_at e3 hm)
    have q2 : (match K.lookup (He.ga K x) with
      | some ⟨_, _, .dict es _, _⟩ => entB K es.toList t
      | _ => false) = true := q2
    rw [D0.at_] at q2
    have q2 : entB K es.toList t = true := q2
    refine ⟨He.ga K x, He.glo_ok X N q1, fun z d hz => ?_, es, n, D0, fun z => ?_⟩
    · obtain ⟨e1, f1, f2⟩ := (ent_find ⟨z.toArray⟩ q2).1 d hz
      obtain ⟨v, r1, r2⟩ := vrB_ok f2
      refine ⟨v, ⟨es, n, e1.val, D0.at_, D0.lit, ?_, r1⟩, r2⟩
      unfold PySem.W.nsIn
      rw [D0.at_]
      show (match es.toList.find? (·.key.isStr ⟨z.toArray⟩) with
        | some e => some (some e.val)
        | none => if es.toList.any (·.refKey) then none else some none) = _
      rw [f1]
    · obtain ⟨g1, g2, g3⟩ := ent_find (K := K) ⟨z.toArray⟩ q2
      unfold PySem.W.nsIn
      rw [D0.at_]
      show ∃ r, (match es.toList.find? (·.key.isStr ⟨z.toArray⟩) with
        | some e => some (some e.val)
        | none => if es.toList.any (·.refKey) then none else some none) = some r ∧ _
      cases c : kget t (.inr ⟨z.toArray⟩) with
      | none => rw [g2 c, g3]; exact ⟨none, rfl, rfl⟩
      | some d =>
        obtain ⟨e1, f1, f2⟩ := g1 d c
        rw [f1]
        exact ⟨some e1.val, rfl, rfl⟩
end DI
end

section
set_option Elab.async false
set_option linter.all false
set_option maxRecDepth 100000
set_option maxHeartbeats 0
/-! k77: the text as the interpreter has it. -/
namespace DI.K77
open PySem PySem.Spec PyProof.Rows L2
/-- is_integer(value): 0:value -/
def b_is_integer : ISs :=
  (.cons (.ret (.and (.isi (.var 0) ["int"]) (.not (.isi (.var 0) ["bool"]))))
  .nil)

/-- is_within(value, least, most): 0:value 1:least 2:most -/
def b_is_within : ISs :=
  (.cons (.ret (.and (.call 0 (.cons (.var 0) .nil)) (.chn .LtE .LtE (.var 1) (.var 0) (.var 2))))
  .nil)

/-- is_count(value): 0:value -/
def b_is_count : ISs :=
  (.cons (.ret (.and (.call 0 (.cons (.var 0) .nil)) (.cmp .GtE (.var 0) (.lit (.int 0)))))
  .nil)

/-- is_tuple(value, many): 0:value 1:many -/
def b_is_tuple : ISs :=
  (.cons (.ret (.and (.isi (.var 0) ["tuple"]) (.cmp .Eq (.bi .len (.cons (.var 0) .nil)) (.var 1))))
  .nil)

/-- is_part_value(sign, columns, value): 0:sign 1:columns 2:value 3:one -/
def b_is_part_value : ISs :=
  (.cons (.ifs (.e (.cmp .Eq (.var 0) (.lit (.str [99]))))
  (.cons (.ret (.call 1 (.cons (.var 2) (.cons (.lit (.int 0)) (.cons (.bin .Sub (.var 1) (.lit (.int 1))) .nil)))))
  .nil)
  .nil)
  (.cons (.ifs (.e (.cmp .Eq (.var 0) (.lit (.str [110]))))
  (.cons (.ret (.call 1 (.cons (.var 2) (.cons (.lit (.int 0)) (.cons (.glo "MOST_NUMBER" (.int 1000)) .nil)))))
  .nil)
  .nil)
  (.cons (.ifs (.e (.cmp .Eq (.var 0) (.lit (.str [98]))))
  (.cons (.ret (.call 1 (.cons (.var 2) (.cons (.lit (.int 0)) (.cons (.lit (.int 1)) .nil)))))
  .nil)
  .nil)
  (.cons (.ret (.and (.call 3 (.cons (.var 2) (.cons (.lit (.int 3)) .nil))) (.bi .all (.cons (.comp (.call 1 (.cons (.var 3) (.cons (.lit (.int 0)) (.cons (.glo "MOST_WEIGHT" (.int 99)) .nil)))) (.nm 3) (.seq (.var 2)) .no [("one", 3)]) .nil))))
  .nil))))

/-- is_row_value(columns, value): 0:columns 1:value 2:form 3:sign 4:one -/
def b_is_row_value : ISs :=
  (.cons (.ifs (.or (.not (.e (.isi (.var 1) ["tuple"]))) (.or (.e (.cmp .Eq (.var 1) (.tup .nil))) (.or (.not (.e (.isi (.idx (.var 1) (.lit (.int 0))) ["str"]))) (.e (.gin true "FORMS" [(.inr ⟨#[112, 117, 116]⟩, (.str [99, 110])), (.inr ⟨#[98, 121, 101, 115]⟩, (.str [99, 110])), (.inr ⟨#[103, 97, 116, 104, 101, 114]⟩, (.str [99, 99, 119, 98])), (.inr ⟨#[97, 100, 100]⟩, (.str [99, 99, 99])), (.inr ⟨#[116, 105, 109, 101, 115]⟩, (.str [99, 99, 110])), (.inr ⟨#[112, 97, 114, 116]⟩, (.str [99]))] (.idx (.var 1) (.lit (.int 0))))))))
  (.cons (.ret (.lit (.bl false)))
  .nil)
  .nil)
  (.cons (.set 2 false (.gget "FORMS" [(.inr ⟨#[112, 117, 116]⟩, (.str [99, 110])), (.inr ⟨#[98, 121, 101, 115]⟩, (.str [99, 110])), (.inr ⟨#[103, 97, 116, 104, 101, 114]⟩, (.str [99, 99, 119, 98])), (.inr ⟨#[97, 100, 100]⟩, (.str [99, 99, 99])), (.inr ⟨#[116, 105, 109, 101, 115]⟩, (.str [99, 99, 110])), (.inr ⟨#[112, 97, 114, 116]⟩, (.str [99]))] (.idx (.var 1) (.lit (.int 0)))))
  (.cons (.ifs (.e (.cmp .NotEq (.bi .len (.cons (.var 1) .nil)) (.bin .Add (.lit (.int 1)) (.bi .len (.cons (.var 2) .nil)))))
  (.cons (.ret (.lit (.bl false)))
  .nil)
  .nil)
  (.cons (.ret (.bi .all (.cons (.comp (.call 4 (.cons (.var 3) (.cons (.var 0) (.cons (.var 4) .nil)))) (.tup (.cons (.nm 3) (.cons (.nm 4) .nil))) (.zip (.var 2) (.slc (.var 1) (.so (.lit (.int 1))) .no)) .no [("sign", 3), ("one", 4)]) .nil)))
  .nil))))

/-- columns_read(row): 0:row 1:at -/
def b_columns_read : ISs :=
  (.cons (.ret (.comp (.idx (.var 0) (.var 1)) (.nm 1) (.seq (.gget "READS" [(.inr ⟨#[112, 117, 116]⟩, (.tup [])), (.inr ⟨#[98, 121, 101, 115]⟩, (.tup [])), (.inr ⟨#[103, 97, 116, 104, 101, 114]⟩, (.tup [(.int 2)])), (.inr ⟨#[97, 100, 100]⟩, (.tup [(.int 2), (.int 3)])), (.inr ⟨#[116, 105, 109, 101, 115]⟩, (.tup [(.int 2)])), (.inr ⟨#[112, 97, 114, 116]⟩, (.tup [(.int 1)]))] (.idx (.var 0) (.lit (.int 0))))) .no [("at", 1)]))
  .nil)

/-- written_by(row): 0:row -/
def b_written_by : ISs :=
  (.cons (.ret (.ife (.e (.cmp .NotEq (.idx (.var 0) (.lit (.int 0))) (.glo "PART" (.str [112, 97, 114, 116])))) (.idx (.var 0) (.lit (.int 1))) (.lit .non)))
  .nil)

/-- bound_of(row, bounds): 0:row 1:bounds -/
def b_bound_of : ISs :=
  (.cons (.ifs (.e (.cmp .Eq (.idx (.var 0) (.lit (.int 0))) (.glo "PUT" (.str [112, 117, 116]))))
  (.cons (.ret (.idx (.var 0) (.lit (.int 2))))
  .nil)
  .nil)
  (.cons (.ifs (.e (.cmp .Eq (.idx (.var 0) (.lit (.int 0))) (.glo "BYES" (.str [98, 121, 101, 115]))))
  (.cons (.ret (.bin .Mult (.glo "MOST_GAMES_tiecode" (.int 300)) (.idx (.var 0) (.lit (.int 2)))))
  .nil)
  .nil)
  (.cons (.ifs (.e (.cmp .Eq (.idx (.var 0) (.lit (.int 0))) (.glo "GATHER" (.str [103, 97, 116, 104, 101, 114]))))
  (.cons (.ret (.bin .Mult (.bin .Mult (.glo "MOST_GAMES_tiecode" (.int 300)) (.bi .maxL (.cons (.idx (.var 0) (.lit (.int 3))) .nil))) (.idx (.var 1) (.idx (.var 0) (.lit (.int 2))))))
  .nil)
  .nil)
  (.cons (.ret (.ife (.e (.cmp .Eq (.idx (.var 0) (.lit (.int 0))) (.glo "ADD" (.str [97, 100, 100])))) (.bin .Add (.idx (.var 1) (.idx (.var 0) (.lit (.int 2)))) (.idx (.var 1) (.idx (.var 0) (.lit (.int 3))))) (.bin .Mult (.idx (.var 1) (.idx (.var 0) (.lit (.int 2)))) (.idx (.var 0) (.lit (.int 3))))))
  .nil))))

/-- bounds_by(rows): 0:rows 1:found 2:bounds 3:row -/
def b_bounds_by : ISs :=
  (.cons (.par [(1, true), (2, true)] (.cons (.lst .nil) (.cons .dnew .nil)))
  (.cons (.for (.nm 3) (.seq (.var 0))
  (.cons (.expr (.me .append (.var 1) (.cons (.ife (.e (.cmp .NotEq (.idx (.var 3) (.lit (.int 0))) (.glo "PART" (.str [112, 97, 114, 116])))) (.call 8 (.cons (.var 3) (.cons (.var 2) .nil))) (.lit .non)) .nil)))
  (.cons (.ifs (.e (.cmp .NotEq (.idx (.var 3) (.lit (.int 0))) (.glo "PART" (.str [112, 97, 114, 116]))))
  (.cons (.asg (.sub (.var 2) (.idx (.var 3) (.lit (.int 1)))) (.idx (.var 1) (.neg (.lit (.int 1)))))
  .nil)
  .nil)
  .nil)))
  (.cons (.ret (.var 1))
  .nil)))

/-- first_unset(rows): 0:rows 1:written 2:at 3:row 4:one -/
def b_first_unset : ISs :=
  (.cons (.set 1 true (.lst .nil))
  (.cons (.for (.tup (.cons (.nm 2) (.cons (.nm 3) .nil))) (.enum (.var 0))
  (.cons (.ifs (.not (.e (.bi .all (.cons (.comp (.cmp .In (.var 4) (.var 1)) (.nm 4) (.seq (.call 6 (.cons (.var 3) .nil))) .no [("one", 4)]) .nil))))
  (.cons (.ret (.var 2))
  .nil)
  .nil)
  (.cons (.expr (.me .append (.var 1) (.cons (.call 7 (.cons (.var 3) .nil)) .nil)))
  .nil)))
  (.cons (.ret (.lit .non))
  .nil)))

/-- flaw_by(value): 0:value 1:at 2:row 3:unset 4:bound -/
def b_flaw_by : ISs :=
  (.cons (.ifs (.or (.not (.e (.call 3 (.cons (.var 0) (.cons (.lit (.int 3)) .nil))))) (.or (.not (.e (.isi (.idx (.var 0) (.lit (.int 0))) ["str"]))) (.e (.cmp .NotEq (.idx (.var 0) (.lit (.int 0))) (.lit (.str [99, 111, 100, 101]))))))
  (.cons (.ret (.tup (.cons (.lit (.str [102, 111, 114, 109])) .nil)))
  .nil)
  .nil)
  (.cons (.ifs (.or (.not (.e (.call 1 (.cons (.idx (.var 0) (.lit (.int 1))) (.cons (.lit (.int 0)) (.cons (.glo "MOST_COLUMNS" (.int 16)) .nil)))))) (.or (.not (.e (.isi (.idx (.var 0) (.lit (.int 2))) ["tuple"]))) (.e (.cmp .Gt (.bi .len (.cons (.idx (.var 0) (.lit (.int 2))) .nil)) (.glo "MOST_ROWS" (.int 60))))))
  (.cons (.ret (.tup (.cons (.lit (.str [102, 111, 114, 109])) .nil)))
  .nil)
  .nil)
  (.cons (.for (.tup (.cons (.nm 1) (.cons (.nm 2) .nil))) (.enum (.idx (.var 0) (.lit (.int 2))))
  (.cons (.ifs (.not (.e (.call 5 (.cons (.idx (.var 0) (.lit (.int 1))) (.cons (.var 2) .nil)))))
  (.cons (.ret (.tup (.cons (.lit (.str [114, 111, 119, 115])) (.cons (.var 1) .nil))))
  .nil)
  .nil)
  .nil))
  (.cons (.set 3 false (.call 10 (.cons (.idx (.var 0) (.lit (.int 2))) .nil)))
  (.cons (.ifs (.e (.isN true (.var 3)))
  (.cons (.ret (.tup (.cons (.lit (.str [117, 110, 115, 101, 116])) (.cons (.var 3) .nil))))
  .nil)
  .nil)
  (.cons (.for (.tup (.cons (.nm 1) (.cons (.nm 4) .nil))) (.enum (.call 9 (.cons (.idx (.var 0) (.lit (.int 2))) .nil)))
  (.cons (.ifs (.and (.e (.isN true (.var 4))) (.e (.cmp .Gt (.var 4) (.glo "MOST_BOUND" (.int 1000000000000000000)))))
  (.cons (.ret (.tup (.cons (.lit (.str [103, 114, 101, 97, 116])) (.cons (.var 1) .nil))))
  .nil)
  .nil)
  .nil))
  (.cons (.ret (.lit .non))
  .nil)))))))

/-- want_code(code): 0:code -/
def b_want_code : ISs :=
  (.cons (.ifs (.e (.isN true (.call 11 (.cons (.var 0) .nil))))
  (.cons .never
  .nil)
  .nil)
  .nil)

/-- bounds_of(code): 0:code -/
def b_bounds_of : ISs :=
  (.cons (.expr (.call 12 (.cons (.var 0) .nil)))
  (.cons (.ret (.call 9 (.cons (.idx (.var 0) (.lit (.int 2))) .nil)))
  .nil))

/-- is_game_of(many, value): 0:many 1:value -/
def b_is_game_of : ISs :=
  (.cons (.ifs (.or (.not (.e (.call 3 (.cons (.var 1) (.cons (.lit (.int 3)) .nil))))) (.or (.not (.e (.call 1 (.cons (.idx (.var 1) (.lit (.int 1))) (.cons (.lit (.int 1)) (.cons (.var 0) .nil)))))) (.not (.e (.call 1 (.cons (.idx (.var 1) (.lit (.int 0))) (.cons (.lit (.int 0)) (.cons (.bin .Sub (.idx (.var 1) (.lit (.int 1))) (.lit (.int 1))) .nil))))))))
  (.cons (.ret (.lit (.bl false)))
  .nil)
  .nil)
  (.cons (.ret (.call 1 (.cons (.idx (.var 1) (.lit (.int 2))) (.cons (.ife (.e (.cmp .Eq (.idx (.var 1) (.lit (.int 1))) (.var 0))) (.lit (.int 2)) (.lit (.int 0))) (.cons (.lit (.int 2)) .nil)))))
  .nil))

/-- is_sheet_value(value): 0:value 1:one -/
def b_is_sheet_value : ISs :=
  (.cons (.ifs (.or (.not (.e (.call 3 (.cons (.var 0) (.cons (.lit (.int 2)) .nil))))) (.not (.e (.call 1 (.cons (.idx (.var 0) (.lit (.int 0))) (.cons (.glo "LEAST_PLAYERS" (.int 2)) (.cons (.glo "MOST_PLAYERS" (.int 16)) .nil)))))))
  (.cons (.ret (.lit (.bl false)))
  .nil)
  .nil)
  (.cons (.ifs (.or (.not (.e (.isi (.idx (.var 0) (.lit (.int 1))) ["tuple"]))) (.e (.cmp .Gt (.bi .len (.cons (.idx (.var 0) (.lit (.int 1))) .nil)) (.glo "MOST_GAMES_sheets" (.int 300)))))
  (.cons (.ret (.lit (.bl false)))
  .nil)
  .nil)
  (.cons (.ret (.bi .all (.cons (.comp (.call 14 (.cons (.idx (.var 0) (.lit (.int 0))) (.cons (.var 1) .nil))) (.nm 1) (.seq (.idx (.var 0) (.lit (.int 1)))) .no [("one", 1)]) .nil)))
  .nil)))

/-- want_sheet(sheet): 0:sheet -/
def b_want_sheet : ISs :=
  (.cons (.ifs (.not (.e (.call 15 (.cons (.var 0) .nil))))
  (.cons .never
  .nil)
  .nil)
  .nil)

/-- column_of(sheet, lots, columns, row): 0:sheet 1:lots 2:columns 3:row 4:players 5:one 6:byes 7:other 8:told -/
def b_column_of : ISs :=
  (.cons (.set 4 false (.bi .rng1 (.cons (.idx (.var 0) (.lit (.int 0))) .nil)))
  (.cons (.ifs (.e (.cmp .Eq (.idx (.var 3) (.lit (.int 0))) (.glo "PUT" (.str [112, 117, 116]))))
  (.cons (.ret (.bi .tuple (.cons (.comp (.idx (.var 3) (.lit (.int 2))) (.nm 5) (.seq (.var 4)) .no [("one", 5)]) .nil)))
  .nil)
  .nil)
  (.cons (.ifs (.e (.cmp .Eq (.idx (.var 3) (.lit (.int 0))) (.glo "BYES" (.str [98, 121, 101, 115]))))
  (.cons (.set 6 false (.comp (.var 5) (.tup (.cons (.nm 5) (.cons (.nm 7) (.cons (.nm 8) .nil)))) (.seq (.idx (.var 0) (.lit (.int 1)))) (.so (.e (.cmp .Eq (.var 7) (.idx (.var 0) (.lit (.int 0)))))) [("one", 5), ("other", 7), ("told", 8)]))
  (.cons (.ret (.bi .tuple (.cons (.comp (.bin .Mult (.idx (.var 3) (.lit (.int 2))) (.me .count (.var 6) (.cons (.var 5) .nil))) (.nm 5) (.seq (.var 4)) .no [("one", 5)]) .nil)))
  .nil))
  .nil)
  (.cons (.ifs (.e (.cmp .Eq (.idx (.var 3) (.lit (.int 0))) (.glo "GATHER" (.str [103, 97, 116, 104, 101, 114]))))
  (.cons (.ret (.call 18 (.cons (.var 0) (.cons (.var 1) (.cons (.idx (.var 2) (.idx (.var 3) (.lit (.int 2)))) (.cons (.idx (.var 3) (.lit (.int 3))) (.cons (.idx (.var 3) (.lit (.int 4))) .nil)))))))
  .nil)
  .nil)
  (.cons (.ifs (.e (.cmp .Eq (.idx (.var 3) (.lit (.int 0))) (.glo "ADD" (.str [97, 100, 100]))))
  (.cons (.ret (.bi .tuple (.cons (.comp (.bin .Add (.var 5) (.var 7)) (.tup (.cons (.nm 5) (.cons (.nm 7) .nil))) (.zip (.idx (.var 2) (.idx (.var 3) (.lit (.int 2)))) (.idx (.var 2) (.idx (.var 3) (.lit (.int 3))))) .no [("one", 5), ("other", 7)]) .nil)))
  .nil)
  .nil)
  (.cons (.ret (.bi .tuple (.cons (.comp (.bin .Mult (.var 5) (.idx (.var 3) (.lit (.int 3)))) (.nm 5) (.seq (.idx (.var 2) (.idx (.var 3) (.lit (.int 2))))) .no [("one", 5)]) .nil)))
  .nil))))))

/-- gathered(sheet, lots, column, weights, near): 0:sheet 1:lots 2:column 3:weights 4:near 5:found 6:places 7:place 8:lot 9:one 10:other 11:told -/
def b_gathered : ISs :=
  (.cons (.par [(5, true), (6, true)] (.cons (.bin .Mult (.lst (.cons (.lit (.int 0)) .nil)) (.idx (.var 0) (.lit (.int 0)))) (.cons .dnew .nil)))
  (.cons (.for (.tup (.cons (.nm 7) (.cons (.nm 8) .nil))) (.enum (.var 1))
  (.cons (.for (.nm 9) (.seq (.var 8))
  (.cons (.asg (.sub (.var 6) (.var 9)) (.var 7))
  .nil))
  .nil))
  (.cons (.for (.tup (.cons (.nm 9) (.cons (.nm 10) (.cons (.nm 11) .nil)))) (.seq (.idx (.var 0) (.lit (.int 1))))
  (.cons (.ifs (.and (.e (.cmp .Lt (.var 10) (.idx (.var 0) (.lit (.int 0))))) (.or (.e (.cmp .Eq (.var 4) (.lit (.int 0)))) (.e (.cmp .Eq (.idx (.var 6) (.var 9)) (.idx (.var 6) (.var 10))))))
  (.cons (.asg (.sub (.var 5) (.var 9)) (.bin .Add (.idx (.var 5) (.var 9)) (.bin .Mult (.idx (.var 3) (.bin .Sub (.lit (.int 2)) (.var 11))) (.idx (.var 2) (.var 10)))))
  (.cons (.asg (.sub (.var 5) (.var 10)) (.bin .Add (.idx (.var 5) (.var 10)) (.bin .Mult (.idx (.var 3) (.var 11)) (.idx (.var 2) (.var 9)))))
  .nil))
  .nil)
  .nil))
  (.cons (.ret (.bi .tuple (.cons (.var 5) .nil)))
  .nil))))

/-- lots_by(lots, column): 0:lots 1:column 2:found 3:lot 4:number 5:one -/
def b_lots_by : ISs :=
  (.cons (.set 2 true (.lst .nil))
  (.cons (.for (.nm 3) (.seq (.var 0))
  (.cons (.for (.nm 4) (.seq (.rev (.srs (.comp (.idx (.var 1) (.var 5)) (.nm 5) (.seq (.var 3)) .no [("one", 5)]))))
  (.cons (.expr (.me .append (.var 2) (.cons (.bi .tuple (.cons (.comp (.var 5) (.nm 5) (.seq (.var 3)) (.so (.e (.cmp .Eq (.idx (.var 1) (.var 5)) (.var 4)))) [("one", 5)]) .nil)) .nil)))
  .nil))
  .nil))
  (.cons (.ret (.bi .tuple (.cons (.var 2) .nil)))
  .nil)))

/-- begun(code, sheet): 0:code 1:sheet -/
def b_begun : ISs :=
  (.cons (.ret (.tup (.cons (.lit (.int 0)) (.cons (.bin .Mult (.tup (.cons (.lit .non) .nil)) (.idx (.var 0) (.lit (.int 1)))) (.cons (.tup (.cons (.rgl true (.idx (.var 1) (.lit (.int 0)))) .nil)) .nil)))))
  .nil)

/-- step_in(code, sheet, state): 0:code 1:sheet 2:state 3:at 4:columns 5:lots 6:row 7:late -/
def b_step_in : ISs :=
  (.cons (.asg (.tup (.cons (.nm 3) (.cons (.nm 4) (.cons (.nm 5) .nil)))) (.var 2))
  (.cons (.set 6 false (.idx (.idx (.var 0) (.lit (.int 2))) (.var 3)))
  (.cons (.ifs (.e (.cmp .Eq (.idx (.var 6) (.lit (.int 0))) (.glo "PART" (.str [112, 97, 114, 116]))))
  (.cons (.ret (.tup (.cons (.bin .Add (.var 3) (.lit (.int 1))) (.cons (.var 4) (.cons (.call 19 (.cons (.var 5) (.cons (.idx (.var 4) (.idx (.var 6) (.lit (.int 1)))) .nil))) .nil)))))
  .nil)
  .nil)
  (.cons (.set 7 false (.bin .Add (.bin .Add (.slc (.var 4) .no (.so (.idx (.var 6) (.lit (.int 1))))) (.tup (.cons (.call 17 (.cons (.var 1) (.cons (.var 5) (.cons (.var 4) (.cons (.var 6) .nil))))) .nil))) (.slc (.var 4) (.so (.bin .Add (.idx (.var 6) (.lit (.int 1))) (.lit (.int 1)))) .no)))
  (.cons (.ret (.tup (.cons (.bin .Add (.var 3) (.lit (.int 1))) (.cons (.var 7) (.cons (.var 5) .nil)))))
  .nil)))))

/-- behind_in(code, sheet, many): 0:code 1:sheet 2:many 3:state 4:turn -/
def b_behind_in : ISs :=
  (.cons (.set 3 false (.call 20 (.cons (.var 0) (.cons (.var 1) .nil))))
  (.cons (.for (.nm 4) (.rng1 (.var 2))
  (.cons (.set 3 false (.call 21 (.cons (.var 0) (.cons (.var 1) (.cons (.var 3) .nil)))))
  .nil))
  (.cons (.ret (.var 3))
  .nil)))

/-- rank_in(code, sheet): 0:code 1:sheet 2:found 3:lot -/
def b_rank_in : ISs :=
  (.cons (.set 2 true (.lst .nil))
  (.cons (.for (.nm 3) (.seq (.idx (.call 22 (.cons (.var 0) (.cons (.var 1) (.cons (.bi .len (.cons (.idx (.var 0) (.lit (.int 2))) .nil)) .nil)))) (.lit (.int 2))))
  (.cons (.expr (.me .extend (.var 2) (.cons (.bi .list (.cons (.var 3) .nil)) .nil)))
  .nil))
  (.cons (.ret (.var 2))
  .nil)))

/-- want_both(code, sheet): 0:code 1:sheet -/
def b_want_both : ISs :=
  (.cons (.expr (.call 12 (.cons (.var 0) .nil)))
  (.cons (.expr (.call 16 (.cons (.var 1) .nil)))
  .nil))

/-- state_behind(code, sheet, many): 0:code 1:sheet 2:many -/
def b_state_behind : ISs :=
  (.cons (.expr (.call 24 (.cons (.var 0) (.cons (.var 1) .nil))))
  (.cons (.ifs (.or (.not (.e (.call 2 (.cons (.var 2) .nil)))) (.e (.cmp .Gt (.var 2) (.bi .len (.cons (.idx (.var 0) (.lit (.int 2))) .nil)))))
  (.cons .never
  .nil)
  .nil)
  (.cons (.ret (.call 22 (.cons (.var 0) (.cons (.var 1) (.cons (.var 2) .nil)))))
  .nil)))

/-- rank_by_code(code, sheet): 0:code 1:sheet -/
def b_rank_by_code : ISs :=
  (.cons (.expr (.call 24 (.cons (.var 0) (.cons (.var 1) .nil))))
  (.cons (.ret (.call 23 (.cons (.var 0) (.cons (.var 1) .nil))))
  .nil))

/-- _law_pot(script, k): 0:script 1:k 2:cell -/
def b__law_pot : ISs :=
  (.cons (.set 2 false (.ife (.e (.cmp .Lt (.var 1) (.bi .len (.cons (.var 0) .nil)))) (.bi .abs (.cons (.idx (.var 0) (.var 1)) .nil)) (.bin .Add (.bin .Add (.bin .Mult (.lit (.int 6199)) (.var 1)) (.lit (.int 2777))) (.bin .Mod (.bi .int (.cons (.bi .abs (.cons (.bi .sum (.cons (.slc (.var 0) .no (.so (.lit (.int 1)))) .nil)) .nil)) .nil)) (.lit (.int 1000003))))))
  (.cons (.ret (.lst (.cons (.bi .max2 (.cons (.lit (.int 0)) (.cons (.bin .Sub (.var 2) (.bin .Pow (.lit (.int 10)) (.lit (.int 18)))) .nil))) (.cons (.bin .Add (.bin .Mod (.bi .int (.cons (.bin .Add (.bin .Add (.bin .Mult (.bin .Mod (.bi .int (.cons (.var 2) .nil)) (.lit (.int 2147483549))) (.lit (.int 40014))) (.bin .Mult (.lit (.int 13249)) (.var 1))) (.lit (.int 449))) .nil)) (.lit (.int 2147483563))) (.lit (.int 1))) .nil))))
  .nil))

/-- _law_draw(pot, many): 0:pot 1:many 2:digit -/
def b__law_draw : ISs :=
  (.cons (.ifs (.e (.cmp .Gt (.idx (.var 0) (.lit (.int 0))) (.lit (.int 0))))
  (.cons (.asg (.tup (.cons (.sub (.var 0) (.lit (.int 0))) (.cons (.nm 2) .nil))) (.bi .divmod (.cons (.idx (.var 0) (.lit (.int 0))) (.cons (.var 1) .nil))))
  (.cons (.ret (.var 2))
  .nil))
  .nil)
  (.cons (.asg (.sub (.var 0) (.lit (.int 1))) (.bin .Mod (.bi .int (.cons (.bin .Add (.bin .Mult (.idx (.var 0) (.lit (.int 1))) (.lit (.int 40692))) (.lit (.int 13249))) .nil)) (.lit (.int 2147483587))))
  (.cons (.ret (.bin .Mod (.bi .int (.cons (.bin .FloorDiv (.bin .Mod (.bi .int (.cons (.bin .Mult (.idx (.var 0) (.lit (.int 1))) (.idx (.var 0) (.lit (.int 1)))) .nil)) (.lit (.int 2147483549))) (.lit (.int 41))) .nil)) (.var 1)))
  .nil)))

/-- _law_pick(pot, some): 0:pot 1:some -/
def b__law_pick : ISs :=
  (.cons (.ret (.idx (.var 1) (.call 28 (.cons (.var 0) (.cons (.bi .len (.cons (.var 1) .nil)) .nil)))))
  .nil)

/-- _law_sheet(pot, most): 0:pot 1:most 2:many 3:games 4:turn 5:one 6:other -/
def b__law_sheet : ISs :=
  (.cons (.par [(2, false), (3, true)] (.cons (.bin .Add (.lit (.int 2)) (.call 28 (.cons (.var 0) (.cons (.lit (.int 5)) .nil)))) (.cons (.lst .nil) .nil)))
  (.cons (.for (.nm 4) (.rng1 (.call 28 (.cons (.var 0) (.cons (.bin .Add (.var 1) (.lit (.int 1))) .nil))))
  (.cons (.set 5 false (.call 28 (.cons (.var 0) (.cons (.var 2) .nil))))
  (.cons (.set 6 false (.bin .Add (.bin .Add (.var 5) (.lit (.int 1))) (.call 28 (.cons (.var 0) (.cons (.bin .Sub (.var 2) (.var 5)) .nil)))))
  (.cons (.expr (.me .append (.var 3) (.cons (.tup (.cons (.var 5) (.cons (.var 6) (.cons (.ife (.e (.cmp .Eq (.var 6) (.var 2))) (.lit (.int 2)) (.call 28 (.cons (.var 0) (.cons (.lit (.int 3)) .nil)))) .nil)))) .nil)))
  .nil))))
  (.cons (.ret (.tup (.cons (.var 2) (.cons (.bi .tuple (.cons (.var 3) .nil)) .nil))))
  .nil)))

/-- _law_bound(row, bounds): 0:row 1:bounds -/
def b__law_bound : ISs :=
  (.cons (.ifs (.e (.cmp .In (.idx (.var 0) (.lit (.int 0))) (.tup (.cons (.lit (.str [112, 117, 116])) (.cons (.lit (.str [98, 121, 101, 115])) .nil)))))
  (.cons (.ret (.bin .Mult (.idx (.var 0) (.lit (.int 2))) (.ife (.e (.cmp .Eq (.idx (.var 0) (.lit (.int 0))) (.lit (.str [98, 121, 101, 115])))) (.lit (.int 300)) (.lit (.int 1)))))
  .nil)
  .nil)
  (.cons (.ifs (.e (.cmp .Eq (.idx (.var 0) (.lit (.int 0))) (.lit (.str [103, 97, 116, 104, 101, 114]))))
  (.cons (.ret (.bin .Mult (.bin .Mult (.lit (.int 300)) (.bi .maxL (.cons (.idx (.var 0) (.lit (.int 3))) .nil))) (.idx (.var 1) (.idx (.var 0) (.lit (.int 2))))))
  .nil)
  .nil)
  (.cons (.ret (.ife (.e (.cmp .Eq (.idx (.var 0) (.lit (.int 0))) (.lit (.str [97, 100, 100])))) (.bin .Add (.idx (.var 1) (.idx (.var 0) (.lit (.int 2)))) (.idx (.var 1) (.idx (.var 0) (.lit (.int 3))))) (.bin .Mult (.idx (.var 1) (.idx (.var 0) (.lit (.int 2)))) (.idx (.var 0) (.lit (.int 3))))))
  .nil)))

/-- _law_row(pot, columns, written): 0:pot 1:columns 2:written 3:to 4:number 5:way 6:one 7:other 8:weights -/
def b__law_row : ISs :=
  (.cons (.par [(3, false), (4, false)] (.cons (.call 28 (.cons (.var 0) (.cons (.var 1) .nil))) (.cons (.call 29 (.cons (.var 0) (.cons (.lst (.cons (.lit (.int 0)) (.cons (.lit (.int 1)) (.cons (.lit (.int 1)) (.cons (.lit (.int 2)) (.cons (.lit (.int 3)) (.cons (.lit (.int 1000)) .nil))))))) .nil))) .nil)))
  (.cons (.set 5 false (.ife (.e (.cmp .NotEq (.var 2) (.lst .nil))) (.call 28 (.cons (.var 0) (.cons (.lit (.int 12)) .nil))) (.call 28 (.cons (.var 0) (.cons (.lit (.int 2)) .nil)))))
  (.cons (.ifs (.e (.cmp .Lt (.var 5) (.lit (.int 2))))
  (.cons (.ret (.tup (.cons (.idx (.tup (.cons (.lit (.str [112, 117, 116])) (.cons (.lit (.str [98, 121, 101, 115])) .nil))) (.var 5)) (.cons (.var 3) (.cons (.var 4) .nil)))))
  .nil)
  .nil)
  (.cons (.par [(6, false), (7, false)] (.cons (.call 29 (.cons (.var 0) (.cons (.var 2) .nil))) (.cons (.call 29 (.cons (.var 0) (.cons (.var 2) .nil))) .nil)))
  (.cons (.ifs (.e (.cmp .Lt (.var 5) (.lit (.int 6))))
  (.cons (.set 8 false (.call 29 (.cons (.var 0) (.cons (.lst (.cons (.tup (.cons (.lit (.int 1)) (.cons (.lit (.int 0)) (.cons (.lit (.int 0)) .nil)))) (.cons (.tup (.cons (.lit (.int 2)) (.cons (.lit (.int 1)) (.cons (.lit (.int 0)) .nil)))) (.cons (.tup (.cons (.lit (.int 1)) (.cons (.lit (.int 1)) (.cons (.lit (.int 1)) .nil)))) (.cons (.tup (.cons (.lit (.int 3)) (.cons (.lit (.int 1)) (.cons (.lit (.int 0)) .nil)))) (.cons (.tup (.cons (.lit (.int 0)) (.cons (.lit (.int 0)) (.cons (.lit (.int 99)) .nil)))) (.cons (.tup (.cons (.lit (.int 0)) (.cons (.lit (.int 0)) (.cons (.lit (.int 0)) .nil)))) .nil))))))) .nil))))
  (.cons (.ret (.tup (.cons (.lit (.str [103, 97, 116, 104, 101, 114])) (.cons (.var 3) (.cons (.var 6) (.cons (.var 8) (.cons (.call 28 (.cons (.var 0) (.cons (.lit (.int 2)) .nil))) .nil)))))))
  .nil))
  .nil)
  (.cons (.ifs (.e (.cmp .Lt (.var 5) (.lit (.int 8))))
  (.cons (.ret (.tup (.cons (.lit (.str [97, 100, 100])) (.cons (.var 3) (.cons (.var 6) (.cons (.var 7) .nil))))))
  .nil)
  .nil)
  (.cons (.ret (.ife (.e (.cmp .Eq (.var 5) (.lit (.int 8)))) (.tup (.cons (.lit (.str [116, 105, 109, 101, 115])) (.cons (.var 3) (.cons (.var 6) (.cons (.var 4) .nil))))) (.tup (.cons (.lit (.str [112, 97, 114, 116])) (.cons (.var 6) .nil)))))
  .nil)))))))

/-- _law_code(pot, most): 0:pot 1:most 2:columns 3:rows 4:written 5:bounds 6:turn 7:row -/
def b__law_code : ISs :=
  (.cons (.par [(2, false), (3, true), (4, false), (5, true)] (.cons (.bin .Add (.lit (.int 1)) (.call 28 (.cons (.var 0) (.cons (.lit (.int 5)) .nil)))) (.cons (.lst .nil) (.cons (.lst .nil) (.cons .dnew .nil)))))
  (.cons (.for (.nm 6) (.rng1 (.call 28 (.cons (.var 0) (.cons (.bin .Add (.var 1) (.lit (.int 1))) .nil))))
  (.cons (.set 7 false (.call 32 (.cons (.var 0) (.cons (.var 2) (.cons (.var 4) .nil)))))
  (.cons (.ifs (.and (.e (.cmp .NotEq (.idx (.var 7) (.lit (.int 0))) (.lit (.str [112, 97, 114, 116])))) (.e (.cmp .Gt (.call 31 (.cons (.var 7) (.cons (.var 5) .nil))) (.bin .Pow (.lit (.int 10)) (.lit (.int 18))))))
  (.cons (.set 7 false (.tup (.cons (.lit (.str [112, 117, 116])) (.cons (.idx (.var 7) (.lit (.int 1))) (.cons (.lit (.int 1)) .nil)))))
  .nil)
  .nil)
  (.cons (.ifs (.e (.cmp .NotEq (.idx (.var 7) (.lit (.int 0))) (.lit (.str [112, 97, 114, 116]))))
  (.cons (.asg (.sub (.var 5) (.idx (.var 7) (.lit (.int 1)))) (.call 31 (.cons (.var 7) (.cons (.var 5) .nil))))
  (.cons (.set 4 false (.ife (.e (.cmp .In (.idx (.var 7) (.lit (.int 1))) (.var 4))) (.var 4) (.bin .Add (.var 4) (.lst (.cons (.idx (.var 7) (.lit (.int 1))) .nil)))))
  .nil))
  .nil)
  (.cons (.expr (.me .append (.var 3) (.cons (.var 7) .nil)))
  .nil)))))
  (.cons (.ret (.tup (.cons (.lit (.str [99, 111, 100, 101])) (.cons (.var 2) (.cons (.bi .tuple (.cons (.var 3) .nil)) .nil)))))
  .nil)))

/-- _law_growing(pot): 0:pot 1:rows 2:turn 3:way 4:weight -/
def b__law_growing : ISs :=
  (.cons (.set 1 true (.lst (.cons (.tup (.cons (.lit (.str [112, 117, 116])) (.cons (.lit (.int 0)) (.cons (.bin .Add (.lit (.int 1)) (.call 28 (.cons (.var 0) (.cons (.lit (.int 9)) .nil)))) .nil)))) .nil)))
  (.cons (.for (.nm 2) (.rng1 (.call 28 (.cons (.var 0) (.cons (.lit (.int 4)) .nil))))
  (.cons (.par [(3, false), (4, false)] (.cons (.call 28 (.cons (.var 0) (.cons (.lit (.int 3)) .nil))) (.cons (.bin .Add (.lit (.int 1)) (.call 28 (.cons (.var 0) (.cons (.lit (.int 99)) .nil)))) .nil)))
  (.cons (.expr (.me .append (.var 1) (.cons (.idx (.lst (.cons (.tup (.cons (.lit (.str [103, 97, 116, 104, 101, 114])) (.cons (.lit (.int 0)) (.cons (.lit (.int 0)) (.cons (.tup (.cons (.call 28 (.cons (.var 0) (.cons (.bin .Add (.var 4) (.lit (.int 1))) .nil))) (.cons (.var 4) (.cons (.call 28 (.cons (.var 0) (.cons (.bin .Add (.var 4) (.lit (.int 1))) .nil))) .nil)))) (.cons (.call 28 (.cons (.var 0) (.cons (.lit (.int 2)) .nil))) .nil)))))) (.cons (.tup (.cons (.lit (.str [97, 100, 100])) (.cons (.lit (.int 0)) (.cons (.lit (.int 0)) (.cons (.lit (.int 0)) .nil))))) (.cons (.tup (.cons (.lit (.str [116, 105, 109, 101, 115])) (.cons (.lit (.int 0)) (.cons (.lit (.int 0)) (.cons (.var 4) .nil))))) .nil)))) (.var 3)) .nil)))
  .nil)))
  (.cons (.ret (.tup (.cons (.lit (.str [99, 111, 100, 101])) (.cons (.lit (.int 1)) (.cons (.bi .tuple (.cons (.var 1) .nil)) .nil)))))
  .nil)))

/-- _law_reached_right(pot): 0:pot 1:code 2:games 3:bounds 4:number 5:one 6:column -/
def b__law_reached_right : ISs :=
  (.cons (.par [(1, false), (2, false)] (.cons (.call 34 (.cons (.var 0) .nil)) (.cons (.bin .Mult (.tup (.cons (.tup (.cons (.lit (.int 0)) (.cons (.lit (.int 1)) (.cons (.lit (.int 1)) .nil)))) .nil)) (.lit (.int 300))) .nil)))
  (.cons (.set 3 false (.call 13 (.cons (.var 1) .nil)))
  (.cons (.ifs (.or (.e (.cmp .Gt (.idx (.var 3) (.neg (.lit (.int 1)))) (.bin .Pow (.lit (.int 10)) (.lit (.int 18))))) (.e (.cmp .NotEq (.idx (.call 25 (.cons (.var 1) (.cons (.tup (.cons (.lit (.int 2)) (.cons (.var 2) .nil))) (.cons (.bi .len (.cons (.idx (.var 1) (.lit (.int 2))) .nil)) .nil)))) (.lit (.int 1))) (.tup (.cons (.bin .Mult (.tup (.cons (.idx (.var 3) (.neg (.lit (.int 1)))) .nil)) (.lit (.int 2))) .nil)))))
  (.cons (.ret (.lit (.bl false)))
  .nil)
  .nil)
  (.cons (.par [(4, false), (5, false)] (.cons (.bin .Add (.lit (.int 1)) (.call 28 (.cons (.var 0) (.cons (.lit (.int 1000)) .nil)))) (.cons (.call 28 (.cons (.var 0) (.cons (.lit (.int 3)) .nil))) .nil)))
  (.cons (.set 1 false (.tup (.cons (.lit (.str [99, 111, 100, 101])) (.cons (.lit (.int 1)) (.cons (.tup (.cons (.tup (.cons (.lit (.str [98, 121, 101, 115])) (.cons (.lit (.int 0)) (.cons (.var 4) .nil)))) .nil)) .nil)))))
  (.cons (.set 6 true (.lst (.cons (.lit (.int 0)) (.cons (.lit (.int 0)) (.cons (.lit (.int 0)) .nil)))))
  (.cons (.asg (.sub (.var 6) (.var 5)) (.bin .Mult (.lit (.int 300)) (.var 4)))
  (.cons (.ret (.and (.cmp .Eq (.call 13 (.cons (.var 1) .nil)) (.lst (.cons (.bin .Mult (.lit (.int 300)) (.var 4)) .nil))) (.cmp .Eq (.idx (.call 25 (.cons (.var 1) (.cons (.tup (.cons (.lit (.int 3)) (.cons (.bin .Mult (.tup (.cons (.tup (.cons (.var 5) (.cons (.lit (.int 3)) (.cons (.lit (.int 2)) .nil)))) .nil)) (.lit (.int 300))) .nil))) (.cons (.lit (.int 1)) .nil)))) (.lit (.int 1))) (.tup (.cons (.bi .tuple (.cons (.var 6) .nil)) .nil)))))
  .nil))))))))

/-- _law_kept_right(code, sheet): 0:code 1:sheet 2:last 3:at 4:bound 5:columns 6:column 7:most 8:one -/
def b__law_kept_right : ISs :=
  (.cons (.set 2 true .dnew)
  (.cons (.for (.tup (.cons (.nm 3) (.cons (.nm 4) .nil))) (.enum (.call 13 (.cons (.var 0) .nil)))
  (.cons (.ifs (.e (.isN true (.var 4)))
  (.cons (.asg (.sub (.var 2) (.idx (.idx (.idx (.var 0) (.lit (.int 2))) (.var 3)) (.lit (.int 1)))) (.var 4))
  .nil)
  .nil)
  (.cons (.set 5 false (.idx (.call 25 (.cons (.var 0) (.cons (.var 1) (.cons (.bin .Add (.var 3) (.lit (.int 1))) .nil)))) (.lit (.int 1))))
  (.cons (.for (.tup (.cons (.nm 6) (.cons (.nm 7) .nil))) (.seq (.sit (.var 2)))
  (.cons (.ifs (.or (.e (.isN false (.idx (.var 5) (.var 6)))) (.not (.e (.bi .all (.cons (.comp (.chn .LtE .LtE (.lit (.int 0)) (.var 8) (.var 7)) (.nm 8) (.seq (.idx (.var 5) (.var 6))) .no [("one", 8)]) .nil)))))
  (.cons (.ret (.lit (.bl false)))
  .nil)
  .nil)
  .nil))
  .nil))))
  (.cons (.ret (.lit (.bl true)))
  .nil)))

/-- _law_turned_right(pot, code, sheet): 0:pot 1:code 2:sheet 3:left 4:games 5:other 6:many -/
def b__law_turned_right : ISs :=
  (.cons (.par [(3, true), (4, true)] (.cons (.bi .list (.cons (.idx (.var 2) (.lit (.int 1))) .nil)) (.cons (.lst .nil) .nil)))
  (.cons (.whl 1000 (.e (.cmp .NotEq (.var 3) (.lst .nil)))
  (.cons (.expr (.me .append (.var 4) (.cons (.me .popAt (.var 3) (.cons (.call 28 (.cons (.var 0) (.cons (.bi .len (.cons (.var 3) .nil)) .nil))) .nil)) .nil)))
  .nil))
  (.cons (.set 5 false (.tup (.cons (.idx (.var 2) (.lit (.int 0))) (.cons (.bi .tuple (.cons (.var 4) .nil)) .nil))))
  (.cons (.set 6 false (.bi .len (.cons (.idx (.var 1) (.lit (.int 2))) .nil)))
  (.cons (.ret (.and (.cmp .Eq (.bi .repr (.cons (.call 25 (.cons (.var 1) (.cons (.var 2) (.cons (.var 6) .nil)))) .nil)) (.bi .repr (.cons (.call 25 (.cons (.var 1) (.cons (.var 5) (.cons (.var 6) .nil)))) .nil))) (.cmp .Eq (.call 26 (.cons (.var 1) (.cons (.var 2) .nil))) (.call 26 (.cons (.var 1) (.cons (.var 5) .nil))))))
  .nil)))))

/-- _law_led_right(pot, code, sheet): 0:pot 1:code 2:sheet 3:left 4:led 5:games 6:one 7:other 8:told 9:near 10:far 11:column 12:lot -/
def b__law_led_right : ISs :=
  (.cons (.par [(3, true), (4, true)] (.cons (.rgl false (.idx (.var 2) (.lit (.int 0)))) (.cons (.lst .nil) .nil)))
  (.cons (.whl 1000 (.e (.cmp .NotEq (.var 3) (.lst .nil)))
  (.cons (.expr (.me .append (.var 4) (.cons (.me .popAt (.var 3) (.cons (.call 28 (.cons (.var 0) (.cons (.bi .len (.cons (.var 3) .nil)) .nil))) .nil)) .nil)))
  .nil))
  (.cons (.par [(4, false), (5, true)] (.cons (.bin .Add (.var 4) (.lst (.cons (.idx (.var 2) (.lit (.int 0))) .nil))) (.cons (.lst .nil) .nil)))
  (.cons (.for (.tup (.cons (.nm 6) (.cons (.nm 7) (.cons (.nm 8) .nil)))) (.seq (.idx (.var 2) (.lit (.int 1))))
  (.cons (.par [(9, false), (10, false)] (.cons (.idx (.var 4) (.var 6)) (.cons (.idx (.var 4) (.var 7)) .nil)))
  (.cons (.expr (.me .append (.var 5) (.cons (.ife (.e (.cmp .Lt (.var 9) (.var 10))) (.tup (.cons (.var 9) (.cons (.var 10) (.cons (.var 8) .nil)))) (.tup (.cons (.var 10) (.cons (.var 9) (.cons (.bin .Sub (.lit (.int 2)) (.var 8)) .nil))))) .nil)))
  .nil)))
  (.cons (.par [(9, false), (10, false)] (.cons (.call 25 (.cons (.var 1) (.cons (.var 2) (.cons (.bi .len (.cons (.idx (.var 1) (.lit (.int 2))) .nil)) .nil)))) (.cons (.call 25 (.cons (.var 1) (.cons (.tup (.cons (.idx (.var 2) (.lit (.int 0))) (.cons (.bi .tuple (.cons (.var 5) .nil)) .nil))) (.cons (.bi .len (.cons (.idx (.var 1) (.lit (.int 2))) .nil)) .nil)))) .nil)))
  (.cons (.for (.tup (.cons (.nm 11) (.cons (.nm 7) .nil))) (.zip (.idx (.var 9) (.lit (.int 1))) (.idx (.var 10) (.lit (.int 1))))
  (.cons (.ifs (.or (.e (.cmp .NotEq (.isN false (.var 11)) (.isN false (.var 7)))) (.and (.e (.isN true (.var 11))) (.e (.cmp .NotEq (.comp (.idx (.var 7) (.idx (.var 4) (.var 6))) (.nm 6) (.rng1 (.idx (.var 2) (.lit (.int 0)))) .no [("one", 6)]) (.bi .list (.cons (.var 11) .nil))))))
  (.cons (.ret (.lit (.bl false)))
  .nil)
  .nil)
  .nil))
  (.cons (.ret (.cmp .Eq (.comp (.bi .sorted (.cons (.comp (.idx (.var 4) (.var 6)) (.nm 6) (.seq (.var 12)) .no [("one", 6)]) .nil)) (.nm 12) (.seq (.idx (.var 9) (.lit (.int 2)))) .no [("lot", 12)]) (.comp (.bi .list (.cons (.var 12) .nil)) (.nm 12) (.seq (.idx (.var 10) (.lit (.int 2)))) .no [("lot", 12)])))
  .nil)))))))

/-- law(script): 0:script 1:pot 2:late 3:code 4:sheet -/
def b_law : ISs :=
  (.cons (.par [(1, true), (2, true)] (.cons (.call 27 (.cons (.var 0) (.cons (.lit (.int 0)) .nil))) (.cons (.call 27 (.cons (.var 0) (.cons (.lit (.int 1)) .nil))) .nil)))
  (.cons (.par [(3, false), (4, false)] (.cons (.call 33 (.cons (.var 1) (.cons (.lit (.int 10)) .nil))) (.cons (.call 30 (.cons (.var 2) (.cons (.lit (.int 14)) .nil))) .nil)))
  (.cons (.ifs (.or (.not (.e (.call 35 (.cons (.var 1) .nil)))) (.or (.not (.e (.call 36 (.cons (.var 3) (.cons (.var 4) .nil))))) (.not (.e (.call 37 (.cons (.var 2) (.cons (.var 3) (.cons (.var 4) .nil))))))))
  (.cons (.ret (.lit (.bl false)))
  .nil)
  .nil)
  (.cons (.ret (.call 38 (.cons (.var 2) (.cons (.var 3) (.cons (.var 4) .nil)))))
  .nil))))

def tab : List Df := [⟨1, 0, b_is_integer⟩,
  ⟨3, 0, b_is_within⟩,
  ⟨1, 0, b_is_count⟩,
  ⟨2, 0, b_is_tuple⟩,
  ⟨3, 1, b_is_part_value⟩,
  ⟨2, 3, b_is_row_value⟩,
  ⟨1, 1, b_columns_read⟩,
  ⟨1, 0, b_written_by⟩,
  ⟨2, 0, b_bound_of⟩,
  ⟨1, 3, b_bounds_by⟩,
  ⟨1, 4, b_first_unset⟩,
  ⟨1, 4, b_flaw_by⟩,
  ⟨1, 0, b_want_code⟩,
  ⟨1, 0, b_bounds_of⟩,
  ⟨2, 0, b_is_game_of⟩,
  ⟨1, 1, b_is_sheet_value⟩,
  ⟨1, 0, b_want_sheet⟩,
  ⟨4, 5, b_column_of⟩,
  ⟨5, 7, b_gathered⟩,
  ⟨2, 4, b_lots_by⟩,
  ⟨2, 0, b_begun⟩,
  ⟨3, 5, b_step_in⟩,
  ⟨3, 2, b_behind_in⟩,
  ⟨2, 2, b_rank_in⟩,
  ⟨2, 0, b_want_both⟩,
  ⟨3, 0, b_state_behind⟩,
  ⟨2, 0, b_rank_by_code⟩,
  ⟨2, 1, b__law_pot⟩,
  ⟨2, 1, b__law_draw⟩,
  ⟨2, 0, b__law_pick⟩,
  ⟨2, 5, b__law_sheet⟩,
  ⟨2, 0, b__law_bound⟩,
  ⟨3, 6, b__law_row⟩,
  ⟨2, 6, b__law_code⟩,
  ⟨1, 4, b__law_growing⟩,
  ⟨1, 6, b__law_reached_right⟩,
  ⟨2, 7, b__law_kept_right⟩,
  ⟨3, 4, b__law_turned_right⟩,
  ⟨3, 10, b__law_led_right⟩,
  ⟨1, 4, b_law⟩]

def top (i : Nat) : Stmt := PySem.Challenge.pw_contesthouse_k77_whole_bounds_reached_an.main.body.getD i (.Pass ⟨0, 0, 0, 0⟩)
def dS (i : Nat) (x : Str) (N ps : List Str) : DefS := ⟨x, defArgs (top i), defBody (top i), defScope (top i), N, ps⟩
def S : List DefS := [dS 1 "is_integer" ["value"] ["value"],
  dS 2 "is_within" ["value", "least", "most"] ["value", "least", "most"],
  dS 3 "is_count" ["value"] ["value"],
  dS 4 "is_tuple" ["value", "many"] ["value", "many"],
  dS 25 "is_part_value" ["sign", "columns", "value", "one"] ["sign", "columns", "value"],
  dS 26 "is_row_value" ["columns", "value", "form", "sign", "one"] ["columns", "value"],
  dS 27 "columns_read" ["row", "at"] ["row"],
  dS 28 "written_by" ["row"] ["row"],
  dS 29 "bound_of" ["row", "bounds"] ["row", "bounds"],
  dS 30 "bounds_by" ["rows", "found", "bounds", "row"] ["rows"],
  dS 31 "first_unset" ["rows", "written", "at", "row", "one"] ["rows"],
  dS 32 "flaw_by" ["value", "at", "row", "unset", "bound"] ["value"],
  dS 33 "want_code" ["code"] ["code"],
  dS 34 "bounds_of" ["code"] ["code"],
  dS 39 "is_game_of" ["many", "value"] ["many", "value"],
  dS 40 "is_sheet_value" ["value", "one"] ["value"],
  dS 41 "want_sheet" ["sheet"] ["sheet"],
  dS 43 "column_of" ["sheet", "lots", "columns", "row", "players", "one", "byes", "other", "told"] ["sheet", "lots", "columns", "row"],
  dS 44 "gathered" ["sheet", "lots", "column", "weights", "near", "found", "places", "place", "lot", "one", "other", "told"] ["sheet", "lots", "column", "weights", "near"],
  dS 45 "lots_by" ["lots", "column", "found", "lot", "number", "one"] ["lots", "column"],
  dS 46 "begun" ["code", "sheet"] ["code", "sheet"],
  dS 47 "step_in" ["code", "sheet", "state", "at", "columns", "lots", "row", "late"] ["code", "sheet", "state"],
  dS 48 "behind_in" ["code", "sheet", "many", "state", "turn"] ["code", "sheet", "many"],
  dS 49 "rank_in" ["code", "sheet", "found", "lot"] ["code", "sheet"],
  dS 50 "want_both" ["code", "sheet"] ["code", "sheet"],
  dS 51 "state_behind" ["code", "sheet", "many"] ["code", "sheet", "many"],
  dS 52 "rank_by_code" ["code", "sheet"] ["code", "sheet"],
  dS 54 "_law_pot" ["script", "k", "cell"] ["script", "k"],
  dS 55 "_law_draw" ["pot", "many", "digit"] ["pot", "many"],
  dS 56 "_law_pick" ["pot", "some"] ["pot", "some"],
  dS 57 "_law_sheet" ["pot", "most", "many", "games", "turn", "one", "other"] ["pot", "most"],
  dS 58 "_law_bound" ["row", "bounds"] ["row", "bounds"],
  dS 59 "_law_row" ["pot", "columns", "written", "to", "number", "way", "one", "other", "weights"] ["pot", "columns", "written"],
  dS 60 "_law_code" ["pot", "most", "columns", "rows", "written", "bounds", "turn", "row"] ["pot", "most"],
  dS 61 "_law_growing" ["pot", "rows", "turn", "way", "weight"] ["pot"],
  dS 62 "_law_reached_right" ["pot", "code", "games", "bounds", "number", "one", "column"] ["pot"],
  dS 63 "_law_kept_right" ["code", "sheet", "last", "at", "bound", "columns", "column", "most", "one"] ["code", "sheet"],
  dS 64 "_law_turned_right" ["pot", "code", "sheet", "left", "games", "other", "many"] ["pot", "code", "sheet"],
  dS 65 "_law_led_right" ["pot", "code", "sheet", "left", "led", "games", "one", "other", "told", "near", "far", "column", "lot"] ["pot", "code", "sheet"],
  dS 66 "law" ["script", "pot", "late", "code", "sheet"] ["script"]]
def glos : List (Str × D) := [("PUT", (.str [112, 117, 116])),
  ("BYES", (.str [98, 121, 101, 115])),
  ("GATHER", (.str [103, 97, 116, 104, 101, 114])),
  ("ADD", (.str [97, 100, 100])),
  ("TIMES", (.str [116, 105, 109, 101, 115])),
  ("PART", (.str [112, 97, 114, 116])),
  ("MOST_COLUMNS", (.int 16)),
  ("MOST_ROWS", (.int 60)),
  ("MOST_NUMBER", (.int 1000)),
  ("MOST_WEIGHT", (.int 99)),
  ("MOST_GAMES_tiecode", (.int 300)),
  ("MOST_BOUND", (.int 1000000000000000000)),
  ("LEAST_PLAYERS", (.int 2)),
  ("MOST_PLAYERS", (.int 16)),
  ("MOST_GAMES_sheets", (.int 300))]
def dcts : List (Str × List (Key × D)) := [("FORMS", [(.inr ⟨#[112, 117, 116]⟩, (.str [99, 110])), (.inr ⟨#[98, 121, 101, 115]⟩, (.str [99, 110])), (.inr ⟨#[103, 97, 116, 104, 101, 114]⟩, (.str [99, 99, 119, 98])), (.inr ⟨#[97, 100, 100]⟩, (.str [99, 99, 99])), (.inr ⟨#[116, 105, 109, 101, 115]⟩, (.str [99, 99, 110])), (.inr ⟨#[112, 97, 114, 116]⟩, (.str [99]))]),
  ("READS", [(.inr ⟨#[112, 117, 116]⟩, (.tup [])), (.inr ⟨#[98, 121, 101, 115]⟩, (.tup [])), (.inr ⟨#[103, 97, 116, 104, 101, 114]⟩, (.tup [(.int 2)])), (.inr ⟨#[97, 100, 100]⟩, (.tup [(.int 2), (.int 3)])), (.inr ⟨#[116, 105, 109, 101, 115]⟩, (.tup [(.int 2)])), (.inr ⟨#[112, 97, 114, 116]⟩, (.tup [(.int 1)]))])]
def free : List Str := ["isinstance", "int", "bool", "str", "tuple", "list", "len", "abs", "max", "repr", "sum", "all", "sorted", "divmod", "range", "enumerate", "zip", "set"]
def G : Gc := ⟨S.map fun s => (s.x, s.ps.length), glos, dcts, free⟩
theorem bd0 : bindsB (dS 1 "is_integer" ["value"] ["value"]) := fun _ _ _ _ _ _ us hu => match us, hu with | [_], _ => by kernel_rfl
theorem bd1 : bindsB (dS 2 "is_within" ["value", "least", "most"] ["value", "least", "most"]) := fun _ _ _ _ _ _ us hu => match us, hu with | [_, _, _], _ => by kernel_rfl
theorem bd2 : bindsB (dS 3 "is_count" ["value"] ["value"]) := fun _ _ _ _ _ _ us hu => match us, hu with | [_], _ => by kernel_rfl
theorem bd3 : bindsB (dS 4 "is_tuple" ["value", "many"] ["value", "many"]) := fun _ _ _ _ _ _ us hu => match us, hu with | [_, _], _ => by kernel_rfl
theorem bd4 : bindsB (dS 25 "is_part_value" ["sign", "columns", "value", "one"] ["sign", "columns", "value"]) := fun _ _ _ _ _ _ us hu => match us, hu with | [_, _, _], _ => by kernel_rfl
theorem bd5 : bindsB (dS 26 "is_row_value" ["columns", "value", "form", "sign", "one"] ["columns", "value"]) := fun _ _ _ _ _ _ us hu => match us, hu with | [_, _], _ => by kernel_rfl
theorem bd6 : bindsB (dS 27 "columns_read" ["row", "at"] ["row"]) := fun _ _ _ _ _ _ us hu => match us, hu with | [_], _ => by kernel_rfl
theorem bd7 : bindsB (dS 28 "written_by" ["row"] ["row"]) := fun _ _ _ _ _ _ us hu => match us, hu with | [_], _ => by kernel_rfl
theorem bd8 : bindsB (dS 29 "bound_of" ["row", "bounds"] ["row", "bounds"]) := fun _ _ _ _ _ _ us hu => match us, hu with | [_, _], _ => by kernel_rfl
theorem bd9 : bindsB (dS 30 "bounds_by" ["rows", "found", "bounds", "row"] ["rows"]) := fun _ _ _ _ _ _ us hu => match us, hu with | [_], _ => by kernel_rfl
theorem bd10 : bindsB (dS 31 "first_unset" ["rows", "written", "at", "row", "one"] ["rows"]) := fun _ _ _ _ _ _ us hu => match us, hu with | [_], _ => by kernel_rfl
theorem bd11 : bindsB (dS 32 "flaw_by" ["value", "at", "row", "unset", "bound"] ["value"]) := fun _ _ _ _ _ _ us hu => match us, hu with | [_], _ => by kernel_rfl
theorem bd12 : bindsB (dS 33 "want_code" ["code"] ["code"]) := fun _ _ _ _ _ _ us hu => match us, hu with | [_], _ => by kernel_rfl
theorem bd13 : bindsB (dS 34 "bounds_of" ["code"] ["code"]) := fun _ _ _ _ _ _ us hu => match us, hu with | [_], _ => by kernel_rfl
theorem bd14 : bindsB (dS 39 "is_game_of" ["many", "value"] ["many", "value"]) := fun _ _ _ _ _ _ us hu => match us, hu with | [_, _], _ => by kernel_rfl
theorem bd15 : bindsB (dS 40 "is_sheet_value" ["value", "one"] ["value"]) := fun _ _ _ _ _ _ us hu => match us, hu with | [_], _ => by kernel_rfl
theorem bd16 : bindsB (dS 41 "want_sheet" ["sheet"] ["sheet"]) := fun _ _ _ _ _ _ us hu => match us, hu with | [_], _ => by kernel_rfl
theorem bd17 : bindsB (dS 43 "column_of" ["sheet", "lots", "columns", "row", "players", "one", "byes", "other", "told"] ["sheet", "lots", "columns", "row"]) := fun _ _ _ _ _ _ us hu => match us, hu with | [_, _, _, _], _ => by kernel_rfl
theorem bd18 : bindsB (dS 44 "gathered" ["sheet", "lots", "column", "weights", "near", "found", "places", "place", "lot", "one", "other", "told"] ["sheet", "lots", "column", "weights", "near"]) := fun _ _ _ _ _ _ us hu => match us, hu with | [_, _, _, _, _], _ => by kernel_rfl
theorem bd19 : bindsB (dS 45 "lots_by" ["lots", "column", "found", "lot", "number", "one"] ["lots", "column"]) := fun _ _ _ _ _ _ us hu => match us, hu with | [_, _], _ => by kernel_rfl
theorem bd20 : bindsB (dS 46 "begun" ["code", "sheet"] ["code", "sheet"]) := fun _ _ _ _ _ _ us hu => match us, hu with | [_, _], _ => by kernel_rfl
theorem bd21 : bindsB (dS 47 "step_in" ["code", "sheet", "state", "at", "columns", "lots", "row", "late"] ["code", "sheet", "state"]) := fun _ _ _ _ _ _ us hu => match us, hu with | [_, _, _], _ => by kernel_rfl
theorem bd22 : bindsB (dS 48 "behind_in" ["code", "sheet", "many", "state", "turn"] ["code", "sheet", "many"]) := fun _ _ _ _ _ _ us hu => match us, hu with | [_, _, _], _ => by kernel_rfl
theorem bd23 : bindsB (dS 49 "rank_in" ["code", "sheet", "found", "lot"] ["code", "sheet"]) := fun _ _ _ _ _ _ us hu => match us, hu with | [_, _], _ => by kernel_rfl
theorem bd24 : bindsB (dS 50 "want_both" ["code", "sheet"] ["code", "sheet"]) := fun _ _ _ _ _ _ us hu => match us, hu with | [_, _], _ => by kernel_rfl
theorem bd25 : bindsB (dS 51 "state_behind" ["code", "sheet", "many"] ["code", "sheet", "many"]) := fun _ _ _ _ _ _ us hu => match us, hu with | [_, _, _], _ => by kernel_rfl
theorem bd26 : bindsB (dS 52 "rank_by_code" ["code", "sheet"] ["code", "sheet"]) := fun _ _ _ _ _ _ us hu => match us, hu with | [_, _], _ => by kernel_rfl
theorem bd27 : bindsB (dS 54 "_law_pot" ["script", "k", "cell"] ["script", "k"]) := fun _ _ _ _ _ _ us hu => match us, hu with | [_, _], _ => by kernel_rfl
theorem bd28 : bindsB (dS 55 "_law_draw" ["pot", "many", "digit"] ["pot", "many"]) := fun _ _ _ _ _ _ us hu => match us, hu with | [_, _], _ => by kernel_rfl
theorem bd29 : bindsB (dS 56 "_law_pick" ["pot", "some"] ["pot", "some"]) := fun _ _ _ _ _ _ us hu => match us, hu with | [_, _], _ => by kernel_rfl
theorem bd30 : bindsB (dS 57 "_law_sheet" ["pot", "most", "many", "games", "turn", "one", "other"] ["pot", "most"]) := fun _ _ _ _ _ _ us hu => match us, hu with | [_, _], _ => by kernel_rfl
theorem bd31 : bindsB (dS 58 "_law_bound" ["row", "bounds"] ["row", "bounds"]) := fun _ _ _ _ _ _ us hu => match us, hu with | [_, _], _ => by kernel_rfl
theorem bd32 : bindsB (dS 59 "_law_row" ["pot", "columns", "written", "to", "number", "way", "one", "other", "weights"] ["pot", "columns", "written"]) := fun _ _ _ _ _ _ us hu => match us, hu with | [_, _, _], _ => by kernel_rfl
theorem bd33 : bindsB (dS 60 "_law_code" ["pot", "most", "columns", "rows", "written", "bounds", "turn", "row"] ["pot", "most"]) := fun _ _ _ _ _ _ us hu => match us, hu with | [_, _], _ => by kernel_rfl
theorem bd34 : bindsB (dS 61 "_law_growing" ["pot", "rows", "turn", "way", "weight"] ["pot"]) := fun _ _ _ _ _ _ us hu => match us, hu with | [_], _ => by kernel_rfl
theorem bd35 : bindsB (dS 62 "_law_reached_right" ["pot", "code", "games", "bounds", "number", "one", "column"] ["pot"]) := fun _ _ _ _ _ _ us hu => match us, hu with | [_], _ => by kernel_rfl
theorem bd36 : bindsB (dS 63 "_law_kept_right" ["code", "sheet", "last", "at", "bound", "columns", "column", "most", "one"] ["code", "sheet"]) := fun _ _ _ _ _ _ us hu => match us, hu with | [_, _], _ => by kernel_rfl
theorem bd37 : bindsB (dS 64 "_law_turned_right" ["pot", "code", "sheet", "left", "games", "other", "many"] ["pot", "code", "sheet"]) := fun _ _ _ _ _ _ us hu => match us, hu with | [_, _, _], _ => by kernel_rfl
theorem bd38 : bindsB (dS 65 "_law_led_right" ["pot", "code", "sheet", "left", "led", "games", "one", "other", "told", "near", "far", "column", "lot"] ["pot", "code", "sheet"]) := fun _ _ _ _ _ _ us hu => match us, hu with | [_, _, _], _ => by kernel_rfl
theorem bd39 : bindsB (dS 66 "law" ["script", "pot", "late", "code", "sheet"] ["script"]) := fun _ _ _ _ _ _ us hu => match us, hu with | [_], _ => by kernel_rfl
def loose0 : List Str := ["is_integer", "is_within", "is_count", "is_tuple", "is_part_value", "is_row_value", "columns_read", "written_by", "bound_of", "bounds_by", "first_unset", "flaw_by", "want_code", "bounds_of", "is_game_of", "is_sheet_value", "want_sheet", "column_of", "gathered", "lots_by", "begun", "step_in", "behind_in", "rank_in", "want_both", "state_behind", "rank_by_code", "_law_pot", "_law_draw", "_law_pick"]
def loose1 : List Str := ["_law_sheet", "_law_bound", "_law_row", "_law_code", "_law_growing", "_law_reached_right", "_law_kept_right", "_law_turned_right", "_law_led_right", "PUT", "BYES", "GATHER", "ADD", "TIMES", "PART", "MOST_COLUMNS", "MOST_ROWS", "MOST_NUMBER", "MOST_WEIGHT", "MOST_GAMES_tiecode", "MOST_BOUND", "LEAST_PLAYERS", "MOST_PLAYERS", "MOST_GAMES_sheets", "FORMS", "READS", "ContestError", "InvalidCode", "InvalidMany", "InvalidSheet"]
def loose : List Str := loose0 ++ loose1
def lawAt : Nat := 66
def lawIx : Nat := 39
theorem bind_all : ∀ s ∈ S, bindsB s := by
  intro s hs
  simp only [S, List.mem_cons, List.not_mem_nil, or_false] at hs
  rcases hs with rfl | rfl | rfl | rfl | rfl | rfl | rfl | rfl | rfl | rfl | rfl | rfl | rfl | rfl | rfl | rfl | rfl | rfl | rfl | rfl | rfl | rfl | rfl | rfl | rfl | rfl | rfl | rfl | rfl | rfl | rfl | rfl | rfl | rfl | rfl | rfl | rfl | rfl | rfl | rfl
  · exact bd0
  · exact bd1
  · exact bd2
  · exact bd3
  · exact bd4
  · exact bd5
  · exact bd6
  · exact bd7
  · exact bd8
  · exact bd9
  · exact bd10
  · exact bd11
  · exact bd12
  · exact bd13
  · exact bd14
  · exact bd15
  · exact bd16
  · exact bd17
  · exact bd18
  · exact bd19
  · exact bd20
  · exact bd21
  · exact bd22
  · exact bd23
  · exact bd24
  · exact bd25
  · exact bd26
  · exact bd27
  · exact bd28
  · exact bd29
  · exact bd30
  · exact bd31
  · exact bd32
  · exact bd33
  · exact bd34
  · exact bd35
  · exact bd36
  · exact bd37
  · exact bd38
  · exact bd39
theorem chk_all : ((S.zip tab).all fun p => chkDef G p.1 p.2) = true := by decide +kernel
end DI.K77
end

section
set_option Elab.async false
set_option linter.all false
set_option maxRecDepth 100000
set_option maxHeartbeats 0
/-! k77: the head. -/
namespace DI.K77
open PySem PySem.Spec PyProof.Rows L2
abbrev R : PySem.W.OpenRow := PySem.W.OpenLaw.row PySem.Challenge.rw_contesthouse_k77_whole_bounds_reached_an
abbrev hk : PySem.W.Hook := hookK 5 G S
def ob (s : PySem.W.SharedT) : AlK := obsKG 5 G S (HandSHeadRun.getT s)
theorem ob_eq (s : PySem.W.SharedT) : ob s = hk.obs s.abs := obsKG_eq (HandSHeadRun.getT_eq s)
theorem run0 (w : World) : HandSHeadRun.RunEq R (PySem.W.view R.prog [lawAt]) hk ob 6000 loose (w.withFollow "special-get-raises" false) := by
  intro os
  kernel_rfl
theorem run1 (w : World) : HandSHeadRun.RunEq R (PySem.W.view R.prog [lawAt]) hk ob 6000 loose (w.withFollow "special-get-raises" true) := by
  intro os
  kernel_rfl
end DI.K77
end

section
set_option Elab.async false
set_option linter.all false
set_option maxRecDepth 100000
/-! Part 21: the interpreter, step by step. -/
namespace DI
open PySem L2
section
variable {F : CF} {env e1 e2 e3 e4 : Envi} {a b c : IE} {x y z : Vl} {dx dy dz : D} {r : Vl} {i : Nat} {es : IEs} {xs : List Vl} {ds : List D}
theorem je_var {d : D} (h : env[i]? = some (.va d)) : evE F (.var i) env = .ok (.va d, env) := by unfold evE; rw [h]
theorem je_varL {q : Bool} (h : env[i]? = some (.li q ds)) : evE F (.var i) env = .ok (.vw i, env) := by unfold evE; rw [h]
theorem je_varD {q : Bool} {kvs : List (Key × D)} (h : env[i]? = some (.di q kvs)) : evE F (.var i) env = .ok (.vw i, env) := by unfold evE; rw [h]
theorem je_lit {d : D} : evE F (.lit d) env = .ok (.va d, env) := rfl
theorem je_glo {n : Str} {d : D} : evE F (.glo n d) env = .ok (.va d, env) := rfl
theorem je_bin {op : Operator} (h1 : evE F a env = .ok (x, e1)) (h2 : evE F b e1 = .ok (y, e2)) (h3 : look e2 x = some dx) (h4 : look e2 y = some dy) (h5 : binD op dx dy = some r) : evE F (.bin op a b) env = .ok (r, e2) := by
  unfold evE; simp only [h1, h2, h3, h4, h5, Res.ok_bind, ro_some]
theorem je_cmp {op : CmpOp} {t : Bool} (h1 : evE F a env = .ok (x, e1)) (h2 : evE F b e1 = .ok (y, e2)) (h3 : look e2 x = some dx) (h4 : look e2 y = some dy) (h5 : cmpD op dx dy = some t) : evE F (.cmp op a b) env = .ok (.va (.bl t), e2) := by
  unfold evE; simp only [h1, h2, h3, h4, h5, Res.ok_bind, ro_some]
theorem je_neg {k : Int} (h1 : evE F a env = .ok (.va (.int k), e1)) : evE F (.neg a) env = .ok (.va (.int (-k)), e1) := by
  unfold evE; simp only [h1, Res.ok_bind]
theorem je_isN {n : Bool} (h1 : evE F a env = .ok (.va .non, e1)) : evE F (.isN n a) env = .ok (.va (.bl (!n)), e1) := by
  unfold evE; simp only [h1, Res.ok_bind]
theorem je_isO {n : Bool} {d : D} (h1 : evE F a env = .ok (.va d, e1)) (h2 : d ≠ .non) : evE F (.isN n a) env = .ok (.va (.bl n), e1) := by
  unfold evE; simp only [h1, Res.ok_bind]
  split
  · rename_i e; cases e; exact absurd rfl h2
  · rename_i e; cases e
  · rfl
theorem je_chn {o p : CmpOp} {t : Bool} (h1 : evE F a env = .ok (.va dx, e1)) (h2 : evE F b e1 = .ok (.va dy, e2)) (h3 : cmpD o dx dy = some true) (h4 : evE F c e2 = .ok (.va dz, e3)) (h5 : cmpD p dy dz = some t) : evE F (.chn o p a b c) env = .ok (.va (.bl t), e3) := by
  unfold evE; simp only [h1, h2, h3, h4, h5, Res.ok_bind, ro_some, if_true]
theorem je_chnF {o p : CmpOp} (h1 : evE F a env = .ok (.va dx, e1)) (h2 : evE F b e1 = .ok (.va dy, e2)) (h3 : cmpD o dx dy = some false) : evE F (.chn o p a b c) env = .ok (.va (.bl false), e2) := by
  unfold evE; simp only [h1, h2, h3, Res.ok_bind, ro_some]; rfl
theorem je_and (h1 : evE F a env = .ok (.va (.bl true), e1)) (h2 : evE F b e1 = .ok (r, e2)) : evE F (.and a b) env = .ok (r, e2) := by
  unfold evE; simp only [h1, h2, Res.ok_bind, if_true]
theorem je_andF (h1 : evE F a env = .ok (.va (.bl false), e1)) : evE F (.and a b) env = .ok (.va (.bl false), e1) := by
  unfold evE; simp only [h1, Res.ok_bind]; rfl
theorem je_orT (h1 : evE F a env = .ok (.va (.bl true), e1)) : evE F (.or a b) env = .ok (.va (.bl true), e1) := by
  unfold evE; simp only [h1, Res.ok_bind, if_true]
theorem je_or (h1 : evE F a env = .ok (.va (.bl false), e1)) (h2 : evE F b e1 = .ok (r, e2)) : evE F (.or a b) env = .ok (r, e2) := by
  unfold evE; simp only [h1, h2, Res.ok_bind]; rfl
theorem je_not {t : Bool} (h1 : evE F a env = .ok (.va (.bl t), e1)) : evE F (.not a) env = .ok (.va (.bl (!t)), e1) := by
  unfold evE; simp only [h1, Res.ok_bind]
theorem je_ife {t : IT} {q : Bool} (h1 : evT F t env = .ok (q, e1)) (h2 : (if q = true then evE F a e1 else evE F b e1) = .ok (r, e2)) : evE F (.ife t a b) env = .ok (r, e2) := by
  unfold evE; simp only [h1, Res.ok_bind]; exact h2
theorem je_tup (h1 : evVs F es env = .ok (xs, e1)) (h2 : dats xs = some ds) (h3 : fits ds.length = true) : evE F (.tup es) env = .ok (.va (.tup ds), e1) := by
  unfold evE; simp only [h1, h2, h3, Res.ok_bind, ro_some, if_true]
theorem je_lst (h1 : evVs F es env = .ok (xs, e1)) (h2 : dats xs = some ds) (h3 : fits ds.length = true) : evE F (.lst es) env = .ok (.ol ds, e1) := by
  unfold evE; simp only [h1, h2, h3, Res.ok_bind, ro_some, if_true]
theorem je_idx {d : D} (h1 : evE F a env = .ok (x, e1)) (h2 : evE F b e1 = .ok (y, e2)) (h3 : look e2 x = some dx) (h4 : dat y = some dy) (h5 : idxD dx dy = some d) : evE F (.idx a b) env = .ok (.va d, e2) := by
  unfold evE; simp only [h1, h2, h3, h4, h5, Res.ok_bind, ro_some]
theorem je_slc {l h : IEo} {p q : Option Int} (h1 : evE F a env = .ok (x, e1)) (h2 : evO F l e1 = .ok (p, e2)) (h3 : evO F h e2 = .ok (q, e3)) (h4 : look e3 x = some dx) (h5 : slcD dx p q = some r) : evE F (.slc a l h) env = .ok (r, e3) := by
  unfold evE; simp only [h1, h2, h3, h4, h5, Res.ok_bind, ro_some]
theorem je_rev (h1 : evE F a env = .ok (x, e1)) (h2 : look e1 x = some (.lst ds)) : evE F (.rev a) env = .ok (.ol ds.reverse, e1) := by
  unfold evE; simp only [h1, h2, Res.ok_bind, ro_some]
theorem je_gget {n : Str} {t : List (Key × D)} {k : List Nat} {d : D} (h1 : evE F a env = .ok (.va (.str k), e1)) (h2 : kget t (.inr ⟨k.toArray⟩) = some d) : evE F (.gget n t a) env = .ok (.va d, e1) := by
  unfold evE; simp only [h1, h2, Res.ok_bind, ro_some]
theorem je_gin {m : Bool} {n : Str} {t : List (Key × D)} {k : List Nat} (h1 : evE F a env = .ok (.va (.str k), e1)) : evE F (.gin m n t a) env = .ok (.va (.bl (if m = true then !(kget t (.inr ⟨k.toArray⟩)).isSome else (kget t (.inr ⟨k.toArray⟩)).isSome)), e1) := by
  unfold evE; simp only [h1, Res.ok_bind]
theorem je_isi {ts : List String} {n : String} {t : Bool} (h1 : evE F a env = .ok (x, e1)) (h2 : look e1 x = some dx) (h3 : tyD dx = some n) (h4 : isiT n ts = some t) : evE F (.isi a ts) env = .ok (.va (.bl t), e1) := by
  unfold evE; simp only [h1, h2, h3, h4, Res.ok_bind, ro_some, Option.bind_some]
theorem je_call {f : Nat} {args args' : List Sl} (h1 : evVs F es env = .ok (xs, e1)) (h2 : nodupB (vws xs) = true) (h3 : lend e1 xs = some args) (h4 : F f args = .ok (r, args')) (h5 : back e1 xs args' = e2) : evE F (.call f es) env = .ok (r, e2) := by
  unfold evE; simp only [h1, h2, h3, h4, h5, Res.ok_bind, ro_some, if_true]
theorem je_bi {t : Bi} (h1 : evVs F es env = .ok (xs, e1)) (h2 : looks e1 xs = some ds) (h3 : biD t ds = some r) : evE F (.bi t es) env = .ok (r, e1) := by
  unfold evE; simp only [h1, h2, h3, Res.ok_bind, ro_some]
theorem je_meM {m : Me} {s s' : Sl} {d : D} (h1 : evE F a env = .ok (.vw i, e1)) (h2 : look e1 (.vw i) = some dx) (h3 : meTy m dx = true) (h4 : evVs F es e1 = .ok (xs, e2)) (hm : mutM m = true) (h5 : e2[i]? = some s) (h6 : (if decide (m = .extend) = true then looks e2 xs else dats xs) = some ds) (h7 : meS m s ds = some (d, s')) (h8 : e2.set i s' = e3) :
    evE F (.me m a es) env = .ok (.va d, e3) := by
  unfold evE; simp only [h1, h2, h3, h4, h5, h6, h7, h8, hm, Res.ok_bind, ro_some, if_true]
theorem je_meD {m : Me} (h1 : evE F a env = .ok (x, e1)) (h2 : look e1 x = some dx) (h3 : meTy m dx = true) (h4 : evVs F es e1 = .ok (xs, e2)) (hm : mutM m = false) (h5 : looks e2 xs = some ds) (h6 : look e2 x = some dy) (h7 : meD m dy ds = some r) : evE F (.me m a es) env = .ok (r, e2) := by
  unfold evE; simp only [h1, h2, h3, h4, h5, h6, h7, hm, Res.ok_bind, ro_some, if_true]; rfl
theorem je_srs {ns : List Int} (h1 : evE F a env = .ok (x, e1)) (h2 : look e1 x = some (.lst ds)) (h3 : intsD ds = some ns) (h4 : ns.length < 64) : evE F (.srs a) env = .ok (.ol ((isort (uniq ns)).map .int), e1) := by
  unfold evE; simp only [h1, h2, h3, Res.ok_bind, ro_some, decide_eq_true h4, if_true]
theorem je_sit {kvs : List (Key × D)} {ps : List (Int × Int)} (h1 : evE F a env = .ok (x, e1)) (h2 : look e1 x = some (.dct kvs)) (h3 : pairsI kvs = some ps) (h4 : ps.length < 64) : evE F (.sit a) env = .ok (.ol ((psort ps).map fun q => .tup [.int q.1, .int q.2]), e1) := by
  unfold evE; simp only [h1, h2, h3, Res.ok_bind, ro_some, decide_eq_true h4, if_true]
theorem je_rgl {t : Bool} {n : Int} (h1 : evE F a env = .ok (.va (.int n), e1)) (h2 : -(2 ^ 62) ≤ n ∧ n < 2 ^ 62 ∧ n.toNat ≤ 2 ^ 24) : evE F (.rgl t a) env = .ok (if t = true then .va (.tup (rngL 0 n.toNat)) else .ol (rngL 0 n.toNat), e1) := by
  unfold evE; simp only [h1, Res.ok_bind, decide_eq_true h2, if_true]
/-- what a comprehension does with each item -/
abbrev cAsg (F : CF) (tg : ITg) : D → Envi → Res Envi := fun d e => asgT F tg d e
abbrev cIf (F : CF) (c : Option') : Envi → Res (Bool × Envi) := fun e => evC' F c e
abbrev cElt (F : CF) (a : IE) : Envi → Res (D × Envi) := fun e => (evE F a e).bind fun q => (ro (dat q.1)).bind fun d => .ok (d, q.2)
theorem je_comp {tg : ITg} {it : II} {k : Option'} {own : List (Str × Nat)} {out : List D} (h1 : evI F it env = .ok (ds, e1)) (h2 : plainAt e1 (own.map (·.2)) = true) (h3 : compL (cAsg F tg) (cIf F k) (cElt F a) (own.map (·.2)) ds e1 [] = .ok (out, e2)) (h4 : restE e1 e2 (own.map (·.2)) = e3) :
    evE F (.comp a tg it k own) env = .ok (.ol out, e3) := by
  unfold evE; simp only [h1, h2, Res.ok_bind, if_true]
  have h3 : compL (fun d e => asgT F tg d e) (fun e => evC' F k e) (fun e => (evE F a e).bind fun q => (ro (dat q.1)).bind fun d => .ok (d, q.2)) (own.map (·.2)) ds e1 [] = .ok (out, e2) := h3
  rw [h3, Res.ok_bind, h4]
/-- one that leaves the names as they are -/
theorem comp_map {asg : D → Envi → Res Envi} {cond : Envi → Res (Bool × Envi)} {elt : Envi → Res (D × Envi)} {own : List Nat} {e : Envi} {t : D → Bool} {g : D → D} : ∀ {ds acc : List D}, (∀ d ∈ ds, ∃ e1 e2, asg d (wipeE e own) = .ok e1 ∧ cond e1 = .ok (t d, e2) ∧ wipeE e2 own = wipeE e own ∧ restE e e2 own = e ∧ (t d = true → ∃ e3, elt e2 = .ok (g d, e3) ∧ wipeE e3 own = wipeE e own ∧ restE e e3 own = e)) →
    acc.length + ds.length ≤ sizeLine → ∀ e0, wipeE e0 own = wipeE e own → restE e e0 own = e → ∃ e9, compL asg cond elt own ds e0 acc = .ok (acc ++ (ds.filter t).map g, e9) ∧ restE e e9 own = e
  | [], acc, _, _, e0, _, hr => ⟨e0, by simp [compL], hr⟩
  | d :: ds, acc, h, hl, e0, hw, hr => by
    obtain ⟨e1, e2, q1, q2, q3, q4, q5⟩ := h d (List.mem_cons_self ..)
    have hl' : acc.length + ds.length + 1 ≤ sizeLine := by simpa [Nat.add_assoc] using hl
    unfold compL
    rw [hw, q1, Res.ok_bind, q2, Res.ok_bind]
    cases ht : t d with
    | false =>
      obtain ⟨e9, r1, r2⟩ := comp_map (ds := ds) (acc := acc) (fun x hx => h x (List.mem_cons_of_mem _ hx)) (by omega) e2 q3 q4
      refine ⟨e9, ?_, r2⟩
      rw [if_neg (by simp), r1, List.filter_cons, ht]
      rfl
    | true =>
      obtain ⟨e3, q6, q7, q8⟩ := q5 ht
      obtain ⟨e9, r1, r2⟩ := comp_map (ds := ds) (acc := acc ++ [g d]) (fun x hx => h x (List.mem_cons_of_mem _ hx)) (by simp; omega) e3 q7 q8
      refine ⟨e9, ?_, r2⟩
      rw [if_pos rfl, q6, Res.ok_bind, if_pos (decide_eq_true (by omega)), r1, List.filter_cons, ht]
      simp
/-! tests -/
theorem jt_e {t : Bool} (h1 : evE F a env = .ok (x, e1)) (h2 : look e1 x = some dx) (h3 : truD dx = some t) : evT F (.e a) env = .ok (t, e1) := by
  unfold evT; simp only [h1, h2, h3, Res.ok_bind, ro_some]
theorem jt_and {p q : IT} {t : Bool} (h1 : evT F p env = .ok (true, e1)) (h2 : evT F q e1 = .ok (t, e2)) : evT F (.and p q) env = .ok (t, e2) := by
  unfold evT; simp only [h1, h2, Res.ok_bind, if_true]
theorem jt_andF {p q : IT} (h1 : evT F p env = .ok (false, e1)) : evT F (.and p q) env = .ok (false, e1) := by
  unfold evT; simp only [h1, Res.ok_bind]; rfl
theorem jt_orT {p q : IT} (h1 : evT F p env = .ok (true, e1)) : evT F (.or p q) env = .ok (true, e1) := by
  unfold evT; simp only [h1, Res.ok_bind, if_true]
theorem jt_or {p q : IT} {t : Bool} (h1 : evT F p env = .ok (false, e1)) (h2 : evT F q e1 = .ok (t, e2)) : evT F (.or p q) env = .ok (t, e2) := by
  unfold evT; simp only [h1, h2, Res.ok_bind]; rfl
theorem jt_not {p : IT} {t : Bool} (h1 : evT F p env = .ok (t, e1)) : evT F (.not p) env = .ok (!t, e1) := by
  unfold evT; simp only [h1, Res.ok_bind]
/-! arguments -/
theorem jv_nil : evVs F .nil env = .ok ([], env) := rfl
theorem jv_cons (h1 : evE F a env = .ok (x, e1)) (h2 : evVs F es e1 = .ok (xs, e2)) : evVs F (.cons a es) env = .ok (fz x :: xs, e2) := by
  unfold evVs; simp only [h1, h2, Res.ok_bind]
theorem jo_so {k : Int} (h1 : evE F a env = .ok (.va (.int k), e1)) : evO F (.so a) env = .ok (some k, e1) := by
  unfold evO; simp only [h1, Res.ok_bind]
theorem jo_no : evO F .no env = .ok (none, env) := rfl
/-! what is walked -/
theorem jw_seq {ys : List D} (h1 : evE F a env = .ok (x, e1)) (h2 : dat x = some dx) (h3 : itD dx = some ys) : evI F (.seq a) env = .ok (ys, e1) := by
  unfold evI; simp only [h1, h2, h3, Res.ok_bind, ro_some]
theorem jw_rng1 {n : Int} (h1 : evE F a env = .ok (.va (.int n), e1)) (h2 : -(2 ^ 62) ≤ n ∧ n < 2 ^ 62) : evI F (.rng1 a) env = .ok (rngL 0 n.toNat, e1) := by
  unfold evI; simp only [h1, Res.ok_bind, decide_eq_true h2, if_true]
theorem jw_enum {ys : List D} (h1 : evE F a env = .ok (x, e1)) (h2 : dat x = some dx) (h3 : srcD dx = some ys) : evI F (.enum a) env = .ok (enumL 0 ys, e1) := by
  unfold evI; simp only [h1, h2, h3, Res.ok_bind, ro_some]
theorem jw_zip {ys zs : List D} (h1 : evE F a env = .ok (x, e1)) (h2 : evE F b e1 = .ok (y, e2)) (h3 : dat x = some dx) (h4 : dat y = some dy) (h5 : srcD dx = some ys) (h6 : srcD dy = some zs) : evI F (.zip a b) env = .ok (zipL ys zs, e2) := by
  unfold evI; simp only [h1, h2, h3, h4, h5, h6, Res.ok_bind, ro_some]
/-! statements -/
variable {s : IS} {ss : ISs} {res : Fl × Envi}
theorem jq_nil : evSs F .nil env = .ok (.nx, env) := rfl
theorem jq_cons (h1 : evS F s env = .ok (.nx, e1)) (h2 : evSs F ss e1 = .ok res) : evSs F (.cons s ss) env = .ok res := by
  unfold evSs; simp only [h1, h2, Res.ok_bind]
theorem jq_ret {v : Vl} (h1 : evS F s env = .ok (.rt v, e1)) : evSs F (.cons s ss) env = .ok (.rt v, e1) := by
  unfold evSs; simp only [h1, Res.ok_bind]
theorem js_ret (h1 : evE F a env = .ok (x, e1)) : evS F (.ret a) env = .ok (.rt x, e1) := by
  unfold evS; simp only [h1, Res.ok_bind]
theorem js_set {k : Bool} {s : Sl} (h1 : evE F a env = .ok (x, e1)) (h2 : slotOf k x = some s) (h3 : sto e1 i s = .ok e2) : evS F (.set i k a) env = .ok (.nx, e2) := by
  unfold evS; simp only [h1, h2, h3, Res.ok_bind, ro_some]
theorem js_asg {t : ITg} {d : D} (h1 : evE F a env = .ok (x, e1)) (h2 : dat x = some d) (h3 : asgT F t d e1 = .ok e2) : evS F (.asg t a) env = .ok (.nx, e2) := by
  unfold evS; simp only [h1, h2, h3, Res.ok_bind, ro_some]
theorem js_par {ks : List (Nat × Bool)} (h1 : evNs F es env = .ok (xs, e1)) (h2 : parS e1 ks xs = .ok e2) : evS F (.par ks es) env = .ok (.nx, e2) := by
  unfold evS; simp only [h1, h2, Res.ok_bind]
theorem jn_nil : evNs F .nil env = .ok ([], env) := rfl
theorem jn_cons (h1 : evE F a env = .ok (x, e1)) (h2 : evNs F es e1 = .ok (xs, e2)) : evNs F (.cons a es) env = .ok (x :: xs, e2) := by
  unfold evNs; simp only [h1, h2, Res.ok_bind]
theorem js_expr (h1 : evE F a env = .ok (x, e1)) : evS F (.expr a) env = .ok (.nx, e1) := by
  unfold evS; simp only [h1, Res.ok_bind]
theorem js_ifs {t : IT} {p q : ISs} {k : Bool} (h1 : evT F t env = .ok (k, e1)) (h2 : (if k = true then evSs F p e1 else evSs F q e1) = .ok res) : evS F (.ifs t p q) env = .ok res := by
  unfold evS; simp only [h1, Res.ok_bind]; exact h2
abbrev fBody (F : CF) (t : ITg) (p : ISs) : D → Envi → Res (Fl × Envi) := fun d e => (asgT F t d e).bind fun e1 => evSs F p e1
theorem js_for {t : ITg} {it : II} {p : ISs} (h1 : evI F it env = .ok (ds, e1)) (h2 : forL (fBody F t p) ds e1 = .ok res) : evS F (.for t it p) env = .ok res := by
  unfold evS; simp only [h1, Res.ok_bind]; exact h2
theorem jf_body {t : ITg} {p : ISs} {d : D} (h1 : asgT F t d env = .ok e1) (h2 : evSs F p e1 = .ok res) : fBody F t p d env = .ok res := by
  show ((asgT F t d env).bind fun e1 => evSs F p e1) = .ok res
  rw [h1, Res.ok_bind, h2]
theorem jg_nm {d : D} (h : sto env i (.va d) = .ok e1) : asgT F (.nm i) d env = .ok e1 := by unfold asgT; exact h
theorem jg_tup {ts : ITgs} (h : asgTs F ts ds env = .ok e1) : asgT F (.tup ts) (.tup ds) env = .ok e1 := by unfold asgT; exact h
theorem jg_nil : asgTs F .nil [] env = .ok env := rfl
theorem jg_cons {t : ITg} {ts : ITgs} {d : D} (h1 : asgT F t d env = .ok e1) (h2 : asgTs F ts ds e1 = .ok e2) : asgTs F (.cons t ts) (d :: ds) env = .ok e2 := by unfold asgTs; simp only [h1, h2, Res.ok_bind]
theorem jg_sub {d k : D} {s s' : Sl} (h1 : evE F a env = .ok (.vw i, e1)) (h2 : evE F b e1 = .ok (y, e2)) (h3 : dat y = some k) (h4 : e2[i]? = some s) (h5 : putS s k d = some s') (h6 : e2.set i s' = e3) : asgT F (.sub a b) d env = .ok e3 := by
  unfold asgT; simp only [h1, h2, h3, Res.ok_bind, ro_some]
  unfold chg
  simp only [h4, h5, h6, Res.ok_bind, ro_some]
/-- a loop by an invariant -/
theorem for_inv {body : D → Envi → Res (Fl × Envi)} (P : Nat → Envi → Prop) : ∀ {ds : List D} {env : Envi} (k : Nat), P k env → (∀ i d env, ds[i]? = some d → P (k + i) env → ∃ env', body d env = .ok (.nx, env') ∧ P (k + i + 1) env') → ∃ env', forL body ds env = .ok (.nx, env') ∧ P (k + ds.length) env'
  | [], env, k, h0, _ => ⟨env, rfl, h0⟩
  | d :: ds, env, k, h0, hs => by
    obtain ⟨e1, h1, h2⟩ := hs 0 d env rfl h0
    obtain ⟨e2, h3, h4⟩ := for_inv P (ds := ds) (env := e1) (k + 1) h2 fun i x e hx hp => by
      have := hs (i + 1) x e (by simpa using hx) (by rw [show k + (i + 1) = k + 1 + i by omega]; exact hp)
      rw [show k + (i + 1) + 1 = k + 1 + i + 1 by omega] at this
      exact this
    refine ⟨e2, ?_, by rw [List.length_cons, show k + (ds.length + 1) = k + 1 + ds.length by omega]; exact h4⟩
    unfold forL
    rw [h1, Res.ok_bind]
    exact h3
end
/-- a def, to its return -/
theorem jd_ret {T : List Df} {n f : Nat} {d : Df} {args : List Sl} {env : Envi} {x y : Vl} {out : List Sl} (h1 : T[f]? = some d) (h2 : args.length = d.np) (h3 : evSs (evD T n) d.body (args ++ List.replicate d.nl .un) = .ok (.rt x, env)) (h4 : outV env x = .ok y) (h5 : (env.take d.np).map keepB = out) : evD T (n + 1) f args = .ok (y, out) := by
  unfold evD
  simp only [h1, h2, h3, h4, h5, Res.ok_bind, decide_true, if_true]
theorem jd_nx {T : List Df} {n f : Nat} {d : Df} {args : List Sl} {env : Envi} {out : List Sl} (h1 : T[f]? = some d) (h2 : args.length = d.np) (h3 : evSs (evD T n) d.body (args ++ List.replicate d.nl .un) = .ok (.nx, env)) (h5 : (env.take d.np).map keepB = out) : evD T (n + 1) f args = .ok (.va .non, out) := by
  unfold evD
  simp only [h1, h2, h3, h5, Res.ok_bind, decide_true, if_true]
end DI
end

section
set_option Elab.async false
set_option linter.all false
set_option maxRecDepth 100000
/-! Part 22: steps that part by a test. -/
namespace DI
open PySem L2
theorem je_andI {F : CF} {env e1 e2 : Envi} {a b : IE} {r : Vl} {t : Bool} (h1 : evE F a env = .ok (.va (.bl t), e1)) (h2 : (if t = true then evE F b e1 else .ok (.va (.bl false), e1)) = .ok (r, e2)) : evE F (.and a b) env = .ok (r, e2) := by
  unfold evE; simp only [h1, Res.ok_bind]; exact h2
theorem je_orI {F : CF} {env e1 e2 : Envi} {a b : IE} {r : Vl} {t : Bool} (h1 : evE F a env = .ok (.va (.bl t), e1)) (h2 : (if t = true then .ok (.va (.bl true), e1) else evE F b e1) = .ok (r, e2)) : evE F (.or a b) env = .ok (r, e2) := by
  unfold evE; simp only [h1, Res.ok_bind]; exact h2
theorem jt_andI {F : CF} {env e1 e2 : Envi} {a b : IT} {r t : Bool} (h1 : evT F a env = .ok (t, e1)) (h2 : (if t = true then evT F b e1 else .ok (false, e1)) = .ok (r, e2)) : evT F (.and a b) env = .ok (r, e2) := by
  unfold evT; simp only [h1, Res.ok_bind]; exact h2
theorem jt_orI {F : CF} {env e1 e2 : Envi} {a b : IT} {r t : Bool} (h1 : evT F a env = .ok (t, e1)) (h2 : (if t = true then .ok (true, e1) else evT F b e1) = .ok (r, e2)) : evT F (.or a b) env = .ok (r, e2) := by
  unfold evT; simp only [h1, Res.ok_bind]; exact h2
theorem je_chnI {F : CF} {env e1 e2 e3 : Envi} {a b c : IE} {dx dy : D} {t : Bool} {r : Vl} {o p : CmpOp} (h1 : evE F a env = .ok (.va dx, e1)) (h2 : evE F b e1 = .ok (.va dy, e2)) (h3 : cmpD o dx dy = some t) (h4 : (if t = true then (evE F c e2).bind fun s => (match s.1 with
      | .va z => (ro (cmpD p dy z)).bind fun r => .ok (.va (.bl r), s.2)
      | _ => .bad) else .ok (.va (.bl false), e2)) = .ok (r, e3)) : evE F (.chn o p a b c) env = .ok (r, e3) := by
  unfold evE; simp only [h1, h2, h3, Res.ok_bind, ro_some]; exact h4
theorem jq_step {F : CF} {env e1 : Envi} {s : IS} {ss : ISs} {f : Fl} {res : Fl × Envi} (h1 : evS F s env = .ok (f, e1)) (h2 : (match f with
    | .nx => evSs F ss e1
    | f => .ok (f, e1)) = .ok res) : evSs F (.cons s ss) env = .ok res := by
  unfold evSs; simp only [h1, Res.ok_bind]; exact h2
theorem jb_mul {a b : Int} (h : (-(2 ^ 64) < a ∧ a < 2 ^ 64) ∨ (-(2 ^ 64) < b ∧ b < 2 ^ 64)) : binD .Mult (.int a) (.int b) = some (.va (.int (a * b))) := by
  show (if _ then _ else _) = _
  rw [if_pos (by simpa using h)]
theorem jb_mod {a b : Int} (h : 0 < b) : binD .Mod (.int a) (.int b) = some (.va (.int (a % b))) := by
  show (if _ then _ else _) = _
  rw [if_pos (by simpa using h)]
theorem jb_div {a b : Int} (h : 0 < b ∧ b < 1073741824) : binD .FloorDiv (.int a) (.int b) = some (.va (.int (a / b))) := by
  show (if _ then _ else _) = _
  rw [if_pos (by simpa using h)]
theorem jb_pow {a b : Int} (h : 0 ≤ b ∧ b ≤ 1000000 ∧ a.natAbs < 2 ^ 64) : binD .Pow (.int a) (.int b) = some (.va (.int (a ^ b.toNat))) := by
  show (if _ then _ else _) = _
  rw [if_pos (by simpa using h)]
theorem jb_divmod {a b : Int} (h : 0 < b ∧ b < 1073741824) : biD .divmod [.int a, .int b] = some (.va (.tup [.int (a / b), .int (a % b)])) := by
  show (if _ then _ else _) = _
  rw [if_pos (by simpa using h)]
theorem jb_maxL {d : D} {xs : List D} {ns : List Int} {m : Int} (h1 : seqD d = some xs) (h2 : intsD xs = some ns) (h3 : most (fun a b => decide (a > b)) ns = some m) : biD .maxL [d] = some (.va (.int m)) := by
  unfold biD
  simp only [h1, h2, h3, Option.bind_some, Option.map_some]
theorem jb_dctI {kvs : List (Key × D)} {k : Int} {d : D} (h : kget kvs (.inl k) = some d) : idxD (.dct kvs) (.int k) = some d := h
end DI
end

section
set_option Elab.async false
set_option linter.all false
set_option maxRecDepth 100000
/-! Part 23: defs opened, loops and comprehensions as the plain law wants them. -/
namespace DI
open PySem L2
def finD (np : Nat) (r : Res (Fl × Envi)) : Res (Vl × List Sl) := r.bind fun p => match p.1 with
  | .nx => .ok (.va .non, (p.2.take np).map keepB)
  | .rt x => (outV p.2 x).bind fun y => .ok (y, (p.2.take np).map keepB)
  | _ => .bad
theorem opn {T : List Df} {f : Nat} (n np nl : Nat) (b : ISs) {args : List Sl} (h1 : T[f]? = some ⟨np, nl, b⟩) (h2 : args.length = np) : evD T (n + 1) f args = finD np (evSs (evD T n) b (args ++ List.replicate nl .un)) := by
  conv => lhs; unfold evD
  simp only [h1, h2, decide_true, if_true]
  rfl
theorem eqO_str (a b : List Nat) : eqO (.str a) (.str b) = some (decide (a = b)) := rfl
theorem eqO_int (a b : Int) : eqO (.int a) (.int b) = some (decide (a = b)) := rfl
theorem fits_lt {n : Nat} (h : n < 1000000) : fits n = true := decide_eq_true (by unfold sizeLine; omega)
theorem sz {n : Nat} (h : n < 1000000) : (n < sizeLine) = True := eq_true (by unfold sizeLine; omega)
theorem slc_1 {a : D} {xs : List D} : slcD (.tup (a :: xs)) (some 1) none = some (.va (.tup xs)) := by
  unfold slcD cutD HT.sIx
  simp
theorem isi_int : isiT "int" ["int"] = some true := rfl
theorem isi_ib : isiT "int" ["bool"] = some false := rfl
theorem isi_str : isiT "str" ["str"] = some true := rfl
theorem isi_tup : isiT "tuple" ["tuple"] = some true := rfl
theorem ixN_n (n k : Nat) (h : k < n) : ixN n (k : Int) = some k := by
  unfold ixN
  rw [if_pos (by omega)]
  simp [h]
theorem ix_0 {a : D} {xs : List D} : idxD (.tup (a :: xs)) (.int 0) = some a := by
  show (ixN _ (((0 : Nat)) : Int)).bind _ = _
  rw [ixN_n _ _ (by simp only [List.length_cons]; omega)]
  rfl
theorem ix_1 {a b : D} {xs : List D} : idxD (.tup (a :: b :: xs)) (.int 1) = some b := by
  show (ixN _ (((1 : Nat)) : Int)).bind _ = _
  rw [ixN_n _ _ (by simp only [List.length_cons]; omega)]
  rfl
theorem ix_2 {a b c : D} {xs : List D} : idxD (.tup (a :: b :: c :: xs)) (.int 2) = some c := by
  show (ixN _ (((2 : Nat)) : Int)).bind _ = _
  rw [ixN_n _ _ (by simp only [List.length_cons]; omega)]
  rfl
theorem ix_3 {a b c d : D} {xs : List D} : idxD (.tup (a :: b :: c :: d :: xs)) (.int 3) = some d := by
  show (ixN _ (((3 : Nat)) : Int)).bind _ = _
  rw [ixN_n _ _ (by simp only [List.length_cons]; omega)]
  rfl
theorem ix_4 {a b c d e : D} {xs : List D} : idxD (.tup (a :: b :: c :: d :: e :: xs)) (.int 4) = some e := by
  show (ixN _ (((4 : Nat)) : Int)).bind _ = _
  rw [ixN_n _ _ (by simp only [List.length_cons]; omega)]
  rfl
theorem ix_5 {a b c d e g : D} {xs : List D} : idxD (.tup (a :: b :: c :: d :: e :: g :: xs)) (.int 5) = some g := by
  show (ixN _ (((5 : Nat)) : Int)).bind _ = _
  rw [ixN_n _ _ (by simp only [List.length_cons]; omega)]
  rfl
/-- data made from the members of a list and their places -/
def idm {α : Type} (enc : Nat → α → D) : Nat → List α → List D
  | _, [] => []
  | k, x :: xs => enc k x :: idm enc (k + 1) xs
theorem idm_map {α : Type} (f : α → D) : ∀ (k : Nat) (xs : List α), xs.map f = idm (fun _ x => f x) k xs
  | _, [] => rfl
  | k, x :: xs => by rw [List.map_cons, idm, idm_map f (k + 1) xs]
theorem enumL_map {α : Type} (f : α → D) : ∀ (k : Nat) (xs : List α), enumL k (xs.map f) = idm (fun i x => .tup [.int i, f x]) k xs
  | _, [] => rfl
  | k, x :: xs => by
    rw [List.map_cons, enumL, idm, ← enumL_map f (k + 1) xs]
    rfl
theorem rngL_idm : ∀ (k n : Nat), rngL k n = idm (fun i (_ : Nat) => .int i) k (List.range n)
  | k, 0 => rfl
  | k, n + 1 => by
    have h : ∀ (xs : List Nat) (k : Nat) (g : Nat → Nat), idm (fun i (_ : Nat) => D.int i) k (xs.map g) = idm (fun i (_ : Nat) => D.int i) k xs := by
      intro xs
      induction xs with
      | nil => intros; rfl
      | cons x xs ih => intro k g; rw [List.map_cons, idm, idm, ih]
    rw [rngL, List.range_succ_eq_map, idm, h, ← rngL_idm (k + 1) n]
    rfl
theorem idm_length {α : Type} (enc : Nat → α → D) : ∀ (k : Nat) (xs : List α), (idm enc k xs).length = xs.length
  | _, [] => rfl
  | k, x :: xs => by rw [idm, List.length_cons, List.length_cons, idm_length]
/-- a loop, by what holds when pre is behind it -/
theorem for_ev {α : Type} {F : CF} {t : ITg} {it : II} {b : ISs} {env : Envi} (enc : Nat → α → D) (P : List α → Envi → Prop) {xs : List α} (hit : evI F it env = .ok (idm enc 0 xs, env)) (h0 : P [] env)
    (hs : ∀ pre x post env, xs = pre ++ x :: post → P pre env → ∃ e1 env', asgT F t (enc pre.length x) env = .ok e1 ∧ evSs F b e1 = .ok (.nx, env') ∧ P (pre ++ [x]) env') :
    ∃ env', evS F (.for t it b) env = .ok (.nx, env') ∧ P xs env' := by
  have go : ∀ (post pre : List α) (env : Envi), xs = pre ++ post → P pre env → ∃ env', forL (fun d e => (asgT F t d e).bind fun e1 => evSs F b e1) (idm enc pre.length post) env = .ok (.nx, env') ∧ P xs env' := by
    intro post
    induction post with
    | nil => intro pre env h hp; exact ⟨env, rfl, by rw [h, List.append_nil]; exact hp⟩
    | cons x post ih =>
      intro pre env h hp
      obtain ⟨e1, e2, h1, h2, h3⟩ := hs pre x post env h hp
      obtain ⟨e3, h4, h5⟩ := ih (pre ++ [x]) e2 (by rw [h]; simp) h3
      refine ⟨e3, ?_, h5⟩
      rw [idm]
      unfold forL
      simp only [h1, h2, Res.ok_bind]
      rw [List.length_append, List.length_singleton] at h4
      exact h4
  obtain ⟨e, h1, h2⟩ := go xs [] env rfl h0
  refine ⟨e, ?_, h2⟩
  unfold evS
  simp only [hit, Res.ok_bind]
  exact h1
/-- a comprehension whose names are put back -/
theorem comp_ev {F : CF} {a : IE} {tg : ITg} {it : II} {k : Option'} {own : List (Str × Nat)} {env : Envi} {ds : List D} (t : D → Bool) (g : D → D) (h1 : evI F it env = .ok (ds, env)) (h2 : plainAt env (own.map (·.2)) = true) (hl : ds.length ≤ sizeLine)
    (h : ∀ d ∈ ds, ∃ e1 e2, asgT F tg d (wipeE env (own.map (·.2))) = .ok e1 ∧ evC' F k e1 = .ok (t d, e2) ∧ wipeE e2 (own.map (·.2)) = wipeE env (own.map (·.2)) ∧ restE env e2 (own.map (·.2)) = env ∧
      (t d = true → ∃ v e3, evE F a e2 = .ok (v, e3) ∧ dat v = some (g d) ∧ wipeE e3 (own.map (·.2)) = wipeE env (own.map (·.2)) ∧ restE env e3 (own.map (·.2)) = env))
    (h3 : restE env env (own.map (·.2)) = env) : evE F (.comp a tg it k own) env = .ok (.ol ((ds.filter t).map g), env) := by
  obtain ⟨e9, q1, q2⟩ := comp_map (asg := fun d e => asgT F tg d e) (cond := fun e => evC' F k e) (elt := fun e => (evE F a e).bind fun q => (ro (dat q.1)).bind fun d => .ok (d, q.2)) (own := own.map (·.2)) (e := env) (t := t) (g := g) (ds := ds) (acc := []) (fun d hd => by
    obtain ⟨e1, e2, r1, r2, r3, r4, r5⟩ := h d hd
    refine ⟨e1, e2, r1, r2, r3, r4, fun ht => ?_⟩
    obtain ⟨v, e3, s1, s2, s3, s4⟩ := r5 ht
    exact ⟨e3, by simp only [s1, Res.ok_bind, s2, ro_some], s3, s4⟩) (by simpa using hl) env rfl h3
  unfold evE
  simp only [h1, h2, Res.ok_bind, if_true]
  rw [q1, Res.ok_bind, q2, List.nil_append]
/-- .. without a test -/
theorem comp_evN {F : CF} {a : IE} {tg : ITg} {it : II} {own : List (Str × Nat)} {env : Envi} {ds : List D} (g : D → D) (h1 : evI F it env = .ok (ds, env)) (h2 : plainAt env (own.map (·.2)) = true) (hl : ds.length < 1000000)
    (h : ∀ d ∈ ds, ∃ e1 v, asgT F tg d (wipeE env (own.map (·.2))) = .ok e1 ∧ wipeE e1 (own.map (·.2)) = wipeE env (own.map (·.2)) ∧ restE env e1 (own.map (·.2)) = env ∧ evE F a e1 = .ok (v, e1) ∧ dat v = some (g d))
    (h3 : restE env env (own.map (·.2)) = env) : evE F (.comp a tg it .no own) env = .ok (.ol (ds.map g), env) := by
  have := comp_ev (F := F) (a := a) (tg := tg) (it := it) (k := .no) (own := own) (env := env) (ds := ds) (fun _ => true) g h1 h2 (by unfold sizeLine; omega) (fun d hd => by
    obtain ⟨e1, v, q1, q2, q3, q4, q5⟩ := h d hd
    exact ⟨e1, e1, q1, rfl, q2, q3, fun _ => ⟨v, e1, q4, q5, q2, q3⟩⟩) h3
  rw [this, List.filter_eq_self.mpr (fun _ _ => rfl)]
/-! dicts of data -/
theorem kget_put (kvs : List (Key × D)) (k : Key) (d : D) : kget (kput kvs k d) k = some d := by
  unfold kput kget
  split
  · next h =>
    induction kvs with
    | nil => simp at h
    | cons p r ih =>
      by_cases hp : p.1 = k
      · simp [hp]
      · rw [List.map_cons, List.find?_cons]
        simp only [hp, if_false, decide_false]
        exact ih (by simpa [hp] using h)
  · next h =>
    rw [List.find?_append]
    have : kvs.find? (fun p => decide (p.1 = k)) = none := by
      rw [List.find?_eq_none]; intro p hp
      have := h
      simp only [List.any_eq_true, not_exists, not_and, Bool.not_eq_true] at this
      simpa using this p hp
    rw [this]; simp
theorem find_put_ne {k j : Key} {d : D} (hj : j ≠ k) : ∀ kvs : List (Key × D), (kvs.map (fun p => if p.1 = k then (p.1, d) else p)).find? (fun p => decide (p.1 = j)) = kvs.find? (fun p => decide (p.1 = j))
  | [] => rfl
  | p :: r => by
    rw [List.map_cons, List.find?_cons, List.find?_cons, find_put_ne hj r]
    by_cases hp : p.1 = k
    · have : ¬ k = j := fun e => hj e.symm
      simp [hp, this]
    · simp [hp]
theorem kget_put_ne {kvs : List (Key × D)} {k j : Key} {d : D} (hj : j ≠ k) : kget (kput kvs k d) j = kget kvs j := by
  unfold kput kget
  split
  · rw [find_put_ne hj]
  · rw [List.find?_append]
    have hk : ¬ k = j := fun e => hj e.symm
    simp [hk]
theorem kput_len (kvs : List (Key × D)) (k : Key) (d : D) : (kput kvs k d).length ≤ kvs.length + 1 := by
  unfold kput
  split <;> simp
theorem all_bl {α : Type} (xs : List α) : blsD (xs.map fun _ => D.bl true) = some (xs.map fun _ => true) := by
  induction xs with
  | nil => rfl
  | cons x xs ih => simp only [List.map_cons, blsD, ih, Option.map_some]
theorem bi_all {α : Type} (xs : List α) : biD .all [.lst (xs.map fun _ => D.bl true)] = some (.va (.bl true)) := by
  show (blsD _).map _ = _
  rw [all_bl]
  simp
theorem blsD_rep (n : Nat) : blsD (List.replicate n (D.bl true)) = some (List.replicate n true) := by
  induction n with
  | zero => rfl
  | succ n ih => simp only [List.replicate_succ, blsD, ih, Option.map_some]
theorem blsD_all (bs : List Bool) : blsD (bs.map D.bl) = some bs := by
  induction bs with
  | nil => rfl
  | cons x xs ih => simp only [List.map_cons, blsD, ih, Option.map_some]
end DI
end

section
set_option Elab.async false
set_option linter.all false
set_option maxRecDepth 100000
/-! Part 24: comprehensions over typed things. -/
namespace DI
open PySem L2
theorem comp_mapX {α : Type} {asg : D → Envi → Res Envi} {cond : Envi → Res (Bool × Envi)} {elt : Envi → Res (D × Envi)} {own : List Nat} {e : Envi} (enc : α → D) {t : α → Bool} {g : α → D} : ∀ {xs : List α} {acc : List D},
    (∀ x ∈ xs, ∃ e1 e2, asg (enc x) (wipeE e own) = .ok e1 ∧ cond e1 = .ok (t x, e2) ∧ wipeE e2 own = wipeE e own ∧ restE e e2 own = e ∧ (t x = true → ∃ e3, elt e2 = .ok (g x, e3) ∧ wipeE e3 own = wipeE e own ∧ restE e e3 own = e)) →
    acc.length + xs.length ≤ sizeLine → ∀ e0, wipeE e0 own = wipeE e own → restE e e0 own = e → ∃ e9, compL asg cond elt own (xs.map enc) e0 acc = .ok (acc ++ (xs.filter t).map g, e9) ∧ restE e e9 own = e
  | [], acc, _, _, e0, _, hr => ⟨e0, by simp [compL], hr⟩
  | x :: xs, acc, h, hl, e0, hw, hr => by
    obtain ⟨e1, e2, q1, q2, q3, q4, q5⟩ := h x (List.mem_cons_self ..)
    have hl' : acc.length + xs.length + 1 ≤ sizeLine := by simpa [Nat.add_assoc] using hl
    rw [List.map_cons]
    unfold compL
    rw [hw, q1, Res.ok_bind, q2, Res.ok_bind]
    cases ht : t x with
    | false =>
      obtain ⟨e9, r1, r2⟩ := comp_mapX enc (xs := xs) (acc := acc) (fun x hx => h x (List.mem_cons_of_mem _ hx)) (by omega) e2 q3 q4
      refine ⟨e9, ?_, r2⟩
      rw [if_neg (by simp), r1, List.filter_cons, ht]
      rfl
    | true =>
      obtain ⟨e3, q6, q7, q8⟩ := q5 ht
      obtain ⟨e9, r1, r2⟩ := comp_mapX enc (xs := xs) (acc := acc ++ [g x]) (fun x hx => h x (List.mem_cons_of_mem _ hx)) (by simp; omega) e3 q7 q8
      refine ⟨e9, ?_, r2⟩
      rw [if_pos rfl, q6, Res.ok_bind, if_pos (decide_eq_true (by omega)), r1, List.filter_cons, ht]
      simp
/-- a comprehension with a test over typed things; nothing else changes -/
theorem comp_evX {α : Type} {F : CF} {a : IE} {tg : ITg} {it : II} {k : Option'} {own : List (Str × Nat)} {env : Envi} {ds : List D} {xs : List α} (enc : α → D) (t : α → Bool) (g : α → D) (h1 : evI F it env = .ok (ds, env)) (hd : ds = xs.map enc) (h2 : plainAt env (own.map (·.2)) = true) (hl : xs.length < 1000000)
    (h : ∀ x ∈ xs, ∃ e1, asgT F tg (enc x) (wipeE env (own.map (·.2))) = .ok e1 ∧ wipeE e1 (own.map (·.2)) = wipeE env (own.map (·.2)) ∧ restE env e1 (own.map (·.2)) = env ∧ evC' F k e1 = .ok (t x, e1) ∧ (t x = true → ∃ v, evE F a e1 = .ok (v, e1) ∧ dat v = some (g x)))
    (h3 : restE env env (own.map (·.2)) = env) : evE F (.comp a tg it k own) env = .ok (.ol ((xs.filter t).map g), env) := by
  obtain ⟨e9, q1, q2⟩ := comp_mapX (asg := fun d e => asgT F tg d e) (cond := fun e => evC' F k e) (elt := fun e => (evE F a e).bind fun q => (ro (dat q.1)).bind fun d => .ok (d, q.2)) (own := own.map (·.2)) (e := env) enc (t := t) (g := g) (xs := xs) (acc := []) (fun x hx => by
    obtain ⟨e1, r1, r2, r3, r4, r5⟩ := h x hx
    refine ⟨e1, e1, r1, r4, r2, r3, fun ht => ?_⟩
    obtain ⟨v, s1, s2⟩ := r5 ht
    exact ⟨e1, by simp only [s1, Res.ok_bind, s2, ro_some], r2, r3⟩) (by unfold sizeLine; simp; omega) env rfl h3
  subst hd
  unfold evE
  simp only [h1, h2, Res.ok_bind, if_true]
  rw [q1, Res.ok_bind, q2, List.nil_append]
/-- .. without a test -/
theorem comp_evY {α : Type} {F : CF} {a : IE} {tg : ITg} {it : II} {own : List (Str × Nat)} {env : Envi} {ds : List D} {xs : List α} (enc : α → D) (g : α → D) (h1 : evI F it env = .ok (ds, env)) (hd : ds = xs.map enc) (h2 : plainAt env (own.map (·.2)) = true) (hl : xs.length < 1000000)
    (h : ∀ x ∈ xs, ∃ e1 v, asgT F tg (enc x) (wipeE env (own.map (·.2))) = .ok e1 ∧ wipeE e1 (own.map (·.2)) = wipeE env (own.map (·.2)) ∧ restE env e1 (own.map (·.2)) = env ∧ evE F a e1 = .ok (v, e1) ∧ dat v = some (g x))
    (h3 : restE env env (own.map (·.2)) = env) : evE F (.comp a tg it .no own) env = .ok (.ol (xs.map g), env) := by
  have := comp_evX (F := F) (a := a) (tg := tg) (it := it) (k := .no) (own := own) (env := env) enc (fun _ => true) g h1 hd h2 hl (fun x hx => by
    obtain ⟨e1, v, q1, q2, q3, q4, q5⟩ := h x hx
    exact ⟨e1, q1, q2, q3, rfl, fun _ => ⟨v, q4, q5⟩⟩) h3
  rw [this, List.filter_eq_self.mpr (fun _ _ => rfl)]
theorem biD_tuple (xs : List D) : biD .tuple [.lst xs] = some (.va (.tup xs)) := rfl
theorem biD_tupleT (xs : List D) : biD .tuple [.tup xs] = some (.va (.tup xs)) := rfl
theorem biD_listT (xs : List D) : biD .list [.tup xs] = some (.ol xs) := rfl
theorem intsD_mapf {α : Type} (f : α → Int) (xs : List α) : intsD (xs.map fun x => .int (f x)) = some (xs.map f) := by
  induction xs with
  | nil => rfl
  | cons x xs ih => simp only [List.map_cons, intsD, ih, Option.map_some]
theorem zipL_map {α β : Type} (f : α → D) (g : β → D) : ∀ (xs : List α) (ys : List β), zipL (xs.map f) (ys.map g) = (xs.zip ys).map fun p => .tup [f p.1, g p.2]
  | [], _ => by simp [zipL]
  | _ :: _, [] => by simp [zipL]
  | x :: xs, y :: ys => by simp only [List.map_cons, zipL, List.zip_cons_cons, zipL_map f g xs ys]
theorem zipSelf {α : Type} : ∀ (xs : List α), xs.zip xs = xs.map fun x => (x, x)
  | [] => rfl
  | x :: xs => by rw [List.zip_cons_cons, List.map_cons, zipSelf xs]
end DI
end

section
set_option Elab.async false
set_option linter.all false
set_option maxRecDepth 100000
/-! Part 25: more loops; equality of data. -/
namespace DI
open PySem L2
/-- a loop whose iterable changes the names -/
theorem for_evI {α : Type} {F : CF} {t : ITg} {it : II} {b : ISs} {env env1 : Envi} {ds : List D} (enc : Nat → α → D) (P : List α → Envi → Prop) {xs : List α} (hit : evI F it env = .ok (ds, env1)) (hd : ds = idm enc 0 xs) (h0 : P [] env1)
    (hs : ∀ pre x post env, xs = pre ++ x :: post → P pre env → ∃ e1 env', asgT F t (enc pre.length x) env = .ok e1 ∧ evSs F b e1 = .ok (.nx, env') ∧ P (pre ++ [x]) env') :
    ∃ env', evS F (.for t it b) env = .ok (.nx, env') ∧ P xs env' := by
  subst hd
  have go : ∀ (post pre : List α) (env : Envi), xs = pre ++ post → P pre env → ∃ env', forL (fun d e => (asgT F t d e).bind fun e1 => evSs F b e1) (idm enc pre.length post) env = .ok (.nx, env') ∧ P xs env' := by
    intro post
    induction post with
    | nil => intro pre env h hp; exact ⟨env, rfl, by rw [h, List.append_nil]; exact hp⟩
    | cons x post ih =>
      intro pre env h hp
      obtain ⟨e1, e2, h1, h2, h3⟩ := hs pre x post env h hp
      obtain ⟨e3, h4, h5⟩ := ih (pre ++ [x]) e2 (by rw [h]; simp) h3
      refine ⟨e3, ?_, h5⟩
      rw [idm]
      unfold forL
      simp only [h1, h2, Res.ok_bind]
      rw [List.length_append, List.length_singleton] at h4
      exact h4
  obtain ⟨e, h1, h2⟩ := go xs [] env1 rfl h0
  refine ⟨e, ?_, h2⟩
  unfold evS
  simp only [hit, Res.ok_bind]
  exact h1
/-- for .. in range(k), with the count of turns done -/
theorem for_rng {F : CF} {i : Nat} {it : II} {b : ISs} {env env1 : Envi} {ds : List D} (P : Nat → Envi → Prop) {k : Nat} (hit : evI F it env = .ok (ds, env1)) (hd : ds = rngL 0 k) (h0 : P 0 env1)
    (hs : ∀ j env, j < k → P j env → ∃ e1 env', asgT F (.nm i) (.int j) env = .ok e1 ∧ evSs F b e1 = .ok (.nx, env') ∧ P (j + 1) env') :
    ∃ env', evS F (.for (.nm i) it b) env = .ok (.nx, env') ∧ P k env' := by
  have hr : rngL 0 k = idm (fun i (_ : Nat) => .int i) 0 (List.range k) := by
    have := rngL_idm 0 k
    exact this
  have := for_evI (F := F) (t := .nm i) (it := it) (b := b) (env := env) (env1 := env1) (ds := ds) (fun i (_ : Nat) => .int i) (fun pre e => P pre.length e) (xs := List.range k) hit (hd.trans hr) h0 (by
    intro pre x post e he hp
    obtain ⟨e1, e2, q1, q2, q3⟩ := hs pre.length e (by
      have := congrArg List.length he
      rw [List.length_range, List.length_append, List.length_cons] at this; omega) hp
    exact ⟨e1, e2, q1, q2, by rw [List.length_append]; exact q3⟩)
  rw [List.length_range] at this
  exact this
/-- a loop while something is left -/
theorem whl_ev {F : CF} {N : Nat} {c : IT} {b : ISs} {env : Envi} (P : Nat → Envi → Prop) {k : Nat} (hk : k < N) (h0 : P k env)
    (hs : ∀ j env, P (j + 1) env → ∃ e1 env', evT F c env = .ok (true, e1) ∧ evSs F b e1 = .ok (.nx, env') ∧ P j env')
    (he : ∀ env, P 0 env → ∃ e1, evT F c env = .ok (false, e1) ∧ P 0 e1) :
    ∃ env', evS F (.whl N c b) env = .ok (.nx, env') ∧ P 0 env' := by
  have go : ∀ (N k : Nat) (env : Envi), k < N → P k env → ∃ env', whlL (fun e => evT F c e) (fun e => evSs F b e) N env = .ok (.nx, env') ∧ P 0 env' := by
    intro N
    induction N with
    | zero => intro k env h; omega
    | succ N ih =>
      intro k env h hp
      unfold whlL
      cases k with
      | zero =>
        obtain ⟨e1, q1, q2⟩ := he env hp
        exact ⟨e1, by simp [q1], q2⟩
      | succ k =>
        obtain ⟨e1, e2, q1, q2, q3⟩ := hs k env hp
        obtain ⟨e3, q4, q5⟩ := ih k e2 (by omega) q3
        exact ⟨e3, by simp [q1, q2, q4], q5⟩
  obtain ⟨e, h1, h2⟩ := go N k env hk h0
  exact ⟨e, by unfold evS; exact h1, h2⟩
/-! equality of data -/
mutual
theorem toP_eqv_refl : ∀ d : D, PyData.eqv (toP d) (toP d) = true
  | .non => by simp [toP, PyData.eqv]
  | .bl _ => by simp [toP, PyData.eqv]
  | .int _ => by simp [toP, PyData.eqv]
  | .str _ => by simp [toP, PyData.eqv]
  | .ty _ => by simp [toP, PyData.eqv]
  | .cl _ => by simp [toP, PyData.eqv]
  | .tup xs => by rw [toP, PyData.eqv]; exact toPs_eqv_refl xs
  | .lst xs => by rw [toP, PyData.eqv]; exact toPs_eqv_refl xs
  | .scr xs => by rw [toP, PyData.eqv]; exact toPs_eqv_refl xs
  | .dct _ => by simp [toP, PyData.eqv]
  | .rng _ _ => by simp [toP, PyData.eqv]
theorem toPs_eqv_refl : ∀ xs : List D, PyData.eqvAll (toPs xs) (toPs xs) = true
  | [] => by simp [toPs, PyData.eqvAll]
  | x :: xs => by rw [toPs, PyData.eqvAll, toP_eqv_refl x, toPs_eqv_refl xs]; rfl
end
theorem eqO_self {d : D} (h : lay 50 d = true) (hs : scalD d d = false) : eqO d d = some true := by
  unfold eqO
  rw [hs, if_neg (by simp), h, if_pos (by rfl)]
  unfold eqD
  rw [toP_eqv_refl]
theorem toPs_len : ∀ xs : List D, (toPs xs).length = xs.length
  | [] => rfl
  | x :: xs => by rw [toPs, List.length_cons, List.length_cons, toPs_len xs]
theorem eqO_nil {xs : List D} (h : lay 50 (.lst xs) = true) : eqO (.lst xs) (.lst []) = some xs.isEmpty := by
  unfold eqO
  rw [show scalD (.lst xs) (.lst []) = false from rfl, if_neg (by simp), h, if_pos (by rfl)]
  unfold eqD
  cases xs with
  | nil => rfl
  | cons x xs => rw [toP, toP, toPs, PyData.eqv, toPs, PyData.eqvAll]; rfl
theorem lay_int (n : Nat) (i : Int) : lay (n + 1) (.int i) = true := rfl
theorem lay_lst {n : Nat} {xs : List D} (h : ∀ x ∈ xs, lay n x = true) : lay (n + 1) (.lst xs) = true := by
  rw [lay]; exact List.all_eq_true.mpr h
theorem lay_tup {n : Nat} {xs : List D} (h : ∀ x ∈ xs, lay n x = true) : lay (n + 1) (.tup xs) = true := by
  rw [lay]; exact List.all_eq_true.mpr h
theorem lay_ints (n : Nat) (xs : List Int) : lay (n + 2) (.lst (xs.map .int)) = true := lay_lst fun x hx => by
  obtain ⟨i, _, rfl⟩ := List.mem_map.mp hx; rfl
theorem lay_intsT (n : Nat) (xs : List Int) : lay (n + 2) (.tup (xs.map .int)) = true := lay_tup fun x hx => by
  obtain ⟨i, _, rfl⟩ := List.mem_map.mp hx; rfl
end DI
end

section
set_option Elab.async false
set_option linter.all false
set_option maxRecDepth 100000
/-! Part 26: a def's statements one by one. -/
namespace DI
open PySem L2
theorem fin_rt {np : Nat} {F : CF} {b : ISs} {env e : Envi} {x y : Vl} {sl : List Sl} (h1 : evSs F b env = .ok (.rt x, e)) (h2 : outV e x = .ok y) (h3 : (e.take np).map keepB = sl) : finD np (evSs F b env) = .ok (y, sl) := by
  unfold finD
  simp only [h1, Res.ok_bind, h2, h3]
theorem fin_nx {np : Nat} {F : CF} {b : ISs} {env e : Envi} {sl : List Sl} (h1 : evSs F b env = .ok (.nx, e)) (h3 : (e.take np).map keepB = sl) : finD np (evSs F b env) = .ok (.va .non, sl) := by
  unfold finD
  simp only [h1, Res.ok_bind, h3]
theorem st_nx {F : CF} {env e1 : Envi} {s : IS} {ss : ISs} {res : Fl × Envi} (h1 : evS F s env = .ok (.nx, e1)) (h2 : evSs F ss e1 = .ok res) : evSs F (.cons s ss) env = .ok res := jq_cons h1 h2
theorem st_rt {F : CF} {env e1 : Envi} {s : IS} {ss : ISs} {x : Vl} (h1 : evS F s env = .ok (.rt x, e1)) : evSs F (.cons s ss) env = .ok (.rt x, e1) := jq_ret h1
theorem if_t {F : CF} {env e1 : Envi} {c : IT} {a b : ISs} {res : Fl × Envi} (h1 : evT F c env = .ok (true, e1)) (h2 : evSs F a e1 = .ok res) : evS F (.ifs c a b) env = .ok res := js_ifs h1 (by rw [if_pos rfl]; exact h2)
theorem if_f {F : CF} {env e1 : Envi} {c : IT} {a b : ISs} {res : Fl × Envi} (h1 : evT F c env = .ok (false, e1)) (h2 : evSs F b e1 = .ok res) : evS F (.ifs c a b) env = .ok res := js_ifs h1 (by rw [if_neg (by simp)]; exact h2)
/-- by what holds of the beginnings of a list -/
theorem pre_ind {α : Type} {P : List α → Prop} {xs : List α} (h0 : P []) (hs : ∀ pre x post, xs = pre ++ x :: post → P pre → P (pre ++ [x])) : P xs := by
  have go : ∀ (post pre : List α), xs = pre ++ post → P pre → P xs := by
    intro post
    induction post with
    | nil => intro pre h hp; rw [h, List.append_nil]; exact hp
    | cons x post ih => intro pre h hp; exact ih (pre ++ [x]) (by rw [h]; simp) (hs pre x post h hp)
  exact go xs [] rfl h0
theorem pre_all {α : Type} {P : List α → Prop} {xs : List α} (h0 : P []) (hs : ∀ pre x post, xs = pre ++ x :: post → P pre → P (pre ++ [x])) : ∀ pre post, xs = pre ++ post → P pre := by
  intro pre post h
  exact pre_ind h0 (fun a x b e hp => hs a x (b ++ post) (by rw [h, e]; simp) hp)
end DI
end

section
set_option Elab.async false
set_option linter.all false
set_option maxRecDepth 100000
/-! k77: the plain law, part 1: rows, codes, bounds. -/
namespace DI.K77
open PySem L2
abbrev tPut : D := .str [112, 117, 116]
abbrev tByes : D := .str [98, 121, 101, 115]
abbrev tGather : D := .str [103, 97, 116, 104, 101, 114]
abbrev tAdd : D := .str [97, 100, 100]
abbrev tTimes : D := .str [116, 105, 109, 101, 115]
abbrev tPart : D := .str [112, 97, 114, 116]
inductive Row where
  | put (c n : Int) | byes (c n : Int) | gather (c s w0 w1 w2 near : Int) | add (c s t : Int) | times (c s n : Int) | part (s : Int)
def Row.enc : Row → D
  | .put c n => .tup [tPut, .int c, .int n]
  | .byes c n => .tup [tByes, .int c, .int n]
  | .gather c s w0 w1 w2 near => .tup [tGather, .int c, .int s, .tup [.int w0, .int w1, .int w2], .int near]
  | .add c s t => .tup [tAdd, .int c, .int s, .int t]
  | .times c s n => .tup [tTimes, .int c, .int s, .int n]
  | .part s => .tup [tPart, .int s]
theorem is_integer_i (n : Nat) (a : Int) : evD tab (n + 1) 0 [.va (.int a)] = .ok (.va (.bl true), [.un]) := rfl
theorem is_within_i (n : Nat) (a b c : Int) (h : b ≤ a ∧ a ≤ c) : evD tab (n + 2) 1 [.va (.int a), .va (.int b), .va (.int c)] = .ok (.va (.bl true), [.un, .un, .un]) := by
  rw [opn (T := tab) (f := 1) _ 3 0 b_is_within rfl rfl]; unfold b_is_within; simp only [List.replicate, List.cons_append, List.nil_append, List.singleton_append]; simp [finD, evSs, evS.eq_1, evS.eq_2, evS.eq_3, evS.eq_4, evS.eq_5, evS.eq_6, evS.eq_7, evS.eq_10, evS.eq_11, evS.eq_12, evS.eq_13, evE.eq_1, evE.eq_2, evE.eq_3, evE.eq_4, evE.eq_5, evE.eq_6, evE.eq_7, evE.eq_8, evE.eq_9, evE.eq_10, evE.eq_11, evE.eq_12, evE.eq_13, evE.eq_14, evE.eq_15, evE.eq_16, evE.eq_17, evE.eq_18, evE.eq_19, evE.eq_20, evE.eq_21, evE.eq_22, evE.eq_23, evE.eq_24, evE.eq_25, evE.eq_26, evE.eq_27, evT, evVs, evNs, evO, evI, evC', asgT, asgTs, parS, sto, bor, look, looks, dat, dats, fz, lend, vws, nodupB, back, slotOf, outV, keepB, binD, biD, cmpD, truD, keyD, eqO_str, eqO_int, seqD, itD, srcD, tyD, sz, slc_1, isi_int, isi_ib, isi_str, isi_tup, ix_0, ix_1, ix_2, ix_3, ix_4, ix_5, chg, putS, meTy.eq_1, mutM, meS, meD, Sl.bor.eq_1, Sl.bor.eq_2, Sl.bor.eq_3, Option.bind, List.getElem?_cons_zero, List.getElem?_cons_succ, List.set_cons_zero, List.set_cons_succ, fits_lt, is_integer_i, h]
theorem is_count_i (n : Nat) (a : Int) (h : 0 ≤ a) : evD tab (n + 2) 2 [.va (.int a)] = .ok (.va (.bl true), [.un]) := by
  rw [opn (T := tab) (f := 2) _ 1 0 b_is_count rfl rfl]; unfold b_is_count; simp only [List.replicate, List.cons_append, List.nil_append, List.singleton_append]; simp [finD, evSs, evS.eq_1, evS.eq_2, evS.eq_3, evS.eq_4, evS.eq_5, evS.eq_6, evS.eq_7, evS.eq_10, evS.eq_11, evS.eq_12, evS.eq_13, evE.eq_1, evE.eq_2, evE.eq_3, evE.eq_4, evE.eq_5, evE.eq_6, evE.eq_7, evE.eq_8, evE.eq_9, evE.eq_10, evE.eq_11, evE.eq_12, evE.eq_13, evE.eq_14, evE.eq_15, evE.eq_16, evE.eq_17, evE.eq_18, evE.eq_19, evE.eq_20, evE.eq_21, evE.eq_22, evE.eq_23, evE.eq_24, evE.eq_25, evE.eq_26, evE.eq_27, evT, evVs, evNs, evO, evI, evC', asgT, asgTs, parS, sto, bor, look, looks, dat, dats, fz, lend, vws, nodupB, back, slotOf, outV, keepB, binD, biD, cmpD, truD, keyD, eqO_str, eqO_int, seqD, itD, srcD, tyD, sz, slc_1, isi_int, isi_ib, isi_str, isi_tup, ix_0, ix_1, ix_2, ix_3, ix_4, ix_5, chg, putS, meTy.eq_1, mutM, meS, meD, Sl.bor.eq_1, Sl.bor.eq_2, Sl.bor.eq_3, Option.bind, List.getElem?_cons_zero, List.getElem?_cons_succ, List.set_cons_zero, List.set_cons_succ, fits_lt, is_integer_i, h]
theorem is_tuple_i (n : Nat) (xs : List D) (k : Int) (h : (xs.length : Int) = k) : evD tab (n + 1) 3 [.va (.tup xs), .va (.int k)] = .ok (.va (.bl true), [.un, .un]) := by
  rw [opn (T := tab) (f := 3) _ 2 0 b_is_tuple rfl rfl]; unfold b_is_tuple; simp only [List.replicate, List.cons_append, List.nil_append, List.singleton_append]; simp [finD, evSs, evS.eq_1, evS.eq_2, evS.eq_3, evS.eq_4, evS.eq_5, evS.eq_6, evS.eq_7, evS.eq_10, evS.eq_11, evS.eq_12, evS.eq_13, evE.eq_1, evE.eq_2, evE.eq_3, evE.eq_4, evE.eq_5, evE.eq_6, evE.eq_7, evE.eq_8, evE.eq_9, evE.eq_10, evE.eq_11, evE.eq_12, evE.eq_13, evE.eq_14, evE.eq_15, evE.eq_16, evE.eq_17, evE.eq_18, evE.eq_19, evE.eq_20, evE.eq_21, evE.eq_22, evE.eq_23, evE.eq_24, evE.eq_25, evE.eq_26, evE.eq_27, evT, evVs, evNs, evO, evI, evC', asgT, asgTs, parS, sto, bor, look, looks, dat, dats, fz, lend, vws, nodupB, back, slotOf, outV, keepB, binD, biD, cmpD, truD, keyD, eqO_str, eqO_int, seqD, itD, srcD, tyD, sz, slc_1, isi_int, isi_ib, isi_str, isi_tup, ix_0, ix_1, ix_2, ix_3, ix_4, ix_5, chg, putS, meTy.eq_1, mutM, meS, meD, Sl.bor.eq_1, Sl.bor.eq_2, Sl.bor.eq_3, Option.bind, List.getElem?_cons_zero, List.getElem?_cons_succ, List.set_cons_zero, List.set_cons_succ, fits_lt, h]
theorem part_c (n : Nat) (m a : Int) (h : 0 ≤ a ∧ a < m) : evD tab (n + 3) 4 [.va (.str [99]), .va (.int m), .va (.int a)] = .ok (.va (.bl true), [.un, .un, .un]) := by
  rw [opn (T := tab) (f := 4) _ 3 1 b_is_part_value rfl rfl]; unfold b_is_part_value; simp only [List.replicate, List.cons_append, List.nil_append, List.singleton_append]; simp [finD, evSs, evS.eq_1, evS.eq_2, evS.eq_3, evS.eq_4, evS.eq_5, evS.eq_6, evS.eq_7, evS.eq_10, evS.eq_11, evS.eq_12, evS.eq_13, evE.eq_1, evE.eq_2, evE.eq_3, evE.eq_4, evE.eq_5, evE.eq_6, evE.eq_7, evE.eq_8, evE.eq_9, evE.eq_10, evE.eq_11, evE.eq_12, evE.eq_13, evE.eq_14, evE.eq_15, evE.eq_16, evE.eq_17, evE.eq_18, evE.eq_19, evE.eq_20, evE.eq_21, evE.eq_22, evE.eq_23, evE.eq_24, evE.eq_25, evE.eq_26, evE.eq_27, evT, evVs, evNs, evO, evI, evC', asgT, asgTs, parS, sto, bor, look, looks, dat, dats, fz, lend, vws, nodupB, back, slotOf, outV, keepB, binD, biD, cmpD, truD, keyD, eqO_str, eqO_int, seqD, itD, srcD, tyD, sz, slc_1, isi_int, isi_ib, isi_str, isi_tup, ix_0, ix_1, ix_2, ix_3, ix_4, ix_5, chg, putS, meTy.eq_1, mutM, meS, meD, Sl.bor.eq_1, Sl.bor.eq_2, Sl.bor.eq_3, Option.bind, List.getElem?_cons_zero, List.getElem?_cons_succ, List.set_cons_zero, List.set_cons_succ, fits_lt, is_within_i _ a 0 (m - 1) (by omega)]
theorem part_n (n : Nat) (m a : Int) (h : 0 ≤ a ∧ a ≤ 1000) : evD tab (n + 3) 4 [.va (.str [110]), .va (.int m), .va (.int a)] = .ok (.va (.bl true), [.un, .un, .un]) := by
  rw [opn (T := tab) (f := 4) _ 3 1 b_is_part_value rfl rfl]; unfold b_is_part_value; simp only [List.replicate, List.cons_append, List.nil_append, List.singleton_append]; simp [finD, evSs, evS.eq_1, evS.eq_2, evS.eq_3, evS.eq_4, evS.eq_5, evS.eq_6, evS.eq_7, evS.eq_10, evS.eq_11, evS.eq_12, evS.eq_13, evE.eq_1, evE.eq_2, evE.eq_3, evE.eq_4, evE.eq_5, evE.eq_6, evE.eq_7, evE.eq_8, evE.eq_9, evE.eq_10, evE.eq_11, evE.eq_12, evE.eq_13, evE.eq_14, evE.eq_15, evE.eq_16, evE.eq_17, evE.eq_18, evE.eq_19, evE.eq_20, evE.eq_21, evE.eq_22, evE.eq_23, evE.eq_24, evE.eq_25, evE.eq_26, evE.eq_27, evT, evVs, evNs, evO, evI, evC', asgT, asgTs, parS, sto, bor, look, looks, dat, dats, fz, lend, vws, nodupB, back, slotOf, outV, keepB, binD, biD, cmpD, truD, keyD, eqO_str, eqO_int, seqD, itD, srcD, tyD, sz, slc_1, isi_int, isi_ib, isi_str, isi_tup, ix_0, ix_1, ix_2, ix_3, ix_4, ix_5, chg, putS, meTy.eq_1, mutM, meS, meD, Sl.bor.eq_1, Sl.bor.eq_2, Sl.bor.eq_3, Option.bind, List.getElem?_cons_zero, List.getElem?_cons_succ, List.set_cons_zero, List.set_cons_succ, fits_lt, is_within_i _ a 0 1000 (by omega)]
theorem part_b (n : Nat) (m a : Int) (h : 0 ≤ a ∧ a ≤ 1) : evD tab (n + 3) 4 [.va (.str [98]), .va (.int m), .va (.int a)] = .ok (.va (.bl true), [.un, .un, .un]) := by
  rw [opn (T := tab) (f := 4) _ 3 1 b_is_part_value rfl rfl]; unfold b_is_part_value; simp only [List.replicate, List.cons_append, List.nil_append, List.singleton_append]; simp [finD, evSs, evS.eq_1, evS.eq_2, evS.eq_3, evS.eq_4, evS.eq_5, evS.eq_6, evS.eq_7, evS.eq_10, evS.eq_11, evS.eq_12, evS.eq_13, evE.eq_1, evE.eq_2, evE.eq_3, evE.eq_4, evE.eq_5, evE.eq_6, evE.eq_7, evE.eq_8, evE.eq_9, evE.eq_10, evE.eq_11, evE.eq_12, evE.eq_13, evE.eq_14, evE.eq_15, evE.eq_16, evE.eq_17, evE.eq_18, evE.eq_19, evE.eq_20, evE.eq_21, evE.eq_22, evE.eq_23, evE.eq_24, evE.eq_25, evE.eq_26, evE.eq_27, evT, evVs, evNs, evO, evI, evC', asgT, asgTs, parS, sto, bor, look, looks, dat, dats, fz, lend, vws, nodupB, back, slotOf, outV, keepB, binD, biD, cmpD, truD, keyD, eqO_str, eqO_int, seqD, itD, srcD, tyD, sz, slc_1, isi_int, isi_ib, isi_str, isi_tup, ix_0, ix_1, ix_2, ix_3, ix_4, ix_5, chg, putS, meTy.eq_1, mutM, meS, meD, Sl.bor.eq_1, Sl.bor.eq_2, Sl.bor.eq_3, Option.bind, List.getElem?_cons_zero, List.getElem?_cons_succ, List.set_cons_zero, List.set_cons_succ, fits_lt, is_within_i _ a 0 1 (by omega)]
theorem part_w (n : Nat) (m a b c : Int) (ha : 0 ≤ a ∧ a ≤ 99) (hb : 0 ≤ b ∧ b ≤ 99) (hc : 0 ≤ c ∧ c ≤ 99) : evD tab (n + 3) 4 [.va (.str [119]), .va (.int m), .va (.tup [.int a, .int b, .int c])] = .ok (.va (.bl true), [.un, .un, .un]) := by
  rw [opn (T := tab) (f := 4) _ 3 1 b_is_part_value rfl rfl]; unfold b_is_part_value; simp only [List.replicate, List.cons_append, List.nil_append, List.singleton_append]; simp [finD, evSs, evS.eq_1, evS.eq_2, evS.eq_3, evS.eq_4, evS.eq_5, evS.eq_6, evS.eq_7, evS.eq_10, evS.eq_11, evS.eq_12, evS.eq_13, evE.eq_1, evE.eq_2, evE.eq_3, evE.eq_4, evE.eq_5, evE.eq_6, evE.eq_7, evE.eq_8, evE.eq_9, evE.eq_10, evE.eq_11, evE.eq_12, evE.eq_13, evE.eq_14, evE.eq_15, evE.eq_16, evE.eq_17, evE.eq_18, evE.eq_19, evE.eq_20, evE.eq_21, evE.eq_22, evE.eq_23, evE.eq_24, evE.eq_25, evE.eq_26, evE.eq_27, evT, evVs, evNs, evO, evI, evC', asgT, asgTs, parS, sto, bor, look, looks, dat, dats, fz, lend, vws, nodupB, back, slotOf, outV, keepB, binD, biD, cmpD, truD, keyD, eqO_str, eqO_int, seqD, itD, srcD, tyD, sz, slc_1, isi_int, isi_ib, isi_str, isi_tup, ix_0, ix_1, ix_2, ix_3, ix_4, ix_5, chg, putS, meTy.eq_1, mutM, meS, meD, Sl.bor.eq_1, Sl.bor.eq_2, Sl.bor.eq_3, Option.bind, List.getElem?_cons_zero, List.getElem?_cons_succ, List.set_cons_zero, List.set_cons_succ, fits_lt, is_tuple_i _ [.int a, .int b, .int c] 3 rfl, evE.eq_28, compL, plainAt, wipeE, restE, Sl.own, blsD, is_within_i _ a 0 99 ha, is_within_i _ b 0 99 hb, is_within_i _ c 0 99 hc]
def Row.okR (m : Int) : Row → Prop
  | .put c n => (0 ≤ c ∧ c < m) ∧ 0 ≤ n ∧ n ≤ 1000
  | .byes c n => (0 ≤ c ∧ c < m) ∧ 0 ≤ n ∧ n ≤ 1000
  | .gather c s w0 w1 w2 near => (0 ≤ c ∧ c < m) ∧ (0 ≤ s ∧ s < m) ∧ (0 ≤ w0 ∧ w0 ≤ 99) ∧ (0 ≤ w1 ∧ w1 ≤ 99) ∧ (0 ≤ w2 ∧ w2 ≤ 99) ∧ 0 ≤ near ∧ near ≤ 1
  | .add c s t => (0 ≤ c ∧ c < m) ∧ (0 ≤ s ∧ s < m) ∧ 0 ≤ t ∧ t < m
  | .times c s n => (0 ≤ c ∧ c < m) ∧ (0 ≤ s ∧ s < m) ∧ 0 ≤ n ∧ n ≤ 1000
  | .part s => 0 ≤ s ∧ s < m
theorem row_nil (r : Row) : eqO r.enc (.tup []) = some false := by cases r <;> rfl
theorem is_row_i (n : Nat) (m : Int) (r : Row) (h : r.okR m) : evD tab (n + 4) 5 [.va (.int m), .va r.enc] = .ok (.va (.bl true), [.un, .un]) := by
  have h0 := row_nil r
  rw [opn (T := tab) (f := 5) _ 2 3 b_is_row_value rfl rfl]; unfold b_is_row_value; simp only [List.replicate, List.cons_append, List.nil_append, List.singleton_append]
  cases r with
  | put c k => obtain ⟨h1, h2⟩ := h; simp only [Row.enc] at h0 ⊢; simp [finD, evSs, evS.eq_1, evS.eq_2, evS.eq_3, evS.eq_4, evS.eq_5, evS.eq_6, evS.eq_7, evS.eq_10, evS.eq_11, evS.eq_12, evS.eq_13, evE.eq_1, evE.eq_2, evE.eq_3, evE.eq_4, evE.eq_5, evE.eq_6, evE.eq_7, evE.eq_8, evE.eq_9, evE.eq_10, evE.eq_11, evE.eq_12, evE.eq_13, evE.eq_14, evE.eq_15, evE.eq_16, evE.eq_17, evE.eq_18, evE.eq_19, evE.eq_20, evE.eq_21, evE.eq_22, evE.eq_23, evE.eq_24, evE.eq_25, evE.eq_26, evE.eq_27, evT, evVs, evNs, evO, evI, evC', asgT, asgTs, parS, sto, bor, look, looks, dat, dats, fz, lend, vws, nodupB, back, slotOf, outV, keepB, binD, biD, cmpD, truD, keyD, eqO_str, eqO_int, seqD, itD, srcD, tyD, sz, slc_1, isi_int, isi_ib, isi_str, isi_tup, ix_0, ix_1, ix_2, ix_3, ix_4, ix_5, chg, putS, meTy.eq_1, mutM, meS, meD, Sl.bor.eq_1, Sl.bor.eq_2, Sl.bor.eq_3, Option.bind, List.getElem?_cons_zero, List.getElem?_cons_succ, List.set_cons_zero, List.set_cons_succ, fits_lt, h0, kget, zipL, evE.eq_28, compL, plainAt, wipeE, restE, Sl.own, blsD, part_c _ _ _ h1, part_n _ _ _ h2]
  | byes c k => obtain ⟨h1, h2⟩ := h; simp only [Row.enc] at h0 ⊢; simp [finD, evSs, evS.eq_1, evS.eq_2, evS.eq_3, evS.eq_4, evS.eq_5, evS.eq_6, evS.eq_7, evS.eq_10, evS.eq_11, evS.eq_12, evS.eq_13, evE.eq_1, evE.eq_2, evE.eq_3, evE.eq_4, evE.eq_5, evE.eq_6, evE.eq_7, evE.eq_8, evE.eq_9, evE.eq_10, evE.eq_11, evE.eq_12, evE.eq_13, evE.eq_14, evE.eq_15, evE.eq_16, evE.eq_17, evE.eq_18, evE.eq_19, evE.eq_20, evE.eq_21, evE.eq_22, evE.eq_23, evE.eq_24, evE.eq_25, evE.eq_26, evE.eq_27, evT, evVs, evNs, evO, evI, evC', asgT, asgTs, parS, sto, bor, look, looks, dat, dats, fz, lend, vws, nodupB, back, slotOf, outV, keepB, binD, biD, cmpD, truD, keyD, eqO_str, eqO_int, seqD, itD, srcD, tyD, sz, slc_1, isi_int, isi_ib, isi_str, isi_tup, ix_0, ix_1, ix_2, ix_3, ix_4, ix_5, chg, putS, meTy.eq_1, mutM, meS, meD, Sl.bor.eq_1, Sl.bor.eq_2, Sl.bor.eq_3, Option.bind, List.getElem?_cons_zero, List.getElem?_cons_succ, List.set_cons_zero, List.set_cons_succ, fits_lt, h0, kget, zipL, evE.eq_28, compL, plainAt, wipeE, restE, Sl.own, blsD, part_c _ _ _ h1, part_n _ _ _ h2]
  | gather c s w0 w1 w2 near => obtain ⟨h1, h2, h3, h4, h5, h6⟩ := h; simp only [Row.enc] at h0 ⊢; simp [finD, evSs, evS.eq_1, evS.eq_2, evS.eq_3, evS.eq_4, evS.eq_5, evS.eq_6, evS.eq_7, evS.eq_10, evS.eq_11, evS.eq_12, evS.eq_13, evE.eq_1, evE.eq_2, evE.eq_3, evE.eq_4, evE.eq_5, evE.eq_6, evE.eq_7, evE.eq_8, evE.eq_9, evE.eq_10, evE.eq_11, evE.eq_12, evE.eq_13, evE.eq_14, evE.eq_15, evE.eq_16, evE.eq_17, evE.eq_18, evE.eq_19, evE.eq_20, evE.eq_21, evE.eq_22, evE.eq_23, evE.eq_24, evE.eq_25, evE.eq_26, evE.eq_27, evT, evVs, evNs, evO, evI, evC', asgT, asgTs, parS, sto, bor, look, looks, dat, dats, fz, lend, vws, nodupB, back, slotOf, outV, keepB, binD, biD, cmpD, truD, keyD, eqO_str, eqO_int, seqD, itD, srcD, tyD, sz, slc_1, isi_int, isi_ib, isi_str, isi_tup, ix_0, ix_1, ix_2, ix_3, ix_4, ix_5, chg, putS, meTy.eq_1, mutM, meS, meD, Sl.bor.eq_1, Sl.bor.eq_2, Sl.bor.eq_3, Option.bind, List.getElem?_cons_zero, List.getElem?_cons_succ, List.set_cons_zero, List.set_cons_succ, fits_lt, h0, kget, zipL, evE.eq_28, compL, plainAt, wipeE, restE, Sl.own, blsD, part_c _ _ _ h1, part_c _ _ _ h2, part_w _ _ _ _ _ h3 h4 h5, part_b _ _ _ h6]
  | add c s t => obtain ⟨h1, h2, h3⟩ := h; simp only [Row.enc] at h0 ⊢; simp [finD, evSs, evS.eq_1, evS.eq_2, evS.eq_3, evS.eq_4, evS.eq_5, evS.eq_6, evS.eq_7, evS.eq_10, evS.eq_11, evS.eq_12, evS.eq_13, evE.eq_1, evE.eq_2, evE.eq_3, evE.eq_4, evE.eq_5, evE.eq_6, evE.eq_7, evE.eq_8, evE.eq_9, evE.eq_10, evE.eq_11, evE.eq_12, evE.eq_13, evE.eq_14, evE.eq_15, evE.eq_16, evE.eq_17, evE.eq_18, evE.eq_19, evE.eq_20, evE.eq_21, evE.eq_22, evE.eq_23, evE.eq_24, evE.eq_25, evE.eq_26, evE.eq_27, evT, evVs, evNs, evO, evI, evC', asgT, asgTs, parS, sto, bor, look, looks, dat, dats, fz, lend, vws, nodupB, back, slotOf, outV, keepB, binD, biD, cmpD, truD, keyD, eqO_str, eqO_int, seqD, itD, srcD, tyD, sz, slc_1, isi_int, isi_ib, isi_str, isi_tup, ix_0, ix_1, ix_2, ix_3, ix_4, ix_5, chg, putS, meTy.eq_1, mutM, meS, meD, Sl.bor.eq_1, Sl.bor.eq_2, Sl.bor.eq_3, Option.bind, List.getElem?_cons_zero, List.getElem?_cons_succ, List.set_cons_zero, List.set_cons_succ, fits_lt, h0, kget, zipL, evE.eq_28, compL, plainAt, wipeE, restE, Sl.own, blsD, part_c _ _ _ h1, part_c _ _ _ h2, part_c _ _ _ h3]
  | times c s k => obtain ⟨h1, h2, h3⟩ := h; simp only [Row.enc] at h0 ⊢; simp [finD, evSs, evS.eq_1, evS.eq_2, evS.eq_3, evS.eq_4, evS.eq_5, evS.eq_6, evS.eq_7, evS.eq_10, evS.eq_11, evS.eq_12, evS.eq_13, evE.eq_1, evE.eq_2, evE.eq_3, evE.eq_4, evE.eq_5, evE.eq_6, evE.eq_7, evE.eq_8, evE.eq_9, evE.eq_10, evE.eq_11, evE.eq_12, evE.eq_13, evE.eq_14, evE.eq_15, evE.eq_16, evE.eq_17, evE.eq_18, evE.eq_19, evE.eq_20, evE.eq_21, evE.eq_22, evE.eq_23, evE.eq_24, evE.eq_25, evE.eq_26, evE.eq_27, evT, evVs, evNs, evO, evI, evC', asgT, asgTs, parS, sto, bor, look, looks, dat, dats, fz, lend, vws, nodupB, back, slotOf, outV, keepB, binD, biD, cmpD, truD, keyD, eqO_str, eqO_int, seqD, itD, srcD, tyD, sz, slc_1, isi_int, isi_ib, isi_str, isi_tup, ix_0, ix_1, ix_2, ix_3, ix_4, ix_5, chg, putS, meTy.eq_1, mutM, meS, meD, Sl.bor.eq_1, Sl.bor.eq_2, Sl.bor.eq_3, Option.bind, List.getElem?_cons_zero, List.getElem?_cons_succ, List.set_cons_zero, List.set_cons_succ, fits_lt, h0, kget, zipL, evE.eq_28, compL, plainAt, wipeE, restE, Sl.own, blsD, part_c _ _ _ h1, part_c _ _ _ h2, part_n _ _ _ h3]
  | part s => simp only [Row.enc] at h0 ⊢; simp [finD, evSs, evS.eq_1, evS.eq_2, evS.eq_3, evS.eq_4, evS.eq_5, evS.eq_6, evS.eq_7, evS.eq_10, evS.eq_11, evS.eq_12, evS.eq_13, evE.eq_1, evE.eq_2, evE.eq_3, evE.eq_4, evE.eq_5, evE.eq_6, evE.eq_7, evE.eq_8, evE.eq_9, evE.eq_10, evE.eq_11, evE.eq_12, evE.eq_13, evE.eq_14, evE.eq_15, evE.eq_16, evE.eq_17, evE.eq_18, evE.eq_19, evE.eq_20, evE.eq_21, evE.eq_22, evE.eq_23, evE.eq_24, evE.eq_25, evE.eq_26, evE.eq_27, evT, evVs, evNs, evO, evI, evC', asgT, asgTs, parS, sto, bor, look, looks, dat, dats, fz, lend, vws, nodupB, back, slotOf, outV, keepB, binD, biD, cmpD, truD, keyD, eqO_str, eqO_int, seqD, itD, srcD, tyD, sz, slc_1, isi_int, isi_ib, isi_str, isi_tup, ix_0, ix_1, ix_2, ix_3, ix_4, ix_5, chg, putS, meTy.eq_1, mutM, meS, meD, Sl.bor.eq_1, Sl.bor.eq_2, Sl.bor.eq_3, Option.bind, List.getElem?_cons_zero, List.getElem?_cons_succ, List.set_cons_zero, List.set_cons_succ, fits_lt, h0, kget, zipL, evE.eq_28, compL, plainAt, wipeE, restE, Sl.own, blsD, part_c _ _ _ h]
end DI.K77
end

section
set_option Elab.async false
set_option linter.all false
set_option maxRecDepth 100000
/-! k77: the plain law, part 2: a code's flaws. -/
namespace DI.K77
open PySem L2
def oD : Option Int → D
  | some i => .int i
  | none => .non
def Row.reads : Row → List Int
  | .put _ _ => []
  | .byes _ _ => []
  | .gather _ s _ _ _ _ => [s]
  | .add _ s t => [s, t]
  | .times _ s _ => [s]
  | .part s => [s]
def Row.to : Row → Option Int
  | .put c _ => some c
  | .byes c _ => some c
  | .gather c _ _ _ _ _ => some c
  | .add c _ _ => some c
  | .times c _ _ => some c
  | .part _ => none
theorem columns_read_i (n : Nat) (r : Row) : evD tab (n + 1) 6 [.va r.enc] = .ok (.ol (r.reads.map .int), [.un]) := by
  rw [opn (T := tab) (f := 6) _ 1 1 b_columns_read rfl rfl]; unfold b_columns_read; simp only [List.replicate, List.cons_append, List.nil_append, List.singleton_append]
  cases r <;> simp only [Row.enc] <;> simp [finD, evSs, evS.eq_1, evS.eq_2, evS.eq_3, evS.eq_4, evS.eq_5, evS.eq_6, evS.eq_7, evS.eq_10, evS.eq_11, evS.eq_12, evS.eq_13, evE.eq_1, evE.eq_2, evE.eq_3, evE.eq_4, evE.eq_5, evE.eq_6, evE.eq_7, evE.eq_8, evE.eq_9, evE.eq_10, evE.eq_11, evE.eq_12, evE.eq_13, evE.eq_14, evE.eq_15, evE.eq_16, evE.eq_17, evE.eq_18, evE.eq_19, evE.eq_20, evE.eq_21, evE.eq_22, evE.eq_23, evE.eq_24, evE.eq_25, evE.eq_26, evE.eq_27, evT, evVs, evNs, evO, evI, evC', asgT, asgTs, parS, sto, bor, look, looks, dat, dats, fz, lend, vws, nodupB, back, slotOf, outV, keepB, binD, biD, cmpD, truD, keyD, eqO_str, eqO_int, seqD, itD, srcD, tyD, sz, slc_1, isi_int, isi_ib, isi_str, isi_tup, ix_0, ix_1, ix_2, ix_3, ix_4, ix_5, chg, putS, meTy.eq_1, mutM, meS, meD, Sl.bor.eq_1, Sl.bor.eq_2, Sl.bor.eq_3, Option.bind, List.getElem?_cons_zero, List.getElem?_cons_succ, List.set_cons_zero, List.set_cons_succ, fits_lt, kget, evE.eq_28, compL, plainAt, wipeE, restE, Sl.own, Row.reads]
theorem written_by_i (n : Nat) (r : Row) : evD tab (n + 1) 7 [.va r.enc] = .ok (.va (oD r.to), [.un]) := by
  rw [opn (T := tab) (f := 7) _ 1 0 b_written_by rfl rfl]; unfold b_written_by; simp only [List.replicate, List.cons_append, List.nil_append, List.singleton_append]
  cases r <;> simp only [Row.enc] <;> simp [finD, evSs, evS.eq_1, evS.eq_2, evS.eq_3, evS.eq_4, evS.eq_5, evS.eq_6, evS.eq_7, evS.eq_10, evS.eq_11, evS.eq_12, evS.eq_13, evE.eq_1, evE.eq_2, evE.eq_3, evE.eq_4, evE.eq_5, evE.eq_6, evE.eq_7, evE.eq_8, evE.eq_9, evE.eq_10, evE.eq_11, evE.eq_12, evE.eq_13, evE.eq_14, evE.eq_15, evE.eq_16, evE.eq_17, evE.eq_18, evE.eq_19, evE.eq_20, evE.eq_21, evE.eq_22, evE.eq_23, evE.eq_24, evE.eq_25, evE.eq_26, evE.eq_27, evT, evVs, evNs, evO, evI, evC', asgT, asgTs, parS, sto, bor, look, looks, dat, dats, fz, lend, vws, nodupB, back, slotOf, outV, keepB, binD, biD, cmpD, truD, keyD, eqO_str, eqO_int, seqD, itD, srcD, tyD, sz, slc_1, isi_int, isi_ib, isi_str, isi_tup, ix_0, ix_1, ix_2, ix_3, ix_4, ix_5, chg, putS, meTy.eq_1, mutM, meS, meD, Sl.bor.eq_1, Sl.bor.eq_2, Sl.bor.eq_3, Option.bind, List.getElem?_cons_zero, List.getElem?_cons_succ, List.set_cons_zero, List.set_cons_succ, fits_lt, Row.to, oD]
def max3 (a b c : Int) : Int := if (if c > b then c else b) > a then (if c > b then c else b) else a
theorem most3 (a b c : Int) : most (fun a b => decide (b < a)) [a, b, c] = some (max3 a b c) := by
  unfold most most most most max3
  by_cases h : c > b
  · simp [h]
    by_cases q : c > a <;> simp [q]
  · simp [h]
    by_cases q : b > a <;> simp [q]
theorem max3_le {a b c m : Int} (ha : 0 ≤ a ∧ a ≤ m) (hb : 0 ≤ b ∧ b ≤ m) (hc : 0 ≤ c ∧ c ≤ m) : 0 ≤ max3 a b c ∧ max3 a b c ≤ m := by
  unfold max3; split <;> split <;> omega
def Row.bound (bd : Int → Int) : Row → Int
  | .put _ n => n
  | .byes _ n => 300 * n
  | .gather _ s w0 w1 w2 _ => 300 * max3 w0 w1 w2 * bd s
  | .add _ s t => bd s + bd t
  | .times _ s n => bd s * n
  | .part _ => 0
abbrev gI (kvs : List (Key × D)) (c b : Int) : Prop := kget kvs (.inl c) = some (.int b)
theorem bound_of_i (n : Nat) (m : Int) (r : Row) (bd : Int → Int) (kvs : List (Key × D)) (h : r.okR m) (hb : ∀ s ∈ r.reads, gI kvs s (bd s)) (hp : ∀ s, r ≠ .part s) : evD tab (n + 1) 8 [.va r.enc, .di true kvs] = .ok (.va (.int (r.bound bd)), [.un, .di true kvs]) := by
  rw [opn (T := tab) (f := 8) _ 2 0 b_bound_of rfl rfl]; unfold b_bound_of; simp only [List.replicate, List.cons_append, List.nil_append, List.singleton_append]
  cases r with
  | put c k => simp only [Row.enc]; simp [finD, evSs, evS.eq_1, evS.eq_2, evS.eq_3, evS.eq_4, evS.eq_5, evS.eq_6, evS.eq_7, evS.eq_10, evS.eq_11, evS.eq_12, evS.eq_13, evE.eq_1, evE.eq_2, evE.eq_3, evE.eq_4, evE.eq_5, evE.eq_6, evE.eq_7, evE.eq_8, evE.eq_9, evE.eq_10, evE.eq_11, evE.eq_12, evE.eq_13, evE.eq_14, evE.eq_15, evE.eq_16, evE.eq_17, evE.eq_18, evE.eq_19, evE.eq_20, evE.eq_21, evE.eq_22, evE.eq_23, evE.eq_24, evE.eq_25, evE.eq_26, evE.eq_27, evT, evVs, evNs, evO, evI, evC', asgT, asgTs, parS, sto, bor, look, looks, dat, dats, fz, lend, vws, nodupB, back, slotOf, outV, keepB, binD, biD, cmpD, truD, keyD, eqO_str, eqO_int, seqD, itD, srcD, tyD, sz, slc_1, isi_int, isi_ib, isi_str, isi_tup, ix_0, ix_1, ix_2, ix_3, ix_4, ix_5, chg, putS, meTy.eq_1, mutM, meS, meD, Sl.bor.eq_1, Sl.bor.eq_2, Sl.bor.eq_3, Option.bind, List.getElem?_cons_zero, List.getElem?_cons_succ, List.set_cons_zero, List.set_cons_succ, fits_lt, Row.bound]
  | byes c k => simp only [Row.enc]; simp [finD, evSs, evS.eq_1, evS.eq_2, evS.eq_3, evS.eq_4, evS.eq_5, evS.eq_6, evS.eq_7, evS.eq_10, evS.eq_11, evS.eq_12, evS.eq_13, evE.eq_1, evE.eq_2, evE.eq_3, evE.eq_4, evE.eq_5, evE.eq_6, evE.eq_7, evE.eq_8, evE.eq_9, evE.eq_10, evE.eq_11, evE.eq_12, evE.eq_13, evE.eq_14, evE.eq_15, evE.eq_16, evE.eq_17, evE.eq_18, evE.eq_19, evE.eq_20, evE.eq_21, evE.eq_22, evE.eq_23, evE.eq_24, evE.eq_25, evE.eq_26, evE.eq_27, evT, evVs, evNs, evO, evI, evC', asgT, asgTs, parS, sto, bor, look, looks, dat, dats, fz, lend, vws, nodupB, back, slotOf, outV, keepB, binD, biD, cmpD, truD, keyD, eqO_str, eqO_int, seqD, itD, srcD, tyD, sz, slc_1, isi_int, isi_ib, isi_str, isi_tup, ix_0, ix_1, ix_2, ix_3, ix_4, ix_5, chg, putS, meTy.eq_1, mutM, meS, meD, Sl.bor.eq_1, Sl.bor.eq_2, Sl.bor.eq_3, Option.bind, List.getElem?_cons_zero, List.getElem?_cons_succ, List.set_cons_zero, List.set_cons_succ, fits_lt, Row.bound]
  | gather c s w0 w1 w2 near =>
    obtain ⟨h1, h2, h3, h4, h5, h6⟩ := h
    have hs : gI kvs s (bd s) := hb s (by simp [Row.reads])
    have hm := max3_le h3 h4 h5
    have h9 : -(18446744073709551616) < 300 * max3 w0 w1 w2 ∧ 300 * max3 w0 w1 w2 < 18446744073709551616 := by omega
    simp only [Row.enc]; simp [finD, evSs, evS.eq_1, evS.eq_2, evS.eq_3, evS.eq_4, evS.eq_5, evS.eq_6, evS.eq_7, evS.eq_10, evS.eq_11, evS.eq_12, evS.eq_13, evE.eq_1, evE.eq_2, evE.eq_3, evE.eq_4, evE.eq_5, evE.eq_6, evE.eq_7, evE.eq_8, evE.eq_9, evE.eq_10, evE.eq_11, evE.eq_12, evE.eq_13, evE.eq_14, evE.eq_15, evE.eq_16, evE.eq_17, evE.eq_18, evE.eq_19, evE.eq_20, evE.eq_21, evE.eq_22, evE.eq_23, evE.eq_24, evE.eq_25, evE.eq_26, evE.eq_27, evT, evVs, evNs, evO, evI, evC', asgT, asgTs, parS, sto, bor, look, looks, dat, dats, fz, lend, vws, nodupB, back, slotOf, outV, keepB, binD, biD, cmpD, truD, keyD, eqO_str, eqO_int, seqD, itD, srcD, tyD, sz, slc_1, isi_int, isi_ib, isi_str, isi_tup, ix_0, ix_1, ix_2, ix_3, ix_4, ix_5, chg, putS, meTy.eq_1, mutM, meS, meD, Sl.bor.eq_1, Sl.bor.eq_2, Sl.bor.eq_3, Option.bind, List.getElem?_cons_zero, List.getElem?_cons_succ, List.set_cons_zero, List.set_cons_succ, fits_lt, Row.bound, intsD, most3, jb_dctI hs, h9]
  | add c s t =>
    have hs : gI kvs s (bd s) := hb s (by simp [Row.reads])
    have ht : gI kvs t (bd t) := hb t (by simp [Row.reads])
    simp only [Row.enc]; simp [finD, evSs, evS.eq_1, evS.eq_2, evS.eq_3, evS.eq_4, evS.eq_5, evS.eq_6, evS.eq_7, evS.eq_10, evS.eq_11, evS.eq_12, evS.eq_13, evE.eq_1, evE.eq_2, evE.eq_3, evE.eq_4, evE.eq_5, evE.eq_6, evE.eq_7, evE.eq_8, evE.eq_9, evE.eq_10, evE.eq_11, evE.eq_12, evE.eq_13, evE.eq_14, evE.eq_15, evE.eq_16, evE.eq_17, evE.eq_18, evE.eq_19, evE.eq_20, evE.eq_21, evE.eq_22, evE.eq_23, evE.eq_24, evE.eq_25, evE.eq_26, evE.eq_27, evT, evVs, evNs, evO, evI, evC', asgT, asgTs, parS, sto, bor, look, looks, dat, dats, fz, lend, vws, nodupB, back, slotOf, outV, keepB, binD, biD, cmpD, truD, keyD, eqO_str, eqO_int, seqD, itD, srcD, tyD, sz, slc_1, isi_int, isi_ib, isi_str, isi_tup, ix_0, ix_1, ix_2, ix_3, ix_4, ix_5, chg, putS, meTy.eq_1, mutM, meS, meD, Sl.bor.eq_1, Sl.bor.eq_2, Sl.bor.eq_3, Option.bind, List.getElem?_cons_zero, List.getElem?_cons_succ, List.set_cons_zero, List.set_cons_succ, fits_lt, Row.bound, jb_dctI hs, jb_dctI ht]
  | times c s k =>
    obtain ⟨h1, h2, h3⟩ := h
    have hs : gI kvs s (bd s) := hb s (by simp [Row.reads])
    have h9 : -(18446744073709551616) < k ∧ k < 18446744073709551616 := by omega
    simp only [Row.enc]; simp [finD, evSs, evS.eq_1, evS.eq_2, evS.eq_3, evS.eq_4, evS.eq_5, evS.eq_6, evS.eq_7, evS.eq_10, evS.eq_11, evS.eq_12, evS.eq_13, evE.eq_1, evE.eq_2, evE.eq_3, evE.eq_4, evE.eq_5, evE.eq_6, evE.eq_7, evE.eq_8, evE.eq_9, evE.eq_10, evE.eq_11, evE.eq_12, evE.eq_13, evE.eq_14, evE.eq_15, evE.eq_16, evE.eq_17, evE.eq_18, evE.eq_19, evE.eq_20, evE.eq_21, evE.eq_22, evE.eq_23, evE.eq_24, evE.eq_25, evE.eq_26, evE.eq_27, evT, evVs, evNs, evO, evI, evC', asgT, asgTs, parS, sto, bor, look, looks, dat, dats, fz, lend, vws, nodupB, back, slotOf, outV, keepB, binD, biD, cmpD, truD, keyD, eqO_str, eqO_int, seqD, itD, srcD, tyD, sz, slc_1, isi_int, isi_ib, isi_str, isi_tup, ix_0, ix_1, ix_2, ix_3, ix_4, ix_5, chg, putS, meTy.eq_1, mutM, meS, meD, Sl.bor.eq_1, Sl.bor.eq_2, Sl.bor.eq_3, Option.bind, List.getElem?_cons_zero, List.getElem?_cons_succ, List.set_cons_zero, List.set_cons_succ, fits_lt, Row.bound, jb_dctI hs, h9]
  | part s => exact absurd rfl (hp s)
end DI.K77
end

section
set_option Elab.async false
set_option linter.all false
set_option maxRecDepth 100000
set_option pp.maxSteps 800
/-! k77: the plain law, part 3: a code's bounds. -/
namespace DI.K77
open PySem L2
theorem Row.shape (r : Row) : (∃ s, r = .part s) ∨ (∃ c tag rest, r.to = some c ∧ r.enc = .tup (.str tag :: .int c :: rest) ∧ ¬ tag = [112, 97, 114, 116] ∧ ∀ s, r ≠ .part s) := by
  cases r with
  | part s => exact .inl ⟨s, rfl⟩
  | put c k => exact .inr ⟨_, _, _, rfl, rfl, by decide, by simp⟩
  | byes c k => exact .inr ⟨_, _, _, rfl, rfl, by decide, by simp⟩
  | gather c s w0 w1 w2 near => exact .inr ⟨_, _, _, rfl, rfl, by decide, by simp⟩
  | add c s t => exact .inr ⟨_, _, _, rfl, rfl, by decide, by simp⟩
  | times c s k => exact .inr ⟨_, _, _, rfl, rfl, by decide, by simp⟩
def bo (bd : Int → Int) (r : Row) : Option Int := match r.to with
  | some _ => some (r.bound bd)
  | none => none
def stepB (bd : Int → Int) (r : Row) : Int → Int := match r.to with
  | some c => fun x => if x = c then r.bound bd else bd x
  | none => bd
def boundsG : (Int → Int) → List Row → List (Option Int)
  | _, [] => []
  | bd, r :: rs => bo bd r :: boundsG (stepB bd r) rs
def bdsAt (pre : List Row) : Int → Int := pre.foldl stepB fun _ => 0
abbrev boundsL (rows : List Row) : List (Option Int) := boundsG (fun _ => 0) rows
theorem boundsG_snoc (r : Row) : ∀ (bd : Int → Int) (pre : List Row), boundsG bd (pre ++ [r]) = boundsG bd pre ++ [bo (pre.foldl stepB bd) r]
  | _, [] => rfl
  | bd, x :: pre => by rw [List.cons_append, boundsG, boundsG, boundsG_snoc r _ pre]; rfl
theorem boundsG_len : ∀ (bd : Int → Int) (pre : List Row), (boundsG bd pre).length = pre.length
  | _, [] => rfl
  | bd, x :: pre => by rw [boundsG, List.length_cons, List.length_cons, boundsG_len]
theorem bdsAt_snoc (pre : List Row) (r : Row) : bdsAt (pre ++ [r]) = stepB (bdsAt pre) r := by
  unfold bdsAt; rw [List.foldl_append]; rfl
/-- what is read was written before -/
def wbr (rows : List Row) : Prop := ∀ pre x post, rows = pre ++ x :: post → ∀ s ∈ x.reads, some s ∈ pre.map Row.to
abbrev rowsD (rows : List Row) : D := .tup (rows.map Row.enc)
theorem ix_last (xs : List D) (d : D) (h : xs.length < 1000000) : idxD (.lst (xs ++ [d])) (.int (-1)) = some d := by
  show (ixN _ _).bind _ = _
  have : ixN (xs ++ [d]).length (-1) = some xs.length := by
    unfold ixN
    rw [if_neg (by omega)]
    simp
    omega
  rw [this]
  simp
structure okRows (m : Int) (rows : List Row) : Prop where
  len : rows.length ≤ 60
  row : ∀ r ∈ rows, r.okR m
  wb : wbr rows
theorem bounds_by_i (n : Nat) (m : Int) (rows : List Row) (h : okRows m rows) : evD tab (n + 2) 9 [.va (rowsD rows)] = .ok (.ol ((boundsL rows).map oD), [.un]) := by
  rw [opn (T := tab) (f := 9) _ 1 3 b_bounds_by rfl rfl]; unfold b_bounds_by; simp only [List.replicate, List.cons_append, List.nil_append, List.singleton_append]
  obtain ⟨env, h1, h2⟩ := for_ev (F := evD tab (n + 1)) (t := .nm 3) (it := .seq (.var 0)) (b := (.cons (.expr (.me .append (.var 1) (.cons (.ife (.e (.cmp .NotEq (.idx (.var 3) (.lit (.int 0))) (.glo "PART" (.str [112, 97, 114, 116])))) (.call 8 (.cons (.var 3) (.cons (.var 2) .nil))) (.lit .non)) .nil))) (.cons (.ifs (.e (.cmp .NotEq (.idx (.var 3) (.lit (.int 0))) (.glo "PART" (.str [112, 97, 114, 116])))) (.cons (.asg (.sub (.var 2) (.idx (.var 3) (.lit (.int 1)))) (.idx (.var 1) (.neg (.lit (.int 1))))) .nil) .nil) .nil))) (env := [.va (rowsD rows), .li false [], .di false [], .un]) (fun _ r => r.enc)
    (fun pre env => ∃ kvs s3, env = [.va (rowsD rows), .li false ((boundsL pre).map oD), .di false kvs, s3] ∧ s3.bor = false ∧ kvs.length ≤ pre.length ∧ ∀ c, some c ∈ pre.map Row.to → gI kvs c (bdsAt pre c)) (xs := rows)
    (by simp only [← idm_map]; simp [finD, evSs, evS.eq_1, evS.eq_2, evS.eq_3, evS.eq_4, evS.eq_5, evS.eq_6, evS.eq_7, evS.eq_10, evS.eq_11, evS.eq_12, evS.eq_13, evE.eq_1, evE.eq_2, evE.eq_3, evE.eq_4, evE.eq_5, evE.eq_6, evE.eq_7, evE.eq_8, evE.eq_9, evE.eq_10, evE.eq_11, evE.eq_12, evE.eq_13, evE.eq_14, evE.eq_15, evE.eq_16, evE.eq_17, evE.eq_18, evE.eq_19, evE.eq_20, evE.eq_21, evE.eq_22, evE.eq_23, evE.eq_24, evE.eq_25, evE.eq_26, evE.eq_27, evT, evVs, evNs, evO, evI, evC', asgT, asgTs, parS, sto, bor, look, looks, dat, dats, fz, lend, vws, nodupB, back, slotOf, outV, keepB, binD, biD, cmpD, truD, keyD, eqO_str, eqO_int, seqD, itD, srcD, tyD, sz, slc_1, isi_int, isi_ib, isi_str, isi_tup, ix_0, ix_1, ix_2, ix_3, ix_4, ix_5, chg, putS, meTy.eq_1, mutM, meS, meD, Sl.bor.eq_1, Sl.bor.eq_2, Sl.bor.eq_3, Option.bind, List.getElem?_cons_zero, List.getElem?_cons_succ, List.set_cons_zero, List.set_cons_succ, fits_lt]) ⟨[], .un, rfl, rfl, by simp, by simp⟩ (by
      rintro pre r post env hr ⟨kvs, s3, rfl, hb, hk, hg⟩
      have hlen := h.len
      have hl : pre.length < 1000000 := by rw [hr] at hlen; simp at hlen; omega
      have hl2 : kvs.length < sizeLine := by unfold sizeLine; omega
      have hlb : (boundsG (fun _ => 0) pre).length < sizeLine := by rw [boundsG_len]; unfold sizeLine; omega
      rcases r.shape with ⟨s, rfl⟩ | ⟨c, tag, rest, hto, henc, htag, hp⟩
      · refine ⟨_, _, by simp [finD, evSs, evS.eq_1, evS.eq_2, evS.eq_3, evS.eq_4, evS.eq_5, evS.eq_6, evS.eq_7, evS.eq_10, evS.eq_11, evS.eq_12, evS.eq_13, evE.eq_1, evE.eq_2, evE.eq_3, evE.eq_4, evE.eq_5, evE.eq_6, evE.eq_7, evE.eq_8, evE.eq_9, evE.eq_10, evE.eq_11, evE.eq_12, evE.eq_13, evE.eq_14, evE.eq_15, evE.eq_16, evE.eq_17, evE.eq_18, evE.eq_19, evE.eq_20, evE.eq_21, evE.eq_22, evE.eq_23, evE.eq_24, evE.eq_25, evE.eq_26, evE.eq_27, evT, evVs, evNs, evO, evI, evC', asgT, asgTs, parS, sto, bor, look, looks, dat, dats, fz, lend, vws, nodupB, back, slotOf, outV, keepB, binD, biD, cmpD, truD, keyD, eqO_str, eqO_int, seqD, itD, srcD, tyD, sz, slc_1, isi_int, isi_ib, isi_str, isi_tup, ix_0, ix_1, ix_2, ix_3, ix_4, ix_5, chg, putS, meTy.eq_1, mutM, meS, meD, Sl.bor.eq_1, Sl.bor.eq_2, Sl.bor.eq_3, Option.bind, List.getElem?_cons_zero, List.getElem?_cons_succ, List.set_cons_zero, List.set_cons_succ, fits_lt, hb]; rfl, ?_, ⟨kvs, .va (Row.part s).enc, rfl, rfl, by simp; omega, ?_⟩⟩
        · simp [finD, evSs, evS.eq_1, evS.eq_2, evS.eq_3, evS.eq_4, evS.eq_5, evS.eq_6, evS.eq_7, evS.eq_10, evS.eq_11, evS.eq_12, evS.eq_13, evE.eq_1, evE.eq_2, evE.eq_3, evE.eq_4, evE.eq_5, evE.eq_6, evE.eq_7, evE.eq_8, evE.eq_9, evE.eq_10, evE.eq_11, evE.eq_12, evE.eq_13, evE.eq_14, evE.eq_15, evE.eq_16, evE.eq_17, evE.eq_18, evE.eq_19, evE.eq_20, evE.eq_21, evE.eq_22, evE.eq_23, evE.eq_24, evE.eq_25, evE.eq_26, evE.eq_27, evT, evVs, evNs, evO, evI, evC', asgT, asgTs, parS, sto, bor, look, looks, dat, dats, fz, lend, vws, nodupB, back, slotOf, outV, keepB, binD, biD, cmpD, truD, keyD, eqO_str, eqO_int, seqD, itD, srcD, tyD, sz, slc_1, isi_int, isi_ib, isi_str, isi_tup, ix_0, ix_1, ix_2, ix_3, ix_4, ix_5, chg, putS, meTy.eq_1, mutM, meS, meD, Sl.bor.eq_1, Sl.bor.eq_2, Sl.bor.eq_3, Option.bind, List.getElem?_cons_zero, List.getElem?_cons_succ, List.set_cons_zero, List.set_cons_succ, fits_lt, Row.enc, hlb]
          rw [boundsL, boundsL, boundsG_snoc]; simp [bo, Row.to, oD]
        · intro c hc
          rw [bdsAt_snoc]
          exact hg c (by simpa [Row.to] using hc)
      · have hbo := bound_of_i n m r (bdsAt pre) kvs (h.row r (by rw [hr]; simp)) (fun s hs => hg s (h.wb pre r post hr s hs)) hp
        rw [henc] at hbo
        refine ⟨_, _, by simp [finD, evSs, evS.eq_1, evS.eq_2, evS.eq_3, evS.eq_4, evS.eq_5, evS.eq_6, evS.eq_7, evS.eq_10, evS.eq_11, evS.eq_12, evS.eq_13, evE.eq_1, evE.eq_2, evE.eq_3, evE.eq_4, evE.eq_5, evE.eq_6, evE.eq_7, evE.eq_8, evE.eq_9, evE.eq_10, evE.eq_11, evE.eq_12, evE.eq_13, evE.eq_14, evE.eq_15, evE.eq_16, evE.eq_17, evE.eq_18, evE.eq_19, evE.eq_20, evE.eq_21, evE.eq_22, evE.eq_23, evE.eq_24, evE.eq_25, evE.eq_26, evE.eq_27, evT, evVs, evNs, evO, evI, evC', asgT, asgTs, parS, sto, bor, look, looks, dat, dats, fz, lend, vws, nodupB, back, slotOf, outV, keepB, binD, biD, cmpD, truD, keyD, eqO_str, eqO_int, seqD, itD, srcD, tyD, sz, slc_1, isi_int, isi_ib, isi_str, isi_tup, ix_0, ix_1, ix_2, ix_3, ix_4, ix_5, chg, putS, meTy.eq_1, mutM, meS, meD, Sl.bor.eq_1, Sl.bor.eq_2, Sl.bor.eq_3, Option.bind, List.getElem?_cons_zero, List.getElem?_cons_succ, List.set_cons_zero, List.set_cons_succ, fits_lt, hb]; rfl, ?_, ⟨kput kvs (.inl c) (.int (r.bound (bdsAt pre))), .va r.enc, rfl, rfl, ?_, ?_⟩⟩
        · rw [henc]
          simp [finD, evSs, evS.eq_1, evS.eq_2, evS.eq_3, evS.eq_4, evS.eq_5, evS.eq_6, evS.eq_7, evS.eq_10, evS.eq_11, evS.eq_12, evS.eq_13, evE.eq_1, evE.eq_2, evE.eq_3, evE.eq_4, evE.eq_5, evE.eq_6, evE.eq_7, evE.eq_8, evE.eq_9, evE.eq_10, evE.eq_11, evE.eq_12, evE.eq_13, evE.eq_14, evE.eq_15, evE.eq_16, evE.eq_17, evE.eq_18, evE.eq_19, evE.eq_20, evE.eq_21, evE.eq_22, evE.eq_23, evE.eq_24, evE.eq_25, evE.eq_26, evE.eq_27, evT, evVs, evNs, evO, evI, evC', asgT, asgTs, parS, sto, bor, look, looks, dat, dats, fz, lend, vws, nodupB, back, slotOf, outV, keepB, binD, biD, cmpD, truD, keyD, eqO_str, eqO_int, seqD, itD, srcD, tyD, sz, slc_1, isi_int, isi_ib, isi_str, isi_tup, ix_0, ix_1, ix_2, ix_3, ix_4, ix_5, chg, putS, meTy.eq_1, mutM, meS, meD, Sl.bor.eq_1, Sl.bor.eq_2, Sl.bor.eq_3, Option.bind, List.getElem?_cons_zero, List.getElem?_cons_succ, List.set_cons_zero, List.set_cons_succ, fits_lt, htag, hbo, hlb, hl2, ix_last, boundsG_len, hl]
          rw [boundsL, boundsL, boundsG_snoc]; simp [bo, hto, oD]; rfl
        · have := kput_len kvs (.inl c) (.int (r.bound (bdsAt pre)))
          simp; omega
        · intro x hx
          rw [bdsAt_snoc]; unfold stepB; rw [hto]
          by_cases hxc : x = c
          · subst hxc; simp only [if_true]; exact kget_put _ _ _
          · simp only [hxc, if_false]
            refine (kget_put_ne (by simpa using hxc)).trans (hg x ?_)
            simpa [hto, hxc] using hx)
  obtain ⟨kvs, s3, rfl, h3, h4, h5⟩ := h2
  simp [finD, evSs, evS.eq_1, evS.eq_2, evS.eq_3, evS.eq_4, evS.eq_5, evS.eq_6, evS.eq_7, evS.eq_10, evS.eq_11, evS.eq_12, evS.eq_13, evE.eq_1, evE.eq_2, evE.eq_3, evE.eq_4, evE.eq_5, evE.eq_6, evE.eq_7, evE.eq_8, evE.eq_9, evE.eq_10, evE.eq_11, evE.eq_12, evE.eq_13, evE.eq_14, evE.eq_15, evE.eq_16, evE.eq_17, evE.eq_18, evE.eq_19, evE.eq_20, evE.eq_21, evE.eq_22, evE.eq_23, evE.eq_24, evE.eq_25, evE.eq_26, evE.eq_27, evT, evVs, evNs, evO, evI, evC', asgT, asgTs, parS, sto, bor, look, looks, dat, dats, fz, lend, vws, nodupB, back, slotOf, outV, keepB, binD, biD, cmpD, truD, keyD, eqO_str, eqO_int, seqD, itD, srcD, tyD, sz, slc_1, isi_int, isi_ib, isi_str, isi_tup, ix_0, ix_1, ix_2, ix_3, ix_4, ix_5, chg, putS, meTy.eq_1, mutM, meS, meD, Sl.bor.eq_1, Sl.bor.eq_2, Sl.bor.eq_3, Option.bind, List.getElem?_cons_zero, List.getElem?_cons_succ, List.set_cons_zero, List.set_cons_succ, fits_lt, parS, h1]
end DI.K77
end

section
set_option Elab.async false
set_option linter.all false
set_option maxRecDepth 100000
set_option pp.maxSteps 800
/-! k77: the plain law, part 4: a code without a flaw. -/
namespace DI.K77
open PySem L2
theorem in_oD (s : Int) (ws : List (Option Int)) (h : some s ∈ ws) : inO (.int s) (ws.map oD) = some true := by
  unfold inO
  have hf : (ws.map oD).all flatD = true := by
    rw [List.all_eq_true]; intro d hd
    obtain ⟨o, _, rfl⟩ := List.mem_map.mp hd
    cases o <;> rfl
  rw [if_pos (by rw [hf]; rfl)]
  have : inD (.int s) (ws.map oD) = true := by
    unfold inD
    rw [List.any_eq_true]
    exact ⟨oD (some s), List.mem_map_of_mem h, by simp [oD, eqF]⟩
  rw [this]
theorem unset_comp (F : CF) (n : Nat) (a b : D) (W : List D) (r : Row) (hF : F = evD tab (n + 1)) (hw : ∀ s ∈ r.reads, inO (.int s) W = some true) (hr : b = r.enc) :
    evE F (.comp (.cmp .In (.var 4) (.var 1)) (.nm 4) (.seq (.call 6 (.cons (.var 3) .nil))) .no [("one", 4)]) [.va a, .li false W, .va c, .va b, .un] = .ok (.ol (List.replicate r.reads.length (.bl true)), [.va a, .li false W, .va c, .va b, .un]) := by
  subst hF hr
  have := comp_evN (F := evD tab (n + 1)) (a := .cmp .In (.var 4) (.var 1)) (tg := .nm 4) (it := .seq (.call 6 (.cons (.var 3) .nil))) (own := [("one", 4)]) (env := [.va a, .li false W, .va c, .va r.enc, .un]) (ds := r.reads.map .int) (fun _ => .bl true)
    (by simp [finD, evSs, evS.eq_1, evS.eq_2, evS.eq_3, evS.eq_4, evS.eq_5, evS.eq_6, evS.eq_7, evS.eq_10, evS.eq_11, evS.eq_12, evS.eq_13, evE.eq_1, evE.eq_2, evE.eq_3, evE.eq_4, evE.eq_5, evE.eq_6, evE.eq_7, evE.eq_8, evE.eq_9, evE.eq_10, evE.eq_11, evE.eq_12, evE.eq_13, evE.eq_14, evE.eq_15, evE.eq_16, evE.eq_17, evE.eq_18, evE.eq_19, evE.eq_20, evE.eq_21, evE.eq_22, evE.eq_23, evE.eq_24, evE.eq_25, evE.eq_26, evE.eq_27, evT, evVs, evNs, evO, evI, evC', asgT, asgTs, parS, sto, bor, look, looks, dat, dats, fz, lend, vws, nodupB, back, slotOf, outV, keepB, binD, biD, cmpD, truD, keyD, eqO_str, eqO_int, seqD, itD, srcD, tyD, sz, slc_1, isi_int, isi_ib, isi_str, isi_tup, ix_0, ix_1, ix_2, ix_3, ix_4, ix_5, chg, putS, meTy.eq_1, mutM, meS, meD, Sl.bor.eq_1, Sl.bor.eq_2, Sl.bor.eq_3, Option.bind, List.getElem?_cons_zero, List.getElem?_cons_succ, List.set_cons_zero, List.set_cons_succ, fits_lt, columns_read_i]) rfl (by cases r <;> simp [Row.reads]) (by
      intro d hd
      obtain ⟨s, hs, rfl⟩ := List.mem_map.mp hd
      refine ⟨[.va a, .li false W, .va c, .va r.enc, .va (.int s)], .va (.bl true), rfl, rfl, rfl, ?_, rfl⟩
      simp [finD, evSs, evS.eq_1, evS.eq_2, evS.eq_3, evS.eq_4, evS.eq_5, evS.eq_6, evS.eq_7, evS.eq_10, evS.eq_11, evS.eq_12, evS.eq_13, evE.eq_1, evE.eq_2, evE.eq_3, evE.eq_4, evE.eq_5, evE.eq_6, evE.eq_7, evE.eq_8, evE.eq_9, evE.eq_10, evE.eq_11, evE.eq_12, evE.eq_13, evE.eq_14, evE.eq_15, evE.eq_16, evE.eq_17, evE.eq_18, evE.eq_19, evE.eq_20, evE.eq_21, evE.eq_22, evE.eq_23, evE.eq_24, evE.eq_25, evE.eq_26, evE.eq_27, evT, evVs, evNs, evO, evI, evC', asgT, asgTs, parS, sto, bor, look, looks, dat, dats, fz, lend, vws, nodupB, back, slotOf, outV, keepB, binD, biD, cmpD, truD, keyD, eqO_str, eqO_int, seqD, itD, srcD, tyD, sz, slc_1, isi_int, isi_ib, isi_str, isi_tup, ix_0, ix_1, ix_2, ix_3, ix_4, ix_5, chg, putS, meTy.eq_1, mutM, meS, meD, Sl.bor.eq_1, Sl.bor.eq_2, Sl.bor.eq_3, Option.bind, List.getElem?_cons_zero, List.getElem?_cons_succ, List.set_cons_zero, List.set_cons_succ, fits_lt, hw s hs]) rfl
  rw [this]
  simp [Function.comp_def, List.map_const']
theorem first_unset_i (n : Nat) (m : Int) (rows : List Row) (h : okRows m rows) : evD tab (n + 2) 10 [.va (rowsD rows)] = .ok (.va .non, [.un]) := by
  rw [opn (T := tab) (f := 10) _ 1 4 b_first_unset rfl rfl]; unfold b_first_unset; simp only [List.replicate, List.cons_append, List.nil_append, List.singleton_append]
  obtain ⟨env, h1, h2⟩ := for_ev (F := evD tab (n + 1)) (t := .tup (.cons (.nm 2) (.cons (.nm 3) .nil))) (it := .enum (.var 0)) (b := (.cons (.ifs (.not (.e (.bi .all (.cons (.comp (.cmp .In (.var 4) (.var 1)) (.nm 4) (.seq (.call 6 (.cons (.var 3) .nil))) .no [("one", 4)]) .nil)))) (.cons (.ret (.var 2)) .nil) .nil) (.cons (.expr (.me .append (.var 1) (.cons (.call 7 (.cons (.var 3) .nil)) .nil))) .nil))) (env := [.va (rowsD rows), .li false [], .un, .un, .un]) (fun i r => .tup [.int i, r.enc])
    (fun pre env => ∃ s2 s3, env = [.va (rowsD rows), .li false ((pre.map Row.to).map oD), s2, s3, .un] ∧ s2.bor = false ∧ s3.bor = false) (xs := rows)
    (by simp only [← enumL_map]; simp [finD, evSs, evS.eq_1, evS.eq_2, evS.eq_3, evS.eq_4, evS.eq_5, evS.eq_6, evS.eq_7, evS.eq_10, evS.eq_11, evS.eq_12, evS.eq_13, evE.eq_1, evE.eq_2, evE.eq_3, evE.eq_4, evE.eq_5, evE.eq_6, evE.eq_7, evE.eq_8, evE.eq_9, evE.eq_10, evE.eq_11, evE.eq_12, evE.eq_13, evE.eq_14, evE.eq_15, evE.eq_16, evE.eq_17, evE.eq_18, evE.eq_19, evE.eq_20, evE.eq_21, evE.eq_22, evE.eq_23, evE.eq_24, evE.eq_25, evE.eq_26, evE.eq_27, evT, evVs, evNs, evO, evI, evC', asgT, asgTs, parS, sto, bor, look, looks, dat, dats, fz, lend, vws, nodupB, back, slotOf, outV, keepB, binD, biD, cmpD, truD, keyD, eqO_str, eqO_int, seqD, itD, srcD, tyD, sz, slc_1, isi_int, isi_ib, isi_str, isi_tup, ix_0, ix_1, ix_2, ix_3, ix_4, ix_5, chg, putS, meTy.eq_1, mutM, meS, meD, Sl.bor.eq_1, Sl.bor.eq_2, Sl.bor.eq_3, Option.bind, List.getElem?_cons_zero, List.getElem?_cons_succ, List.set_cons_zero, List.set_cons_succ, fits_lt]) ⟨.un, .un, rfl, rfl, rfl⟩ (by
      rintro pre r post env hr ⟨s2, s3, rfl, hb2, hb3⟩
      have hlen := h.len
      have hl : pre.length < 1000000 := by rw [hr] at hlen; simp at hlen; omega
      have hc := unset_comp (evD tab (n + 1)) n (rowsD rows) r.enc ((pre.map Row.to).map oD) (c := .int pre.length) r rfl (fun s hs => in_oD s _ (h.wb pre r post hr s hs)) rfl
      refine ⟨_, _, by simp [finD, evSs, evS.eq_1, evS.eq_2, evS.eq_3, evS.eq_4, evS.eq_5, evS.eq_6, evS.eq_7, evS.eq_10, evS.eq_11, evS.eq_12, evS.eq_13, evE.eq_1, evE.eq_2, evE.eq_3, evE.eq_4, evE.eq_5, evE.eq_6, evE.eq_7, evE.eq_8, evE.eq_9, evE.eq_10, evE.eq_11, evE.eq_12, evE.eq_13, evE.eq_14, evE.eq_15, evE.eq_16, evE.eq_17, evE.eq_18, evE.eq_19, evE.eq_20, evE.eq_21, evE.eq_22, evE.eq_23, evE.eq_24, evE.eq_25, evE.eq_26, evE.eq_27, evT, evVs, evNs, evO, evI, evC', asgT, asgTs, parS, sto, bor, look, looks, dat, dats, fz, lend, vws, nodupB, back, slotOf, outV, keepB, binD, biD, cmpD, truD, keyD, eqO_str, eqO_int, seqD, itD, srcD, tyD, sz, slc_1, isi_int, isi_ib, isi_str, isi_tup, ix_0, ix_1, ix_2, ix_3, ix_4, ix_5, chg, putS, meTy.eq_1, mutM, meS, meD, Sl.bor.eq_1, Sl.bor.eq_2, Sl.bor.eq_3, Option.bind, List.getElem?_cons_zero, List.getElem?_cons_succ, List.set_cons_zero, List.set_cons_succ, fits_lt, hb2, hb3]; rfl, ?_, ⟨.va (.int pre.length), .va r.enc, rfl, rfl, rfl⟩⟩
      simp only [List.map_map] at hc
      simp [finD, evSs, evS.eq_1, evS.eq_2, evS.eq_3, evS.eq_4, evS.eq_5, evS.eq_6, evS.eq_7, evS.eq_10, evS.eq_11, evS.eq_12, evS.eq_13, evE.eq_1, evE.eq_2, evE.eq_3, evE.eq_4, evE.eq_5, evE.eq_6, evE.eq_7, evE.eq_8, evE.eq_9, evE.eq_10, evE.eq_11, evE.eq_12, evE.eq_13, evE.eq_14, evE.eq_15, evE.eq_16, evE.eq_17, evE.eq_18, evE.eq_19, evE.eq_20, evE.eq_21, evE.eq_22, evE.eq_23, evE.eq_24, evE.eq_25, evE.eq_26, evE.eq_27, evT, evVs, evNs, evO, evI, evC', asgT, asgTs, parS, sto, bor, look, looks, dat, dats, fz, lend, vws, nodupB, back, slotOf, outV, keepB, binD, biD, cmpD, truD, keyD, eqO_str, eqO_int, seqD, itD, srcD, tyD, sz, slc_1, isi_int, isi_ib, isi_str, isi_tup, ix_0, ix_1, ix_2, ix_3, ix_4, ix_5, chg, putS, meTy.eq_1, mutM, meS, meD, Sl.bor.eq_1, Sl.bor.eq_2, Sl.bor.eq_3, Option.bind, List.getElem?_cons_zero, List.getElem?_cons_succ, List.set_cons_zero, List.set_cons_succ, fits_lt, hc, blsD_rep, written_by_i, hl])
  obtain ⟨s2, s3, rfl, h3, h4⟩ := h2
  simp [finD, evSs, evS.eq_1, evS.eq_2, evS.eq_3, evS.eq_4, evS.eq_5, evS.eq_6, evS.eq_7, evS.eq_10, evS.eq_11, evS.eq_12, evS.eq_13, evE.eq_1, evE.eq_2, evE.eq_3, evE.eq_4, evE.eq_5, evE.eq_6, evE.eq_7, evE.eq_8, evE.eq_9, evE.eq_10, evE.eq_11, evE.eq_12, evE.eq_13, evE.eq_14, evE.eq_15, evE.eq_16, evE.eq_17, evE.eq_18, evE.eq_19, evE.eq_20, evE.eq_21, evE.eq_22, evE.eq_23, evE.eq_24, evE.eq_25, evE.eq_26, evE.eq_27, evT, evVs, evNs, evO, evI, evC', asgT, asgTs, parS, sto, bor, look, looks, dat, dats, fz, lend, vws, nodupB, back, slotOf, outV, keepB, binD, biD, cmpD, truD, keyD, eqO_str, eqO_int, seqD, itD, srcD, tyD, sz, slc_1, isi_int, isi_ib, isi_str, isi_tup, ix_0, ix_1, ix_2, ix_3, ix_4, ix_5, chg, putS, meTy.eq_1, mutM, meS, meD, Sl.bor.eq_1, Sl.bor.eq_2, Sl.bor.eq_3, Option.bind, List.getElem?_cons_zero, List.getElem?_cons_succ, List.set_cons_zero, List.set_cons_succ, fits_lt, h1]
end DI.K77
end

section
set_option Elab.async false
set_option linter.all false
set_option maxRecDepth 100000
set_option pp.maxSteps 800
/-! k77: the plain law, part 5: flaw_by, bounds_of; sheets. -/
namespace DI.K77
open PySem L2
abbrev codeD (m : Int) (rows : List Row) : D := .tup [.str [99, 111, 100, 101], .int m, rowsD rows]
structure okCode (m : Int) (rows : List Row) : Prop where
  base : okRows m rows
  cols : 0 ≤ m ∧ m ≤ 16
  small : ∀ b, some b ∈ boundsL rows → b ≤ 1000000000000000000
theorem mem_mid {α : Type} {xs pre post : List α} {x : α} (h : xs = pre ++ x :: post) : x ∈ xs := by rw [h]; simp
theorem flaw_by_i (n : Nat) (m : Int) (rows : List Row) (h : okCode m rows) : evD tab (n + 5) 11 [.va (codeD m rows)] = .ok (.va .non, [.un]) := by
  rw [opn (T := tab) (f := 11) _ 1 4 b_flaw_by rfl rfl]; unfold b_flaw_by; simp only [List.replicate, List.cons_append, List.nil_append, List.singleton_append]
  obtain ⟨env, h1, h2⟩ := for_ev (F := evD tab (n + 4)) (t := .tup (.cons (.nm 1) (.cons (.nm 2) .nil))) (it := .enum (.idx (.var 0) (.lit (.int 2)))) (b := (.cons (.ifs (.not (.e (.call 5 (.cons (.idx (.var 0) (.lit (.int 1))) (.cons (.var 2) .nil))))) (.cons (.ret (.tup (.cons (.lit (.str [114, 111, 119, 115])) (.cons (.var 1) .nil)))) .nil) .nil) .nil)) (env := [.va (codeD m rows), .un, .un, .un, .un]) (fun i r => .tup [.int i, r.enc])
    (fun pre env => ∃ s1 s2, env = [.va (codeD m rows), s1, s2, .un, .un] ∧ s1.bor = false ∧ s2.bor = false) (xs := rows)
    (by simp only [← enumL_map]; simp [finD, evSs, evS.eq_1, evS.eq_2, evS.eq_3, evS.eq_4, evS.eq_5, evS.eq_6, evS.eq_7, evS.eq_10, evS.eq_11, evS.eq_12, evS.eq_13, evE.eq_1, evE.eq_2, evE.eq_3, evE.eq_4, evE.eq_5, evE.eq_6, evE.eq_7, evE.eq_8, evE.eq_9, evE.eq_10, evE.eq_11, evE.eq_12, evE.eq_13, evE.eq_14, evE.eq_15, evE.eq_16, evE.eq_17, evE.eq_18, evE.eq_19, evE.eq_20, evE.eq_21, evE.eq_22, evE.eq_23, evE.eq_24, evE.eq_25, evE.eq_26, evE.eq_27, evT, evVs, evNs, evO, evI, evC', asgT, asgTs, parS, sto, bor, look, looks, dat, dats, fz, lend, vws, nodupB, back, slotOf, outV, keepB, binD, biD, cmpD, truD, keyD, eqO_str, eqO_int, seqD, itD, srcD, tyD, sz, slc_1, isi_int, isi_ib, isi_str, isi_tup, ix_0, ix_1, ix_2, ix_3, ix_4, ix_5, chg, putS, meTy.eq_1, mutM, meS, meD, Sl.bor.eq_1, Sl.bor.eq_2, Sl.bor.eq_3, Option.bind, List.getElem?_cons_zero, List.getElem?_cons_succ, List.set_cons_zero, List.set_cons_succ, fits_lt]) ⟨.un, .un, rfl, rfl, rfl⟩ (by
      rintro pre r post env hr ⟨s1, s2, rfl, hb1, hb2⟩
      have hrow := is_row_i n m r (h.base.row r (mem_mid hr))
      refine ⟨_, _, by simp [finD, evSs, evS.eq_1, evS.eq_2, evS.eq_3, evS.eq_4, evS.eq_5, evS.eq_6, evS.eq_7, evS.eq_10, evS.eq_11, evS.eq_12, evS.eq_13, evE.eq_1, evE.eq_2, evE.eq_3, evE.eq_4, evE.eq_5, evE.eq_6, evE.eq_7, evE.eq_8, evE.eq_9, evE.eq_10, evE.eq_11, evE.eq_12, evE.eq_13, evE.eq_14, evE.eq_15, evE.eq_16, evE.eq_17, evE.eq_18, evE.eq_19, evE.eq_20, evE.eq_21, evE.eq_22, evE.eq_23, evE.eq_24, evE.eq_25, evE.eq_26, evE.eq_27, evT, evVs, evNs, evO, evI, evC', asgT, asgTs, parS, sto, bor, look, looks, dat, dats, fz, lend, vws, nodupB, back, slotOf, outV, keepB, binD, biD, cmpD, truD, keyD, eqO_str, eqO_int, seqD, itD, srcD, tyD, sz, slc_1, isi_int, isi_ib, isi_str, isi_tup, ix_0, ix_1, ix_2, ix_3, ix_4, ix_5, chg, putS, meTy.eq_1, mutM, meS, meD, Sl.bor.eq_1, Sl.bor.eq_2, Sl.bor.eq_3, Option.bind, List.getElem?_cons_zero, List.getElem?_cons_succ, List.set_cons_zero, List.set_cons_succ, fits_lt, hb1, hb2]; rfl, ?_, ⟨.va (.int pre.length), .va r.enc, rfl, rfl, rfl⟩⟩
      simp [finD, evSs, evS.eq_1, evS.eq_2, evS.eq_3, evS.eq_4, evS.eq_5, evS.eq_6, evS.eq_7, evS.eq_10, evS.eq_11, evS.eq_12, evS.eq_13, evE.eq_1, evE.eq_2, evE.eq_3, evE.eq_4, evE.eq_5, evE.eq_6, evE.eq_7, evE.eq_8, evE.eq_9, evE.eq_10, evE.eq_11, evE.eq_12, evE.eq_13, evE.eq_14, evE.eq_15, evE.eq_16, evE.eq_17, evE.eq_18, evE.eq_19, evE.eq_20, evE.eq_21, evE.eq_22, evE.eq_23, evE.eq_24, evE.eq_25, evE.eq_26, evE.eq_27, evT, evVs, evNs, evO, evI, evC', asgT, asgTs, parS, sto, bor, look, looks, dat, dats, fz, lend, vws, nodupB, back, slotOf, outV, keepB, binD, biD, cmpD, truD, keyD, eqO_str, eqO_int, seqD, itD, srcD, tyD, sz, slc_1, isi_int, isi_ib, isi_str, isi_tup, ix_0, ix_1, ix_2, ix_3, ix_4, ix_5, chg, putS, meTy.eq_1, mutM, meS, meD, Sl.bor.eq_1, Sl.bor.eq_2, Sl.bor.eq_3, Option.bind, List.getElem?_cons_zero, List.getElem?_cons_succ, List.set_cons_zero, List.set_cons_succ, fits_lt, hrow])
  obtain ⟨s1, s2, rfl, h3, h4⟩ := h2
  have hbb := bounds_by_i (n + 2) m rows h.base
  obtain ⟨env, g1, g2⟩ := for_ev (F := evD tab (n + 4)) (t := .tup (.cons (.nm 1) (.cons (.nm 4) .nil))) (it := .enum (.call 9 (.cons (.idx (.var 0) (.lit (.int 2))) .nil))) (b := (.cons (.ifs (.and (.e (.isN true (.var 4))) (.e (.cmp .Gt (.var 4) (.glo "MOST_BOUND" (.int 1000000000000000000))))) (.cons (.ret (.tup (.cons (.lit (.str [103, 114, 101, 97, 116])) (.cons (.var 1) .nil)))) .nil) .nil) .nil)) (env := [.va (codeD m rows), s1, s2, .va .non, .un]) (fun i b => .tup [.int i, oD b])
    (fun pre env => ∃ s1 s4, env = [.va (codeD m rows), s1, s2, .va .non, s4] ∧ s1.bor = false ∧ s4.bor = false) (xs := boundsL rows)
    (by simp only [← enumL_map]; simp [finD, evSs, evS.eq_1, evS.eq_2, evS.eq_3, evS.eq_4, evS.eq_5, evS.eq_6, evS.eq_7, evS.eq_10, evS.eq_11, evS.eq_12, evS.eq_13, evE.eq_1, evE.eq_2, evE.eq_3, evE.eq_4, evE.eq_5, evE.eq_6, evE.eq_7, evE.eq_8, evE.eq_9, evE.eq_10, evE.eq_11, evE.eq_12, evE.eq_13, evE.eq_14, evE.eq_15, evE.eq_16, evE.eq_17, evE.eq_18, evE.eq_19, evE.eq_20, evE.eq_21, evE.eq_22, evE.eq_23, evE.eq_24, evE.eq_25, evE.eq_26, evE.eq_27, evT, evVs, evNs, evO, evI, evC', asgT, asgTs, parS, sto, bor, look, looks, dat, dats, fz, lend, vws, nodupB, back, slotOf, outV, keepB, binD, biD, cmpD, truD, keyD, eqO_str, eqO_int, seqD, itD, srcD, tyD, sz, slc_1, isi_int, isi_ib, isi_str, isi_tup, ix_0, ix_1, ix_2, ix_3, ix_4, ix_5, chg, putS, meTy.eq_1, mutM, meS, meD, Sl.bor.eq_1, Sl.bor.eq_2, Sl.bor.eq_3, Option.bind, List.getElem?_cons_zero, List.getElem?_cons_succ, List.set_cons_zero, List.set_cons_succ, fits_lt, hbb]) ⟨s1, .un, rfl, h3, rfl⟩ (by
      rintro pre b post env hr ⟨s1, s4, rfl, hb1, hb4⟩
      have hs : ∀ x, b = some x → x ≤ 1000000000000000000 := fun x hx => h.small x (by rw [← hx]; exact mem_mid hr)
      refine ⟨_, _, by simp [finD, evSs, evS.eq_1, evS.eq_2, evS.eq_3, evS.eq_4, evS.eq_5, evS.eq_6, evS.eq_7, evS.eq_10, evS.eq_11, evS.eq_12, evS.eq_13, evE.eq_1, evE.eq_2, evE.eq_3, evE.eq_4, evE.eq_5, evE.eq_6, evE.eq_7, evE.eq_8, evE.eq_9, evE.eq_10, evE.eq_11, evE.eq_12, evE.eq_13, evE.eq_14, evE.eq_15, evE.eq_16, evE.eq_17, evE.eq_18, evE.eq_19, evE.eq_20, evE.eq_21, evE.eq_22, evE.eq_23, evE.eq_24, evE.eq_25, evE.eq_26, evE.eq_27, evT, evVs, evNs, evO, evI, evC', asgT, asgTs, parS, sto, bor, look, looks, dat, dats, fz, lend, vws, nodupB, back, slotOf, outV, keepB, binD, biD, cmpD, truD, keyD, eqO_str, eqO_int, seqD, itD, srcD, tyD, sz, slc_1, isi_int, isi_ib, isi_str, isi_tup, ix_0, ix_1, ix_2, ix_3, ix_4, ix_5, chg, putS, meTy.eq_1, mutM, meS, meD, Sl.bor.eq_1, Sl.bor.eq_2, Sl.bor.eq_3, Option.bind, List.getElem?_cons_zero, List.getElem?_cons_succ, List.set_cons_zero, List.set_cons_succ, fits_lt, hb1, hb4]; rfl, ?_, ⟨.va (.int pre.length), .va (oD b), rfl, rfl, rfl⟩⟩
      cases b with
      | none => simp [finD, evSs, evS.eq_1, evS.eq_2, evS.eq_3, evS.eq_4, evS.eq_5, evS.eq_6, evS.eq_7, evS.eq_10, evS.eq_11, evS.eq_12, evS.eq_13, evE.eq_1, evE.eq_2, evE.eq_3, evE.eq_4, evE.eq_5, evE.eq_6, evE.eq_7, evE.eq_8, evE.eq_9, evE.eq_10, evE.eq_11, evE.eq_12, evE.eq_13, evE.eq_14, evE.eq_15, evE.eq_16, evE.eq_17, evE.eq_18, evE.eq_19, evE.eq_20, evE.eq_21, evE.eq_22, evE.eq_23, evE.eq_24, evE.eq_25, evE.eq_26, evE.eq_27, evT, evVs, evNs, evO, evI, evC', asgT, asgTs, parS, sto, bor, look, looks, dat, dats, fz, lend, vws, nodupB, back, slotOf, outV, keepB, binD, biD, cmpD, truD, keyD, eqO_str, eqO_int, seqD, itD, srcD, tyD, sz, slc_1, isi_int, isi_ib, isi_str, isi_tup, ix_0, ix_1, ix_2, ix_3, ix_4, ix_5, chg, putS, meTy.eq_1, mutM, meS, meD, Sl.bor.eq_1, Sl.bor.eq_2, Sl.bor.eq_3, Option.bind, List.getElem?_cons_zero, List.getElem?_cons_succ, List.set_cons_zero, List.set_cons_succ, fits_lt, oD]
      | some b =>
        have : ¬ 1000000000000000000 < b := by have := hs b rfl; omega
        simp [finD, evSs, evS.eq_1, evS.eq_2, evS.eq_3, evS.eq_4, evS.eq_5, evS.eq_6, evS.eq_7, evS.eq_10, evS.eq_11, evS.eq_12, evS.eq_13, evE.eq_1, evE.eq_2, evE.eq_3, evE.eq_4, evE.eq_5, evE.eq_6, evE.eq_7, evE.eq_8, evE.eq_9, evE.eq_10, evE.eq_11, evE.eq_12, evE.eq_13, evE.eq_14, evE.eq_15, evE.eq_16, evE.eq_17, evE.eq_18, evE.eq_19, evE.eq_20, evE.eq_21, evE.eq_22, evE.eq_23, evE.eq_24, evE.eq_25, evE.eq_26, evE.eq_27, evT, evVs, evNs, evO, evI, evC', asgT, asgTs, parS, sto, bor, look, looks, dat, dats, fz, lend, vws, nodupB, back, slotOf, outV, keepB, binD, biD, cmpD, truD, keyD, eqO_str, eqO_int, seqD, itD, srcD, tyD, sz, slc_1, isi_int, isi_ib, isi_str, isi_tup, ix_0, ix_1, ix_2, ix_3, ix_4, ix_5, chg, putS, meTy.eq_1, mutM, meS, meD, Sl.bor.eq_1, Sl.bor.eq_2, Sl.bor.eq_3, Option.bind, List.getElem?_cons_zero, List.getElem?_cons_succ, List.set_cons_zero, List.set_cons_succ, fits_lt, oD, this])
  obtain ⟨s5, s6, rfl, g3, g4⟩ := g2
  have hlen := h.base.len
  have hl : ¬ (60 : Int) < rows.length := by omega
  simp [finD, evSs, evS.eq_1, evS.eq_2, evS.eq_3, evS.eq_4, evS.eq_5, evS.eq_6, evS.eq_7, evS.eq_10, evS.eq_11, evS.eq_12, evS.eq_13, evE.eq_1, evE.eq_2, evE.eq_3, evE.eq_4, evE.eq_5, evE.eq_6, evE.eq_7, evE.eq_8, evE.eq_9, evE.eq_10, evE.eq_11, evE.eq_12, evE.eq_13, evE.eq_14, evE.eq_15, evE.eq_16, evE.eq_17, evE.eq_18, evE.eq_19, evE.eq_20, evE.eq_21, evE.eq_22, evE.eq_23, evE.eq_24, evE.eq_25, evE.eq_26, evE.eq_27, evT, evVs, evNs, evO, evI, evC', asgT, asgTs, parS, sto, bor, look, looks, dat, dats, fz, lend, vws, nodupB, back, slotOf, outV, keepB, binD, biD, cmpD, truD, keyD, eqO_str, eqO_int, seqD, itD, srcD, tyD, sz, slc_1, isi_int, isi_ib, isi_str, isi_tup, ix_0, ix_1, ix_2, ix_3, ix_4, ix_5, chg, putS, meTy.eq_1, mutM, meS, meD, Sl.bor.eq_1, Sl.bor.eq_2, Sl.bor.eq_3, Option.bind, List.getElem?_cons_zero, List.getElem?_cons_succ, List.set_cons_zero, List.set_cons_succ, fits_lt, is_tuple_i _ [.str [99, 111, 100, 101], .int m, rowsD rows] 3 rfl, is_within_i _ m 0 16 h.cols, hl, h1, first_unset_i _ m rows h.base, g1]
theorem want_code_i (n : Nat) (m : Int) (rows : List Row) (h : okCode m rows) : evD tab (n + 6) 12 [.va (codeD m rows)] = .ok (.va .non, [.un]) := by
  rw [opn (T := tab) (f := 12) _ 1 0 b_want_code rfl rfl]; unfold b_want_code; simp only [List.replicate, List.cons_append, List.nil_append, List.singleton_append]
  simp [finD, evSs, evS.eq_1, evS.eq_2, evS.eq_3, evS.eq_4, evS.eq_5, evS.eq_6, evS.eq_7, evS.eq_10, evS.eq_11, evS.eq_12, evS.eq_13, evE.eq_1, evE.eq_2, evE.eq_3, evE.eq_4, evE.eq_5, evE.eq_6, evE.eq_7, evE.eq_8, evE.eq_9, evE.eq_10, evE.eq_11, evE.eq_12, evE.eq_13, evE.eq_14, evE.eq_15, evE.eq_16, evE.eq_17, evE.eq_18, evE.eq_19, evE.eq_20, evE.eq_21, evE.eq_22, evE.eq_23, evE.eq_24, evE.eq_25, evE.eq_26, evE.eq_27, evT, evVs, evNs, evO, evI, evC', asgT, asgTs, parS, sto, bor, look, looks, dat, dats, fz, lend, vws, nodupB, back, slotOf, outV, keepB, binD, biD, cmpD, truD, keyD, eqO_str, eqO_int, seqD, itD, srcD, tyD, sz, slc_1, isi_int, isi_ib, isi_str, isi_tup, ix_0, ix_1, ix_2, ix_3, ix_4, ix_5, chg, putS, meTy.eq_1, mutM, meS, meD, Sl.bor.eq_1, Sl.bor.eq_2, Sl.bor.eq_3, Option.bind, List.getElem?_cons_zero, List.getElem?_cons_succ, List.set_cons_zero, List.set_cons_succ, fits_lt, flaw_by_i n m rows h]
theorem bounds_of_i (n : Nat) (m : Int) (rows : List Row) (h : okCode m rows) : evD tab (n + 7) 13 [.va (codeD m rows)] = .ok (.ol ((boundsL rows).map oD), [.un]) := by
  rw [opn (T := tab) (f := 13) _ 1 0 b_bounds_of rfl rfl]; unfold b_bounds_of; simp only [List.replicate, List.cons_append, List.nil_append, List.singleton_append]
  simp [finD, evSs, evS.eq_1, evS.eq_2, evS.eq_3, evS.eq_4, evS.eq_5, evS.eq_6, evS.eq_7, evS.eq_10, evS.eq_11, evS.eq_12, evS.eq_13, evE.eq_1, evE.eq_2, evE.eq_3, evE.eq_4, evE.eq_5, evE.eq_6, evE.eq_7, evE.eq_8, evE.eq_9, evE.eq_10, evE.eq_11, evE.eq_12, evE.eq_13, evE.eq_14, evE.eq_15, evE.eq_16, evE.eq_17, evE.eq_18, evE.eq_19, evE.eq_20, evE.eq_21, evE.eq_22, evE.eq_23, evE.eq_24, evE.eq_25, evE.eq_26, evE.eq_27, evT, evVs, evNs, evO, evI, evC', asgT, asgTs, parS, sto, bor, look, looks, dat, dats, fz, lend, vws, nodupB, back, slotOf, outV, keepB, binD, biD, cmpD, truD, keyD, eqO_str, eqO_int, seqD, itD, srcD, tyD, sz, slc_1, isi_int, isi_ib, isi_str, isi_tup, ix_0, ix_1, ix_2, ix_3, ix_4, ix_5, chg, putS, meTy.eq_1, mutM, meS, meD, Sl.bor.eq_1, Sl.bor.eq_2, Sl.bor.eq_3, Option.bind, List.getElem?_cons_zero, List.getElem?_cons_succ, List.set_cons_zero, List.set_cons_succ, fits_lt, want_code_i n m rows h, bounds_by_i _ m rows h.base]
end DI.K77
end

section
set_option Elab.async false
set_option linter.all false
set_option maxRecDepth 100000
set_option pp.maxSteps 800
/-! k77: the plain law, part 6: sheets. -/
namespace DI.K77
open PySem L2
structure Game where
  a : Int
  b : Int
  t : Int
def Game.enc (g : Game) : D := .tup [.int g.a, .int g.b, .int g.t]
structure okGame (m : Int) (g : Game) : Prop where
  b : 1 ≤ g.b ∧ g.b ≤ m
  a : 0 ≤ g.a ∧ g.a ≤ g.b - 1
  t : (if g.b = m then 2 else 0) ≤ g.t ∧ g.t ≤ 2
abbrev gamesD (gs : List Game) : D := .tup (gs.map Game.enc)
abbrev sheetD (m : Int) (gs : List Game) : D := .tup [.int m, gamesD gs]
structure okSheet (m : Int) (gs : List Game) : Prop where
  mm : 2 ≤ m ∧ m ≤ 16
  len : gs.length ≤ 300
  game : ∀ g ∈ gs, okGame m g
theorem is_game_i (n : Nat) (m : Int) (g : Game) (h : okGame m g) : evD tab (n + 3) 14 [.va (.int m), .va g.enc] = .ok (.va (.bl true), [.un, .un]) := by
  rw [opn (T := tab) (f := 14) _ 2 0 b_is_game_of rfl rfl]; unfold b_is_game_of; simp only [List.replicate, List.cons_append, List.nil_append, List.singleton_append]
  obtain ⟨a, b, t⟩ := g
  obtain ⟨hb, ha, ht⟩ := h
  dsimp only at hb ha ht
  unfold Game.enc
  by_cases hm : b = m
  · subst hm
    obtain rfl : t = 2 := by simp at ht; omega
    simp [finD, evSs, evS.eq_1, evS.eq_2, evS.eq_3, evS.eq_4, evS.eq_5, evS.eq_6, evS.eq_7, evS.eq_10, evS.eq_11, evS.eq_12, evS.eq_13, evE.eq_1, evE.eq_2, evE.eq_3, evE.eq_4, evE.eq_5, evE.eq_6, evE.eq_7, evE.eq_8, evE.eq_9, evE.eq_10, evE.eq_11, evE.eq_12, evE.eq_13, evE.eq_14, evE.eq_15, evE.eq_16, evE.eq_17, evE.eq_18, evE.eq_19, evE.eq_20, evE.eq_21, evE.eq_22, evE.eq_23, evE.eq_24, evE.eq_25, evE.eq_26, evE.eq_27, evT, evVs, evNs, evO, evI, evC', asgT, asgTs, parS, sto, bor, look, looks, dat, dats, fz, lend, vws, nodupB, back, slotOf, outV, keepB, binD, biD, cmpD, truD, keyD, eqO_str, eqO_int, seqD, itD, srcD, tyD, sz, slc_1, isi_int, isi_ib, isi_str, isi_tup, ix_0, ix_1, ix_2, ix_3, ix_4, ix_5, chg, putS, meTy.eq_1, mutM, meS, meD, Sl.bor.eq_1, Sl.bor.eq_2, Sl.bor.eq_3, Option.bind, List.getElem?_cons_zero, List.getElem?_cons_succ, List.set_cons_zero, List.set_cons_succ, fits_lt, is_tuple_i _ [.int a, .int b, .int 2] 3 rfl, is_within_i _ b 1 b hb, is_within_i _ a 0 (b - 1) ha, is_within_i _ 2 2 2 (by omega)]
  · simp only [hm, if_false] at ht
    simp [finD, evSs, evS.eq_1, evS.eq_2, evS.eq_3, evS.eq_4, evS.eq_5, evS.eq_6, evS.eq_7, evS.eq_10, evS.eq_11, evS.eq_12, evS.eq_13, evE.eq_1, evE.eq_2, evE.eq_3, evE.eq_4, evE.eq_5, evE.eq_6, evE.eq_7, evE.eq_8, evE.eq_9, evE.eq_10, evE.eq_11, evE.eq_12, evE.eq_13, evE.eq_14, evE.eq_15, evE.eq_16, evE.eq_17, evE.eq_18, evE.eq_19, evE.eq_20, evE.eq_21, evE.eq_22, evE.eq_23, evE.eq_24, evE.eq_25, evE.eq_26, evE.eq_27, evT, evVs, evNs, evO, evI, evC', asgT, asgTs, parS, sto, bor, look, looks, dat, dats, fz, lend, vws, nodupB, back, slotOf, outV, keepB, binD, biD, cmpD, truD, keyD, eqO_str, eqO_int, seqD, itD, srcD, tyD, sz, slc_1, isi_int, isi_ib, isi_str, isi_tup, ix_0, ix_1, ix_2, ix_3, ix_4, ix_5, chg, putS, meTy.eq_1, mutM, meS, meD, Sl.bor.eq_1, Sl.bor.eq_2, Sl.bor.eq_3, Option.bind, List.getElem?_cons_zero, List.getElem?_cons_succ, List.set_cons_zero, List.set_cons_succ, fits_lt, is_tuple_i _ [.int a, .int b, .int t] 3 rfl, is_within_i _ b 1 m hb, is_within_i _ a 0 (b - 1) ha, hm, is_within_i _ t 0 2 ht]
theorem sheet_comp (F : CF) (n : Nat) (m : Int) (gs : List Game) (hF : F = evD tab (n + 3)) (h : okSheet m gs) :
    evE F (.comp (.call 14 (.cons (.idx (.var 0) (.lit (.int 0))) (.cons (.var 1) .nil))) (.nm 1) (.seq (.idx (.var 0) (.lit (.int 1)))) .no [("one", 1)]) [.va (sheetD m gs), .un] = .ok (.ol (List.replicate gs.length (.bl true)), [.va (sheetD m gs), .un]) := by
  subst hF
  have hlen := h.len
  have := comp_evN (F := evD tab (n + 3)) (a := .call 14 (.cons (.idx (.var 0) (.lit (.int 0))) (.cons (.var 1) .nil))) (tg := .nm 1) (it := .seq (.idx (.var 0) (.lit (.int 1)))) (own := [("one", 1)]) (env := [.va (sheetD m gs), .un]) (ds := gs.map Game.enc) (fun _ => .bl true)
    (by simp [finD, evSs, evS.eq_1, evS.eq_2, evS.eq_3, evS.eq_4, evS.eq_5, evS.eq_6, evS.eq_7, evS.eq_10, evS.eq_11, evS.eq_12, evS.eq_13, evE.eq_1, evE.eq_2, evE.eq_3, evE.eq_4, evE.eq_5, evE.eq_6, evE.eq_7, evE.eq_8, evE.eq_9, evE.eq_10, evE.eq_11, evE.eq_12, evE.eq_13, evE.eq_14, evE.eq_15, evE.eq_16, evE.eq_17, evE.eq_18, evE.eq_19, evE.eq_20, evE.eq_21, evE.eq_22, evE.eq_23, evE.eq_24, evE.eq_25, evE.eq_26, evE.eq_27, evT, evVs, evNs, evO, evI, evC', asgT, asgTs, parS, sto, bor, look, looks, dat, dats, fz, lend, vws, nodupB, back, slotOf, outV, keepB, binD, biD, cmpD, truD, keyD, eqO_str, eqO_int, seqD, itD, srcD, tyD, sz, slc_1, isi_int, isi_ib, isi_str, isi_tup, ix_0, ix_1, ix_2, ix_3, ix_4, ix_5, chg, putS, meTy.eq_1, mutM, meS, meD, Sl.bor.eq_1, Sl.bor.eq_2, Sl.bor.eq_3, Option.bind, List.getElem?_cons_zero, List.getElem?_cons_succ, List.set_cons_zero, List.set_cons_succ, fits_lt]) rfl (by simp; omega) (by
      intro d hd
      obtain ⟨g, hg, rfl⟩ := List.mem_map.mp hd
      refine ⟨[.va (sheetD m gs), .va g.enc], .va (.bl true), rfl, rfl, rfl, ?_, rfl⟩
      simp [finD, evSs, evS.eq_1, evS.eq_2, evS.eq_3, evS.eq_4, evS.eq_5, evS.eq_6, evS.eq_7, evS.eq_10, evS.eq_11, evS.eq_12, evS.eq_13, evE.eq_1, evE.eq_2, evE.eq_3, evE.eq_4, evE.eq_5, evE.eq_6, evE.eq_7, evE.eq_8, evE.eq_9, evE.eq_10, evE.eq_11, evE.eq_12, evE.eq_13, evE.eq_14, evE.eq_15, evE.eq_16, evE.eq_17, evE.eq_18, evE.eq_19, evE.eq_20, evE.eq_21, evE.eq_22, evE.eq_23, evE.eq_24, evE.eq_25, evE.eq_26, evE.eq_27, evT, evVs, evNs, evO, evI, evC', asgT, asgTs, parS, sto, bor, look, looks, dat, dats, fz, lend, vws, nodupB, back, slotOf, outV, keepB, binD, biD, cmpD, truD, keyD, eqO_str, eqO_int, seqD, itD, srcD, tyD, sz, slc_1, isi_int, isi_ib, isi_str, isi_tup, ix_0, ix_1, ix_2, ix_3, ix_4, ix_5, chg, putS, meTy.eq_1, mutM, meS, meD, Sl.bor.eq_1, Sl.bor.eq_2, Sl.bor.eq_3, Option.bind, List.getElem?_cons_zero, List.getElem?_cons_succ, List.set_cons_zero, List.set_cons_succ, fits_lt, is_game_i n m g (h.game g hg)]) rfl
  rw [this]
  simp [Function.comp_def, List.map_const']
theorem is_sheet_i (n : Nat) (m : Int) (gs : List Game) (h : okSheet m gs) : evD tab (n + 4) 15 [.va (sheetD m gs)] = .ok (.va (.bl true), [.un]) := by
  rw [opn (T := tab) (f := 15) _ 1 1 b_is_sheet_value rfl rfl]; unfold b_is_sheet_value; simp only [List.replicate, List.cons_append, List.nil_append, List.singleton_append]
  have hlen := h.len
  have hl : ¬ (300 : Int) < gs.length := by omega
  simp [finD, evSs, evS.eq_1, evS.eq_2, evS.eq_3, evS.eq_4, evS.eq_5, evS.eq_6, evS.eq_7, evS.eq_10, evS.eq_11, evS.eq_12, evS.eq_13, evE.eq_1, evE.eq_2, evE.eq_3, evE.eq_4, evE.eq_5, evE.eq_6, evE.eq_7, evE.eq_8, evE.eq_9, evE.eq_10, evE.eq_11, evE.eq_12, evE.eq_13, evE.eq_14, evE.eq_15, evE.eq_16, evE.eq_17, evE.eq_18, evE.eq_19, evE.eq_20, evE.eq_21, evE.eq_22, evE.eq_23, evE.eq_24, evE.eq_25, evE.eq_26, evE.eq_27, evT, evVs, evNs, evO, evI, evC', asgT, asgTs, parS, sto, bor, look, looks, dat, dats, fz, lend, vws, nodupB, back, slotOf, outV, keepB, binD, biD, cmpD, truD, keyD, eqO_str, eqO_int, seqD, itD, srcD, tyD, sz, slc_1, isi_int, isi_ib, isi_str, isi_tup, ix_0, ix_1, ix_2, ix_3, ix_4, ix_5, chg, putS, meTy.eq_1, mutM, meS, meD, Sl.bor.eq_1, Sl.bor.eq_2, Sl.bor.eq_3, Option.bind, List.getElem?_cons_zero, List.getElem?_cons_succ, List.set_cons_zero, List.set_cons_succ, fits_lt, is_tuple_i _ [.int m, gamesD gs] 2 rfl, is_within_i _ m 2 16 h.mm, hl, sheet_comp _ n m gs rfl h, blsD_rep]
theorem want_sheet_i (n : Nat) (m : Int) (gs : List Game) (h : okSheet m gs) : evD tab (n + 5) 16 [.va (sheetD m gs)] = .ok (.va .non, [.un]) := by
  rw [opn (T := tab) (f := 16) _ 1 0 b_want_sheet rfl rfl]; unfold b_want_sheet; simp only [List.replicate, List.cons_append, List.nil_append, List.singleton_append]
  simp [finD, evSs, evS.eq_1, evS.eq_2, evS.eq_3, evS.eq_4, evS.eq_5, evS.eq_6, evS.eq_7, evS.eq_10, evS.eq_11, evS.eq_12, evS.eq_13, evE.eq_1, evE.eq_2, evE.eq_3, evE.eq_4, evE.eq_5, evE.eq_6, evE.eq_7, evE.eq_8, evE.eq_9, evE.eq_10, evE.eq_11, evE.eq_12, evE.eq_13, evE.eq_14, evE.eq_15, evE.eq_16, evE.eq_17, evE.eq_18, evE.eq_19, evE.eq_20, evE.eq_21, evE.eq_22, evE.eq_23, evE.eq_24, evE.eq_25, evE.eq_26, evE.eq_27, evT, evVs, evNs, evO, evI, evC', asgT, asgTs, parS, sto, bor, look, looks, dat, dats, fz, lend, vws, nodupB, back, slotOf, outV, keepB, binD, biD, cmpD, truD, keyD, eqO_str, eqO_int, seqD, itD, srcD, tyD, sz, slc_1, isi_int, isi_ib, isi_str, isi_tup, ix_0, ix_1, ix_2, ix_3, ix_4, ix_5, chg, putS, meTy.eq_1, mutM, meS, meD, Sl.bor.eq_1, Sl.bor.eq_2, Sl.bor.eq_3, Option.bind, List.getElem?_cons_zero, List.getElem?_cons_succ, List.set_cons_zero, List.set_cons_succ, fits_lt, is_sheet_i n m gs h]
theorem want_both_i (n : Nat) (c : Int) (rows : List Row) (m : Int) (gs : List Game) (hc : okCode c rows) (h : okSheet m gs) : evD tab (n + 7) 24 [.va (codeD c rows), .va (sheetD m gs)] = .ok (.va .non, [.un, .un]) := by
  rw [opn (T := tab) (f := 24) _ 2 0 b_want_both rfl rfl]; unfold b_want_both; simp only [List.replicate, List.cons_append, List.nil_append, List.singleton_append]
  simp [finD, evSs, evS.eq_1, evS.eq_2, evS.eq_3, evS.eq_4, evS.eq_5, evS.eq_6, evS.eq_7, evS.eq_10, evS.eq_11, evS.eq_12, evS.eq_13, evE.eq_1, evE.eq_2, evE.eq_3, evE.eq_4, evE.eq_5, evE.eq_6, evE.eq_7, evE.eq_8, evE.eq_9, evE.eq_10, evE.eq_11, evE.eq_12, evE.eq_13, evE.eq_14, evE.eq_15, evE.eq_16, evE.eq_17, evE.eq_18, evE.eq_19, evE.eq_20, evE.eq_21, evE.eq_22, evE.eq_23, evE.eq_24, evE.eq_25, evE.eq_26, evE.eq_27, evT, evVs, evNs, evO, evI, evC', asgT, asgTs, parS, sto, bor, look, looks, dat, dats, fz, lend, vws, nodupB, back, slotOf, outV, keepB, binD, biD, cmpD, truD, keyD, eqO_str, eqO_int, seqD, itD, srcD, tyD, sz, slc_1, isi_int, isi_ib, isi_str, isi_tup, ix_0, ix_1, ix_2, ix_3, ix_4, ix_5, chg, putS, meTy.eq_1, mutM, meS, meD, Sl.bor.eq_1, Sl.bor.eq_2, Sl.bor.eq_3, Option.bind, List.getElem?_cons_zero, List.getElem?_cons_succ, List.set_cons_zero, List.set_cons_succ, fits_lt, want_code_i n c rows hc, want_sheet_i _ m gs h]
end DI.K77
end

section
set_option Elab.async false
set_option linter.all false
set_option maxRecDepth 100000
set_option pp.maxSteps 800
/-! k77: the plain law, part 7: what a sheet gathers. -/
namespace DI.K77
open PySem L2
/-- the players -/
def plys (M : Nat) : List Int := (List.range M).map Int.ofNat
def colL (M : Nat) (f : Int → Int) : List D := (plys M).map fun p => .int (f p)
abbrev colD (M : Nat) (f : Int → Int) : D := .tup (colL M f)
abbrev lotD (l : List Int) : D := .tup (l.map .int)
abbrev lotsD (lots : List (List Int)) : D := .tup (lots.map lotD)
theorem plys_len (M : Nat) : (plys M).length = M := by simp [plys]
theorem mem_plys {M : Nat} {x : Int} : x ∈ plys M ↔ 0 ≤ x ∧ x < M := by
  unfold plys
  rw [List.mem_map]
  constructor
  · rintro ⟨k, hk, rfl⟩; rw [List.mem_range] at hk; exact ⟨Int.natCast_nonneg _, by exact Int.ofNat_lt.mpr hk⟩
  · rintro ⟨h1, h2⟩; exact ⟨x.toNat, by rw [List.mem_range]; omega, by show ((x.toNat : Nat) : Int) = x; omega⟩
theorem plys_get {M : Nat} {x : Int} (h : 0 ≤ x ∧ x < M) : (plys M)[x.toNat]? = some x := by
  unfold plys
  rw [List.getElem?_map, List.getElem?_range (by omega)]
  show some ((x.toNat : Nat) : Int) = some x
  rw [Int.toNat_of_nonneg h.1]
theorem colL_len (M : Nat) (f : Int → Int) : (colL M f).length = M := by unfold colL; rw [List.length_map, plys_len]
theorem ixN_i {n : Nat} {x : Int} (h : 0 ≤ x ∧ x < n) : ixN n x = some x.toNat := by
  have := ixN_n n x.toNat (by omega)
  rwa [Int.toNat_of_nonneg h.1] at this
theorem at_col {M : Nat} {f : Int → Int} {x : Int} (h : 0 ≤ x ∧ x < M) : atI (colL M f) x = some (.int (f x)) := by
  show (ixN _ _).bind _ = _
  rw [ixN_i (by rw [colL_len]; exact h)]
  unfold colL
  show (List.map _ _)[x.toNat]? = _
  rw [List.getElem?_map, plys_get h]; rfl
theorem ix_col {M : Nat} {f : Int → Int} {x : Int} (h : 0 ≤ x ∧ x < M) : idxD (colD M f) (.int x) = some (.int (f x)) := at_col h
theorem ix_colL {M : Nat} {f : Int → Int} {x : Int} (h : 0 ≤ x ∧ x < M) : idxD (.lst (colL M f)) (.int x) = some (.int (f x)) := at_col h
theorem put_col {b : Bool} {M : Nat} {f : Int → Int} {x v : Int} (h : 0 ≤ x ∧ x < M) : putS (.li b (colL M f)) (.int x) (.int v) = some (.li b (colL M fun p => if p = x then v else f p)) := by
  show (ixN _ _).map _ = _
  rw [ixN_i (by rw [colL_len]; exact h)]
  show some (Sl.li b ((colL M f).set x.toNat (.int v))) = some _
  congr 2
  apply List.ext_getElem?
  intro i
  rw [List.getElem?_set]
  by_cases hi : x.toNat = i
  · subst hi
    have hx : x.toNat < (colL M f).length := by rw [colL_len]; omega
    rw [if_pos rfl, if_pos hx]; unfold colL; rw [List.getElem?_map, plys_get h]
    simp
  · rw [if_neg hi]
    by_cases hM : i < M
    · have := plys_get (M := M) (x := (i : Int)) (by omega)
      rw [Int.toNat_natCast] at this
      unfold colL
      rw [List.getElem?_map, List.getElem?_map, this]
      have : ¬ (i : Int) = x := by omega
      simp [this]
    · rw [List.getElem?_eq_none (by rw [colL_len]; omega), List.getElem?_eq_none (by rw [colL_len]; omega)]
/-- the lots part the players -/
structure okLots (M : Nat) (lots : List (List Int)) : Prop where
  perm : lots.flatten.Perm (plys M)
def sameB (lots : List (List Int)) (x y : Int) : Bool := lots.any fun l => decide (x ∈ l) && decide (y ∈ l)
def wgt (w0 w1 w2 t : Int) : Int := if t = 0 then w0 else if t = 1 then w1 else w2
/-- what a game gives a player -/
def con (M : Nat) (lots : List (List Int)) (col : Int → Int) (w0 w1 w2 near : Int) (g : Game) (p : Int) : Int :=
  if g.b < M ∧ (near = 0 ∨ sameB lots g.a g.b = true) then (if p = g.a then wgt w0 w1 w2 (2 - g.t) * col g.b else 0) + (if p = g.b then wgt w0 w1 w2 g.t * col g.a else 0) else 0
def gath (M : Nat) (lots : List (List Int)) (col : Int → Int) (w0 w1 w2 near : Int) (gs : List Game) (p : Int) : Int := (gs.map fun g => con M lots col w0 w1 w2 near g p).sum
theorem ix_w {w0 w1 w2 t : Int} (h : 0 ≤ t ∧ t ≤ 2) : idxD (.tup [.int w0, .int w1, .int w2]) (.int t) = some (.int (wgt w0 w1 w2 t)) := by
  have : t = 0 ∨ t = 1 ∨ t = 2 := by omega
  rcases this with rfl | rfl | rfl <;> rfl
theorem rep0 (M : Nat) : List.replicate M (D.int 0) = colL M fun _ => 0 := by
  unfold colL
  rw [List.map_const', plys_len]
def plc (pre : List (List Int)) (kvs : List (Key × D)) : Prop := ∀ x, (∃ l ∈ pre, x ∈ l) → ∃ (i : Nat) (l : List Int), pre[i]? = some l ∧ x ∈ l ∧ kget kvs (.inl x) = some (.int i)
theorem same_iff {M : Nat} {lots : List (List Int)} (h : okLots M lots) {x y : Int} {i j : Nat} {l k : List Int} (hi : lots[i]? = some l) (hx : x ∈ l) (hj : lots[j]? = some k) (hy : y ∈ k) : sameB lots x y = decide (i = j) := by
  have hn : lots.flatten.Nodup := h.perm.nodup_iff.mpr (by
    unfold plys
    exact List.Pairwise.map _ (fun a b (hab : a ≠ b) => fun hc => hab (Int.ofNat.inj hc)) List.nodup_range)
  have hd := (List.pairwise_flatten.mp hn).2
  have key : ∀ (i j : Nat) (l k : List Int) (z : Int), lots[i]? = some l → lots[j]? = some k → z ∈ l → z ∈ k → i = j := by
    intro i j l k z h1 h2 h3 h4
    obtain ⟨hi, rfl⟩ := List.getElem?_eq_some_iff.mp h1
    obtain ⟨hj, rfl⟩ := List.getElem?_eq_some_iff.mp h2
    rcases Nat.lt_trichotomy i j with q | q | q
    · exact absurd rfl (List.pairwise_iff_getElem.mp hd i j hi hj q z h3 z h4)
    · exact q
    · exact absurd rfl (List.pairwise_iff_getElem.mp hd j i hj hi q z h4 z h3)
  unfold sameB
  by_cases hij : i = j
  · subst hij
    rw [hi] at hj
    obtain rfl := Option.some.inj hj
    rw [decide_eq_true rfl, List.any_eq_true]
    exact ⟨l, List.mem_of_getElem? hi, by simp [hx, hy]⟩
  · rw [decide_eq_false hij, List.any_eq_false]
    intro q hq hc
    simp only [Bool.and_eq_true, decide_eq_true_eq] at hc
    obtain ⟨r, hr⟩ := List.getElem?_of_mem hq
    exact hij ((key i r l q x hi hr hx hc.1).trans (key j r k q y hj hr hy hc.2).symm)
theorem in_lots {M : Nat} {lots : List (List Int)} (h : okLots M lots) {x : Int} (hx : 0 ≤ x ∧ x < M) : ∃ l ∈ lots, x ∈ l := by
  have : x ∈ lots.flatten := h.perm.mem_iff.mpr (mem_plys.mpr hx)
  simpa using List.mem_flatten.mp this
end DI.K77
end

section
set_option Elab.async false
set_option linter.all false
set_option maxRecDepth 100000
set_option pp.maxSteps 800
/-! k77: the plain law, part 8: gathered. -/
namespace DI.K77
open PySem L2
theorem mulL {a : List D} {k : Int} (h : (decide (-(2 ^ 63) ≤ k ∧ k < 2 ^ 63) && fits (a.length * k.toNat)) = true) : binD .Mult (.lst a) (.int k) = some (.ol (List.replicate k.toNat a).flatten) := by
  unfold binD
  exact if_pos h
theorem flat0 (M : Nat) : (List.replicate M [D.int 0]).flatten = List.replicate M (D.int 0) := by
  induction M with
  | zero => rfl
  | succ k ih => rw [List.replicate_succ, List.flatten_cons, ih]; rfl
theorem mul0 {M : Nat} (h : M < 1000000) : binD .Mult (.lst [.int 0]) (.int M) = some (.ol (colL M fun _ => 0)) := by
  rw [mulL, Int.toNat_natCast, flat0, rep0]
  rw [Bool.and_eq_true]
  exact ⟨decide_eq_true (by constructor <;> omega), fits_lt (by simp; omega)⟩
theorem lst0 {F : CF} {env : Envi} : evE F (.lst (.cons (.lit (.int 0)) .nil)) env = .ok (.ol [.int 0], env) :=
  je_lst (jv_cons je_lit jv_nil) rfl (fits_lt (by simp only [List.length_cons, List.length_nil]; omega))
theorem mulE {F : CF} {M : Nat} {xs : List D} {r : Envi} (h : M < 1000000) : evE F (.bin .Mult (.lst (.cons (.lit (.int 0)) .nil)) (.idx (.var 0) (.lit (.int 0)))) (.va (.tup (.int M :: xs)) :: r) = .ok (.ol (colL M fun _ => 0), .va (.tup (.int M :: xs)) :: r) :=
  je_bin lst0 (je_idx (je_var rfl) je_lit rfl rfl ix_0) rfl rfl (mul0 h)
theorem wgt_b {w0 w1 w2 : Int} (t : Int) (h0 : 0 ≤ w0 ∧ w0 ≤ 99) (h1 : 0 ≤ w1 ∧ w1 ≤ 99) (h2 : 0 ≤ w2 ∧ w2 ≤ 99) : 0 ≤ wgt w0 w1 w2 t ∧ wgt w0 w1 w2 t ≤ 99 := by
  unfold wgt; split
  · exact h0
  · split
    · exact h1
    · exact h2
theorem set_col {M : Nat} {f : Int → Int} {x v : Int} (h : 0 ≤ x ∧ x < M) : (colL M f).set x.toNat (.int v) = colL M fun p => if p = x then v else f p := by
  have := put_col (b := false) (f := f) (v := v) h
  have h2 : putS (.li false (colL M f)) (.int x) (.int v) = some (.li false ((colL M f).set x.toNat (.int v))) := by
    show (ixN _ _).map _ = _
    rw [ixN_i (by rw [colL_len]; exact h)]; rfl
  rw [h2] at this
  exact (Sl.li.inj (Option.some.inj this)).2
theorem gathered_i (n : Nat) (M : Nat) (gs : List Game) (lots : List (List Int)) (col : Int → Int) (w0 w1 w2 near : Int) (hs : okSheet M gs) (hl : okLots M lots) (h0 : 0 ≤ w0 ∧ w0 ≤ 99) (h1 : 0 ≤ w1 ∧ w1 ≤ 99) (h2 : 0 ≤ w2 ∧ w2 ≤ 99) :
    evD tab (n + 1) 18 [.va (sheetD M gs), .va (lotsD lots), .va (colD M col), .va (.tup [.int w0, .int w1, .int w2]), .va (.int near)] = .ok (.va (colD M (gath M lots col w0 w1 w2 near gs)), [.un, .un, .un, .un, .un]) := by
  rw [opn (T := tab) (f := 18) _ 5 7 b_gathered rfl rfl]; unfold b_gathered; simp only [List.replicate, List.cons_append, List.nil_append, List.singleton_append]
  have hM : (M : Int) ≤ 16 := hs.mm.2
  have hfl : lots.flatten.length = M := by rw [hl.perm.length_eq, plys_len]
  obtain ⟨env, f1, kvs, s7, s8, s9, rfl, b7, b8, b9, hk, hp⟩ := for_ev (F := evD tab n) (t := .tup (.cons (.nm 7) (.cons (.nm 8) .nil))) (it := .enum (.var 1)) (b := (.cons (.for (.nm 9) (.seq (.var 8)) (.cons (.asg (.sub (.var 6) (.var 9)) (.var 7)) .nil)) .nil))
    (env := [.va (sheetD M gs), .va (lotsD lots), .va (colD M col), .va (.tup [.int w0, .int w1, .int w2]), .va (.int near), .li false (colL M fun _ => 0), .di false [], .un, .un, .un, .un, .un]) (fun i l => .tup [.int i, lotD l])
    (fun pre env => ∃ kvs s7 s8 s9, env = [.va (sheetD M gs), .va (lotsD lots), .va (colD M col), .va (.tup [.int w0, .int w1, .int w2]), .va (.int near), .li false (colL M fun _ => 0), .di false kvs, s7, s8, s9, .un, .un] ∧ s7.bor = false ∧ s8.bor = false ∧ s9.bor = false ∧ kvs.length ≤ pre.flatten.length ∧ plc pre kvs) (xs := lots)
    (by simp only [← enumL_map]; simp [finD, evSs, evS.eq_1, evS.eq_2, evS.eq_3, evS.eq_4, evS.eq_5, evS.eq_6, evS.eq_7, evS.eq_10, evS.eq_11, evS.eq_12, evS.eq_13, evE.eq_1, evE.eq_2, evE.eq_3, evE.eq_4, evE.eq_5, evE.eq_6, evE.eq_7, evE.eq_8, evE.eq_9, evE.eq_10, evE.eq_11, evE.eq_12, evE.eq_13, evE.eq_14, evE.eq_15, evE.eq_16, evE.eq_17, evE.eq_18, evE.eq_19, evE.eq_20, evE.eq_21, evE.eq_22, evE.eq_23, evE.eq_24, evE.eq_25, evE.eq_26, evE.eq_27, evT, evVs, evNs, evO, evI, evC', asgT, asgTs, parS, sto, bor, look, looks, dat, dats, fz, lend, vws, nodupB, back, slotOf, outV, keepB, binD, biD, cmpD, truD, keyD, eqO_str, eqO_int, seqD, itD, srcD, tyD, sz, slc_1, isi_int, isi_ib, isi_str, isi_tup, ix_0, ix_1, ix_2, ix_3, ix_4, ix_5, chg, putS, meTy.eq_1, mutM, meS, meD, Sl.bor.eq_1, Sl.bor.eq_2, Sl.bor.eq_3, Option.bind, List.getElem?_cons_zero, List.getElem?_cons_succ, List.set_cons_zero, List.set_cons_succ, fits_lt]) ⟨[], .un, .un, .un, rfl, rfl, rfl, rfl, by simp, by rintro x ⟨l, hl, _⟩; simp at hl⟩ (by
      rintro pre l post env hr ⟨kvs, s7, s8, s9, rfl, b7, b8, b9, hk, hp⟩
      have hlen : pre.flatten.length + l.length ≤ 16 := by
        have := hfl; rw [hr] at this; simp only [List.flatten_append, List.flatten_cons, List.length_append] at this; omega
      obtain ⟨env, g1, kv2, s92, rfl, b92, hk2, hin, hout⟩ := for_ev (F := evD tab n) (t := .nm 9) (it := .seq (.var 8)) (b := (.cons (.asg (.sub (.var 6) (.var 9)) (.var 7)) .nil))
        (env := [.va (sheetD M gs), .va (lotsD lots), .va (colD M col), .va (.tup [.int w0, .int w1, .int w2]), .va (.int near), .li false (colL M fun _ => 0), .di false kvs, .va (.int pre.length), .va (lotD l), s9, .un, .un]) (fun _ x => .int x)
        (fun ipre env => ∃ kv2 s9, env = [.va (sheetD M gs), .va (lotsD lots), .va (colD M col), .va (.tup [.int w0, .int w1, .int w2]), .va (.int near), .li false (colL M fun _ => 0), .di false kv2, .va (.int pre.length), .va (lotD l), s9, .un, .un] ∧ s9.bor = false ∧ kv2.length ≤ kvs.length + ipre.length ∧ (∀ x ∈ ipre, kget kv2 (.inl x) = some (.int pre.length)) ∧ ∀ x, x ∉ ipre → kget kv2 (.inl x) = kget kvs (.inl x)) (xs := l)
        (by simp only [← idm_map]; simp [finD, evSs, evS.eq_1, evS.eq_2, evS.eq_3, evS.eq_4, evS.eq_5, evS.eq_6, evS.eq_7, evS.eq_10, evS.eq_11, evS.eq_12, evS.eq_13, evE.eq_1, evE.eq_2, evE.eq_3, evE.eq_4, evE.eq_5, evE.eq_6, evE.eq_7, evE.eq_8, evE.eq_9, evE.eq_10, evE.eq_11, evE.eq_12, evE.eq_13, evE.eq_14, evE.eq_15, evE.eq_16, evE.eq_17, evE.eq_18, evE.eq_19, evE.eq_20, evE.eq_21, evE.eq_22, evE.eq_23, evE.eq_24, evE.eq_25, evE.eq_26, evE.eq_27, evT, evVs, evNs, evO, evI, evC', asgT, asgTs, parS, sto, bor, look, looks, dat, dats, fz, lend, vws, nodupB, back, slotOf, outV, keepB, binD, biD, cmpD, truD, keyD, eqO_str, eqO_int, seqD, itD, srcD, tyD, sz, slc_1, isi_int, isi_ib, isi_str, isi_tup, ix_0, ix_1, ix_2, ix_3, ix_4, ix_5, chg, putS, meTy.eq_1, mutM, meS, meD, Sl.bor.eq_1, Sl.bor.eq_2, Sl.bor.eq_3, Option.bind, List.getElem?_cons_zero, List.getElem?_cons_succ, List.set_cons_zero, List.set_cons_succ, fits_lt]) ⟨kvs, s9, rfl, b9, by simp, by simp, by simp⟩ (by
          rintro ipre x ipost env hri ⟨kv2, s9, rfl, b9, hk2, hin, hout⟩
          have hil : ipre.length ≤ l.length := by rw [hri]; simp
          have hl2 : kv2.length < 1000000 := by omega
          refine ⟨_, _, by simp [finD, evSs, evS.eq_1, evS.eq_2, evS.eq_3, evS.eq_4, evS.eq_5, evS.eq_6, evS.eq_7, evS.eq_10, evS.eq_11, evS.eq_12, evS.eq_13, evE.eq_1, evE.eq_2, evE.eq_3, evE.eq_4, evE.eq_5, evE.eq_6, evE.eq_7, evE.eq_8, evE.eq_9, evE.eq_10, evE.eq_11, evE.eq_12, evE.eq_13, evE.eq_14, evE.eq_15, evE.eq_16, evE.eq_17, evE.eq_18, evE.eq_19, evE.eq_20, evE.eq_21, evE.eq_22, evE.eq_23, evE.eq_24, evE.eq_25, evE.eq_26, evE.eq_27, evT, evVs, evNs, evO, evI, evC', asgT, asgTs, parS, sto, bor, look, looks, dat, dats, fz, lend, vws, nodupB, back, slotOf, outV, keepB, binD, biD, cmpD, truD, keyD, eqO_str, eqO_int, seqD, itD, srcD, tyD, sz, slc_1, isi_int, isi_ib, isi_str, isi_tup, ix_0, ix_1, ix_2, ix_3, ix_4, ix_5, chg, putS, meTy.eq_1, mutM, meS, meD, Sl.bor.eq_1, Sl.bor.eq_2, Sl.bor.eq_3, Option.bind, List.getElem?_cons_zero, List.getElem?_cons_succ, List.set_cons_zero, List.set_cons_succ, fits_lt, b9]; rfl, ?_, ⟨kput kv2 (.inl x) (.int pre.length), .va (.int x), rfl, rfl, ?_, ?_, ?_⟩⟩
          · simp [finD, evSs, evS.eq_1, evS.eq_2, evS.eq_3, evS.eq_4, evS.eq_5, evS.eq_6, evS.eq_7, evS.eq_10, evS.eq_11, evS.eq_12, evS.eq_13, evE.eq_1, evE.eq_2, evE.eq_3, evE.eq_4, evE.eq_5, evE.eq_6, evE.eq_7, evE.eq_8, evE.eq_9, evE.eq_10, evE.eq_11, evE.eq_12, evE.eq_13, evE.eq_14, evE.eq_15, evE.eq_16, evE.eq_17, evE.eq_18, evE.eq_19, evE.eq_20, evE.eq_21, evE.eq_22, evE.eq_23, evE.eq_24, evE.eq_25, evE.eq_26, evE.eq_27, evT, evVs, evNs, evO, evI, evC', asgT, asgTs, parS, sto, bor, look, looks, dat, dats, fz, lend, vws, nodupB, back, slotOf, outV, keepB, binD, biD, cmpD, truD, keyD, eqO_str, eqO_int, seqD, itD, srcD, tyD, sz, slc_1, isi_int, isi_ib, isi_str, isi_tup, ix_0, ix_1, ix_2, ix_3, ix_4, ix_5, chg, putS, meTy.eq_1, mutM, meS, meD, Sl.bor.eq_1, Sl.bor.eq_2, Sl.bor.eq_3, Option.bind, List.getElem?_cons_zero, List.getElem?_cons_succ, List.set_cons_zero, List.set_cons_succ, fits_lt, hl2]
          · have := kput_len kv2 (.inl x) (.int pre.length); simp; omega
          · intro y hy
            by_cases hxy : y = x
            · subst hxy; exact kget_put _ _ _
            · exact (kget_put_ne (by simpa using hxy)).trans (hin y (by simpa [hxy] using hy))
          · intro y hy
            have hxy : y ≠ x := by rintro rfl; simp at hy
            exact (kget_put_ne (by simpa using hxy)).trans (hout y (by simp at hy; exact hy.1)))
      refine ⟨_, _, by simp [finD, evSs, evS.eq_1, evS.eq_2, evS.eq_3, evS.eq_4, evS.eq_5, evS.eq_6, evS.eq_7, evS.eq_10, evS.eq_11, evS.eq_12, evS.eq_13, evE.eq_1, evE.eq_2, evE.eq_3, evE.eq_4, evE.eq_5, evE.eq_6, evE.eq_7, evE.eq_8, evE.eq_9, evE.eq_10, evE.eq_11, evE.eq_12, evE.eq_13, evE.eq_14, evE.eq_15, evE.eq_16, evE.eq_17, evE.eq_18, evE.eq_19, evE.eq_20, evE.eq_21, evE.eq_22, evE.eq_23, evE.eq_24, evE.eq_25, evE.eq_26, evE.eq_27, evT, evVs, evNs, evO, evI, evC', asgT, asgTs, parS, sto, bor, look, looks, dat, dats, fz, lend, vws, nodupB, back, slotOf, outV, keepB, binD, biD, cmpD, truD, keyD, eqO_str, eqO_int, seqD, itD, srcD, tyD, sz, slc_1, isi_int, isi_ib, isi_str, isi_tup, ix_0, ix_1, ix_2, ix_3, ix_4, ix_5, chg, putS, meTy.eq_1, mutM, meS, meD, Sl.bor.eq_1, Sl.bor.eq_2, Sl.bor.eq_3, Option.bind, List.getElem?_cons_zero, List.getElem?_cons_succ, List.set_cons_zero, List.set_cons_succ, fits_lt, b7, b8]; rfl, ?_, ⟨kv2, .va (.int pre.length), .va (lotD l), s92, rfl, rfl, rfl, b92, ?_, ?_⟩⟩
      · simp [finD, evSs, evS.eq_1, evS.eq_2, evS.eq_3, evS.eq_4, evS.eq_5, evS.eq_6, evS.eq_7, evS.eq_10, evS.eq_11, evS.eq_12, evS.eq_13, evE.eq_1, evE.eq_2, evE.eq_3, evE.eq_4, evE.eq_5, evE.eq_6, evE.eq_7, evE.eq_8, evE.eq_9, evE.eq_10, evE.eq_11, evE.eq_12, evE.eq_13, evE.eq_14, evE.eq_15, evE.eq_16, evE.eq_17, evE.eq_18, evE.eq_19, evE.eq_20, evE.eq_21, evE.eq_22, evE.eq_23, evE.eq_24, evE.eq_25, evE.eq_26, evE.eq_27, evT, evVs, evNs, evO, evI, evC', asgT, asgTs, parS, sto, bor, look, looks, dat, dats, fz, lend, vws, nodupB, back, slotOf, outV, keepB, binD, biD, cmpD, truD, keyD, eqO_str, eqO_int, seqD, itD, srcD, tyD, sz, slc_1, isi_int, isi_ib, isi_str, isi_tup, ix_0, ix_1, ix_2, ix_3, ix_4, ix_5, chg, putS, meTy.eq_1, mutM, meS, meD, Sl.bor.eq_1, Sl.bor.eq_2, Sl.bor.eq_3, Option.bind, List.getElem?_cons_zero, List.getElem?_cons_succ, List.set_cons_zero, List.set_cons_succ, fits_lt, g1]
      · simp; simp at hk; omega
      · rintro x ⟨l', hl', hx⟩
        by_cases hxl : x ∈ l
        · exact ⟨pre.length, l, by simp, hxl, hin x hxl⟩
        · obtain ⟨i, k, q1, q2, q3⟩ := hp x ⟨l', by
            simp at hl'
            rcases hl' with q | rfl
            · exact q
            · exact absurd hx hxl, hx⟩
          refine ⟨i, k, ?_, q2, (hout x hxl).trans q3⟩
          rw [List.getElem?_append_left (List.getElem?_eq_some_iff.mp q1).1]; exact q1)
  obtain ⟨env, k1, s9', s10, s11, rfl, b9', b10, b11⟩ := for_ev (F := evD tab n) (t := .tup (.cons (.nm 9) (.cons (.nm 10) (.cons (.nm 11) .nil)))) (it := .seq (.idx (.var 0) (.lit (.int 1)))) (b := (.cons (.ifs (.and (.e (.cmp .Lt (.var 10) (.idx (.var 0) (.lit (.int 0))))) (.or (.e (.cmp .Eq (.var 4) (.lit (.int 0)))) (.e (.cmp .Eq (.idx (.var 6) (.var 9)) (.idx (.var 6) (.var 10)))))) (.cons (.asg (.sub (.var 5) (.var 9)) (.bin .Add (.idx (.var 5) (.var 9)) (.bin .Mult (.idx (.var 3) (.bin .Sub (.lit (.int 2)) (.var 11))) (.idx (.var 2) (.var 10))))) (.cons (.asg (.sub (.var 5) (.var 10)) (.bin .Add (.idx (.var 5) (.var 10)) (.bin .Mult (.idx (.var 3) (.var 11)) (.idx (.var 2) (.var 9))))) .nil)) .nil) .nil))
    (env := [.va (sheetD M gs), .va (lotsD lots), .va (colD M col), .va (.tup [.int w0, .int w1, .int w2]), .va (.int near), .li false (colL M fun _ => 0), .di false kvs, s7, s8, s9, .un, .un]) (fun _ g => g.enc)
    (fun pre env => ∃ s9 s10 s11, env = [.va (sheetD M gs), .va (lotsD lots), .va (colD M col), .va (.tup [.int w0, .int w1, .int w2]), .va (.int near), .li false (colL M (gath M lots col w0 w1 w2 near pre)), .di false kvs, s7, s8, s9, s10, s11] ∧ s9.bor = false ∧ s10.bor = false ∧ s11.bor = false) (xs := gs)
    (by simp only [← idm_map]; simp [finD, evSs, evS.eq_1, evS.eq_2, evS.eq_3, evS.eq_4, evS.eq_5, evS.eq_6, evS.eq_7, evS.eq_10, evS.eq_11, evS.eq_12, evS.eq_13, evE.eq_1, evE.eq_2, evE.eq_3, evE.eq_4, evE.eq_5, evE.eq_6, evE.eq_7, evE.eq_8, evE.eq_9, evE.eq_10, evE.eq_11, evE.eq_12, evE.eq_13, evE.eq_14, evE.eq_15, evE.eq_16, evE.eq_17, evE.eq_18, evE.eq_19, evE.eq_20, evE.eq_21, evE.eq_22, evE.eq_23, evE.eq_24, evE.eq_25, evE.eq_26, evE.eq_27, evT, evVs, evNs, evO, evI, evC', asgT, asgTs, parS, sto, bor, look, looks, dat, dats, fz, lend, vws, nodupB, back, slotOf, outV, keepB, binD, biD, cmpD, truD, keyD, eqO_str, eqO_int, seqD, itD, srcD, tyD, sz, slc_1, isi_int, isi_ib, isi_str, isi_tup, ix_0, ix_1, ix_2, ix_3, ix_4, ix_5, chg, putS, meTy.eq_1, mutM, meS, meD, Sl.bor.eq_1, Sl.bor.eq_2, Sl.bor.eq_3, Option.bind, List.getElem?_cons_zero, List.getElem?_cons_succ, List.set_cons_zero, List.set_cons_succ, fits_lt]) ⟨s9, .un, .un, rfl, b9, rfl, rfl⟩ (by
      rintro pre g post env hr ⟨s9, s10, s11, rfl, b9, b10, b11⟩
      obtain ⟨hb, ha, ht⟩ := hs.game g (mem_mid hr)
      obtain ⟨a, b, t⟩ := g
      dsimp only at hb ha ht
      refine ⟨_, _, by simp [finD, evSs, evS.eq_1, evS.eq_2, evS.eq_3, evS.eq_4, evS.eq_5, evS.eq_6, evS.eq_7, evS.eq_10, evS.eq_11, evS.eq_12, evS.eq_13, evE.eq_1, evE.eq_2, evE.eq_3, evE.eq_4, evE.eq_5, evE.eq_6, evE.eq_7, evE.eq_8, evE.eq_9, evE.eq_10, evE.eq_11, evE.eq_12, evE.eq_13, evE.eq_14, evE.eq_15, evE.eq_16, evE.eq_17, evE.eq_18, evE.eq_19, evE.eq_20, evE.eq_21, evE.eq_22, evE.eq_23, evE.eq_24, evE.eq_25, evE.eq_26, evE.eq_27, evT, evVs, evNs, evO, evI, evC', asgT, asgTs, parS, sto, bor, look, looks, dat, dats, fz, lend, vws, nodupB, back, slotOf, outV, keepB, binD, biD, cmpD, truD, keyD, eqO_str, eqO_int, seqD, itD, srcD, tyD, sz, slc_1, isi_int, isi_ib, isi_str, isi_tup, ix_0, ix_1, ix_2, ix_3, ix_4, ix_5, chg, putS, meTy.eq_1, mutM, meS, meD, Sl.bor.eq_1, Sl.bor.eq_2, Sl.bor.eq_3, Option.bind, List.getElem?_cons_zero, List.getElem?_cons_succ, List.set_cons_zero, List.set_cons_succ, fits_lt, Game.enc, b9, b10, b11]; rfl, ?_, ⟨.va (.int a), .va (.int b), .va (.int t), rfl, rfl, rfl, rfl⟩⟩
      have hg : gath M lots col w0 w1 w2 near (pre ++ [⟨a, b, t⟩]) = fun p => gath M lots col w0 w1 w2 near pre p + con M lots col w0 w1 w2 near ⟨a, b, t⟩ p := by funext p; simp [gath]
      rw [hg]
      by_cases hbM : b < M
      · obtain ⟨i, l, q1, q2, q3⟩ := hp a (in_lots hl ⟨by omega, by omega⟩)
        obtain ⟨j, k, r1, r2, r3⟩ := hp b (in_lots hl ⟨by omega, hbM⟩)
        have hsame := same_iff hl q1 q2 r1 r2
        have hA : 0 ≤ a ∧ a < M := by omega
        have hB : 0 ≤ b ∧ b < M := by omega
        have v1 := wgt_b (2 - t) h0 h1 h2
        have v2 := wgt_b t h0 h1 h2
        have hm1 := jb_mul (a := wgt w0 w1 w2 (2 - t)) (b := col b) (.inl (by omega))
        have hm2 := jb_mul (a := wgt w0 w1 w2 t) (b := col a) (.inl (by omega))
        have wb1 : -18446744073709551616 < wgt w0 w1 w2 (2 - t) ∧ wgt w0 w1 w2 (2 - t) < 18446744073709551616 := by omega
        have wb2 : -18446744073709551616 < wgt w0 w1 w2 t ∧ wgt w0 w1 w2 t < 18446744073709551616 := by omega
        have ht' : (if b = (M : Int) then (2 : Int) else 0) = 0 := if_neg (by omega)
        rw [ht'] at ht
        have hw1 := ix_w (w0 := w0) (w1 := w1) (w2 := w2) (t := 2 - t) (by omega)
        have hw2 := ix_w (w0 := w0) (w1 := w1) (w2 := w2) (t := t) ht
        have hab : ¬ b = a := by omega
        by_cases hn : near = 0 ∨ i = j
        · have hc : ∀ p, con M lots col w0 w1 w2 near ⟨a, b, t⟩ p = (if p = a then wgt w0 w1 w2 (2 - t) * col b else 0) + (if p = b then wgt w0 w1 w2 t * col a else 0) := by
            intro p; unfold con; rw [if_pos ⟨hbM, by rw [hsame]; simpa using hn⟩]
          have hfin : (colL M fun p => if p = b then gath M lots col w0 w1 w2 near pre b + wgt w0 w1 w2 t * col a else if p = a then gath M lots col w0 w1 w2 near pre a + wgt w0 w1 w2 (2 - t) * col b else gath M lots col w0 w1 w2 near pre p) = colL M fun p => gath M lots col w0 w1 w2 near pre p + con M lots col w0 w1 w2 near ⟨a, b, t⟩ p := by
            congr 1; funext p; rw [hc]
            by_cases hpb : p = b
            · subst hpb; simp [hab]
            · by_cases hpa : p = a
              · subst hpa; simp [hpb]
              · simp [hpa, hpb]
          have hp1 := put_col (b := false) (f := gath M lots col w0 w1 w2 near pre) (v := gath M lots col w0 w1 w2 near pre a + wgt w0 w1 w2 (2 - t) * col b) hA
          rw [← hfin]
          have hij : near = 0 ∨ (i : Int) = j := by omega
          have hp2 := put_col (b := false) (f := fun p => if p = a then gath M lots col w0 w1 w2 near pre a + wgt w0 w1 w2 (2 - t) * col b else gath M lots col w0 w1 w2 near pre p) (v := gath M lots col w0 w1 w2 near pre b + wgt w0 w1 w2 t * col a) hB
          by_cases hnz : near = 0
          · simp [finD, evSs, evS.eq_1, evS.eq_2, evS.eq_3, evS.eq_4, evS.eq_5, evS.eq_6, evS.eq_7, evS.eq_10, evS.eq_11, evS.eq_12, evS.eq_13, evE.eq_1, evE.eq_2, evE.eq_3, evE.eq_4, evE.eq_5, evE.eq_6, evE.eq_7, evE.eq_8, evE.eq_9, evE.eq_10, evE.eq_11, evE.eq_12, evE.eq_13, evE.eq_14, evE.eq_15, evE.eq_16, evE.eq_17, evE.eq_18, evE.eq_19, evE.eq_20, evE.eq_21, evE.eq_22, evE.eq_23, evE.eq_24, evE.eq_25, evE.eq_26, evE.eq_27, evT, evVs, evNs, evO, evI, evC', asgT, asgTs, parS, sto, bor, look, looks, dat, dats, fz, lend, vws, nodupB, back, slotOf, outV, keepB, binD, biD, cmpD, truD, keyD, eqO_str, eqO_int, seqD, itD, srcD, tyD, sz, slc_1, isi_int, isi_ib, isi_str, isi_tup, ix_0, ix_1, ix_2, ix_3, ix_4, ix_5, chg, putS, meTy.eq_1, mutM, meS, meD, Sl.bor.eq_1, Sl.bor.eq_2, Sl.bor.eq_3, Option.bind, List.getElem?_cons_zero, List.getElem?_cons_succ, List.set_cons_zero, List.set_cons_succ, fits_lt, hbM, hnz, ix_colL hA, ix_colL hB, ix_col hA, ix_col hB, hw1, hw2, wb1, wb2, colL_len, ixN_i hA, ixN_i hB, set_col hA, set_col hB, hab]

          · have hij2 : (i : Int) = j := by omega
            simp [finD, evSs, evS.eq_1, evS.eq_2, evS.eq_3, evS.eq_4, evS.eq_5, evS.eq_6, evS.eq_7, evS.eq_10, evS.eq_11, evS.eq_12, evS.eq_13, evE.eq_1, evE.eq_2, evE.eq_3, evE.eq_4, evE.eq_5, evE.eq_6, evE.eq_7, evE.eq_8, evE.eq_9, evE.eq_10, evE.eq_11, evE.eq_12, evE.eq_13, evE.eq_14, evE.eq_15, evE.eq_16, evE.eq_17, evE.eq_18, evE.eq_19, evE.eq_20, evE.eq_21, evE.eq_22, evE.eq_23, evE.eq_24, evE.eq_25, evE.eq_26, evE.eq_27, evT, evVs, evNs, evO, evI, evC', asgT, asgTs, parS, sto, bor, look, looks, dat, dats, fz, lend, vws, nodupB, back, slotOf, outV, keepB, binD, biD, cmpD, truD, keyD, eqO_str, eqO_int, seqD, itD, srcD, tyD, sz, slc_1, isi_int, isi_ib, isi_str, isi_tup, ix_0, ix_1, ix_2, ix_3, ix_4, ix_5, chg, putS, meTy.eq_1, mutM, meS, meD, Sl.bor.eq_1, Sl.bor.eq_2, Sl.bor.eq_3, Option.bind, List.getElem?_cons_zero, List.getElem?_cons_succ, List.set_cons_zero, List.set_cons_succ, fits_lt, hbM, hnz, hij2, jb_dctI q3, jb_dctI r3, ix_colL hA, ix_colL hB, ix_col hA, ix_col hB, hw1, hw2, wb1, wb2, colL_len, ixN_i hA, ixN_i hB, set_col hA, set_col hB, hab]

        · have hc : con M lots col w0 w1 w2 near ⟨a, b, t⟩ = fun _ => 0 := by
            funext p; unfold con; rw [if_neg (by rw [hsame]; intro h; exact hn (by simpa using h.2))]
          have hn1 : ¬ near = 0 := fun h => hn (.inl h)
          have hn2 : ¬ (i : Int) = j := fun h => hn (.inr (by omega))
          rw [hc]
          simp [finD, evSs, evS.eq_1, evS.eq_2, evS.eq_3, evS.eq_4, evS.eq_5, evS.eq_6, evS.eq_7, evS.eq_10, evS.eq_11, evS.eq_12, evS.eq_13, evE.eq_1, evE.eq_2, evE.eq_3, evE.eq_4, evE.eq_5, evE.eq_6, evE.eq_7, evE.eq_8, evE.eq_9, evE.eq_10, evE.eq_11, evE.eq_12, evE.eq_13, evE.eq_14, evE.eq_15, evE.eq_16, evE.eq_17, evE.eq_18, evE.eq_19, evE.eq_20, evE.eq_21, evE.eq_22, evE.eq_23, evE.eq_24, evE.eq_25, evE.eq_26, evE.eq_27, evT, evVs, evNs, evO, evI, evC', asgT, asgTs, parS, sto, bor, look, looks, dat, dats, fz, lend, vws, nodupB, back, slotOf, outV, keepB, binD, biD, cmpD, truD, keyD, eqO_str, eqO_int, seqD, itD, srcD, tyD, sz, slc_1, isi_int, isi_ib, isi_str, isi_tup, ix_0, ix_1, ix_2, ix_3, ix_4, ix_5, chg, putS, meTy.eq_1, mutM, meS, meD, Sl.bor.eq_1, Sl.bor.eq_2, Sl.bor.eq_3, Option.bind, List.getElem?_cons_zero, List.getElem?_cons_succ, List.set_cons_zero, List.set_cons_succ, fits_lt, hbM, hn1, hn2, jb_dctI q3, jb_dctI r3]
      · have hc : con M lots col w0 w1 w2 near ⟨a, b, t⟩ = fun _ => 0 := by funext p; simp [con, hbM]
        rw [hc]
        simp [finD, evSs, evS.eq_1, evS.eq_2, evS.eq_3, evS.eq_4, evS.eq_5, evS.eq_6, evS.eq_7, evS.eq_10, evS.eq_11, evS.eq_12, evS.eq_13, evE.eq_1, evE.eq_2, evE.eq_3, evE.eq_4, evE.eq_5, evE.eq_6, evE.eq_7, evE.eq_8, evE.eq_9, evE.eq_10, evE.eq_11, evE.eq_12, evE.eq_13, evE.eq_14, evE.eq_15, evE.eq_16, evE.eq_17, evE.eq_18, evE.eq_19, evE.eq_20, evE.eq_21, evE.eq_22, evE.eq_23, evE.eq_24, evE.eq_25, evE.eq_26, evE.eq_27, evT, evVs, evNs, evO, evI, evC', asgT, asgTs, parS, sto, bor, look, looks, dat, dats, fz, lend, vws, nodupB, back, slotOf, outV, keepB, binD, biD, cmpD, truD, keyD, eqO_str, eqO_int, seqD, itD, srcD, tyD, sz, slc_1, isi_int, isi_ib, isi_str, isi_tup, ix_0, ix_1, ix_2, ix_3, ix_4, ix_5, chg, putS, meTy.eq_1, mutM, meS, meD, Sl.bor.eq_1, Sl.bor.eq_2, Sl.bor.eq_3, Option.bind, List.getElem?_cons_zero, List.getElem?_cons_succ, List.set_cons_zero, List.set_cons_succ, fits_lt, hbM])
  have hM2 : M < 1000000 := by omega
  clear hM hfl
  simp [finD, evSs, evS.eq_1, evS.eq_2, evS.eq_3, evS.eq_4, evS.eq_5, evS.eq_6, evS.eq_7, evS.eq_10, evS.eq_11, evS.eq_12, evS.eq_13, evE.eq_1, evE.eq_2, evE.eq_3, evE.eq_4, evE.eq_5, evE.eq_6, evE.eq_7, evE.eq_8, evE.eq_9, evE.eq_10, evE.eq_11, evE.eq_12, evE.eq_13, evE.eq_14, evE.eq_15, evE.eq_16, evE.eq_17, evE.eq_18, evE.eq_19, evE.eq_20, evE.eq_21, evE.eq_22, evE.eq_23, evE.eq_24, evE.eq_25, evE.eq_26, evE.eq_27, evT, evVs, evNs, evO, evI, evC', asgT, asgTs, parS, sto, bor, look, looks, dat, dats, fz, lend, vws, nodupB, back, slotOf, outV, keepB, binD, biD, cmpD, truD, keyD, eqO_str, eqO_int, seqD, itD, srcD, tyD, sz, slc_1, isi_int, isi_ib, isi_str, isi_tup, ix_0, ix_1, ix_2, ix_3, ix_4, ix_5, chg, putS, meTy.eq_1, mutM, meS, meD, Sl.bor.eq_1, Sl.bor.eq_2, Sl.bor.eq_3, Option.bind, List.getElem?_cons_zero, List.getElem?_cons_succ, List.set_cons_zero, List.set_cons_succ, fits_lt, ↓mulE hM2, f1, k1]
end DI.K77
end

section
set_option Elab.async false
set_option linter.all false
set_option maxRecDepth 100000
set_option pp.maxSteps 800
/-! k77: the plain law, part 9: a row's column. -/
namespace DI.K77
open PySem L2
theorem rngL_plys (M : Nat) : rngL 0 M = (plys M).map .int := by
  have : ∀ (M : Nat) (lo : Nat), rngL (lo : Int) M = (List.range M).map fun k => .int ((lo + k : Nat) : Int) := by
    intro M
    induction M with
    | zero => intro lo; rfl
    | succ k ih =>
      intro lo
      rw [rngL, List.range_succ_eq_map, List.map_cons, List.map_map]
      have := ih (lo + 1)
      rw [show ((lo + 1 : Nat) : Int) = (lo : Int) + 1 by omega] at this
      rw [this]
      congr 1
      apply List.map_congr_left
      intro x _
      show D.int _ = D.int _
      congr 1
      show ((lo + 1 + x : Nat) : Int) = ((lo + (x + 1) : Nat) : Int)
      omega
  have h := this M 0
  rw [show ((0 : Nat) : Int) = 0 by rfl] at h
  rw [h]
  unfold plys
  rw [List.map_map]
  apply List.map_congr_left
  intro x _
  simp
def colOf (M : Nat) (gs : List Game) (lots : List (List Int)) (cf : Int → Int → Int) : Row → Int → Int
  | .put _ n => fun _ => n
  | .byes _ n => fun p => n * (((gs.filter fun g => decide (g.b = (M : Int))).map Game.a).count p : Nat)
  | .gather _ s w0 w1 w2 near => gath M lots (cf s) w0 w1 w2 near gs
  | .add _ s t => fun p => cf s p + cf t p
  | .times _ s n => fun p => cf s p * n
  | .part _ => fun _ => 0
theorem itD_rngI {lo hi : Int} (h : -(2 ^ 62) ≤ lo ∧ lo < 2 ^ 62 ∧ -(2 ^ 62) ≤ hi ∧ hi < 2 ^ 62) : itD (.rng lo hi) = some (rngL lo (hi - lo).toNat) := by
  unfold itD
  exact if_pos (decide_eq_true h)
theorem itD_rng {M : Nat} (h : M < 1000000) : itD (.rng 0 M) = some ((plys M).map .int) := by
  rw [itD_rngI (by omega), show ((M : Int) - 0).toNat = M by omega, rngL_plys]
theorem colL_map (M : Nat) (f : Int → Int) : colL M f = ((plys M).map D.int).map (fun d : D => match d with
  | D.int p => D.int (f p)
  | d => d) := by
  unfold colL
  rw [List.map_map]
  rfl
end DI.K77
end

section
set_option Elab.async false
set_option linter.all false
set_option maxRecDepth 100000
set_option pp.maxSteps 800
/-! k77: the plain law, part 10: column_of. -/
namespace DI.K77
open PySem L2
theorem plys_small {M : Nat} (h : M ≤ 16) : (plys M).length < 1000000 := by rw [plys_len]; omega
theorem column_put (n : Nat) (M : Nat) (gs : List Game) (LD CD : D) (c k : Int) (hM : M ≤ 16) :
    evD tab (n + 2) 17 [.va (sheetD M gs), .va LD, .va CD, .va (Row.put c k).enc] = .ok (.va (colD M fun _ => k), [.un, .un, .un, .un]) := by
  rw [opn (T := tab) (f := 17) _ 4 5 b_column_of rfl rfl]; unfold b_column_of; simp only [List.replicate, List.cons_append, List.nil_append, List.singleton_append]
  have hM2 : M < 1000000 := by omega
  have := comp_evY (F := evD tab (n + 1)) (a := .idx (.var 3) (.lit (.int 2))) (tg := .nm 5) (it := .seq (.var 4)) (own := [("one", 5)]) (env := [.va (sheetD M gs), .va LD, .va CD, .va (Row.put c k).enc, .va (.rng 0 M), .un, .un, .un, .un]) (xs := plys M) .int (fun _ => .int k)
    (jw_seq (je_var rfl) rfl (itD_rng hM2)) rfl rfl (plys_small hM) (by
      intro p hp
      exact ⟨_, _, by simp [finD, evSs, evS.eq_1, evS.eq_2, evS.eq_3, evS.eq_4, evS.eq_5, evS.eq_6, evS.eq_7, evS.eq_10, evS.eq_11, evS.eq_12, evS.eq_13, evE.eq_1, evE.eq_2, evE.eq_3, evE.eq_4, evE.eq_5, evE.eq_6, evE.eq_7, evE.eq_8, evE.eq_9, evE.eq_10, evE.eq_11, evE.eq_12, evE.eq_13, evE.eq_14, evE.eq_15, evE.eq_16, evE.eq_17, evE.eq_18, evE.eq_19, evE.eq_20, evE.eq_21, evE.eq_22, evE.eq_23, evE.eq_24, evE.eq_25, evE.eq_26, evE.eq_27, evT, evVs, evNs, evO, evI, evC', asgT, asgTs, parS, sto, bor, look, looks, dat, dats, fz, lend, vws, nodupB, back, slotOf, outV, keepB, binD, biD, cmpD, truD, keyD, eqO_str, eqO_int, seqD, itD, srcD, tyD, sz, slc_1, isi_int, isi_ib, isi_str, isi_tup, ix_0, ix_1, ix_2, ix_3, ix_4, ix_5, chg, putS, meTy.eq_1, mutM, meS, meD, Sl.bor.eq_1, Sl.bor.eq_2, Sl.bor.eq_3, Option.bind, List.getElem?_cons_zero, List.getElem?_cons_succ, List.set_cons_zero, List.set_cons_succ, fits_lt, wipeE, Sl.bor]; rfl, by rfl, by rfl, by simp [finD, evSs, evS.eq_1, evS.eq_2, evS.eq_3, evS.eq_4, evS.eq_5, evS.eq_6, evS.eq_7, evS.eq_10, evS.eq_11, evS.eq_12, evS.eq_13, evE.eq_1, evE.eq_2, evE.eq_3, evE.eq_4, evE.eq_5, evE.eq_6, evE.eq_7, evE.eq_8, evE.eq_9, evE.eq_10, evE.eq_11, evE.eq_12, evE.eq_13, evE.eq_14, evE.eq_15, evE.eq_16, evE.eq_17, evE.eq_18, evE.eq_19, evE.eq_20, evE.eq_21, evE.eq_22, evE.eq_23, evE.eq_24, evE.eq_25, evE.eq_26, evE.eq_27, evT, evVs, evNs, evO, evI, evC', asgT, asgTs, parS, sto, bor, look, looks, dat, dats, fz, lend, vws, nodupB, back, slotOf, outV, keepB, binD, biD, cmpD, truD, keyD, eqO_str, eqO_int, seqD, itD, srcD, tyD, sz, slc_1, isi_int, isi_ib, isi_str, isi_tup, ix_0, ix_1, ix_2, ix_3, ix_4, ix_5, chg, putS, meTy.eq_1, mutM, meS, meD, Sl.bor.eq_1, Sl.bor.eq_2, Sl.bor.eq_3, Option.bind, List.getElem?_cons_zero, List.getElem?_cons_succ, List.set_cons_zero, List.set_cons_succ, fits_lt, Row.enc]; rfl, by rfl⟩) rfl
  simp only [Row.enc] at this ⊢
  apply fin_rt
  · (apply st_nx; (· (simp [finD, evSs, evS.eq_1, evS.eq_2, evS.eq_3, evS.eq_4, evS.eq_5, evS.eq_6, evS.eq_7, evS.eq_10, evS.eq_11, evS.eq_12, evS.eq_13, evE.eq_1, evE.eq_2, evE.eq_3, evE.eq_4, evE.eq_5, evE.eq_6, evE.eq_7, evE.eq_8, evE.eq_9, evE.eq_10, evE.eq_11, evE.eq_12, evE.eq_13, evE.eq_14, evE.eq_15, evE.eq_16, evE.eq_17, evE.eq_18, evE.eq_19, evE.eq_20, evE.eq_21, evE.eq_22, evE.eq_23, evE.eq_24, evE.eq_25, evE.eq_26, evE.eq_27, evT, evVs, evNs, evO, evI, evC', asgT, asgTs, parS, sto, bor, look, looks, dat, dats, fz, lend, vws, nodupB, back, slotOf, outV, keepB, binD, biD, cmpD, truD, keyD, eqO_str, eqO_int, seqD, itD, srcD, tyD, sz, slc_1, isi_int, isi_ib, isi_str, isi_tup, ix_0, ix_1, ix_2, ix_3, ix_4, ix_5, chg, putS, meTy.eq_1, mutM, meS, meD, Sl.bor.eq_1, Sl.bor.eq_2, Sl.bor.eq_3, Option.bind, List.getElem?_cons_zero, List.getElem?_cons_succ, List.set_cons_zero, List.set_cons_succ, fits_lt]; try (first | rfl | exact ⟨rfl, rfl⟩))))
    (apply st_rt; apply if_t; (· (simp [finD, evSs, evS.eq_1, evS.eq_2, evS.eq_3, evS.eq_4, evS.eq_5, evS.eq_6, evS.eq_7, evS.eq_10, evS.eq_11, evS.eq_12, evS.eq_13, evE.eq_1, evE.eq_2, evE.eq_3, evE.eq_4, evE.eq_5, evE.eq_6, evE.eq_7, evE.eq_8, evE.eq_9, evE.eq_10, evE.eq_11, evE.eq_12, evE.eq_13, evE.eq_14, evE.eq_15, evE.eq_16, evE.eq_17, evE.eq_18, evE.eq_19, evE.eq_20, evE.eq_21, evE.eq_22, evE.eq_23, evE.eq_24, evE.eq_25, evE.eq_26, evE.eq_27, evT, evVs, evNs, evO, evI, evC', asgT, asgTs, parS, sto, bor, look, looks, dat, dats, fz, lend, vws, nodupB, back, slotOf, outV, keepB, binD, biD, cmpD, truD, keyD, eqO_str, eqO_int, seqD, itD, srcD, tyD, sz, slc_1, isi_int, isi_ib, isi_str, isi_tup, ix_0, ix_1, ix_2, ix_3, ix_4, ix_5, chg, putS, meTy.eq_1, mutM, meS, meD, Sl.bor.eq_1, Sl.bor.eq_2, Sl.bor.eq_3, Option.bind, List.getElem?_cons_zero, List.getElem?_cons_succ, List.set_cons_zero, List.set_cons_succ, fits_lt]; try (first | rfl | exact ⟨rfl, rfl⟩))))
    (apply st_rt; (· (simp [finD, evSs, evS.eq_1, evS.eq_2, evS.eq_3, evS.eq_4, evS.eq_5, evS.eq_6, evS.eq_7, evS.eq_10, evS.eq_11, evS.eq_12, evS.eq_13, evE.eq_1, evE.eq_2, evE.eq_3, evE.eq_4, evE.eq_5, evE.eq_6, evE.eq_7, evE.eq_8, evE.eq_9, evE.eq_10, evE.eq_11, evE.eq_12, evE.eq_13, evE.eq_14, evE.eq_15, evE.eq_16, evE.eq_17, evE.eq_18, evE.eq_19, evE.eq_20, evE.eq_21, evE.eq_22, evE.eq_23, evE.eq_24, evE.eq_25, evE.eq_26, evE.eq_27, evT, evVs, evNs, evO, evI, evC', asgT, asgTs, parS, sto, bor, look, looks, dat, dats, fz, lend, vws, nodupB, back, slotOf, outV, keepB, binD, biD, cmpD, truD, keyD, eqO_str, eqO_int, seqD, itD, srcD, tyD, sz, slc_1, isi_int, isi_ib, isi_str, isi_tup, ix_0, ix_1, ix_2, ix_3, ix_4, ix_5, chg, putS, meTy.eq_1, mutM, meS, meD, Sl.bor.eq_1, Sl.bor.eq_2, Sl.bor.eq_3, Option.bind, List.getElem?_cons_zero, List.getElem?_cons_succ, List.set_cons_zero, List.set_cons_succ, fits_lt, this]; try (first | rfl | exact ⟨rfl, rfl⟩))))
  · rfl
  · rfl
theorem column_byes (n : Nat) (M : Nat) (gs : List Game) (LD CD : D) (c k : Int) (hs : okSheet M gs) (hk : 0 ≤ k ∧ k ≤ 1000) :
    evD tab (n + 2) 17 [.va (sheetD M gs), .va LD, .va CD, .va (Row.byes c k).enc] = .ok (.va (colD M fun p => k * (((gs.filter fun g => decide (g.b = (M : Int))).map Game.a).count p : Nat)), [.un, .un, .un, .un]) := by
  rw [opn (T := tab) (f := 17) _ 4 5 b_column_of rfl rfl]; unfold b_column_of; simp only [List.replicate, List.cons_append, List.nil_append, List.singleton_append]
  have hM : (M : Int) ≤ 16 := hs.mm.2
  have hM1 : M ≤ 16 := by omega
  have hM2 : M < 1000000 := by omega
  have hlen := hs.len
  have c1 := comp_evX (F := evD tab (n + 1)) (a := .var 5) (tg := .tup (.cons (.nm 5) (.cons (.nm 7) (.cons (.nm 8) .nil)))) (it := .seq (.idx (.var 0) (.lit (.int 1)))) (k := .so (.e (.cmp .Eq (.var 7) (.idx (.var 0) (.lit (.int 0)))))) (own := [("one", 5), ("other", 7), ("told", 8)]) (env := [.va (sheetD M gs), .va LD, .va CD, .va (Row.byes c k).enc, .va (.rng 0 M), .un, .un, .un, .un]) (xs := gs) Game.enc (fun g => decide (g.b = (M : Int))) (fun g => .int g.a)
    (by simp [finD, evSs, evS.eq_1, evS.eq_2, evS.eq_3, evS.eq_4, evS.eq_5, evS.eq_6, evS.eq_7, evS.eq_10, evS.eq_11, evS.eq_12, evS.eq_13, evE.eq_1, evE.eq_2, evE.eq_3, evE.eq_4, evE.eq_5, evE.eq_6, evE.eq_7, evE.eq_8, evE.eq_9, evE.eq_10, evE.eq_11, evE.eq_12, evE.eq_13, evE.eq_14, evE.eq_15, evE.eq_16, evE.eq_17, evE.eq_18, evE.eq_19, evE.eq_20, evE.eq_21, evE.eq_22, evE.eq_23, evE.eq_24, evE.eq_25, evE.eq_26, evE.eq_27, evT, evVs, evNs, evO, evI, evC', asgT, asgTs, parS, sto, bor, look, looks, dat, dats, fz, lend, vws, nodupB, back, slotOf, outV, keepB, binD, biD, cmpD, truD, keyD, eqO_str, eqO_int, seqD, itD, srcD, tyD, sz, slc_1, isi_int, isi_ib, isi_str, isi_tup, ix_0, ix_1, ix_2, ix_3, ix_4, ix_5, chg, putS, meTy.eq_1, mutM, meS, meD, Sl.bor.eq_1, Sl.bor.eq_2, Sl.bor.eq_3, Option.bind, List.getElem?_cons_zero, List.getElem?_cons_succ, List.set_cons_zero, List.set_cons_succ, fits_lt]) rfl rfl (by omega) (by
      intro g hg
      exact ⟨_, by simp [finD, evSs, evS.eq_1, evS.eq_2, evS.eq_3, evS.eq_4, evS.eq_5, evS.eq_6, evS.eq_7, evS.eq_10, evS.eq_11, evS.eq_12, evS.eq_13, evE.eq_1, evE.eq_2, evE.eq_3, evE.eq_4, evE.eq_5, evE.eq_6, evE.eq_7, evE.eq_8, evE.eq_9, evE.eq_10, evE.eq_11, evE.eq_12, evE.eq_13, evE.eq_14, evE.eq_15, evE.eq_16, evE.eq_17, evE.eq_18, evE.eq_19, evE.eq_20, evE.eq_21, evE.eq_22, evE.eq_23, evE.eq_24, evE.eq_25, evE.eq_26, evE.eq_27, evT, evVs, evNs, evO, evI, evC', asgT, asgTs, parS, sto, bor, look, looks, dat, dats, fz, lend, vws, nodupB, back, slotOf, outV, keepB, binD, biD, cmpD, truD, keyD, eqO_str, eqO_int, seqD, itD, srcD, tyD, sz, slc_1, isi_int, isi_ib, isi_str, isi_tup, ix_0, ix_1, ix_2, ix_3, ix_4, ix_5, chg, putS, meTy.eq_1, mutM, meS, meD, Sl.bor.eq_1, Sl.bor.eq_2, Sl.bor.eq_3, Option.bind, List.getElem?_cons_zero, List.getElem?_cons_succ, List.set_cons_zero, List.set_cons_succ, fits_lt, wipeE, Sl.bor, Game.enc, asgTs]; rfl, by rfl, by rfl, by simp [finD, evSs, evS.eq_1, evS.eq_2, evS.eq_3, evS.eq_4, evS.eq_5, evS.eq_6, evS.eq_7, evS.eq_10, evS.eq_11, evS.eq_12, evS.eq_13, evE.eq_1, evE.eq_2, evE.eq_3, evE.eq_4, evE.eq_5, evE.eq_6, evE.eq_7, evE.eq_8, evE.eq_9, evE.eq_10, evE.eq_11, evE.eq_12, evE.eq_13, evE.eq_14, evE.eq_15, evE.eq_16, evE.eq_17, evE.eq_18, evE.eq_19, evE.eq_20, evE.eq_21, evE.eq_22, evE.eq_23, evE.eq_24, evE.eq_25, evE.eq_26, evE.eq_27, evT, evVs, evNs, evO, evI, evC', asgT, asgTs, parS, sto, bor, look, looks, dat, dats, fz, lend, vws, nodupB, back, slotOf, outV, keepB, binD, biD, cmpD, truD, keyD, eqO_str, eqO_int, seqD, itD, srcD, tyD, sz, slc_1, isi_int, isi_ib, isi_str, isi_tup, ix_0, ix_1, ix_2, ix_3, ix_4, ix_5, chg, putS, meTy.eq_1, mutM, meS, meD, Sl.bor.eq_1, Sl.bor.eq_2, Sl.bor.eq_3, Option.bind, List.getElem?_cons_zero, List.getElem?_cons_succ, List.set_cons_zero, List.set_cons_succ, fits_lt], fun _ => ⟨_, by simp [finD, evSs, evS.eq_1, evS.eq_2, evS.eq_3, evS.eq_4, evS.eq_5, evS.eq_6, evS.eq_7, evS.eq_10, evS.eq_11, evS.eq_12, evS.eq_13, evE.eq_1, evE.eq_2, evE.eq_3, evE.eq_4, evE.eq_5, evE.eq_6, evE.eq_7, evE.eq_8, evE.eq_9, evE.eq_10, evE.eq_11, evE.eq_12, evE.eq_13, evE.eq_14, evE.eq_15, evE.eq_16, evE.eq_17, evE.eq_18, evE.eq_19, evE.eq_20, evE.eq_21, evE.eq_22, evE.eq_23, evE.eq_24, evE.eq_25, evE.eq_26, evE.eq_27, evT, evVs, evNs, evO, evI, evC', asgT, asgTs, parS, sto, bor, look, looks, dat, dats, fz, lend, vws, nodupB, back, slotOf, outV, keepB, binD, biD, cmpD, truD, keyD, eqO_str, eqO_int, seqD, itD, srcD, tyD, sz, slc_1, isi_int, isi_ib, isi_str, isi_tup, ix_0, ix_1, ix_2, ix_3, ix_4, ix_5, chg, putS, meTy.eq_1, mutM, meS, meD, Sl.bor.eq_1, Sl.bor.eq_2, Sl.bor.eq_3, Option.bind, List.getElem?_cons_zero, List.getElem?_cons_succ, List.set_cons_zero, List.set_cons_succ, fits_lt]; rfl, by rfl⟩⟩) rfl
  have c2 := comp_evY (F := evD tab (n + 1)) (a := (.bin .Mult (.idx (.var 3) (.lit (.int 2))) (.me .count (.var 6) (.cons (.var 5) .nil)))) (tg := .nm 5) (it := .seq (.var 4)) (own := [("one", 5)]) (env := [.va (sheetD M gs), .va LD, .va CD, .va (Row.byes c k).enc, .va (.rng 0 M), .un, .va (.lst ((gs.filter fun g => decide (g.b = (M : Int))).map fun g => .int g.a)), .un, .un]) (xs := plys M) .int (fun p => .int (k * (((gs.filter fun g => decide (g.b = (M : Int))).map Game.a).count p : Nat)))
    (jw_seq (je_var rfl) rfl (itD_rng hM2)) rfl rfl (plys_small hM1) (by
      intro p hp
      have hk9 : -(18446744073709551616) < k ∧ k < 18446744073709551616 := by omega
      refine ⟨_, .va (.int (k * (((gs.filter fun g => decide (g.b = (M : Int))).map Game.a).count p : Nat))), by simp [finD, evSs, evS.eq_1, evS.eq_2, evS.eq_3, evS.eq_4, evS.eq_5, evS.eq_6, evS.eq_7, evS.eq_10, evS.eq_11, evS.eq_12, evS.eq_13, evE.eq_1, evE.eq_2, evE.eq_3, evE.eq_4, evE.eq_5, evE.eq_6, evE.eq_7, evE.eq_8, evE.eq_9, evE.eq_10, evE.eq_11, evE.eq_12, evE.eq_13, evE.eq_14, evE.eq_15, evE.eq_16, evE.eq_17, evE.eq_18, evE.eq_19, evE.eq_20, evE.eq_21, evE.eq_22, evE.eq_23, evE.eq_24, evE.eq_25, evE.eq_26, evE.eq_27, evT, evVs, evNs, evO, evI, evC', asgT, asgTs, parS, sto, bor, look, looks, dat, dats, fz, lend, vws, nodupB, back, slotOf, outV, keepB, binD, biD, cmpD, truD, keyD, eqO_str, eqO_int, seqD, itD, srcD, tyD, sz, slc_1, isi_int, isi_ib, isi_str, isi_tup, ix_0, ix_1, ix_2, ix_3, ix_4, ix_5, chg, putS, meTy.eq_1, mutM, meS, meD, Sl.bor.eq_1, Sl.bor.eq_2, Sl.bor.eq_3, Option.bind, List.getElem?_cons_zero, List.getElem?_cons_succ, List.set_cons_zero, List.set_cons_succ, fits_lt, wipeE, Sl.bor]; rfl, by rfl, by rfl, ?_, rfl⟩
      simp [finD, evSs, evS.eq_1, evS.eq_2, evS.eq_3, evS.eq_4, evS.eq_5, evS.eq_6, evS.eq_7, evS.eq_10, evS.eq_11, evS.eq_12, evS.eq_13, evE.eq_1, evE.eq_2, evE.eq_3, evE.eq_4, evE.eq_5, evE.eq_6, evE.eq_7, evE.eq_8, evE.eq_9, evE.eq_10, evE.eq_11, evE.eq_12, evE.eq_13, evE.eq_14, evE.eq_15, evE.eq_16, evE.eq_17, evE.eq_18, evE.eq_19, evE.eq_20, evE.eq_21, evE.eq_22, evE.eq_23, evE.eq_24, evE.eq_25, evE.eq_26, evE.eq_27, evT, evVs, evNs, evO, evI, evC', asgT, asgTs, parS, sto, bor, look, looks, dat, dats, fz, lend, vws, nodupB, back, slotOf, outV, keepB, binD, biD, cmpD, truD, keyD, eqO_str, eqO_int, seqD, itD, srcD, tyD, sz, slc_1, isi_int, isi_ib, isi_str, isi_tup, ix_0, ix_1, ix_2, ix_3, ix_4, ix_5, chg, putS, meTy.eq_1, mutM, meS, meD, Sl.bor.eq_1, Sl.bor.eq_2, Sl.bor.eq_3, Option.bind, List.getElem?_cons_zero, List.getElem?_cons_succ, List.set_cons_zero, List.set_cons_succ, fits_lt, Row.enc, intsD_mapf, hk9]) rfl
  simp only [Row.enc] at c1 c2 ⊢
  apply fin_rt
  · (apply st_nx; (· (simp [finD, evSs, evS.eq_1, evS.eq_2, evS.eq_3, evS.eq_4, evS.eq_5, evS.eq_6, evS.eq_7, evS.eq_10, evS.eq_11, evS.eq_12, evS.eq_13, evE.eq_1, evE.eq_2, evE.eq_3, evE.eq_4, evE.eq_5, evE.eq_6, evE.eq_7, evE.eq_8, evE.eq_9, evE.eq_10, evE.eq_11, evE.eq_12, evE.eq_13, evE.eq_14, evE.eq_15, evE.eq_16, evE.eq_17, evE.eq_18, evE.eq_19, evE.eq_20, evE.eq_21, evE.eq_22, evE.eq_23, evE.eq_24, evE.eq_25, evE.eq_26, evE.eq_27, evT, evVs, evNs, evO, evI, evC', asgT, asgTs, parS, sto, bor, look, looks, dat, dats, fz, lend, vws, nodupB, back, slotOf, outV, keepB, binD, biD, cmpD, truD, keyD, eqO_str, eqO_int, seqD, itD, srcD, tyD, sz, slc_1, isi_int, isi_ib, isi_str, isi_tup, ix_0, ix_1, ix_2, ix_3, ix_4, ix_5, chg, putS, meTy.eq_1, mutM, meS, meD, Sl.bor.eq_1, Sl.bor.eq_2, Sl.bor.eq_3, Option.bind, List.getElem?_cons_zero, List.getElem?_cons_succ, List.set_cons_zero, List.set_cons_succ, fits_lt]; try (first | rfl | exact ⟨rfl, rfl⟩))))
    (apply st_nx; · (apply if_f; (· (simp [finD, evSs, evS.eq_1, evS.eq_2, evS.eq_3, evS.eq_4, evS.eq_5, evS.eq_6, evS.eq_7, evS.eq_10, evS.eq_11, evS.eq_12, evS.eq_13, evE.eq_1, evE.eq_2, evE.eq_3, evE.eq_4, evE.eq_5, evE.eq_6, evE.eq_7, evE.eq_8, evE.eq_9, evE.eq_10, evE.eq_11, evE.eq_12, evE.eq_13, evE.eq_14, evE.eq_15, evE.eq_16, evE.eq_17, evE.eq_18, evE.eq_19, evE.eq_20, evE.eq_21, evE.eq_22, evE.eq_23, evE.eq_24, evE.eq_25, evE.eq_26, evE.eq_27, evT, evVs, evNs, evO, evI, evC', asgT, asgTs, parS, sto, bor, look, looks, dat, dats, fz, lend, vws, nodupB, back, slotOf, outV, keepB, binD, biD, cmpD, truD, keyD, eqO_str, eqO_int, seqD, itD, srcD, tyD, sz, slc_1, isi_int, isi_ib, isi_str, isi_tup, ix_0, ix_1, ix_2, ix_3, ix_4, ix_5, chg, putS, meTy.eq_1, mutM, meS, meD, Sl.bor.eq_1, Sl.bor.eq_2, Sl.bor.eq_3, Option.bind, List.getElem?_cons_zero, List.getElem?_cons_succ, List.set_cons_zero, List.set_cons_succ, fits_lt]; try (first | rfl | exact ⟨rfl, rfl⟩))); exact jq_nil))
    (apply st_rt; apply if_t; (· (simp [finD, evSs, evS.eq_1, evS.eq_2, evS.eq_3, evS.eq_4, evS.eq_5, evS.eq_6, evS.eq_7, evS.eq_10, evS.eq_11, evS.eq_12, evS.eq_13, evE.eq_1, evE.eq_2, evE.eq_3, evE.eq_4, evE.eq_5, evE.eq_6, evE.eq_7, evE.eq_8, evE.eq_9, evE.eq_10, evE.eq_11, evE.eq_12, evE.eq_13, evE.eq_14, evE.eq_15, evE.eq_16, evE.eq_17, evE.eq_18, evE.eq_19, evE.eq_20, evE.eq_21, evE.eq_22, evE.eq_23, evE.eq_24, evE.eq_25, evE.eq_26, evE.eq_27, evT, evVs, evNs, evO, evI, evC', asgT, asgTs, parS, sto, bor, look, looks, dat, dats, fz, lend, vws, nodupB, back, slotOf, outV, keepB, binD, biD, cmpD, truD, keyD, eqO_str, eqO_int, seqD, itD, srcD, tyD, sz, slc_1, isi_int, isi_ib, isi_str, isi_tup, ix_0, ix_1, ix_2, ix_3, ix_4, ix_5, chg, putS, meTy.eq_1, mutM, meS, meD, Sl.bor.eq_1, Sl.bor.eq_2, Sl.bor.eq_3, Option.bind, List.getElem?_cons_zero, List.getElem?_cons_succ, List.set_cons_zero, List.set_cons_succ, fits_lt]; try (first | rfl | exact ⟨rfl, rfl⟩))))
    (apply st_nx; (· (simp [finD, evSs, evS.eq_1, evS.eq_2, evS.eq_3, evS.eq_4, evS.eq_5, evS.eq_6, evS.eq_7, evS.eq_10, evS.eq_11, evS.eq_12, evS.eq_13, evE.eq_1, evE.eq_2, evE.eq_3, evE.eq_4, evE.eq_5, evE.eq_6, evE.eq_7, evE.eq_8, evE.eq_9, evE.eq_10, evE.eq_11, evE.eq_12, evE.eq_13, evE.eq_14, evE.eq_15, evE.eq_16, evE.eq_17, evE.eq_18, evE.eq_19, evE.eq_20, evE.eq_21, evE.eq_22, evE.eq_23, evE.eq_24, evE.eq_25, evE.eq_26, evE.eq_27, evT, evVs, evNs, evO, evI, evC', asgT, asgTs, parS, sto, bor, look, looks, dat, dats, fz, lend, vws, nodupB, back, slotOf, outV, keepB, binD, biD, cmpD, truD, keyD, eqO_str, eqO_int, seqD, itD, srcD, tyD, sz, slc_1, isi_int, isi_ib, isi_str, isi_tup, ix_0, ix_1, ix_2, ix_3, ix_4, ix_5, chg, putS, meTy.eq_1, mutM, meS, meD, Sl.bor.eq_1, Sl.bor.eq_2, Sl.bor.eq_3, Option.bind, List.getElem?_cons_zero, List.getElem?_cons_succ, List.set_cons_zero, List.set_cons_succ, fits_lt, c1]; try (first | rfl | exact ⟨rfl, rfl⟩))))
    (apply st_rt; (· (simp [finD, evSs, evS.eq_1, evS.eq_2, evS.eq_3, evS.eq_4, evS.eq_5, evS.eq_6, evS.eq_7, evS.eq_10, evS.eq_11, evS.eq_12, evS.eq_13, evE.eq_1, evE.eq_2, evE.eq_3, evE.eq_4, evE.eq_5, evE.eq_6, evE.eq_7, evE.eq_8, evE.eq_9, evE.eq_10, evE.eq_11, evE.eq_12, evE.eq_13, evE.eq_14, evE.eq_15, evE.eq_16, evE.eq_17, evE.eq_18, evE.eq_19, evE.eq_20, evE.eq_21, evE.eq_22, evE.eq_23, evE.eq_24, evE.eq_25, evE.eq_26, evE.eq_27, evT, evVs, evNs, evO, evI, evC', asgT, asgTs, parS, sto, bor, look, looks, dat, dats, fz, lend, vws, nodupB, back, slotOf, outV, keepB, binD, biD, cmpD, truD, keyD, eqO_str, eqO_int, seqD, itD, srcD, tyD, sz, slc_1, isi_int, isi_ib, isi_str, isi_tup, ix_0, ix_1, ix_2, ix_3, ix_4, ix_5, chg, putS, meTy.eq_1, mutM, meS, meD, Sl.bor.eq_1, Sl.bor.eq_2, Sl.bor.eq_3, Option.bind, List.getElem?_cons_zero, List.getElem?_cons_succ, List.set_cons_zero, List.set_cons_succ, fits_lt, c2]; try (first | rfl | exact ⟨rfl, rfl⟩))))
  · rfl
  · rfl
end DI.K77
end

section
set_option Elab.async false
set_option linter.all false
set_option maxRecDepth 100000
set_option pp.maxSteps 800
/-! k77: the plain law, part 11: column_of, all rows. -/
namespace DI.K77
open PySem L2
def ocol (M : Nat) : Option (Int → Int) → D
  | none => .non
  | some f => colD M f
abbrev colsD (M : Nat) (cs : List (Option (Int → Int))) : D := .tup (cs.map (ocol M))
def cfOf (cs : List (Option (Int → Int))) (s : Int) : Int → Int := match cs[s.toNat]? with
  | some (some f) => f
  | _ => fun _ => 0
def isSet (cs : List (Option (Int → Int))) (s : Int) : Prop := 0 ≤ s ∧ ∃ f, cs[s.toNat]? = some (some f)
theorem ix_cols {M : Nat} {cs : List (Option (Int → Int))} {s : Int} (h : isSet cs s) : idxD (colsD M cs) (.int s) = some (colD M (cfOf cs s)) := by
  obtain ⟨h0, f, hf⟩ := h
  have hlt := (List.getElem?_eq_some_iff.mp hf).1
  show (ixN _ _).bind _ = _
  rw [ixN_i (by rw [List.length_map]; omega)]
  show (List.map _ _)[s.toNat]? = _
  rw [List.getElem?_map, hf]
  unfold cfOf
  rw [hf]
  rfl
theorem column_gather (n : Nat) (M : Nat) (gs : List Game) (lots : List (List Int)) (cs : List (Option (Int → Int))) (c s w0 w1 w2 near : Int) (hs : okSheet M gs) (hl : okLots M lots) (hc : isSet cs s) (h0 : 0 ≤ w0 ∧ w0 ≤ 99) (h1 : 0 ≤ w1 ∧ w1 ≤ 99) (h2 : 0 ≤ w2 ∧ w2 ≤ 99) :
    evD tab (n + 2) 17 [.va (sheetD M gs), .va (lotsD lots), .va (colsD M cs), .va (Row.gather c s w0 w1 w2 near).enc] = .ok (.va (colD M (gath M lots (cfOf cs s) w0 w1 w2 near gs)), [.un, .un, .un, .un]) := by
  rw [opn (T := tab) (f := 17) _ 4 5 b_column_of rfl rfl]; unfold b_column_of; simp only [List.replicate, List.cons_append, List.nil_append, List.singleton_append]
  have hg := gathered_i n M gs lots (cfOf cs s) w0 w1 w2 near hs hl h0 h1 h2
  have hi := ix_cols (M := M) hc
  simp only [Row.enc] at hg ⊢
  apply fin_rt
  · (apply st_nx; (· (simp [finD, evSs, evS.eq_1, evS.eq_2, evS.eq_3, evS.eq_4, evS.eq_5, evS.eq_6, evS.eq_7, evS.eq_10, evS.eq_11, evS.eq_12, evS.eq_13, evE.eq_1, evE.eq_2, evE.eq_3, evE.eq_4, evE.eq_5, evE.eq_6, evE.eq_7, evE.eq_8, evE.eq_9, evE.eq_10, evE.eq_11, evE.eq_12, evE.eq_13, evE.eq_14, evE.eq_15, evE.eq_16, evE.eq_17, evE.eq_18, evE.eq_19, evE.eq_20, evE.eq_21, evE.eq_22, evE.eq_23, evE.eq_24, evE.eq_25, evE.eq_26, evE.eq_27, evT, evVs, evNs, evO, evI, evC', asgT, asgTs, parS, sto, bor, look, looks, dat, dats, fz, lend, vws, nodupB, back, slotOf, outV, keepB, binD, biD, cmpD, truD, keyD, eqO_str, eqO_int, seqD, itD, srcD, tyD, sz, slc_1, isi_int, isi_ib, isi_str, isi_tup, ix_0, ix_1, ix_2, ix_3, ix_4, ix_5, chg, putS, meTy.eq_1, mutM, meS, meD, Sl.bor.eq_1, Sl.bor.eq_2, Sl.bor.eq_3, Option.bind, List.getElem?_cons_zero, List.getElem?_cons_succ, List.set_cons_zero, List.set_cons_succ, fits_lt]; try (first | rfl | exact ⟨rfl, rfl⟩))))
    (apply st_nx; · (apply if_f; (· (simp [finD, evSs, evS.eq_1, evS.eq_2, evS.eq_3, evS.eq_4, evS.eq_5, evS.eq_6, evS.eq_7, evS.eq_10, evS.eq_11, evS.eq_12, evS.eq_13, evE.eq_1, evE.eq_2, evE.eq_3, evE.eq_4, evE.eq_5, evE.eq_6, evE.eq_7, evE.eq_8, evE.eq_9, evE.eq_10, evE.eq_11, evE.eq_12, evE.eq_13, evE.eq_14, evE.eq_15, evE.eq_16, evE.eq_17, evE.eq_18, evE.eq_19, evE.eq_20, evE.eq_21, evE.eq_22, evE.eq_23, evE.eq_24, evE.eq_25, evE.eq_26, evE.eq_27, evT, evVs, evNs, evO, evI, evC', asgT, asgTs, parS, sto, bor, look, looks, dat, dats, fz, lend, vws, nodupB, back, slotOf, outV, keepB, binD, biD, cmpD, truD, keyD, eqO_str, eqO_int, seqD, itD, srcD, tyD, sz, slc_1, isi_int, isi_ib, isi_str, isi_tup, ix_0, ix_1, ix_2, ix_3, ix_4, ix_5, chg, putS, meTy.eq_1, mutM, meS, meD, Sl.bor.eq_1, Sl.bor.eq_2, Sl.bor.eq_3, Option.bind, List.getElem?_cons_zero, List.getElem?_cons_succ, List.set_cons_zero, List.set_cons_succ, fits_lt]; try (first | rfl | exact ⟨rfl, rfl⟩))); exact jq_nil))
    (apply st_nx; · (apply if_f; (· (simp [finD, evSs, evS.eq_1, evS.eq_2, evS.eq_3, evS.eq_4, evS.eq_5, evS.eq_6, evS.eq_7, evS.eq_10, evS.eq_11, evS.eq_12, evS.eq_13, evE.eq_1, evE.eq_2, evE.eq_3, evE.eq_4, evE.eq_5, evE.eq_6, evE.eq_7, evE.eq_8, evE.eq_9, evE.eq_10, evE.eq_11, evE.eq_12, evE.eq_13, evE.eq_14, evE.eq_15, evE.eq_16, evE.eq_17, evE.eq_18, evE.eq_19, evE.eq_20, evE.eq_21, evE.eq_22, evE.eq_23, evE.eq_24, evE.eq_25, evE.eq_26, evE.eq_27, evT, evVs, evNs, evO, evI, evC', asgT, asgTs, parS, sto, bor, look, looks, dat, dats, fz, lend, vws, nodupB, back, slotOf, outV, keepB, binD, biD, cmpD, truD, keyD, eqO_str, eqO_int, seqD, itD, srcD, tyD, sz, slc_1, isi_int, isi_ib, isi_str, isi_tup, ix_0, ix_1, ix_2, ix_3, ix_4, ix_5, chg, putS, meTy.eq_1, mutM, meS, meD, Sl.bor.eq_1, Sl.bor.eq_2, Sl.bor.eq_3, Option.bind, List.getElem?_cons_zero, List.getElem?_cons_succ, List.set_cons_zero, List.set_cons_succ, fits_lt]; try (first | rfl | exact ⟨rfl, rfl⟩))); exact jq_nil))
    (apply st_rt; apply if_t; (· (simp [finD, evSs, evS.eq_1, evS.eq_2, evS.eq_3, evS.eq_4, evS.eq_5, evS.eq_6, evS.eq_7, evS.eq_10, evS.eq_11, evS.eq_12, evS.eq_13, evE.eq_1, evE.eq_2, evE.eq_3, evE.eq_4, evE.eq_5, evE.eq_6, evE.eq_7, evE.eq_8, evE.eq_9, evE.eq_10, evE.eq_11, evE.eq_12, evE.eq_13, evE.eq_14, evE.eq_15, evE.eq_16, evE.eq_17, evE.eq_18, evE.eq_19, evE.eq_20, evE.eq_21, evE.eq_22, evE.eq_23, evE.eq_24, evE.eq_25, evE.eq_26, evE.eq_27, evT, evVs, evNs, evO, evI, evC', asgT, asgTs, parS, sto, bor, look, looks, dat, dats, fz, lend, vws, nodupB, back, slotOf, outV, keepB, binD, biD, cmpD, truD, keyD, eqO_str, eqO_int, seqD, itD, srcD, tyD, sz, slc_1, isi_int, isi_ib, isi_str, isi_tup, ix_0, ix_1, ix_2, ix_3, ix_4, ix_5, chg, putS, meTy.eq_1, mutM, meS, meD, Sl.bor.eq_1, Sl.bor.eq_2, Sl.bor.eq_3, Option.bind, List.getElem?_cons_zero, List.getElem?_cons_succ, List.set_cons_zero, List.set_cons_succ, fits_lt]; try (first | rfl | exact ⟨rfl, rfl⟩))))
    exact st_rt (js_ret (je_call (jv_cons (je_var rfl) (jv_cons (je_var rfl) (jv_cons (je_idx (je_var rfl) (je_idx (je_var rfl) je_lit rfl rfl ix_2) rfl rfl hi) (jv_cons (je_idx (je_var rfl) je_lit rfl rfl ix_3) (jv_cons (je_idx (je_var rfl) je_lit rfl rfl ix_4) jv_nil))))) rfl rfl hg rfl))
  · rfl
  · rfl
theorem column_add (n : Nat) (M : Nat) (gs : List Game) (LD : D) (cs : List (Option (Int → Int))) (c s t : Int) (hM : M ≤ 16) (hs : isSet cs s) (ht : isSet cs t) :
    evD tab (n + 2) 17 [.va (sheetD M gs), .va LD, .va (colsD M cs), .va (Row.add c s t).enc] = .ok (.va (colD M fun p => cfOf cs s p + cfOf cs t p), [.un, .un, .un, .un]) := by
  rw [opn (T := tab) (f := 17) _ 4 5 b_column_of rfl rfl]; unfold b_column_of; simp only [List.replicate, List.cons_append, List.nil_append, List.singleton_append]
  have i1 := ix_cols (M := M) hs
  have i2 := ix_cols (M := M) ht
  have c1 := comp_evY (F := evD tab (n + 1)) (a := .bin .Add (.var 5) (.var 7)) (tg := .tup (.cons (.nm 5) (.cons (.nm 7) .nil))) (it := .zip (.idx (.var 2) (.idx (.var 3) (.lit (.int 2)))) (.idx (.var 2) (.idx (.var 3) (.lit (.int 3))))) (own := [("one", 5), ("other", 7)]) (env := [.va (sheetD M gs), .va LD, .va (colsD M cs), .va (Row.add c s t).enc, .va (.rng 0 M), .un, .un, .un, .un]) (xs := plys M) (fun p => .tup [.int (cfOf cs s p), .int (cfOf cs t p)]) (fun p => .int (cfOf cs s p + cfOf cs t p))
    (by simp [finD, evSs, evS.eq_1, evS.eq_2, evS.eq_3, evS.eq_4, evS.eq_5, evS.eq_6, evS.eq_7, evS.eq_10, evS.eq_11, evS.eq_12, evS.eq_13, evE.eq_1, evE.eq_2, evE.eq_3, evE.eq_4, evE.eq_5, evE.eq_6, evE.eq_7, evE.eq_8, evE.eq_9, evE.eq_10, evE.eq_11, evE.eq_12, evE.eq_13, evE.eq_14, evE.eq_15, evE.eq_16, evE.eq_17, evE.eq_18, evE.eq_19, evE.eq_20, evE.eq_21, evE.eq_22, evE.eq_23, evE.eq_24, evE.eq_25, evE.eq_26, evE.eq_27, evT, evVs, evNs, evO, evI, evC', asgT, asgTs, parS, sto, bor, look, looks, dat, dats, fz, lend, vws, nodupB, back, slotOf, outV, keepB, binD, biD, cmpD, truD, keyD, eqO_str, eqO_int, seqD, itD, srcD, tyD, sz, slc_1, isi_int, isi_ib, isi_str, isi_tup, ix_0, ix_1, ix_2, ix_3, ix_4, ix_5, chg, putS, meTy.eq_1, mutM, meS, meD, Sl.bor.eq_1, Sl.bor.eq_2, Sl.bor.eq_3, Option.bind, List.getElem?_cons_zero, List.getElem?_cons_succ, List.set_cons_zero, List.set_cons_succ, fits_lt, Row.enc, i1, i2]; try rfl) (by simp only [colL, zipL_map, zipSelf, List.map_map]; rfl) rfl (plys_small hM) (by
      intro p hp
      exact ⟨_, _, by simp [finD, evSs, evS.eq_1, evS.eq_2, evS.eq_3, evS.eq_4, evS.eq_5, evS.eq_6, evS.eq_7, evS.eq_10, evS.eq_11, evS.eq_12, evS.eq_13, evE.eq_1, evE.eq_2, evE.eq_3, evE.eq_4, evE.eq_5, evE.eq_6, evE.eq_7, evE.eq_8, evE.eq_9, evE.eq_10, evE.eq_11, evE.eq_12, evE.eq_13, evE.eq_14, evE.eq_15, evE.eq_16, evE.eq_17, evE.eq_18, evE.eq_19, evE.eq_20, evE.eq_21, evE.eq_22, evE.eq_23, evE.eq_24, evE.eq_25, evE.eq_26, evE.eq_27, evT, evVs, evNs, evO, evI, evC', asgT, asgTs, parS, sto, bor, look, looks, dat, dats, fz, lend, vws, nodupB, back, slotOf, outV, keepB, binD, biD, cmpD, truD, keyD, eqO_str, eqO_int, seqD, itD, srcD, tyD, sz, slc_1, isi_int, isi_ib, isi_str, isi_tup, ix_0, ix_1, ix_2, ix_3, ix_4, ix_5, chg, putS, meTy.eq_1, mutM, meS, meD, Sl.bor.eq_1, Sl.bor.eq_2, Sl.bor.eq_3, Option.bind, List.getElem?_cons_zero, List.getElem?_cons_succ, List.set_cons_zero, List.set_cons_succ, fits_lt, wipeE, Sl.bor, asgTs]; rfl, by rfl, by rfl, by simp [finD, evSs, evS.eq_1, evS.eq_2, evS.eq_3, evS.eq_4, evS.eq_5, evS.eq_6, evS.eq_7, evS.eq_10, evS.eq_11, evS.eq_12, evS.eq_13, evE.eq_1, evE.eq_2, evE.eq_3, evE.eq_4, evE.eq_5, evE.eq_6, evE.eq_7, evE.eq_8, evE.eq_9, evE.eq_10, evE.eq_11, evE.eq_12, evE.eq_13, evE.eq_14, evE.eq_15, evE.eq_16, evE.eq_17, evE.eq_18, evE.eq_19, evE.eq_20, evE.eq_21, evE.eq_22, evE.eq_23, evE.eq_24, evE.eq_25, evE.eq_26, evE.eq_27, evT, evVs, evNs, evO, evI, evC', asgT, asgTs, parS, sto, bor, look, looks, dat, dats, fz, lend, vws, nodupB, back, slotOf, outV, keepB, binD, biD, cmpD, truD, keyD, eqO_str, eqO_int, seqD, itD, srcD, tyD, sz, slc_1, isi_int, isi_ib, isi_str, isi_tup, ix_0, ix_1, ix_2, ix_3, ix_4, ix_5, chg, putS, meTy.eq_1, mutM, meS, meD, Sl.bor.eq_1, Sl.bor.eq_2, Sl.bor.eq_3, Option.bind, List.getElem?_cons_zero, List.getElem?_cons_succ, List.set_cons_zero, List.set_cons_succ, fits_lt]; rfl, by rfl⟩) rfl
  simp only [Row.enc] at c1 ⊢
  apply fin_rt
  · (apply st_nx; (· (simp [finD, evSs, evS.eq_1, evS.eq_2, evS.eq_3, evS.eq_4, evS.eq_5, evS.eq_6, evS.eq_7, evS.eq_10, evS.eq_11, evS.eq_12, evS.eq_13, evE.eq_1, evE.eq_2, evE.eq_3, evE.eq_4, evE.eq_5, evE.eq_6, evE.eq_7, evE.eq_8, evE.eq_9, evE.eq_10, evE.eq_11, evE.eq_12, evE.eq_13, evE.eq_14, evE.eq_15, evE.eq_16, evE.eq_17, evE.eq_18, evE.eq_19, evE.eq_20, evE.eq_21, evE.eq_22, evE.eq_23, evE.eq_24, evE.eq_25, evE.eq_26, evE.eq_27, evT, evVs, evNs, evO, evI, evC', asgT, asgTs, parS, sto, bor, look, looks, dat, dats, fz, lend, vws, nodupB, back, slotOf, outV, keepB, binD, biD, cmpD, truD, keyD, eqO_str, eqO_int, seqD, itD, srcD, tyD, sz, slc_1, isi_int, isi_ib, isi_str, isi_tup, ix_0, ix_1, ix_2, ix_3, ix_4, ix_5, chg, putS, meTy.eq_1, mutM, meS, meD, Sl.bor.eq_1, Sl.bor.eq_2, Sl.bor.eq_3, Option.bind, List.getElem?_cons_zero, List.getElem?_cons_succ, List.set_cons_zero, List.set_cons_succ, fits_lt]; try (first | rfl | exact ⟨rfl, rfl⟩))))
    (apply st_nx; · (apply if_f; (· (simp [finD, evSs, evS.eq_1, evS.eq_2, evS.eq_3, evS.eq_4, evS.eq_5, evS.eq_6, evS.eq_7, evS.eq_10, evS.eq_11, evS.eq_12, evS.eq_13, evE.eq_1, evE.eq_2, evE.eq_3, evE.eq_4, evE.eq_5, evE.eq_6, evE.eq_7, evE.eq_8, evE.eq_9, evE.eq_10, evE.eq_11, evE.eq_12, evE.eq_13, evE.eq_14, evE.eq_15, evE.eq_16, evE.eq_17, evE.eq_18, evE.eq_19, evE.eq_20, evE.eq_21, evE.eq_22, evE.eq_23, evE.eq_24, evE.eq_25, evE.eq_26, evE.eq_27, evT, evVs, evNs, evO, evI, evC', asgT, asgTs, parS, sto, bor, look, looks, dat, dats, fz, lend, vws, nodupB, back, slotOf, outV, keepB, binD, biD, cmpD, truD, keyD, eqO_str, eqO_int, seqD, itD, srcD, tyD, sz, slc_1, isi_int, isi_ib, isi_str, isi_tup, ix_0, ix_1, ix_2, ix_3, ix_4, ix_5, chg, putS, meTy.eq_1, mutM, meS, meD, Sl.bor.eq_1, Sl.bor.eq_2, Sl.bor.eq_3, Option.bind, List.getElem?_cons_zero, List.getElem?_cons_succ, List.set_cons_zero, List.set_cons_succ, fits_lt]; try (first | rfl | exact ⟨rfl, rfl⟩))); exact jq_nil))
    (apply st_nx; · (apply if_f; (· (simp [finD, evSs, evS.eq_1, evS.eq_2, evS.eq_3, evS.eq_4, evS.eq_5, evS.eq_6, evS.eq_7, evS.eq_10, evS.eq_11, evS.eq_12, evS.eq_13, evE.eq_1, evE.eq_2, evE.eq_3, evE.eq_4, evE.eq_5, evE.eq_6, evE.eq_7, evE.eq_8, evE.eq_9, evE.eq_10, evE.eq_11, evE.eq_12, evE.eq_13, evE.eq_14, evE.eq_15, evE.eq_16, evE.eq_17, evE.eq_18, evE.eq_19, evE.eq_20, evE.eq_21, evE.eq_22, evE.eq_23, evE.eq_24, evE.eq_25, evE.eq_26, evE.eq_27, evT, evVs, evNs, evO, evI, evC', asgT, asgTs, parS, sto, bor, look, looks, dat, dats, fz, lend, vws, nodupB, back, slotOf, outV, keepB, binD, biD, cmpD, truD, keyD, eqO_str, eqO_int, seqD, itD, srcD, tyD, sz, slc_1, isi_int, isi_ib, isi_str, isi_tup, ix_0, ix_1, ix_2, ix_3, ix_4, ix_5, chg, putS, meTy.eq_1, mutM, meS, meD, Sl.bor.eq_1, Sl.bor.eq_2, Sl.bor.eq_3, Option.bind, List.getElem?_cons_zero, List.getElem?_cons_succ, List.set_cons_zero, List.set_cons_succ, fits_lt]; try (first | rfl | exact ⟨rfl, rfl⟩))); exact jq_nil))
    (apply st_nx; · (apply if_f; (· (simp [finD, evSs, evS.eq_1, evS.eq_2, evS.eq_3, evS.eq_4, evS.eq_5, evS.eq_6, evS.eq_7, evS.eq_10, evS.eq_11, evS.eq_12, evS.eq_13, evE.eq_1, evE.eq_2, evE.eq_3, evE.eq_4, evE.eq_5, evE.eq_6, evE.eq_7, evE.eq_8, evE.eq_9, evE.eq_10, evE.eq_11, evE.eq_12, evE.eq_13, evE.eq_14, evE.eq_15, evE.eq_16, evE.eq_17, evE.eq_18, evE.eq_19, evE.eq_20, evE.eq_21, evE.eq_22, evE.eq_23, evE.eq_24, evE.eq_25, evE.eq_26, evE.eq_27, evT, evVs, evNs, evO, evI, evC', asgT, asgTs, parS, sto, bor, look, looks, dat, dats, fz, lend, vws, nodupB, back, slotOf, outV, keepB, binD, biD, cmpD, truD, keyD, eqO_str, eqO_int, seqD, itD, srcD, tyD, sz, slc_1, isi_int, isi_ib, isi_str, isi_tup, ix_0, ix_1, ix_2, ix_3, ix_4, ix_5, chg, putS, meTy.eq_1, mutM, meS, meD, Sl.bor.eq_1, Sl.bor.eq_2, Sl.bor.eq_3, Option.bind, List.getElem?_cons_zero, List.getElem?_cons_succ, List.set_cons_zero, List.set_cons_succ, fits_lt]; try (first | rfl | exact ⟨rfl, rfl⟩))); exact jq_nil))
    (apply st_rt; apply if_t; (· (simp [finD, evSs, evS.eq_1, evS.eq_2, evS.eq_3, evS.eq_4, evS.eq_5, evS.eq_6, evS.eq_7, evS.eq_10, evS.eq_11, evS.eq_12, evS.eq_13, evE.eq_1, evE.eq_2, evE.eq_3, evE.eq_4, evE.eq_5, evE.eq_6, evE.eq_7, evE.eq_8, evE.eq_9, evE.eq_10, evE.eq_11, evE.eq_12, evE.eq_13, evE.eq_14, evE.eq_15, evE.eq_16, evE.eq_17, evE.eq_18, evE.eq_19, evE.eq_20, evE.eq_21, evE.eq_22, evE.eq_23, evE.eq_24, evE.eq_25, evE.eq_26, evE.eq_27, evT, evVs, evNs, evO, evI, evC', asgT, asgTs, parS, sto, bor, look, looks, dat, dats, fz, lend, vws, nodupB, back, slotOf, outV, keepB, binD, biD, cmpD, truD, keyD, eqO_str, eqO_int, seqD, itD, srcD, tyD, sz, slc_1, isi_int, isi_ib, isi_str, isi_tup, ix_0, ix_1, ix_2, ix_3, ix_4, ix_5, chg, putS, meTy.eq_1, mutM, meS, meD, Sl.bor.eq_1, Sl.bor.eq_2, Sl.bor.eq_3, Option.bind, List.getElem?_cons_zero, List.getElem?_cons_succ, List.set_cons_zero, List.set_cons_succ, fits_lt]; try (first | rfl | exact ⟨rfl, rfl⟩))))
    (apply st_rt; (· (simp [finD, evSs, evS.eq_1, evS.eq_2, evS.eq_3, evS.eq_4, evS.eq_5, evS.eq_6, evS.eq_7, evS.eq_10, evS.eq_11, evS.eq_12, evS.eq_13, evE.eq_1, evE.eq_2, evE.eq_3, evE.eq_4, evE.eq_5, evE.eq_6, evE.eq_7, evE.eq_8, evE.eq_9, evE.eq_10, evE.eq_11, evE.eq_12, evE.eq_13, evE.eq_14, evE.eq_15, evE.eq_16, evE.eq_17, evE.eq_18, evE.eq_19, evE.eq_20, evE.eq_21, evE.eq_22, evE.eq_23, evE.eq_24, evE.eq_25, evE.eq_26, evE.eq_27, evT, evVs, evNs, evO, evI, evC', asgT, asgTs, parS, sto, bor, look, looks, dat, dats, fz, lend, vws, nodupB, back, slotOf, outV, keepB, binD, biD, cmpD, truD, keyD, eqO_str, eqO_int, seqD, itD, srcD, tyD, sz, slc_1, isi_int, isi_ib, isi_str, isi_tup, ix_0, ix_1, ix_2, ix_3, ix_4, ix_5, chg, putS, meTy.eq_1, mutM, meS, meD, Sl.bor.eq_1, Sl.bor.eq_2, Sl.bor.eq_3, Option.bind, List.getElem?_cons_zero, List.getElem?_cons_succ, List.set_cons_zero, List.set_cons_succ, fits_lt, c1]; try (first | rfl | exact ⟨rfl, rfl⟩))))
  · rfl
  · rfl
theorem column_times (n : Nat) (M : Nat) (gs : List Game) (LD : D) (cs : List (Option (Int → Int))) (c s k : Int) (hM : M ≤ 16) (hs : isSet cs s) (hk : 0 ≤ k ∧ k ≤ 1000) :
    evD tab (n + 2) 17 [.va (sheetD M gs), .va LD, .va (colsD M cs), .va (Row.times c s k).enc] = .ok (.va (colD M fun p => cfOf cs s p * k), [.un, .un, .un, .un]) := by
  rw [opn (T := tab) (f := 17) _ 4 5 b_column_of rfl rfl]; unfold b_column_of; simp only [List.replicate, List.cons_append, List.nil_append, List.singleton_append]
  have i1 := ix_cols (M := M) hs
  have c1 := comp_evY (F := evD tab (n + 1)) (a := .bin .Mult (.var 5) (.idx (.var 3) (.lit (.int 3)))) (tg := .nm 5) (it := .seq (.idx (.var 2) (.idx (.var 3) (.lit (.int 2))))) (own := [("one", 5)]) (env := [.va (sheetD M gs), .va LD, .va (colsD M cs), .va (Row.times c s k).enc, .va (.rng 0 M), .un, .un, .un, .un]) (xs := plys M) (fun p => .int (cfOf cs s p)) (fun p => .int (cfOf cs s p * k))
    (by simp [finD, evSs, evS.eq_1, evS.eq_2, evS.eq_3, evS.eq_4, evS.eq_5, evS.eq_6, evS.eq_7, evS.eq_10, evS.eq_11, evS.eq_12, evS.eq_13, evE.eq_1, evE.eq_2, evE.eq_3, evE.eq_4, evE.eq_5, evE.eq_6, evE.eq_7, evE.eq_8, evE.eq_9, evE.eq_10, evE.eq_11, evE.eq_12, evE.eq_13, evE.eq_14, evE.eq_15, evE.eq_16, evE.eq_17, evE.eq_18, evE.eq_19, evE.eq_20, evE.eq_21, evE.eq_22, evE.eq_23, evE.eq_24, evE.eq_25, evE.eq_26, evE.eq_27, evT, evVs, evNs, evO, evI, evC', asgT, asgTs, parS, sto, bor, look, looks, dat, dats, fz, lend, vws, nodupB, back, slotOf, outV, keepB, binD, biD, cmpD, truD, keyD, eqO_str, eqO_int, seqD, itD, srcD, tyD, sz, slc_1, isi_int, isi_ib, isi_str, isi_tup, ix_0, ix_1, ix_2, ix_3, ix_4, ix_5, chg, putS, meTy.eq_1, mutM, meS, meD, Sl.bor.eq_1, Sl.bor.eq_2, Sl.bor.eq_3, Option.bind, List.getElem?_cons_zero, List.getElem?_cons_succ, List.set_cons_zero, List.set_cons_succ, fits_lt, Row.enc, i1]; try rfl) rfl rfl (plys_small hM) (by
      intro p hp
      have hk9 : -(18446744073709551616) < k ∧ k < 18446744073709551616 := by omega
      exact ⟨_, _, by simp [finD, evSs, evS.eq_1, evS.eq_2, evS.eq_3, evS.eq_4, evS.eq_5, evS.eq_6, evS.eq_7, evS.eq_10, evS.eq_11, evS.eq_12, evS.eq_13, evE.eq_1, evE.eq_2, evE.eq_3, evE.eq_4, evE.eq_5, evE.eq_6, evE.eq_7, evE.eq_8, evE.eq_9, evE.eq_10, evE.eq_11, evE.eq_12, evE.eq_13, evE.eq_14, evE.eq_15, evE.eq_16, evE.eq_17, evE.eq_18, evE.eq_19, evE.eq_20, evE.eq_21, evE.eq_22, evE.eq_23, evE.eq_24, evE.eq_25, evE.eq_26, evE.eq_27, evT, evVs, evNs, evO, evI, evC', asgT, asgTs, parS, sto, bor, look, looks, dat, dats, fz, lend, vws, nodupB, back, slotOf, outV, keepB, binD, biD, cmpD, truD, keyD, eqO_str, eqO_int, seqD, itD, srcD, tyD, sz, slc_1, isi_int, isi_ib, isi_str, isi_tup, ix_0, ix_1, ix_2, ix_3, ix_4, ix_5, chg, putS, meTy.eq_1, mutM, meS, meD, Sl.bor.eq_1, Sl.bor.eq_2, Sl.bor.eq_3, Option.bind, List.getElem?_cons_zero, List.getElem?_cons_succ, List.set_cons_zero, List.set_cons_succ, fits_lt, wipeE, Sl.bor]; rfl, by rfl, by rfl, by simp [finD, evSs, evS.eq_1, evS.eq_2, evS.eq_3, evS.eq_4, evS.eq_5, evS.eq_6, evS.eq_7, evS.eq_10, evS.eq_11, evS.eq_12, evS.eq_13, evE.eq_1, evE.eq_2, evE.eq_3, evE.eq_4, evE.eq_5, evE.eq_6, evE.eq_7, evE.eq_8, evE.eq_9, evE.eq_10, evE.eq_11, evE.eq_12, evE.eq_13, evE.eq_14, evE.eq_15, evE.eq_16, evE.eq_17, evE.eq_18, evE.eq_19, evE.eq_20, evE.eq_21, evE.eq_22, evE.eq_23, evE.eq_24, evE.eq_25, evE.eq_26, evE.eq_27, evT, evVs, evNs, evO, evI, evC', asgT, asgTs, parS, sto, bor, look, looks, dat, dats, fz, lend, vws, nodupB, back, slotOf, outV, keepB, binD, biD, cmpD, truD, keyD, eqO_str, eqO_int, seqD, itD, srcD, tyD, sz, slc_1, isi_int, isi_ib, isi_str, isi_tup, ix_0, ix_1, ix_2, ix_3, ix_4, ix_5, chg, putS, meTy.eq_1, mutM, meS, meD, Sl.bor.eq_1, Sl.bor.eq_2, Sl.bor.eq_3, Option.bind, List.getElem?_cons_zero, List.getElem?_cons_succ, List.set_cons_zero, List.set_cons_succ, fits_lt, Row.enc, hk9]; rfl, by rfl⟩) rfl
  simp only [Row.enc] at c1 ⊢
  apply fin_rt
  · (apply st_nx; (· (simp [finD, evSs, evS.eq_1, evS.eq_2, evS.eq_3, evS.eq_4, evS.eq_5, evS.eq_6, evS.eq_7, evS.eq_10, evS.eq_11, evS.eq_12, evS.eq_13, evE.eq_1, evE.eq_2, evE.eq_3, evE.eq_4, evE.eq_5, evE.eq_6, evE.eq_7, evE.eq_8, evE.eq_9, evE.eq_10, evE.eq_11, evE.eq_12, evE.eq_13, evE.eq_14, evE.eq_15, evE.eq_16, evE.eq_17, evE.eq_18, evE.eq_19, evE.eq_20, evE.eq_21, evE.eq_22, evE.eq_23, evE.eq_24, evE.eq_25, evE.eq_26, evE.eq_27, evT, evVs, evNs, evO, evI, evC', asgT, asgTs, parS, sto, bor, look, looks, dat, dats, fz, lend, vws, nodupB, back, slotOf, outV, keepB, binD, biD, cmpD, truD, keyD, eqO_str, eqO_int, seqD, itD, srcD, tyD, sz, slc_1, isi_int, isi_ib, isi_str, isi_tup, ix_0, ix_1, ix_2, ix_3, ix_4, ix_5, chg, putS, meTy.eq_1, mutM, meS, meD, Sl.bor.eq_1, Sl.bor.eq_2, Sl.bor.eq_3, Option.bind, List.getElem?_cons_zero, List.getElem?_cons_succ, List.set_cons_zero, List.set_cons_succ, fits_lt]; try (first | rfl | exact ⟨rfl, rfl⟩))))
    (apply st_nx; · (apply if_f; (· (simp [finD, evSs, evS.eq_1, evS.eq_2, evS.eq_3, evS.eq_4, evS.eq_5, evS.eq_6, evS.eq_7, evS.eq_10, evS.eq_11, evS.eq_12, evS.eq_13, evE.eq_1, evE.eq_2, evE.eq_3, evE.eq_4, evE.eq_5, evE.eq_6, evE.eq_7, evE.eq_8, evE.eq_9, evE.eq_10, evE.eq_11, evE.eq_12, evE.eq_13, evE.eq_14, evE.eq_15, evE.eq_16, evE.eq_17, evE.eq_18, evE.eq_19, evE.eq_20, evE.eq_21, evE.eq_22, evE.eq_23, evE.eq_24, evE.eq_25, evE.eq_26, evE.eq_27, evT, evVs, evNs, evO, evI, evC', asgT, asgTs, parS, sto, bor, look, looks, dat, dats, fz, lend, vws, nodupB, back, slotOf, outV, keepB, binD, biD, cmpD, truD, keyD, eqO_str, eqO_int, seqD, itD, srcD, tyD, sz, slc_1, isi_int, isi_ib, isi_str, isi_tup, ix_0, ix_1, ix_2, ix_3, ix_4, ix_5, chg, putS, meTy.eq_1, mutM, meS, meD, Sl.bor.eq_1, Sl.bor.eq_2, Sl.bor.eq_3, Option.bind, List.getElem?_cons_zero, List.getElem?_cons_succ, List.set_cons_zero, List.set_cons_succ, fits_lt]; try (first | rfl | exact ⟨rfl, rfl⟩))); exact jq_nil))
    (apply st_nx; · (apply if_f; (· (simp [finD, evSs, evS.eq_1, evS.eq_2, evS.eq_3, evS.eq_4, evS.eq_5, evS.eq_6, evS.eq_7, evS.eq_10, evS.eq_11, evS.eq_12, evS.eq_13, evE.eq_1, evE.eq_2, evE.eq_3, evE.eq_4, evE.eq_5, evE.eq_6, evE.eq_7, evE.eq_8, evE.eq_9, evE.eq_10, evE.eq_11, evE.eq_12, evE.eq_13, evE.eq_14, evE.eq_15, evE.eq_16, evE.eq_17, evE.eq_18, evE.eq_19, evE.eq_20, evE.eq_21, evE.eq_22, evE.eq_23, evE.eq_24, evE.eq_25, evE.eq_26, evE.eq_27, evT, evVs, evNs, evO, evI, evC', asgT, asgTs, parS, sto, bor, look, looks, dat, dats, fz, lend, vws, nodupB, back, slotOf, outV, keepB, binD, biD, cmpD, truD, keyD, eqO_str, eqO_int, seqD, itD, srcD, tyD, sz, slc_1, isi_int, isi_ib, isi_str, isi_tup, ix_0, ix_1, ix_2, ix_3, ix_4, ix_5, chg, putS, meTy.eq_1, mutM, meS, meD, Sl.bor.eq_1, Sl.bor.eq_2, Sl.bor.eq_3, Option.bind, List.getElem?_cons_zero, List.getElem?_cons_succ, List.set_cons_zero, List.set_cons_succ, fits_lt]; try (first | rfl | exact ⟨rfl, rfl⟩))); exact jq_nil))
    (apply st_nx; · (apply if_f; (· (simp [finD, evSs, evS.eq_1, evS.eq_2, evS.eq_3, evS.eq_4, evS.eq_5, evS.eq_6, evS.eq_7, evS.eq_10, evS.eq_11, evS.eq_12, evS.eq_13, evE.eq_1, evE.eq_2, evE.eq_3, evE.eq_4, evE.eq_5, evE.eq_6, evE.eq_7, evE.eq_8, evE.eq_9, evE.eq_10, evE.eq_11, evE.eq_12, evE.eq_13, evE.eq_14, evE.eq_15, evE.eq_16, evE.eq_17, evE.eq_18, evE.eq_19, evE.eq_20, evE.eq_21, evE.eq_22, evE.eq_23, evE.eq_24, evE.eq_25, evE.eq_26, evE.eq_27, evT, evVs, evNs, evO, evI, evC', asgT, asgTs, parS, sto, bor, look, looks, dat, dats, fz, lend, vws, nodupB, back, slotOf, outV, keepB, binD, biD, cmpD, truD, keyD, eqO_str, eqO_int, seqD, itD, srcD, tyD, sz, slc_1, isi_int, isi_ib, isi_str, isi_tup, ix_0, ix_1, ix_2, ix_3, ix_4, ix_5, chg, putS, meTy.eq_1, mutM, meS, meD, Sl.bor.eq_1, Sl.bor.eq_2, Sl.bor.eq_3, Option.bind, List.getElem?_cons_zero, List.getElem?_cons_succ, List.set_cons_zero, List.set_cons_succ, fits_lt]; try (first | rfl | exact ⟨rfl, rfl⟩))); exact jq_nil))
    (apply st_nx; · (apply if_f; (· (simp [finD, evSs, evS.eq_1, evS.eq_2, evS.eq_3, evS.eq_4, evS.eq_5, evS.eq_6, evS.eq_7, evS.eq_10, evS.eq_11, evS.eq_12, evS.eq_13, evE.eq_1, evE.eq_2, evE.eq_3, evE.eq_4, evE.eq_5, evE.eq_6, evE.eq_7, evE.eq_8, evE.eq_9, evE.eq_10, evE.eq_11, evE.eq_12, evE.eq_13, evE.eq_14, evE.eq_15, evE.eq_16, evE.eq_17, evE.eq_18, evE.eq_19, evE.eq_20, evE.eq_21, evE.eq_22, evE.eq_23, evE.eq_24, evE.eq_25, evE.eq_26, evE.eq_27, evT, evVs, evNs, evO, evI, evC', asgT, asgTs, parS, sto, bor, look, looks, dat, dats, fz, lend, vws, nodupB, back, slotOf, outV, keepB, binD, biD, cmpD, truD, keyD, eqO_str, eqO_int, seqD, itD, srcD, tyD, sz, slc_1, isi_int, isi_ib, isi_str, isi_tup, ix_0, ix_1, ix_2, ix_3, ix_4, ix_5, chg, putS, meTy.eq_1, mutM, meS, meD, Sl.bor.eq_1, Sl.bor.eq_2, Sl.bor.eq_3, Option.bind, List.getElem?_cons_zero, List.getElem?_cons_succ, List.set_cons_zero, List.set_cons_succ, fits_lt]; try (first | rfl | exact ⟨rfl, rfl⟩))); exact jq_nil))
    (apply st_rt; (· (simp [finD, evSs, evS.eq_1, evS.eq_2, evS.eq_3, evS.eq_4, evS.eq_5, evS.eq_6, evS.eq_7, evS.eq_10, evS.eq_11, evS.eq_12, evS.eq_13, evE.eq_1, evE.eq_2, evE.eq_3, evE.eq_4, evE.eq_5, evE.eq_6, evE.eq_7, evE.eq_8, evE.eq_9, evE.eq_10, evE.eq_11, evE.eq_12, evE.eq_13, evE.eq_14, evE.eq_15, evE.eq_16, evE.eq_17, evE.eq_18, evE.eq_19, evE.eq_20, evE.eq_21, evE.eq_22, evE.eq_23, evE.eq_24, evE.eq_25, evE.eq_26, evE.eq_27, evT, evVs, evNs, evO, evI, evC', asgT, asgTs, parS, sto, bor, look, looks, dat, dats, fz, lend, vws, nodupB, back, slotOf, outV, keepB, binD, biD, cmpD, truD, keyD, eqO_str, eqO_int, seqD, itD, srcD, tyD, sz, slc_1, isi_int, isi_ib, isi_str, isi_tup, ix_0, ix_1, ix_2, ix_3, ix_4, ix_5, chg, putS, meTy.eq_1, mutM, meS, meD, Sl.bor.eq_1, Sl.bor.eq_2, Sl.bor.eq_3, Option.bind, List.getElem?_cons_zero, List.getElem?_cons_succ, List.set_cons_zero, List.set_cons_succ, fits_lt, c1]; try (first | rfl | exact ⟨rfl, rfl⟩))))
  · rfl
  · rfl
theorem column_of_i (n : Nat) (m : Int) (M : Nat) (gs : List Game) (lots : List (List Int)) (cs : List (Option (Int → Int))) (r : Row) (hs : okSheet M gs) (hl : okLots M lots) (hr : r.okR m) (hc : ∀ s ∈ r.reads, isSet cs s) (hp : ∀ s, r ≠ .part s) :
    evD tab (n + 2) 17 [.va (sheetD M gs), .va (lotsD lots), .va (colsD M cs), .va r.enc] = .ok (.va (colD M (colOf M gs lots (cfOf cs) r)), [.un, .un, .un, .un]) := by
  have hM : (M : Int) ≤ 16 := hs.mm.2
  have hM1 : M ≤ 16 := by omega
  cases r with
  | put c k => exact column_put n M gs _ _ c k hM1
  | byes c k => exact column_byes n M gs _ _ c k hs hr.2
  | gather c s w0 w1 w2 near => obtain ⟨h1, h2, h3, h4, h5, h6⟩ := hr; exact column_gather n M gs lots cs c s w0 w1 w2 near hs hl (hc s (by simp [Row.reads])) h3 h4 h5
  | add c s t => exact column_add n M gs _ cs c s t hM1 (hc s (by simp [Row.reads])) (hc t (by simp [Row.reads]))
  | times c s k => exact column_times n M gs _ cs c s k hM1 (hc s (by simp [Row.reads])) hr.2.2
  | part s => exact absurd rfl (hp s)
end DI.K77
end

section
set_option Elab.async false
set_option linter.all false
set_option maxRecDepth 100000
set_option pp.maxSteps 800
/-! k77: the plain law, part 12: lots_by, begun. -/
namespace DI.K77
open PySem L2
def lotBy (f : Int → Int) (l : List Int) : List (List Int) := (isort (uniq (l.map f))).reverse.map fun v => l.filter fun x => decide (f x = v)
def lotsBy (lots : List (List Int)) (f : Int → Int) : List (List Int) := lots.flatMap (lotBy f)
theorem isort_len (ns : List Int) : (isort ns).length = ns.length := (isort_perm ns).length_eq
theorem lotBy_len (f : Int → Int) (l : List Int) : (lotBy f l).length ≤ l.length := by
  unfold lotBy
  rw [List.length_map, List.length_reverse, isort_len]
  have := uniq_len (l.map f)
  rwa [List.length_map] at this
theorem lotsBy_len (f : Int → Int) : ∀ lots : List (List Int), (lotsBy lots f).length ≤ lots.flatten.length
  | [] => by simp [lotsBy]
  | l :: r => by
    have h1 := lotBy_len f l
    have h2 := lotsBy_len f r
    unfold lotsBy at h2 ⊢
    rw [List.flatMap_cons, List.length_append, List.flatten_cons, List.length_append]
    omega
theorem lots_len {M : Nat} {lots : List (List Int)} (h : okLots M lots) : lots.flatten.length = M := by rw [h.perm.length_eq, plys_len]
theorem lot_mem {M : Nat} {lots : List (List Int)} (h : okLots M lots) {l : List Int} (hl : l ∈ lots) {x : Int} (hx : x ∈ l) : 0 ≤ x ∧ x < M :=
  mem_plys.mp (h.perm.mem_iff.mp (List.mem_flatten.mpr ⟨l, hl, hx⟩))
theorem lot_len {M : Nat} {lots : List (List Int)} (h : okLots M lots) {l : List Int} (hl : l ∈ lots) : l.length ≤ M := by
  rw [← lots_len h]
  obtain ⟨a, b, rfl⟩ := List.append_of_mem hl
  simp only [List.flatten_append, List.flatten_cons, List.length_append]
  omega
theorem lots_by_i (n M : Nat) (lots : List (List Int)) (f : Int → Int) (hM : M ≤ 16) (h : okLots M lots) : evD tab (n + 1) 19 [.va (lotsD lots), .va (colD M f)] = .ok (.va (lotsD (lotsBy lots f)), [.un, .un]) := by
  rw [opn (T := tab) (f := 19) _ 2 4 b_lots_by rfl rfl]; unfold b_lots_by; simp only [List.replicate, List.cons_append, List.nil_append, List.singleton_append]
  obtain ⟨env, h1, s3, s4, rfl, b3, b4⟩ := for_ev (F := evD tab n) (t := .nm 3) (it := .seq (.var 0)) (b := (.cons (.for (.nm 4) (.seq (.rev (.srs (.comp (.idx (.var 1) (.var 5)) (.nm 5) (.seq (.var 3)) .no [("one", 5)])))) (.cons (.expr (.me .append (.var 2) (.cons (.bi .tuple (.cons (.comp (.var 5) (.nm 5) (.seq (.var 3)) (.so (.e (.cmp .Eq (.idx (.var 1) (.var 5)) (.var 4)))) [("one", 5)]) .nil)) .nil))) .nil)) .nil)) (env := [.va (lotsD lots), .va (colD M f), .li false [], .un, .un, .un]) (fun _ l => lotD l)
    (fun pre env => ∃ s3 s4, env = [.va (lotsD lots), .va (colD M f), .li false ((lotsBy pre f).map lotD), s3, s4, .un] ∧ s3.bor = false ∧ s4.bor = false) (xs := lots)
    (by simp only [← idm_map]; simp [finD, evSs, evS.eq_1, evS.eq_2, evS.eq_3, evS.eq_4, evS.eq_5, evS.eq_6, evS.eq_7, evS.eq_10, evS.eq_11, evS.eq_12, evS.eq_13, evE.eq_1, evE.eq_2, evE.eq_3, evE.eq_4, evE.eq_5, evE.eq_6, evE.eq_7, evE.eq_8, evE.eq_9, evE.eq_10, evE.eq_11, evE.eq_12, evE.eq_13, evE.eq_14, evE.eq_15, evE.eq_16, evE.eq_17, evE.eq_18, evE.eq_19, evE.eq_20, evE.eq_21, evE.eq_22, evE.eq_23, evE.eq_24, evE.eq_25, evE.eq_26, evE.eq_27, evT, evVs, evNs, evO, evI, evC', asgT, asgTs, parS, sto, bor, look, looks, dat, dats, fz, lend, vws, nodupB, back, slotOf, outV, keepB, binD, biD, cmpD, truD, keyD, eqO_str, eqO_int, seqD, itD, srcD, tyD, sz, slc_1, isi_int, isi_ib, isi_str, isi_tup, ix_0, ix_1, ix_2, ix_3, ix_4, ix_5, chg, putS, meTy.eq_1, mutM, meS, meD, Sl.bor.eq_1, Sl.bor.eq_2, Sl.bor.eq_3, Option.bind, List.getElem?_cons_zero, List.getElem?_cons_succ, List.set_cons_zero, List.set_cons_succ, fits_lt]) ⟨.un, .un, rfl, rfl, rfl⟩ (by
      rintro pre l post env hr ⟨s3, s4, rfl, b3, b4⟩
      have hl : l ∈ lots := mem_mid hr
      have hlen := lot_len h hl
      have htot : pre.flatten.length + l.length ≤ 16 := by
        have := lots_len h; rw [hr] at this; simp only [List.flatten_append, List.flatten_cons, List.length_append] at this; omega
      have hpre := lotsBy_len f pre
      have hl64 : l.length < 64 := by omega
      have hu : (uniq (l.map f)).length < 64 := by
        have := uniq_len (l.map f); rw [List.length_map] at this; omega
      have c1 := comp_evY (F := evD tab n) (a := (.idx (.var 1) (.var 5))) (tg := .nm 5) (it := .seq (.var 3)) (own := [("one", 5)]) (env := [.va (lotsD lots), .va (colD M f), .li false ((lotsBy pre f).map lotD), .va (lotD l), s4, .un]) (xs := l) .int (fun x => .int (f x))
        (by simp [finD, evSs, evS.eq_1, evS.eq_2, evS.eq_3, evS.eq_4, evS.eq_5, evS.eq_6, evS.eq_7, evS.eq_10, evS.eq_11, evS.eq_12, evS.eq_13, evE.eq_1, evE.eq_2, evE.eq_3, evE.eq_4, evE.eq_5, evE.eq_6, evE.eq_7, evE.eq_8, evE.eq_9, evE.eq_10, evE.eq_11, evE.eq_12, evE.eq_13, evE.eq_14, evE.eq_15, evE.eq_16, evE.eq_17, evE.eq_18, evE.eq_19, evE.eq_20, evE.eq_21, evE.eq_22, evE.eq_23, evE.eq_24, evE.eq_25, evE.eq_26, evE.eq_27, evT, evVs, evNs, evO, evI, evC', asgT, asgTs, parS, sto, bor, look, looks, dat, dats, fz, lend, vws, nodupB, back, slotOf, outV, keepB, binD, biD, cmpD, truD, keyD, eqO_str, eqO_int, seqD, itD, srcD, tyD, sz, slc_1, isi_int, isi_ib, isi_str, isi_tup, ix_0, ix_1, ix_2, ix_3, ix_4, ix_5, chg, putS, meTy.eq_1, mutM, meS, meD, Sl.bor.eq_1, Sl.bor.eq_2, Sl.bor.eq_3, Option.bind, List.getElem?_cons_zero, List.getElem?_cons_succ, List.set_cons_zero, List.set_cons_succ, fits_lt]) rfl rfl (by omega) (by
          intro x hx
          have := ix_col (f := f) (lot_mem h hl hx)
          exact ⟨_, _, by simp [finD, evSs, evS.eq_1, evS.eq_2, evS.eq_3, evS.eq_4, evS.eq_5, evS.eq_6, evS.eq_7, evS.eq_10, evS.eq_11, evS.eq_12, evS.eq_13, evE.eq_1, evE.eq_2, evE.eq_3, evE.eq_4, evE.eq_5, evE.eq_6, evE.eq_7, evE.eq_8, evE.eq_9, evE.eq_10, evE.eq_11, evE.eq_12, evE.eq_13, evE.eq_14, evE.eq_15, evE.eq_16, evE.eq_17, evE.eq_18, evE.eq_19, evE.eq_20, evE.eq_21, evE.eq_22, evE.eq_23, evE.eq_24, evE.eq_25, evE.eq_26, evE.eq_27, evT, evVs, evNs, evO, evI, evC', asgT, asgTs, parS, sto, bor, look, looks, dat, dats, fz, lend, vws, nodupB, back, slotOf, outV, keepB, binD, biD, cmpD, truD, keyD, eqO_str, eqO_int, seqD, itD, srcD, tyD, sz, slc_1, isi_int, isi_ib, isi_str, isi_tup, ix_0, ix_1, ix_2, ix_3, ix_4, ix_5, chg, putS, meTy.eq_1, mutM, meS, meD, Sl.bor.eq_1, Sl.bor.eq_2, Sl.bor.eq_3, Option.bind, List.getElem?_cons_zero, List.getElem?_cons_succ, List.set_cons_zero, List.set_cons_succ, fits_lt, wipeE, Sl.bor]; rfl, by rfl, by rfl, by simp [finD, evSs, evS.eq_1, evS.eq_2, evS.eq_3, evS.eq_4, evS.eq_5, evS.eq_6, evS.eq_7, evS.eq_10, evS.eq_11, evS.eq_12, evS.eq_13, evE.eq_1, evE.eq_2, evE.eq_3, evE.eq_4, evE.eq_5, evE.eq_6, evE.eq_7, evE.eq_8, evE.eq_9, evE.eq_10, evE.eq_11, evE.eq_12, evE.eq_13, evE.eq_14, evE.eq_15, evE.eq_16, evE.eq_17, evE.eq_18, evE.eq_19, evE.eq_20, evE.eq_21, evE.eq_22, evE.eq_23, evE.eq_24, evE.eq_25, evE.eq_26, evE.eq_27, evT, evVs, evNs, evO, evI, evC', asgT, asgTs, parS, sto, bor, look, looks, dat, dats, fz, lend, vws, nodupB, back, slotOf, outV, keepB, binD, biD, cmpD, truD, keyD, eqO_str, eqO_int, seqD, itD, srcD, tyD, sz, slc_1, isi_int, isi_ib, isi_str, isi_tup, ix_0, ix_1, ix_2, ix_3, ix_4, ix_5, chg, putS, meTy.eq_1, mutM, meS, meD, Sl.bor.eq_1, Sl.bor.eq_2, Sl.bor.eq_3, Option.bind, List.getElem?_cons_zero, List.getElem?_cons_succ, List.set_cons_zero, List.set_cons_succ, fits_lt, this]; rfl, by rfl⟩) rfl
      obtain ⟨env, g1, s4', rfl, b4'⟩ := for_ev (F := evD tab n) (t := .nm 4) (it := .seq (.rev (.srs (.comp (.idx (.var 1) (.var 5)) (.nm 5) (.seq (.var 3)) .no [("one", 5)])))) (b := (.cons (.expr (.me .append (.var 2) (.cons (.bi .tuple (.cons (.comp (.var 5) (.nm 5) (.seq (.var 3)) (.so (.e (.cmp .Eq (.idx (.var 1) (.var 5)) (.var 4)))) [("one", 5)]) .nil)) .nil))) .nil)) (env := [.va (lotsD lots), .va (colD M f), .li false ((lotsBy pre f).map lotD), .va (lotD l), s4, .un]) (fun _ v => .int v)
        (fun ipre env => ∃ s4, env = [.va (lotsD lots), .va (colD M f), .li false ((lotsBy pre f ++ ipre.map fun v => l.filter fun x => decide (f x = v)).map lotD), .va (lotD l), s4, .un] ∧ s4.bor = false) (xs := (isort (uniq (l.map f))).reverse)
        (by simp only [← idm_map]; simp [finD, evSs, evS.eq_1, evS.eq_2, evS.eq_3, evS.eq_4, evS.eq_5, evS.eq_6, evS.eq_7, evS.eq_10, evS.eq_11, evS.eq_12, evS.eq_13, evE.eq_1, evE.eq_2, evE.eq_3, evE.eq_4, evE.eq_5, evE.eq_6, evE.eq_7, evE.eq_8, evE.eq_9, evE.eq_10, evE.eq_11, evE.eq_12, evE.eq_13, evE.eq_14, evE.eq_15, evE.eq_16, evE.eq_17, evE.eq_18, evE.eq_19, evE.eq_20, evE.eq_21, evE.eq_22, evE.eq_23, evE.eq_24, evE.eq_25, evE.eq_26, evE.eq_27, evT, evVs, evNs, evO, evI, evC', asgT, asgTs, parS, sto, bor, look, looks, dat, dats, fz, lend, vws, nodupB, back, slotOf, outV, keepB, binD, biD, cmpD, truD, keyD, eqO_str, eqO_int, seqD, itD, srcD, tyD, sz, slc_1, isi_int, isi_ib, isi_str, isi_tup, ix_0, ix_1, ix_2, ix_3, ix_4, ix_5, chg, putS, meTy.eq_1, mutM, meS, meD, Sl.bor.eq_1, Sl.bor.eq_2, Sl.bor.eq_3, Option.bind, List.getElem?_cons_zero, List.getElem?_cons_succ, List.set_cons_zero, List.set_cons_succ, fits_lt, c1, intsD_mapf, hl64]) ⟨s4, by simp, b4⟩ (by
          rintro ipre v ipost env hri ⟨s4, rfl, b4⟩
          have hil : ipre.length < 64 := by
            have : (isort (uniq (l.map f))).reverse.length < 64 := by rw [List.length_reverse, isort_len]; exact hu
            rw [hri] at this; simp at this; omega
          have c2 := fun (W : List D) => comp_evX (F := evD tab n) (a := .var 5) (tg := .nm 5) (it := .seq (.var 3)) (k := (.so (.e (.cmp .Eq (.idx (.var 1) (.var 5)) (.var 4))))) (own := [("one", 5)]) (env := [.va (lotsD lots), .va (colD M f), .li false W, .va (lotD l), .va (.int v), .un]) (xs := l) .int (fun x => decide (f x = v)) .int
            (by simp [finD, evSs, evS.eq_1, evS.eq_2, evS.eq_3, evS.eq_4, evS.eq_5, evS.eq_6, evS.eq_7, evS.eq_10, evS.eq_11, evS.eq_12, evS.eq_13, evE.eq_1, evE.eq_2, evE.eq_3, evE.eq_4, evE.eq_5, evE.eq_6, evE.eq_7, evE.eq_8, evE.eq_9, evE.eq_10, evE.eq_11, evE.eq_12, evE.eq_13, evE.eq_14, evE.eq_15, evE.eq_16, evE.eq_17, evE.eq_18, evE.eq_19, evE.eq_20, evE.eq_21, evE.eq_22, evE.eq_23, evE.eq_24, evE.eq_25, evE.eq_26, evE.eq_27, evT, evVs, evNs, evO, evI, evC', asgT, asgTs, parS, sto, bor, look, looks, dat, dats, fz, lend, vws, nodupB, back, slotOf, outV, keepB, binD, biD, cmpD, truD, keyD, eqO_str, eqO_int, seqD, itD, srcD, tyD, sz, slc_1, isi_int, isi_ib, isi_str, isi_tup, ix_0, ix_1, ix_2, ix_3, ix_4, ix_5, chg, putS, meTy.eq_1, mutM, meS, meD, Sl.bor.eq_1, Sl.bor.eq_2, Sl.bor.eq_3, Option.bind, List.getElem?_cons_zero, List.getElem?_cons_succ, List.set_cons_zero, List.set_cons_succ, fits_lt]) rfl rfl (by omega) (by
              intro x hx
              have := ix_col (f := f) (lot_mem h hl hx)
              exact ⟨_, by simp [finD, evSs, evS.eq_1, evS.eq_2, evS.eq_3, evS.eq_4, evS.eq_5, evS.eq_6, evS.eq_7, evS.eq_10, evS.eq_11, evS.eq_12, evS.eq_13, evE.eq_1, evE.eq_2, evE.eq_3, evE.eq_4, evE.eq_5, evE.eq_6, evE.eq_7, evE.eq_8, evE.eq_9, evE.eq_10, evE.eq_11, evE.eq_12, evE.eq_13, evE.eq_14, evE.eq_15, evE.eq_16, evE.eq_17, evE.eq_18, evE.eq_19, evE.eq_20, evE.eq_21, evE.eq_22, evE.eq_23, evE.eq_24, evE.eq_25, evE.eq_26, evE.eq_27, evT, evVs, evNs, evO, evI, evC', asgT, asgTs, parS, sto, bor, look, looks, dat, dats, fz, lend, vws, nodupB, back, slotOf, outV, keepB, binD, biD, cmpD, truD, keyD, eqO_str, eqO_int, seqD, itD, srcD, tyD, sz, slc_1, isi_int, isi_ib, isi_str, isi_tup, ix_0, ix_1, ix_2, ix_3, ix_4, ix_5, chg, putS, meTy.eq_1, mutM, meS, meD, Sl.bor.eq_1, Sl.bor.eq_2, Sl.bor.eq_3, Option.bind, List.getElem?_cons_zero, List.getElem?_cons_succ, List.set_cons_zero, List.set_cons_succ, fits_lt, wipeE, Sl.bor]; rfl, by rfl, by rfl, by simp [finD, evSs, evS.eq_1, evS.eq_2, evS.eq_3, evS.eq_4, evS.eq_5, evS.eq_6, evS.eq_7, evS.eq_10, evS.eq_11, evS.eq_12, evS.eq_13, evE.eq_1, evE.eq_2, evE.eq_3, evE.eq_4, evE.eq_5, evE.eq_6, evE.eq_7, evE.eq_8, evE.eq_9, evE.eq_10, evE.eq_11, evE.eq_12, evE.eq_13, evE.eq_14, evE.eq_15, evE.eq_16, evE.eq_17, evE.eq_18, evE.eq_19, evE.eq_20, evE.eq_21, evE.eq_22, evE.eq_23, evE.eq_24, evE.eq_25, evE.eq_26, evE.eq_27, evT, evVs, evNs, evO, evI, evC', asgT, asgTs, parS, sto, bor, look, looks, dat, dats, fz, lend, vws, nodupB, back, slotOf, outV, keepB, binD, biD, cmpD, truD, keyD, eqO_str, eqO_int, seqD, itD, srcD, tyD, sz, slc_1, isi_int, isi_ib, isi_str, isi_tup, ix_0, ix_1, ix_2, ix_3, ix_4, ix_5, chg, putS, meTy.eq_1, mutM, meS, meD, Sl.bor.eq_1, Sl.bor.eq_2, Sl.bor.eq_3, Option.bind, List.getElem?_cons_zero, List.getElem?_cons_succ, List.set_cons_zero, List.set_cons_succ, fits_lt, this], fun _ => ⟨_, by simp [finD, evSs, evS.eq_1, evS.eq_2, evS.eq_3, evS.eq_4, evS.eq_5, evS.eq_6, evS.eq_7, evS.eq_10, evS.eq_11, evS.eq_12, evS.eq_13, evE.eq_1, evE.eq_2, evE.eq_3, evE.eq_4, evE.eq_5, evE.eq_6, evE.eq_7, evE.eq_8, evE.eq_9, evE.eq_10, evE.eq_11, evE.eq_12, evE.eq_13, evE.eq_14, evE.eq_15, evE.eq_16, evE.eq_17, evE.eq_18, evE.eq_19, evE.eq_20, evE.eq_21, evE.eq_22, evE.eq_23, evE.eq_24, evE.eq_25, evE.eq_26, evE.eq_27, evT, evVs, evNs, evO, evI, evC', asgT, asgTs, parS, sto, bor, look, looks, dat, dats, fz, lend, vws, nodupB, back, slotOf, outV, keepB, binD, biD, cmpD, truD, keyD, eqO_str, eqO_int, seqD, itD, srcD, tyD, sz, slc_1, isi_int, isi_ib, isi_str, isi_tup, ix_0, ix_1, ix_2, ix_3, ix_4, ix_5, chg, putS, meTy.eq_1, mutM, meS, meD, Sl.bor.eq_1, Sl.bor.eq_2, Sl.bor.eq_3, Option.bind, List.getElem?_cons_zero, List.getElem?_cons_succ, List.set_cons_zero, List.set_cons_succ, fits_lt]; rfl, by rfl⟩⟩) rfl
          refine ⟨_, _, by simp [finD, evSs, evS.eq_1, evS.eq_2, evS.eq_3, evS.eq_4, evS.eq_5, evS.eq_6, evS.eq_7, evS.eq_10, evS.eq_11, evS.eq_12, evS.eq_13, evE.eq_1, evE.eq_2, evE.eq_3, evE.eq_4, evE.eq_5, evE.eq_6, evE.eq_7, evE.eq_8, evE.eq_9, evE.eq_10, evE.eq_11, evE.eq_12, evE.eq_13, evE.eq_14, evE.eq_15, evE.eq_16, evE.eq_17, evE.eq_18, evE.eq_19, evE.eq_20, evE.eq_21, evE.eq_22, evE.eq_23, evE.eq_24, evE.eq_25, evE.eq_26, evE.eq_27, evT, evVs, evNs, evO, evI, evC', asgT, asgTs, parS, sto, bor, look, looks, dat, dats, fz, lend, vws, nodupB, back, slotOf, outV, keepB, binD, biD, cmpD, truD, keyD, eqO_str, eqO_int, seqD, itD, srcD, tyD, sz, slc_1, isi_int, isi_ib, isi_str, isi_tup, ix_0, ix_1, ix_2, ix_3, ix_4, ix_5, chg, putS, meTy.eq_1, mutM, meS, meD, Sl.bor.eq_1, Sl.bor.eq_2, Sl.bor.eq_3, Option.bind, List.getElem?_cons_zero, List.getElem?_cons_succ, List.set_cons_zero, List.set_cons_succ, fits_lt, b4]; rfl, ?_, ⟨.va (.int v), rfl, rfl⟩⟩
          have hA : (lotsBy pre f).length + ipre.length < 1000000 := by omega
          simp [finD, evSs, evS.eq_1, evS.eq_2, evS.eq_3, evS.eq_4, evS.eq_5, evS.eq_6, evS.eq_7, evS.eq_10, evS.eq_11, evS.eq_12, evS.eq_13, evE.eq_1, evE.eq_2, evE.eq_3, evE.eq_4, evE.eq_5, evE.eq_6, evE.eq_7, evE.eq_8, evE.eq_9, evE.eq_10, evE.eq_11, evE.eq_12, evE.eq_13, evE.eq_14, evE.eq_15, evE.eq_16, evE.eq_17, evE.eq_18, evE.eq_19, evE.eq_20, evE.eq_21, evE.eq_22, evE.eq_23, evE.eq_24, evE.eq_25, evE.eq_26, evE.eq_27, evT, evVs, evNs, evO, evI, evC', asgT, asgTs, parS, sto, bor, look, looks, dat, dats, fz, lend, vws, nodupB, back, slotOf, outV, keepB, binD, biD, cmpD, truD, keyD, eqO_str, eqO_int, seqD, itD, srcD, tyD, sz, slc_1, isi_int, isi_ib, isi_str, isi_tup, ix_0, ix_1, ix_2, ix_3, ix_4, ix_5, chg, putS, meTy.eq_1, mutM, meS, meD, Sl.bor.eq_1, Sl.bor.eq_2, Sl.bor.eq_3, Option.bind, List.getElem?_cons_zero, List.getElem?_cons_succ, List.set_cons_zero, List.set_cons_succ, fits_lt, c2, hA])
      refine ⟨_, _, by simp [finD, evSs, evS.eq_1, evS.eq_2, evS.eq_3, evS.eq_4, evS.eq_5, evS.eq_6, evS.eq_7, evS.eq_10, evS.eq_11, evS.eq_12, evS.eq_13, evE.eq_1, evE.eq_2, evE.eq_3, evE.eq_4, evE.eq_5, evE.eq_6, evE.eq_7, evE.eq_8, evE.eq_9, evE.eq_10, evE.eq_11, evE.eq_12, evE.eq_13, evE.eq_14, evE.eq_15, evE.eq_16, evE.eq_17, evE.eq_18, evE.eq_19, evE.eq_20, evE.eq_21, evE.eq_22, evE.eq_23, evE.eq_24, evE.eq_25, evE.eq_26, evE.eq_27, evT, evVs, evNs, evO, evI, evC', asgT, asgTs, parS, sto, bor, look, looks, dat, dats, fz, lend, vws, nodupB, back, slotOf, outV, keepB, binD, biD, cmpD, truD, keyD, eqO_str, eqO_int, seqD, itD, srcD, tyD, sz, slc_1, isi_int, isi_ib, isi_str, isi_tup, ix_0, ix_1, ix_2, ix_3, ix_4, ix_5, chg, putS, meTy.eq_1, mutM, meS, meD, Sl.bor.eq_1, Sl.bor.eq_2, Sl.bor.eq_3, Option.bind, List.getElem?_cons_zero, List.getElem?_cons_succ, List.set_cons_zero, List.set_cons_succ, fits_lt, b3]; rfl, ?_, ⟨.va (lotD l), s4', rfl, rfl, b4'⟩⟩
      have : lotsBy (pre ++ [l]) f = lotsBy pre f ++ lotBy f l := by simp [lotsBy]
      rw [this]
      simp [finD, evSs, evS.eq_1, evS.eq_2, evS.eq_3, evS.eq_4, evS.eq_5, evS.eq_6, evS.eq_7, evS.eq_10, evS.eq_11, evS.eq_12, evS.eq_13, evE.eq_1, evE.eq_2, evE.eq_3, evE.eq_4, evE.eq_5, evE.eq_6, evE.eq_7, evE.eq_8, evE.eq_9, evE.eq_10, evE.eq_11, evE.eq_12, evE.eq_13, evE.eq_14, evE.eq_15, evE.eq_16, evE.eq_17, evE.eq_18, evE.eq_19, evE.eq_20, evE.eq_21, evE.eq_22, evE.eq_23, evE.eq_24, evE.eq_25, evE.eq_26, evE.eq_27, evT, evVs, evNs, evO, evI, evC', asgT, asgTs, parS, sto, bor, look, looks, dat, dats, fz, lend, vws, nodupB, back, slotOf, outV, keepB, binD, biD, cmpD, truD, keyD, eqO_str, eqO_int, seqD, itD, srcD, tyD, sz, slc_1, isi_int, isi_ib, isi_str, isi_tup, ix_0, ix_1, ix_2, ix_3, ix_4, ix_5, chg, putS, meTy.eq_1, mutM, meS, meD, Sl.bor.eq_1, Sl.bor.eq_2, Sl.bor.eq_3, Option.bind, List.getElem?_cons_zero, List.getElem?_cons_succ, List.set_cons_zero, List.set_cons_succ, fits_lt, g1]
      unfold lotBy
      simp)
  simp [finD, evSs, evS.eq_1, evS.eq_2, evS.eq_3, evS.eq_4, evS.eq_5, evS.eq_6, evS.eq_7, evS.eq_10, evS.eq_11, evS.eq_12, evS.eq_13, evE.eq_1, evE.eq_2, evE.eq_3, evE.eq_4, evE.eq_5, evE.eq_6, evE.eq_7, evE.eq_8, evE.eq_9, evE.eq_10, evE.eq_11, evE.eq_12, evE.eq_13, evE.eq_14, evE.eq_15, evE.eq_16, evE.eq_17, evE.eq_18, evE.eq_19, evE.eq_20, evE.eq_21, evE.eq_22, evE.eq_23, evE.eq_24, evE.eq_25, evE.eq_26, evE.eq_27, evT, evVs, evNs, evO, evI, evC', asgT, asgTs, parS, sto, bor, look, looks, dat, dats, fz, lend, vws, nodupB, back, slotOf, outV, keepB, binD, biD, cmpD, truD, keyD, eqO_str, eqO_int, seqD, itD, srcD, tyD, sz, slc_1, isi_int, isi_ib, isi_str, isi_tup, ix_0, ix_1, ix_2, ix_3, ix_4, ix_5, chg, putS, meTy.eq_1, mutM, meS, meD, Sl.bor.eq_1, Sl.bor.eq_2, Sl.bor.eq_3, Option.bind, List.getElem?_cons_zero, List.getElem?_cons_succ, List.set_cons_zero, List.set_cons_succ, fits_lt, h1]
def st0c (m : Int) : List (Option (Int → Int)) := List.replicate m.toNat none
abbrev stD (M : Nat) (k : Nat) (cs : List (Option (Int → Int))) (lots : List (List Int)) : D := .tup [.int k, colsD M cs, lotsD lots]
theorem mulT {a : List D} {k : Int} (h : (decide (1 ≤ k ∧ k ≤ 1000) && decide (1 ≤ a.length ∧ a.length ≤ 1000)) = true) : binD .Mult (.tup a) (.int k) = some (.va (.tup (List.replicate k.toNat a).flatten)) := by
  unfold binD
  exact if_pos h
theorem flat1 (d : D) (M : Nat) : (List.replicate M [d]).flatten = List.replicate M d := by
  induction M with
  | zero => rfl
  | succ k ih => rw [List.replicate_succ, List.flatten_cons, ih]; rfl
theorem mulN {d : D} {m : Int} (h : 1 ≤ m ∧ m ≤ 1000) : binD .Mult (.tup [d]) (.int m) = some (.va (.tup (List.replicate m.toNat d))) := by
  rw [mulT, flat1]
  rw [Bool.and_eq_true]
  exact ⟨decide_eq_true h, decide_eq_true (by simp)⟩
theorem tup1 {F : CF} {env : Envi} {d : D} : evE F (.tup (.cons (.lit d) .nil)) env = .ok (.va (.tup [d]), env) :=
  je_tup (jv_cons je_lit jv_nil) rfl (fits_lt (by simp only [List.length_cons, List.length_nil]; omega))
theorem begun_i (n : Nat) (m : Int) (rows : List Row) (M : Nat) (gs : List Game) (hm : 1 ≤ m ∧ m ≤ 16) (hM : M ≤ 16) :
    evD tab (n + 1) 20 [.va (codeD m rows), .va (sheetD M gs)] = .ok (.va (stD M 0 (st0c m) [plys M]), [.un, .un]) := by
  rw [opn (T := tab) (f := 20) _ 2 0 b_begun rfl rfl]; unfold b_begun; simp only [List.replicate, List.cons_append, List.nil_append, List.singleton_append]
  have e1 : evE (evD tab n) (.bin .Mult (.tup (.cons (.lit .non) .nil)) (.idx (.var 0) (.lit (.int 1)))) [.va (codeD m rows), .va (sheetD M gs)] = .ok (.va (colsD M (st0c m)), [.va (codeD m rows), .va (sheetD M gs)]) := by
    refine je_bin tup1 (je_idx (je_var rfl) je_lit rfl rfl ix_1) rfl rfl ?_
    rw [mulN (by omega)]
    unfold colsD st0c
    rw [List.map_replicate]; rfl
  have e2 : evE (evD tab n) (.rgl true (.idx (.var 1) (.lit (.int 0)))) [.va (codeD m rows), .va (sheetD M gs)] = .ok (.va (lotD (plys M)), [.va (codeD m rows), .va (sheetD M gs)]) := by
    have := je_rgl (F := evD tab n) (t := true) (env := [.va (codeD m rows), .va (sheetD M gs)]) (e1 := [.va (codeD m rows), .va (sheetD M gs)]) (a := .idx (.var 1) (.lit (.int 0))) (n := M) (je_idx (je_var rfl) je_lit rfl rfl ix_0) (by omega)
    rw [this, if_pos rfl, Int.toNat_natCast, rngL_plys]
  apply fin_rt
  · exact st_rt (js_ret (je_tup (jv_cons je_lit (jv_cons e1 (jv_cons (je_tup (jv_cons e2 jv_nil) rfl (fits_lt (by simp only [List.length_cons, List.length_nil]; omega))) jv_nil))) rfl (fits_lt (by simp only [List.length_cons, List.length_nil]; omega))))
  · rfl
  · rfl
end DI.K77
end

section
set_option Elab.async false
set_option linter.all false
set_option maxRecDepth 100000
set_option pp.maxSteps 800
/-! k77: the plain law, part 13: states. -/
namespace DI.K77
open PySem L2
structure St where
  cs : List (Option (Int → Int))
  lots : List (List Int)
def stepS (M : Nat) (gs : List Game) (s : St) (r : Row) : St := match r.to with
  | some c => ⟨s.cs.set c.toNat (some (colOf M gs s.lots (cfOf s.cs) r)), s.lots⟩
  | none => match r with
    | .part p => ⟨s.cs, lotsBy s.lots (cfOf s.cs p)⟩
    | _ => s
def runS (M : Nat) (m : Int) (gs : List Game) (rows : List Row) : St := rows.foldl (stepS M gs) ⟨st0c m, [plys M]⟩
theorem runS_snoc (M : Nat) (m : Int) (gs : List Game) (rows : List Row) (r : Row) : runS M m gs (rows ++ [r]) = stepS M gs (runS M m gs rows) r := by
  unfold runS; rw [List.foldl_append]; rfl
/-- what stands behind some rows of a code -/
structure okSt (M : Nat) (m : Int) (pre : List Row) (s : St) : Prop where
  lots : okLots M s.lots
  len : s.cs.length = m.toNat
  set : ∀ c, some c ∈ pre.map Row.to → isSet s.cs c
theorem lotBy_perm (f : Int → Int) (l : List Int) : (lotBy f l).flatten.Perm l := by
  unfold lotBy
  have key : ∀ (vs : List Int), vs.Nodup → ((vs.map fun v => l.filter fun x => decide (f x = v)).flatten).Perm (l.filter fun x => decide (f x ∈ vs)) := by
    intro vs
    induction vs with
    | nil => intro _; simp
    | cons v vs ih =>
      intro hn
      rw [List.map_cons, List.flatten_cons]
      have hv := (List.nodup_cons.mp hn).1
      refine ((ih (List.nodup_cons.mp hn).2).append_left _).trans ?_
      have : (l.filter fun x => decide (f x ∈ v :: vs)).Perm ((l.filter fun x => decide (f x ∈ v :: vs)).filter (fun x => decide (f x = v)) ++ (l.filter fun x => decide (f x ∈ v :: vs)).filter (fun x => !decide (f x = v))) := (List.filter_append_perm _ _).symm
      refine List.Perm.trans ?_ this.symm
      rw [List.filter_filter, List.filter_filter]
      refine List.Perm.append (List.Perm.of_eq ?_) (List.Perm.of_eq ?_)
      · apply List.filter_congr
        intro x _
        by_cases h : f x = v <;> simp [h]
      · apply List.filter_congr
        intro x _
        by_cases h : f x = v
        · simp [h, hv]
        · simp [h]
  have hn : (isort (uniq (l.map f))).reverse.Nodup := by
    refine (List.reverse_perm _).nodup_iff.mpr ?_
    exact (isort_perm _).nodup_iff.mpr (uniq_nodup _)
  refine (key _ hn).trans (List.Perm.of_eq ?_)
  rw [List.filter_eq_self]
  intro x hx
  simp only [decide_eq_true_eq]
  rw [List.mem_reverse, (isort_perm _).mem_iff, uniq_mem]
  exact List.mem_map_of_mem hx
theorem lotsBy_ok {M : Nat} {lots : List (List Int)} (f : Int → Int) (h : okLots M lots) : okLots M (lotsBy lots f) := by
  refine ⟨List.Perm.trans ?_ h.perm⟩
  unfold lotsBy
  clear h
  induction lots with
  | nil => simp
  | cons l r ih =>
    rw [List.flatMap_cons, List.flatten_append, List.flatten_cons]
    exact (lotBy_perm f l).append ih
theorem st0_ok (M : Nat) (m : Int) : okSt M m [] ⟨st0c m, [plys M]⟩ := ⟨⟨by simp⟩, by simp [st0c], by simp⟩
theorem Row.to_lt {m : Int} {r : Row} (h : r.okR m) {c : Int} (hc : r.to = some c) : 0 ≤ c ∧ c < m := by
  cases r <;> simp only [Row.to, Option.some.injEq, reduceCtorEq] at hc <;> subst hc <;> exact h.1
theorem step_ok {M : Nat} {m : Int} {gs : List Game} {pre : List Row} {s : St} {r : Row} (h : okSt M m pre s) (hr : r.okR m) : okSt M m (pre ++ [r]) (stepS M gs s r) := by
  unfold stepS
  split
  · next c hc =>
    have hlt := Row.to_lt hr hc
    refine ⟨h.lots, by rw [List.length_set]; exact h.len, ?_⟩
    intro x hx
    simp only [List.map_append, List.map_cons, List.map_nil, List.mem_append, List.mem_singleton, hc, Option.some.injEq] at hx
    have hl := h.len
    by_cases hxc : x = c
    · subst hxc
      exact ⟨hlt.1, _, by rw [List.getElem?_set_self (by omega)]⟩
    · rcases hx with hx | hx
      · obtain ⟨h0, f, hf⟩ := h.set x hx
        exact ⟨h0, f, by rw [List.getElem?_set_ne (by omega)]; exact hf⟩
      · exact absurd hx hxc
  · next hc =>
    have hset : ∀ c, some c ∈ (pre ++ [r]).map Row.to → isSet s.cs c := by
      intro x hx
      simp only [List.map_append, List.map_cons, List.map_nil, List.mem_append, List.mem_singleton, hc, reduceCtorEq, or_false] at hx
      exact h.set x hx
    split
    · exact ⟨lotsBy_ok _ h.lots, h.len, hset⟩
    · exact ⟨h.lots, h.len, hset⟩
theorem run_ok {M : Nat} {m : Int} {gs : List Game} {rows : List Row} (h : ∀ r ∈ rows, r.okR m) : okSt M m rows (runS M m gs rows) := by
  refine pre_ind (P := fun pre => okSt M m pre (runS M m gs pre)) (st0_ok M m) ?_
  intro pre r post hr hp
  show okSt M m (pre ++ [r]) (runS M m gs (pre ++ [r]))
  rw [runS_snoc]
  exact step_ok hp (h r (mem_mid hr))
theorem ix_nth {xs : List D} {k : Nat} (h : k < xs.length) : idxD (.tup xs) (.int k) = xs[k]? := by
  show (ixN _ _).bind _ = _
  rw [ixN_n _ _ h]; rfl
theorem slc_hi {xs : List D} {c : Int} (h : 0 ≤ c ∧ c ≤ xs.length) : slcD (.tup xs) none (some c) = some (.va (.tup (xs.take c.toNat))) := by
  unfold slcD cutD HT.sIx
  simp only
  rw [if_neg (by omega), Nat.min_eq_left (by omega)]
  simp
theorem slc_lo {xs : List D} {c : Int} (h : 0 ≤ c ∧ c ≤ xs.length) : slcD (.tup xs) (some c) none = some (.va (.tup (xs.drop c.toNat))) := by
  unfold slcD cutD HT.sIx
  simp only
  rw [if_neg (by omega), Nat.min_eq_left (by omega), List.take_of_length_le (by simp)]
theorem cat3 {α : Type} {xs : List α} {c : Nat} {x : α} (h : c < xs.length) : xs.take c ++ x :: xs.drop (c + 1) = xs.set c x := by
  rw [List.set_eq_take_append_cons_drop, if_pos h]
theorem addT {a b : List D} (h : a.length + b.length < 1000000) : binD .Add (.tup a) (.tup b) = some (.va (.tup (a ++ b))) := by
  unfold binD
  exact if_pos (fits_lt h)
theorem step_in_i (n : Nat) (m : Int) (rows pre post : List Row) (r : Row) (M : Nat) (gs : List Game) (s : St) (h : okRows m rows) (hm : m ≤ 16) (hr : rows = pre ++ r :: post) (hs : okSheet M gs) (hst : okSt M m pre s) :
    evD tab (n + 3) 21 [.va (codeD m rows), .va (sheetD M gs), .va (stD M pre.length s.cs s.lots)] = .ok (.va (stD M (pre.length + 1) (stepS M gs s r).cs (stepS M gs s r).lots), [.un, .un, .un]) := by
  rw [opn (T := tab) (f := 21) _ 3 5 b_step_in rfl rfl]; unfold b_step_in; simp only [List.replicate, List.cons_append, List.nil_append, List.singleton_append]
  have hM : (M : Int) ≤ 16 := hs.mm.2
  have hM1 : M ≤ 16 := by omega
  have hrow : idxD (rowsD rows) (.int pre.length) = some r.enc := by
    rw [ix_nth (by rw [hr]; simp), List.getElem?_map, hr]
    simp
  have hrd : ∀ x ∈ r.reads, isSet s.cs x := fun x hx => hst.set x (h.wb pre r post hr x hx)
  have hok := h.row r (mem_mid hr)
  rcases r.shape with ⟨p, rfl⟩ | ⟨c, tag, rest, hto, henc, htag, hp⟩
  · have i1 := ix_cols (M := M) (hrd p (by simp [Row.reads]))
    have hl := lots_by_i (n + 1) M s.lots (cfOf s.cs p) hM1 hst.lots
    simp only [Row.enc] at hrow
    apply fin_rt
    · (apply st_nx; (· (simp [finD, evSs, evS.eq_1, evS.eq_2, evS.eq_3, evS.eq_4, evS.eq_5, evS.eq_6, evS.eq_7, evS.eq_10, evS.eq_11, evS.eq_12, evS.eq_13, evE.eq_1, evE.eq_2, evE.eq_3, evE.eq_4, evE.eq_5, evE.eq_6, evE.eq_7, evE.eq_8, evE.eq_9, evE.eq_10, evE.eq_11, evE.eq_12, evE.eq_13, evE.eq_14, evE.eq_15, evE.eq_16, evE.eq_17, evE.eq_18, evE.eq_19, evE.eq_20, evE.eq_21, evE.eq_22, evE.eq_23, evE.eq_24, evE.eq_25, evE.eq_26, evE.eq_27, evT, evVs, evNs, evO, evI, evC', asgT, asgTs, parS, sto, bor, look, looks, dat, dats, fz, lend, vws, nodupB, back, slotOf, outV, keepB, binD, biD, cmpD, truD, keyD, eqO_str, eqO_int, seqD, itD, srcD, tyD, sz, slc_1, isi_int, isi_ib, isi_str, isi_tup, ix_0, ix_1, ix_2, ix_3, ix_4, ix_5, chg, putS, meTy.eq_1, mutM, meS, meD, Sl.bor.eq_1, Sl.bor.eq_2, Sl.bor.eq_3, Option.bind, List.getElem?_cons_zero, List.getElem?_cons_succ, List.set_cons_zero, List.set_cons_succ, fits_lt, asgTs]; try (first | rfl | exact ⟨rfl, rfl⟩))))
      (apply st_nx; (· (simp [finD, evSs, evS.eq_1, evS.eq_2, evS.eq_3, evS.eq_4, evS.eq_5, evS.eq_6, evS.eq_7, evS.eq_10, evS.eq_11, evS.eq_12, evS.eq_13, evE.eq_1, evE.eq_2, evE.eq_3, evE.eq_4, evE.eq_5, evE.eq_6, evE.eq_7, evE.eq_8, evE.eq_9, evE.eq_10, evE.eq_11, evE.eq_12, evE.eq_13, evE.eq_14, evE.eq_15, evE.eq_16, evE.eq_17, evE.eq_18, evE.eq_19, evE.eq_20, evE.eq_21, evE.eq_22, evE.eq_23, evE.eq_24, evE.eq_25, evE.eq_26, evE.eq_27, evT, evVs, evNs, evO, evI, evC', asgT, asgTs, parS, sto, bor, look, looks, dat, dats, fz, lend, vws, nodupB, back, slotOf, outV, keepB, binD, biD, cmpD, truD, keyD, eqO_str, eqO_int, seqD, itD, srcD, tyD, sz, slc_1, isi_int, isi_ib, isi_str, isi_tup, ix_0, ix_1, ix_2, ix_3, ix_4, ix_5, chg, putS, meTy.eq_1, mutM, meS, meD, Sl.bor.eq_1, Sl.bor.eq_2, Sl.bor.eq_3, Option.bind, List.getElem?_cons_zero, List.getElem?_cons_succ, List.set_cons_zero, List.set_cons_succ, fits_lt, hrow]; try (first | rfl | exact ⟨rfl, rfl⟩))))
      (apply st_rt; apply if_t; (· (simp [finD, evSs, evS.eq_1, evS.eq_2, evS.eq_3, evS.eq_4, evS.eq_5, evS.eq_6, evS.eq_7, evS.eq_10, evS.eq_11, evS.eq_12, evS.eq_13, evE.eq_1, evE.eq_2, evE.eq_3, evE.eq_4, evE.eq_5, evE.eq_6, evE.eq_7, evE.eq_8, evE.eq_9, evE.eq_10, evE.eq_11, evE.eq_12, evE.eq_13, evE.eq_14, evE.eq_15, evE.eq_16, evE.eq_17, evE.eq_18, evE.eq_19, evE.eq_20, evE.eq_21, evE.eq_22, evE.eq_23, evE.eq_24, evE.eq_25, evE.eq_26, evE.eq_27, evT, evVs, evNs, evO, evI, evC', asgT, asgTs, parS, sto, bor, look, looks, dat, dats, fz, lend, vws, nodupB, back, slotOf, outV, keepB, binD, biD, cmpD, truD, keyD, eqO_str, eqO_int, seqD, itD, srcD, tyD, sz, slc_1, isi_int, isi_ib, isi_str, isi_tup, ix_0, ix_1, ix_2, ix_3, ix_4, ix_5, chg, putS, meTy.eq_1, mutM, meS, meD, Sl.bor.eq_1, Sl.bor.eq_2, Sl.bor.eq_3, Option.bind, List.getElem?_cons_zero, List.getElem?_cons_succ, List.set_cons_zero, List.set_cons_succ, fits_lt]; try (first | rfl | exact ⟨rfl, rfl⟩))))
      (apply st_rt; (· (simp [finD, evSs, evS.eq_1, evS.eq_2, evS.eq_3, evS.eq_4, evS.eq_5, evS.eq_6, evS.eq_7, evS.eq_10, evS.eq_11, evS.eq_12, evS.eq_13, evE.eq_1, evE.eq_2, evE.eq_3, evE.eq_4, evE.eq_5, evE.eq_6, evE.eq_7, evE.eq_8, evE.eq_9, evE.eq_10, evE.eq_11, evE.eq_12, evE.eq_13, evE.eq_14, evE.eq_15, evE.eq_16, evE.eq_17, evE.eq_18, evE.eq_19, evE.eq_20, evE.eq_21, evE.eq_22, evE.eq_23, evE.eq_24, evE.eq_25, evE.eq_26, evE.eq_27, evT, evVs, evNs, evO, evI, evC', asgT, asgTs, parS, sto, bor, look, looks, dat, dats, fz, lend, vws, nodupB, back, slotOf, outV, keepB, binD, biD, cmpD, truD, keyD, eqO_str, eqO_int, seqD, itD, srcD, tyD, sz, slc_1, isi_int, isi_ib, isi_str, isi_tup, ix_0, ix_1, ix_2, ix_3, ix_4, ix_5, chg, putS, meTy.eq_1, mutM, meS, meD, Sl.bor.eq_1, Sl.bor.eq_2, Sl.bor.eq_3, Option.bind, List.getElem?_cons_zero, List.getElem?_cons_succ, List.set_cons_zero, List.set_cons_succ, fits_lt, i1, hl]; try (first | rfl | exact ⟨rfl, rfl⟩))))
    · rfl
    · rfl
  · have hc := Row.to_lt hok hto
    have hlen := hst.len
    have hcol := column_of_i n m M gs s.lots s.cs r hs hst.lots hok hrd hp
    have hres : stepS M gs s r = ⟨s.cs.set c.toNat (some (colOf M gs s.lots (cfOf s.cs) r)), s.lots⟩ := by unfold stepS; rw [hto]
    rw [henc] at hrow hcol
    have hcl : (s.cs.map (ocol M)).length = s.cs.length := List.length_map ..
    have s1 := slc_hi (xs := s.cs.map (ocol M)) (c := c) (by omega)
    have s2 := slc_lo (xs := s.cs.map (ocol M)) (c := c + 1) (by omega)
    have hf1 : (List.take c.toNat (s.cs.map (ocol M))).length + 1 < 1000000 := by rw [List.length_take]; omega
    have hf2 : (List.take c.toNat (s.cs.map (ocol M)) ++ [colD M (colOf M gs s.lots (cfOf s.cs) r)]).length + (List.drop (c + 1).toNat (s.cs.map (ocol M))).length < 1000000 := by
      rw [List.length_append, List.length_take, List.length_drop]; simp; omega
    have hcat := cat3 (xs := s.cs.map (ocol M)) (c := c.toNat) (x := colD M (colOf M gs s.lots (cfOf s.cs) r)) (by omega)
    have hmap : (s.cs.set c.toNat (some (colOf M gs s.lots (cfOf s.cs) r))).map (ocol M) = (s.cs.map (ocol M)).set c.toNat (colD M (colOf M gs s.lots (cfOf s.cs) r)) := by rw [List.map_set]; rfl
    have ht1 : (c + 1).toNat = c.toNat + 1 := by omega
    rw [hres]
    unfold stD colsD
    rw [hmap, ← hcat]
    rw [ht1] at s2 hf2
    have hadd : binD .Add (.int c) (.int 1) = some (.va (.int (c + 1))) := rfl
    have hadd2 := addT (b := [colD M (colOf M gs s.lots (cfOf s.cs) r)]) hf1
    have hadd3 := addT (a := List.take c.toNat (s.cs.map (ocol M)) ++ [colD M (colOf M gs s.lots (cfOf s.cs) r)]) (b := List.drop (c.toNat + 1) (s.cs.map (ocol M))) hf2
    rw [List.append_assoc, List.singleton_append] at hadd3
    apply fin_rt
    · (apply st_nx; (· (simp [finD, evSs, evS.eq_1, evS.eq_2, evS.eq_3, evS.eq_4, evS.eq_5, evS.eq_6, evS.eq_7, evS.eq_10, evS.eq_11, evS.eq_12, evS.eq_13, evE.eq_1, evE.eq_2, evE.eq_3, evE.eq_4, evE.eq_5, evE.eq_6, evE.eq_7, evE.eq_8, evE.eq_9, evE.eq_10, evE.eq_11, evE.eq_12, evE.eq_13, evE.eq_14, evE.eq_15, evE.eq_16, evE.eq_17, evE.eq_18, evE.eq_19, evE.eq_20, evE.eq_21, evE.eq_22, evE.eq_23, evE.eq_24, evE.eq_25, evE.eq_26, evE.eq_27, evT, evVs, evNs, evO, evI, evC', asgT, asgTs, parS, sto, bor, look, looks, dat, dats, fz, lend, vws, nodupB, back, slotOf, outV, keepB, binD, biD, cmpD, truD, keyD, eqO_str, eqO_int, seqD, itD, srcD, tyD, sz, slc_1, isi_int, isi_ib, isi_str, isi_tup, ix_0, ix_1, ix_2, ix_3, ix_4, ix_5, chg, putS, meTy.eq_1, mutM, meS, meD, Sl.bor.eq_1, Sl.bor.eq_2, Sl.bor.eq_3, Option.bind, List.getElem?_cons_zero, List.getElem?_cons_succ, List.set_cons_zero, List.set_cons_succ, fits_lt, asgTs]; try (first | rfl | exact ⟨rfl, rfl⟩))))
      (apply st_nx; (· (simp [finD, evSs, evS.eq_1, evS.eq_2, evS.eq_3, evS.eq_4, evS.eq_5, evS.eq_6, evS.eq_7, evS.eq_10, evS.eq_11, evS.eq_12, evS.eq_13, evE.eq_1, evE.eq_2, evE.eq_3, evE.eq_4, evE.eq_5, evE.eq_6, evE.eq_7, evE.eq_8, evE.eq_9, evE.eq_10, evE.eq_11, evE.eq_12, evE.eq_13, evE.eq_14, evE.eq_15, evE.eq_16, evE.eq_17, evE.eq_18, evE.eq_19, evE.eq_20, evE.eq_21, evE.eq_22, evE.eq_23, evE.eq_24, evE.eq_25, evE.eq_26, evE.eq_27, evT, evVs, evNs, evO, evI, evC', asgT, asgTs, parS, sto, bor, look, looks, dat, dats, fz, lend, vws, nodupB, back, slotOf, outV, keepB, binD, biD, cmpD, truD, keyD, eqO_str, eqO_int, seqD, itD, srcD, tyD, sz, slc_1, isi_int, isi_ib, isi_str, isi_tup, ix_0, ix_1, ix_2, ix_3, ix_4, ix_5, chg, putS, meTy.eq_1, mutM, meS, meD, Sl.bor.eq_1, Sl.bor.eq_2, Sl.bor.eq_3, Option.bind, List.getElem?_cons_zero, List.getElem?_cons_succ, List.set_cons_zero, List.set_cons_succ, fits_lt, hrow]; try (first | rfl | exact ⟨rfl, rfl⟩))))
      (apply st_nx; · (apply if_f; (· (simp [finD, evSs, evS.eq_1, evS.eq_2, evS.eq_3, evS.eq_4, evS.eq_5, evS.eq_6, evS.eq_7, evS.eq_10, evS.eq_11, evS.eq_12, evS.eq_13, evE.eq_1, evE.eq_2, evE.eq_3, evE.eq_4, evE.eq_5, evE.eq_6, evE.eq_7, evE.eq_8, evE.eq_9, evE.eq_10, evE.eq_11, evE.eq_12, evE.eq_13, evE.eq_14, evE.eq_15, evE.eq_16, evE.eq_17, evE.eq_18, evE.eq_19, evE.eq_20, evE.eq_21, evE.eq_22, evE.eq_23, evE.eq_24, evE.eq_25, evE.eq_26, evE.eq_27, evT, evVs, evNs, evO, evI, evC', asgT, asgTs, parS, sto, bor, look, looks, dat, dats, fz, lend, vws, nodupB, back, slotOf, outV, keepB, binD, biD, cmpD, truD, keyD, eqO_str, eqO_int, seqD, itD, srcD, tyD, sz, slc_1, isi_int, isi_ib, isi_str, isi_tup, ix_0, ix_1, ix_2, ix_3, ix_4, ix_5, chg, putS, meTy.eq_1, mutM, meS, meD, Sl.bor.eq_1, Sl.bor.eq_2, Sl.bor.eq_3, Option.bind, List.getElem?_cons_zero, List.getElem?_cons_succ, List.set_cons_zero, List.set_cons_succ, fits_lt, htag]; try (first | rfl | exact ⟨rfl, rfl⟩))); exact jq_nil))
      refine st_nx (js_set (je_bin (je_bin (je_slc (je_var rfl) jo_no (jo_so (je_idx (je_var rfl) je_lit rfl rfl ix_1)) rfl s1) (je_tup (jv_cons (je_call (jv_cons (je_var rfl) (jv_cons (je_var rfl) (jv_cons (je_var rfl) (jv_cons (je_var rfl) jv_nil)))) rfl rfl hcol rfl) jv_nil) rfl (fits_lt (by simp only [List.length_cons, List.length_nil]; omega))) rfl rfl hadd2) (je_slc (je_var rfl) (jo_so (je_bin (je_idx (je_var rfl) je_lit rfl rfl ix_1) je_lit rfl rfl hadd)) jo_no rfl s2) rfl rfl hadd3) rfl rfl) ?_
      exact st_rt (js_ret (je_tup (jv_cons (je_bin (je_var rfl) je_lit rfl rfl rfl) (jv_cons (je_var rfl) (jv_cons (je_var rfl) jv_nil))) rfl (fits_lt (by simp only [List.length_cons, List.length_nil]; omega))))
    · rfl
    · rfl
end DI.K77
end

section
set_option Elab.async false
set_option linter.all false
set_option maxRecDepth 100000
set_option pp.maxSteps 800
/-! k77: the plain law, part 14: states behind rows; rankings. -/
namespace DI.K77
open PySem L2
theorem behind_in_i (n : Nat) (m : Int) (rows : List Row) (M : Nat) (gs : List Game) (k : Nat) (h : okRows m rows) (hm : 1 ≤ m ∧ m ≤ 16) (hs : okSheet M gs) (hk : k ≤ rows.length) :
    evD tab (n + 4) 22 [.va (codeD m rows), .va (sheetD M gs), .va (.int k)] = .ok (.va (stD M k (runS M m gs (rows.take k)).cs (runS M m gs (rows.take k)).lots), [.un, .un, .un]) := by
  have hM : (M : Int) ≤ 16 := hs.mm.2
  have hM1 : M ≤ 16 := by omega
  have hl := h.len
  rw [opn (T := tab) (f := 22) _ 3 2 b_behind_in rfl rfl]; unfold b_behind_in; simp only [List.replicate, List.cons_append, List.nil_append, List.singleton_append]
  have hb := begun_i (n + 2) m rows M gs hm hM1
  obtain ⟨env, f1, s4, rfl, b4⟩ := for_rng (F := evD tab (n + 3)) (i := 4) (it := .rng1 (.var 2)) (b := (.cons (.set 3 false (.call 21 (.cons (.var 0) (.cons (.var 1) (.cons (.var 3) .nil))))) .nil)) (env := [.va (codeD m rows), .va (sheetD M gs), .va (.int k), .va (stD M 0 (st0c m) [plys M]), .un]) (k := k)
    (fun j env => ∃ s4, env = [.va (codeD m rows), .va (sheetD M gs), .va (.int k), .va (stD M j (runS M m gs (rows.take j)).cs (runS M m gs (rows.take j)).lots), s4] ∧ s4.bor = false)
    (jw_rng1 (je_var rfl) (by omega)) (by rw [Int.toNat_natCast]) ⟨.un, rfl, rfl⟩ (by
      rintro j env hj ⟨s4, rfl, b4⟩
      have hlt : j < rows.length := by omega
      have hr : rows = rows.take j ++ rows[j] :: rows.drop (j + 1) := by rw [List.getElem_cons_drop, List.take_append_drop]
      have hst := step_in_i n m rows (rows.take j) (rows.drop (j + 1)) rows[j] M gs (runS M m gs (rows.take j)) h hm.2 hr hs (run_ok fun r hr' => h.row r (List.mem_of_mem_take hr'))
      have htl : (rows.take j).length = j := by rw [List.length_take]; omega
      rw [htl] at hst
      have hsn : runS M m gs (rows.take (j + 1)) = stepS M gs (runS M m gs (rows.take j)) rows[j] := by rw [List.take_succ_eq_append_getElem hlt, runS_snoc]
      refine ⟨_, _, by simp [finD, evSs, evS.eq_1, evS.eq_2, evS.eq_3, evS.eq_4, evS.eq_5, evS.eq_6, evS.eq_7, evS.eq_10, evS.eq_11, evS.eq_12, evS.eq_13, evE.eq_1, evE.eq_2, evE.eq_3, evE.eq_4, evE.eq_5, evE.eq_6, evE.eq_7, evE.eq_8, evE.eq_9, evE.eq_10, evE.eq_11, evE.eq_12, evE.eq_13, evE.eq_14, evE.eq_15, evE.eq_16, evE.eq_17, evE.eq_18, evE.eq_19, evE.eq_20, evE.eq_21, evE.eq_22, evE.eq_23, evE.eq_24, evE.eq_25, evE.eq_26, evE.eq_27, evT, evVs, evNs, evO, evI, evC', asgT, asgTs, parS, sto, bor, look, looks, dat, dats, fz, lend, vws, nodupB, back, slotOf, outV, keepB, binD, biD, cmpD, truD, keyD, eqO_str, eqO_int, seqD, itD, srcD, tyD, sz, slc_1, isi_int, isi_ib, isi_str, isi_tup, ix_0, ix_1, ix_2, ix_3, ix_4, ix_5, chg, putS, meTy.eq_1, mutM, meS, meD, Sl.bor.eq_1, Sl.bor.eq_2, Sl.bor.eq_3, Option.bind, List.getElem?_cons_zero, List.getElem?_cons_succ, List.set_cons_zero, List.set_cons_succ, fits_lt, b4]; rfl, ?_, ⟨.va (.int j), rfl, rfl⟩⟩
      rw [hsn]
      apply jq_cons
      · exact js_set (je_call (jv_cons (je_var rfl) (jv_cons (je_var rfl) (jv_cons (je_var rfl) jv_nil))) rfl rfl hst rfl) rfl rfl
      · rfl)
  apply fin_rt
  · exact st_nx (js_set (je_call (jv_cons (je_var rfl) (jv_cons (je_var rfl) jv_nil)) rfl rfl hb rfl) rfl rfl) (st_nx f1 (st_rt (js_ret (je_var rfl))))
  · rfl
  · rfl
theorem state_behind_i (n : Nat) (m : Int) (rows : List Row) (M : Nat) (gs : List Game) (k : Nat) (h : okCode m rows) (hm : 1 ≤ m) (hs : okSheet M gs) (hk : k ≤ rows.length) :
    evD tab (n + 8) 25 [.va (codeD m rows), .va (sheetD M gs), .va (.int k)] = .ok (.va (stD M k (runS M m gs (rows.take k)).cs (runS M m gs (rows.take k)).lots), [.un, .un, .un]) := by
  have hl := h.base.len
  have hw := want_both_i n m rows M gs h hs
  have hc := is_count_i (n + 5) k (by omega)
  have hb := behind_in_i (n + 3) m rows M gs k h.base ⟨hm, h.cols.2⟩ hs hk
  have hk2 : ¬ (rows.length : Int) < k := by omega
  rw [opn (T := tab) (f := 25) _ 3 0 b_state_behind rfl rfl]; unfold b_state_behind; simp only [List.replicate, List.cons_append, List.nil_append, List.singleton_append]
  apply fin_rt
  · (apply st_nx; (· (simp [finD, evSs, evS.eq_1, evS.eq_2, evS.eq_3, evS.eq_4, evS.eq_5, evS.eq_6, evS.eq_7, evS.eq_10, evS.eq_11, evS.eq_12, evS.eq_13, evE.eq_1, evE.eq_2, evE.eq_3, evE.eq_4, evE.eq_5, evE.eq_6, evE.eq_7, evE.eq_8, evE.eq_9, evE.eq_10, evE.eq_11, evE.eq_12, evE.eq_13, evE.eq_14, evE.eq_15, evE.eq_16, evE.eq_17, evE.eq_18, evE.eq_19, evE.eq_20, evE.eq_21, evE.eq_22, evE.eq_23, evE.eq_24, evE.eq_25, evE.eq_26, evE.eq_27, evT, evVs, evNs, evO, evI, evC', asgT, asgTs, parS, sto, bor, look, looks, dat, dats, fz, lend, vws, nodupB, back, slotOf, outV, keepB, binD, biD, cmpD, truD, keyD, eqO_str, eqO_int, seqD, itD, srcD, tyD, sz, slc_1, isi_int, isi_ib, isi_str, isi_tup, ix_0, ix_1, ix_2, ix_3, ix_4, ix_5, chg, putS, meTy.eq_1, mutM, meS, meD, Sl.bor.eq_1, Sl.bor.eq_2, Sl.bor.eq_3, Option.bind, List.getElem?_cons_zero, List.getElem?_cons_succ, List.set_cons_zero, List.set_cons_succ, fits_lt, hw]; try (first | rfl | exact ⟨rfl, rfl⟩))))
    (apply st_nx; · (apply if_f; (· (simp [finD, evSs, evS.eq_1, evS.eq_2, evS.eq_3, evS.eq_4, evS.eq_5, evS.eq_6, evS.eq_7, evS.eq_10, evS.eq_11, evS.eq_12, evS.eq_13, evE.eq_1, evE.eq_2, evE.eq_3, evE.eq_4, evE.eq_5, evE.eq_6, evE.eq_7, evE.eq_8, evE.eq_9, evE.eq_10, evE.eq_11, evE.eq_12, evE.eq_13, evE.eq_14, evE.eq_15, evE.eq_16, evE.eq_17, evE.eq_18, evE.eq_19, evE.eq_20, evE.eq_21, evE.eq_22, evE.eq_23, evE.eq_24, evE.eq_25, evE.eq_26, evE.eq_27, evT, evVs, evNs, evO, evI, evC', asgT, asgTs, parS, sto, bor, look, looks, dat, dats, fz, lend, vws, nodupB, back, slotOf, outV, keepB, binD, biD, cmpD, truD, keyD, eqO_str, eqO_int, seqD, itD, srcD, tyD, sz, slc_1, isi_int, isi_ib, isi_str, isi_tup, ix_0, ix_1, ix_2, ix_3, ix_4, ix_5, chg, putS, meTy.eq_1, mutM, meS, meD, Sl.bor.eq_1, Sl.bor.eq_2, Sl.bor.eq_3, Option.bind, List.getElem?_cons_zero, List.getElem?_cons_succ, List.set_cons_zero, List.set_cons_succ, fits_lt, hc, hk2]; try (first | rfl | exact ⟨rfl, rfl⟩))); exact jq_nil))
    (apply st_rt; (· (simp [finD, evSs, evS.eq_1, evS.eq_2, evS.eq_3, evS.eq_4, evS.eq_5, evS.eq_6, evS.eq_7, evS.eq_10, evS.eq_11, evS.eq_12, evS.eq_13, evE.eq_1, evE.eq_2, evE.eq_3, evE.eq_4, evE.eq_5, evE.eq_6, evE.eq_7, evE.eq_8, evE.eq_9, evE.eq_10, evE.eq_11, evE.eq_12, evE.eq_13, evE.eq_14, evE.eq_15, evE.eq_16, evE.eq_17, evE.eq_18, evE.eq_19, evE.eq_20, evE.eq_21, evE.eq_22, evE.eq_23, evE.eq_24, evE.eq_25, evE.eq_26, evE.eq_27, evT, evVs, evNs, evO, evI, evC', asgT, asgTs, parS, sto, bor, look, looks, dat, dats, fz, lend, vws, nodupB, back, slotOf, outV, keepB, binD, biD, cmpD, truD, keyD, eqO_str, eqO_int, seqD, itD, srcD, tyD, sz, slc_1, isi_int, isi_ib, isi_str, isi_tup, ix_0, ix_1, ix_2, ix_3, ix_4, ix_5, chg, putS, meTy.eq_1, mutM, meS, meD, Sl.bor.eq_1, Sl.bor.eq_2, Sl.bor.eq_3, Option.bind, List.getElem?_cons_zero, List.getElem?_cons_succ, List.set_cons_zero, List.set_cons_succ, fits_lt, hb]; try (first | rfl | exact ⟨rfl, rfl⟩))))
  · rfl
  · rfl
theorem rank_in_i (n : Nat) (m : Int) (rows : List Row) (M : Nat) (gs : List Game) (h : okRows m rows) (hm : 1 ≤ m ∧ m ≤ 16) (hs : okSheet M gs) :
    evD tab (n + 5) 23 [.va (codeD m rows), .va (sheetD M gs)] = .ok (.ol ((runS M m gs rows).lots.flatten.map .int), [.un, .un]) := by
  have hM : (M : Int) ≤ 16 := hs.mm.2
  have hb := behind_in_i n m rows M gs rows.length h hm hs (Nat.le_refl _)
  rw [List.take_length] at hb
  have hok := run_ok (gs := gs) (M := M) h.row
  rw [opn (T := tab) (f := 23) _ 2 2 b_rank_in rfl rfl]; unfold b_rank_in; simp only [List.replicate, List.cons_append, List.nil_append, List.singleton_append]
  obtain ⟨env, f1, W, s3, hW, rfl, b3⟩ := for_ev (F := evD tab (n + 4)) (t := .nm 3) (it := (.seq (.idx (.call 22 (.cons (.var 0) (.cons (.var 1) (.cons (.bi .len (.cons (.idx (.var 0) (.lit (.int 2))) .nil)) .nil)))) (.lit (.int 2))))) (b := (.cons (.expr (.me .extend (.var 2) (.cons (.bi .list (.cons (.var 3) .nil)) .nil))) .nil)) (env := [.va (codeD m rows), .va (sheetD M gs), .li false [], .un]) (fun _ l => lotD l)
    (fun pre env => ∃ W s3, W = pre.flatten.map .int ∧ env = [.va (codeD m rows), .va (sheetD M gs), .li false W, s3] ∧ s3.bor = false) (xs := (runS M m gs rows).lots)
    (by simp only [← idm_map]; simp [finD, evSs, evS.eq_1, evS.eq_2, evS.eq_3, evS.eq_4, evS.eq_5, evS.eq_6, evS.eq_7, evS.eq_10, evS.eq_11, evS.eq_12, evS.eq_13, evE.eq_1, evE.eq_2, evE.eq_3, evE.eq_4, evE.eq_5, evE.eq_6, evE.eq_7, evE.eq_8, evE.eq_9, evE.eq_10, evE.eq_11, evE.eq_12, evE.eq_13, evE.eq_14, evE.eq_15, evE.eq_16, evE.eq_17, evE.eq_18, evE.eq_19, evE.eq_20, evE.eq_21, evE.eq_22, evE.eq_23, evE.eq_24, evE.eq_25, evE.eq_26, evE.eq_27, evT, evVs, evNs, evO, evI, evC', asgT, asgTs, parS, sto, bor, look, looks, dat, dats, fz, lend, vws, nodupB, back, slotOf, outV, keepB, binD, biD, cmpD, truD, keyD, eqO_str, eqO_int, seqD, itD, srcD, tyD, sz, slc_1, isi_int, isi_ib, isi_str, isi_tup, ix_0, ix_1, ix_2, ix_3, ix_4, ix_5, chg, putS, meTy.eq_1, mutM, meS, meD, Sl.bor.eq_1, Sl.bor.eq_2, Sl.bor.eq_3, Option.bind, List.getElem?_cons_zero, List.getElem?_cons_succ, List.set_cons_zero, List.set_cons_succ, fits_lt, hb]) ⟨[], .un, rfl, rfl, rfl⟩ (by
      rintro pre l post env hr ⟨W, s3, hW, rfl, b3⟩
      have htot : pre.flatten.length + l.length ≤ 16 := by
        have := lots_len hok.lots; rw [hr] at this; simp only [List.flatten_append, List.flatten_cons, List.length_append] at this; omega
      have hWl : W.length = pre.flatten.length := by rw [hW, List.length_map]
      have hft : W.length + l.length < 1000000 := by omega
      refine ⟨_, _, by simp [finD, evSs, evS.eq_1, evS.eq_2, evS.eq_3, evS.eq_4, evS.eq_5, evS.eq_6, evS.eq_7, evS.eq_10, evS.eq_11, evS.eq_12, evS.eq_13, evE.eq_1, evE.eq_2, evE.eq_3, evE.eq_4, evE.eq_5, evE.eq_6, evE.eq_7, evE.eq_8, evE.eq_9, evE.eq_10, evE.eq_11, evE.eq_12, evE.eq_13, evE.eq_14, evE.eq_15, evE.eq_16, evE.eq_17, evE.eq_18, evE.eq_19, evE.eq_20, evE.eq_21, evE.eq_22, evE.eq_23, evE.eq_24, evE.eq_25, evE.eq_26, evE.eq_27, evT, evVs, evNs, evO, evI, evC', asgT, asgTs, parS, sto, bor, look, looks, dat, dats, fz, lend, vws, nodupB, back, slotOf, outV, keepB, binD, biD, cmpD, truD, keyD, eqO_str, eqO_int, seqD, itD, srcD, tyD, sz, slc_1, isi_int, isi_ib, isi_str, isi_tup, ix_0, ix_1, ix_2, ix_3, ix_4, ix_5, chg, putS, meTy.eq_1, mutM, meS, meD, Sl.bor.eq_1, Sl.bor.eq_2, Sl.bor.eq_3, Option.bind, List.getElem?_cons_zero, List.getElem?_cons_succ, List.set_cons_zero, List.set_cons_succ, fits_lt, b3]; rfl, ?_, ⟨W ++ l.map .int, .va (lotD l), by rw [hW]; simp, rfl, rfl⟩⟩
      simp [finD, evSs, evS.eq_1, evS.eq_2, evS.eq_3, evS.eq_4, evS.eq_5, evS.eq_6, evS.eq_7, evS.eq_10, evS.eq_11, evS.eq_12, evS.eq_13, evE.eq_1, evE.eq_2, evE.eq_3, evE.eq_4, evE.eq_5, evE.eq_6, evE.eq_7, evE.eq_8, evE.eq_9, evE.eq_10, evE.eq_11, evE.eq_12, evE.eq_13, evE.eq_14, evE.eq_15, evE.eq_16, evE.eq_17, evE.eq_18, evE.eq_19, evE.eq_20, evE.eq_21, evE.eq_22, evE.eq_23, evE.eq_24, evE.eq_25, evE.eq_26, evE.eq_27, evT, evVs, evNs, evO, evI, evC', asgT, asgTs, parS, sto, bor, look, looks, dat, dats, fz, lend, vws, nodupB, back, slotOf, outV, keepB, binD, biD, cmpD, truD, keyD, eqO_str, eqO_int, seqD, itD, srcD, tyD, sz, slc_1, isi_int, isi_ib, isi_str, isi_tup, ix_0, ix_1, ix_2, ix_3, ix_4, ix_5, chg, putS, meTy.eq_1, mutM, meS, meD, Sl.bor.eq_1, Sl.bor.eq_2, Sl.bor.eq_3, Option.bind, List.getElem?_cons_zero, List.getElem?_cons_succ, List.set_cons_zero, List.set_cons_succ, fits_lt, hft])
  apply fin_rt
  · (apply st_nx; (· (simp [finD, evSs, evS.eq_1, evS.eq_2, evS.eq_3, evS.eq_4, evS.eq_5, evS.eq_6, evS.eq_7, evS.eq_10, evS.eq_11, evS.eq_12, evS.eq_13, evE.eq_1, evE.eq_2, evE.eq_3, evE.eq_4, evE.eq_5, evE.eq_6, evE.eq_7, evE.eq_8, evE.eq_9, evE.eq_10, evE.eq_11, evE.eq_12, evE.eq_13, evE.eq_14, evE.eq_15, evE.eq_16, evE.eq_17, evE.eq_18, evE.eq_19, evE.eq_20, evE.eq_21, evE.eq_22, evE.eq_23, evE.eq_24, evE.eq_25, evE.eq_26, evE.eq_27, evT, evVs, evNs, evO, evI, evC', asgT, asgTs, parS, sto, bor, look, looks, dat, dats, fz, lend, vws, nodupB, back, slotOf, outV, keepB, binD, biD, cmpD, truD, keyD, eqO_str, eqO_int, seqD, itD, srcD, tyD, sz, slc_1, isi_int, isi_ib, isi_str, isi_tup, ix_0, ix_1, ix_2, ix_3, ix_4, ix_5, chg, putS, meTy.eq_1, mutM, meS, meD, Sl.bor.eq_1, Sl.bor.eq_2, Sl.bor.eq_3, Option.bind, List.getElem?_cons_zero, List.getElem?_cons_succ, List.set_cons_zero, List.set_cons_succ, fits_lt]; try (first | rfl | exact ⟨rfl, rfl⟩))))
    exact st_nx f1 (st_rt (js_ret (je_varL rfl)))
  · rw [hW]; rfl
  · rfl
theorem rank_by_code_i (n : Nat) (m : Int) (rows : List Row) (M : Nat) (gs : List Game) (h : okCode m rows) (hm : 1 ≤ m) (hs : okSheet M gs) :
    evD tab (n + 8) 26 [.va (codeD m rows), .va (sheetD M gs)] = .ok (.ol ((runS M m gs rows).lots.flatten.map .int), [.un, .un]) := by
  have hw := want_both_i n m rows M gs h hs
  have hr := rank_in_i (n + 2) m rows M gs h.base ⟨hm, h.cols.2⟩ hs
  rw [opn (T := tab) (f := 26) _ 2 0 b_rank_by_code rfl rfl]; unfold b_rank_by_code; simp only [List.replicate, List.cons_append, List.nil_append, List.singleton_append]
  apply fin_rt
  · (apply st_nx; (· (simp [finD, evSs, evS.eq_1, evS.eq_2, evS.eq_3, evS.eq_4, evS.eq_5, evS.eq_6, evS.eq_7, evS.eq_10, evS.eq_11, evS.eq_12, evS.eq_13, evE.eq_1, evE.eq_2, evE.eq_3, evE.eq_4, evE.eq_5, evE.eq_6, evE.eq_7, evE.eq_8, evE.eq_9, evE.eq_10, evE.eq_11, evE.eq_12, evE.eq_13, evE.eq_14, evE.eq_15, evE.eq_16, evE.eq_17, evE.eq_18, evE.eq_19, evE.eq_20, evE.eq_21, evE.eq_22, evE.eq_23, evE.eq_24, evE.eq_25, evE.eq_26, evE.eq_27, evT, evVs, evNs, evO, evI, evC', asgT, asgTs, parS, sto, bor, look, looks, dat, dats, fz, lend, vws, nodupB, back, slotOf, outV, keepB, binD, biD, cmpD, truD, keyD, eqO_str, eqO_int, seqD, itD, srcD, tyD, sz, slc_1, isi_int, isi_ib, isi_str, isi_tup, ix_0, ix_1, ix_2, ix_3, ix_4, ix_5, chg, putS, meTy.eq_1, mutM, meS, meD, Sl.bor.eq_1, Sl.bor.eq_2, Sl.bor.eq_3, Option.bind, List.getElem?_cons_zero, List.getElem?_cons_succ, List.set_cons_zero, List.set_cons_succ, fits_lt, hw]; try (first | rfl | exact ⟨rfl, rfl⟩))))
    (apply st_rt; (· (simp [finD, evSs, evS.eq_1, evS.eq_2, evS.eq_3, evS.eq_4, evS.eq_5, evS.eq_6, evS.eq_7, evS.eq_10, evS.eq_11, evS.eq_12, evS.eq_13, evE.eq_1, evE.eq_2, evE.eq_3, evE.eq_4, evE.eq_5, evE.eq_6, evE.eq_7, evE.eq_8, evE.eq_9, evE.eq_10, evE.eq_11, evE.eq_12, evE.eq_13, evE.eq_14, evE.eq_15, evE.eq_16, evE.eq_17, evE.eq_18, evE.eq_19, evE.eq_20, evE.eq_21, evE.eq_22, evE.eq_23, evE.eq_24, evE.eq_25, evE.eq_26, evE.eq_27, evT, evVs, evNs, evO, evI, evC', asgT, asgTs, parS, sto, bor, look, looks, dat, dats, fz, lend, vws, nodupB, back, slotOf, outV, keepB, binD, biD, cmpD, truD, keyD, eqO_str, eqO_int, seqD, itD, srcD, tyD, sz, slc_1, isi_int, isi_ib, isi_str, isi_tup, ix_0, ix_1, ix_2, ix_3, ix_4, ix_5, chg, putS, meTy.eq_1, mutM, meS, meD, Sl.bor.eq_1, Sl.bor.eq_2, Sl.bor.eq_3, Option.bind, List.getElem?_cons_zero, List.getElem?_cons_succ, List.set_cons_zero, List.set_cons_succ, fits_lt, hr]; try (first | rfl | exact ⟨rfl, rfl⟩))))
  · simp [outV]
  · rfl
end DI.K77
end

section
set_option Elab.async false
set_option linter.all false
set_option maxRecDepth 100000
set_option pp.maxSteps 800
/-! k77: the plain law, part 15: pots. -/
namespace DI.K77
open PySem L2
theorem ix_l0 {a : D} {xs : List D} : idxD (.lst (a :: xs)) (.int 0) = some a := by
  show (ixN _ (((0 : Nat)) : Int)).bind _ = _
  rw [ixN_n _ _ (by simp only [List.length_cons]; omega)]
  rfl
theorem ix_l1 {a b : D} {xs : List D} : idxD (.lst (a :: b :: xs)) (.int 1) = some b := by
  show (ixN _ (((1 : Nat)) : Int)).bind _ = _
  rw [ixN_n _ _ (by simp only [List.length_cons]; omega)]
  rfl
theorem put_l0 {b : Bool} {a d : D} {xs : List D} : putS (.li b (a :: xs)) (.int 0) d = some (.li b (d :: xs)) := by
  show (ixN _ (((0 : Nat)) : Int)).map _ = _
  rw [ixN_n _ _ (by simp only [List.length_cons]; omega)]
  rfl
theorem put_l1 {b : Bool} {a c d : D} {xs : List D} : putS (.li b (a :: c :: xs)) (.int 1) d = some (.li b (a :: d :: xs)) := by
  show (ixN _ (((1 : Nat)) : Int)).map _ = _
  rw [ixN_n _ _ (by simp only [List.length_cons]; omega)]
  rfl
structure Pot where
  a : Int
  b : Int
  ha : 0 ≤ a
  hb : 0 ≤ b ∧ b < 2147483587
def Pot.enc (p : Pot) : List D := [.int p.a, .int p.b]
def Pot.b' (p : Pot) : Int := (p.b * 40692 + 13249) % 2147483587
def Pot.dig (p : Pot) (m : Int) : Int := if p.a > 0 then p.a % m else (p.b' * p.b' % 2147483549 / 41) % m
def Pot.nxt (p : Pot) (m : Int) : Pot := if h : p.a > 0 ∧ 0 < m then ⟨p.a / m, p.b, Int.ediv_nonneg p.ha (by omega), p.hb⟩ else ⟨p.a, p.b', p.ha, by unfold Pot.b'; omega⟩
theorem Pot.dig_lt (p : Pot) {m : Int} (h : 0 < m) : 0 ≤ p.dig m ∧ p.dig m < m := by
  unfold Pot.dig
  split
  · exact ⟨Int.emod_nonneg _ (by omega), Int.emod_lt_of_pos _ h⟩
  · exact ⟨Int.emod_nonneg _ (by omega), Int.emod_lt_of_pos _ h⟩
theorem draw_i (n : Nat) (p : Pot) (m : Int) (h : 0 < m ∧ m < 1073741824) : evD tab (n + 1) 28 [.li true p.enc, .va (.int m)] = .ok (.va (.int (p.dig m)), [.li true (p.nxt m).enc, .un]) := by
  rw [opn (T := tab) (f := 28) _ 2 1 b__law_draw rfl rfl]; unfold b__law_draw; simp only [List.replicate, List.cons_append, List.nil_append, List.singleton_append]
  have ha := p.ha
  have hb := p.hb
  by_cases h0 : p.a > 0
  · have hn : p.nxt m = ⟨p.a / m, p.b, Int.ediv_nonneg p.ha (by omega), p.hb⟩ := by unfold Pot.nxt; rw [dif_pos ⟨h0, h.1⟩]
    rw [hn]
    have hd : p.dig m = p.a % m := by unfold Pot.dig; rw [if_pos h0]
    rw [hd]
    unfold Pot.enc
    apply fin_rt
    · (apply st_rt; apply if_t; (· (simp [finD, evSs, evS.eq_1, evS.eq_2, evS.eq_3, evS.eq_4, evS.eq_5, evS.eq_6, evS.eq_7, evS.eq_10, evS.eq_11, evS.eq_12, evS.eq_13, evE.eq_1, evE.eq_2, evE.eq_3, evE.eq_4, evE.eq_5, evE.eq_6, evE.eq_7, evE.eq_8, evE.eq_9, evE.eq_10, evE.eq_11, evE.eq_12, evE.eq_13, evE.eq_14, evE.eq_15, evE.eq_16, evE.eq_17, evE.eq_18, evE.eq_19, evE.eq_20, evE.eq_21, evE.eq_22, evE.eq_23, evE.eq_24, evE.eq_25, evE.eq_26, evE.eq_27, evT, evVs, evNs, evO, evI, evC', asgT, asgTs, parS, sto, bor, look, looks, dat, dats, fz, lend, vws, nodupB, back, slotOf, outV, keepB, binD, biD, cmpD, truD, keyD, eqO_str, eqO_int, seqD, itD, srcD, tyD, sz, slc_1, isi_int, isi_ib, isi_str, isi_tup, ix_0, ix_1, ix_2, ix_3, ix_4, ix_5, chg, putS, meTy.eq_1, mutM, meS, meD, Sl.bor.eq_1, Sl.bor.eq_2, Sl.bor.eq_3, Option.bind, List.getElem?_cons_zero, List.getElem?_cons_succ, List.set_cons_zero, List.set_cons_succ, fits_lt, ix_l0, h0]; try (first | rfl | exact ⟨rfl, rfl⟩))))
      refine st_nx (js_asg (je_bi (jv_cons (je_idx (je_varL rfl) je_lit rfl rfl ix_l0) (jv_cons (je_var rfl) jv_nil)) rfl (jb_divmod h)) rfl (e2 := [.li true [.int (p.a / m), .int p.b], .va (.int m), .va (.int (p.a % m))]) ?_) ?_
      · simp only [asgT, asgTs, evE.eq_1, evE.eq_2, List.getElem?_cons_zero, Res.ok_bind, dat, ro_some, chg, put_l0, List.set_cons_zero]
        rfl
      · (apply st_rt; (· (simp [finD, evSs, evS.eq_1, evS.eq_2, evS.eq_3, evS.eq_4, evS.eq_5, evS.eq_6, evS.eq_7, evS.eq_10, evS.eq_11, evS.eq_12, evS.eq_13, evE.eq_1, evE.eq_2, evE.eq_3, evE.eq_4, evE.eq_5, evE.eq_6, evE.eq_7, evE.eq_8, evE.eq_9, evE.eq_10, evE.eq_11, evE.eq_12, evE.eq_13, evE.eq_14, evE.eq_15, evE.eq_16, evE.eq_17, evE.eq_18, evE.eq_19, evE.eq_20, evE.eq_21, evE.eq_22, evE.eq_23, evE.eq_24, evE.eq_25, evE.eq_26, evE.eq_27, evT, evVs, evNs, evO, evI, evC', asgT, asgTs, parS, sto, bor, look, looks, dat, dats, fz, lend, vws, nodupB, back, slotOf, outV, keepB, binD, biD, cmpD, truD, keyD, eqO_str, eqO_int, seqD, itD, srcD, tyD, sz, slc_1, isi_int, isi_ib, isi_str, isi_tup, ix_0, ix_1, ix_2, ix_3, ix_4, ix_5, chg, putS, meTy.eq_1, mutM, meS, meD, Sl.bor.eq_1, Sl.bor.eq_2, Sl.bor.eq_3, Option.bind, List.getElem?_cons_zero, List.getElem?_cons_succ, List.set_cons_zero, List.set_cons_succ, fits_lt]; try (first | rfl | exact ⟨rfl, rfl⟩))))
    · rfl
    · rfl
  · have hn : p.nxt m = ⟨p.a, p.b', p.ha, by unfold Pot.b'; omega⟩ := by unfold Pot.nxt; rw [dif_neg (by omega)]
    rw [hn]
    have hd : p.dig m = (p.b' * p.b' % 2147483549 / 41) % m := by unfold Pot.dig; rw [if_neg h0]
    rw [hd]
    have h3 : 0 ≤ p.b' ∧ p.b' < 2147483587 := by unfold Pot.b'; omega
    unfold Pot.enc
    apply fin_rt
    · (apply st_nx; · (apply if_f; (· (simp [finD, evSs, evS.eq_1, evS.eq_2, evS.eq_3, evS.eq_4, evS.eq_5, evS.eq_6, evS.eq_7, evS.eq_10, evS.eq_11, evS.eq_12, evS.eq_13, evE.eq_1, evE.eq_2, evE.eq_3, evE.eq_4, evE.eq_5, evE.eq_6, evE.eq_7, evE.eq_8, evE.eq_9, evE.eq_10, evE.eq_11, evE.eq_12, evE.eq_13, evE.eq_14, evE.eq_15, evE.eq_16, evE.eq_17, evE.eq_18, evE.eq_19, evE.eq_20, evE.eq_21, evE.eq_22, evE.eq_23, evE.eq_24, evE.eq_25, evE.eq_26, evE.eq_27, evT, evVs, evNs, evO, evI, evC', asgT, asgTs, parS, sto, bor, look, looks, dat, dats, fz, lend, vws, nodupB, back, slotOf, outV, keepB, binD, biD, cmpD, truD, keyD, eqO_str, eqO_int, seqD, itD, srcD, tyD, sz, slc_1, isi_int, isi_ib, isi_str, isi_tup, ix_0, ix_1, ix_2, ix_3, ix_4, ix_5, chg, putS, meTy.eq_1, mutM, meS, meD, Sl.bor.eq_1, Sl.bor.eq_2, Sl.bor.eq_3, Option.bind, List.getElem?_cons_zero, List.getElem?_cons_succ, List.set_cons_zero, List.set_cons_succ, fits_lt, ix_l0, h0]; try (first | rfl | exact ⟨rfl, rfl⟩))); exact jq_nil))
      refine st_nx (js_asg (d := .int p.b') (je_bin (je_bi (jv_cons (je_bin (je_bin (je_idx (je_varL rfl) je_lit rfl rfl ix_l1) je_lit rfl rfl (jb_mul (.inr (by omega)))) je_lit rfl rfl rfl) jv_nil) rfl rfl) je_lit rfl rfl (jb_mod (by omega))) rfl (e2 := [.li true [.int p.a, .int p.b'], .va (.int m), .un]) ?_) ?_
      · simp only [asgT, evE.eq_1, evE.eq_2, List.getElem?_cons_zero, Res.ok_bind, dat, ro_some, chg, put_l1, List.set_cons_zero]
      · exact st_rt (js_ret (je_bin (je_bi (jv_cons (je_bin (je_bin (je_bi (jv_cons (je_bin (je_idx (je_varL rfl) je_lit rfl rfl ix_l1) (je_idx (je_varL rfl) je_lit rfl rfl ix_l1) rfl rfl (jb_mul (.inl (by omega)))) jv_nil) rfl rfl) je_lit rfl rfl (jb_mod (by omega))) je_lit rfl rfl (jb_div (by omega))) jv_nil) rfl rfl) (je_var rfl) rfl rfl (jb_mod h.1)))
    · rfl
    · rfl
def Pot.pick (p : Pot) (xs : List D) : D := xs.getD (p.dig xs.length).toNat .non
theorem Pot.pick_mem (p : Pot) {xs : List D} (h : 0 < xs.length) : p.pick xs ∈ xs := by
  have := p.dig_lt (m := xs.length) (by omega)
  unfold Pot.pick
  rw [List.getD_eq_getElem?_getD, List.getElem?_eq_getElem (by omega)]
  exact List.getElem_mem _
theorem pick_i (n : Nat) (p : Pot) (xs : List D) (h : 0 < xs.length ∧ xs.length < 1000000) : evD tab (n + 2) 29 [.li true p.enc, .va (.lst xs)] = .ok (.va (p.pick xs), [.li true (p.nxt xs.length).enc, .un]) := by
  rw [opn (T := tab) (f := 29) _ 2 0 b__law_pick rfl rfl]; unfold b__law_pick; simp only [List.replicate, List.cons_append, List.nil_append, List.singleton_append]
  have hd := draw_i n p xs.length (by omega)
  have := p.dig_lt (m := xs.length) (by omega)
  have hi : idxD (.lst xs) (.int (p.dig xs.length)) = some (p.pick xs) := by
    show (ixN _ _).bind _ = _
    rw [ixN_i (by omega)]
    show xs[_]? = _
    unfold Pot.pick
    rw [List.getD_eq_getElem?_getD, List.getElem?_eq_getElem (by omega)]
    rfl
  simp [finD, evSs, evS.eq_1, evS.eq_2, evS.eq_3, evS.eq_4, evS.eq_5, evS.eq_6, evS.eq_7, evS.eq_10, evS.eq_11, evS.eq_12, evS.eq_13, evE.eq_1, evE.eq_2, evE.eq_3, evE.eq_4, evE.eq_5, evE.eq_6, evE.eq_7, evE.eq_8, evE.eq_9, evE.eq_10, evE.eq_11, evE.eq_12, evE.eq_13, evE.eq_14, evE.eq_15, evE.eq_16, evE.eq_17, evE.eq_18, evE.eq_19, evE.eq_20, evE.eq_21, evE.eq_22, evE.eq_23, evE.eq_24, evE.eq_25, evE.eq_26, evE.eq_27, evT, evVs, evNs, evO, evI, evC', asgT, asgTs, parS, sto, bor, look, looks, dat, dats, fz, lend, vws, nodupB, back, slotOf, outV, keepB, binD, biD, cmpD, truD, keyD, eqO_str, eqO_int, seqD, itD, srcD, tyD, sz, slc_1, isi_int, isi_ib, isi_str, isi_tup, ix_0, ix_1, ix_2, ix_3, ix_4, ix_5, chg, putS, meTy.eq_1, mutM, meS, meD, Sl.bor.eq_1, Sl.bor.eq_2, Sl.bor.eq_3, Option.bind, List.getElem?_cons_zero, List.getElem?_cons_succ, List.set_cons_zero, List.set_cons_succ, fits_lt, hd, hi]
end DI.K77
end

section
set_option Elab.async false
set_option linter.all false
set_option maxRecDepth 100000
set_option pp.maxSteps 800
/-! k77: the plain law, part 16: draws in a text; the first pots; sheets that are drawn. -/
namespace DI.K77
open PySem L2
theorem call28 {F : CF} {n : Nat} (hF : F = evD tab (n + 1)) {b : Bool} {env e1 : Envi} {a : IE} {p : Pot} {m : Int} (hp : e1[0]? = some (.li b p.enc)) (h0 : evE F (.var 0) env = .ok (.vw 0, env)) (ha : evE F a env = .ok (.va (.int m), e1)) (hm : 0 < m ∧ m < 1073741824) :
    evE F (.call 28 (.cons (.var 0) (.cons a .nil))) env = .ok (.va (.int (p.dig m)), e1.set 0 (.li b (p.nxt m).enc)) := by
  subst hF
  refine je_call (jv_cons h0 (jv_cons ha jv_nil)) rfl (args := [.li true p.enc, .va (.int m)]) ?_ (draw_i n p m hm) ?_
  · simp [lend, fz, hp]
  · simp [back, fz, hp]
theorem call29 {F : CF} {n : Nat} (hF : F = evD tab (n + 2)) {b : Bool} {env e1 : Envi} {a : IE} {x : Vl} {p : Pot} {xs : List D} (hp : e1[0]? = some (.li b p.enc)) (h0 : evE F (.var 0) env = .ok (.vw 0, env)) (ha : evE F a env = .ok (x, e1)) (hx : fz x = .va (.lst xs)) (hm : 0 < xs.length ∧ xs.length < 1000000) :
    evE F (.call 29 (.cons (.var 0) (.cons a .nil))) env = .ok (.va (p.pick xs), e1.set 0 (.li b (p.nxt xs.length).enc)) := by
  subst hF
  refine je_call (jv_cons h0 (jv_cons ha jv_nil)) (by rw [hx]; rfl) (args := [.li true p.enc, .va (.lst xs)]) ?_ (pick_i n p xs hm) ?_
  · rw [hx]; simp [lend, hp, fz]
  · rw [hx]; simp [back, hp, fz]
theorem append_ok {b : Bool} {xs : List D} {d : D} (h : xs.length < 1000000) : meS .append (.li b xs) [d] = some (.non, .li b (xs ++ [d])) := by
  unfold meS
  exact if_pos (decide_eq_true (by unfold sizeLine; omega))
theorem law_pot_i (n : Nat) (ns : List Int) (k : Nat) (hk : k ≤ 1) : ∃ p : Pot, evD tab (n + 1) 27 [.va (.scr (ns.map .int)), .va (.int k)] = .ok (.ol p.enc, [.un, .un]) := by
  rw [opn (T := tab) (f := 27) _ 2 1 b__law_pot rfl rfl]; unfold b__law_pot; simp only [List.replicate, List.cons_append, List.nil_append, List.singleton_append]
  have hc : ∃ cell : Int, 0 ≤ cell ∧ evE (evD tab n) (.ife (.e (.cmp .Lt (.var 1) (.bi .len (.cons (.var 0) .nil)))) (.bi .abs (.cons (.idx (.var 0) (.var 1)) .nil)) (.bin .Add (.bin .Add (.bin .Mult (.lit (.int 6199)) (.var 1)) (.lit (.int 2777))) (.bin .Mod (.bi .int (.cons (.bi .abs (.cons (.bi .sum (.cons (.slc (.var 0) .no (.so (.lit (.int 1)))) .nil)) .nil)) .nil)) (.lit (.int 1000003))))) [.va (.scr (ns.map .int)), .va (.int k), .un] = .ok (.va (.int cell), [.va (.scr (ns.map .int)), .va (.int k), .un]) := by
    by_cases hl : k < ns.length
    · have hi : idxD (.scr (ns.map .int)) (.int k) = some (.int ns[k]) := by
        show (ixN _ _).bind _ = _
        rw [ixN_n _ _ (by rw [List.length_map]; exact hl)]
        show (List.map _ _)[k]? = _
        rw [List.getElem?_map, List.getElem?_eq_getElem hl]; rfl
      refine ⟨if ns[k] < 0 then -ns[k] else ns[k], by split <;> omega, ?_⟩
      have hl2 : (k : Int) < ns.length := by omega
      refine je_ife (q := true) (jt_e (je_cmp (je_var rfl) (je_bi (jv_cons (je_var rfl) jv_nil) rfl rfl) rfl rfl (by simp [cmpD]; omega)) rfl rfl) ?_
      rw [if_pos rfl]
      exact je_bi (jv_cons (je_idx (je_var rfl) (je_var rfl) rfl rfl hi) jv_nil) rfl rfl
    · have hsum : ∃ v : Int, evE (evD tab n) (.bi .sum (.cons (.slc (.var 0) .no (.so (.lit (.int 1)))) .nil)) [.va (.scr (ns.map .int)), .va (.int k), .un] = .ok (.va (.int v), [.va (.scr (ns.map .int)), .va (.int k), .un]) := by
        refine ⟨(cutD ns none (some 1)).sum, je_bi (jv_cons (je_slc (je_var rfl) jo_no (jo_so je_lit) rfl rfl) jv_nil) rfl ?_⟩
        show (intsD (cutD (ns.map D.int) none (some 1))).map _ = _
        have : cutD (ns.map D.int) none (some 1) = (cutD ns none (some 1)).map D.int := by
          unfold cutD; simp
        rw [this, intsD_map]; rfl
      obtain ⟨v, hv⟩ := hsum
      refine ⟨6199 * k + 2777 + (if v < 0 then -v else v) % 1000003, by split <;> omega, ?_⟩
      refine je_ife (q := false) (jt_e (je_cmp (je_var rfl) (je_bi (jv_cons (je_var rfl) jv_nil) rfl rfl) rfl rfl (by simp [cmpD]; omega)) rfl rfl) ?_
      rw [if_neg (by simp)]
      exact je_bin (je_bin (je_bin je_lit (je_var rfl) rfl rfl (jb_mul (.inl (by omega)))) je_lit rfl rfl rfl) (je_bin (je_bi (jv_cons (je_bi (jv_cons hv jv_nil) rfl rfl) jv_nil) rfl rfl) je_lit rfl rfl (jb_mod (by omega))) rfl rfl rfl
  obtain ⟨cell, h0, hc⟩ := hc
  have hb : 0 ≤ (cell % 2147483549 * 40014 + 13249 * k + 449) % 2147483563 + 1 ∧ (cell % 2147483549 * 40014 + 13249 * k + 449) % 2147483563 + 1 < 2147483587 := by omega
  have ha : 0 ≤ (if cell - 10 ^ (18 : Int).toNat > 0 then cell - 10 ^ (18 : Int).toNat else 0) := by split <;> omega
  refine ⟨⟨_, _, ha, hb⟩, ?_⟩
  apply fin_rt
  · refine st_nx (js_set hc rfl rfl) (st_rt (js_ret (je_lst (jv_cons (je_bi (jv_cons je_lit (jv_cons (je_bin (je_var rfl) (je_bin je_lit je_lit rfl rfl (jb_pow ⟨by omega, by omega, by decide⟩)) rfl rfl rfl) jv_nil)) rfl rfl) (jv_cons (je_bin (je_bin (je_bi (jv_cons (je_bin (je_bin (je_bin (je_bin (je_bi (jv_cons (je_var rfl) jv_nil) rfl rfl) je_lit rfl rfl (jb_mod (by omega))) je_lit rfl rfl (jb_mul (.inr (by omega)))) (je_bin je_lit (je_var rfl) rfl rfl (jb_mul (.inl (by omega)))) rfl rfl rfl) je_lit rfl rfl rfl) jv_nil) rfl rfl) je_lit rfl rfl (jb_mod (by omega))) je_lit rfl rfl rfl) jv_nil)) rfl (fits_lt (by simp only [List.length_cons, List.length_nil]; omega)))))
  · rfl
  · rfl
theorem law_sheet_i (n : Nat) (p : Pot) : ∃ (M : Nat) (gs : List Game) (p' : Pot), evD tab (n + 2) 30 [.li true p.enc, .va (.int 14)] = .ok (.va (sheetD M gs), [.li true p'.enc, .un]) ∧ okSheet M gs := by
  rw [opn (T := tab) (f := 30) _ 2 5 b__law_sheet rfl rfl]; unfold b__law_sheet; simp only [List.replicate, List.cons_append, List.nil_append, List.singleton_append]
  have d1 := p.dig_lt (m := 5) (by omega)
  obtain ⟨M, hM⟩ : ∃ M : Nat, 2 + p.dig 5 = (M : Int) := ⟨(2 + p.dig 5).toNat, by omega⟩
  have d2 := (p.nxt 5).dig_lt (m := 15) (by omega)
  obtain ⟨k, hk⟩ : ∃ k : Nat, (p.nxt 5).dig 15 = (k : Int) := ⟨((p.nxt 5).dig 15).toNat, by omega⟩
  have s1 : evS (evD tab (n + 1)) (.par [(2, false), (3, true)] (.cons (.bin .Add (.lit (.int 2)) (.call 28 (.cons (.var 0) (.cons (.lit (.int 5)) .nil)))) (.cons (.lst .nil) .nil))) [.li true p.enc, .va (.int 14), .un, .un, .un, .un, .un] = .ok (.nx, [.li true (p.nxt 5).enc, .va (.int 14), .va (.int M), .li false [], .un, .un, .un]) := by
    refine js_par (jn_cons (je_bin je_lit (call28 rfl rfl rfl je_lit (by omega)) rfl rfl rfl) (jn_cons (je_lst jv_nil rfl rfl) jn_nil)) ?_
    rw [hM]; rfl
  obtain ⟨env, f1, q, gs, s4, s5, s6, hl, hg, rfl, -, -, -⟩ := for_rng (F := evD tab (n + 1)) (i := 4) (it := (.rng1 (.call 28 (.cons (.var 0) (.cons (.bin .Add (.var 1) (.lit (.int 1))) .nil))))) (b := (.cons (.set 5 false (.call 28 (.cons (.var 0) (.cons (.var 2) .nil)))) (.cons (.set 6 false (.bin .Add (.bin .Add (.var 5) (.lit (.int 1))) (.call 28 (.cons (.var 0) (.cons (.bin .Sub (.var 2) (.var 5)) .nil))))) (.cons (.expr (.me .append (.var 3) (.cons (.tup (.cons (.var 5) (.cons (.var 6) (.cons (.ife (.e (.cmp .Eq (.var 6) (.var 2))) (.lit (.int 2)) (.call 28 (.cons (.var 0) (.cons (.lit (.int 3)) .nil)))) .nil)))) .nil))) .nil)))) (env := [.li true (p.nxt 5).enc, .va (.int 14), .va (.int M), .li false [], .un, .un, .un]) (k := k)
    (fun j env => ∃ (q : Pot) (gs : List Game) (s4 s5 s6 : Sl), gs.length = j ∧ (∀ g ∈ gs, okGame M g) ∧ env = [.li true q.enc, .va (.int 14), .va (.int M), .li false (gs.map Game.enc), s4, s5, s6] ∧ s4.bor = false ∧ s5.bor = false ∧ s6.bor = false)
    (jw_rng1 (n := k) (by rw [← hk]; exact call28 rfl rfl rfl (je_bin (je_var rfl) je_lit rfl rfl rfl) (by omega)) (by omega)) (by rw [Int.toNat_natCast]) ⟨(p.nxt 5).nxt 15, [], .un, .un, .un, rfl, by simp, rfl, rfl, rfl, rfl⟩ (by
      rintro j env hj ⟨q, gs, s4, s5, s6, hl, hg, rfl, b4, b5, b6⟩
      have e1 := q.dig_lt (m := M) (by omega)
      have e2 := (q.nxt M).dig_lt (m := M - q.dig M) (by omega)
      have e3 := ((q.nxt M).nxt (M - q.dig M)).dig_lt (m := 3) (by omega)
      have hgl : (gs.map Game.enc).length < 1000000 := by rw [List.length_map]; omega
      have a1 : sto [.li true q.enc, .va (.int 14), .va (.int M), .li false (gs.map Game.enc), s4, s5, s6] 4 (.va (.int j)) = .ok [.li true q.enc, .va (.int 14), .va (.int M), .li false (gs.map Game.enc), .va (.int j), s5, s6] := by simp [sto, bor, b4]
      have a2 : sto [.li true (q.nxt M).enc, .va (.int 14), .va (.int M), .li false (gs.map Game.enc), .va (.int j), s5, s6] 5 (.va (.int (q.dig M))) = .ok [.li true (q.nxt M).enc, .va (.int 14), .va (.int M), .li false (gs.map Game.enc), .va (.int j), .va (.int (q.dig M)), s6] := by simp [sto, bor, b5]
      have a3 : ∀ x v, sto [x, .va (.int 14), .va (.int M), .li false (gs.map Game.enc), .va (.int j), .va (.int (q.dig M)), s6] 6 v = .ok [x, .va (.int 14), .va (.int M), .li false (gs.map Game.enc), .va (.int j), .va (.int (q.dig M)), v] := by intro x v; simp [sto, bor, b6]
      have st1 : evS (evD tab (n + 1)) (.set 5 false (.call 28 (.cons (.var 0) (.cons (.var 2) .nil)))) [.li true q.enc, .va (.int 14), .va (.int M), .li false (gs.map Game.enc), .va (.int j), s5, s6] = .ok (.nx, [.li true (q.nxt M).enc, .va (.int 14), .va (.int M), .li false (gs.map Game.enc), .va (.int j), .va (.int (q.dig M)), s6]) :=
        js_set (call28 rfl rfl rfl (je_var rfl) (by omega)) rfl a2
      have st2 : evS (evD tab (n + 1)) (.set 6 false (.bin .Add (.bin .Add (.var 5) (.lit (.int 1))) (.call 28 (.cons (.var 0) (.cons (.bin .Sub (.var 2) (.var 5)) .nil))))) [.li true (q.nxt M).enc, .va (.int 14), .va (.int M), .li false (gs.map Game.enc), .va (.int j), .va (.int (q.dig M)), s6] = .ok (.nx, [.li true ((q.nxt M).nxt (M - q.dig M)).enc, .va (.int 14), .va (.int M), .li false (gs.map Game.enc), .va (.int j), .va (.int (q.dig M)), .va (.int (q.dig M + 1 + (q.nxt M).dig (M - q.dig M)))]) :=
        js_set (je_bin (je_bin (je_var rfl) je_lit rfl rfl rfl) (call28 rfl rfl rfl (je_bin (je_var rfl) (je_var rfl) rfl rfl rfl) (by omega)) rfl rfl rfl) rfl (a3 _ _)
      generalize hone : q.dig M = one at *
      generalize (q.nxt M).nxt (M - one) = q2 at *
      generalize hoth : one + 1 + (q.nxt M).dig (M - one) = other at *
      have hife : ∃ (t : Int) (q3 : Pot), (if other = M then (2 : Int) else 0) ≤ t ∧ t ≤ 2 ∧ evE (evD tab (n + 1)) (.ife (.e (.cmp .Eq (.var 6) (.var 2))) (.lit (.int 2)) (.call 28 (.cons (.var 0) (.cons (.lit (.int 3)) .nil)))) [.li true q2.enc, .va (.int 14), .va (.int M), .li false (gs.map Game.enc), .va (.int j), .va (.int one), .va (.int other)] = .ok (.va (.int t), [.li true q3.enc, .va (.int 14), .va (.int M), .li false (gs.map Game.enc), .va (.int j), .va (.int one), .va (.int other)]) := by
        by_cases ho : other = M
        · refine ⟨2, q2, by rw [if_pos ho]; omega, by omega, ?_⟩
          refine je_ife (q := true) (jt_e (je_cmp (je_var rfl) (je_var rfl) rfl rfl (by simp [cmpD, eqO_int, ho])) rfl rfl) ?_
          rw [if_pos rfl]; exact je_lit
        · refine ⟨q2.dig 3, q2.nxt 3, by rw [if_neg ho]; omega, by omega, ?_⟩
          refine je_ife (q := false) (jt_e (je_cmp (je_var rfl) (je_var rfl) rfl rfl (by simp [cmpD, eqO_int, ho])) rfl rfl) ?_
          rw [if_neg (by simp)]; exact call28 rfl rfl rfl je_lit (by omega)
      obtain ⟨t, q3, ht1, ht2, hife⟩ := hife
      refine ⟨_, _, a1, jq_cons st1 (jq_cons st2 (jq_cons (js_expr (je_meM (je_varL rfl) rfl rfl (jv_cons (je_tup (jv_cons (je_var rfl) (jv_cons (je_var rfl) (jv_cons hife jv_nil))) rfl (fits_lt (by simp only [List.length_cons, List.length_nil]; omega))) jv_nil) rfl rfl rfl (append_ok hgl) rfl)) jq_nil)), ⟨q3, gs ++ [⟨one, other, t⟩], .va (.int j), .va (.int one), .va (.int other), by simp [hl], ?_, ?_, rfl, rfl, rfl⟩⟩
      · intro g hg'
        rcases List.mem_append.mp hg' with h | h
        · exact hg g h
        · obtain rfl := List.mem_singleton.mp h
          exact ⟨by dsimp only; omega, by dsimp only; omega, ⟨ht1, ht2⟩⟩
      · simp [Game.enc])
  refine ⟨M, gs, q, ?_, ⟨by omega, by omega, hg⟩⟩
  apply fin_rt
  · exact st_nx s1 (st_nx f1 (st_rt (js_ret (je_tup (jv_cons (je_var rfl) (jv_cons (je_bi (jv_cons (je_varL rfl) jv_nil) rfl rfl) jv_nil)) rfl (fits_lt (by simp only [List.length_cons, List.length_nil]; omega))))))
  · rfl
  · rfl
end DI.K77
end

section
set_option Elab.async false
set_option linter.all false
set_option maxRecDepth 100000
set_option pp.maxSteps 800
/-! k77: the plain law, part 17: rows that are drawn. -/
namespace DI.K77
open PySem L2
theorem law_bound_i (n : Nat) (m : Int) (r : Row) (bd : Int → Int) (kvs : List (Key × D)) (h : r.okR m) (hb : ∀ s ∈ r.reads, gI kvs s (bd s)) (hp : ∀ s, r ≠ .part s) : evD tab (n + 1) 31 [.va r.enc, .di true kvs] = .ok (.va (.int (r.bound bd)), [.un, .di true kvs]) := by
  rw [opn (T := tab) (f := 31) _ 2 0 b__law_bound rfl rfl]; unfold b__law_bound; simp only [List.replicate, List.cons_append, List.nil_append, List.singleton_append]
  cases r with
  | put c k =>
    simp only [Row.enc, Row.bound]
    apply fin_rt
    · (apply st_rt; apply if_t; (· (simp [finD, evSs, evS.eq_1, evS.eq_2, evS.eq_3, evS.eq_4, evS.eq_5, evS.eq_6, evS.eq_7, evS.eq_10, evS.eq_11, evS.eq_12, evS.eq_13, evE.eq_1, evE.eq_2, evE.eq_3, evE.eq_4, evE.eq_5, evE.eq_6, evE.eq_7, evE.eq_8, evE.eq_9, evE.eq_10, evE.eq_11, evE.eq_12, evE.eq_13, evE.eq_14, evE.eq_15, evE.eq_16, evE.eq_17, evE.eq_18, evE.eq_19, evE.eq_20, evE.eq_21, evE.eq_22, evE.eq_23, evE.eq_24, evE.eq_25, evE.eq_26, evE.eq_27, evT, evVs, evNs, evO, evI, evC', asgT, asgTs, parS, sto, bor, look, looks, dat, dats, fz, lend, vws, nodupB, back, slotOf, outV, keepB, binD, biD, cmpD, truD, keyD, eqO_str, eqO_int, seqD, itD, srcD, tyD, sz, slc_1, isi_int, isi_ib, isi_str, isi_tup, ix_0, ix_1, ix_2, ix_3, ix_4, ix_5, chg, putS, meTy.eq_1, mutM, meS, meD, Sl.bor.eq_1, Sl.bor.eq_2, Sl.bor.eq_3, Option.bind, List.getElem?_cons_zero, List.getElem?_cons_succ, List.set_cons_zero, List.set_cons_succ, fits_lt, inO, inD, flatD, eqF]; try (first | rfl | exact ⟨rfl, rfl⟩))))
      exact st_rt (js_ret (je_bin (je_idx (je_var rfl) je_lit rfl rfl ix_2) (je_ife (q := false) (jt_e (je_cmp (je_idx (je_var rfl) je_lit rfl rfl ix_0) je_lit rfl rfl (by rfl)) rfl rfl) (by rw [if_neg (by simp)]; exact je_lit)) rfl rfl (jb_mul (.inr (by omega)))))
    · simp [outV]
    · rfl
  | byes c k =>
    simp only [Row.enc, Row.bound]
    apply fin_rt
    · (apply st_rt; apply if_t; (· (simp [finD, evSs, evS.eq_1, evS.eq_2, evS.eq_3, evS.eq_4, evS.eq_5, evS.eq_6, evS.eq_7, evS.eq_10, evS.eq_11, evS.eq_12, evS.eq_13, evE.eq_1, evE.eq_2, evE.eq_3, evE.eq_4, evE.eq_5, evE.eq_6, evE.eq_7, evE.eq_8, evE.eq_9, evE.eq_10, evE.eq_11, evE.eq_12, evE.eq_13, evE.eq_14, evE.eq_15, evE.eq_16, evE.eq_17, evE.eq_18, evE.eq_19, evE.eq_20, evE.eq_21, evE.eq_22, evE.eq_23, evE.eq_24, evE.eq_25, evE.eq_26, evE.eq_27, evT, evVs, evNs, evO, evI, evC', asgT, asgTs, parS, sto, bor, look, looks, dat, dats, fz, lend, vws, nodupB, back, slotOf, outV, keepB, binD, biD, cmpD, truD, keyD, eqO_str, eqO_int, seqD, itD, srcD, tyD, sz, slc_1, isi_int, isi_ib, isi_str, isi_tup, ix_0, ix_1, ix_2, ix_3, ix_4, ix_5, chg, putS, meTy.eq_1, mutM, meS, meD, Sl.bor.eq_1, Sl.bor.eq_2, Sl.bor.eq_3, Option.bind, List.getElem?_cons_zero, List.getElem?_cons_succ, List.set_cons_zero, List.set_cons_succ, fits_lt, inO, inD, flatD, eqF]; try (first | rfl | exact ⟨rfl, rfl⟩))))
      exact st_rt (js_ret (je_bin (je_idx (je_var rfl) je_lit rfl rfl ix_2) (je_ife (q := true) (jt_e (je_cmp (je_idx (je_var rfl) je_lit rfl rfl ix_0) je_lit rfl rfl (by rfl)) rfl rfl) (by rw [if_pos rfl]; exact je_lit)) rfl rfl (jb_mul (.inr (by omega)))))
    · simp [outV]; omega
    · rfl
  | gather c s w0 w1 w2 near =>
    obtain ⟨h1, h2, h3, h4, h5, h6⟩ := h
    have hs : gI kvs s (bd s) := hb s (by simp [Row.reads])
    have hm := max3_le h3 h4 h5
    have h9 : -(18446744073709551616) < 300 * max3 w0 w1 w2 ∧ 300 * max3 w0 w1 w2 < 18446744073709551616 := by omega
    simp only [Row.enc, Row.bound]
    apply fin_rt
    · (apply st_nx; · (apply if_f; (· (simp [finD, evSs, evS.eq_1, evS.eq_2, evS.eq_3, evS.eq_4, evS.eq_5, evS.eq_6, evS.eq_7, evS.eq_10, evS.eq_11, evS.eq_12, evS.eq_13, evE.eq_1, evE.eq_2, evE.eq_3, evE.eq_4, evE.eq_5, evE.eq_6, evE.eq_7, evE.eq_8, evE.eq_9, evE.eq_10, evE.eq_11, evE.eq_12, evE.eq_13, evE.eq_14, evE.eq_15, evE.eq_16, evE.eq_17, evE.eq_18, evE.eq_19, evE.eq_20, evE.eq_21, evE.eq_22, evE.eq_23, evE.eq_24, evE.eq_25, evE.eq_26, evE.eq_27, evT, evVs, evNs, evO, evI, evC', asgT, asgTs, parS, sto, bor, look, looks, dat, dats, fz, lend, vws, nodupB, back, slotOf, outV, keepB, binD, biD, cmpD, truD, keyD, eqO_str, eqO_int, seqD, itD, srcD, tyD, sz, slc_1, isi_int, isi_ib, isi_str, isi_tup, ix_0, ix_1, ix_2, ix_3, ix_4, ix_5, chg, putS, meTy.eq_1, mutM, meS, meD, Sl.bor.eq_1, Sl.bor.eq_2, Sl.bor.eq_3, Option.bind, List.getElem?_cons_zero, List.getElem?_cons_succ, List.set_cons_zero, List.set_cons_succ, fits_lt, inO, inD, flatD, eqF]; try (first | rfl | exact ⟨rfl, rfl⟩))); exact jq_nil))
      (apply st_rt; apply if_t; (· (simp [finD, evSs, evS.eq_1, evS.eq_2, evS.eq_3, evS.eq_4, evS.eq_5, evS.eq_6, evS.eq_7, evS.eq_10, evS.eq_11, evS.eq_12, evS.eq_13, evE.eq_1, evE.eq_2, evE.eq_3, evE.eq_4, evE.eq_5, evE.eq_6, evE.eq_7, evE.eq_8, evE.eq_9, evE.eq_10, evE.eq_11, evE.eq_12, evE.eq_13, evE.eq_14, evE.eq_15, evE.eq_16, evE.eq_17, evE.eq_18, evE.eq_19, evE.eq_20, evE.eq_21, evE.eq_22, evE.eq_23, evE.eq_24, evE.eq_25, evE.eq_26, evE.eq_27, evT, evVs, evNs, evO, evI, evC', asgT, asgTs, parS, sto, bor, look, looks, dat, dats, fz, lend, vws, nodupB, back, slotOf, outV, keepB, binD, biD, cmpD, truD, keyD, eqO_str, eqO_int, seqD, itD, srcD, tyD, sz, slc_1, isi_int, isi_ib, isi_str, isi_tup, ix_0, ix_1, ix_2, ix_3, ix_4, ix_5, chg, putS, meTy.eq_1, mutM, meS, meD, Sl.bor.eq_1, Sl.bor.eq_2, Sl.bor.eq_3, Option.bind, List.getElem?_cons_zero, List.getElem?_cons_succ, List.set_cons_zero, List.set_cons_succ, fits_lt]; try (first | rfl | exact ⟨rfl, rfl⟩))))
      (apply st_rt; (· (simp [finD, evSs, evS.eq_1, evS.eq_2, evS.eq_3, evS.eq_4, evS.eq_5, evS.eq_6, evS.eq_7, evS.eq_10, evS.eq_11, evS.eq_12, evS.eq_13, evE.eq_1, evE.eq_2, evE.eq_3, evE.eq_4, evE.eq_5, evE.eq_6, evE.eq_7, evE.eq_8, evE.eq_9, evE.eq_10, evE.eq_11, evE.eq_12, evE.eq_13, evE.eq_14, evE.eq_15, evE.eq_16, evE.eq_17, evE.eq_18, evE.eq_19, evE.eq_20, evE.eq_21, evE.eq_22, evE.eq_23, evE.eq_24, evE.eq_25, evE.eq_26, evE.eq_27, evT, evVs, evNs, evO, evI, evC', asgT, asgTs, parS, sto, bor, look, looks, dat, dats, fz, lend, vws, nodupB, back, slotOf, outV, keepB, binD, biD, cmpD, truD, keyD, eqO_str, eqO_int, seqD, itD, srcD, tyD, sz, slc_1, isi_int, isi_ib, isi_str, isi_tup, ix_0, ix_1, ix_2, ix_3, ix_4, ix_5, chg, putS, meTy.eq_1, mutM, meS, meD, Sl.bor.eq_1, Sl.bor.eq_2, Sl.bor.eq_3, Option.bind, List.getElem?_cons_zero, List.getElem?_cons_succ, List.set_cons_zero, List.set_cons_succ, fits_lt, intsD, most3, jb_dctI hs, h9]; try (first | rfl | exact ⟨rfl, rfl⟩))))
    · rfl
    · rfl
  | add c s t =>
    have hs : gI kvs s (bd s) := hb s (by simp [Row.reads])
    have ht : gI kvs t (bd t) := hb t (by simp [Row.reads])
    simp only [Row.enc, Row.bound]
    apply fin_rt
    · (apply st_nx; · (apply if_f; (· (simp [finD, evSs, evS.eq_1, evS.eq_2, evS.eq_3, evS.eq_4, evS.eq_5, evS.eq_6, evS.eq_7, evS.eq_10, evS.eq_11, evS.eq_12, evS.eq_13, evE.eq_1, evE.eq_2, evE.eq_3, evE.eq_4, evE.eq_5, evE.eq_6, evE.eq_7, evE.eq_8, evE.eq_9, evE.eq_10, evE.eq_11, evE.eq_12, evE.eq_13, evE.eq_14, evE.eq_15, evE.eq_16, evE.eq_17, evE.eq_18, evE.eq_19, evE.eq_20, evE.eq_21, evE.eq_22, evE.eq_23, evE.eq_24, evE.eq_25, evE.eq_26, evE.eq_27, evT, evVs, evNs, evO, evI, evC', asgT, asgTs, parS, sto, bor, look, looks, dat, dats, fz, lend, vws, nodupB, back, slotOf, outV, keepB, binD, biD, cmpD, truD, keyD, eqO_str, eqO_int, seqD, itD, srcD, tyD, sz, slc_1, isi_int, isi_ib, isi_str, isi_tup, ix_0, ix_1, ix_2, ix_3, ix_4, ix_5, chg, putS, meTy.eq_1, mutM, meS, meD, Sl.bor.eq_1, Sl.bor.eq_2, Sl.bor.eq_3, Option.bind, List.getElem?_cons_zero, List.getElem?_cons_succ, List.set_cons_zero, List.set_cons_succ, fits_lt, inO, inD, flatD, eqF]; try (first | rfl | exact ⟨rfl, rfl⟩))); exact jq_nil))
      (apply st_nx; · (apply if_f; (· (simp [finD, evSs, evS.eq_1, evS.eq_2, evS.eq_3, evS.eq_4, evS.eq_5, evS.eq_6, evS.eq_7, evS.eq_10, evS.eq_11, evS.eq_12, evS.eq_13, evE.eq_1, evE.eq_2, evE.eq_3, evE.eq_4, evE.eq_5, evE.eq_6, evE.eq_7, evE.eq_8, evE.eq_9, evE.eq_10, evE.eq_11, evE.eq_12, evE.eq_13, evE.eq_14, evE.eq_15, evE.eq_16, evE.eq_17, evE.eq_18, evE.eq_19, evE.eq_20, evE.eq_21, evE.eq_22, evE.eq_23, evE.eq_24, evE.eq_25, evE.eq_26, evE.eq_27, evT, evVs, evNs, evO, evI, evC', asgT, asgTs, parS, sto, bor, look, looks, dat, dats, fz, lend, vws, nodupB, back, slotOf, outV, keepB, binD, biD, cmpD, truD, keyD, eqO_str, eqO_int, seqD, itD, srcD, tyD, sz, slc_1, isi_int, isi_ib, isi_str, isi_tup, ix_0, ix_1, ix_2, ix_3, ix_4, ix_5, chg, putS, meTy.eq_1, mutM, meS, meD, Sl.bor.eq_1, Sl.bor.eq_2, Sl.bor.eq_3, Option.bind, List.getElem?_cons_zero, List.getElem?_cons_succ, List.set_cons_zero, List.set_cons_succ, fits_lt]; try (first | rfl | exact ⟨rfl, rfl⟩))); exact jq_nil))
      (apply st_rt; (· (simp [finD, evSs, evS.eq_1, evS.eq_2, evS.eq_3, evS.eq_4, evS.eq_5, evS.eq_6, evS.eq_7, evS.eq_10, evS.eq_11, evS.eq_12, evS.eq_13, evE.eq_1, evE.eq_2, evE.eq_3, evE.eq_4, evE.eq_5, evE.eq_6, evE.eq_7, evE.eq_8, evE.eq_9, evE.eq_10, evE.eq_11, evE.eq_12, evE.eq_13, evE.eq_14, evE.eq_15, evE.eq_16, evE.eq_17, evE.eq_18, evE.eq_19, evE.eq_20, evE.eq_21, evE.eq_22, evE.eq_23, evE.eq_24, evE.eq_25, evE.eq_26, evE.eq_27, evT, evVs, evNs, evO, evI, evC', asgT, asgTs, parS, sto, bor, look, looks, dat, dats, fz, lend, vws, nodupB, back, slotOf, outV, keepB, binD, biD, cmpD, truD, keyD, eqO_str, eqO_int, seqD, itD, srcD, tyD, sz, slc_1, isi_int, isi_ib, isi_str, isi_tup, ix_0, ix_1, ix_2, ix_3, ix_4, ix_5, chg, putS, meTy.eq_1, mutM, meS, meD, Sl.bor.eq_1, Sl.bor.eq_2, Sl.bor.eq_3, Option.bind, List.getElem?_cons_zero, List.getElem?_cons_succ, List.set_cons_zero, List.set_cons_succ, fits_lt, jb_dctI hs, jb_dctI ht]; try (first | rfl | exact ⟨rfl, rfl⟩))))
    · rfl
    · rfl
  | times c s k =>
    obtain ⟨h1, h2, h3⟩ := h
    have hs : gI kvs s (bd s) := hb s (by simp [Row.reads])
    have h9 : -(18446744073709551616) < k ∧ k < 18446744073709551616 := by omega
    simp only [Row.enc, Row.bound]
    apply fin_rt
    · (apply st_nx; · (apply if_f; (· (simp [finD, evSs, evS.eq_1, evS.eq_2, evS.eq_3, evS.eq_4, evS.eq_5, evS.eq_6, evS.eq_7, evS.eq_10, evS.eq_11, evS.eq_12, evS.eq_13, evE.eq_1, evE.eq_2, evE.eq_3, evE.eq_4, evE.eq_5, evE.eq_6, evE.eq_7, evE.eq_8, evE.eq_9, evE.eq_10, evE.eq_11, evE.eq_12, evE.eq_13, evE.eq_14, evE.eq_15, evE.eq_16, evE.eq_17, evE.eq_18, evE.eq_19, evE.eq_20, evE.eq_21, evE.eq_22, evE.eq_23, evE.eq_24, evE.eq_25, evE.eq_26, evE.eq_27, evT, evVs, evNs, evO, evI, evC', asgT, asgTs, parS, sto, bor, look, looks, dat, dats, fz, lend, vws, nodupB, back, slotOf, outV, keepB, binD, biD, cmpD, truD, keyD, eqO_str, eqO_int, seqD, itD, srcD, tyD, sz, slc_1, isi_int, isi_ib, isi_str, isi_tup, ix_0, ix_1, ix_2, ix_3, ix_4, ix_5, chg, putS, meTy.eq_1, mutM, meS, meD, Sl.bor.eq_1, Sl.bor.eq_2, Sl.bor.eq_3, Option.bind, List.getElem?_cons_zero, List.getElem?_cons_succ, List.set_cons_zero, List.set_cons_succ, fits_lt, inO, inD, flatD, eqF]; try (first | rfl | exact ⟨rfl, rfl⟩))); exact jq_nil))
      (apply st_nx; · (apply if_f; (· (simp [finD, evSs, evS.eq_1, evS.eq_2, evS.eq_3, evS.eq_4, evS.eq_5, evS.eq_6, evS.eq_7, evS.eq_10, evS.eq_11, evS.eq_12, evS.eq_13, evE.eq_1, evE.eq_2, evE.eq_3, evE.eq_4, evE.eq_5, evE.eq_6, evE.eq_7, evE.eq_8, evE.eq_9, evE.eq_10, evE.eq_11, evE.eq_12, evE.eq_13, evE.eq_14, evE.eq_15, evE.eq_16, evE.eq_17, evE.eq_18, evE.eq_19, evE.eq_20, evE.eq_21, evE.eq_22, evE.eq_23, evE.eq_24, evE.eq_25, evE.eq_26, evE.eq_27, evT, evVs, evNs, evO, evI, evC', asgT, asgTs, parS, sto, bor, look, looks, dat, dats, fz, lend, vws, nodupB, back, slotOf, outV, keepB, binD, biD, cmpD, truD, keyD, eqO_str, eqO_int, seqD, itD, srcD, tyD, sz, slc_1, isi_int, isi_ib, isi_str, isi_tup, ix_0, ix_1, ix_2, ix_3, ix_4, ix_5, chg, putS, meTy.eq_1, mutM, meS, meD, Sl.bor.eq_1, Sl.bor.eq_2, Sl.bor.eq_3, Option.bind, List.getElem?_cons_zero, List.getElem?_cons_succ, List.set_cons_zero, List.set_cons_succ, fits_lt]; try (first | rfl | exact ⟨rfl, rfl⟩))); exact jq_nil))
      (apply st_rt; (· (simp [finD, evSs, evS.eq_1, evS.eq_2, evS.eq_3, evS.eq_4, evS.eq_5, evS.eq_6, evS.eq_7, evS.eq_10, evS.eq_11, evS.eq_12, evS.eq_13, evE.eq_1, evE.eq_2, evE.eq_3, evE.eq_4, evE.eq_5, evE.eq_6, evE.eq_7, evE.eq_8, evE.eq_9, evE.eq_10, evE.eq_11, evE.eq_12, evE.eq_13, evE.eq_14, evE.eq_15, evE.eq_16, evE.eq_17, evE.eq_18, evE.eq_19, evE.eq_20, evE.eq_21, evE.eq_22, evE.eq_23, evE.eq_24, evE.eq_25, evE.eq_26, evE.eq_27, evT, evVs, evNs, evO, evI, evC', asgT, asgTs, parS, sto, bor, look, looks, dat, dats, fz, lend, vws, nodupB, back, slotOf, outV, keepB, binD, biD, cmpD, truD, keyD, eqO_str, eqO_int, seqD, itD, srcD, tyD, sz, slc_1, isi_int, isi_ib, isi_str, isi_tup, ix_0, ix_1, ix_2, ix_3, ix_4, ix_5, chg, putS, meTy.eq_1, mutM, meS, meD, Sl.bor.eq_1, Sl.bor.eq_2, Sl.bor.eq_3, Option.bind, List.getElem?_cons_zero, List.getElem?_cons_succ, List.set_cons_zero, List.set_cons_succ, fits_lt, jb_dctI hs, h9]; try (first | rfl | exact ⟨rfl, rfl⟩))))
    · rfl
    · rfl
  | part s => exact absurd rfl (hp s)
theorem Pot.pick_ws (p : Pot) {ws : List Int} (h : ws ≠ []) : ∃ a ∈ ws, p.pick (ws.map .int) = .int a := by
  have hl : 0 < (ws.map D.int).length := by rw [List.length_map]; exact List.length_pos_iff.mpr h
  obtain ⟨a, ha, e⟩ := List.mem_map.mp (p.pick_mem hl)
  exact ⟨a, ha, e.symm⟩
theorem ne_nil (ws : List Int) : cmpD .NotEq (.lst (ws.map .int)) (.lst []) = some (!ws.isEmpty) := by
  show (eqO _ _).map _ = _
  rw [eqO_nil (lay_ints 48 ws)]
  cases ws <;> rfl
abbrev six : List D := [.int 0, .int 1, .int 1, .int 2, .int 3, .int 1000]
abbrev wgts : List D := [.tup [.int 1, .int 0, .int 0], .tup [.int 2, .int 1, .int 0], .tup [.int 1, .int 1, .int 1], .tup [.int 3, .int 1, .int 0], .tup [.int 0, .int 0, .int 99], .tup [.int 0, .int 0, .int 0]]
theorem Pot.pick_six (p : Pot) : ∃ v : Int, (0 ≤ v ∧ v ≤ 1000) ∧ p.pick six = .int v := by
  have := p.pick_mem (xs := six) (by simp)
  simp only [List.mem_cons, List.not_mem_nil, or_false] at this
  rcases this with h | h | h | h | h | h <;> exact ⟨_, by omega, h⟩
theorem Pot.pick_wgts (p : Pot) : ∃ w0 w1 w2 : Int, (0 ≤ w0 ∧ w0 ≤ 99) ∧ (0 ≤ w1 ∧ w1 ≤ 99) ∧ (0 ≤ w2 ∧ w2 ≤ 99) ∧ p.pick wgts = .tup [.int w0, .int w1, .int w2] := by
  have := p.pick_mem (xs := wgts) (by simp)
  simp only [List.mem_cons, List.not_mem_nil, or_false] at this
  rcases this with h | h | h | h | h | h <;> exact ⟨_, _, _, by omega, by omega, by omega, h⟩
theorem e_int {F : CF} {env : Envi} {i : Int} : evE F (.lit (.int i)) env = .ok (.va (.int i), env) := rfl
theorem e_six {F : CF} {env : Envi} : evE F (.lst (.cons (.lit (.int 0)) (.cons (.lit (.int 1)) (.cons (.lit (.int 1)) (.cons (.lit (.int 2)) (.cons (.lit (.int 3)) (.cons (.lit (.int 1000)) .nil))))))) env = .ok (.ol six, env) :=
  je_lst (jv_cons je_lit (jv_cons je_lit (jv_cons je_lit (jv_cons je_lit (jv_cons je_lit (jv_cons je_lit jv_nil)))))) rfl (fits_lt (by simp only [List.length_cons, List.length_nil]; omega))
theorem e_tri {F : CF} {env : Envi} {a b c : Int} : evE F (.tup (.cons (.lit (.int a)) (.cons (.lit (.int b)) (.cons (.lit (.int c)) .nil)))) env = .ok (.va (.tup [.int a, .int b, .int c]), env) :=
  je_tup (jv_cons je_lit (jv_cons je_lit (jv_cons je_lit jv_nil))) rfl (fits_lt (by simp only [List.length_cons, List.length_nil]; omega))
theorem law_row_i (n : Nat) (p : Pot) (m : Int) (ws : List Int) (hm : 1 ≤ m ∧ m ≤ 16) (hw : ∀ w ∈ ws, 0 ≤ w ∧ w < m) (hl : ws.length < 1000000) : ∃ (r : Row) (p' : Pot),
    evD tab (n + 3) 32 [.li true p.enc, .va (.int m), .va (.lst (ws.map .int))] = .ok (.va r.enc, [.li true p'.enc, .un, .un]) ∧ r.okR m ∧ ∀ s ∈ r.reads, s ∈ ws := by
  rw [opn (T := tab) (f := 32) _ 3 6 b__law_row rfl rfl]; unfold b__law_row; simp only [List.replicate, List.cons_append, List.nil_append, List.singleton_append]
  have c1 := p.dig_lt (m := m) (by omega)
  obtain ⟨num, hn, c2⟩ := (p.nxt m).pick_six
  have s1 := js_par (F := evD tab (n + 2)) (env := [.li true p.enc, .va (.int m), .va (.lst (ws.map .int)), .un, .un, .un, .un, .un, .un]) (ks := [(3, false), (4, false)]) (jn_cons (call28 rfl rfl rfl (je_var (i := 1) rfl) (by omega)) (jn_cons (call29 rfl rfl rfl e_six rfl ⟨by simp, by simp⟩) jn_nil)) rfl
  rw [c2] at s1
  generalize (p.nxt m).nxt _ = p1 at s1
  generalize p.dig m = to at *
  have hway : ∃ (way : Int) (p2 : Pot), 0 ≤ way ∧ way < 12 ∧ (ws = [] → way < 2) ∧ evE (evD tab (n + 2)) (.ife (.e (.cmp .NotEq (.var 2) (.lst .nil))) (.call 28 (.cons (.var 0) (.cons (.lit (.int 12)) .nil))) (.call 28 (.cons (.var 0) (.cons (.lit (.int 2)) .nil)))) [.li true p1.enc, .va (.int m), .va (.lst (ws.map .int)), .va (.int to), .va (.int num), .un, .un, .un, .un] = .ok (.va (.int way), [.li true p2.enc, .va (.int m), .va (.lst (ws.map .int)), .va (.int to), .va (.int num), .un, .un, .un, .un]) := by
    by_cases he : ws = []
    · have d := p1.dig_lt (m := 2) (by omega)
      refine ⟨p1.dig 2, p1.nxt 2, by omega, by omega, fun _ => d.2, ?_⟩
      refine je_ife (q := false) (jt_e (je_cmp (je_var rfl) (je_lst jv_nil rfl rfl) rfl rfl ((ne_nil ws).trans (by simp [he]))) rfl rfl) ?_
      rw [if_neg (by simp)]; exact call28 rfl rfl rfl je_lit (by omega)
    · have d := p1.dig_lt (m := 12) (by omega)
      refine ⟨p1.dig 12, p1.nxt 12, by omega, by omega, fun h => absurd h he, ?_⟩
      refine je_ife (q := true) (jt_e (je_cmp (je_var rfl) (je_lst jv_nil rfl rfl) rfl rfl ((ne_nil ws).trans (by simp [he]))) rfl rfl) ?_
      rw [if_pos rfl]; exact call28 rfl rfl rfl je_lit (by omega)
  obtain ⟨way, p2, w0, w12, wnil, hway⟩ := hway
  have s2 := js_set (k := false) (i := 5) hway rfl rfl
  have wv : ∀ {env : Envi} {v k : Int}, env[5]? = some (.va (.int v)) → evT (evD tab (n + 2)) (.e (.cmp .Lt (.var 5) (.lit (.int k)))) env = .ok (decide (v < k), env) := fun h => jt_e (je_cmp (je_var h) je_lit rfl rfl rfl) rfl rfl
  have wvt : ∀ {env : Envi} {v k : Int}, env[5]? = some (.va (.int v)) → v < k → evT (evD tab (n + 2)) (.e (.cmp .Lt (.var 5) (.lit (.int k)))) env = .ok (true, env) := fun h hv => (wv h).trans (by rw [decide_eq_true hv])
  have wvf : ∀ {env : Envi} {v k : Int}, env[5]? = some (.va (.int v)) → ¬ v < k → evT (evD tab (n + 2)) (.e (.cmp .Lt (.var 5) (.lit (.int k)))) env = .ok (false, env) := fun h hv => (wv h).trans (by rw [decide_eq_false hv])
  by_cases w2 : way < 2
  · refine ⟨if way = 0 then .put to num else .byes to num, p2, ?_, by split <;> exact ⟨c1, hn⟩, by split <;> simp [Row.reads]⟩
    have hpick : idxD (.tup [tPut, tByes]) (.int way) = some (if way = 0 then tPut else tByes) := by
      have : way = 0 ∨ way = 1 := by omega
      rcases this with rfl | rfl <;> rfl
    apply fin_rt
    · refine st_nx s1 (st_nx s2 (st_rt (if_t (wvt rfl w2) (st_rt (js_ret (je_tup (jv_cons (je_idx (je_tup (jv_cons je_lit (jv_cons je_lit jv_nil)) rfl (fits_lt (by simp only [List.length_cons, List.length_nil]; omega))) (je_var rfl) rfl rfl hpick) (jv_cons (je_var rfl) (jv_cons (je_var rfl) jv_nil))) rfl (fits_lt (by simp only [List.length_cons, List.length_nil]; omega))))))))
    · split <;> rfl
    · rfl
  · have hne : ws ≠ [] := fun h => w2 (wnil h)
    have hwl : 0 < (ws.map D.int).length ∧ (ws.map D.int).length < 1000000 := by rw [List.length_map]; exact ⟨List.length_pos_iff.mpr hne, hl⟩
    have s3 := js_par (F := evD tab (n + 2)) (env := [.li true p2.enc, .va (.int m), .va (.lst (ws.map .int)), .va (.int to), .va (.int num), .va (.int way), .un, .un, .un]) (ks := [(6, false), (7, false)]) (jn_cons (call29 rfl rfl rfl (je_var (i := 2) rfl) rfl hwl) (jn_cons (call29 rfl rfl rfl (je_var (i := 2) rfl) rfl hwl) jn_nil)) rfl
    obtain ⟨a, ha, ea⟩ := p2.pick_ws hne
    obtain ⟨b, hb, eb⟩ := (p2.nxt (ws.map D.int).length).pick_ws hne
    rw [ea, eb] at s3
    generalize (p2.nxt _).nxt _ = p3 at s3
    have i1 : evS (evD tab (n + 2)) (.ifs (.e (.cmp .Lt (.var 5) (.lit (.int 2)))) (.cons (.ret (.tup (.cons (.idx (.tup (.cons (.lit (.str [112, 117, 116])) (.cons (.lit (.str [98, 121, 101, 115])) .nil))) (.var 5)) (.cons (.var 3) (.cons (.var 4) .nil))))) .nil) .nil) [.li true p2.enc, .va (.int m), .va (.lst (ws.map .int)), .va (.int to), .va (.int num), .va (.int way), .un, .un, .un] = .ok (.nx, [.li true p2.enc, .va (.int m), .va (.lst (ws.map .int)), .va (.int to), .va (.int num), .va (.int way), .un, .un, .un]) := if_f (wvf rfl w2) jq_nil
    by_cases w6 : way < 6
    · obtain ⟨x0, x1, x2, y0, y1, y2, ew⟩ := p3.pick_wgts
      have d := (p3.nxt (wgts.length : Nat)).dig_lt (m := 2) (by omega)
      refine ⟨.gather to a x0 x1 x2 ((p3.nxt (wgts.length : Nat)).dig 2), (p3.nxt (wgts.length : Nat)).nxt 2, ?_, ⟨c1, hw a ha, y0, y1, y2, d.1, by omega⟩, by simp [Row.reads]; exact ha⟩
      have s4 := js_set (k := false) (i := 8) (call29 (F := evD tab (n + 2)) (env := [.li true p3.enc, .va (.int m), .va (.lst (ws.map .int)), .va (.int to), .va (.int num), .va (.int way), .va (.int a), .va (.int b), .un]) rfl rfl rfl (je_lst (jv_cons e_tri (jv_cons e_tri (jv_cons e_tri (jv_cons e_tri (jv_cons e_tri (jv_cons e_tri jv_nil)))))) rfl (fits_lt (by simp only [List.length_cons, List.length_nil]; omega))) (xs := wgts) rfl ⟨by simp, by simp⟩) rfl rfl
      rw [ew] at s4
      apply fin_rt
      · exact st_nx s1 (st_nx s2 (st_nx i1 (st_nx s3 (st_rt (if_t (wvt rfl w6) (st_nx s4 (st_rt (js_ret (je_tup (jv_cons je_lit (jv_cons (je_var rfl) (jv_cons (je_var rfl) (jv_cons (je_var rfl) (jv_cons (call28 rfl rfl rfl je_lit (by omega)) jv_nil))))) rfl (fits_lt (by simp only [List.length_cons, List.length_nil]; omega)))))))))))
      · rfl
      · rfl
    · have i2 : evS (evD tab (n + 2)) (.ifs (.e (.cmp .Lt (.var 5) (.lit (.int 6)))) (.cons (.set 8 false (.call 29 (.cons (.var 0) (.cons (.lst (.cons (.tup (.cons (.lit (.int 1)) (.cons (.lit (.int 0)) (.cons (.lit (.int 0)) .nil)))) (.cons (.tup (.cons (.lit (.int 2)) (.cons (.lit (.int 1)) (.cons (.lit (.int 0)) .nil)))) (.cons (.tup (.cons (.lit (.int 1)) (.cons (.lit (.int 1)) (.cons (.lit (.int 1)) .nil)))) (.cons (.tup (.cons (.lit (.int 3)) (.cons (.lit (.int 1)) (.cons (.lit (.int 0)) .nil)))) (.cons (.tup (.cons (.lit (.int 0)) (.cons (.lit (.int 0)) (.cons (.lit (.int 99)) .nil)))) (.cons (.tup (.cons (.lit (.int 0)) (.cons (.lit (.int 0)) (.cons (.lit (.int 0)) .nil)))) .nil))))))) .nil)))) (.cons (.ret (.tup (.cons (.lit (.str [103, 97, 116, 104, 101, 114])) (.cons (.var 3) (.cons (.var 6) (.cons (.var 8) (.cons (.call 28 (.cons (.var 0) (.cons (.lit (.int 2)) .nil))) .nil))))))) .nil)) .nil) [.li true p3.enc, .va (.int m), .va (.lst (ws.map .int)), .va (.int to), .va (.int num), .va (.int way), .va (.int a), .va (.int b), .un] = .ok (.nx, [.li true p3.enc, .va (.int m), .va (.lst (ws.map .int)), .va (.int to), .va (.int num), .va (.int way), .va (.int a), .va (.int b), .un]) := if_f (wvf rfl w6) jq_nil
      by_cases w8 : way < 8
      · refine ⟨.add to a b, p3, ?_, ⟨c1, hw a ha, hw b hb⟩, by simp [Row.reads]; exact ⟨ha, hb⟩⟩
        apply fin_rt
        · exact st_nx s1 (st_nx s2 (st_nx i1 (st_nx s3 (st_nx i2 (st_rt (if_t (wvt rfl w8) (st_rt (js_ret (je_tup (jv_cons je_lit (jv_cons (je_var rfl) (jv_cons (je_var rfl) (jv_cons (je_var rfl) jv_nil)))) rfl (fits_lt (by simp only [List.length_cons, List.length_nil]; omega)))))))))))
        · rfl
        · rfl
      · have i3 : evS (evD tab (n + 2)) (.ifs (.e (.cmp .Lt (.var 5) (.lit (.int 8)))) (.cons (.ret (.tup (.cons (.lit (.str [97, 100, 100])) (.cons (.var 3) (.cons (.var 6) (.cons (.var 7) .nil)))))) .nil) .nil) [.li true p3.enc, .va (.int m), .va (.lst (ws.map .int)), .va (.int to), .va (.int num), .va (.int way), .va (.int a), .va (.int b), .un] = .ok (.nx, [.li true p3.enc, .va (.int m), .va (.lst (ws.map .int)), .va (.int to), .va (.int num), .va (.int way), .va (.int a), .va (.int b), .un]) := if_f (wvf rfl w8) jq_nil
        by_cases we : way = 8
        · refine ⟨.times to a num, p3, ?_, ⟨c1, hw a ha, hn⟩, by simp [Row.reads]; exact ha⟩
          apply fin_rt
          · exact st_nx s1 (st_nx s2 (st_nx i1 (st_nx s3 (st_nx i2 (st_nx i3 (st_rt (js_ret (je_ife (q := true) (jt_e (je_cmp (je_var rfl) je_lit rfl rfl (by simp [cmpD, eqO_int, we])) rfl rfl) (by rw [if_pos rfl]; exact je_tup (jv_cons je_lit (jv_cons (je_var rfl) (jv_cons (je_var rfl) (jv_cons (je_var rfl) jv_nil)))) rfl (fits_lt (by simp only [List.length_cons, List.length_nil]; omega)))))))))))
          · rfl
          · rfl
        · refine ⟨.part a, p3, ?_, hw a ha, by simp [Row.reads]; exact ha⟩
          apply fin_rt
          · exact st_nx s1 (st_nx s2 (st_nx i1 (st_nx s3 (st_nx i2 (st_nx i3 (st_rt (js_ret (je_ife (q := false) (jt_e (je_cmp (je_var rfl) je_lit rfl rfl (by simp [cmpD, eqO_int, we])) rfl rfl) (by rw [if_neg (by simp)]; exact je_tup (jv_cons je_lit (jv_cons (je_var rfl) jv_nil)) rfl (fits_lt (by simp only [List.length_cons, List.length_nil]; omega)))))))))))
          · rfl
          · rfl
end DI.K77
end

section
set_option Elab.async false
set_option linter.all false
set_option maxRecDepth 100000
set_option pp.maxSteps 800
/-! k77: the plain law, part 18: codes that are drawn. -/
namespace DI.K77
open PySem L2
theorem asg_sub {F : CF} {env e1 e2 : Envi} {o i : IE} {d k : D} {j : Nat} {y : Vl} {s s' : Sl} (h1 : evE F o env = .ok (.vw j, e1)) (h2 : evE F i e1 = .ok (y, e2)) (h3 : dat y = some k) (h4 : e2[j]? = some s) (h5 : putS s k d = some s') : asgT F (.sub o i) d env = .ok (e2.set j s') := by
  unfold asgT
  simp only [h1, h2, h3, h4, h5, Res.ok_bind, ro_some, chg]
theorem put_di {b : Bool} {kvs : List (Key × D)} {c : Int} {d : D} (h : kvs.length < 1000000) : putS (.di b kvs) (.int c) d = some (.di b (kput kvs (.inl c) d)) := by
  unfold putS
  simp only [keyD, Option.bind_some]
  exact if_pos (decide_eq_true (by unfold sizeLine; omega))
theorem in_ints (c : Int) (ws : List Int) : cmpD .In (.int c) (.lst (ws.map .int)) = some (decide (c ∈ ws)) := by
  show inO _ _ = _
  unfold inO
  have hf : (ws.map D.int).all flatD = true := by
    rw [List.all_eq_true]; intro d hd
    obtain ⟨o, _, rfl⟩ := List.mem_map.mp hd
    rfl
  rw [if_pos (by rw [hf]; rfl)]
  congr 1
  unfold inD
  rw [Bool.eq_iff_iff, List.any_eq_true]
  simp only [List.mem_map, decide_eq_true_eq]
  constructor
  · rintro ⟨_, ⟨a, ha, rfl⟩, h⟩
    have : a = c := by simpa [eqF] using h
    exact this ▸ ha
  · intro h; exact ⟨_, ⟨c, h, rfl⟩, by simp [eqF]⟩
theorem addL {a b : List D} (h : a.length + b.length < 1000000) : binD .Add (.lst a) (.lst b) = some (.ol (a ++ b)) := by
  unfold binD
  exact if_pos (fits_lt h)
structure codeInv (m : Int) (rows : List Row) (ws : List Int) (kvs : List (Key × D)) : Prop where
  row : ∀ r ∈ rows, r.okR m
  wb : wbr rows
  wsi : ∀ w, w ∈ ws ↔ some w ∈ rows.map Row.to
  kv : ∀ c, some c ∈ rows.map Row.to → gI kvs c (bdsAt rows c)
  kl : kvs.length ≤ rows.length
  wl : ws.length ≤ rows.length
  small : ∀ b, some b ∈ boundsL rows → b ≤ 1000000000000000000
theorem wbr_snoc {rows : List Row} {r : Row} (h : wbr rows) (hr : ∀ s ∈ r.reads, some s ∈ rows.map Row.to) : wbr (rows ++ [r]) := by
  intro pre x post he s hs
  rcases List.eq_nil_or_concat post with rfl | ⟨post, y, rfl⟩
  · have he' : rows ++ [r] = pre ++ [x] := he
    obtain ⟨h1, h2⟩ := List.append_inj' he' rfl
    subst h1
    obtain rfl : r = x := by simpa using h2
    exact hr s hs
  · have he' : rows ++ [r] = (pre ++ x :: post) ++ [y] := by rw [he]; simp
    obtain ⟨h1, h2⟩ := List.append_inj' he' rfl
    exact h pre x post h1 s hs
theorem inv_part {m : Int} {rows : List Row} {ws : List Int} {kvs : List (Key × D)} {s : Int} (h : codeInv m rows ws kvs) (hr : (Row.part s).okR m) (hs : s ∈ ws) : codeInv m (rows ++ [.part s]) ws kvs where
  row r hr' := by
    rcases List.mem_append.mp hr' with q | q
    · exact h.row r q
    · obtain rfl := List.mem_singleton.mp q; exact hr
  wb := wbr_snoc h.wb fun x hx => by
    obtain rfl : x = s := by simpa [Row.reads] using hx
    exact (h.wsi x).mp hs
  wsi w := by rw [h.wsi w]; simp [Row.to]
  kv c hc := by
    rw [bdsAt_snoc]
    exact h.kv c (by simpa [Row.to] using hc)
  kl := by have := h.kl; simp; omega
  wl := by have := h.wl; simp; omega
  small b hb := by
    rw [boundsL, boundsG_snoc, List.mem_append] at hb
    rcases hb with q | q
    · exact h.small b q
    · simp [bo, Row.to] at q
theorem inv_row {m : Int} {rows : List Row} {ws : List Int} {kvs : List (Key × D)} {r : Row} {c : Int} (h : codeInv m rows ws kvs) (hr : r.okR m) (hs : ∀ s ∈ r.reads, s ∈ ws) (hc : r.to = some c) (hb : r.bound (bdsAt rows) ≤ 1000000000000000000) :
    codeInv m (rows ++ [r]) (if c ∈ ws then ws else ws ++ [c]) (kput kvs (.inl c) (.int (r.bound (bdsAt rows)))) where
  row x hx := by
    rcases List.mem_append.mp hx with q | q
    · exact h.row x q
    · obtain rfl := List.mem_singleton.mp q; exact hr
  wb := wbr_snoc h.wb fun x hx => (h.wsi x).mp (hs x hx)
  wsi w := by
    simp only [List.map_append, List.map_cons, List.map_nil, List.mem_append, List.mem_singleton, hc, Option.some.injEq]
    rw [← h.wsi w]
    by_cases hcw : c ∈ ws
    · rw [if_pos hcw]
      constructor
      · exact .inl
      · rintro (q | q)
        · exact q
        · exact q ▸ hcw
    · rw [if_neg hcw, List.mem_append, List.mem_singleton]
  kv x hx := by
    rw [bdsAt_snoc]; unfold stepB; rw [hc]
    by_cases hxc : x = c
    · subst hxc; simp only [if_true]; exact kget_put _ _ _
    · simp only [hxc, if_false]
      refine (kget_put_ne (by simpa using hxc)).trans (h.kv x ?_)
      simpa [hc, hxc] using hx
  kl := by
    have := kput_len kvs (.inl c) (.int (r.bound (bdsAt rows)))
    have := h.kl
    simp; omega
  wl := by
    have := h.wl
    split <;> simp <;> omega
  small b hb' := by
    rw [boundsL, boundsG_snoc, List.mem_append] at hb'
    rcases hb' with q | q
    · exact h.small b q
    · simp only [bo, hc, List.mem_singleton, Option.some.injEq] at q
      have q : b = r.bound (bdsAt rows) := q
      omega
theorem call31 {F : CF} {n : Nat} (hF : F = evD tab (n + 1)) {m : Int} {r : Row} {rows : List Row} {ws : List Int} {kvs : List (Key × D)} (h : codeInv m rows ws kvs) (hr : r.okR m) (hs : ∀ s ∈ r.reads, s ∈ ws) (hp : ∀ s, r ≠ .part s) {a b c d e f : Sl} :
    evE F (.call 31 (.cons (.var 7) (.cons (.var 5) .nil))) [a, b, c, d, e, .di false kvs, f, .va r.enc] = .ok (.va (.int (r.bound (bdsAt rows))), [a, b, c, d, e, .di false kvs, f, .va r.enc]) := by
  subst hF
  exact je_call (jv_cons (je_var rfl) (jv_cons (je_varD rfl) jv_nil)) rfl rfl (law_bound_i n m r (bdsAt rows) kvs hr (fun s hs' => h.kv s ((h.wsi s).mp (hs s hs'))) hp) rfl
theorem law_code_i (n : Nat) (p : Pot) : ∃ (m : Int) (rows : List Row) (p' : Pot), evD tab (n + 4) 33 [.li true p.enc, .va (.int 10)] = .ok (.va (codeD m rows), [.li true p'.enc, .un]) ∧ okCode m rows ∧ 1 ≤ m := by
  rw [opn (T := tab) (f := 33) _ 2 6 b__law_code rfl rfl]; unfold b__law_code; simp only [List.replicate, List.cons_append, List.nil_append, List.singleton_append]
  have d1 := p.dig_lt (m := 5) (by omega)
  have d2 := (p.nxt 5).dig_lt (m := 11) (by omega)
  obtain ⟨k, hk⟩ : ∃ k : Nat, (p.nxt 5).dig 11 = (k : Int) := ⟨((p.nxt 5).dig 11).toNat, by omega⟩
  obtain ⟨m, hm⟩ : ∃ m, 1 + p.dig 5 = m := ⟨_, rfl⟩
  have s1 : evS (evD tab (n + 3)) (.par [(2, false), (3, true), (4, false), (5, true)] (.cons (.bin .Add (.lit (.int 1)) (.call 28 (.cons (.var 0) (.cons (.lit (.int 5)) .nil)))) (.cons (.lst .nil) (.cons (.lst .nil) (.cons .dnew .nil))))) [.li true p.enc, .va (.int 10), .un, .un, .un, .un, .un, .un] = .ok (.nx, [.li true (p.nxt 5).enc, .va (.int 10), .va (.int m), .li false [], .va (.lst []), .di false [], .un, .un]) := by
    refine js_par (jn_cons (je_bin je_lit (call28 rfl rfl rfl je_lit (by omega)) rfl rfl rfl) (jn_cons (je_lst jv_nil rfl rfl) (jn_cons (je_lst jv_nil rfl rfl) (jn_cons rfl jn_nil)))) ?_
    rw [hm]; rfl
  obtain ⟨env, f1, q, rows, ws, kvs, s6, s7, hl, hi, rfl, -, -⟩ := for_rng (F := evD tab (n + 3)) (i := 6) (it := (.rng1 (.call 28 (.cons (.var 0) (.cons (.bin .Add (.var 1) (.lit (.int 1))) .nil))))) (b := (.cons (.set 7 false (.call 32 (.cons (.var 0) (.cons (.var 2) (.cons (.var 4) .nil))))) (.cons (.ifs (.and (.e (.cmp .NotEq (.idx (.var 7) (.lit (.int 0))) (.lit (.str [112, 97, 114, 116])))) (.e (.cmp .Gt (.call 31 (.cons (.var 7) (.cons (.var 5) .nil))) (.bin .Pow (.lit (.int 10)) (.lit (.int 18)))))) (.cons (.set 7 false (.tup (.cons (.lit (.str [112, 117, 116])) (.cons (.idx (.var 7) (.lit (.int 1))) (.cons (.lit (.int 1)) .nil))))) .nil) .nil) (.cons (.ifs (.e (.cmp .NotEq (.idx (.var 7) (.lit (.int 0))) (.lit (.str [112, 97, 114, 116])))) (.cons (.asg (.sub (.var 5) (.idx (.var 7) (.lit (.int 1)))) (.call 31 (.cons (.var 7) (.cons (.var 5) .nil)))) (.cons (.set 4 false (.ife (.e (.cmp .In (.idx (.var 7) (.lit (.int 1))) (.var 4))) (.var 4) (.bin .Add (.var 4) (.lst (.cons (.idx (.var 7) (.lit (.int 1))) .nil))))) .nil)) .nil) (.cons (.expr (.me .append (.var 3) (.cons (.var 7) .nil))) .nil))))) (env := [.li true (p.nxt 5).enc, .va (.int 10), .va (.int m), .li false [], .va (.lst []), .di false [], .un, .un]) (k := k)
    (fun j env => ∃ (q : Pot) (rows : List Row) (ws : List Int) (kvs : List (Key × D)) (s6 s7 : Sl), rows.length = j ∧ codeInv m rows ws kvs ∧ env = [.li true q.enc, .va (.int 10), .va (.int m), .li false (rows.map Row.enc), .va (.lst (ws.map .int)), .di false kvs, s6, s7] ∧ s6.bor = false ∧ s7.bor = false)
    (jw_rng1 (n := k) (by rw [← hk]; exact call28 rfl rfl rfl (je_bin (je_var rfl) je_lit rfl rfl rfl) (by omega)) (by omega)) (by rw [Int.toNat_natCast]) ⟨(p.nxt 5).nxt 11, [], [], [], .un, .un, rfl, ⟨by simp, by intro pre x post h; simp at h, by simp, by simp, by simp, by simp, by simp [boundsG]⟩, rfl, rfl, rfl⟩ (by
      rintro j env hj ⟨q, rows, ws, kvs, s6, s7, hl, hi, rfl, b6, b7⟩
      have hwm : ∀ w ∈ ws, 0 ≤ w ∧ w < m := by
        intro w hw
        obtain ⟨r, hr, hto⟩ := List.mem_map.mp ((hi.wsi w).mp hw)
        exact Row.to_lt (hi.row r hr) hto
      have hwl := hi.wl
      have hkl := hi.kl
      obtain ⟨r, q2, hrow, hr, hrd⟩ := law_row_i n q m ws (by omega) hwm (by omega)
      have a1 : sto [.li true q.enc, .va (.int 10), .va (.int m), .li false (rows.map Row.enc), .va (.lst (ws.map .int)), .di false kvs, s6, s7] 6 (.va (.int j)) = .ok [.li true q.enc, .va (.int 10), .va (.int m), .li false (rows.map Row.enc), .va (.lst (ws.map .int)), .di false kvs, .va (.int j), s7] := by simp [sto, bor, b6]
      have a2 : ∀ x, sto [x, .va (.int 10), .va (.int m), .li false (rows.map Row.enc), .va (.lst (ws.map .int)), .di false kvs, .va (.int j), s7] 7 (.va r.enc) = .ok [x, .va (.int 10), .va (.int m), .li false (rows.map Row.enc), .va (.lst (ws.map .int)), .di false kvs, .va (.int j), .va r.enc] := by intro x; simp [sto, bor, b7]
      have st1 : evS (evD tab (n + 3)) (.set 7 false (.call 32 (.cons (.var 0) (.cons (.var 2) (.cons (.var 4) .nil))))) [.li true q.enc, .va (.int 10), .va (.int m), .li false (rows.map Row.enc), .va (.lst (ws.map .int)), .di false kvs, .va (.int j), s7] = .ok (.nx, [.li true q2.enc, .va (.int 10), .va (.int m), .li false (rows.map Row.enc), .va (.lst (ws.map .int)), .di false kvs, .va (.int j), .va r.enc]) :=
        js_set (je_call (jv_cons (je_varL rfl) (jv_cons (je_var rfl) (jv_cons (je_var rfl) jv_nil))) rfl rfl hrow rfl) rfl (a2 _)
      have hrl : (rows.map Row.enc).length < 1000000 := by rw [List.length_map]; omega
      have fin : ∀ {ws : List Int} {kvs : List (Key × D)} {r' : Row}, evSs (evD tab (n + 3)) (.cons (.expr (.me .append (.var 3) (.cons (.var 7) .nil))) .nil) [.li true q2.enc, .va (.int 10), .va (.int m), .li false (rows.map Row.enc), .va (.lst (ws.map .int)), .di false kvs, .va (.int j), .va r'.enc] = .ok (.nx, [.li true q2.enc, .va (.int 10), .va (.int m), .li false ((rows ++ [r']).map Row.enc), .va (.lst (ws.map .int)), .di false kvs, .va (.int j), .va r'.enc]) := by
        intro ws kvs r'
        have he : (rows ++ [r']).map Row.enc = rows.map Row.enc ++ [r'.enc] := by simp
        rw [he]
        exact jq_cons (js_expr (je_meM (je_varL rfl) rfl rfl (jv_cons (je_var rfl) jv_nil) rfl rfl rfl (append_ok hrl) rfl)) jq_nil
      rcases r.shape with ⟨s, rfl⟩ | ⟨c, tag, rest, hto, henc, htag, hp⟩
      · refine ⟨_, _, a1, jq_cons st1 (jq_cons (if_f (jt_andF (jt_e (je_cmp (je_idx (je_var rfl) je_lit rfl rfl ix_0) je_lit rfl rfl rfl) rfl rfl)) jq_nil) (jq_cons (if_f (jt_e (je_cmp (je_idx (je_var rfl) je_lit rfl rfl ix_0) je_lit rfl rfl rfl) rfl rfl) jq_nil) fin)), ⟨q2, rows ++ [.part s], ws, kvs, .va (.int j), .va (Row.part s).enc, by simp [hl], inv_part hi hr (hrd s (by simp [Row.reads])), rfl, rfl, rfl⟩⟩
      · have hnp : cmpD .NotEq (.str tag) (.str [112, 97, 114, 116]) = some true := by simp [cmpD, eqO_str, htag]
        have hph : ∃ (r' : Row) (tag' : List Nat) (rest' : List D), r'.enc = .tup (.str tag' :: .int c :: rest') ∧ ¬ tag' = [112, 97, 114, 116] ∧ r'.to = some c ∧ r'.okR m ∧ (∀ s ∈ r'.reads, s ∈ ws) ∧ (∀ s, r' ≠ .part s) ∧ r'.bound (bdsAt rows) ≤ 1000000000000000000 ∧
            evS (evD tab (n + 3)) (.ifs (.and (.e (.cmp .NotEq (.idx (.var 7) (.lit (.int 0))) (.lit (.str [112, 97, 114, 116])))) (.e (.cmp .Gt (.call 31 (.cons (.var 7) (.cons (.var 5) .nil))) (.bin .Pow (.lit (.int 10)) (.lit (.int 18)))))) (.cons (.set 7 false (.tup (.cons (.lit (.str [112, 117, 116])) (.cons (.idx (.var 7) (.lit (.int 1))) (.cons (.lit (.int 1)) .nil))))) .nil) .nil) [.li true q2.enc, .va (.int 10), .va (.int m), .li false (rows.map Row.enc), .va (.lst (ws.map .int)), .di false kvs, .va (.int j), .va r.enc] = .ok (.nx, [.li true q2.enc, .va (.int 10), .va (.int m), .li false (rows.map Row.enc), .va (.lst (ws.map .int)), .di false kvs, .va (.int j), .va r'.enc]) := by
          have t1 : evT (evD tab (n + 3)) (.e (.cmp .NotEq (.idx (.var 7) (.lit (.int 0))) (.lit (.str [112, 97, 114, 116])))) [.li true q2.enc, .va (.int 10), .va (.int m), .li false (rows.map Row.enc), .va (.lst (ws.map .int)), .di false kvs, .va (.int j), .va r.enc] = .ok (true, [.li true q2.enc, .va (.int 10), .va (.int m), .li false (rows.map Row.enc), .va (.lst (ws.map .int)), .di false kvs, .va (.int j), .va r.enc]) := by
            rw [henc]; exact jt_e (je_cmp (je_idx (je_var rfl) je_lit rfl rfl ix_0) je_lit rfl rfl hnp) rfl rfl
          by_cases hbig : 1000000000000000000 < r.bound (bdsAt rows)
          · refine ⟨.put c 1, [112, 117, 116], [.int 1], rfl, by decide, rfl, ⟨Row.to_lt hr hto, by omega⟩, by simp [Row.reads], by simp, by simp [Row.bound], ?_⟩
            refine if_t (jt_and t1 (jt_e (je_cmp (call31 rfl hi hr hrd hp) (je_bin je_lit je_lit rfl rfl (jb_pow ⟨by omega, by omega, by decide⟩)) rfl rfl (show some (decide _) = some true by rw [decide_eq_true]; exact hbig)) rfl rfl)) ?_
            rw [henc]
            exact jq_cons (js_set (je_tup (jv_cons je_lit (jv_cons (je_idx (je_var rfl) je_lit rfl rfl ix_1) (jv_cons je_lit jv_nil))) rfl (fits_lt (by simp only [List.length_cons, List.length_nil]; omega))) rfl rfl) jq_nil
          · refine ⟨r, tag, rest, henc, htag, hto, hr, hrd, hp, by omega, ?_⟩
            exact if_f (jt_and t1 (jt_e (je_cmp (call31 rfl hi hr hrd hp) (je_bin je_lit je_lit rfl rfl (jb_pow ⟨by omega, by omega, by decide⟩)) rfl rfl (show some (decide _) = some false by rw [decide_eq_false]; exact hbig)) rfl rfl)) jq_nil
        obtain ⟨r', tag', rest', henc', htag', hto', hr', hrd', hp', hb', st2⟩ := hph
        have hnp' : cmpD .NotEq (.str tag') (.str [112, 97, 114, 116]) = some true := by simp [cmpD, eqO_str, htag']
        have hkl2 : kvs.length < 1000000 := by omega
        have hadd : binD .Add (.lst (ws.map .int)) (.lst [.int c]) = some (.ol (ws.map .int ++ [.int c])) := addL (by rw [List.length_map]; simp; omega)
        have st3 : evS (evD tab (n + 3)) (.ifs (.e (.cmp .NotEq (.idx (.var 7) (.lit (.int 0))) (.lit (.str [112, 97, 114, 116])))) (.cons (.asg (.sub (.var 5) (.idx (.var 7) (.lit (.int 1)))) (.call 31 (.cons (.var 7) (.cons (.var 5) .nil)))) (.cons (.set 4 false (.ife (.e (.cmp .In (.idx (.var 7) (.lit (.int 1))) (.var 4))) (.var 4) (.bin .Add (.var 4) (.lst (.cons (.idx (.var 7) (.lit (.int 1))) .nil))))) .nil)) .nil) [.li true q2.enc, .va (.int 10), .va (.int m), .li false (rows.map Row.enc), .va (.lst (ws.map .int)), .di false kvs, .va (.int j), .va r'.enc] = .ok (.nx, [.li true q2.enc, .va (.int 10), .va (.int m), .li false (rows.map Row.enc), .va (.lst ((if c ∈ ws then ws else ws ++ [c]).map .int)), .di false (kput kvs (.inl c) (.int (r'.bound (bdsAt rows)))), .va (.int j), .va r'.enc]) := by
          have hcl := call31 (n := n + 2) rfl hi hr' hrd' hp' (a := .li true q2.enc) (b := .va (.int 10)) (c := .va (.int m)) (d := .li false (rows.map Row.enc)) (e := .va (.lst (ws.map .int))) (f := .va (.int j))
          rw [henc'] at hcl ⊢
          refine if_t (jt_e (je_cmp (je_idx (je_var rfl) je_lit rfl rfl ix_0) je_lit rfl rfl hnp') rfl rfl) ?_
          refine jq_cons (js_asg hcl rfl (asg_sub (je_varD rfl) (je_idx (je_var rfl) je_lit rfl rfl ix_1) rfl rfl (put_di hkl2))) ?_
          by_cases hcw : c ∈ ws
          · rw [if_pos hcw]
            exact jq_cons (js_set (je_ife (q := true) (jt_e (je_cmp (je_idx (je_var rfl) je_lit rfl rfl ix_1) (je_var rfl) rfl rfl ((in_ints c ws).trans (by rw [decide_eq_true hcw]))) rfl rfl) (by rw [if_pos rfl]; exact je_var rfl)) rfl rfl) jq_nil
          · rw [if_neg hcw, List.map_append]
            exact jq_cons (js_set (je_ife (q := false) (jt_e (je_cmp (je_idx (je_var rfl) je_lit rfl rfl ix_1) (je_var rfl) rfl rfl ((in_ints c ws).trans (by rw [decide_eq_false hcw]))) rfl rfl) (by rw [if_neg (by simp)]; exact je_bin (je_var rfl) (je_lst (jv_cons (je_idx (je_var rfl) je_lit rfl rfl ix_1) jv_nil) rfl (fits_lt (by simp only [List.length_cons, List.length_nil]; omega))) rfl rfl hadd)) rfl rfl) jq_nil
        refine ⟨_, _, a1, jq_cons st1 (jq_cons st2 (jq_cons st3 fin)), ⟨q2, rows ++ [r'], (if c ∈ ws then ws else ws ++ [c]), kput kvs (.inl c) (.int (r'.bound (bdsAt rows))), .va (.int j), .va r'.enc, by simp [hl], inv_row hi hr' hrd' hto' hb', rfl, rfl, rfl⟩⟩)
  refine ⟨m, rows, q, ?_, ⟨⟨by omega, hi.row, hi.wb⟩, by omega, hi.small⟩, by omega⟩
  apply fin_rt
  · exact st_nx s1 (st_nx f1 (st_rt (js_ret (je_tup (jv_cons je_lit (jv_cons (je_var rfl) (jv_cons (je_bi (jv_cons (je_varL rfl) jv_nil) rfl rfl) jv_nil))) rfl (fits_lt (by simp only [List.length_cons, List.length_nil]; omega))))))
  · rfl
  · rfl
end DI.K77
end

section
set_option Elab.async false
set_option linter.all false
set_option maxRecDepth 100000
set_option pp.maxSteps 800
/-! k77: the plain law, part 19: bounds that are reached. -/
namespace DI.K77
open PySem L2
def growR (r : Row) : Prop := (∃ a w b near : Int, r = .gather 0 0 a w b near ∧ (0 ≤ a ∧ a ≤ w) ∧ (0 ≤ b ∧ b ≤ w) ∧ (1 ≤ w ∧ w ≤ 99) ∧ 0 ≤ near ∧ near ≤ 1) ∨ r = .add 0 0 0 ∨ ∃ w : Int, r = .times 0 0 w ∧ 1 ≤ w ∧ w ≤ 99
structure growing (k : Int) (rest : List Row) : Prop where
  k : 1 ≤ k ∧ k ≤ 9
  len : rest.length ≤ 3
  row : ∀ r ∈ rest, growR r
theorem law_growing_i (n : Nat) (p : Pot) : ∃ (k : Int) (rest : List Row) (p' : Pot), evD tab (n + 2) 34 [.li true p.enc] = .ok (.va (codeD 1 (.put 0 k :: rest)), [.li true p'.enc]) ∧ growing k rest := by
  rw [opn (T := tab) (f := 34) _ 1 4 b__law_growing rfl rfl]; unfold b__law_growing; simp only [List.replicate, List.cons_append, List.nil_append, List.singleton_append]
  have d1 := p.dig_lt (m := 9) (by omega)
  have d2 := (p.nxt 9).dig_lt (m := 4) (by omega)
  obtain ⟨k, hk⟩ : ∃ k, 1 + p.dig 9 = k := ⟨_, rfl⟩
  obtain ⟨t, ht⟩ : ∃ k : Nat, (p.nxt 9).dig 4 = (k : Int) := ⟨((p.nxt 9).dig 4).toNat, by omega⟩
  have s1 := js_set (F := evD tab (n + 1)) (env := [.li true p.enc, .un, .un, .un, .un]) (k := true) (i := 1) (je_lst (jv_cons (je_tup (jv_cons (je_lit (d := tPut)) (jv_cons (je_lit (d := .int 0)) (jv_cons (je_bin je_lit (call28 rfl rfl rfl je_lit (m := 9) (by omega)) rfl rfl (show binD .Add (.int 1) _ = _ from rfl)) jv_nil))) rfl (fits_lt (by simp only [List.length_cons, List.length_nil]; omega))) jv_nil) rfl (fits_lt (by simp only [List.length_cons, List.length_nil]; omega))) rfl rfl
  rw [hk] at s1
  obtain ⟨env, f1, q, rest, s2, s3, s4, hl, hg, rfl, -, -, -⟩ := for_rng (F := evD tab (n + 1)) (i := 2) (it := (.rng1 (.call 28 (.cons (.var 0) (.cons (.lit (.int 4)) .nil))))) (b := (.cons (.par [(3, false), (4, false)] (.cons (.call 28 (.cons (.var 0) (.cons (.lit (.int 3)) .nil))) (.cons (.bin .Add (.lit (.int 1)) (.call 28 (.cons (.var 0) (.cons (.lit (.int 99)) .nil)))) .nil))) (.cons (.expr (.me .append (.var 1) (.cons (.idx (.lst (.cons (.tup (.cons (.lit (.str [103, 97, 116, 104, 101, 114])) (.cons (.lit (.int 0)) (.cons (.lit (.int 0)) (.cons (.tup (.cons (.call 28 (.cons (.var 0) (.cons (.bin .Add (.var 4) (.lit (.int 1))) .nil))) (.cons (.var 4) (.cons (.call 28 (.cons (.var 0) (.cons (.bin .Add (.var 4) (.lit (.int 1))) .nil))) .nil)))) (.cons (.call 28 (.cons (.var 0) (.cons (.lit (.int 2)) .nil))) .nil)))))) (.cons (.tup (.cons (.lit (.str [97, 100, 100])) (.cons (.lit (.int 0)) (.cons (.lit (.int 0)) (.cons (.lit (.int 0)) .nil))))) (.cons (.tup (.cons (.lit (.str [116, 105, 109, 101, 115])) (.cons (.lit (.int 0)) (.cons (.lit (.int 0)) (.cons (.var 4) .nil))))) .nil)))) (.var 3)) .nil))) .nil))) (env := [.li true (p.nxt 9).enc, .li false [(Row.put 0 k).enc], .un, .un, .un]) (k := t)
    (fun j env => ∃ (q : Pot) (rest : List Row) (s2 s3 s4 : Sl), rest.length = j ∧ (∀ r ∈ rest, growR r) ∧ env = [.li true q.enc, .li false ((Row.put 0 k :: rest).map Row.enc), s2, s3, s4] ∧ s2.bor = false ∧ s3.bor = false ∧ s4.bor = false)
    (jw_rng1 (n := t) (by rw [← ht]; exact call28 rfl rfl rfl je_lit (by omega)) (by omega)) (by rw [Int.toNat_natCast]) ⟨(p.nxt 9).nxt 4, [], .un, .un, .un, rfl, by simp, rfl, rfl, rfl, rfl⟩ (by
      rintro j env hj ⟨q, rest, s2, s3, s4, hl, hg, rfl, b2, b3, b4⟩
      generalize hW : (Row.put 0 k :: rest).map Row.enc = W
      have hWl : W.length < 1000000 := by rw [← hW, List.length_map, List.length_cons]; omega
      have e1 := q.dig_lt (m := 3) (by omega)
      have e2 := (q.nxt 3).dig_lt (m := 99) (by omega)
      obtain ⟨w, hw⟩ : ∃ w, 1 + (q.nxt 3).dig 99 = w := ⟨_, rfl⟩
      have a1 : sto [.li true q.enc, .li false W, s2, s3, s4] 2 (.va (.int j)) = .ok [.li true q.enc, .li false W, .va (.int j), s3, s4] := by simp [sto, bor, b2]
      have a2 : ∀ x, parS [x, .li false W, .va (.int j), s3, s4] [(3, false), (4, false)] [.va (.int (q.dig 3)), .va (.int w)] = .ok [x, .li false W, .va (.int j), .va (.int (q.dig 3)), .va (.int w)] := by intro x; simp [parS, sto, bor, b3, b4, slotOf]
      have st1 : evS (evD tab (n + 1)) (.par [(3, false), (4, false)] (.cons (.call 28 (.cons (.var 0) (.cons (.lit (.int 3)) .nil))) (.cons (.bin .Add (.lit (.int 1)) (.call 28 (.cons (.var 0) (.cons (.lit (.int 99)) .nil)))) .nil))) [.li true q.enc, .li false W, .va (.int j), s3, s4] = .ok (.nx, [.li true ((q.nxt 3).nxt 99).enc, .li false W, .va (.int j), .va (.int (q.dig 3)), .va (.int w)]) := by
        rw [← hw] at a2 ⊢
        exact js_par (jn_cons (call28 rfl rfl rfl je_lit (by omega)) (jn_cons (je_bin je_lit (call28 rfl rfl rfl je_lit (by omega)) rfl rfl rfl) jn_nil)) (a2 _)
      generalize (q.nxt 3).nxt 99 = q2 at *
      generalize q.dig 3 = way at *
      have e3 := q2.dig_lt (m := w + 1) (by omega)
      have e4 := (q2.nxt (w + 1)).dig_lt (m := w + 1) (by omega)
      have e5 := ((q2.nxt (w + 1)).nxt (w + 1)).dig_lt (m := 2) (by omega)
      obtain ⟨r, hr, hix⟩ : ∃ r, growR r ∧ idxD (.lst [.tup [tGather, .int 0, .int 0, .tup [.int (q2.dig (w + 1)), .int w, .int ((q2.nxt (w + 1)).dig (w + 1))], .int (((q2.nxt (w + 1)).nxt (w + 1)).dig 2)], .tup [tAdd, .int 0, .int 0, .int 0], .tup [tTimes, .int 0, .int 0, .int w]]) (.int way) = some r.enc := by
        have : way = 0 ∨ way = 1 ∨ way = 2 := by omega
        rcases this with rfl | rfl | rfl
        · exact ⟨.gather 0 0 (q2.dig (w + 1)) w ((q2.nxt (w + 1)).dig (w + 1)) (((q2.nxt (w + 1)).nxt (w + 1)).dig 2), .inl ⟨_, _, _, _, rfl, by omega, by omega, by omega, by omega⟩, rfl⟩
        · exact ⟨.add 0 0 0, .inr (.inl rfl), rfl⟩
        · exact ⟨.times 0 0 w, .inr (.inr ⟨w, rfl, by omega⟩), rfl⟩
      have fl : ∀ {ds : List D}, ds.length < 1000000 → fits ds.length = true := fun h => fits_lt h
      refine ⟨_, _, a1, jq_cons st1 (jq_cons (js_expr (je_meM (je_varL rfl) rfl rfl (jv_cons (je_idx (je_lst (jv_cons
        (je_tup (jv_cons je_lit (jv_cons je_lit (jv_cons je_lit (jv_cons (je_tup (jv_cons (call28 rfl rfl rfl (je_bin (je_var rfl) je_lit rfl rfl rfl) (by omega)) (jv_cons (je_var rfl) (jv_cons (call28 rfl rfl rfl (je_bin (je_var rfl) je_lit rfl rfl rfl) (by omega)) jv_nil))) rfl (fl (by simp only [List.length_cons, List.length_nil]; omega))) (jv_cons (call28 rfl rfl rfl je_lit (by omega)) jv_nil))))) rfl (fl (by simp only [List.length_cons, List.length_nil]; omega)))
        (jv_cons (je_tup (jv_cons je_lit (jv_cons je_lit (jv_cons je_lit (jv_cons je_lit jv_nil)))) rfl (fl (by simp only [List.length_cons, List.length_nil]; omega)))
        (jv_cons (je_tup (jv_cons je_lit (jv_cons je_lit (jv_cons je_lit (jv_cons (je_var rfl) jv_nil)))) rfl (fl (by simp only [List.length_cons, List.length_nil]; omega))) jv_nil))) rfl (fl (by simp only [List.length_cons, List.length_nil]; omega))) (je_var rfl) rfl rfl hix) jv_nil) rfl rfl rfl (append_ok hWl) rfl)) jq_nil), ⟨((q2.nxt (w + 1)).nxt (w + 1)).nxt 2, rest ++ [r], .va (.int j), .va (.int way), .va (.int w), by simp [hl], ?_, ?_, rfl, rfl, rfl⟩⟩
      · intro x hx
        rcases List.mem_append.mp hx with h | h
        · exact hg x h
        · obtain rfl := List.mem_singleton.mp h; exact hr
      · have : (Row.put 0 k :: (rest ++ [r])).map Row.enc = W ++ [r.enc] := by rw [← hW]; simp
        rw [this]; rfl)
  refine ⟨k, rest, q, ?_, ⟨by omega, by omega, hg⟩⟩
  apply fin_rt
  · exact st_nx s1 (st_nx f1 (st_rt (js_ret (je_tup (jv_cons je_lit (jv_cons je_lit (jv_cons (je_bi (jv_cons (je_varL rfl) jv_nil) rfl rfl) jv_nil))) rfl (fits_lt (by simp only [List.length_cons, List.length_nil]; omega))))))
  · rfl
  · rfl
abbrev drawn300 : List Game := List.replicate 300 ⟨0, 1, 1⟩
theorem sum_rep (k : Nat) (v : Int) : (List.replicate k v).sum = k * v := by
  induction k with
  | zero => simp
  | succ k ih => rw [List.replicate_succ, List.sum_cons, ih, show ((k + 1 : Nat) : Int) = (k : Int) + 1 by omega, Int.add_mul]; omega
theorem plys2 : plys 2 = [0, 1] := rfl
theorem max3_mid {a w b : Int} (h1 : a ≤ w) (h2 : b ≤ w) : max3 a w b = w := by
  unfold max3; split <;> split <;> omega
structure grown (pre : List Row) (j : Nat) (B : Int) : Prop where
  st : ∃ f, runS 2 1 drawn300 pre = ⟨[some f], [[0, 1]]⟩ ∧ f 0 = B ∧ f 1 = B
  bd : bdsAt pre 0 = B
  lo : 0 ≤ B
  hi : B ≤ 9 * 29700 ^ j
  last : ∃ bs, boundsL pre = bs ++ [some B]
  all : ∀ b, some b ∈ boundsL pre → b ≤ 9 * 29700 ^ j
theorem grow_step {pre : List Row} {j : Nat} {B B' : Int} {r : Row} (h : grown pre j B) (hto : r.to = some 0) (hB : r.bound (bdsAt pre) = B') (hc : ∀ f : Int → Int, f 0 = B → f 1 = B → colOf 2 drawn300 [[0, 1]] (cfOf [some f]) r 0 = B' ∧ colOf 2 drawn300 [[0, 1]] (cfOf [some f]) r 1 = B') (h0 : 0 ≤ B') (h1 : B' ≤ 29700 * B) : grown (pre ++ [r]) (j + 1) B' := by
  have hhi : B' ≤ 9 * 29700 ^ (j + 1) := by
    have := h.hi
    rw [Int.pow_succ]; omega
  have hlast : boundsL (pre ++ [r]) = boundsL pre ++ [some B'] := by
    rw [boundsL, boundsG_snoc]
    have : bo (pre.foldl stepB fun _ => 0) r = some B' := by unfold bo; rw [hto]; exact congrArg some hB
    rw [this]
  refine ⟨?_, ?_, h0, hhi, ⟨_, hlast⟩, ?_⟩
  · obtain ⟨f, hs, f0, f1⟩ := h.st
    refine ⟨colOf 2 drawn300 [[0, 1]] (cfOf [some f]) r, ?_, (hc f f0 f1).1, (hc f f0 f1).2⟩
    rw [runS_snoc, hs]
    unfold stepS
    rw [hto]
    rfl
  · rw [bdsAt_snoc]; unfold stepB; rw [hto]; simp [hB]
  · intro b hb
    rw [hlast, List.mem_append] at hb
    rcases hb with q | q
    · have := h.all b q
      have hp : (29700 : Int) ^ j ≤ 29700 ^ (j + 1) := by
        have : (0 : Int) ≤ 29700 ^ j := Int.pow_nonneg (by omega)
        rw [Int.pow_succ]; omega
      omega
    · have : b = B' := by simpa using q
      omega
theorem cf0 (f : Int → Int) : cfOf [some f] 0 = f := rfl
theorem grow_ok {k : Int} {rest : List Row} (h : growing k rest) : ∃ B, grown (.put 0 k :: rest) rest.length B := by
  refine pre_ind (P := fun pre => ∃ B, grown (.put 0 k :: pre) pre.length B) ⟨k, ?_⟩ ?_
  · have hk := h.k
    refine ⟨⟨fun _ => k, rfl, rfl, rfl⟩, rfl, by omega, by simp; omega, ⟨[], rfl⟩, ?_⟩
    intro b hb
    have : b = k := by simpa [boundsG, bo, Row.to, Row.bound] using hb
    simp; omega
  · rintro pre r post hr ⟨B, hB⟩
    have hlo := hB.lo
    have hbd := hB.bd
    rw [List.length_append, List.length_singleton, ← List.cons_append]
    rcases h.row r (mem_mid hr) with ⟨a, w, b, near, rfl, ha, hb, hw, hn⟩ | rfl | ⟨w, rfl, hw⟩
    · refine ⟨300 * w * B, grow_step hB rfl ?_ ?_ ?_ ?_⟩
      · show 300 * max3 a w b * bdsAt _ 0 = _
        rw [hbd, max3_mid ha.2 hb.2]
      · intro f f0 f1
        have hs : sameB [[0, 1]] 0 1 = true := by decide
        constructor
        · show gath 2 [[0, 1]] f a w b near drawn300 0 = _
          unfold gath drawn300
          rw [List.map_replicate, sum_rep]
          have : con 2 [[0, 1]] f a w b near ⟨0, 1, 1⟩ 0 = w * B := by simp [con, hs, wgt, f1]
          rw [this, Int.mul_assoc]; rfl
        · show gath 2 [[0, 1]] f a w b near drawn300 1 = _
          unfold gath drawn300
          rw [List.map_replicate, sum_rep]
          have : con 2 [[0, 1]] f a w b near ⟨0, 1, 1⟩ 1 = w * B := by simp [con, hs, wgt, f0]
          rw [this, Int.mul_assoc]; rfl
      · exact Int.mul_nonneg (by omega) hlo
      · exact Int.mul_le_mul_of_nonneg_right (by omega) hlo
    · refine ⟨B + B, grow_step hB rfl ?_ ?_ (by omega) (by omega)⟩
      · show bdsAt _ 0 + bdsAt _ 0 = _
        rw [hbd]
      · intro f f0 f1
        exact ⟨show f 0 + f 0 = _ by rw [f0], show f 1 + f 1 = _ by rw [f1]⟩
    · refine ⟨B * w, grow_step hB rfl ?_ ?_ (Int.mul_nonneg hlo (by omega)) ?_⟩
      · show bdsAt _ 0 * w = _
        rw [hbd]
      · intro f f0 f1
        exact ⟨show f 0 * w = _ by rw [f0], show f 1 * w = _ by rw [f1]⟩
      · rw [Int.mul_comm]; exact Int.mul_le_mul_of_nonneg_right (by omega) hlo
theorem grow_code {k : Int} {rest : List Row} (h : growing k rest) : okCode 1 (.put 0 k :: rest) := by
  obtain ⟨B, hB⟩ := grow_ok h
  have hk := h.k
  have hl := h.len
  refine ⟨⟨by simp; omega, ?_, ?_⟩, by omega, ?_⟩
  · intro r hr
    rcases List.mem_cons.mp hr with rfl | hr
    · exact ⟨by omega, by omega⟩
    · rcases h.row r hr with ⟨a, w, b, near, rfl, ha, hb, hw, hn⟩ | rfl | ⟨w, rfl, hw⟩
      · exact ⟨by omega, by omega, by omega, by omega, by omega, by omega⟩
      · exact ⟨by omega, by omega, by omega⟩
      · exact ⟨by omega, by omega, by omega⟩
  · intro pre x post he s hs
    cases pre with
    | nil =>
      obtain rfl : Row.put 0 k = x := by simpa using (List.cons.inj he).1
      simp [Row.reads] at hs
    | cons y pre =>
      have he1 := (List.cons.inj he).1
      have he2 : rest = pre ++ x :: post := (List.cons.inj he).2
      subst he1
      have : s = 0 := by
        rcases h.row x (mem_mid he2) with ⟨a, w, b, near, rfl, ha, hb, hw, hn⟩ | rfl | ⟨w, rfl, hw⟩ <;> simp [Row.reads] at hs <;> exact hs
      subst this
      simp [Row.to]
  · intro b hb
    have h1 := hB.all b hb
    have h2 : (29700 : Int) ^ rest.length ≤ 29700 ^ 3 := by
      have : rest.length = 0 ∨ rest.length = 1 ∨ rest.length = 2 ∨ rest.length = 3 := by omega
      rcases this with e | e | e | e <;> rw [e] <;> decide
    have h3 : (29700 : Int) ^ 3 = 26198073000000 := by decide
    omega
end DI.K77
end

section
set_option Elab.async false
set_option linter.all false
set_option maxRecDepth 100000
set_option pp.maxSteps 800
/-! k77: the plain law, part 20: reached_right. -/
namespace DI.K77
open PySem L2
theorem games300 (a b c : Int) : binD .Mult (.tup [.tup [.int a, .int b, .int c]]) (.int 300) = some (.va (gamesD (List.replicate 300 ⟨a, b, c⟩))) := by
  rw [mulN (by omega)]
  unfold gamesD
  rw [List.map_replicate]
  rfl
theorem call25 {F : CF} {n : Nat} (hF : F = evD tab (n + 8)) {m : Int} {rows : List Row} {M : Nat} {gs : List Game} {k : Nat} {env : Envi} {a b c : IE} (h : okCode m rows) (hm : 1 ≤ m) (hs : okSheet M gs) (hk : k ≤ rows.length)
    (ha : evE F a env = .ok (.va (codeD m rows), env)) (hb : evE F b env = .ok (.va (sheetD M gs), env)) (hc : evE F c env = .ok (.va (.int k), env)) :
    evE F (.call 25 (.cons a (.cons b (.cons c .nil)))) env = .ok (.va (stD M k (runS M m gs (rows.take k)).cs (runS M m gs (rows.take k)).lots), env) := by
  subst hF
  exact je_call (jv_cons ha (jv_cons hb (jv_cons hc jv_nil))) rfl rfl (state_behind_i n m rows M gs k h hm hs hk) rfl
theorem call13 {F : CF} {n : Nat} (hF : F = evD tab (n + 7)) {m : Int} {rows : List Row} {env : Envi} {a : IE} (h : okCode m rows) (ha : evE F a env = .ok (.va (codeD m rows), env)) :
    evE F (.call 13 (.cons a .nil)) env = .ok (.ol ((boundsL rows).map oD), env) := by
  subst hF
  exact je_call (jv_cons ha jv_nil) rfl rfl (bounds_of_i n m rows h) rfl
theorem ne_self {d : D} (h : lay 50 d = true) (hs : scalD d d = false) : cmpD .NotEq d d = some false := by
  show (eqO d d).map _ = _
  rw [eqO_self h hs]; rfl
theorem eq_self' {d : D} (h : lay 50 d = true) (hs : scalD d d = false) : cmpD .Eq d d = some true := eqO_self h hs
theorem lenT (xs : List D) : biD .len [.tup xs] = some (.va (.int xs.length)) := rfl
theorem law_reached_i (n : Nat) (p : Pot) : ∃ p' : Pot, evD tab (n + 9) 35 [.li true p.enc] = .ok (.va (.bl true), [.li true p'.enc]) := by
  rw [opn (T := tab) (f := 35) _ 1 6 b__law_reached_right rfl rfl]; unfold b__law_reached_right; simp only [List.replicate, List.cons_append, List.nil_append, List.singleton_append]
  obtain ⟨k, rest, p1, hgr, hg⟩ := law_growing_i (n + 6) p
  obtain ⟨B, hB⟩ := grow_ok hg
  have hcode := grow_code hg
  have hrl := hg.len
  have d1 := p1.dig_lt (m := 1000) (by omega)
  have d2 := (p1.nxt 1000).dig_lt (m := 3) (by omega)
  obtain ⟨num, hnum⟩ : ∃ x, 1 + p1.dig 1000 = x := ⟨_, rfl⟩
  obtain ⟨p2, hp2⟩ : ∃ x, (p1.nxt 1000).nxt 3 = x := ⟨_, rfl⟩
  have hsh : okSheet (2 : Nat) drawn300 := ⟨by omega, by simp, by
    intro g hg
    obtain ⟨_, rfl⟩ := List.mem_replicate.mp hg
    exact ⟨by dsimp only; omega, by dsimp only; omega, by simp⟩⟩
  obtain ⟨bs, hbs⟩ := hB.last
  have hbl : bs.length < 1000000 := by
    have := boundsG_len (fun _ => 0) (Row.put 0 k :: rest)
    have h2 := congrArg List.length hbs
    rw [List.length_append, List.length_singleton] at h2
    rw [boundsL, this, List.length_cons] at h2
    omega
  have hlast : idxD (.lst ((boundsL (Row.put 0 k :: rest)).map oD)) (.int (-1)) = some (.int B) := by
    rw [hbs, List.map_append]
    exact ix_last (bs.map oD) (.int B) (by rw [List.length_map]; exact hbl)
  obtain ⟨f, hst, f0, f1⟩ := hB.st
  have hBhi : B ≤ 1000000000000000000 := hcode.small B (by rw [hbs]; simp)
  have hBn : ¬ (1000000000000000000 : Int) < B := by omega
  generalize hrows : Row.put 0 k :: rest = rows at *
  have hcols : colsD 2 [some f] = .tup [.tup [.int B, .int B]] := by
    show D.tup [D.tup [.int (f 0), .int (f 1)]] = _
    rw [f0, f1]
  have s1 := js_par (F := evD tab (n + 8)) (env := [.li true p.enc, .un, .un, .un, .un, .un, .un]) (ks := [(1, false), (2, false)]) (jn_cons (je_call (f := 34) (jv_cons (je_varL (i := 0) rfl) jv_nil) rfl rfl hgr rfl) (jn_cons (je_bin (je_tup (jv_cons (e_tri (a := 0) (b := 1) (c := 1)) jv_nil) rfl (fits_lt (by simp only [List.length_cons, List.length_nil]; omega))) je_lit rfl rfl (games300 0 1 1)) jn_nil)) rfl
  have s2 := js_set (k := false) (i := 3) (call13 (n := n + 1) (F := evD tab (n + 8)) (env := [.li true p1.enc, .va (codeD 1 rows), .va (gamesD drawn300), .un, .un, .un, .un]) rfl hcode (je_var (i := 1) rfl)) rfl rfl
  have c25 := call25 (n := n) (F := evD tab (n + 8)) (env := [.li true p1.enc, .va (codeD 1 rows), .va (gamesD drawn300), .va (.lst ((boundsL rows).map oD)), .un, .un, .un]) (b := .tup (.cons (.lit (.int 2)) (.cons (.var 2) .nil))) (c := .bi .len (.cons (.idx (.var 1) (.lit (.int 2))) .nil)) (k := rows.length) rfl hcode (by omega) hsh (Nat.le_refl _) (je_var (i := 1) rfl)
    (je_tup (jv_cons je_lit (jv_cons (je_var rfl) jv_nil)) rfl (fits_lt (by simp only [List.length_cons, List.length_nil]; omega))) (je_bi (jv_cons (je_idx (je_var rfl) je_lit rfl rfl ix_2) jv_nil) rfl (by rw [lenT, List.length_map]))
  rw [List.take_length, hst] at c25
  have hne : cmpD .NotEq (colsD 2 [some f]) (.tup [.tup [.int B, .int B]]) = some false := by
    rw [hcols]; exact ne_self rfl rfl
  have s3 : evS (evD tab (n + 8)) (.ifs (.or (.e (.cmp .Gt (.idx (.var 3) (.neg (.lit (.int 1)))) (.bin .Pow (.lit (.int 10)) (.lit (.int 18))))) (.e (.cmp .NotEq (.idx (.call 25 (.cons (.var 1) (.cons (.tup (.cons (.lit (.int 2)) (.cons (.var 2) .nil))) (.cons (.bi .len (.cons (.idx (.var 1) (.lit (.int 2))) .nil)) .nil)))) (.lit (.int 1))) (.tup (.cons (.bin .Mult (.tup (.cons (.idx (.var 3) (.neg (.lit (.int 1)))) .nil)) (.lit (.int 2))) .nil))))) (.cons (.ret (.lit (.bl false))) .nil) .nil) [.li true p1.enc, .va (codeD 1 rows), .va (gamesD drawn300), .va (.lst ((boundsL rows).map oD)), .un, .un, .un] = .ok (.nx, [.li true p1.enc, .va (codeD 1 rows), .va (gamesD drawn300), .va (.lst ((boundsL rows).map oD)), .un, .un, .un]) := by
    refine if_f (jt_or (jt_e (je_cmp (je_idx (je_var rfl) (je_neg je_lit) rfl rfl hlast) (je_bin je_lit je_lit rfl rfl (jb_pow ⟨by omega, by omega, by decide⟩)) rfl rfl (show some (decide _) = some false by rw [decide_eq_false]; exact hBn)) rfl rfl) ?_) jq_nil
    refine jt_e (je_cmp (je_idx c25 je_lit rfl rfl ix_1) (je_tup (jv_cons (je_bin (je_tup (jv_cons (je_idx (je_var rfl) (je_neg je_lit) rfl rfl hlast) jv_nil) rfl (fits_lt (by simp only [List.length_cons, List.length_nil]; omega))) je_lit rfl rfl (mulN (by omega))) jv_nil) rfl (fits_lt (by simp only [List.length_cons, List.length_nil]; omega))) rfl rfl hne) rfl rfl
  have s4 : evS (evD tab (n + 8)) (.par [(4, false), (5, false)] (.cons (.bin .Add (.lit (.int 1)) (.call 28 (.cons (.var 0) (.cons (.lit (.int 1000)) .nil)))) (.cons (.call 28 (.cons (.var 0) (.cons (.lit (.int 3)) .nil))) .nil))) [.li true p1.enc, .va (codeD 1 rows), .va (gamesD drawn300), .va (.lst ((boundsL rows).map oD)), .un, .un, .un] = .ok (.nx, [.li true p2.enc, .va (codeD 1 rows), .va (gamesD drawn300), .va (.lst ((boundsL rows).map oD)), .va (.int num), .va (.int ((p1.nxt 1000).dig 3)), .un]) := by
    rw [← hp2, ← hnum]
    exact js_par (jn_cons (je_bin je_lit (call28 rfl rfl rfl je_lit (by omega)) rfl rfl rfl) (jn_cons (call28 rfl rfl rfl je_lit (by omega)) jn_nil)) rfl
  generalize (p1.nxt 1000).dig 3 = one at *
  have hcode2 : okCode 1 [.byes 0 num] := by
    refine ⟨⟨by simp, ?_, ?_⟩, by omega, ?_⟩
    · intro r hr
      obtain rfl := List.mem_singleton.mp hr
      exact ⟨by omega, by omega⟩
    · intro pre x post he s hs
      cases pre with
      | nil =>
        obtain rfl : Row.byes 0 num = x := (List.cons.inj he).1
        simp [Row.reads] at hs
      | cons y pre => simp at he
    · intro b hb
      have : b = 300 * num := by simpa [boundsG, bo, Row.to, Row.bound] using hb
      omega
  have hsh2 : okSheet (3 : Nat) (List.replicate 300 ⟨one, 3, 2⟩) := ⟨by omega, by simp, by
    intro g hg
    obtain ⟨_, rfl⟩ := List.mem_replicate.mp hg
    exact ⟨by dsimp only; omega, by dsimp only; omega, by simp⟩⟩
  have hcnt : ∀ q : Int, colOf 3 (List.replicate 300 ⟨one, 3, 2⟩) [plys 3] (cfOf (st0c 1)) (.byes 0 num) q = if q = one then 300 * num else 0 := by
    intro q
    show num * (((List.filter (fun g => decide (g.b = ((3 : Nat) : Int))) (List.replicate 300 (⟨one, 3, 2⟩ : Game))).map Game.a).count q : Nat) = _
    rw [List.filter_replicate_of_pos (by simp), List.map_replicate, List.count_replicate]
    by_cases hq : q = one
    · simp [hq]; omega
    · have : ¬ one = q := fun h => hq h.symm
      simp [hq, this]
  have hcol2 : colsD 3 (runS 3 1 (List.replicate 300 ⟨one, 3, 2⟩) [.byes 0 num]).cs = .tup [.tup [.int (if (0 : Int) = one then 300 * num else 0), .int (if (1 : Int) = one then 300 * num else 0), .int (if (2 : Int) = one then 300 * num else 0)]] := by
    rw [← hcnt 0, ← hcnt 1, ← hcnt 2]; rfl
  have hput : putS (.li false [.int 0, .int 0, .int 0]) (.int one) (.int (300 * num)) = some (.li false [.int (if (0 : Int) = one then 300 * num else 0), .int (if (1 : Int) = one then 300 * num else 0), .int (if (2 : Int) = one then 300 * num else 0)]) := by
    have : one = 0 ∨ one = 1 ∨ one = 2 := by omega
    rcases this with rfl | rfl | rfl <;> rfl
  generalize (if (0 : Int) = one then 300 * num else 0) = x0 at *
  generalize (if (1 : Int) = one then 300 * num else 0) = x1 at *
  generalize (if (2 : Int) = one then 300 * num else 0) = x2 at *
  have hb2 : (boundsL [Row.byes 0 num]).map oD = [.int (300 * num)] := rfl
  have c25b := call25 (n := n) (F := evD tab (n + 8)) (env := [.li true p2.enc, .va (codeD 1 [.byes 0 num]), .va (gamesD drawn300), .va (.lst ((boundsL rows).map oD)), .va (.int num), .va (.int one), .li false [.int x0, .int x1, .int x2]]) (b := .tup (.cons (.lit (.int 3)) (.cons (.bin .Mult (.tup (.cons (.tup (.cons (.var 5) (.cons (.lit (.int 3)) (.cons (.lit (.int 2)) .nil)))) .nil)) (.lit (.int 300))) .nil))) (c := .lit (.int 1)) (k := 1) rfl hcode2 (by omega) hsh2 (Nat.le_refl _) (je_var (i := 1) rfl)
    (je_tup (jv_cons je_lit (jv_cons (je_bin (je_tup (jv_cons (je_tup (jv_cons (je_var rfl) (jv_cons je_lit (jv_cons je_lit jv_nil))) rfl (fits_lt (by simp only [List.length_cons, List.length_nil]; omega))) jv_nil) rfl (fits_lt (by simp only [List.length_cons, List.length_nil]; omega))) je_lit rfl rfl (games300 one 3 2)) jv_nil)) rfl (fits_lt (by simp only [List.length_cons, List.length_nil]; omega))) je_lit
  have htk : List.take 1 [Row.byes 0 num] = [Row.byes 0 num] := rfl
  rw [htk] at c25b
  have hcl := call13 (n := n + 1) (F := evD tab (n + 8)) (env := [.li true p2.enc, .va (codeD 1 [.byes 0 num]), .va (gamesD drawn300), .va (.lst ((boundsL rows).map oD)), .va (.int num), .va (.int one), .li false [.int x0, .int x1, .int x2]]) (a := .var 1) rfl hcode2 (je_var rfl)
  rw [hb2] at hcl
  generalize hS : runS 3 1 (List.replicate 300 ⟨one, 3, 2⟩) [.byes 0 num] = S9 at *
  have heq : cmpD .Eq (colsD 3 S9.cs) (.tup [.tup [.int x0, .int x1, .int x2]]) = some true := by
    rw [hcol2]; exact eq_self' rfl rfl
  refine ⟨p2, ?_⟩
  apply fin_rt
  · refine st_nx s1 (st_nx s2 (st_nx s3 (st_nx s4 (st_nx (js_set (e2 := [.li true p2.enc, .va (codeD 1 [.byes 0 num]), .va (gamesD drawn300), .va (.lst ((boundsL rows).map oD)), .va (.int num), .va (.int one), .un]) (je_tup (jv_cons je_lit (jv_cons je_lit (jv_cons (je_tup (jv_cons (je_tup (jv_cons je_lit (jv_cons je_lit (jv_cons (je_var rfl) jv_nil))) rfl (fits_lt (by simp only [List.length_cons, List.length_nil]; omega))) jv_nil) rfl (fits_lt (by simp only [List.length_cons, List.length_nil]; omega))) jv_nil))) rfl (fits_lt (by simp only [List.length_cons, List.length_nil]; omega))) rfl rfl) (st_nx (js_set (je_lst (jv_cons je_lit (jv_cons je_lit (jv_cons je_lit jv_nil))) rfl (fits_lt (by simp only [List.length_cons, List.length_nil]; omega))) rfl rfl) (st_nx (js_asg (d := .int (300 * num)) (je_bin je_lit (je_var rfl) rfl rfl (jb_mul (.inl (by omega)))) rfl (asg_sub (je_varL rfl) (je_var rfl) rfl rfl hput)) ?_))))))
    refine st_rt (js_ret (je_and (je_cmp hcl (je_lst (jv_cons (je_bin je_lit (je_var rfl) rfl rfl (jb_mul (.inl (by omega)))) jv_nil) rfl (fits_lt (by simp only [List.length_cons, List.length_nil]; omega))) rfl rfl (eq_self' rfl rfl)) (je_cmp (je_idx c25b je_lit rfl rfl ix_1) (je_tup (jv_cons (je_bi (jv_cons (je_varL rfl) jv_nil) rfl rfl) jv_nil) rfl (fits_lt (by simp only [List.length_cons, List.length_nil]; omega))) rfl rfl heq)))
  · rfl
  · rfl
end DI.K77
end

section
set_option Elab.async false
set_option linter.all false
set_option maxRecDepth 100000
set_option pp.maxSteps 800
/-! k77: the plain law, part 21: bounds that are kept. -/
namespace DI.K77
open PySem L2
theorem cf_set {cs : List (Option (Int → Int))} {x c : Int} {f : Int → Int} (h : 0 ≤ x ∧ x < cs.length) (hc : 0 ≤ c) : cfOf (cs.set x.toNat (some f)) c = if c = x then f else cfOf cs c := by
  unfold cfOf
  by_cases e : c = x
  · subst e; rw [if_pos rfl, List.getElem?_set_self (by omega)]
  · rw [if_neg e, List.getElem?_set_ne (by omega)]
theorem sum_le {l : List Int} {K : Int} (h : ∀ x ∈ l, 0 ≤ x ∧ x ≤ K) : 0 ≤ l.sum ∧ l.sum ≤ l.length * K := by
  induction l with
  | nil => simp
  | cons y l ih =>
    have h1 := h y (List.mem_cons_self ..)
    have h2 := ih fun x hx => h x (List.mem_cons_of_mem _ hx)
    rw [List.sum_cons, List.length_cons, show ((l.length + 1 : Nat) : Int) = (l.length : Int) + 1 by omega, Int.add_mul]
    omega
theorem wgt_max {w0 w1 w2 t : Int} : wgt w0 w1 w2 t ≤ max3 w0 w1 w2 := by
  unfold wgt max3
  split
  · split <;> split <;> omega
  · split <;> split <;> split <;> omega
theorem con_le {M : Nat} {lots : List (List Int)} {col : Int → Int} {w0 w1 w2 near K : Int} {g : Game} (hg : okGame M g) (h0 : 0 ≤ w0 ∧ w0 ≤ 99) (h1 : 0 ≤ w1 ∧ w1 ≤ 99) (h2 : 0 ≤ w2 ∧ w2 ≤ 99) (hc : ∀ p : Int, 0 ≤ p ∧ p < M → 0 ≤ col p ∧ col p ≤ K) (hK : 0 ≤ K) (p : Int) : 0 ≤ con M lots col w0 w1 w2 near g p ∧ con M lots col w0 w1 w2 near g p ≤ max3 w0 w1 w2 * K := by
  have hm := (max3_le h0 h1 h2).1
  have hmK : 0 ≤ max3 w0 w1 w2 * K := Int.mul_nonneg hm hK
  have key : ∀ t q : Int, 0 ≤ q ∧ q < M → 0 ≤ wgt w0 w1 w2 t * col q ∧ wgt w0 w1 w2 t * col q ≤ max3 w0 w1 w2 * K := by
    intro t q hq
    have hw := (wgt_b t h0 h1 h2).1
    have hcq := hc q hq
    refine ⟨Int.mul_nonneg hw hcq.1, ?_⟩
    exact Int.le_trans (Int.mul_le_mul_of_nonneg_right wgt_max hcq.1) (Int.mul_le_mul_of_nonneg_left hcq.2 hm)
  obtain ⟨⟨b1, b2⟩, ⟨a1, a2⟩, ht⟩ := hg
  unfold con
  split
  · next h =>
    have k1 := key (2 - g.t) g.b ⟨by omega, h.1⟩
    have k2 := key g.t g.a ⟨by omega, by omega⟩
    by_cases pa : p = g.a
    · rw [if_pos pa, if_neg (by omega)]; omega
    · rw [if_neg pa]
      by_cases pb : p = g.b
      · rw [if_pos pb]; omega
      · rw [if_neg pb]; omega
  · exact ⟨Int.le_refl _, hmK⟩
def keptAt (M : Nat) (m : Int) (gs : List Game) (pre : List Row) : Prop := ∀ c, some c ∈ pre.map Row.to → 0 ≤ bdsAt pre c ∧ ∀ p : Int, 0 ≤ p ∧ p < M → 0 ≤ cfOf (runS M m gs pre).cs c p ∧ cfOf (runS M m gs pre).cs c p ≤ bdsAt pre c
theorem kept_all {M : Nat} {m : Int} {gs : List Game} {rows : List Row} (h : okRows m rows) (hs : okSheet M gs) : ∀ pre post, rows = pre ++ post → keptAt M m gs pre := by
  refine pre_all (P := keptAt M m gs) (by intro c hc; simp at hc) ?_
  intro pre r post hr ih c hc
  have hst := run_ok (gs := gs) (M := M) (m := m) (rows := pre) (fun x hx => h.row x (by rw [hr]; exact List.mem_append_left _ hx))
  have hok := h.row r (mem_mid hr)
  rw [runS_snoc, bdsAt_snoc]
  cases hto : r.to with
  | none =>
    have hc' : some c ∈ pre.map Row.to := by simpa [hto] using hc
    have hstep : (stepS M gs (runS M m gs pre) r).cs = (runS M m gs pre).cs := by
      unfold stepS; rw [hto]; cases r <;> rfl
    rw [hstep]
    unfold stepB
    rw [hto]
    exact ih c hc'
  | some x =>
    have hx := Row.to_lt hok hto
    have hlen := hst.len
    have hc0 : 0 ≤ c := by
      obtain ⟨y, hy, hyc⟩ := List.mem_map.mp hc
      have : y ∈ rows := by
        rw [hr]
        rcases List.mem_append.mp hy with q | q
        · exact List.mem_append_left _ q
        · obtain rfl := List.mem_singleton.mp q; simp
      exact (Row.to_lt (h.row y this) hyc).1
    have hstep : (stepS M gs (runS M m gs pre) r).cs = (runS M m gs pre).cs.set x.toNat (some (colOf M gs (runS M m gs pre).lots (cfOf (runS M m gs pre).cs) r)) := by
      unfold stepS; rw [hto]
    rw [hstep, cf_set ⟨hx.1, by omega⟩ hc0]
    unfold stepB
    rw [hto]
    by_cases hcx : c = x
    · simp only [hcx, if_true]
      have hrd : ∀ s ∈ r.reads, 0 ≤ bdsAt pre s ∧ ∀ p : Int, 0 ≤ p ∧ p < M → 0 ≤ cfOf (runS M m gs pre).cs s p ∧ cfOf (runS M m gs pre).cs s p ≤ bdsAt pre s := fun s hs => ih s (h.wb pre r post hr s hs)
      generalize cfOf (runS M m gs pre).cs = cf at *
      generalize (runS M m gs pre).lots = lots at *
      generalize bdsAt pre = bd at *
      have hgl := hs.len
      cases r with
      | put c k => exact ⟨hok.2.1, fun p _ => ⟨hok.2.1, Int.le_refl _⟩⟩
      | byes c k =>
        have hk := hok.2.1
        refine ⟨by show 0 ≤ 300 * k; omega, fun p _ => ?_⟩
        show 0 ≤ k * _ ∧ k * _ ≤ 300 * k
        have hcnt : ((gs.filter fun g : Game => decide (g.b = (M : Int))).map Game.a).count p ≤ 300 := by
          refine Nat.le_trans List.count_le_length ?_
          rw [List.length_map]
          exact Nat.le_trans (List.length_filter_le _ _) hgl
        refine ⟨Int.mul_nonneg hk (by omega), ?_⟩
        rw [Int.mul_comm 300 k]
        exact Int.mul_le_mul_of_nonneg_left (by omega) hk
      | gather c s w0 w1 w2 near =>
        obtain ⟨g1, g2, g3, g4, g5, g6⟩ := hok
        have hb := hrd s (by simp [Row.reads])
        have hm := max3_le g3 g4 g5
        have hmK : 0 ≤ max3 w0 w1 w2 * bd s := Int.mul_nonneg hm.1 hb.1
        have e : (Row.gather c s w0 w1 w2 near).bound bd = 300 * (max3 w0 w1 w2 * bd s) := Int.mul_assoc _ _ _
        rw [e]
        refine ⟨by omega, fun p _ => ?_⟩
        show 0 ≤ gath M lots (cf s) w0 w1 w2 near gs p ∧ gath M lots (cf s) w0 w1 w2 near gs p ≤ _
        unfold gath
        have := sum_le (l := gs.map fun g => con M lots (cf s) w0 w1 w2 near g p) (K := max3 w0 w1 w2 * bd s) (by
          intro v hv
          obtain ⟨g, hg, rfl⟩ := List.mem_map.mp hv
          exact con_le (hs.game g hg) g3 g4 g5 hb.2 hb.1 p)
        rw [List.length_map] at this
        refine ⟨this.1, Int.le_trans this.2 ?_⟩
        exact Int.mul_le_mul_of_nonneg_right (by omega) hmK
      | add c s t =>
        have h1 := hrd s (by simp [Row.reads])
        have h2 := hrd t (by simp [Row.reads])
        refine ⟨by show 0 ≤ bd s + bd t; omega, fun p hp => ?_⟩
        have q1 := h1.2 p hp
        have q2 := h2.2 p hp
        show 0 ≤ cf s p + cf t p ∧ cf s p + cf t p ≤ bd s + bd t
        omega
      | times c s k =>
        have h1 := hrd s (by simp [Row.reads])
        have hk := hok.2.2.1
        refine ⟨Int.mul_nonneg h1.1 hk, fun p hp => ?_⟩
        have q1 := h1.2 p hp
        exact ⟨Int.mul_nonneg q1.1 hk, Int.mul_le_mul_of_nonneg_right q1.2 hk⟩
      | part s => simp [Row.to] at hto
    · simp only [hcx, if_false]
      exact ih c (by simpa [hto, hcx] using hc)
end DI.K77
end

section
set_option Elab.async false
set_option linter.all false
set_option maxRecDepth 100000
set_option pp.maxSteps 800
/-! k77: the plain law, part 22: kept_right. -/
namespace DI.K77
open PySem L2
def ekv (q : Int × Int) : Key × D := (.inl q.1, .int q.2)
theorem pairs_ekv : ∀ ps : List (Int × Int), pairsI (ps.map ekv) = some ps
  | [] => rfl
  | q :: ps => by
    show (pairsI (ps.map ekv)).map _ = _
    rw [pairs_ekv ps]; rfl
def pput (ps : List (Int × Int)) (c b : Int) : List (Int × Int) := if (ps.any fun q => decide (q.1 = c)) = true then ps.map (fun q => if q.1 = c then (q.1, b) else q) else ps ++ [(c, b)]
theorem kput_ekv (ps : List (Int × Int)) (c b : Int) : kput (ps.map ekv) (.inl c) (.int b) = (pput ps c b).map ekv := by
  unfold kput pput
  have h : ((ps.map ekv).any fun p => decide (p.1 = .inl c)) = ps.any fun q => decide (q.1 = c) := by
    rw [List.any_map]
    congr 1
    funext q
    simp [ekv]
  rw [h]
  split
  · rw [List.map_map, List.map_map]
    apply List.map_congr_left
    intro q _
    by_cases e : q.1 = c
    · simp [ekv, e]
    · simp [ekv, e]
  · rw [List.map_append]; rfl
theorem pput_mem {ps : List (Int × Int)} {c b : Int} {q : Int × Int} (h : q ∈ pput ps c b) : q = (c, b) ∨ (q ∈ ps ∧ q.1 ≠ c) := by
  unfold pput at h
  split at h
  · obtain ⟨x, hx, rfl⟩ := List.mem_map.mp h
    by_cases e : x.1 = c
    · left; simp [e]
    · right; rw [if_neg e]; exact ⟨hx, e⟩
  · next hn =>
    rcases List.mem_append.mp h with q1 | q1
    · right
      refine ⟨q1, fun e => hn ?_⟩
      rw [List.any_eq_true]
      exact ⟨q, q1, by simp [e]⟩
    · left; exact List.mem_singleton.mp q1
theorem pput_len (ps : List (Int × Int)) (c b : Int) : (pput ps c b).length ≤ ps.length + 1 := by
  unfold pput
  split <;> simp
def pinv (pre : List Row) (ps : List (Int × Int)) : Prop := ∀ q ∈ ps, some q.1 ∈ pre.map Row.to ∧ q.2 = bdsAt pre q.1
theorem pinv_none {pre : List Row} {ps : List (Int × Int)} {r : Row} (h : pinv pre ps) (hto : r.to = none) : pinv (pre ++ [r]) ps := by
  intro q hq
  obtain ⟨h1, h2⟩ := h q hq
  refine ⟨by simp only [List.map_append, List.mem_append]; exact .inl h1, ?_⟩
  rw [bdsAt_snoc]; unfold stepB; rw [hto]; exact h2
theorem pinv_some {pre : List Row} {ps : List (Int × Int)} {r : Row} {c : Int} (h : pinv pre ps) (hto : r.to = some c) : pinv (pre ++ [r]) (pput ps c (r.bound (bdsAt pre))) := by
  intro q hq
  rw [bdsAt_snoc]; unfold stepB; rw [hto]
  rcases pput_mem hq with rfl | ⟨hq, hne⟩
  · simp [hto]
  · obtain ⟨h1, h2⟩ := h q hq
    refine ⟨by simp only [List.map_append, List.mem_append]; exact .inl h1, ?_⟩
    simp only [hne, if_false]; exact h2
theorem boundsG_app : ∀ (bd : Int → Int) (a b : List Row), boundsG bd (a ++ b) = boundsG bd a ++ boundsG (a.foldl stepB bd) b
  | _, [], _ => rfl
  | bd, x :: a, b => by rw [List.cons_append, boundsG, boundsG, boundsG_app, List.cons_append]; rfl
theorem bounds_at {rows : List Row} {pre post : List (Option Int)} {x : Option Int} (h : boundsL rows = pre ++ x :: post) : ∃ (a b : List Row) (r : Row), rows = a ++ r :: b ∧ a.length = pre.length ∧ x = bo (bdsAt a) r := by
  have hl : pre.length < rows.length := by
    have := congrArg List.length h
    rw [boundsL, boundsG_len, List.length_append, List.length_cons] at this; omega
  have hr : rows = rows.take pre.length ++ rows[pre.length] :: rows.drop (pre.length + 1) := by rw [List.getElem_cons_drop, List.take_append_drop]
  refine ⟨_, _, _, hr, by rw [List.length_take]; omega, ?_⟩
  rw [hr, boundsL, boundsG_app, boundsG] at h
  have h2 := (List.append_inj h (by rw [boundsG_len, List.length_take]; omega)).2
  exact (List.cons.inj h2).1.symm
theorem psort_mem {ps : List (Int × Int)} {q : Int × Int} : q ∈ psort ps ↔ q ∈ ps := (psort_ok ps).1.mem_iff
theorem law_kept_i (n : Nat) (m : Int) (rows : List Row) (M : Nat) (gs : List Game) (h : okCode m rows) (hm : 1 ≤ m) (hs : okSheet M gs) :
    evD tab (n + 9) 36 [.va (codeD m rows), .va (sheetD M gs)] = .ok (.va (.bl true), [.un, .un]) := by
  have hM : (M : Int) ≤ 16 := hs.mm.2
  have hM1 : M ≤ 16 := by omega
  have hlen := h.base.len
  have hkept := kept_all (M := M) (gs := gs) h.base hs
  rw [opn (T := tab) (f := 36) _ 2 7 b__law_kept_right rfl rfl]; unfold b__law_kept_right; simp only [List.replicate, List.cons_append, List.nil_append, List.singleton_append]
  have s1 := js_set (F := evD tab (n + 8)) (env := [.va (codeD m rows), .va (sheetD M gs), .un, .un, .un, .un, .un, .un, .un]) (k := true) (i := 2) (a := .dnew) rfl rfl rfl
  obtain ⟨env, f1, ps, s3, s4, s5, s6, s7, -, -, rfl, -, -, -, -, -⟩ := for_evI (F := evD tab (n + 8)) (t := .tup (.cons (.nm 3) (.cons (.nm 4) .nil))) (it := (.enum (.call 13 (.cons (.var 0) .nil)))) (b := (.cons (.ifs (.e (.isN true (.var 4))) (.cons (.asg (.sub (.var 2) (.idx (.idx (.idx (.var 0) (.lit (.int 2))) (.var 3)) (.lit (.int 1)))) (.var 4)) .nil) .nil) (.cons (.set 5 false (.idx (.call 25 (.cons (.var 0) (.cons (.var 1) (.cons (.bin .Add (.var 3) (.lit (.int 1))) .nil)))) (.lit (.int 1)))) (.cons (.for (.tup (.cons (.nm 6) (.cons (.nm 7) .nil))) (.seq (.sit (.var 2))) (.cons (.ifs (.or (.e (.isN false (.idx (.var 5) (.var 6)))) (.not (.e (.bi .all (.cons (.comp (.chn .LtE .LtE (.lit (.int 0)) (.var 8) (.var 7)) (.nm 8) (.seq (.idx (.var 5) (.var 6))) .no [("one", 8)]) .nil))))) (.cons (.ret (.lit (.bl false))) .nil) .nil) .nil)) .nil)))) (env := [.va (codeD m rows), .va (sheetD M gs), .di false [], .un, .un, .un, .un, .un, .un]) (fun i b => .tup [.int i, oD b])
    (fun pre env => ∃ (ps : List (Int × Int)) (s3 s4 s5 s6 s7 : Sl), pinv (rows.take pre.length) ps ∧ ps.length ≤ pre.length ∧ env = [.va (codeD m rows), .va (sheetD M gs), .di false (ps.map ekv), s3, s4, s5, s6, s7, .un] ∧ s3.bor = false ∧ s4.bor = false ∧ s5.bor = false ∧ s6.bor = false ∧ s7.bor = false) (xs := boundsL rows)
    (jw_enum (call13 (n := n + 1) rfl h (je_var rfl)) rfl rfl) (enumL_map oD 0 (boundsL rows)) ⟨[], .un, .un, .un, .un, .un, by intro q hq; simp at hq, by simp, rfl, rfl, rfl, rfl, rfl, rfl⟩ (by
      rintro pre x post env he ⟨ps, s3, s4, s5, s6, s7, hp, hpl, rfl, b3, b4, b5, b6, b7⟩
      obtain ⟨a, b, r, hr, hal, hx⟩ := bounds_at he
      have hat : rows.take pre.length = a := by rw [hr, ← hal, List.take_left]
      have hlt : pre.length < rows.length := by rw [hr, ← hal]; simp
      rw [hat] at hp
      have hat2 : rows.take (pre ++ [x]).length = a ++ [r] := by
        rw [List.length_append, List.length_singleton, hr, ← hal]
        rw [show a ++ r :: b = (a ++ [r]) ++ b by simp, show a.length + 1 = (a ++ [r]).length by simp, List.take_left]
      have hrow : idxD (rowsD rows) (.int pre.length) = some r.enc := by
        rw [ix_nth (by rw [List.length_map]; exact hlt), List.getElem?_map, hr, ← hal]
        simp
      have hok := h.base.row r (mem_mid hr)
      have a1 : asgT (evD tab (n + 8)) (.tup (.cons (.nm 3) (.cons (.nm 4) .nil))) (.tup [.int pre.length, oD x]) [.va (codeD m rows), .va (sheetD M gs), .di false (ps.map ekv), s3, s4, s5, s6, s7, .un] = .ok [.va (codeD m rows), .va (sheetD M gs), .di false (ps.map ekv), .va (.int pre.length), .va (oD x), s5, s6, s7, .un] := by
        simp [asgT, asgTs, sto, bor, b3, b4]
      have hph : ∃ ps2 : List (Int × Int), pinv (a ++ [r]) ps2 ∧ ps2.length ≤ pre.length + 1 ∧ evS (evD tab (n + 8)) (.ifs (.e (.isN true (.var 4))) (.cons (.asg (.sub (.var 2) (.idx (.idx (.idx (.var 0) (.lit (.int 2))) (.var 3)) (.lit (.int 1)))) (.var 4)) .nil) .nil) [.va (codeD m rows), .va (sheetD M gs), .di false (ps.map ekv), .va (.int pre.length), .va (oD x), s5, s6, s7, .un] = .ok (.nx, [.va (codeD m rows), .va (sheetD M gs), .di false (ps2.map ekv), .va (.int pre.length), .va (oD x), s5, s6, s7, .un]) := by
        rcases r.shape with ⟨s, rfl⟩ | ⟨c, tag, rest, hto, henc, htag, hnp⟩
        · have hx' : x = none := by rw [hx]; rfl
          subst hx'
          exact ⟨ps, pinv_none hp rfl, by omega, if_f (jt_e (je_isN (je_var rfl)) rfl rfl) jq_nil⟩
        · have hx' : x = some (r.bound (bdsAt a)) := by rw [hx]; unfold bo; rw [hto]
          subst hx'
          have hpu := pput_len ps c (r.bound (bdsAt a))
          refine ⟨pput ps c (r.bound (bdsAt a)), pinv_some hp hto, by omega, if_t (jt_e (je_isO (je_var rfl) (by simp [oD])) rfl rfl) ?_⟩
          rw [henc] at hrow
          rw [← kput_ekv]
          exact jq_cons (js_asg (je_var rfl) rfl (asg_sub (je_varD rfl) (je_idx (je_idx (je_idx (je_var rfl) je_lit rfl rfl ix_2) (je_var rfl) rfl rfl hrow) je_lit rfl rfl ix_1) rfl rfl (put_di (by rw [List.length_map]; omega)))) jq_nil
      obtain ⟨ps2, hp2, hpl2, st1⟩ := hph
      have hadd : binD .Add (.int pre.length) (.int 1) = some (.va (.int ((pre.length + 1 : Nat) : Int))) := rfl
      have st2 := js_set (k := false) (i := 5) (e2 := [.va (codeD m rows), .va (sheetD M gs), .di false (ps2.map ekv), .va (.int pre.length), .va (oD x), .va (colsD M (runS M m gs (rows.take (pre.length + 1))).cs), s6, s7, .un]) (je_idx (call25 (n := n) (F := evD tab (n + 8)) (env := [.va (codeD m rows), .va (sheetD M gs), .di false (ps2.map ekv), .va (.int pre.length), .va (oD x), s5, s6, s7, .un]) (a := .var 0) (b := .var 1) (c := .bin .Add (.var 3) (.lit (.int 1))) (k := pre.length + 1) rfl h hm hs (by omega) (je_var rfl) (je_var rfl) (je_bin (je_var rfl) je_lit rfl rfl hadd)) je_lit rfl rfl ix_1) rfl (by simp [sto, bor, b5])
      have hat3 : rows.take (pre.length + 1) = a ++ [r] := by rw [← hat2, List.length_append, List.length_singleton]
      rw [hat3] at st2
      have hr2 : rows = (a ++ [r]) ++ b := by rw [hr]; simp
      have hk := hkept (a ++ [r]) b hr2
      unfold keptAt at hk
      have hst := run_ok (gs := gs) (M := M) (m := m) (rows := a ++ [r]) (fun y hy => h.base.row y (by rw [hr2]; exact List.mem_append_left _ hy))
      generalize runS M m gs (a ++ [r]) = S9 at *
      obtain ⟨env, g1, t6, t7, rfl, c6, c7⟩ := for_evI (F := evD tab (n + 8)) (t := .tup (.cons (.nm 6) (.cons (.nm 7) .nil))) (it := (.seq (.sit (.var 2)))) (b := (.cons (.ifs (.or (.e (.isN false (.idx (.var 5) (.var 6)))) (.not (.e (.bi .all (.cons (.comp (.chn .LtE .LtE (.lit (.int 0)) (.var 8) (.var 7)) (.nm 8) (.seq (.idx (.var 5) (.var 6))) .no [("one", 8)]) .nil))))) (.cons (.ret (.lit (.bl false))) .nil) .nil) .nil)) (env := [.va (codeD m rows), .va (sheetD M gs), .di false (ps2.map ekv), .va (.int pre.length), .va (oD x), .va (colsD M S9.cs), s6, s7, .un]) (fun _ q => .tup [.int q.1, .int q.2])
        (fun _ env => ∃ s6 s7 : Sl, env = [.va (codeD m rows), .va (sheetD M gs), .di false (ps2.map ekv), .va (.int pre.length), .va (oD x), .va (colsD M S9.cs), s6, s7, .un] ∧ s6.bor = false ∧ s7.bor = false) (xs := psort ps2)
        (jw_seq (je_sit (je_varD rfl) rfl (pairs_ekv ps2) (by omega)) rfl rfl) (idm_map _ 0 _) ⟨s6, s7, rfl, b6, b7⟩ (by
          rintro ipre ⟨c, v⟩ ipost env hie ⟨s6, s7, rfl, b6, b7⟩
          obtain ⟨hc, hv⟩ := hp2 (c, v) (psort_mem.mp (mem_mid hie))
          dsimp only at hc hv
          have hset := hst.set c hc
          have hi := ix_cols (M := M) hset
          have hkc := (hk c hc).2
          rw [← hv] at hkc
          have a2 : asgT (evD tab (n + 8)) (.tup (.cons (.nm 6) (.cons (.nm 7) .nil))) (.tup [.int c, .int v]) [.va (codeD m rows), .va (sheetD M gs), .di false (ps2.map ekv), .va (.int pre.length), .va (oD x), .va (colsD M S9.cs), s6, s7, .un] = .ok [.va (codeD m rows), .va (sheetD M gs), .di false (ps2.map ekv), .va (.int pre.length), .va (oD x), .va (colsD M S9.cs), .va (.int c), .va (.int v), .un] := by
            simp [asgT, asgTs, sto, bor, b6, b7]
          have cc := comp_evY (F := evD tab (n + 8)) (a := (.chn .LtE .LtE (.lit (.int 0)) (.var 8) (.var 7))) (tg := .nm 8) (it := .seq (.idx (.var 5) (.var 6))) (own := [("one", 8)]) (env := [.va (codeD m rows), .va (sheetD M gs), .di false (ps2.map ekv), .va (.int pre.length), .va (oD x), .va (colsD M S9.cs), .va (.int c), .va (.int v), .un]) (xs := plys M) (fun p => .int (cfOf S9.cs c p)) (fun _ => .bl true)
            (jw_seq (je_idx (je_var rfl) (je_var rfl) rfl rfl hi) rfl rfl) rfl rfl (plys_small hM1) (by
              intro p hp
              have := hkc p (mem_plys.mp hp)
              refine ⟨[.va (codeD m rows), .va (sheetD M gs), .di false (ps2.map ekv), .va (.int pre.length), .va (oD x), .va (colsD M S9.cs), .va (.int c), .va (.int v), .va (.int (cfOf S9.cs c p))], _, rfl, rfl, rfl, je_chn je_lit (je_var rfl) (show some (decide _) = some true by rw [decide_eq_true]; exact this.1) (je_var rfl) (show some (decide _) = some true by rw [decide_eq_true]; exact this.2), rfl⟩) rfl
          refine ⟨_, _, a2, jq_cons (if_f (jt_or (jt_e (je_isO (je_idx (je_var rfl) (je_var rfl) rfl rfl hi) (by simp)) rfl rfl) (jt_not (jt_e (je_bi (jv_cons cc jv_nil) rfl (bi_all (plys M))) rfl rfl))) jq_nil) jq_nil, ⟨_, _, rfl, rfl, rfl⟩⟩)
      refine ⟨_, _, a1, jq_cons st1 (jq_cons st2 (jq_cons g1 jq_nil)), ⟨ps2, .va (.int pre.length), .va (oD x), .va (colsD M S9.cs), t6, t7, by rw [hat2]; exact hp2, by simp; omega, rfl, rfl, rfl, rfl, c6, c7⟩⟩)
  apply fin_rt
  · exact st_nx s1 (st_nx f1 (st_rt (js_ret je_lit)))
  · rfl
  · rfl
end DI.K77
end

section
set_option Elab.async false
set_option linter.all false
set_option maxRecDepth 100000
set_option pp.maxSteps 800
/-! k77: the plain law, part 23: what a state's text is like; games in another sequence. -/
namespace DI.K77
open PySem L2
theorem piled_le {ts : List Str} {K : Nat} (h : ∀ t ∈ ts, t.length ≤ K) : piled ts ≤ ts.length * (K + 2) := by
  induction ts with
  | nil => simp [piled]
  | cons t ts ih =>
    have h1 := h t (List.mem_cons_self ..)
    have h2 := ih fun x hx => h x (List.mem_cons_of_mem _ hx)
    have e : piled (t :: ts) = t.length + 2 + piled ts := by simp [piled]
    rw [e, List.length_cons, Nat.add_mul]
    omega
theorem tupleText_le {ts : List Str} {K : Nat} (h : ∀ t ∈ ts, t.length ≤ K) : (tupleText ts).length ≤ ts.length * (K + 2) + 2 := by
  have h1 := piled_le h
  unfold tupleText
  rw [strLen_append, strLen_append]
  have e1 : (("(" : String) : Str).length = 1 := rfl
  have e2 : ((if ts.length == 1 then ",)" else ")" : String) : Str).length ≤ 2 := by split <;> decide
  by_cases hn : ts = []
  · subst hn
    have e3 : (Str.join ", " []).length = 0 := rfl
    have e4 : ((if ([] : List Str).length == 1 then ",)" else ")" : String) : Str).length = 1 := rfl
    omega
  · have h2 := join_length_add ts hn
    omega
theorem shownAll_mem : ∀ {xs : List PyData} {t : Str}, t ∈ PyData.shownAll xs → ∃ x ∈ xs, t = x.shown
  | [], _, h => by simp [PyData.shownAll] at h
  | x :: xs, t, h => by
    rw [PyData.shownAll] at h
    rcases List.mem_cons.mp h with rfl | h
    · exact ⟨x, List.mem_cons_self .., rfl⟩
    · obtain ⟨y, hy, e⟩ := shownAll_mem h
      exact ⟨y, List.mem_cons_of_mem _ hy, e⟩
theorem shownAll_len : ∀ xs : List PyData, (PyData.shownAll xs).length = xs.length
  | [] => rfl
  | x :: xs => by rw [PyData.shownAll, List.length_cons, List.length_cons, shownAll_len xs]
theorem toPs_mem : ∀ {xs : List D} {y : PyData}, y ∈ toPs xs → ∃ x ∈ xs, y = toP x
  | [], _, h => by simp [toPs] at h
  | x :: xs, y, h => by
    rw [toPs] at h
    rcases List.mem_cons.mp h with rfl | h
    · exact ⟨x, List.mem_cons_self .., rfl⟩
    · obtain ⟨z, hz, e⟩ := toPs_mem h
      exact ⟨z, List.mem_cons_of_mem _ hz, e⟩
theorem showAll_iff : ∀ xs : List PyData, (∀ x ∈ xs, x.showable = true) → PyData.showableAll xs = true
  | [], _ => rfl
  | x :: xs, h => by
    rw [PyData.showableAll, h x (List.mem_cons_self ..), showAll_iff xs fun y hy => h y (List.mem_cons_of_mem _ hy)]; rfl
/-- a datum whose text has at most K signs -/
def textedN (n : Nat) (d : D) (K : Nat) : Prop := lay n d = true ∧ (toP d).showable = true ∧ (toP d).shown.length ≤ K
theorem texted_int {i : Int} (n : Nat) (h : 0 ≤ i ∧ i ≤ 1000000000000000000) : textedN (n + 1) (.int i) 20 := by
  have ha : i.natAbs < 10 ^ 19 := by omega
  refine ⟨rfl, ?_, ?_⟩
  · rw [toP]
    show decide (i.natAbs.log2 < 1920) = true
    rw [decide_eq_true_eq]
    have h2 : i.natAbs < 2 ^ 64 := by omega
    by_cases h0 : i.natAbs = 0
    · rw [h0]; decide
    · have := (Nat.log2_lt (k := 64) h0).mpr h2
      omega
  · rw [toP]
    show (Str.ofString (toString i)).length ≤ 20
    rw [ofString_length]
    exact int_text_length_le10 (k := 19) (by omega) ha
theorem texted_tup {xs : List D} {n K : Nat} (h : ∀ x ∈ xs, textedN n x K) : textedN (n + 1) (.tup xs) (xs.length * (K + 2) + 2) := by
  refine ⟨lay_tup fun x hx => (h x hx).1, ?_, ?_⟩
  · rw [toP]
    show PyData.showableAll (toPs xs) = true
    refine showAll_iff _ fun y hy => ?_
    obtain ⟨x, hx, rfl⟩ := toPs_mem hy
    exact (h x hx).2.1
  · rw [toP]
    show (tupleText (PyData.shownAll (toPs xs))).length ≤ _
    have := tupleText_le (ts := PyData.shownAll (toPs xs)) (K := K) (by
      intro t ht
      obtain ⟨y, hy, rfl⟩ := shownAll_mem ht
      obtain ⟨x, hx, rfl⟩ := toPs_mem hy
      exact (h x hx).2.2)
    rwa [shownAll_len, toPs_len] at this
theorem textedN_le {n K L : Nat} {d : D} (h : textedN n d K) (hl : K ≤ L) : textedN n d L := ⟨h.1, h.2.1, Nat.le_trans h.2.2 hl⟩
theorem run_conv {M : Nat} {m : Int} {gs : List Game} {rows : List Row} (h : ∀ r ∈ rows, r.okR m) : ∀ (i : Nat) (f : Int → Int), (runS M m gs rows).cs[i]? = some (some f) → some (i : Int) ∈ rows.map Row.to := by
  refine pre_ind (P := fun pre => ∀ (i : Nat) (f : Int → Int), (runS M m gs pre).cs[i]? = some (some f) → some (i : Int) ∈ pre.map Row.to) ?_ ?_
  · intro i f hi
    have : (st0c m)[i]? = some (some f) := hi
    unfold st0c at this
    obtain ⟨hlt, he⟩ := List.getElem?_eq_some_iff.mp this
    rw [List.getElem_replicate] at he
    exact absurd he (by simp)
  · intro pre r post hr ih i f hi
    rw [runS_snoc] at hi
    have hok := h r (mem_mid hr)
    cases hto : r.to with
    | none =>
      have hstep : (stepS M gs (runS M m gs pre) r).cs = (runS M m gs pre).cs := by unfold stepS; rw [hto]; cases r <;> rfl
      rw [hstep] at hi
      have := ih i f hi
      simp only [List.map_append, List.mem_append]; exact .inl this
    | some x =>
      have hx := Row.to_lt hok hto
      have hstep : (stepS M gs (runS M m gs pre) r).cs = (runS M m gs pre).cs.set x.toNat (some (colOf M gs (runS M m gs pre).lots (cfOf (runS M m gs pre).cs) r)) := by unfold stepS; rw [hto]
      rw [hstep] at hi
      by_cases e : x.toNat = i
      · have : (i : Int) = x := by omega
        rw [this]; simp [hto]
      · rw [List.getElem?_set_ne e] at hi
        have := ih i f hi
        simp only [List.map_append, List.mem_append]; exact .inl this
theorem bds_mem {rows : List Row} : ∀ c, some c ∈ rows.map Row.to → some (bdsAt rows c) ∈ boundsL rows := by
  refine pre_ind (P := fun pre => ∀ c, some c ∈ pre.map Row.to → some (bdsAt pre c) ∈ boundsL pre) (by simp) ?_
  intro pre r post hr ih c hc
  rw [bdsAt_snoc, boundsL, boundsG_snoc, List.mem_append]
  unfold stepB
  cases hto : r.to with
  | none =>
    have hc' : some c ∈ pre.map Row.to := by simpa [hto] using hc
    exact .inl (ih c hc')
  | some x =>
    by_cases e : c = x
    · right
      simp only [e, if_true, List.mem_singleton]
      unfold bo; rw [hto]; rfl
    · simp only [e, if_false]
      have hc' : some c ∈ pre.map Row.to := by simpa [hto, e] using hc
      exact .inl (ih c hc')
theorem lots_cnt {M : Nat} {m : Int} {gs : List Game} {rows : List Row} (h : ∀ r ∈ rows, r.okR m) (hM : 1 ≤ M ∧ M ≤ 16) : (runS M m gs rows).lots.length ≤ 16 := by
  refine pre_ind (P := fun pre => (runS M m gs pre).lots.length ≤ 16) (by show 1 ≤ 16; omega) ?_
  intro pre r post hr ih
  have hst := run_ok (gs := gs) (M := M) (m := m) (rows := pre) (fun x hx => h x (by rw [hr]; exact List.mem_append_left _ hx))
  show (runS M m gs (pre ++ [r])).lots.length ≤ 16
  rw [runS_snoc]
  unfold stepS
  split
  · exact ih
  · split
    · have := lotsBy_len (cfOf (runS M m gs pre).cs ‹Int›) (runS M m gs pre).lots
      rw [lots_len hst.lots] at this
      exact Nat.le_trans this hM.2
    · exact ih
theorem st_text {M : Nat} {m : Int} {gs : List Game} {rows : List Row} (h : okCode m rows) (hs : okSheet M gs) : textedN 50 (stD M rows.length (runS M m gs rows).cs (runS M m gs rows).lots) 20000 := by
  have hM : (M : Int) ≤ 16 := hs.mm.2
  have hM2 := hs.mm.1
  have hlen := h.base.len
  have hst := run_ok (gs := gs) (M := M) h.base.row
  have hcnt := lots_cnt (gs := gs) (M := M) h.base.row (by omega)
  have hkept := kept_all (M := M) (gs := gs) h.base hs rows [] (by simp)
  unfold keptAt at hkept
  have hconv := run_conv (M := M) (gs := gs) h.base.row
  have hm := h.cols
  have hcl := hst.len
  generalize runS M m gs rows = S9 at *
  have c1 : textedN 49 (D.int rows.length) 6000 := textedN_le (texted_int 48 (by omega)) (by omega)
  have c2 : textedN 49 (colsD M S9.cs) 6000 := by
    refine textedN_le (texted_tup (n := 48) (K := 354) ?_) (by rw [List.length_map]; omega)
    intro x hx
    obtain ⟨o, ho, rfl⟩ := List.mem_map.mp hx
    cases o with
    | none => exact ⟨rfl, rfl, by show (Str.ofString "None").length ≤ _; decide⟩
    | some f =>
      obtain ⟨i, hi⟩ := List.getElem?_of_mem ho
      have hc := hconv i f hi
      have hb := h.small _ (bds_mem _ hc)
      have hk := (hkept i hc).2
      have hcf : cfOf S9.cs i = f := by unfold cfOf; rw [Int.toNat_natCast, hi]
      rw [hcf] at hk
      refine textedN_le (texted_tup (n := 47) (K := 20) ?_) (by rw [colL_len]; omega)
      intro x hx
      obtain ⟨p, hp, rfl⟩ := List.mem_map.mp hx
      have := hk p (mem_plys.mp hp)
      exact texted_int 46 (by omega)
  have c3 : textedN 49 (lotsD S9.lots) 6000 := by
    refine textedN_le (texted_tup (n := 48) (K := 354) ?_) (by rw [List.length_map]; omega)
    intro x hx
    obtain ⟨l, hl, rfl⟩ := List.mem_map.mp hx
    have hll := lot_len hst.lots hl
    refine textedN_le (texted_tup (n := 47) (K := 20) ?_) (by rw [List.length_map]; omega)
    intro x hx
    obtain ⟨p, hp, rfl⟩ := List.mem_map.mp hx
    have := lot_mem hst.lots hl hp
    exact texted_int 46 (by omega)
  refine textedN_le (texted_tup (n := 49) (K := 6000) ?_) (by simp)
  intro x hx
  simp only [List.mem_cons, List.not_mem_nil, or_false] at hx
  rcases hx with rfl | rfl | rfl
  · exact c1
  · exact c2
  · exact c3
/-! games in another sequence -/
theorem sum_perm {a b : List Int} (h : a.Perm b) : a.sum = b.sum := by
  induction h with
  | nil => rfl
  | cons x _ ih => rw [List.sum_cons, List.sum_cons, ih]
  | swap x y l => simp only [List.sum_cons]; omega
  | trans _ _ h1 h2 => exact h1.trans h2
theorem colOf_perm {M : Nat} {gs gs' : List Game} {lots : List (List Int)} {cf : Int → Int → Int} (h : gs.Perm gs') (r : Row) : colOf M gs lots cf r = colOf M gs' lots cf r := by
  cases r with
  | byes c k =>
    funext p
    show k * _ = k * _
    rw [((h.filter _).map _).count_eq]
  | gather c s w0 w1 w2 near =>
    funext p
    exact sum_perm (h.map _)
  | _ => rfl
theorem runS_perm {M : Nat} {m : Int} {gs gs' : List Game} (h : gs.Perm gs') (rows : List Row) : runS M m gs rows = runS M m gs' rows := by
  have : stepS M gs = stepS M gs' := by
    funext s r
    unfold stepS
    rw [colOf_perm h r]
  unfold runS
  rw [this]
theorem okSheet_perm {M : Int} {gs gs' : List Game} (h : gs.Perm gs') (hs : okSheet M gs) : okSheet M gs' :=
  ⟨hs.mm, by rw [← h.length_eq]; exact hs.len, fun g hg => hs.game g (h.mem_iff.mpr hg)⟩
end DI.K77
end

section
set_option Elab.async false
set_option linter.all false
set_option maxRecDepth 100000
set_option pp.maxSteps 800
/-! k77: the plain law, part 24: turned_right. -/
namespace DI.K77
open PySem L2
theorem ne_nilD {xs : List D} (h : lay 50 (.lst xs) = true) : cmpD .NotEq (.lst xs) (.lst []) = some (!xs.isEmpty) := by
  show (eqO _ _).map _ = _
  rw [eqO_nil h]; rfl
theorem popAt_ok {b : Bool} {xs : List D} {i : Int} (h : 0 ≤ i ∧ i < xs.length) (hl : xs.length < 1000000) (hi : i.toNat < xs.length) : meS .popAt (.li b xs) [.int i] = some (xs[i.toNat], .li b (xs.eraseIdx i.toNat)) := by
  unfold meS
  refine (if_pos (decide_eq_true (by omega))).trans ?_
  rw [ixN_i h]
  simp only [Option.bind_some, List.getElem?_eq_getElem hi, Option.map_some]
theorem erase_perm {α : Type} : ∀ {l : List α} {i : Nat} (h : i < l.length), (l[i] :: l.eraseIdx i).Perm l
  | x :: l, 0, _ => by simp
  | x :: l, i + 1, h => by
    have := erase_perm (l := l) (i := i) (by simpa using h)
    rw [List.getElem_cons_succ, List.eraseIdx_cons_succ]
    exact (List.Perm.swap _ _ _).trans (this.cons x)
theorem perm_mv {α : Type} (x : α) (E ys : List α) : (E ++ (ys ++ [x])).Perm ((x :: E) ++ ys) := by
  rw [← List.append_assoc]; exact List.perm_append_singleton x (E ++ ys)
theorem map_erase {α : Type} (f : α → D) : ∀ (l : List α) (i : Nat), (l.map f).eraseIdx i = (l.eraseIdx i).map f
  | [], _ => rfl
  | x :: l, 0 => rfl
  | x :: l, i + 1 => by rw [List.map_cons, List.eraseIdx_cons_succ, List.eraseIdx_cons_succ, List.map_cons, map_erase f l i]
theorem shuffle {α : Type} (enc : α → D) (hlay : ∀ L : List α, lay 50 (.lst (L.map enc)) = true) (n : Nat) (xs : List α) (hx : xs.length < 1000) (p : Pot) (a b : Sl) (rest : Envi) : ∃ (q : Pot) (ys : List α), ys.Perm xs ∧
    evS (evD tab (n + 1)) (.whl 1000 (.e (.cmp .NotEq (.var 3) (.lst .nil))) (.cons (.expr (.me .append (.var 4) (.cons (.me .popAt (.var 3) (.cons (.call 28 (.cons (.var 0) (.cons (.bi .len (.cons (.var 3) .nil)) .nil))) .nil)) .nil))) .nil)) (.li true p.enc :: a :: b :: .li false (xs.map enc) :: .li false [] :: rest) = .ok (.nx, .li true q.enc :: a :: b :: .li false [] :: .li false (ys.map enc) :: rest) := by
  obtain ⟨env, h1, q, L, ys, hl, hp, rfl⟩ := whl_ev (F := evD tab (n + 1)) (N := 1000) (c := .e (.cmp .NotEq (.var 3) (.lst .nil))) (b := .cons (.expr (.me .append (.var 4) (.cons (.me .popAt (.var 3) (.cons (.call 28 (.cons (.var 0) (.cons (.bi .len (.cons (.var 3) .nil)) .nil))) .nil)) .nil))) .nil) (env := .li true p.enc :: a :: b :: .li false (xs.map enc) :: .li false [] :: rest)
    (fun j env => ∃ (q : Pot) (L ys : List α), L.length = j ∧ (L ++ ys).Perm xs ∧ env = .li true q.enc :: a :: b :: .li false (L.map enc) :: .li false (ys.map enc) :: rest) (k := xs.length) hx ⟨p, xs, [], rfl, by simp, rfl⟩ (by
      rintro j env ⟨q, L, ys, hl, hp, rfl⟩
      have hlen := hp.length_eq
      rw [List.length_append] at hlen
      have hd := q.dig_lt (m := (L.map enc).length) (by rw [List.length_map]; omega)
      have hi : (q.dig (L.map enc).length).toNat < L.length := by rw [List.length_map] at hd ⊢; omega
      have hi2 : (q.dig (L.map enc).length).toNat < (L.map enc).length := by rw [List.length_map]; rw [List.length_map] at hi; exact hi
      have hpop := popAt_ok (b := false) hd (by rw [List.length_map]; omega) hi2
      rw [map_erase, List.getElem_map] at hpop
      refine ⟨_, _, jt_e (je_cmp (je_varL rfl) (je_lst jv_nil rfl rfl) rfl rfl (ne_nilD (hlay L))) rfl (by cases L with
        | nil => simp at hl
        | cons x L => rfl), jq_cons (js_expr (je_meM (e1 := .li true q.enc :: a :: b :: .li false (L.map enc) :: .li false (ys.map enc) :: rest) (je_varL rfl) rfl rfl (jv_cons (je_meM (je_varL rfl) rfl rfl (jv_cons (call28 (n := n) rfl rfl rfl (je_bi (jv_cons (je_varL rfl) jv_nil) rfl rfl) (by rw [List.length_map]; omega)) jv_nil) rfl rfl rfl hpop rfl) jv_nil) rfl rfl rfl (append_ok (by rw [List.length_map]; omega)) rfl)) jq_nil, ?_⟩
      refine ⟨q.nxt (L.map enc).length, L.eraseIdx (q.dig (L.map enc).length).toNat, ys ++ [L[(q.dig (L.map enc).length).toNat]], by rw [List.length_eraseIdx_of_lt hi]; omega, ?_, ?_⟩
      · exact (perm_mv _ _ _).trans (((erase_perm hi).append_right ys).trans hp)
      · rw [List.map_append]; rfl) (by
      rintro env ⟨q, L, ys, hl, hp, rfl⟩
      obtain rfl := List.eq_nil_of_length_eq_zero hl
      exact ⟨_, jt_e (je_cmp (je_varL rfl) (je_lst jv_nil rfl rfl) rfl rfl (ne_nilD (hlay []))) rfl rfl, q, [], ys, rfl, hp, rfl⟩)
  obtain rfl := List.eq_nil_of_length_eq_zero hl
  exact ⟨q, ys, hp, h1⟩
theorem lay_games (L : List Game) : lay 50 (.lst (L.map Game.enc)) = true := lay_lst fun x hx => by
  obtain ⟨g, _, rfl⟩ := List.mem_map.mp hx
  exact lay_tup fun y hy => by
    simp only [List.mem_cons, List.not_mem_nil, or_false] at hy
    rcases hy with rfl | rfl | rfl <;> rfl
theorem repr_ok {d : D} {xs : List D} (h1 : seqD d = some xs) (h2 : textedN 50 d 20000) : biD .repr [d] = some (.va (.str (toP d).shown.cps.toList)) := by
  unfold biD
  refine if_pos ?_
  rw [h1, h2.1, h2.2.1, fits_lt (Nat.lt_of_le_of_lt h2.2.2 (by omega))]; rfl
theorem call26 {F : CF} {n : Nat} (hF : F = evD tab (n + 8)) {m : Int} {rows : List Row} {M : Nat} {gs : List Game} {env : Envi} {a b : IE} (h : okCode m rows) (hm : 1 ≤ m) (hs : okSheet M gs)
    (ha : evE F a env = .ok (.va (codeD m rows), env)) (hb : evE F b env = .ok (.va (sheetD M gs), env)) :
    evE F (.call 26 (.cons a (.cons b .nil))) env = .ok (.ol ((runS M m gs rows).lots.flatten.map .int), env) := by
  subst hF
  exact je_call (jv_cons ha (jv_cons hb jv_nil)) rfl rfl (rank_by_code_i n m rows M gs h hm hs) rfl
theorem law_turned_i (n : Nat) (p : Pot) (m : Int) (rows : List Row) (M : Nat) (gs : List Game) (h : okCode m rows) (hm : 1 ≤ m) (hs : okSheet M gs) :
    ∃ p' : Pot, evD tab (n + 9) 37 [.li true p.enc, .va (codeD m rows), .va (sheetD M gs)] = .ok (.va (.bl true), [.li true p'.enc, .un, .un]) := by
  rw [opn (T := tab) (f := 37) _ 3 4 b__law_turned_right rfl rfl]; unfold b__law_turned_right; simp only [List.replicate, List.cons_append, List.nil_append, List.singleton_append]
  have hlen := hs.len
  obtain ⟨q, ys, hp, hw⟩ := shuffle Game.enc lay_games (n + 7) gs (by omega) p (.va (codeD m rows)) (.va (sheetD M gs)) [.un, .un]
  have hs2 := okSheet_perm hp.symm hs
  have ht := st_text h hs
  have s1 := js_par (F := evD tab (n + 8)) (env := [.li true p.enc, .va (codeD m rows), .va (sheetD M gs), .un, .un, .un, .un]) (ks := [(3, true), (4, true)]) (jn_cons (je_bi (t := .list) (jv_cons (je_idx (a := .var 2) (b := .lit (.int 1)) (je_var rfl) je_lit rfl rfl ix_1) jv_nil) rfl rfl) (jn_cons (je_lst jv_nil rfl rfl) jn_nil)) rfl
  have s2 := js_set (F := evD tab (n + 8)) (env := [.li true q.enc, .va (codeD m rows), .va (sheetD M gs), .li false [], .li false (ys.map Game.enc), .un, .un]) (k := false) (i := 5) (je_tup (jv_cons (je_idx (a := .var 2) (b := .lit (.int 0)) (je_var rfl) je_lit rfl rfl ix_0) (jv_cons (je_bi (t := .tuple) (jv_cons (je_varL (i := 4) rfl) jv_nil) rfl rfl) jv_nil)) rfl (fits_lt (by simp only [List.length_cons, List.length_nil]; omega))) rfl rfl
  have s3 := js_set (F := evD tab (n + 8)) (env := [.li true q.enc, .va (codeD m rows), .va (sheetD M gs), .li false [], .li false (ys.map Game.enc), .va (sheetD M ys), .un]) (k := false) (i := 6) (je_bi (t := .len) (r := .va (.int rows.length)) (jv_cons (je_idx (a := .var 1) (b := .lit (.int 2)) (je_var rfl) je_lit rfl rfl ix_2) jv_nil) rfl (by rw [lenT, List.length_map])) rfl rfl
  have c1 := call25 (n := n) (F := evD tab (n + 8)) (env := [.li true q.enc, .va (codeD m rows), .va (sheetD M gs), .li false [], .li false (ys.map Game.enc), .va (sheetD M ys), .va (.int rows.length)]) (a := .var 1) (b := .var 2) (c := .var 6) (k := rows.length) rfl h hm hs (Nat.le_refl _) (je_var rfl) (je_var rfl) (je_var rfl)
  have c2 := call25 (n := n) (F := evD tab (n + 8)) (env := [.li true q.enc, .va (codeD m rows), .va (sheetD M gs), .li false [], .li false (ys.map Game.enc), .va (sheetD M ys), .va (.int rows.length)]) (a := .var 1) (b := .var 5) (c := .var 6) (k := rows.length) rfl h hm hs2 (Nat.le_refl _) (je_var rfl) (je_var rfl) (je_var rfl)
  have c3 := call26 (n := n) (F := evD tab (n + 8)) (env := [.li true q.enc, .va (codeD m rows), .va (sheetD M gs), .li false [], .li false (ys.map Game.enc), .va (sheetD M ys), .va (.int rows.length)]) (a := .var 1) (b := .var 2) rfl h hm hs (je_var rfl) (je_var rfl)
  have c4 := call26 (n := n) (F := evD tab (n + 8)) (env := [.li true q.enc, .va (codeD m rows), .va (sheetD M gs), .li false [], .li false (ys.map Game.enc), .va (sheetD M ys), .va (.int rows.length)]) (a := .var 1) (b := .var 5) rfl h hm hs2 (je_var rfl) (je_var rfl)
  rw [List.take_length] at c1 c2
  rw [runS_perm hp rows] at c2 c4
  refine ⟨q, ?_⟩
  generalize runS M m gs rows = S9 at *
  have hrep := repr_ok (d := stD M rows.length S9.cs S9.lots) rfl ht
  generalize (toP (stD M rows.length S9.cs S9.lots)).shown.cps.toList = T9 at hrep
  have eqT : cmpD .Eq (.str T9) (.str T9) = some true := by
    show some (decide (T9 = T9)) = _
    rw [decide_eq_true rfl]
  apply fin_rt
  · exact st_nx s1 (st_nx hw (st_nx s2 (st_nx s3 (st_rt (js_ret (je_and (je_cmp (je_bi (jv_cons c1 jv_nil) rfl hrep) (je_bi (jv_cons c2 jv_nil) rfl hrep) rfl rfl eqT) (je_cmp c3 c4 rfl rfl (eq_self' (lay_ints 48 _) rfl))))))))
  · rfl
  · rfl
end DI.K77
end

section
set_option Elab.async false
set_option linter.all false
set_option maxRecDepth 100000
set_option pp.maxSteps 800
/-! k77: the plain law, part 25: players led to other positions. -/
namespace DI.K77
open PySem L2
/-- the players are led by s -/
structure leads (M : Nat) (s : Int → Int) : Prop where
  top : s M = M
  perm : ((plys M).map s).Perm (plys M)
theorem plys_nodup (M : Nat) : (plys M).Nodup := by
  unfold plys
  exact List.Pairwise.map _ (fun a b (hab : a ≠ b) => fun hc => hab (Int.ofNat.inj hc)) List.nodup_range
theorem leads.rng {M : Nat} {s : Int → Int} (h : leads M s) {p : Int} (hp : 0 ≤ p ∧ p < M) : 0 ≤ s p ∧ s p < M :=
  mem_plys.mp (h.perm.mem_iff.mp (List.mem_map_of_mem (mem_plys.mpr hp)))
theorem inj_of_nodup {α : Type} {s : α → α} : ∀ {l : List α}, (l.map s).Nodup → ∀ {p q : α}, p ∈ l → q ∈ l → s p = s q → p = q
  | x :: l, h, p, q, hp, hq, e => by
    rw [List.map_cons, List.nodup_cons] at h
    rcases List.mem_cons.mp hp with hp1 | hp1 <;> rcases List.mem_cons.mp hq with hq1 | hq1
    · rw [hp1, hq1]
    · subst hp1
      exact absurd (e ▸ List.mem_map_of_mem (f := s) hq1) h.1
    · subst hq1
      exact absurd (e ▸ List.mem_map_of_mem (f := s) hp1) h.1
    · exact inj_of_nodup h.2 hp1 hq1 e
theorem leads.inj {M : Nat} {s : Int → Int} (h : leads M s) {p q : Int} (hp : 0 ≤ p ∧ p < M) (hq : 0 ≤ q ∧ q < M) (e : s p = s q) : p = q :=
  inj_of_nodup (h.perm.nodup_iff.mpr (plys_nodup M)) (mem_plys.mpr hp) (mem_plys.mpr hq) e
def flip (s : Int → Int) (g : Game) : Game := if s g.a < s g.b then ⟨s g.a, s g.b, g.t⟩ else ⟨s g.b, s g.a, 2 - g.t⟩
theorem flip_cases {M : Nat} {s : Int → Int} (h : leads M s) {g : Game} (hg : okGame M g) : (g.b = M ∧ flip s g = ⟨s g.a, M, g.t⟩) ∨ (g.b < M ∧ (flip s g = ⟨s g.a, s g.b, g.t⟩ ∨ flip s g = ⟨s g.b, s g.a, 2 - g.t⟩) ∧ (flip s g).b < M) := by
  obtain ⟨⟨b1, b2⟩, ⟨a1, a2⟩, ht⟩ := hg
  have ha := h.rng (p := g.a) ⟨a1, by omega⟩
  by_cases hb : g.b = M
  · left
    refine ⟨hb, ?_⟩
    unfold flip
    rw [hb, h.top, if_pos ha.2]
  · right
    have hbb := h.rng (p := g.b) ⟨by omega, by omega⟩
    refine ⟨by omega, ?_, ?_⟩
    · unfold flip
      split
      · exact .inl rfl
      · exact .inr rfl
    · unfold flip
      split
      · exact hbb.2
      · exact ha.2
theorem flip_ok {M : Nat} {s : Int → Int} (h : leads M s) {g : Game} (hg : okGame M g) : okGame M (flip s g) := by
  have hc := flip_cases h hg
  obtain ⟨⟨b1, b2⟩, ⟨a1, a2⟩, ht⟩ := hg
  have ha := h.rng (p := g.a) ⟨a1, by omega⟩
  rcases hc with ⟨hb, e⟩ | ⟨hb, e, -⟩
  · rw [e]
    exact ⟨by dsimp only; omega, by dsimp only; omega, by simp only [hb, if_true] at ht; simp only [if_true]; exact ht⟩
  · have hbb := h.rng (p := g.b) ⟨by omega, by omega⟩
    have hne : s g.a ≠ s g.b := fun q => by
      have := h.inj (p := g.a) (q := g.b) ⟨a1, by omega⟩ ⟨by omega, by omega⟩ q
      omega
    rw [if_neg (by omega)] at ht
    unfold flip
    split
    · next q => exact ⟨by dsimp only; omega, by dsimp only; omega, by dsimp only; rw [if_neg (by omega)]; exact ht⟩
    · next q => exact ⟨by dsimp only; omega, by dsimp only; omega, by dsimp only; rw [if_neg (by omega)]; omega⟩
theorem okSheet_flip {M : Nat} {s : Int → Int} {gs : List Game} (h : leads M s) (hs : okSheet M gs) : okSheet M (gs.map (flip s)) :=
  ⟨hs.mm, by rw [List.length_map]; exact hs.len, fun g hg => by
    obtain ⟨x, hx, rfl⟩ := List.mem_map.mp hg
    exact flip_ok h (hs.game x hx)⟩
def ledL (s : Int → Int) (l : List Int) : List Int := isort (l.map s)
theorem sameB_led {M : Nat} {s : Int → Int} {lots : List (List Int)} (h : leads M s) (hl : okLots M lots) {x y : Int} (hx : 0 ≤ x ∧ x < M) (hy : 0 ≤ y ∧ y < M) : sameB (lots.map (ledL s)) (s x) (s y) = sameB lots x y := by
  unfold sameB
  rw [List.any_map]
  rw [Bool.eq_iff_iff, List.any_eq_true, List.any_eq_true]
  have key : ∀ l ∈ lots, ∀ z : Int, 0 ≤ z ∧ z < M → (s z ∈ ledL s l ↔ z ∈ l) := by
    intro l hl' z hz
    unfold ledL
    rw [(isort_perm _).mem_iff, List.mem_map]
    constructor
    · rintro ⟨w, hw, e⟩
      exact h.inj (lot_mem hl hl' hw) hz e ▸ hw
    · intro hw; exact ⟨z, hw, rfl⟩
  constructor
  · rintro ⟨l, hl', q⟩
    simp only [Function.comp, Bool.and_eq_true, decide_eq_true_eq] at q
    exact ⟨l, hl', by simp only [Bool.and_eq_true, decide_eq_true_eq]; exact ⟨(key l hl' x hx).mp q.1, (key l hl' y hy).mp q.2⟩⟩
  · rintro ⟨l, hl', q⟩
    simp only [Bool.and_eq_true, decide_eq_true_eq] at q
    exact ⟨l, hl', by simp only [Function.comp, Bool.and_eq_true, decide_eq_true_eq]; exact ⟨(key l hl' x hx).mpr q.1, (key l hl' y hy).mpr q.2⟩⟩
theorem sameB_symm (lots : List (List Int)) (x y : Int) : sameB lots x y = sameB lots y x := by
  unfold sameB
  congr 1
  funext l
  exact Bool.and_comm _ _
theorem con_led {M : Nat} {s : Int → Int} {lots : List (List Int)} {col col' : Int → Int} {w0 w1 w2 near : Int} {g : Game} (h : leads M s) (hl : okLots M lots) (hg : okGame M g) (hc : ∀ p : Int, 0 ≤ p ∧ p < M → col' (s p) = col p) {p : Int} (hp : 0 ≤ p ∧ p < M) :
    con M (lots.map (ledL s)) col' w0 w1 w2 near (flip s g) (s p) = con M lots col w0 w1 w2 near g p := by
  have hfc := flip_cases h hg
  obtain ⟨⟨b1, b2⟩, ⟨a1, a2⟩, ht⟩ := hg
  rcases hfc with ⟨hb, e⟩ | ⟨hb, e, hfb⟩
  · rw [e]
    unfold con
    rw [if_neg (by dsimp only; omega), if_neg (by omega)]
  · have hA : 0 ≤ g.a ∧ g.a < M := ⟨a1, by omega⟩
    have hB : 0 ≤ g.b ∧ g.b < M := ⟨by omega, hb⟩
    have eA : (s p = s g.a) ↔ p = g.a := ⟨fun q => h.inj hp hA q, fun q => by rw [q]⟩
    have eB : (s p = s g.b) ↔ p = g.b := ⟨fun q => h.inj hp hB q, fun q => by rw [q]⟩
    have hsame := sameB_led h hl hA hB
    rcases e with e | e
    · rw [e] at hfb ⊢
      unfold con
      dsimp only at hfb ⊢
      rw [hsame, hc g.a hA, hc g.b hB]
      simp only [eA, eB, hfb, hb, true_and]
    · rw [e] at hfb ⊢
      unfold con
      dsimp only at hfb ⊢
      rw [sameB_symm, hsame, hc g.a hA, hc g.b hB]
      simp only [eA, eB, hfb, hb, true_and]
      rw [show 2 - (2 - g.t) = g.t by omega]
      split
      · exact Int.add_comm _ _
      · rfl
theorem count_led {M : Nat} {s : Int → Int} (h : leads M s) {p : Int} (hp : 0 ≤ p ∧ p < M) : ∀ {gs : List Game}, (∀ g ∈ gs, okGame M g) → (((gs.map (flip s)).filter fun g => decide (g.b = (M : Int))).map Game.a).count (s p) = ((gs.filter fun g => decide (g.b = (M : Int))).map Game.a).count p
  | [], _ => rfl
  | g :: gs, hg => by
    have ih := count_led h hp (gs := gs) fun x hx => hg x (List.mem_cons_of_mem _ hx)
    have hgg := hg g (List.mem_cons_self ..)
    have hfc := flip_cases h hgg
    obtain ⟨⟨b1, b2⟩, ⟨a1, a2⟩, ht⟩ := hgg
    rw [List.map_cons]
    rcases hfc with ⟨hb, e⟩ | ⟨hb, e, hfb⟩
    · rw [List.filter_cons_of_pos (by rw [e]; simp), List.filter_cons_of_pos (by simp [hb]), List.map_cons, List.map_cons, List.count_cons, List.count_cons, ih, e]
      have eA : (s g.a = s p) ↔ g.a = p := ⟨fun q => h.inj ⟨a1, by omega⟩ hp q, fun q => by rw [q]⟩
      congr 1
      by_cases q : g.a = p
      · simp [q]
      · have : ¬ s g.a = s p := fun w => q (eA.mp w)
        simp [q, this]
    · rw [List.filter_cons_of_neg (by simp; omega), List.filter_cons_of_neg (by simp; omega), ih]
theorem uniq_ext {a b : List Int} (h : ∀ x, x ∈ a ↔ x ∈ b) : isort (uniq a) = isort (uniq b) := by
  refine sorted_uniq ?_ (isort_sorted _) (isort_sorted _)
  refine (isort_perm _).trans (List.Perm.trans ?_ (isort_perm _).symm)
  rw [List.perm_ext_iff_of_nodup (uniq_nodup a) (uniq_nodup b)]
  intro x
  rw [uniq_mem, uniq_mem, h]
theorem lotBy_led {M : Nat} {s f f' : Int → Int} (hc : ∀ p : Int, 0 ≤ p ∧ p < M → f' (s p) = f p) {l : List Int} (hl : ∀ x ∈ l, 0 ≤ x ∧ x < M) : lotBy f' (ledL s l) = (lotBy f l).map (ledL s) := by
  unfold lotBy
  have e1 : isort (uniq ((ledL s l).map f')) = isort (uniq (l.map f)) := by
    refine uniq_ext fun x => ?_
    unfold ledL
    rw [((isort_perm (l.map s)).map f').mem_iff, List.map_map]
    simp only [List.mem_map, Function.comp]
    constructor
    · rintro ⟨p, hp, rfl⟩; exact ⟨p, hp, (hc p (hl p hp)).symm⟩
    · rintro ⟨p, hp, rfl⟩; exact ⟨p, hp, hc p (hl p hp)⟩
  rw [e1, List.map_map]
  apply List.map_congr_left
  intro v _
  show (ledL s l).filter _ = ledL s (l.filter _)
  unfold ledL
  refine sorted_uniq ?_ ((isort_sorted _).sublist List.filter_sublist) (isort_sorted _)
  refine ((isort_perm (l.map s)).filter _).trans (List.Perm.trans (List.Perm.of_eq ?_) (isort_perm _).symm)
  rw [List.filter_map]
  congr 1
  apply List.filter_congr
  intro x hx
  simp only [Function.comp, hc x (hl x hx)]
theorem flatMap_congr' {α β : Type} {f g : α → List β} : ∀ {l : List α}, (∀ x ∈ l, f x = g x) → l.flatMap f = l.flatMap g
  | [], _ => rfl
  | x :: l, h => by rw [List.flatMap_cons, List.flatMap_cons, h x (List.mem_cons_self ..), flatMap_congr' fun y hy => h y (List.mem_cons_of_mem _ hy)]
def rel1 (M : Nat) (s : Int → Int) : Option (Int → Int) → Option (Int → Int) → Prop
  | none, none => True
  | some f, some f' => ∀ p : Int, 0 ≤ p ∧ p < M → f' (s p) = f p
  | _, _ => False
structure ledSt (M : Nat) (s : Int → Int) (S S' : St) : Prop where
  len : S.cs.length = S'.cs.length
  cs : ∀ (i : Nat) o o', S.cs[i]? = some o → S'.cs[i]? = some o' → rel1 M s o o'
  lots : S'.lots = S.lots.map (ledL s)
theorem ledSt.cf {M : Nat} {s : Int → Int} {S S' : St} (h : ledSt M s S S') {c : Int} (h1 : isSet S.cs c) {p : Int} (hp : 0 ≤ p ∧ p < M) : cfOf S'.cs c (s p) = cfOf S.cs c p := by
  obtain ⟨h0, f, hf⟩ := h1
  have hlt := (List.getElem?_eq_some_iff.mp hf).1
  have h2 : S'.cs[c.toNat]? = some (S'.cs[c.toNat]'(by rw [← h.len]; exact hlt)) := List.getElem?_eq_getElem _
  have hr := h.cs _ _ _ hf h2
  generalize S'.cs[c.toNat]'(by rw [← h.len]; exact hlt) = o at h2 hr
  cases o with
  | none => exact absurd hr id
  | some f' =>
    have e1 : cfOf S.cs c = f := by unfold cfOf; rw [hf]
    have e2 : cfOf S'.cs c = f' := by unfold cfOf; rw [h2]
    rw [e1, e2]
    exact hr p hp
theorem led_all {M : Nat} {m : Int} {s : Int → Int} {gs : List Game} {rows : List Row} (h : leads M s) (hr : okRows m rows) (hs : okSheet M gs) : ledSt M s (runS M m gs rows) (runS M m (gs.map (flip s)) rows) := by
  refine pre_ind (P := fun pre => ledSt M s (runS M m gs pre) (runS M m (gs.map (flip s)) pre)) ?_ ?_
  · refine ⟨rfl, ?_, ?_⟩
    · intro i o o' h1 h2
      have h1 : (st0c m)[i]? = some o := h1
      have h2 : (st0c m)[i]? = some o' := h2
      unfold st0c at h1 h2
      obtain ⟨hlt, rfl⟩ := List.getElem?_eq_some_iff.mp h1
      obtain ⟨hlt, rfl⟩ := List.getElem?_eq_some_iff.mp h2
      rw [List.getElem_replicate]
      trivial
    · show [plys M] = [ledL s (plys M)]
      congr 1
      unfold ledL
      refine (sorted_uniq ((isort_perm _).trans h.perm) (isort_sorted _) ?_).symm
      unfold plys
      exact List.Pairwise.map _ (fun a b (hab : a < b) => Int.ofNat_le.mpr (Nat.le_of_lt hab)) List.pairwise_lt_range
  · intro pre r post he ih
    show ledSt M s (runS M m gs (pre ++ [r])) (runS M m (gs.map (flip s)) (pre ++ [r]))
    rw [runS_snoc, runS_snoc]
    have hst := run_ok (gs := gs) (M := M) (m := m) (rows := pre) (fun x hx => hr.row x (by rw [he]; exact List.mem_append_left _ hx))
    have hrd : ∀ x ∈ r.reads, isSet (runS M m gs pre).cs x := fun x hx => hst.set x (hr.wb pre r post he x hx)
    have hok := hr.row r (mem_mid he)
    generalize runS M m gs pre = S at *
    generalize runS M m (gs.map (flip s)) pre = S' at *
    cases hto : r.to with
    | none =>
      cases r with
      | part x =>
        have h1 : stepS M gs S (.part x) = ⟨S.cs, lotsBy S.lots (cfOf S.cs x)⟩ := rfl
        have h2 : stepS M (gs.map (flip s)) S' (.part x) = ⟨S'.cs, lotsBy S'.lots (cfOf S'.cs x)⟩ := rfl
        rw [h1, h2]
        refine ⟨ih.len, ih.cs, ?_⟩
        have hx := hrd x (by simp [Row.reads])
        show lotsBy S'.lots _ = (lotsBy S.lots _).map _
        rw [ih.lots]
        unfold lotsBy
        rw [List.flatMap_map, List.map_flatMap]
        apply flatMap_congr'
        intro l hl
        exact lotBy_led (fun p hp => ih.cf hx hp) (fun y hy => lot_mem hst.lots hl hy)
      | _ => simp [Row.to] at hto
    | some x =>
      have hx := Row.to_lt hok hto
      have h1 : stepS M gs S r = ⟨S.cs.set x.toNat (some (colOf M gs S.lots (cfOf S.cs) r)), S.lots⟩ := by unfold stepS; rw [hto]
      have h2 : stepS M (gs.map (flip s)) S' r = ⟨S'.cs.set x.toNat (some (colOf M (gs.map (flip s)) S'.lots (cfOf S'.cs) r)), S'.lots⟩ := by unfold stepS; rw [hto]
      rw [h1, h2]
      refine ⟨by simp only [List.length_set]; exact ih.len, ?_, ih.lots⟩
      intro i o o' q1 q2
      have q1 : (S.cs.set x.toNat (some (colOf M gs S.lots (cfOf S.cs) r)))[i]? = some o := q1
      have q2 : (S'.cs.set x.toNat (some (colOf M (gs.map (flip s)) S'.lots (cfOf S'.cs) r)))[i]? = some o' := q2
      have hlen := hst.len
      have hlen' := ih.len
      by_cases e : x.toNat = i
      · subst e
        rw [List.getElem?_set_self (by omega)] at q1 q2
        obtain rfl := Option.some.inj q1
        obtain rfl := Option.some.inj q2
        intro p hp
        rw [ih.lots]
        have hcf : ∀ y ∈ r.reads, ∀ p : Int, 0 ≤ p ∧ p < M → cfOf S'.cs y (s p) = cfOf S.cs y p := fun y hy p hp => ih.cf (hrd y hy) hp
        generalize cfOf S'.cs = cf' at *
        generalize cfOf S.cs = cf at *
        cases r with
        | put c k => rfl
        | byes c k => exact congrArg (fun z : Nat => k * (z : Int)) (count_led h hp hs.game)
        | gather c y w0 w1 w2 near =>
          show gath M (S.lots.map (ledL s)) (cf' y) w0 w1 w2 near (gs.map (flip s)) (s p) = gath M S.lots (cf y) w0 w1 w2 near gs p
          unfold gath
          rw [List.map_map]
          congr 1
          apply List.map_congr_left
          intro g hg
          exact con_led h hst.lots (hs.game g hg) (hcf y (by simp [Row.reads])) hp
        | add c y z =>
          show cf' y (s p) + cf' z (s p) = cf y p + cf z p
          rw [hcf y (by simp [Row.reads]) p hp, hcf z (by simp [Row.reads]) p hp]
        | times c y k =>
          show cf' y (s p) * k = cf y p * k
          rw [hcf y (by simp [Row.reads]) p hp]
        | part y => simp [Row.to] at hto
      · rw [List.getElem?_set_ne e] at q1 q2
        exact ih.cs i o o' q1 q2
end DI.K77
end

section
set_option Elab.async false
set_option linter.all false
set_option maxRecDepth 100000
set_option pp.maxSteps 800
/-! k77: the plain law, part 26: led_right. -/
namespace DI.K77
open PySem L2
theorem lay_intL (L : List Int) : lay 50 (.lst (L.map .int)) = true := lay_ints 48 L
def ledBy (M : Nat) (ys : List Int) (p : Int) : Int := (ys ++ [(M : Int)]).getD p.toNat 0
theorem led_map {M : Nat} {ys : List Int} (hl : ys.length = M) : (plys M).map (ledBy M ys) = ys := by
  apply List.ext_getElem?
  intro i
  rw [List.getElem?_map]
  by_cases hi : i < M
  · have := plys_get (M := M) (x := (i : Int)) (by omega)
    rw [Int.toNat_natCast] at this
    rw [this]
    show some (ledBy M ys i) = _
    unfold ledBy
    rw [Int.toNat_natCast, List.getD_eq_getElem?_getD, List.getElem?_append_left (by omega), List.getElem?_eq_getElem (by omega)]
    rfl
  · rw [List.getElem?_eq_none (by rw [plys_len]; omega), List.getElem?_eq_none (by omega)]
    rfl
theorem led_leads {M : Nat} {ys : List Int} (h : ys.Perm (plys M)) : leads M (ledBy M ys) := by
  have hl : ys.length = M := by rw [h.length_eq, plys_len]
  refine ⟨?_, by rw [led_map hl]; exact h⟩
  unfold ledBy
  rw [Int.toNat_natCast, List.getD_eq_getElem?_getD, List.getElem?_append_right (by omega), hl]
  simp
theorem ix_led {M : Nat} {ys : List Int} (hl : ys.length = M) {p : Int} (hp : 0 ≤ p ∧ p ≤ M) : idxD (.lst ((ys ++ [(M : Int)]).map .int)) (.int p) = some (.int (ledBy M ys p)) := by
  show (ixN _ _).bind _ = _
  rw [ixN_i (by rw [List.length_map, List.length_append, List.length_singleton]; omega)]
  show (List.map _ _)[p.toNat]? = _
  have hlt : p.toNat < (ys ++ [(M : Int)]).length := by rw [List.length_append, List.length_singleton]; omega
  rw [List.getElem?_map, List.getElem?_eq_getElem hlt]
  unfold ledBy
  rw [List.getD_eq_getElem?_getD, List.getElem?_eq_getElem hlt]
  rfl
theorem sorted_ok {ns : List Int} (h : ns.length < 64) : biD .sorted [.lst (ns.map .int)] = some (.ol ((isort ns).map .int)) := by
  show (intsD _).bind _ = _
  rw [intsD_map]
  exact if_pos (decide_eq_true h)
theorem flip_enc (s : Int → Int) (g : Game) : (flip s g).enc = if s g.a < s g.b then .tup [.int (s g.a), .int (s g.b), .int g.t] else .tup [.int (s g.b), .int (s g.a), .int (2 - g.t)] := by
  unfold flip
  split <;> rfl
theorem law_led_i (n : Nat) (p : Pot) (m : Int) (rows : List Row) (M : Nat) (gs : List Game) (h : okCode m rows) (hm : 1 ≤ m) (hs : okSheet M gs) :
    ∃ p' : Pot, evD tab (n + 9) 38 [.li true p.enc, .va (codeD m rows), .va (sheetD M gs)] = .ok (.va (.bl true), [.li true p'.enc, .un, .un]) := by
  rw [opn (T := tab) (f := 38) _ 3 10 b__law_led_right rfl rfl]; unfold b__law_led_right; simp only [List.replicate, List.cons_append, List.nil_append, List.singleton_append]
  have hM : (M : Int) ≤ 16 := hs.mm.2
  have hM1 : M ≤ 16 := by omega
  have hlen := hs.len
  obtain ⟨q, ys, hp, hw⟩ := shuffle (α := Int) .int lay_intL (n + 7) (plys M) (by rw [plys_len]; omega) p (.va (codeD m rows)) (.va (sheetD M gs)) [.un, .un, .un, .un, .un, .un, .un, .un]
  have hyl : ys.length = M := by rw [hp.length_eq, plys_len]
  have hld := led_leads hp
  have hix := fun (x : Int) (hx : 0 ≤ x ∧ x ≤ M) => ix_led hyl hx
  have e2 : evE (evD tab (n + 8)) (.rgl false (.idx (.var 2) (.lit (.int 0)))) [.li true p.enc, .va (codeD m rows), .va (sheetD M gs), .un, .un, .un, .un, .un, .un, .un, .un, .un, .un] = .ok (.ol ((plys M).map .int), [.li true p.enc, .va (codeD m rows), .va (sheetD M gs), .un, .un, .un, .un, .un, .un, .un, .un, .un, .un]) := by
    have := je_rgl (F := evD tab (n + 8)) (t := false) (env := [.li true p.enc, .va (codeD m rows), .va (sheetD M gs), .un, .un, .un, .un, .un, .un, .un, .un, .un, .un]) (a := .idx (.var 2) (.lit (.int 0))) (n := M) (je_idx (je_var rfl) je_lit rfl rfl ix_0) (by omega)
    rw [this, if_neg (by simp), Int.toNat_natCast, rngL_plys]
  have s1 := js_par (F := evD tab (n + 8)) (env := [.li true p.enc, .va (codeD m rows), .va (sheetD M gs), .un, .un, .un, .un, .un, .un, .un, .un, .un, .un]) (ks := [(3, true), (4, true)]) (jn_cons e2 (jn_cons (je_lst jv_nil rfl rfl) jn_nil)) rfl
  have hadd : binD .Add (.lst (ys.map .int)) (.lst [.int M]) = some (.ol ((ys ++ [(M : Int)]).map .int)) := by
    rw [addL (by rw [List.length_map]; simp; omega), List.map_append]; rfl
  have s3 := js_par (F := evD tab (n + 8)) (env := [.li true q.enc, .va (codeD m rows), .va (sheetD M gs), .li false [], .li false (ys.map .int), .un, .un, .un, .un, .un, .un, .un, .un]) (ks := [(4, false), (5, true)]) (jn_cons (je_bin (je_varL (i := 4) rfl) (je_lst (jv_cons (je_idx (a := .var 2) (b := .lit (.int 0)) (je_var rfl) je_lit rfl rfl ix_0) jv_nil) rfl (fits_lt (by simp only [List.length_cons, List.length_nil]; omega))) rfl rfl hadd) (jn_cons (je_lst jv_nil rfl rfl) jn_nil)) rfl
  generalize hLL : (ys ++ [(M : Int)]).map D.int = LL at *
  generalize hsg : ledBy M ys = s at *
  obtain ⟨env, f1, G, s6, s7, s8, s9, s10, hG, rfl, o6, b7, b8, b9, b10, b6⟩ := for_evI (F := evD tab (n + 8)) (t := .tup (.cons (.nm 6) (.cons (.nm 7) (.cons (.nm 8) .nil)))) (it := (.seq (.idx (.var 2) (.lit (.int 1))))) (b := (.cons (.par [(9, false), (10, false)] (.cons (.idx (.var 4) (.var 6)) (.cons (.idx (.var 4) (.var 7)) .nil))) (.cons (.expr (.me .append (.var 5) (.cons (.ife (.e (.cmp .Lt (.var 9) (.var 10))) (.tup (.cons (.var 9) (.cons (.var 10) (.cons (.var 8) .nil)))) (.tup (.cons (.var 10) (.cons (.var 9) (.cons (.bin .Sub (.lit (.int 2)) (.var 8)) .nil))))) .nil))) .nil))) (env := [.li true q.enc, .va (codeD m rows), .va (sheetD M gs), .li false [], .va (.lst LL), .li false [], .un, .un, .un, .un, .un, .un, .un]) (fun _ g => Game.enc g)
    (fun pre env => ∃ (G : List D) (s6 s7 s8 s9 s10 : Sl), G = (pre.map (flip s)).map Game.enc ∧ env = [.li true q.enc, .va (codeD m rows), .va (sheetD M gs), .li false [], .va (.lst LL), .li false G, s6, s7, s8, s9, s10, .un, .un] ∧ s6.own = false ∧ s7.bor = false ∧ s8.bor = false ∧ s9.bor = false ∧ s10.bor = false ∧ s6.bor = false) (xs := gs)
    (jw_seq (je_idx (je_var rfl) je_lit rfl rfl ix_1) rfl rfl) (idm_map _ 0 _) ⟨[], .un, .un, .un, .un, .un, rfl, rfl, rfl, rfl, rfl, rfl, rfl, rfl⟩ (by
      rintro pre g post env he ⟨G, s6, s7, s8, s9, s10, hG, rfl, o6, b7, b8, b9, b10, b6⟩
      obtain ⟨⟨g1, g2⟩, ⟨a1, a2⟩, ht⟩ := hs.game g (mem_mid he)
      have hGl : G.length < 1000000 := by
        rw [hG, List.length_map, List.length_map]
        rw [he, List.length_append] at hlen; omega
      have i1 := hix g.a ⟨a1, by omega⟩
      have i2 := hix g.b ⟨by omega, g2⟩
      have x1 : asgT (evD tab (n + 8)) (.tup (.cons (.nm 6) (.cons (.nm 7) (.cons (.nm 8) .nil)))) g.enc [.li true q.enc, .va (codeD m rows), .va (sheetD M gs), .li false [], .va (.lst LL), .li false G, s6, s7, s8, s9, s10, .un, .un] = .ok [.li true q.enc, .va (codeD m rows), .va (sheetD M gs), .li false [], .va (.lst LL), .li false G, .va (.int g.a), .va (.int g.b), .va (.int g.t), s9, s10, .un, .un] := by
        simp [Game.enc, asgT, asgTs, sto, bor, b6, b7, b8]
      have x2 : ∀ u v, parS [.li true q.enc, .va (codeD m rows), .va (sheetD M gs), .li false [], .va (.lst LL), .li false G, .va (.int g.a), .va (.int g.b), .va (.int g.t), s9, s10, .un, .un] [(9, false), (10, false)] [.va u, .va v] = .ok [.li true q.enc, .va (codeD m rows), .va (sheetD M gs), .li false [], .va (.lst LL), .li false G, .va (.int g.a), .va (.int g.b), .va (.int g.t), .va u, .va v, .un, .un] := by
        intro u v
        simp [parS, sto, bor, b9, b10, slotOf]
      have x3 : evE (evD tab (n + 8)) (.ife (.e (.cmp .Lt (.var 9) (.var 10))) (.tup (.cons (.var 9) (.cons (.var 10) (.cons (.var 8) .nil)))) (.tup (.cons (.var 10) (.cons (.var 9) (.cons (.bin .Sub (.lit (.int 2)) (.var 8)) .nil))))) [.li true q.enc, .va (codeD m rows), .va (sheetD M gs), .li false [], .va (.lst LL), .li false G, .va (.int g.a), .va (.int g.b), .va (.int g.t), .va (.int (s g.a)), .va (.int (s g.b)), .un, .un] = .ok (.va (flip s g).enc, [.li true q.enc, .va (codeD m rows), .va (sheetD M gs), .li false [], .va (.lst LL), .li false G, .va (.int g.a), .va (.int g.b), .va (.int g.t), .va (.int (s g.a)), .va (.int (s g.b)), .un, .un]) := by
        rw [flip_enc]
        by_cases hlt : s g.a < s g.b
        · rw [if_pos hlt]
          refine je_ife (q := true) (jt_e (je_cmp (je_var rfl) (je_var rfl) rfl rfl (show some (decide _) = some true by rw [decide_eq_true hlt])) rfl rfl) ?_
          rw [if_pos rfl]
          exact je_tup (jv_cons (je_var rfl) (jv_cons (je_var rfl) (jv_cons (je_var rfl) jv_nil))) rfl (fits_lt (by simp only [List.length_cons, List.length_nil]; omega))
        · rw [if_neg hlt]
          refine je_ife (q := false) (jt_e (je_cmp (je_var rfl) (je_var rfl) rfl rfl (show some (decide _) = some false by rw [decide_eq_false hlt])) rfl rfl) ?_
          rw [if_neg (by simp)]
          exact je_tup (jv_cons (je_var rfl) (jv_cons (je_var rfl) (jv_cons (je_bin je_lit (je_var rfl) rfl rfl rfl) jv_nil))) rfl (fits_lt (by simp only [List.length_cons, List.length_nil]; omega))
      refine ⟨_, _, x1, jq_cons (js_par (jn_cons (je_idx (je_var rfl) (je_var rfl) rfl rfl i1) (jn_cons (je_idx (je_var rfl) (je_var rfl) rfl rfl i2) jn_nil)) (x2 _ _)) (jq_cons (js_expr (je_meM (je_varL rfl) rfl rfl (jv_cons x3 jv_nil) rfl rfl rfl (append_ok hGl) rfl)) jq_nil), ⟨G ++ [(flip s g).enc], _, _, _, _, _, by rw [hG]; simp, rfl, rfl, rfl, rfl, rfl, rfl, rfl⟩⟩)
  have hs2 := okSheet_flip hld hs
  have hall := led_all hld h.base hs
  have c1 := call25 (n := n) (F := evD tab (n + 8)) (env := [.li true q.enc, .va (codeD m rows), .va (sheetD M gs), .li false [], .va (.lst LL), .li false G, s6, s7, s8, s9, s10, .un, .un]) (a := .var 1) (b := .var 2) (c := .bi .len (.cons (.idx (.var 1) (.lit (.int 2))) .nil)) (k := rows.length) rfl h hm hs (Nat.le_refl _) (je_var rfl) (je_var rfl) (je_bi (jv_cons (je_idx (je_var rfl) je_lit rfl rfl ix_2) jv_nil) rfl (by rw [lenT, List.length_map]))
  have c2 := call25 (n := n) (F := evD tab (n + 8)) (env := [.li true q.enc, .va (codeD m rows), .va (sheetD M gs), .li false [], .va (.lst LL), .li false G, s6, s7, s8, s9, s10, .un, .un]) (a := .var 1) (b := .tup (.cons (.idx (.var 2) (.lit (.int 0))) (.cons (.bi .tuple (.cons (.var 5) .nil)) .nil))) (c := .bi .len (.cons (.idx (.var 1) (.lit (.int 2))) .nil)) (k := rows.length) (gs := gs.map (flip s)) rfl h hm hs2 (Nat.le_refl _) (je_var rfl) (by
      rw [hG]
      exact je_tup (jv_cons (je_idx (je_var rfl) je_lit rfl rfl ix_0) (jv_cons (je_bi (jv_cons (je_varL rfl) jv_nil) rfl rfl) jv_nil)) rfl (fits_lt (by simp only [List.length_cons, List.length_nil]; omega))) (je_bi (jv_cons (je_idx (je_var rfl) je_lit rfl rfl ix_2) jv_nil) rfl (by rw [lenT, List.length_map]))
  rw [List.take_length] at c1 c2
  have hcnt0 := lots_cnt (gs := gs) (M := M) h.base.row (by have := hs.mm.1; omega)
  have hst := run_ok (gs := gs) (M := M) h.base.row
  have hst2 := run_ok (gs := gs.map (flip s)) (M := M) h.base.row
  generalize runS M m gs rows = S1 at *
  generalize runS M m (gs.map (flip s)) rows = S2 at *
  generalize hd1 : stD M rows.length S1.cs S1.lots = d1 at *
  generalize hd2 : stD M rows.length S2.cs S2.lots = d2 at *
  have s5 : evS (evD tab (n + 8)) (.par [(9, false), (10, false)] (.cons (.call 25 (.cons (.var 1) (.cons (.var 2) (.cons (.bi .len (.cons (.idx (.var 1) (.lit (.int 2))) .nil)) .nil)))) (.cons (.call 25 (.cons (.var 1) (.cons (.tup (.cons (.idx (.var 2) (.lit (.int 0))) (.cons (.bi .tuple (.cons (.var 5) .nil)) .nil))) (.cons (.bi .len (.cons (.idx (.var 1) (.lit (.int 2))) .nil)) .nil)))) .nil))) [.li true q.enc, .va (codeD m rows), .va (sheetD M gs), .li false [], .va (.lst LL), .li false G, s6, s7, s8, s9, s10, .un, .un] = .ok (.nx, [.li true q.enc, .va (codeD m rows), .va (sheetD M gs), .li false [], .va (.lst LL), .li false G, s6, s7, s8, .va d1, .va d2, .un, .un]) :=
    js_par (jn_cons c1 (jn_cons c2 jn_nil)) (by simp [parS, sto, bor, b9, b10, slotOf])
  have k1 : idxD d1 (.int 1) = some (colsD M S1.cs) := by rw [← hd1]; rfl
  have k2 : idxD d2 (.int 1) = some (colsD M S2.cs) := by rw [← hd2]; rfl
  have k3 : idxD d1 (.int 2) = some (lotsD S1.lots) := by rw [← hd1]; rfl
  have k4 : idxD d2 (.int 2) = some (lotsD S2.lots) := by rw [← hd2]; rfl
  have cl := hst.len
  have hlm := h.cols.2
  obtain ⟨env, f2, t7, t11, rfl, c7, c11⟩ := for_evI (F := evD tab (n + 8)) (t := .tup (.cons (.nm 11) (.cons (.nm 7) .nil))) (it := (.zip (.idx (.var 9) (.lit (.int 1))) (.idx (.var 10) (.lit (.int 1))))) (b := (.cons (.ifs (.or (.e (.cmp .NotEq (.isN false (.var 11)) (.isN false (.var 7)))) (.and (.e (.isN true (.var 11))) (.e (.cmp .NotEq (.comp (.idx (.var 7) (.idx (.var 4) (.var 6))) (.nm 6) (.rng1 (.idx (.var 2) (.lit (.int 0)))) .no [("one", 6)]) (.bi .list (.cons (.var 11) .nil)))))) (.cons (.ret (.lit (.bl false))) .nil) .nil) .nil)) (env := [.li true q.enc, .va (codeD m rows), .va (sheetD M gs), .li false [], .va (.lst LL), .li false G, s6, s7, s8, .va d1, .va d2, .un, .un]) (fun _ o => .tup [ocol M o.1, ocol M o.2])
    (fun _ env => ∃ s7 s11 : Sl, env = [.li true q.enc, .va (codeD m rows), .va (sheetD M gs), .li false [], .va (.lst LL), .li false G, s6, s7, s8, .va d1, .va d2, s11, .un] ∧ s7.bor = false ∧ s11.bor = false) (xs := S1.cs.zip S2.cs)
    (jw_zip (je_idx (je_var rfl) je_lit rfl rfl k1) (je_idx (je_var rfl) je_lit rfl rfl k2) rfl rfl rfl rfl) (by rw [zipL_map, ← idm_map]) ⟨s7, .un, rfl, b7, rfl⟩ (by
      rintro pre ⟨o, o'⟩ post env he ⟨s7, s11, rfl, b7, b11⟩
      have hrel : rel1 M s o o' := by
        have hget : (S1.cs.zip S2.cs)[pre.length]? = some (o, o') := by rw [he]; simp
        rw [List.getElem?_zip_eq_some] at hget
        exact hall.cs _ _ _ hget.1 hget.2
      have x1 : asgT (evD tab (n + 8)) (.tup (.cons (.nm 11) (.cons (.nm 7) .nil))) (.tup [ocol M o, ocol M o']) [.li true q.enc, .va (codeD m rows), .va (sheetD M gs), .li false [], .va (.lst LL), .li false G, s6, s7, s8, .va d1, .va d2, s11, .un] = .ok [.li true q.enc, .va (codeD m rows), .va (sheetD M gs), .li false [], .va (.lst LL), .li false G, s6, .va (ocol M o'), s8, .va d1, .va d2, .va (ocol M o), .un] := by
        simp [asgT, asgTs, sto, bor, b7, b11]
      refine ⟨_, _, x1, ?_, ⟨.va (ocol M o'), .va (ocol M o), rfl, rfl, rfl⟩⟩
      cases o with
      | none =>
        cases o' with
        | some f' => exact absurd hrel id
        | none => exact jq_cons (if_f (jt_or (jt_e (je_cmp (je_isN (je_var rfl)) (je_isN (je_var rfl)) rfl rfl rfl) rfl rfl) (jt_andF (jt_e (je_isN (je_var rfl)) rfl rfl))) jq_nil) jq_nil
      | some f =>
        cases o' with
        | none => exact absurd hrel id
        | some f' =>
          have hrel : ∀ p : Int, 0 ≤ p ∧ p < M → f' (s p) = f p := hrel
          have cc := comp_evY (F := evD tab (n + 8)) (a := (.idx (.var 7) (.idx (.var 4) (.var 6)))) (tg := .nm 6) (it := .rng1 (.idx (.var 2) (.lit (.int 0)))) (own := [("one", 6)]) (env := [.li true q.enc, .va (codeD m rows), .va (sheetD M gs), .li false [], .va (.lst LL), .li false G, s6, .va (ocol M (some f')), s8, .va d1, .va d2, .va (ocol M (some f)), .un]) (xs := plys M) .int (fun p => .int (f p))
            (jw_rng1 (n := M) (je_idx (je_var rfl) je_lit rfl rfl ix_0) (by omega)) (by rw [Int.toNat_natCast, rngL_plys]) (by simp [plainAt, o6]) (plys_small hM1) (by
              intro p hp
              have hp := mem_plys.mp hp
              have i1 := hix p ⟨hp.1, by omega⟩
              have i2 := ix_col (f := f') (hld.rng hp)
              rw [hrel p hp] at i2
              exact ⟨[.li true q.enc, .va (codeD m rows), .va (sheetD M gs), .li false [], .va (.lst LL), .li false G, .va (.int p), .va (ocol M (some f')), s8, .va d1, .va d2, .va (ocol M (some f)), .un], _, rfl, rfl, rfl, je_idx (je_var rfl) (je_idx (je_var rfl) (je_var rfl) rfl rfl i1) rfl rfl i2, rfl⟩) rfl
          have hne : cmpD .NotEq (.lst ((plys M).map fun p => .int (f p))) (.lst ((plys M).map fun p => .int (f p))) = some false := by
            refine ne_self (lay_lst fun x hx => ?_) rfl
            obtain ⟨p, _, rfl⟩ := List.mem_map.mp hx; rfl
          exact jq_cons (if_f (jt_or (jt_e (je_cmp (je_isO (je_var rfl) (by simp [ocol])) (je_isO (je_var rfl) (by simp [ocol])) rfl rfl rfl) rfl rfl) (jt_and (jt_e (je_isO (je_var rfl) (by simp [ocol])) rfl rfl) (jt_e (je_cmp cc (je_bi (jv_cons (je_var rfl) jv_nil) rfl rfl) rfl rfl hne) rfl rfl))) jq_nil) jq_nil)
  have hcnt : S1.lots.length < 1000000 := by omega
  have cA := comp_evY (F := evD tab (n + 8)) (a := (.bi .sorted (.cons (.comp (.idx (.var 4) (.var 6)) (.nm 6) (.seq (.var 12)) .no [("one", 6)]) .nil))) (tg := .nm 12) (it := .seq (.idx (.var 9) (.lit (.int 2)))) (own := [("lot", 12)]) (env := [.li true q.enc, .va (codeD m rows), .va (sheetD M gs), .li false [], .va (.lst LL), .li false G, s6, t7, s8, .va d1, .va d2, t11, .un]) (xs := S1.lots) lotD (fun l => .lst ((ledL s l).map .int))
    (jw_seq (je_idx (je_var rfl) je_lit rfl rfl k3) rfl rfl) rfl rfl hcnt (by
      intro l hl
      have hll := lot_len hst.lots hl
      have cc := comp_evY (F := evD tab (n + 8)) (a := .idx (.var 4) (.var 6)) (tg := .nm 6) (it := .seq (.var 12)) (own := [("one", 6)]) (env := [.li true q.enc, .va (codeD m rows), .va (sheetD M gs), .li false [], .va (.lst LL), .li false G, s6, t7, s8, .va d1, .va d2, t11, .va (lotD l)]) (xs := l) .int (fun p => .int (s p))
        (jw_seq (je_var rfl) rfl rfl) rfl (by simp [plainAt, o6]) (by omega) (by
          intro p hp
          have hp := lot_mem hst.lots hl hp
          have i1 := hix p ⟨hp.1, by omega⟩
          exact ⟨[.li true q.enc, .va (codeD m rows), .va (sheetD M gs), .li false [], .va (.lst LL), .li false G, .va (.int p), t7, s8, .va d1, .va d2, t11, .va (lotD l)], _, rfl, rfl, rfl, je_idx (je_var rfl) (je_var rfl) rfl rfl i1, rfl⟩) rfl
      have hmap : (l.map fun p => D.int (s p)) = (l.map s).map .int := by rw [List.map_map]; rfl
      rw [hmap] at cc
      exact ⟨[.li true q.enc, .va (codeD m rows), .va (sheetD M gs), .li false [], .va (.lst LL), .li false G, s6, t7, s8, .va d1, .va d2, t11, .va (lotD l)], _, rfl, rfl, rfl, je_bi (jv_cons cc jv_nil) rfl (sorted_ok (by rw [List.length_map]; omega)), rfl⟩) rfl
  have cB := comp_evY (F := evD tab (n + 8)) (a := .bi .list (.cons (.var 12) .nil)) (tg := .nm 12) (it := .seq (.idx (.var 10) (.lit (.int 2)))) (own := [("lot", 12)]) (env := [.li true q.enc, .va (codeD m rows), .va (sheetD M gs), .li false [], .va (.lst LL), .li false G, s6, t7, s8, .va d1, .va d2, t11, .un]) (xs := S2.lots) lotD (fun l => .lst (l.map .int))
    (jw_seq (je_idx (je_var rfl) je_lit rfl rfl k4) rfl rfl) rfl rfl (by rw [hall.lots, List.length_map]; exact hcnt) (by
      intro l hl
      exact ⟨[.li true q.enc, .va (codeD m rows), .va (sheetD M gs), .li false [], .va (.lst LL), .li false G, s6, t7, s8, .va d1, .va d2, t11, .va (lotD l)], _, rfl, rfl, rfl, je_bi (jv_cons (je_var rfl) jv_nil) rfl rfl, rfl⟩) rfl
  have hsame : (S2.lots.map fun l => D.lst (l.map .int)) = S1.lots.map fun l => D.lst ((ledL s l).map .int) := by rw [hall.lots, List.map_map]; rfl
  rw [hsame] at cB
  have heq : cmpD .Eq (.lst (S1.lots.map fun l => D.lst ((ledL s l).map .int))) (.lst (S1.lots.map fun l => D.lst ((ledL s l).map .int))) = some true := by
    refine eq_self' (lay_lst fun x hx => ?_) rfl
    obtain ⟨l, _, rfl⟩ := List.mem_map.mp hx
    exact lay_ints 47 _
  refine ⟨q, ?_⟩
  apply fin_rt
  · exact st_nx s1 (st_nx hw (st_nx s3 (st_nx f1 (st_nx s5 (st_nx f2 (st_rt (js_ret (je_cmp cA cB rfl rfl heq))))))))
  · rfl
  · rfl
end DI.K77
end

section
set_option Elab.async false
set_option linter.all false
set_option maxRecDepth 100000
set_option pp.maxSteps 800
/-! k77: the plain law, part 27: the law. -/
namespace DI.K77
open PySem L2
theorem law_ok (ns : List Int) (h : ns.length ≤ 63) : ∃ r, evD tab 12 lawIx [.va (.scr (ns.map .int))] = .ok (.va (.bl true), r) := by
  show ∃ r, evD tab (11 + 1) 39 [.va (.scr (ns.map .int))] = .ok (.va (.bl true), r)
  rw [opn (T := tab) (f := 39) _ 1 4 b_law rfl rfl]; unfold b_law; simp only [List.replicate, List.cons_append, List.nil_append, List.singleton_append]
  obtain ⟨p1, h1⟩ := law_pot_i 10 ns 0 (by omega)
  obtain ⟨p2, h2⟩ := law_pot_i 10 ns 1 (by omega)
  obtain ⟨m, rows, p3, h3, hcode, hm⟩ := law_code_i 7 p1
  obtain ⟨M, gs, p4, h4, hsheet⟩ := law_sheet_i 9 p2
  obtain ⟨p5, h5⟩ := law_reached_i 2 p3
  have h6 := law_kept_i 2 m rows M gs hcode hm hsheet
  obtain ⟨p7, h7⟩ := law_turned_i 2 p4 m rows M gs hcode hm hsheet
  obtain ⟨p8, h8⟩ := law_led_i 2 p7 m rows M gs hcode hm hsheet
  have s1 := js_par (F := evD tab 11) (env := [.va (.scr (ns.map .int)), .un, .un, .un, .un]) (ks := [(1, true), (2, true)]) (jn_cons (je_call (f := 27) (jv_cons (je_var (i := 0) rfl) (jv_cons (je_lit (d := .int 0)) jv_nil)) rfl rfl h1 rfl) (jn_cons (je_call (f := 27) (jv_cons (je_var (i := 0) rfl) (jv_cons (je_lit (d := .int 1)) jv_nil)) rfl rfl h2 rfl) jn_nil)) rfl
  have s2 := js_par (F := evD tab 11) (env := [.va (.scr (ns.map .int)), .li false p1.enc, .li false p2.enc, .un, .un]) (ks := [(3, false), (4, false)]) (jn_cons (je_call (f := 33) (jv_cons (je_varL (i := 1) rfl) (jv_cons (je_lit (d := .int 10)) jv_nil)) rfl rfl h3 rfl) (jn_cons (je_call (f := 30) (jv_cons (je_varL (i := 2) rfl) (jv_cons (je_lit (d := .int 14)) jv_nil)) rfl rfl h4 rfl) jn_nil)) rfl
  have s3 : evS (evD tab 11) (.ifs (.or (.not (.e (.call 35 (.cons (.var 1) .nil)))) (.or (.not (.e (.call 36 (.cons (.var 3) (.cons (.var 4) .nil))))) (.not (.e (.call 37 (.cons (.var 2) (.cons (.var 3) (.cons (.var 4) .nil)))))))) (.cons (.ret (.lit (.bl false))) .nil) .nil) [.va (.scr (ns.map .int)), .li false p3.enc, .li false p4.enc, .va (codeD m rows), .va (sheetD M gs)] = .ok (.nx, [.va (.scr (ns.map .int)), .li false p5.enc, .li false p7.enc, .va (codeD m rows), .va (sheetD M gs)]) := by
    refine if_f (jt_or (jt_not (jt_e (je_call (jv_cons (je_varL rfl) jv_nil) rfl rfl h5 rfl) rfl rfl)) (jt_or (jt_not (jt_e (je_call (jv_cons (je_var rfl) (jv_cons (je_var rfl) jv_nil)) rfl rfl h6 rfl) rfl rfl)) (jt_not (jt_e (je_call (jv_cons (je_varL rfl) (jv_cons (je_var rfl) (jv_cons (je_var rfl) jv_nil))) rfl rfl h7 rfl) rfl rfl)))) jq_nil
  refine ⟨[.un], ?_⟩
  apply fin_rt
  · exact st_nx s1 (st_nx s2 (st_nx s3 (st_rt (js_ret (je_call (jv_cons (je_varL rfl) (jv_cons (je_var rfl) (jv_cons (je_var rfl) jv_nil))) rfl rfl h8 rfl)))))
  · rfl
  · rfl
end DI.K77
end

section
set_option Elab.async false
set_option linter.all false
set_option maxRecDepth 100000
set_option maxHeartbeats 0
/-! k77: the end. -/
namespace DI.K77
open PySem PySem.Spec PyProof.Rows L2
theorem run (w : World) : HandSHeadRun.RunEq R (PySem.W.view R.prog [lawAt]) hk ob 6000 loose w := PySem.W.byRow2 "special-get-raises" run0 run1 w
theorem zip_at {α β : Type} {p : α × β → Bool} : ∀ {l : List α} {m : List β}, (l.zip m).all p = true → ∀ (i : Nat) (a : α) (b : β), l[i]? = some a → m[i]? = some b → p (a, b) = true
  | [], _, _, i, a, b, h, _ => by simp at h
  | _ :: _, [], _, i, a, b, _, h => by simp at h
  | x :: l, y :: m, h, 0, a, b, h1, h2 => by
    have e1 : x = a := by simpa using h1
    have e2 : y = b := by simpa using h2
    subst e1 e2
    exact (all_cons h).1
  | x :: l, y :: m, h, i + 1, a, b, h1, h2 => zip_at (all_cons (show ((x, y) :: l.zip m).all p = true from h)).2 i a b (by simpa using h1) (by simpa using h2)
theorem allD : AllD G S tab := ⟨by decide +kernel, fun f s d h1 h2 => zip_at chk_all f s d h1 h2, bind_all, rfl⟩
end DI.K77
open PySem PySem.W PySem.Calls PyProof.Rows
theorem PySem.Challenge.cw_contesthouse_k77_whole_bounds_reached_an_holds : PySem.Challenge.rw_contesthouse_k77_whole_bounds_reached_an.Holds := by
  w_on; o_law
  refine HandSHeadRun.head_any (r := OpenLaw.row PySem.Challenge.rw_contesthouse_k77_whole_bounds_reached_an) (q := view (OpenLaw.row PySem.Challenge.rw_contesthouse_k77_whole_bounds_reached_an).prog [DI.K77.lawAt]) (H := DI.K77.hk) (ob := DI.K77.ob) (M := 6000) (loose := DI.K77.loose)
    (d := HandSHeadRun.topDef (OpenLaw.row PySem.Challenge.rw_contesthouse_k77_whole_bounds_reached_an).prog DI.K77.lawAt) (kwd := []) DI.K77.ob_eq (by kernel_rfl) (fun s => by kernel_rfl) DI.K77.run (by kernel_rfl) (by kernel_rfl) (by kernel_rfl) (by rfl) (by first | assumption | decide +kernel) (by decide +kernel) ⟨rfl, rfl, rfl, rfl, rfl, by decide +kernel⟩ ?left ?walk
  case left => w_witness2
  case walk =>
    refine DI.walkG (l := PySem.Challenge.rw_contesthouse_k77_whole_bounds_reached_an) (n := 63) (k := 12) (i := DI.K77.lawIx) (G := DI.K77.G) (S := DI.K77.S) (T := DI.K77.tab) (s := DI.K77.dS 66 "law" ["script", "pot", "late", "code", "sheet"] ["script"]) (x := "script") rfl (by decide) (by kernel_rfl) ⟨rfl, by decide, by decide⟩ DI.K77.allD (by rfl) rfl (by kernel_rfl) (fun w mg h Y N => ?_) DI.K77.law_ok
    obtain ⟨K, KX, c⟩ := Y
    exact ⟨K, KX, DI.modK_of KX N c⟩
end
