import PyProof.Rows.All
import Wide.All
import OpenK.AllK
import Wide.FinOn
import KE.KStateDown
import KE.KTupSum
import KE.KSortTupG
import KE.GoesEnum
import KE.GoesMore
import HandS.TupSets
import Lean
import HandS.Base
import HandS.Call
import HandS.List
import HandS.Comp
import HandS.Dict
import HandS.Iter
import HandS.Zip
import HandS.TupAny
import HandS.TupMul
import HandS.TupLe
import HandS.Conv
import HandS.Ends
import HandS.More
import HandS.Words
import HandS.WordsList
import HandS.WordsExc
import HandS.Exc
import HandS.ExcOwn
import HandS.ExcIs
import HandS.TryOnly
import HandS.Defaults
import HandS.Head0
import HandS.Head1
import HandS.Head2
import HandS.HeadEnd
import HandS.HeadHook1
import HandS.HeadHook2
import PySem.Challenge.RW_lamprota_k54_deeds_refused
set_option Elab.async false
set_option linter.all false
set_option maxRecDepth 100000
set_option maxHeartbeats 4000000
namespace Lp
open PySem PySem.Spec PyProof.Rows L2
/-! ## A layer of data over HandS: what no one changes is a datum, whatever its address; what a def changes stands in a small store of its own. -/
inductive D where
  | non | bl (b : Bool) | int (i : Int) | str (z : Str)
  | tup (ds : List D) | lst (ds : List D)
  | dk (kvs : List (Int × D)) | dt (kvs : List (List Int × D))
  | scr (ns : List Int) | exc (c : Addr) | wat (ds : List D)

/-- S: addresses that are others' to change; α: those that the def at hand changes -/
structure Wd where
  S : Addr → Prop
  α : List Addr
  H : Hp
abbrev Wd.to (w : Wd) (H : Hp) : Wd := ⟨w.S, w.α, H⟩
/-- p left out -/
abbrev Wd.av (w : Wd) (p : Addr) (H : Hp) : Wd := ⟨fun a => w.S a ∨ a = p, w.α, H⟩

def Fz (w : Wd) (a : Addr) (o : HO) : Prop := ¬ w.S a ∧ a ∉ w.α ∧ w.H a = some o
def dkv (ks : List Int) (vs : List V) : List (Key × V) := (ks.map fun k => (Sum.inl k : Key)).zip vs
def dtv (ks : List (List Int)) (vs : List V) : List (List Key × V) := (ks.map fun k => k.map fun i => (Sum.inl i : Key)).zip vs
/-- an exception's object, kept -/
def CxO (cls : Value) (a : Addr) : HO := .ext fun h => ∃ (oe : Obj) (vs : Array Value), h.get? a = some oe ∧ Zc cls none oe ∧ oe.data = .fields vs

/-- a list of the written part -/
def KLst (K : PySem.W.Frag) (a : Addr) (xs : List V) : Prop := ∃ (o : Obj) (its : Array Value) (n : Nat), K.lookup a = some o ∧ o.cls = .type "list" ∧ o.dict = none ∧ o.data = .seq its n ∧ its.size ≤ sizeLine ∧ Vals xs its.toList

/-- the class of the watches -/
def wC (K : PySem.W.Frag) : Addr := He.ga K "Watch"
mutual
inductive Rep (K : PySem.W.Frag) (w : Wd) : V → D → Prop where
  | non : Rep K w .non .non
  | bl (b : Bool) : Rep K w (.bl b) (.bl b)
  | int (i : Int) : Rep K w (.int i) (.int i)
  | str (z : Str) : Rep K w (.str z) (.str z)
  | tup {a : Addr} {vs : List V} {ds : List D} : Fz w a (.tup vs) → Reps K w vs ds → Rep K w (.ref a) (.tup ds)
  | lst {a : Addr} {vs : List V} {ds : List D} : Fz w a (.lst vs) → Reps K w vs ds → Rep K w (.ref a) (.lst ds)
  | dk {a : Addr} {vs : List V} {kvs : List (Int × D)} : Fz w a (.dK (dkv (kvs.map (·.1)) vs)) → Reps K w vs (kvs.map (·.2)) → Rep K w (.ref a) (.dk kvs)
  | dt {a : Addr} {vs : List V} {kvs : List (List Int × D)} : Fz w a (.dT (dtv (kvs.map (·.1)) vs)) → Reps K w vs (kvs.map (·.2)) → Rep K w (.ref a) (.dt kvs)
  | scrF {a : Addr} {o : Obj} {ns : List Int} : Fz w a (.frz o (.lst (ns.map V.int))) → Rep K w (.ref a) (.scr ns)
  | scrK {a : Addr} {ns : List Int} : KLst K a (ns.map V.int) → Rep K w (.ref a) (.scr ns)
  | exc {a c : Addr} : Fz w a (CxO (.ref c) a) → Rep K w (.ref a) (.exc c)
  | wat {a dx l : Addr} {vs : List V} {ds : List D} : Fz w a (.ins (wC K) dx [("states", .ref l)]) → Fz w l (.lst vs) → Reps K w vs ds → Rep K w (.ref a) (.wat ds)
inductive Reps (K : PySem.W.Frag) (w : Wd) : List V → List D → Prop where
  | nil : Reps K w [] []
  | cons {v : V} {d : D} {vs : List V} {ds : List D} : Rep K w v d → Reps K w vs ds → Reps K w (v :: vs) (d :: ds)
end

/-- whatever stands still in w stands still in w' -/
def Fle (w w' : Wd) : Prop := (∀ a, ¬ w.S a → a ∉ w.α → (∃ o, w.H a = some o) → (¬ w'.S a ∧ a ∉ w'.α ∧ w'.H a = w.H a))
theorem Fle.fz {w w' : Wd} (h : Fle w w') {a : Addr} {o : HO} (f : Fz w a o) : Fz w' a o := by
  obtain ⟨h1, h2, h3⟩ := h a f.1 f.2.1 ⟨o, f.2.2⟩
  exact ⟨h1, h2, h3.trans f.2.2⟩
section
variable {K : PySem.W.Frag} {w w' : Wd}
mutual
theorem Rep.mono (h : Fle w w') : ∀ {v : V} {d : D}, Rep K w v d → Rep K w' v d
  | _, _, .non => .non
  | _, _, .bl b => .bl b
  | _, _, .int i => .int i
  | _, _, .str z => .str z
  | _, _, .tup f r => .tup (h.fz f) (Reps.mono h r)
  | _, _, .lst f r => .lst (h.fz f) (Reps.mono h r)
  | _, _, .dk f r => .dk (h.fz f) (Reps.mono h r)
  | _, _, .dt f r => .dt (h.fz f) (Reps.mono h r)
  | _, _, .scrF f => .scrF (h.fz f)
  | _, _, .scrK f => .scrK f
  | _, _, .exc f => .exc (h.fz f)
  | _, _, .wat f g r => .wat (h.fz f) (h.fz g) (Reps.mono h r)
theorem Reps.mono (h : Fle w w') : ∀ {vs : List V} {ds : List D}, Reps K w vs ds → Reps K w' vs ds
  | _, _, .nil => .nil
  | _, _, .cons a b => .cons (Rep.mono h a) (Reps.mono h b)
end
/-! ### lists of data -/
theorem Reps.length : ∀ {vs : List V} {ds : List D}, Reps K w vs ds → vs.length = ds.length
  | _, _, .nil => rfl
  | _, _, .cons _ r => congrArg (· + 1) r.length
theorem Reps.get : ∀ {vs : List V} {ds : List D} {i : Nat} {d : D}, Reps K w vs ds → ds[i]? = some d → ∃ v, vs[i]? = some v ∧ Rep K w v d
  | _, _, _, _, .nil, e => by simp at e
  | _, _, 0, _, .cons r _, e => by simp at e; subst e; exact ⟨_, rfl, r⟩
  | _, _, i + 1, d, .cons _ t, e => by
    obtain ⟨u, h1, h2⟩ := Reps.get (i := i) (d := d) t (by simpa using e)
    exact ⟨u, by simpa using h1, h2⟩
theorem Reps.getV : ∀ {vs : List V} {ds : List D} {i : Nat} {v : V}, Reps K w vs ds → vs[i]? = some v → ∃ d, ds[i]? = some d ∧ Rep K w v d
  | _, _, _, _, .nil, e => by simp at e
  | _, _, 0, _, .cons r _, e => by simp at e; subst e; exact ⟨_, rfl, r⟩
  | _, _, i + 1, v, .cons _ t, e => by
    obtain ⟨u, h1, h2⟩ := Reps.getV (i := i) (v := v) t (by simpa using e)
    exact ⟨u, by simpa using h1, h2⟩
theorem Reps.append : ∀ {vs us : List V} {ds es : List D}, Reps K w vs ds → Reps K w us es → Reps K w (vs ++ us) (ds ++ es)
  | _, _, _, _, .nil, s => s
  | _, _, _, _, .cons r t, s => .cons r (t.append s)
theorem Reps.take : ∀ {vs : List V} {ds : List D} (n : Nat), Reps K w vs ds → Reps K w (vs.take n) (ds.take n)
  | _, _, 0, _ => .nil
  | _, _, _ + 1, .nil => .nil
  | _, _, n + 1, .cons r t => .cons r (t.take n)
theorem Reps.drop : ∀ {vs : List V} {ds : List D} (n : Nat), Reps K w vs ds → Reps K w (vs.drop n) (ds.drop n)
  | _, _, 0, r => r
  | _, _, _ + 1, .nil => .nil
  | _, _, n + 1, .cons _ t => t.drop n
theorem Reps.set {v : V} {d : D} (r : Rep K w v d) : ∀ {vs : List V} {ds : List D} (i : Nat), Reps K w vs ds → Reps K w (vs.set i v) (ds.set i d)
  | _, _, _, .nil => .nil
  | _, _, 0, .cons _ t => .cons r t
  | _, _, i + 1, .cons q t => .cons q (Reps.set r i t)
theorem Reps.reverse : ∀ {vs : List V} {ds : List D}, Reps K w vs ds → Reps K w vs.reverse ds.reverse
  | _, _, .nil => .nil
  | _, _, .cons r t => by
    rw [List.reverse_cons, List.reverse_cons]
    exact (t.reverse).append (.cons r .nil)
theorem Reps.rep {vs : List V} {ds : List D} (h : Reps K w vs ds) : ∀ k : Nat, Reps K w (List.replicate k vs).flatten (List.replicate k ds).flatten
  | 0 => .nil
  | k + 1 => by
    rw [List.replicate_succ, List.flatten_cons, List.replicate_succ, List.flatten_cons]
    exact h.append (Reps.rep h k)
theorem Reps.ints : ∀ {vs : List V} {ns : List Int}, Reps K w vs (ns.map D.int) → vs = ns.map V.int
  | _, [], .nil => rfl
  | _, n :: ns, .cons r t => by
    cases r
    exact congrArg (V.int n :: ·) t.ints
theorem Reps.bls : ∀ {vs : List V} {ns : List Bool}, Reps K w vs (ns.map D.bl) → vs = ns.map V.bl
  | _, [], .nil => rfl
  | _, n :: ns, .cons r t => by
    cases r
    exact congrArg (V.bl n :: ·) t.bls
theorem reps_ints : ∀ {ns : List Int}, Reps K w (ns.map V.int) (ns.map D.int)
  | [] => .nil
  | _ :: _ => .cons (.int _) reps_ints
theorem Reps.of_get : ∀ {vs : List V} {ds : List D}, vs.length = ds.length → (∀ (i : Nat) v d, vs[i]? = some v → ds[i]? = some d → Rep K w v d) → Reps K w vs ds
  | [], [], _, _ => .nil
  | [], _ :: _, h, _ => nomatch h
  | _ :: _, [], h, _ => nomatch h
  | v :: vs, d :: ds, h, f => .cons (f 0 v d rfl rfl) (Reps.of_get (Nat.succ.inj h) fun i v d a b => f (i + 1) v d (by simpa using a) (by simpa using b))
end

/-! ### the store, the names -/
inductive MO where
  | lst (ds : List D) | dk (kvs : List (Int × D)) | dt (kvs : List (List Int × D)) | wat (j : Nat) | ll (js : List Nat)
inductive Sl where
  | no | d (x : D) | r (i : Nat)
def moD (s : List MO) : MO → Option D
  | .lst ds => some (.lst ds)
  | .dk k => some (.dk k)
  | .dt k => some (.dt k)
  | .wat j => (match s[j]? with
    | some (.lst ds) => some (.wat ds)
    | _ => none)
  | .ll _ => none
def Mok (K : PySem.W.Frag) (w : Wd) (a : Addr) : MO → Prop
  | .lst ds => ∃ vs, w.H a = some (.lst vs) ∧ Reps K w vs ds
  | .dk kvs => ∃ vs, w.H a = some (.dK (dkv (kvs.map (·.1)) vs)) ∧ Reps K w vs (kvs.map (·.2))
  | .dt kvs => ∃ vs, w.H a = some (.dT (dtv (kvs.map (·.1)) vs)) ∧ Reps K w vs (kvs.map (·.2))
  | .wat j => ∃ dx l, w.H a = some (.ins (wC K) dx [("states", .ref l)]) ∧ w.α[j]? = some l
  | .ll js => ∃ bs : List Addr, w.H a = some (.lst (bs.map V.ref)) ∧ bs.length = js.length ∧ ∀ (i : Nat) j b, js[i]? = some j → bs[i]? = some b → w.α[j]? = some b
structure Sto (K : PySem.W.Frag) (w : Wd) (s : List MO) : Prop where
  sok : ∀ a, w.S a → w.H a ≠ none
  len : w.α.length = s.length
  nd : w.α.Nodup
  ns : ∀ a ∈ w.α, ¬ w.S a
  mo : ∀ (i : Nat) a o, w.α[i]? = some a → s[i]? = some o → Mok K w a o
def SlOk (K : PySem.W.Frag) (w : Wd) (o : Option V) : Sl → Prop
  | .no => True
  | .d x => ∃ v, o = some v ∧ Rep K w v x
  | .r i => ∃ a, w.α[i]? = some a ∧ o = some (.ref a)
structure EnvR (K : PySem.W.Frag) (w : Wd) (σ : L2.St) (ρ : List Sl) : Prop where
  len : σ.length = ρ.length
  en : ∀ (i : Nat) x, ρ[i]? = some x → ∃ o, σ[i]? = some o ∧ SlOk K w o x
structure Rel (K : PySem.W.Frag) (w : Wd) (σ : L2.St) (ρ : List Sl) (s : List MO) : Prop where
  sto : Sto K w s
  env : EnvR K w σ ρ
/-- read as it stands now: still, or of the store -/
def RepR (K : PySem.W.Frag) (w : Wd) (s : List MO) (v : V) (d : D) : Prop := Rep K w v d ∨ ∃ (i : Nat) (a : Addr) (o : MO), w.α[i]? = some a ∧ v = .ref a ∧ s[i]? = some o ∧ moD s o = some d

section
variable {K : PySem.W.Frag} {w : Wd} {s : List MO} {σ : L2.St} {ρ : List Sl} {H' : Hp}
theorem same_fle (e : Same w.H H') : Fle w (w.to H') := fun a h1 h2 ⟨o, h3⟩ => ⟨h1, h2, by rw [h3]; exact e a o h3⟩
theorem Rep.same {v : V} {d : D} (r : Rep K w v d) (e : Same w.H H') : Rep K (w.to H') v d := r.mono (same_fle e)
theorem Reps.same {vs : List V} {ds : List D} (r : Reps K w vs ds) (e : Same w.H H') : Reps K (w.to H') vs ds := r.mono (same_fle e)
theorem Mok.same {a : Addr} {o : MO} (m : Mok K w a o) (e : Same w.H H') : Mok K (w.to H') a o := by
  cases o with
  | lst ds => obtain ⟨vs, h, r⟩ := m; exact ⟨vs, e _ _ h, r.same e⟩
  | dk ds => obtain ⟨vs, h, r⟩ := m; exact ⟨vs, e _ _ h, r.same e⟩
  | dt ds => obtain ⟨vs, h, r⟩ := m; exact ⟨vs, e _ _ h, r.same e⟩
  | wat j => obtain ⟨dx, l, h, r⟩ := m; exact ⟨dx, l, e _ _ h, r⟩
  | ll js => obtain ⟨bs, h, r⟩ := m; exact ⟨bs, e _ _ h, r⟩
theorem Sto.same (x : Sto K w s) (e : Same w.H H') : Sto K (w.to H') s where
  sok := fun a h z => by
    cases q : w.H a with
    | none => exact x.sok a h q
    | some o =>
      have := e a o q
      rw [show H' a = none from z] at this
      cases this
  len := x.len
  nd := x.nd
  ns := x.ns
  mo := fun i a o h1 h2 => (x.mo i a o h1 h2).same e
theorem EnvR.same (x : EnvR K w σ ρ) (e : Same w.H H') : EnvR K (w.to H') σ ρ where
  len := x.len
  en := fun i y h => by
    obtain ⟨o, h1, h2⟩ := x.en i y h
    refine ⟨o, h1, ?_⟩
    cases y with
    | no => trivial
    | d d => obtain ⟨v, h3, h4⟩ := h2; exact ⟨v, h3, h4.same e⟩
    | r i => exact h2
theorem Rel.same (x : Rel K w σ ρ s) (e : Same w.H H') : Rel K (w.to H') σ ρ s := ⟨x.sto.same e, x.env.same e⟩
theorem RepR.same {v : V} {d : D} (r : RepR K w s v d) (e : Same w.H H') : RepR K (w.to H') s v d := by
  rcases r with r | r
  · exact .inl (r.same e)
  · exact .inr r
theorem moD_ne {s : List MO} {o : MO} {d : D} (h1 : ∀ x, d ≠ .lst x) (h2 : ∀ x, d ≠ .dk x) (h3 : ∀ x, d ≠ .dt x) (h4 : ∀ x, d ≠ .wat x) : moD s o ≠ some d := fun h => by
  cases o with
  | lst x => cases h; exact h1 _ rfl
  | dk x => cases h; exact h2 _ rfl
  | dt x => cases h; exact h3 _ rfl
  | wat j =>
    unfold moD at h
    dsimp only at h
    split at h
    · cases h; exact h4 _ rfl
    · cases h
  | ll js => cases h
/-! readers -/
theorem RepR.lst {v : V} {ds : List D} (x : Sto K w s) (r : RepR K w s v (.lst ds)) : ∃ a vs, v = .ref a ∧ w.H a = some (.lst vs) ∧ Reps K w vs ds := by
  rcases r with r | ⟨i, a, o, h1, rfl, h3, h4⟩
  · cases r with
    | lst f r => exact ⟨_, _, rfl, f.2.2, r⟩
  · cases o with
    | lst es =>
      cases h4
      obtain ⟨vs, h, r⟩ := x.mo i a _ h1 h3
      exact ⟨a, vs, rfl, h, r⟩
    | wat j =>
      unfold moD at h4
      dsimp only at h4
      split at h4 <;> cases h4
    | _ => cases h4
theorem RepR.tup {v : V} {ds : List D} (r : RepR K w s v (.tup ds)) : ∃ a vs, v = .ref a ∧ w.H a = some (.tup vs) ∧ Reps K w vs ds := by
  rcases r with r | ⟨i, a, o, h1, rfl, h3, h4⟩
  · cases r with
    | tup f r => exact ⟨_, _, rfl, f.2.2, r⟩
  · exact absurd h4 (moD_ne (by intro _ z; cases z) (by intro _ z; cases z) (by intro _ z; cases z) (by intro _ z; cases z))
theorem RepR.dk {v : V} {kvs : List (Int × D)} (x : Sto K w s) (r : RepR K w s v (.dk kvs)) : ∃ a vs, v = .ref a ∧ w.H a = some (.dK (dkv (kvs.map (·.1)) vs)) ∧ Reps K w vs (kvs.map (·.2)) := by
  rcases r with r | ⟨i, a, o, h1, rfl, h3, h4⟩
  · cases r with
    | dk f r => exact ⟨_, _, rfl, f.2.2, r⟩
  · cases o with
    | dk es =>
      cases h4
      obtain ⟨vs, h, r⟩ := x.mo i a _ h1 h3
      exact ⟨a, vs, rfl, h, r⟩
    | wat j =>
      unfold moD at h4
      dsimp only at h4
      split at h4 <;> cases h4
    | _ => cases h4
theorem RepR.dt {v : V} {kvs : List (List Int × D)} (x : Sto K w s) (r : RepR K w s v (.dt kvs)) : ∃ a vs, v = .ref a ∧ w.H a = some (.dT (dtv (kvs.map (·.1)) vs)) ∧ Reps K w vs (kvs.map (·.2)) := by
  rcases r with r | ⟨i, a, o, h1, rfl, h3, h4⟩
  · cases r with
    | dt f r => exact ⟨_, _, rfl, f.2.2, r⟩
  · cases o with
    | dt es =>
      cases h4
      obtain ⟨vs, h, r⟩ := x.mo i a _ h1 h3
      exact ⟨a, vs, rfl, h, r⟩
    | wat j =>
      unfold moD at h4
      dsimp only at h4
      split at h4 <;> cases h4
    | _ => cases h4
theorem RepR.int {v : V} {i : Int} (r : RepR K w s v (.int i)) : v = .int i := by
  rcases r with r | ⟨_, _, o, _, _, _, h4⟩
  · cases r; rfl
  · exact absurd h4 (moD_ne (by intro _ z; cases z) (by intro _ z; cases z) (by intro _ z; cases z) (by intro _ z; cases z))
theorem RepR.bl {v : V} {i : Bool} (r : RepR K w s v (.bl i)) : v = .bl i := by
  rcases r with r | ⟨_, _, o, _, _, _, h4⟩
  · cases r; rfl
  · exact absurd h4 (moD_ne (by intro _ z; cases z) (by intro _ z; cases z) (by intro _ z; cases z) (by intro _ z; cases z))
theorem RepR.str {v : V} {i : Str} (r : RepR K w s v (.str i)) : v = .str i := by
  rcases r with r | ⟨_, _, o, _, _, _, h4⟩
  · cases r; rfl
  · exact absurd h4 (moD_ne (by intro _ z; cases z) (by intro _ z; cases z) (by intro _ z; cases z) (by intro _ z; cases z))
theorem RepR.non {v : V} (r : RepR K w s v .non) : v = .non := by
  rcases r with r | ⟨_, _, o, _, _, _, h4⟩
  · cases r; rfl
  · exact absurd h4 (moD_ne (by intro _ z; cases z) (by intro _ z; cases z) (by intro _ z; cases z) (by intro _ z; cases z))
theorem RepR.scr {v : V} {ns : List Int} (r : RepR K w s v (.scr ns)) : ∃ a, v = .ref a ∧ SqL K w.H a (ns.map V.int) := by
  rcases r with r | ⟨i, a, o, h1, rfl, h3, h4⟩
  · cases r with
    | scrF f => exact ⟨_, rfl, .inl (.inr ⟨_, f.2.2⟩)⟩
    | scrK f => exact ⟨_, rfl, .inr f⟩
  · exact absurd h4 (moD_ne (by intro _ z; cases z) (by intro _ z; cases z) (by intro _ z; cases z) (by intro _ z; cases z))
/-- a new object beside what is -/
theorem Sto.fresh {p : Addr} (x : Sto K w s) (h : w.H p = none) : ¬ w.S p ∧ p ∉ w.α := by
  refine ⟨fun z => x.sok p z h, fun z => ?_⟩
  obtain ⟨i, hi⟩ := List.getElem?_of_mem z
  have hl : i < w.α.length := (List.getElem?_eq_some_iff.mp hi).1
  obtain ⟨o, ho⟩ : ∃ o, s[i]? = some o := ⟨s[i]'(by rw [← x.len]; exact hl), by simp⟩
  have m := x.mo i p o hi ho
  cases o with
  | lst ds => obtain ⟨vs, q, r⟩ := m; rw [h] at q; cases q
  | dk ds => obtain ⟨vs, q, r⟩ := m; rw [h] at q; cases q
  | dt ds => obtain ⟨vs, q, r⟩ := m; rw [h] at q; cases q
  | wat j => obtain ⟨dx, l, q, r⟩ := m; rw [h] at q; cases q
  | ll js => obtain ⟨bs, q, r⟩ := m; rw [h] at q; cases q
theorem same_upd {H : Hp} {p : Addr} {o : HO} (h : H p = none) : Same H (upd H p o) := fun b u e => by
  rw [upd_ne (ne_of_none e h)]; exact e
theorem av_fle {p : Addr} {o : HO} (h : w.H p = none) : Fle w (w.av p (upd w.H p o)) := fun a h1 h2 ⟨u, h3⟩ =>
  have ne : a ≠ p := ne_of_none h3 h
  ⟨fun z => z.elim h1 ne, h2, upd_ne ne⟩
theorem Reps.av {p : Addr} {o : HO} {vs : List V} {ds : List D} (r : Reps K w vs ds) (h : w.H p = none) : Reps K (w.av p (upd w.H p o)) vs ds := r.mono (av_fle h)
theorem unav_fle {p : Addr} {H' : Hp} : Fle (w.av p H') (w.to H') := fun a h1 h2 _ => ⟨fun z => h1 (.inl z), h2, rfl⟩
theorem Reps.unav {p : Addr} {H' : Hp} {vs : List V} {ds : List D} (r : Reps K (w.av p H') vs ds) : Reps K (w.to H') vs ds := r.mono unav_fle
theorem Sto.newTup {p : Addr} {vs : List V} {ds : List D} (x : Sto K w s) (h : w.H p = none) (r : Reps K w vs ds) : Rep K (w.to (upd w.H p (.tup vs))) (.ref p) (.tup ds) :=
  .tup ⟨(x.fresh h).1, (x.fresh h).2, upd_same⟩ (r.same (same_upd h))
theorem Sto.newLst {p : Addr} {vs : List V} {ds : List D} (x : Sto K w s) (h : w.H p = none) (r : Reps K w vs ds) : Rep K (w.to (upd w.H p (.lst vs))) (.ref p) (.lst ds) :=
  .lst ⟨(x.fresh h).1, (x.fresh h).2, upd_same⟩ (r.same (same_upd h))
end
/-- the last look at the store: it stands still from now on -/
theorem RepR.view {K : PySem.W.Frag} {w : Wd} {s : List MO} {v : V} {d : D} (x : Sto K w s) (r : RepR K w s v d) : Rep K ⟨w.S, [], w.H⟩ v d := by
  have fl : Fle w ⟨w.S, [], w.H⟩ := fun a h1 h2 _ => ⟨h1, List.not_mem_nil, rfl⟩
  have fz : ∀ {i : Nat} {a : Addr} {o : HO}, w.α[i]? = some a → w.H a = some o → Fz ⟨w.S, [], w.H⟩ a o := fun h1 h2 => ⟨x.ns _ (List.mem_of_getElem? h1), List.not_mem_nil, h2⟩
  rcases r with r | ⟨i, a, o, h1, rfl, h3, h4⟩
  · exact r.mono fl
  · have m := x.mo i a o h1 h3
    cases o with
    | lst ds => cases h4; obtain ⟨vs, g1, g2⟩ := m; exact .lst (fz h1 g1) (g2.mono fl)
    | dk ds => cases h4; obtain ⟨vs, g1, g2⟩ := m; exact .dk (fz h1 g1) (g2.mono fl)
    | dt ds => cases h4; obtain ⟨vs, g1, g2⟩ := m; exact .dt (fz h1 g1) (g2.mono fl)
    | wat j =>
      unfold moD at h4
      dsimp only at h4
      split at h4
      · rename_i es hj
        cases h4
        obtain ⟨dx, l, g1, g2⟩ := m
        obtain ⟨vs, g3, g4⟩ := x.mo j l _ g2 hj
        exact .wat (fz h1 g1) (fz g2 g3) (g4.mono fl)
      · cases h4
    | ll js => cases h4
/-! ## Readings: the weakest one of a piece of syntax, and what a piece is worth where the names and the store stand so -/
/-- the module's own facts -/
structure Tops (K : PySem.W.Frag) (mg : Str → Option Value) : Prop where
  len : mg "len" = none
  range : mg "range" = none
  min : mg "min" = none
  max : mg "max" = none
  sum : mg "sum" = none
  sorted : mg "sorted" = none
  tuple : mg "tuple" = none
  list : mg "list" = none
  zip : mg "zip" = none
  enumerate : mg "enumerate" = none
  isinstance : mg "isinstance" = none
  valueError : mg "ValueError" = none
  sea : ∃ t, mg "SEA" = some (.int 0 t)
  light : ∃ t, mg "LIGHT" = some (.int 1 t)
  mostOil : ∃ t, mg "MOST_OIL" = some (.int 1000000000000000000000000000000 t)
  noFault : ∃ t, mg "NO_FAULT" = some (.str "" t)

section
variable {X : Cx} {e : Expr}
def tSem (X : Cx) (e : Expr) : TE := fun σ H Q => ∀ (pins : List (Addr × Obj)) (st : Shared), Inv X pins σ H st → wpAny (model X.prog X.w) X.A (eval e X.env) (EP X pins σ Q) X.xe st
theorem pe_sem : PE X e (tSem X e) := ⟨fun pins st _ _ _ I h => h pins st I⟩
theorem sem_of {te : TE} {σ : L2.St} {H : Hp} {Q : VK} (h : PE X e te) (q : te σ H Q) : tSem X e σ H Q := fun pins st I => h.run pins st σ H Q I q
def tSemT (X : Cx) (e : Expr) : TT := fun σ H Q => ∀ (pins : List (Addr × Obj)) (st : Shared), Inv X pins σ H st → wpAny (model X.prog X.w) X.A (isTrue e X.env (eval e X.env)) (TP X pins σ Q) X.xe st
theorem pt_sem : PT X e (tSemT X e) := ⟨fun pins st _ _ _ I h => h pins st I⟩
theorem semT_of {te : TT} {σ : L2.St} {H : Hp} {Q : Bool → Hp → Prop} (h : PT X e te) (q : te σ H Q) : tSemT X e σ H Q := fun pins st I => h.run pins st σ H Q I q
def tSemW (X : Cx) (e : Expr) : TT := fun σ H Q => ∀ (wh : Sem Value) (pins : List (Addr × Obj)) (st : Shared), Inv X pins σ H st → wpAny (model X.prog X.w) X.A (isTrue e X.env wh) (TP X pins σ Q) X.xe st
theorem pw_sem : PW X e (tSemW X e) := ⟨fun wh pins st _ _ _ I h => h wh pins st I⟩
theorem semW_of {te : TT} {σ : L2.St} {H : Hp} {Q : Bool → Hp → Prop} (h : PW X e te) (q : te σ H Q) : tSemW X e σ H Q := fun wh pins st I => h.run wh pins st σ H Q I q
def tSemA (X : Cx) (es : List Expr) : TA := fun σ H Q => ∀ (pos : Pos) (pins : List (Addr × Obj)) (st : Shared), Inv X pins σ H st → wpAny (model X.prog X.w) X.A (spliced (backTo pos (starEach es X.env))) (AP X pins σ Q) X.xe st
theorem pa_sem {es : List Expr} : PA X es (tSemA X es) := ⟨fun pos pins st _ _ _ I h => h pos pins st I⟩
theorem semA_of {es : List Expr} {ta : TA} {σ : L2.St} {H : Hp} {Q : List V → Hp → Prop} (h : PA X es ta) (q : ta σ H Q) : tSemA X es σ H Q := fun pos pins st I => h.run pos pins st σ H Q I q
end

/-- e gives a value of which R holds -/
def EG (X : Cx) (ρ : List Sl) (s : List MO) (e : Expr) (R : Wd → V → Prop) : Prop := ∀ w σ, Rel X.K w σ ρ s → ∀ Q : VK, (∀ v H', Same w.H H' → R (w.to H') v → Q v H') → tSem X e σ w.H Q
abbrev EV (X : Cx) (ρ : List Sl) (s : List MO) (e : Expr) (d : D) : Prop := EG X ρ s e fun w v => Rep X.K w v d
abbrev ER (X : Cx) (ρ : List Sl) (s : List MO) (e : Expr) (d : D) : Prop := EG X ρ s e fun w v => RepR X.K w s v d
/-- a new list -/
def EN (X : Cx) (ρ : List Sl) (s : List MO) (e : Expr) (ds : List D) : Prop := ∀ w σ, Rel X.K w σ ρ s → ∀ Q : VK, (∀ p vs H', w.H p = none → Same w.H H' → H' p = some (.lst vs) → Reps X.K (w.av p H') vs ds → Q (.ref p) H') → tSem X e σ w.H Q
/-- a test -/
def ET (X : Cx) (ρ : List Sl) (s : List MO) (e : Expr) (b : Bool) : Prop := ∀ w σ, Rel X.K w σ ρ s → ∀ Q : Bool → Hp → Prop, (∀ H', Same w.H H' → Q b H') → tSemT X e σ w.H Q
def EW (X : Cx) (ρ : List Sl) (s : List MO) (e : Expr) (b : Bool) : Prop := ∀ w σ, Rel X.K w σ ρ s → ∀ Q : Bool → Hp → Prop, (∀ H', Same w.H H' → Q b H') → tSemW X e σ w.H Q
/-- arguments -/
def EA (X : Cx) (ρ : List Sl) (s : List MO) (es : List Expr) (ds : List D) : Prop := ∀ w σ, Rel X.K w σ ρ s → ∀ Q : List V → Hp → Prop, (∀ vs H', Same w.H H' → Reps X.K (w.to H') vs ds → Q vs H') → tSemA X es σ w.H Q

section
variable {X : Cx} {ρ : List Sl} {s : List MO} {e a b : Expr} {pos : Pos} {R R' : Wd → V → Prop} {d x y z : D}
theorem EG.imp (h : EG X ρ s e R) (k : ∀ w v, R w v → R' w v) : EG X ρ s e R' := fun w σ r Q q => h w σ r Q fun v H' e1 r1 => q v H' e1 (k _ _ r1)
theorem er_ (h : EV X ρ s e d) : ER X ρ s e d := h.imp fun _ _ r => .inl r
theorem ev_is (h : EV X ρ s e x) (k : x = y) : EV X ρ s e y := by rw [← k]; exact h
theorem er_is (h : ER X ρ s e x) (k : x = y) : ER X ρ s e y := by rw [← k]; exact h
theorem et_is {p q : Bool} (h : ET X ρ s e p) (k : p = q) : ET X ρ s e q := by rw [← k]; exact h
theorem ev_n {ds : List D} (h : EN X ρ s e ds) : EV X ρ s e (.lst ds) := fun w σ r Q q => h w σ r Q fun p vs H' hp e1 h1 h2 => by
  have f := r.sto.fresh hp
  exact q _ H' e1 (.lst ⟨f.1, f.2, h1⟩ h2.unav)
theorem er_n {ds : List D} (h : EN X ρ s e ds) : ER X ρ s e (.lst ds) := er_ (ev_n h)

/-! names and constants -/
theorem ev_var (i : Nat) {n : Str} (hN : X.N[i]? = some n := by rfl) (hv : Vis X.env.scope n := by first | exact Or.inl rfl | exact Or.inr (Or.inl rfl) | exact Or.inr (Or.inr rfl))
    (h : ρ[i]? = some (.d d) := by rfl) (hd : (n == ("__debug__" : Str)) = false := by decide) (hcd : (n == ("__classdict__" : Str)) = false := by decide) : EV X ρ s (.Name n pos) d := fun w σ r Q q => by
  obtain ⟨o, h1, v, h2, h3⟩ := r.env.en i _ h
  subst h2
  exact sem_of (pe_var hN hv hd hcd) ⟨v, h1, q v w.H (Same.refl _) h3⟩
theorem er_ref (i : Nat) {j : Nat} {o : MO} {n : Str} (hN : X.N[i]? = some n := by rfl) (hv : Vis X.env.scope n := by first | exact Or.inl rfl | exact Or.inr (Or.inl rfl) | exact Or.inr (Or.inr rfl))
    (h : ρ[i]? = some (.r j) := by rfl) (hs : s[j]? = some o := by rfl) (hm : moD s o = some d := by rfl) (hd : (n == ("__debug__" : Str)) = false := by decide) (hcd : (n == ("__classdict__" : Str)) = false := by decide) : ER X ρ s (.Name n pos) d := fun w σ r Q q => by
  obtain ⟨u, h1, p, h2, h3⟩ := r.env.en i _ h
  subst h3
  exact sem_of (pe_var hN hv hd hcd) ⟨.ref p, h1, q _ w.H (Same.refl _) (.inr ⟨j, p, o, h2, rfl, hs, hm⟩)⟩
theorem ev_int {i : Int} {j : Nat} : EV X ρ s (.Constant (.int i) j pos) (.int i) := fun w σ r Q q => sem_of pe_int (q _ w.H (Same.refl _) (.int i))
theorem ev_bl {i : Bool} {j : Nat} : EV X ρ s (.Constant (.bool i) j pos) (.bl i) := fun w σ r Q q => sem_of pe_bl (q _ w.H (Same.refl _) (.bl i))
theorem ev_non {j : Nat} : EV X ρ s (.Constant .none j pos) .non := fun w σ r Q q => sem_of pe_non (q _ w.H (Same.refl _) .non)
theorem ev_str {i : Str} {j : Nat} : EV X ρ s (.Constant (.str i) j pos) (.str i) := fun w σ r Q q => sem_of pe_str (q _ w.H (Same.refl _) (.str i))
theorem ev_gint {n : Str} {i : Int} (hm : ∃ t, X.mg n = some (.int i t)) (hg : Gl X n := by rfl) (hd : (n == ("__debug__" : Str)) = false := by decide) : EV X ρ s (.Name n pos) (.int i) := fun w σ r Q q => by
  obtain ⟨t, ht⟩ := hm
  exact sem_of (pe_glob hg ht (v := .int i) ⟨t, rfl⟩ hd) (q _ w.H (Same.refl _) (.int i))
theorem ev_gstr {n : Str} {i : Str} (hm : ∃ t, X.mg n = some (.str i t)) (hg : Gl X n := by rfl) (hd : (n == ("__debug__" : Str)) = false := by decide) : EV X ρ s (.Name n pos) (.str i) := fun w σ r Q q => by
  obtain ⟨t, ht⟩ := hm
  exact sem_of (pe_glob hg ht (v := .str i) ⟨t, rfl⟩ hd) (q _ w.H (Same.refl _) (.str i))

/-! two operands -/
theorem eg_op {op : Operator} {r : R2} (ho : OpR X (binaryOp op) r) (ha : ER X ρ s a x) (hb : ER X ρ s b y)
    (hr : ∀ w v u, Sto X.K w s → RepR X.K w s v x → RepR X.K w s u y → ∀ Q : VK, (∀ v' H', Same w.H H' → R (w.to H') v' → Q v' H') → r v u w.H Q) : EG X ρ s (.BinOp a op b pos) R := fun w σ rl Q q =>
  sem_of (pe_op ho pe_sem pe_sem) (ha w σ rl _ fun v H1 e1 r1 => hb (w.to H1) σ (rl.same e1) _ fun u H2 e2 r2 =>
    hr (w.to H2) v u (rl.sto.same (e1.trans e2)) (r1.same e2) r2 Q fun v' H' e3 r3 => q v' H' ((e1.trans e2).trans e3) r3)
theorem en_op {op : Operator} {r : R2} {ds : List D} (ho : OpR X (binaryOp op) r) (ha : ER X ρ s a x) (hb : ER X ρ s b y)
    (hr : ∀ w v u, Sto X.K w s → RepR X.K w s v x → RepR X.K w s u y → ∀ Q : VK, (∀ p vs H', w.H p = none → Same w.H H' → H' p = some (.lst vs) → Reps X.K (w.av p H') vs ds → Q (.ref p) H') → r v u w.H Q) : EN X ρ s (.BinOp a op b pos) ds := fun w σ rl Q q =>
  sem_of (pe_op ho pe_sem pe_sem) (ha w σ rl _ fun v H1 e1 r1 => hb (w.to H1) σ (rl.same e1) _ fun u H2 e2 r2 =>
    hr (w.to H2) v u (rl.sto.same (e1.trans e2)) (r1.same e2) r2 Q fun p vs H' h0 e3 h1 h2 => q p vs H' ((e1.trans e2).free h0) ((e1.trans e2).trans e3) h1 h2)
theorem hr_I0 {w : Wd} {v u : V} {i j : Int} {g : Int → Int → V} {Q : VK} (rv : RepR X.K w s v (.int i)) (ru : RepR X.K w s u (.int j)) (q : Q (g i j) w.H) : rI0 g v u w.H Q := ⟨i, j, rv.int, ru.int, q⟩
theorem hr_I {w : Wd} {v u : V} {i j : Int} {C : Int → Int → Prop} {g : Int → Int → V} {Q : VK} (hc : C i j) (rv : RepR X.K w s v (.int i)) (ru : RepR X.K w s u (.int j)) (q : Q (g i j) w.H) : rI C g v u w.H Q := ⟨i, j, rv.int, ru.int, hc, q⟩
variable {i j : Int}
theorem ev_add (ha : EV X ρ s a (.int i)) (hb : EV X ρ s b (.int j)) : EV X ρ s (.BinOp a .Add b pos) (.int (i + j)) := eg_op op_add (er_ ha) (er_ hb) fun w v u _ rv ru Q q => hr_I0 rv ru (q _ w.H (Same.refl _) (.int _))
theorem ev_sub (ha : EV X ρ s a (.int i)) (hb : EV X ρ s b (.int j)) : EV X ρ s (.BinOp a .Sub b pos) (.int (i - j)) := eg_op op_sub (er_ ha) (er_ hb) fun w v u _ rv ru Q q => hr_I0 rv ru (q _ w.H (Same.refl _) (.int _))
theorem ev_mul (ha : EV X ρ s a (.int i)) (hb : EV X ρ s b (.int j)) (h : CMul i j := by first | assumption | exact Or.inl ⟨by omega, by omega⟩ | exact Or.inr ⟨by omega, by omega⟩) : EV X ρ s (.BinOp a .Mult b pos) (.int (i * j)) := eg_op op_mul (er_ ha) (er_ hb) fun w v u _ rv ru Q q => hr_I h rv ru (q _ w.H (Same.refl _) (.int _))
theorem ev_mod (ha : EV X ρ s a (.int i)) (hb : EV X ρ s b (.int j)) (h : 0 < j := by first | assumption | decide | omega) : EV X ρ s (.BinOp a .Mod b pos) (.int (i % j)) := eg_op op_mod (er_ ha) (er_ hb) fun w v u _ rv ru Q q => hr_I (C := fun _ j => 0 < j) h rv ru (q _ w.H (Same.refl _) (.int _))
theorem ev_fdiv (ha : EV X ρ s a (.int i)) (hb : EV X ρ s b (.int j)) (h : CDiv i j := by exact ⟨by decide, by decide⟩) : EV X ρ s (.BinOp a .FloorDiv b pos) (.int (i / j)) := eg_op op_fdiv (er_ ha) (er_ hb) fun w v u _ rv ru Q q => hr_I h rv ru (q _ w.H (Same.refl _) (.int _))
theorem ev_pow (ha : EV X ρ s a (.int i)) (hb : EV X ρ s b (.int j)) (h : CPow i j := by exact ⟨by decide, by decide, by decide⟩) : EV X ρ s (.BinOp a .Pow b pos) (.int (i ^ j.toNat)) := eg_op op_pow (er_ ha) (er_ hb) fun w v u _ rv ru Q q => hr_I h rv ru (q _ w.H (Same.refl _) (.int _))
theorem ev_neg (ha : EV X ρ s a (.int i)) : EV X ρ s (.UnaryOp .USub a pos) (.int (-i)) := fun w σ rl Q q =>
  sem_of (pe_un un_neg pe_sem) (ha w σ rl _ fun v H1 e1 r1 => by
    cases r1
    exact ⟨i, rfl, q _ H1 e1 (.int _)⟩)
/-- tuple + tuple -/
theorem ev_catT {xs ys : List D} (ha : EV X ρ s a (.tup xs)) (hb : EV X ρ s b (.tup ys)) (hz : xs.length + ys.length ≤ 100000 := by first | assumption | exact Nat.le_of_ble_eq_true rfl | omega | (simp only [List.length_cons, List.length_nil, List.length_map, List.length_replicate]; omega)) : EV X ρ s (.BinOp a .Add b pos) (.tup (xs ++ ys)) := by
  refine fun w σ rl Q q => sem_of (pe_op op_catA pe_sem pe_sem) (ha w σ rl _ fun v H1 e1 r1 => hb (w.to H1) σ (rl.same e1) _ fun u H2 e2 r2 => ?_)
  have r1' := r1.same e2
  have x2 := rl.sto.same (e1.trans e2)
  cases r1' with
  | @tup p vs ds f1 g1 =>
    cases r2 with
    | @tup p2 vs2 ds2 f2 g2 =>
      have l1 := g1.length
      have l2 := g2.length
      refine ⟨p, p2, vs, vs2, rfl, rfl, SqT.of f1.2.2, SqT.of f2.2.2, Nat.le_trans (by omega) (show 100000 ≤ sizeLine by decide), fun z => ?_, fun _ z => ?_, fun _ _ p3 h3 => ?_⟩
      · subst z
        cases g1
        exact q _ _ (e1.trans e2) (.tup f2 g2)
      · subst z
        cases g2
        rw [List.append_nil] at q
        exact q _ _ (e1.trans e2) (.tup f1 g1)
      · exact q _ _ ((e1.trans e2).trans (same_upd h3)) (x2.newTup h3 (g1.append g2))
/-- list + list, list * int -/
theorem en_cat {xs ys : List D} (ha : ER X ρ s a (.lst xs)) (hb : ER X ρ s b (.lst ys)) (hz : xs.length + ys.length ≤ 100000 := by first | assumption | decide | omega) : EN X ρ s (.BinOp a .Add b pos) (xs ++ ys) := en_op op_cat ha hb fun w v u xx rv ru Q q => by
  obtain ⟨p, vs, rfl, h1, g1⟩ := rv.lst xx
  obtain ⟨p2, vs2, rfl, h2, g2⟩ := ru.lst xx
  have l1 := g1.length
  have l2 := g2.length
  exact ⟨p, p2, vs, vs2, rfl, rfl, h1, h2, Nat.le_trans (by omega) (show 100000 ≤ sizeLine by decide), fun p3 h3 => q p3 _ _ h3 (same_upd h3) upd_same ((g1.append g2).av h3)⟩
theorem en_rep {xs : List D} (ha : ER X ρ s a (.lst xs)) (hb : EV X ρ s b (.int i)) (hz : i ≤ 1000 ∧ -1000 ≤ i ∧ xs.length ≤ 100) : EN X ρ s (.BinOp a .Mult b pos) (List.replicate i.toNat xs).flatten := en_op op_rep ha (er_ hb) fun w v u xx rv ru Q q => by
  obtain ⟨p, vs, rfl, h1, g1⟩ := rv.lst xx
  cases ru.int
  have l1 := g1.length
  have hz2 : vs.length * i.toNat ≤ 100 * 1000 := Nat.mul_le_mul (by omega) (by omega)
  exact ⟨p, i, vs, rfl, rfl, h1, by omega, by omega, Nat.le_trans hz2 (show 100 * 1000 ≤ sizeLine by decide), fun p3 h3 => q p3 _ _ h3 (same_upd h3) upd_same ((g1.rep _).av h3)⟩

/-! displays, arguments -/
theorem ea_nil : EA X ρ s [] [] := fun w σ rl Q q => semA_of pa_nil (q [] w.H (Same.refl _) .nil)
theorem ea_cons {es : List Expr} {ds : List D} (h : EV X ρ s e d) (hr : EA X ρ s es ds) (hs : starEach (e :: es) X.env = (false, eval e X.env) :: starEach es X.env := by rfl) : EA X ρ s (e :: es) (d :: ds) := fun w σ rl Q q =>
  semA_of (pa_cons pe_sem pa_sem hs) (h w σ rl _ fun v H1 e1 r1 => hr (w.to H1) σ (rl.same e1) _ fun vs H2 e2 r2 => q (v :: vs) H2 (e1.trans e2) (.cons (r1.same e2) r2))
theorem ev_tup {es : List Expr} {ds : List D} {k : Nat} (h : EA X ρ s es ds) (hz : ds.length ≤ 1000 := by exact Nat.le_of_ble_eq_true rfl) : EV X ρ s (.Tuple es k pos) (.tup ds) := fun w σ rl Q q =>
  sem_of (pe_tup pa_sem) (h w σ rl _ fun vs H1 e1 r1 => ⟨Nat.le_trans (by rw [r1.length]; exact hz) (show 1000 ≤ sizeLine by decide), fun p hp => q _ _ (e1.trans (same_upd hp)) ((rl.sto.same e1).newTup hp r1)⟩)
theorem en_lst {es : List Expr} {ds : List D} (h : EA X ρ s es ds) (hz : ds.length ≤ 1000 := by exact Nat.le_of_ble_eq_true rfl) : EN X ρ s (.List es pos) ds := fun w σ rl Q q =>
  sem_of (pe_lst pa_sem) (h w σ rl _ fun vs H1 e1 r1 => ⟨Nat.le_trans (by rw [r1.length]; exact hz) (show 1000 ≤ sizeLine by decide), fun p hp => q _ _ _ (e1.free hp) (e1.trans (same_upd hp)) upd_same (r1.av (w := w.to H1) hp)⟩)

/-! subscripts -/
theorem atI_reps {K : PySem.W.Frag} {w : Wd} {vs : List V} {ds : List D} (r : Reps K w vs ds) (h : atI ds i = some d) : ∃ v, atI vs i = some v ∧ Rep K w v d := by
  unfold atI at h ⊢
  rw [r.length]
  cases e1 : ixN ds.length i with
  | none => rw [e1] at h; cases h
  | some k =>
    rw [e1] at h
    obtain ⟨v, h1, h2⟩ := r.get (i := k) (d := d) h
    exact ⟨v, h1, h2⟩
/-- the items of a list, of a tuple -/
inductive Seq : D → List D → Prop where
  | tup (ds : List D) : Seq (.tup ds) ds
  | lst (ds : List D) : Seq (.lst ds) ds
theorem Seq.of {K : PySem.W.Frag} {w : Wd} {ds : List D} {v : V} (q : Seq x ds) (xx : Sto K w s) (r : RepR K w s v x) : ∃ p vs, v = .ref p ∧ (SqL K w.H p vs ∨ SqT K w.H p vs) ∧ Reps K w vs ds := by
  cases q with
  | tup => obtain ⟨p, vs, h1, h2, h3⟩ := r.tup; exact ⟨p, vs, h1, .inr (SqT.of h2), h3⟩
  | lst => obtain ⟨p, vs, h1, h2, h3⟩ := r.lst xx; exact ⟨p, vs, h1, .inl (SqL.of h2), h3⟩
theorem ev_ix {ds : List D} (ha : ER X ρ s a x) (hb : EV X ρ s b (.int i)) (q : Seq x ds := by constructor) (h : atI ds i = some d := by first | assumption | rfl) (hs : PlainIx b := by exact fun _ _ => rfl) : EV X ρ s (.Subscript a b pos) d := fun w σ rl Q k =>
  sem_of (pe_ix ix_seq pe_sem pe_sem hs) (ha w σ rl _ fun v H1 e1 r1 => hb (w.to H1) σ (rl.same e1) _ fun u H2 e2 r2 => by
    obtain ⟨p, vs, rfl, h1, h2⟩ := q.of (rl.sto.same (e1.trans e2)) (r1.same e2)
    cases r2
    obtain ⟨v', h3, h4⟩ := atI_reps h2 h
    rcases h1 with h1 | h1
    · exact .inl ⟨p, vs, i, v', rfl, rfl, h1, h3, k v' H2 (e1.trans e2) h4⟩
    · exact .inr (.inl ⟨p, vs, i, v', rfl, rfl, h1, h3, k v' H2 (e1.trans e2) h4⟩))
theorem atI_map {α β : Type} (f : α → β) (xs : List α) : atI (xs.map f) i = (atI xs i).map f := by
  unfold atI
  rw [List.length_map]
  cases ixN xs.length i with
  | none => rfl
  | some k => simp
theorem ev_ixS {ns : List Int} (ha : EV X ρ s a (.scr ns)) (hb : EV X ρ s b (.int i)) {z : Int} (h : atI ns i = some z := by first | assumption | rfl) (hs : PlainIx b := by exact fun _ _ => rfl) : EV X ρ s (.Subscript a b pos) (.int z) := fun w σ rl Q k =>
  sem_of (pe_ix ix_list pe_sem pe_sem hs) (ha w σ rl _ fun v H1 e1 r1 => hb (w.to H1) σ (rl.same e1) _ fun u H2 e2 r2 => by
    have r3 := r1.same e2
    cases r2
    cases r3 with
    | scrF f => exact ⟨_, _, i, .int z, rfl, rfl, .inl (.inr ⟨_, f.2.2⟩), by rw [atI_map, h] <;> rfl, k _ H2 (e1.trans e2) (.int z)⟩
    | scrK f => exact ⟨_, _, i, .int z, rfl, rfl, .inr f, by rw [atI_map, h] <;> rfl, k _ H2 (e1.trans e2) (.int z)⟩)
/-! slices -/
def cutD {α : Type} (xs : List α) (lo hi : Option Int) : List α := (xs.drop (HT.sIx xs.length 0 lo)).take (HT.sIx xs.length xs.length hi - HT.sIx xs.length 0 lo)
theorem Reps.cut {K : PySem.W.Frag} {w : Wd} {vs : List V} {ds : List D} (r : Reps K w vs ds) (lo hi : Option Int) : Reps K w (cutV vs lo hi) (cutD ds lo hi) := by
  unfold cutV cutD
  rw [r.length]
  exact (r.drop _).take _
/-- an end of a slice -/
def EO (X : Cx) (ρ : List Sl) (s : List MO) (e : Option Expr) (o : Option Int) : Prop := ∃ t : TO, PO X e t ∧ ∀ w σ, Rel X.K w σ ρ s → ∀ Q : Option Int → Hp → Prop, (∀ H', Same w.H H' → Q o H') → t σ w.H Q
theorem eo_none : EO X ρ s none none := ⟨_, po_none, fun w σ _ Q q => q w.H (Same.refl _)⟩
theorem eo_some (h : EV X ρ s e (.int i)) : EO X ρ s (some e) (some i) := ⟨_, po_some pe_sem, fun w σ rl Q q => h w σ rl _ fun v H1 e1 r1 => by
  cases r1
  exact ⟨i, rfl, q H1 e1⟩⟩
theorem ev_slT {xs : List D} {lo hi : Option Expr} {l u : Option Int} {p2 : Pos} (ha : EV X ρ s a (.tup xs)) (hl : EO X ρ s lo l) (hh : EO X ρ s hi u) : EV X ρ s (.Subscript a (.Slice lo hi none p2) pos) (.tup (cutD xs l u)) := by
  obtain ⟨tl, pl, ql⟩ := hl
  obtain ⟨tu, pu, qu⟩ := hh
  refine fun w σ rl Q k => sem_of (pe_slice sl_tupA pe_sem pl pu) (ha w σ rl _ fun v H1 e1 r1 => ql (w.to H1) σ (rl.same e1) _ fun H2 e2 => qu (w.to H2) σ (rl.same (e1.trans e2)) _ fun H3 e3 => ?_)
  have ee := (e1.trans e2).trans e3
  have r3 := r1.same (e2.trans e3)
  have x3 := rl.sto.same ee
  cases r3 with
  | @tup p vs _ f g =>
    refine ⟨p, vs, rfl, SqT.of f.2.2, fun z => ?_, fun _ p3 h3 => k _ _ (ee.trans (same_upd h3)) (x3.newTup h3 (g.cut l u))⟩
    have e4 : cutD xs l u = xs := by
      unfold cutD
      rw [g.length] at z
      rw [z.1, z.2, List.drop_zero, Nat.sub_zero, List.take_length]
    rw [e4] at k
    exact k _ H3 ee (.tup f g)
theorem en_sl {xs : List D} {lo hi : Option Expr} {l u : Option Int} {p2 : Pos} (ha : ER X ρ s a (.lst xs)) (hl : EO X ρ s lo l) (hh : EO X ρ s hi u) : EN X ρ s (.Subscript a (.Slice lo hi none p2) pos) (cutD xs l u) := by
  obtain ⟨tl, pl, ql⟩ := hl
  obtain ⟨tu, pu, qu⟩ := hh
  refine fun w σ rl Q k => sem_of (pe_slice sl_list pe_sem pl pu) (ha w σ rl _ fun v H1 e1 r1 => ql (w.to H1) σ (rl.same e1) _ fun H2 e2 => qu (w.to H2) σ (rl.same (e1.trans e2)) _ fun H3 e3 => ?_)
  have ee := (e1.trans e2).trans e3
  obtain ⟨p, vs, rfl, h1, g⟩ := (r1.same (e2.trans e3)).lst (rl.sto.same ee)
  exact ⟨p, vs, rfl, SqL.of h1, fun p3 h3 => k _ _ _ (ee.free h3) (ee.trans (same_upd h3)) upd_same ((g.cut l u).av (w := w.to H3) h3)⟩
theorem en_slS {ns : List Int} {lo hi : Option Expr} {l u : Option Int} {p2 : Pos} (ha : EV X ρ s a (.scr ns)) (hl : EO X ρ s lo l) (hh : EO X ρ s hi u) : EN X ρ s (.Subscript a (.Slice lo hi none p2) pos) ((cutD ns l u).map D.int) := by
  obtain ⟨tl, pl, ql⟩ := hl
  obtain ⟨tu, pu, qu⟩ := hh
  refine fun w σ rl Q k => sem_of (pe_slice sl_list pe_sem pl pu) (ha w σ rl _ fun v H1 e1 r1 => ql (w.to H1) σ (rl.same e1) _ fun H2 e2 => qu (w.to H2) σ (rl.same (e1.trans e2)) _ fun H3 e3 => ?_)
  have ee := (e1.trans e2).trans e3
  obtain ⟨p, rfl, h1⟩ := RepR.scr (s := s) (.inl (r1.same (e2.trans e3)))
  refine ⟨p, _, rfl, h1, fun p3 h3 => k _ _ _ (ee.free h3) (ee.trans (same_upd h3)) upd_same ?_⟩
  have e4 : cutV (ns.map V.int) l u = (cutD ns l u).map V.int := by
    unfold cutV cutD
    rw [List.length_map, List.map_take, List.map_drop]
  rw [e4]
  exact reps_ints
end
/-! ## Comparisons, tests, calls of built-ins -/
section
variable {X : Cx} {ρ : List Sl} {s : List MO} {e a b : Expr} {pos p : Pos} {R R' : Wd → V → Prop} {d x y z : D} {i j : Int} {k : Bool}
/-- a comparison by values -/
def CO (X : Cx) (s : List MO) (op : CmpOp) (x y : D) (k : Bool) : Prop := ∃ r : R2, OpR X (compareOp op) r ∧
  ∀ w v u, Sto X.K w s → RepR X.K w s v x → RepR X.K w s u y → ∀ Q : VK, (∀ H', Same w.H H' → Q (.bl k) H') → r v u w.H Q
theorem ev_cmp {op : CmpOp} (c : CO X s op x y k) (ha : ER X ρ s a x) (hb : ER X ρ s b y) (hm : behindInMarks op b = false := by first | exact nomark _ | rfl) : EV X ρ s (.Compare a [op] [b] pos) (.bl k) := by
  obtain ⟨r, ho, hr⟩ := c
  exact fun w σ rl Q q => sem_of (pe_cmpR ho pe_sem pe_sem hm) (ha w σ rl _ fun v H1 e1 r1 => hb (w.to H1) σ (rl.same e1) _ fun u H2 e2 r2 =>
    hr (w.to H2) v u (rl.sto.same (e1.trans e2)) (r1.same e2) r2 Q fun H' e3 => q _ H' ((e1.trans e2).trans e3) (.bl k))
theorem et_cmp {op : CmpOp} (c : CO X s op x y k) (ha : ER X ρ s a x) (hb : ER X ρ s b y) (hm : behindInMarks op b = false := by first | exact nomark _ | rfl) : ET X ρ s (.Compare a [op] [b] pos) k := by
  obtain ⟨r, ho, hr⟩ := c
  exact fun w σ rl Q q => semT_of (pt_cmpR ho pe_sem pe_sem hm) (ha w σ rl _ fun v H1 e1 r1 => hb (w.to H1) σ (rl.same e1) _ fun u H2 e2 r2 =>
    hr (w.to H2) v u (rl.sto.same (e1.trans e2)) (r1.same e2) r2 _ fun H' e3 => ⟨k, rfl, q H' ((e1.trans e2).trans e3)⟩)
theorem co_lt : CO X s .Lt (.int i) (.int j) (decide (i < j)) := ⟨_, op_lt, fun w v u _ rv ru Q q => hr_I0 rv ru (q w.H (Same.refl _))⟩
theorem co_le : CO X s .LtE (.int i) (.int j) (decide (i ≤ j)) := ⟨_, op_le, fun w v u _ rv ru Q q => hr_I0 rv ru (q w.H (Same.refl _))⟩
theorem co_gt : CO X s .Gt (.int i) (.int j) (decide (j < i)) := ⟨_, op_gt, fun w v u _ rv ru Q q => hr_I0 rv ru (q w.H (Same.refl _))⟩
theorem co_ge : CO X s .GtE (.int i) (.int j) (decide (j ≤ i)) := ⟨_, op_ge, fun w v u _ rv ru Q q => hr_I0 rv ru (q w.H (Same.refl _))⟩
theorem decV_int : decide (V.int i = V.int j) = decide (i = j) := by
  by_cases h : i = j
  · rw [decide_eq_true h, h]; exact decide_eq_true rfl
  · rw [decide_eq_false h]; exact decide_eq_false fun z => h (V.int.inj z)
theorem decV_str {i j : Str} : decide (V.str i = V.str j) = decide (i = j) := by
  by_cases h : i = j
  · rw [decide_eq_true h, h]; exact decide_eq_true rfl
  · rw [decide_eq_false h]; exact decide_eq_false fun z => h (V.str.inj z)
theorem co_eq : CO X s .Eq (.int i) (.int j) (decide (i = j)) := ⟨_, op_eq, fun w v u _ rv ru Q q => by
  cases rv.int; cases ru.int
  exact ⟨rfl, by rw [decV_int]; exact q w.H (Same.refl _)⟩⟩
theorem co_ne : CO X s .NotEq (.int i) (.int j) (!decide (i = j)) := ⟨_, op_ne, fun w v u _ rv ru Q q => by
  cases rv.int; cases ru.int
  exact ⟨rfl, by rw [decV_int]; exact q w.H (Same.refl _)⟩⟩
theorem co_eqS {i j : Str} : CO X s .Eq (.str i) (.str j) (decide (i = j)) := ⟨_, op_eq, fun w v u _ rv ru Q q => by
  cases rv.str; cases ru.str
  exact ⟨rfl, by rw [decV_str]; exact q w.H (Same.refl _)⟩⟩
theorem co_neS {i j : Str} : CO X s .NotEq (.str i) (.str j) (!decide (i = j)) := ⟨_, op_ne, fun w v u _ rv ru Q q => by
  cases rv.str; cases ru.str
  exact ⟨rfl, by rw [decV_str]; exact q w.H (Same.refl _)⟩⟩
def isN : D → Bool
  | .non => true
  | _ => false
theorem isN_of {K : PySem.W.Frag} {w : Wd} {v : V} (r : RepR K w s v x) : decide (v = .non) = isN x := by
  rcases r with r | ⟨_, q, o, _, rfl, _, h4⟩
  · cases r <;> first | rfl | exact decide_eq_false (fun z => nomatch z)
  · have hn : decide (V.ref q = V.non) = false := decide_eq_false (fun z => nomatch z)
    rw [hn]
    cases o with
    | wat j =>
      unfold moD at h4
      dsimp only at h4
      split at h4 <;> cases h4
      rfl
    | ll js => cases h4
    | _ => cases h4; rfl
theorem co_isN : CO X s .Is x .non (isN x) := ⟨_, op_isN, fun w v u _ rv ru Q q => by
  cases ru.non
  exact ⟨rfl, by rw [isN_of rv]; exact q w.H (Same.refl _)⟩⟩
theorem co_notN : CO X s .IsNot x .non (!isN x) := ⟨_, op_notN, fun w v u _ rv ru Q q => by
  cases ru.non
  exact ⟨rfl, by rw [isN_of rv]; exact q w.H (Same.refl _)⟩⟩
/-! in a list or a tuple of ints -/
theorem flat_ints (ns : List Int) : (ns.map V.int).all flatV = true := by
  rw [List.all_eq_true]
  intro v hv
  obtain ⟨n, _, rfl⟩ := List.mem_map.mp hv
  rfl
theorem inV_ints (ns : List Int) : inV (.int i) (ns.map V.int) = decide (i ∈ ns) := by
  unfold inV
  rw [List.any_map]
  induction ns with
  | nil => rfl
  | cons n ns ih =>
    rw [List.any_cons, ih]
    show (n == i || decide (i ∈ ns)) = _
    by_cases h : i = n
    · subst h; simp
    · have : ¬ n = i := fun z => h z.symm
      simp [h, this]
theorem co_in {ns : List Int} (q : Seq y (ns.map D.int) := by constructor) : CO X s .In (.int i) y (decide (i ∈ ns)) := ⟨_, op_in_seq, fun w v u xx rv ru Q k => by
  cases rv.int
  obtain ⟨pp, vs, rfl, h1, h2⟩ := q.of xx ru
  cases h2.ints
  refine ⟨pp, _, rfl, h1, rfl, flat_ints ns, ?_⟩
  show Q (.bl (if false = true then _ else inV (.int i) (ns.map V.int))) w.H
  rw [if_neg Bool.false_ne_true, inV_ints]
  exact k w.H (Same.refl _)⟩
theorem co_notIn {ns : List Int} (q : Seq y (ns.map D.int) := by constructor) : CO X s .NotIn (.int i) y (!decide (i ∈ ns)) := ⟨_, op_notIn_seq, fun w v u xx rv ru Q k => by
  cases rv.int
  obtain ⟨pp, vs, rfl, h1, h2⟩ := q.of xx ru
  cases h2.ints
  refine ⟨pp, _, rfl, h1, rfl, flat_ints ns, ?_⟩
  show Q (.bl (if true = true then !inV (.int i) (ns.map V.int) else _)) w.H
  rw [if_pos rfl, inV_ints]
  exact k w.H (Same.refl _)⟩
/-- True not in a list of bools -/
theorem co_notInB {bs : List Bool} (q : Seq y (bs.map D.bl) := by constructor) : CO X s .NotIn (.bl true) y (!bs.any id) := ⟨_, op_notIn_seq, fun w v u xx rv ru Q k => by
  cases rv.bl
  obtain ⟨pp, vs, rfl, h1, h2⟩ := q.of xx ru
  cases h2.bls
  have hf : (bs.map V.bl).all flatV = true := by
    rw [List.all_eq_true]
    intro v hv
    obtain ⟨n, _, rfl⟩ := List.mem_map.mp hv
    rfl
  have hi : inV (.bl true) (bs.map V.bl) = bs.any id := by
    unfold inV
    rw [List.any_map]
    congr 1
    funext z
    cases z <;> rfl
  refine ⟨pp, _, rfl, h1, rfl, hf, ?_⟩
  show Q (.bl (if true = true then !inV (.bl true) (bs.map V.bl) else _)) w.H
  rw [if_pos rfl, hi]
  exact k w.H (Same.refl _)⟩
/-- two triples of ints by <= -/
def le3 (a b c a' b' c' : Int) : Bool := if a = a' then (if b = b' then decide (c ≤ c') else decide (b ≤ b')) else decide (a ≤ a')
theorem co_le3 {a1 b1 c1 a2 b2 c2 : Int} (hu : X.A.units + 64 < cLine) : CO X s .LtE (.tup [.int a1, .int b1, .int c1]) (.tup [.int a2, .int b2, .int c2]) (le3 a1 b1 c1 a2 b2 c2) := ⟨_, op_leT (by omega), fun w v u _ rv ru Q q => by
  obtain ⟨p1, vs, rfl, h1, g1⟩ := rv.tup
  obtain ⟨p2, us, rfl, h2, g2⟩ := ru.tup
  have e1 := Reps.ints (ns := [a1, b1, c1]) g1
  have e2 := Reps.ints (ns := [a2, b2, c2]) g2
  subst e1 e2
  refine ⟨p1, p2, [a1, b1, c1], [a2, b2, c2], rfl, rfl, SqT.of h1, SqT.of h2, ?_⟩
  have e3 : Ob.lexAt (fun j => decide (([a1, b1, c1] : List Int).getD j 0 = ([a2, b2, c2] : List Int).getD j 0)) (fun j => decide (([a1, b1, c1] : List Int).getD j 0 ≤ ([a2, b2, c2] : List Int).getD j 0)) (decide (([a1, b1, c1] : List Int).length ≤ ([a2, b2, c2] : List Int).length)) 0 (min ([a1, b1, c1] : List Int).length ([a2, b2, c2] : List Int).length) = le3 a1 b1 c1 a2 b2 c2 := by
    unfold le3
    show (if decide (a1 = a2) = true then (if decide (b1 = b2) = true then (if decide (c1 = c2) = true then decide (3 ≤ 3) else decide (c1 ≤ c2)) else decide (b1 ≤ b2)) else decide (a1 ≤ a2)) = _
    by_cases h1 : a1 = a2
    · rw [if_pos h1, if_pos (decide_eq_true h1)]
      by_cases h2 : b1 = b2
      · rw [if_pos h2, if_pos (decide_eq_true h2)]
        by_cases h3 : c1 = c2
        · rw [if_pos (decide_eq_true h3)]
          exact (decide_eq_true (Nat.le_refl 3)).trans (decide_eq_true (Int.le_of_eq h3)).symm
        · rw [if_neg (by simpa using h3)]
      · rw [if_neg h2, if_neg (by simpa using h2)]
    · rw [if_neg h1, if_neg (by simpa using h1)]
  rw [e3]
  exact q w.H (Same.refl _)⟩
/-! data at any depth -/
mutual
inductive PyOf : D → PyData → Prop where
  | non : PyOf .non .none
  | bl (b : Bool) : PyOf (.bl b) (.bool b)
  | int (i : Int) : PyOf (.int i) (.int i)
  | str (z : Str) : PyOf (.str z) (.str z)
  | tup {ds : List D} {ps : List PyData} : PysOf ds ps → PyOf (.tup ds) (.tuple ps)
  | lst {ds : List D} {ps : List PyData} : PysOf ds ps → PyOf (.lst ds) (.list ps)
inductive PysOf : List D → List PyData → Prop where
  | nil : PysOf [] []
  | cons {d : D} {p : PyData} {ds : List D} {ps : List PyData} : PyOf d p → PysOf ds ps → PysOf (d :: ds) (p :: ps)
end
mutual
theorem Rep.dp {K : PySem.W.Frag} {w : Wd} : ∀ {d : D} {q : PyData}, PyOf d q → ∀ {v : V}, Rep K w v d → Dp K w.H v q
  | _, _, .non, _, .non => .non
  | _, _, .bl b, _, .bl _ => .bl b
  | _, _, .int b, _, .int _ => .int b
  | _, _, .str b, _, .str _ => .str b
  | _, _, .tup h, _, .tup f r => .tup (SqT.of f.2.2) (Reps.dp h r)
  | _, _, .lst h, _, .lst f r => .lst (SqL.of f.2.2) (Reps.dp h r)
theorem Reps.dp {K : PySem.W.Frag} {w : Wd} : ∀ {ds : List D} {qs : List PyData}, PysOf ds qs → ∀ {vs : List V}, Reps K w vs ds → DpAll K w.H vs qs
  | _, _, .nil, _, .nil => .nil
  | _, _, .cons h hs, _, .cons r rs => .cons (Rep.dp h r) (Reps.dp hs rs)
end
theorem co_neD {q1 q2 : PyData} (hu : X.A.units + 64 < cLine) (h1 : PyOf x q1) (h2 : PyOf y q2) (s1 : SeqAt.shaped q1 = true) (s2 : SeqAt.shaped q2 = true)
    (hx : ∀ w v, Sto X.K w s → RepR X.K w s v x → Rep X.K w v x) (hy : ∀ w v, Sto X.K w s → RepR X.K w s v y → Rep X.K w v y) : CO X s .NotEq x y (!PyData.eqv q1 q2) := ⟨_, op_neD hu, fun w v u xx rv ru Q q =>
  ⟨q1, q2, (hx w v xx rv).dp h1, (hy w u xx ru).dp h2, s1, s2, q w.H (Same.refl _)⟩⟩
/-- an empty list? -/
theorem co_eqNil {ns : List Int} (hu : X.A.units + 64 < cLine) : CO X s .Eq (.lst (ns.map D.int)) (.lst []) ns.isEmpty := ⟨_, op_eqD hu, fun w v u xx rv ru Q q => by
  obtain ⟨p1, vs, rfl, h1, g1⟩ := rv.lst xx
  obtain ⟨p2, us, rfl, h2, g2⟩ := ru.lst xx
  cases g1.ints
  cases g2
  have all : ∀ ns : List Int, DpAll X.K w.H (ns.map V.int) (ns.map PyData.int) := fun ns => by
    induction ns with
    | nil => exact .nil
    | cons n ns ih => exact .cons (.int n) ih
  have sh : ∀ ns : List Int, SeqAt.shaped (.list (ns.map PyData.int)) = true := fun ns => by
    induction ns with
    | nil => rfl
    | cons n ns ih => exact ih
  refine ⟨.list (ns.map PyData.int), .list [], .lst (SqL.of h1) (all ns), .lst (SqL.of h2) .nil, sh ns, rfl, ?_⟩
  have e3 : PyData.eqv (.list (ns.map PyData.int)) (.list []) = ns.isEmpty := by cases ns <;> rfl
  rw [e3]
  exact q w.H (Same.refl _)⟩

/-! and, or, not; a value as a test -/
theorem et_of (h : EV X ρ s e (.bl k)) (he : ∀ whole, isTrue e X.env whole = (do let v ← whole; standAt e.pos; holding [v] (truthy v)) := by intro _; rfl) : ET X ρ s e k := fun w σ rl Q q =>
  semT_of (pt_val pe_sem he) (h w σ rl _ fun v H1 e1 r1 => by cases r1; exact ⟨k, rfl, q H1 e1⟩)
theorem et_not (h : ET X ρ s e k) : ET X ρ s (.UnaryOp .Not e pos) (!k) := fun w σ rl Q q => semT_of (pt_not pt_sem) (h w σ rl _ fun H' e1 => q H' e1)
theorem et_w (h : EW X ρ s e k) : ET X ρ s e k := fun w σ rl Q q => semT_of (PW.pt pw_sem) (h w σ rl Q q)
variable {k2 : Bool} {rest : List Expr}
theorem ew_and1 (h : ET X ρ s a k) : EW X ρ s (.BoolOp .And [a] pos) k := fun w σ rl Q q => semW_of (pw_and1 pt_sem) (h w σ rl Q q)
theorem ew_or1 (h : ET X ρ s a k) : EW X ρ s (.BoolOp .Or [a] pos) k := fun w σ rl Q q => semW_of (pw_or1 pt_sem) (h w σ rl Q q)
theorem ew_and (h : ET X ρ s a k) (h2 : k = true → EW X ρ s (.BoolOp .And (b :: rest) pos) k2) : EW X ρ s (.BoolOp .And (a :: b :: rest) pos) (k && k2) := fun w σ rl Q q =>
  semW_of (pw_and pt_sem pw_sem) (h w σ rl _ fun H1 e1 => by
    cases k with
    | true => exact h2 rfl (w.to H1) σ (rl.same e1) Q fun H' e2 => q H' (e1.trans e2)
    | false => exact q H1 e1)
theorem ew_or (h : ET X ρ s a k) (h2 : k = false → EW X ρ s (.BoolOp .Or (b :: rest) pos) k2) : EW X ρ s (.BoolOp .Or (a :: b :: rest) pos) (k || k2) := fun w σ rl Q q =>
  semW_of (pw_or pt_sem pw_sem) (h w σ rl _ fun H1 e1 => by
    cases k with
    | false => exact h2 rfl (w.to H1) σ (rl.same e1) Q fun H' e2 => q H' (e1.trans e2)
    | true => exact q H1 e1)
theorem ev_one {op : BoolOp} (h : EV X ρ s a d) : EV X ρ s (.BoolOp op [a] pos) d := fun w σ rl Q q => sem_of (pe_one pe_sem) (h w σ rl Q q)
theorem ev_and (h : EV X ρ s a (.bl k)) (h2 : k = true → EV X ρ s (.BoolOp .And (b :: rest) pos) (.bl k2)) : EV X ρ s (.BoolOp .And (a :: b :: rest) pos) (.bl (k && k2)) := fun w σ rl Q q =>
  sem_of (pe_and pe_sem pe_sem) (h w σ rl _ fun v H1 e1 r1 => by
    cases r1
    refine ⟨k, rfl, ?_⟩
    cases k with
    | true => exact h2 rfl (w.to H1) σ (rl.same e1) Q fun v H' e2 r2 => q v H' (e1.trans e2) r2
    | false => exact q _ H1 e1 (.bl false))

/-! built-ins by name -/
theorem eg_bi1 {id : String} {n : Str} {r : List V → Hp → VK → Prop} (hc : CallR X (.builtin id) r) (hm : X.mg n = none) (hv : bootBuiltins n = some (.builtin id)) (ha : ER X ρ s a x)
    (hr : ∀ w v, Sto X.K w s → RepR X.K w s v x → ∀ Q : VK, (∀ v' H', Same w.H H' → R (w.to H') v' → Q v' H') → r [v] w.H Q)
    (hg : Gl X n := by rfl) (hn : n ≠ "__name__" := by decide) (hd : (n == ("__debug__" : Str)) = false := by decide) (h1 : starEach [a] X.env = (false, eval a X.env) :: starEach [] X.env := by rfl) (h2 : (backTo pos (starEach [] X.env)).any (·.1) = false := by rfl) :
    EG X ρ s (.Call (.Name n p) [a] [] pos) R := fun w σ rl Q q =>
  sem_of (pe_callB hc hg hm hv (pa_cons pe_sem pa_nil h1) hn hd h1 h2) (ha w σ rl _ fun v H1 e1 r1 => hr (w.to H1) v (rl.sto.same e1) r1 Q fun v' H' e2 r2 => q v' H' (e1.trans e2) r2)
theorem eg_ty1 {id : String} {n : Str} {r : List V → Hp → VK → Prop} (hc : CallR X (.type id) r) (hm : X.mg n = none) (hv : bootBuiltins n = some (.type id)) (ha : ER X ρ s a x)
    (hr : ∀ w v, Sto X.K w s → RepR X.K w s v x → ∀ Q : VK, (∀ v' H', Same w.H H' → R (w.to H') v' → Q v' H') → r [v] w.H Q)
    (hg : Gl X n := by rfl) (hn : n ≠ "__name__" := by decide) (hd : (n == ("__debug__" : Str)) = false := by decide) (h1 : starEach [a] X.env = (false, eval a X.env) :: starEach [] X.env := by rfl) (h2 : (backTo pos (starEach [] X.env)).any (·.1) = false := by rfl) :
    EG X ρ s (.Call (.Name n p) [a] [] pos) R := fun w σ rl Q q =>
  sem_of (pe_callTy hc hg hm hv (pa_cons pe_sem pa_nil h1) hn hd h1 h2) (ha w σ rl _ fun v H1 e1 r1 => hr (w.to H1) v (rl.sto.same e1) r1 Q fun v' H' e2 r2 => q v' H' (e1.trans e2) r2)
theorem en_bi1 {id : String} {n : Str} {r : List V → Hp → VK → Prop} {ds : List D} (hc : CallR X (.builtin id) r) (hm : X.mg n = none) (hv : bootBuiltins n = some (.builtin id)) (ha : ER X ρ s a x)
    (hr : ∀ w v, Sto X.K w s → RepR X.K w s v x → ∀ Q : VK, (∀ p vs H', w.H p = none → Same w.H H' → H' p = some (.lst vs) → Reps X.K (w.av p H') vs ds → Q (.ref p) H') → r [v] w.H Q)
    (hg : Gl X n := by rfl) (hn : n ≠ "__name__" := by decide) (hd : (n == ("__debug__" : Str)) = false := by decide) (h1 : starEach [a] X.env = (false, eval a X.env) :: starEach [] X.env := by rfl) (h2 : (backTo pos (starEach [] X.env)).any (·.1) = false := by rfl) :
    EN X ρ s (.Call (.Name n p) [a] [] pos) ds := fun w σ rl Q q =>
  sem_of (pe_callB hc hg hm hv (pa_cons pe_sem pa_nil h1) hn hd h1 h2) (ha w σ rl _ fun v H1 e1 r1 => hr (w.to H1) v (rl.sto.same e1) r1 Q fun p vs H' h0 e2 h1 r2 => q p vs H' (e1.free h0) (e1.trans e2) h1 r2)
theorem en_ty1 {id : String} {n : Str} {r : List V → Hp → VK → Prop} {ds : List D} (hc : CallR X (.type id) r) (hm : X.mg n = none) (hv : bootBuiltins n = some (.type id)) (ha : ER X ρ s a x)
    (hr : ∀ w v, Sto X.K w s → RepR X.K w s v x → ∀ Q : VK, (∀ p vs H', w.H p = none → Same w.H H' → H' p = some (.lst vs) → Reps X.K (w.av p H') vs ds → Q (.ref p) H') → r [v] w.H Q)
    (hg : Gl X n := by rfl) (hn : n ≠ "__name__" := by decide) (hd : (n == ("__debug__" : Str)) = false := by decide) (h1 : starEach [a] X.env = (false, eval a X.env) :: starEach [] X.env := by rfl) (h2 : (backTo pos (starEach [] X.env)).any (·.1) = false := by rfl) :
    EN X ρ s (.Call (.Name n p) [a] [] pos) ds := fun w σ rl Q q =>
  sem_of (pe_callTy hc hg hm hv (pa_cons pe_sem pa_nil h1) hn hd h1 h2) (ha w σ rl _ fun v H1 e1 r1 => hr (w.to H1) v (rl.sto.same e1) r1 Q fun p vs H' h0 e2 h1 r2 => q p vs H' (e1.free h0) (e1.trans e2) h1 r2)
theorem ev_len {ds : List D} (T : Tops X.K X.mg) (ha : ER X ρ s a x) (q : Seq x ds := by constructor) (hg : Gl X "len" := by rfl) (h1 : starEach [a] X.env = (false, eval a X.env) :: starEach [] X.env := by rfl) (h2 : (backTo pos (starEach [] X.env)).any (·.1) = false := by rfl) :
    EV X ρ s (.Call (.Name "len" p) [a] [] pos) (.int (ds.length : Int)) :=
  eg_bi1 call_len_seq T.len PySem.boot_len ha (fun w v xx r Q k => by
    obtain ⟨pp, vs, rfl, h1, h2⟩ := q.of xx r
    exact ⟨pp, vs, rfl, h1, by rw [h2.length]; exact k _ w.H (Same.refl _) (.int _)⟩) hg (by decide) (by decide) h1 h2
theorem ev_lenS {ns : List Int} (T : Tops X.K X.mg) (ha : EV X ρ s a (.scr ns)) (hg : Gl X "len" := by rfl) (h1 : starEach [a] X.env = (false, eval a X.env) :: starEach [] X.env := by rfl) (h2 : (backTo pos (starEach [] X.env)).any (·.1) = false := by rfl) :
    EV X ρ s (.Call (.Name "len" p) [a] [] pos) (.int (ns.length : Int)) :=
  eg_bi1 call_len_seq T.len PySem.boot_len (er_ ha) (fun w v xx r Q k => by
    obtain ⟨pp, rfl, h1⟩ := r.scr
    exact ⟨pp, _, rfl, .inl h1, by rw [List.length_map]; exact k _ w.H (Same.refl _) (.int _)⟩) hg (by decide) (by decide) h1 h2
/-- tuple(list), tuple(tuple) -/
theorem ev_tupleOf {ds : List D} (T : Tops X.K X.mg) (ha : ER X ρ s a (.lst ds)) (hg : Gl X "tuple" := by rfl) (h1 : starEach [a] X.env = (false, eval a X.env) :: starEach [] X.env := by rfl) (h2 : (backTo pos (starEach [] X.env)).any (·.1) = false := by rfl) :
    EV X ρ s (.Call (.Name "tuple" p) [a] [] pos) (.tup ds) :=
  eg_ty1 call_tuple_of T.tuple PyProof.Rows.boot_tuple ha (fun w v xx r Q k => by
    obtain ⟨pp, vs, rfl, h1, h2⟩ := r.lst xx
    exact ⟨pp, vs, rfl, .inl ⟨SqL.of h1, fun l hl => k _ _ (same_upd hl) (xx.newTup hl h2)⟩⟩) hg (by decide) (by decide) h1 h2
/-- list(tuple), list(list) -/
theorem en_listOf {ds : List D} (T : Tops X.K X.mg) (ha : ER X ρ s a x) (q : Seq x ds := by constructor) (hg : Gl X "list" := by rfl) (h1 : starEach [a] X.env = (false, eval a X.env) :: starEach [] X.env := by rfl) (h2 : (backTo pos (starEach [] X.env)).any (·.1) = false := by rfl) :
    EN X ρ s (.Call (.Name "list" p) [a] [] pos) ds :=
  en_ty1 call_list_of T.list PyProof.Rows.boot_list ha (fun w v xx r Q k => by
    obtain ⟨pp, vs, rfl, h1, h2⟩ := q.of xx r
    exact ⟨pp, vs, rfl, h1, fun l hl => k _ _ _ hl (same_upd hl) upd_same (h2.av hl)⟩) hg (by decide) (by decide) h1 h2
theorem ev_sumL {ns : List Int} (T : Tops X.K X.mg) (ha : ER X ρ s a (.lst (ns.map D.int))) (hc : X.calm = true := by rfl) (hg : Gl X "sum" := by rfl) (h1 : starEach [a] X.env = (false, eval a X.env) :: starEach [] X.env := by rfl) (h2 : (backTo pos (starEach [] X.env)).any (·.1) = false := by rfl) :
    EV X ρ s (.Call (.Name "sum" p) [a] [] pos) (.int ns.sum) :=
  eg_bi1 (cr_sum hc) T.sum PyProof.Rows.boot_sum ha (fun w v xx r Q k => by
    obtain ⟨pp, vs, rfl, h1, h2⟩ := r.lst xx
    cases h2.ints
    exact ⟨pp, ns, rfl, SqL.of h1, k _ w.H (Same.refl _) (.int _)⟩) hg (by decide) (by decide) h1 h2
/-- min of a list of ints that has such a least one -/
def IsMin (m : Int) (ns : List Int) : Prop := m ∈ ns ∧ ∀ y ∈ ns, m ≤ y
theorem ev_minL {ns : List Int} {m : Int} (T : Tops X.K X.mg) (ha : ER X ρ s a (.lst (ns.map D.int))) (hm : IsMin m ns) (hc : X.calm = true := by rfl) (hg : Gl X "min" := by rfl) (h1 : starEach [a] X.env = (false, eval a X.env) :: starEach [] X.env := by rfl) (h2 : (backTo pos (starEach [] X.env)).any (·.1) = false := by rfl) :
    EV X ρ s (.Call (.Name "min" p) [a] [] pos) (.int m) :=
  eg_bi1 (cr_min hc) T.min PyProof.Rows.boot_min ha (fun w v xx r Q k => by
    obtain ⟨pp, vs, rfl, h1, h2⟩ := r.lst xx
    cases h2.ints
    refine ⟨pp, ns, rfl, SqL.of h1, List.length_pos_of_mem hm.1, fun m' h3 h4 => ?_⟩
    have e : m' = m := Int.le_antisymm (h4 m hm.1) (hm.2 m' h3)
    rw [e]
    exact k _ w.H (Same.refl _) (.int _)) hg (by decide) (by decide) h1 h2
/-- sorted of fewer than 64 ints -/
theorem en_sorted {ns ms : List Int} (T : Tops X.K X.mg) (ha : ER X ρ s a (.lst (ns.map D.int))) (hm : ns.Perm ms ∧ ms.Pairwise (· ≤ ·)) (hz : ns.length < 64) (hg : Gl X "sorted" := by rfl) (h1 : starEach [a] X.env = (false, eval a X.env) :: starEach [] X.env := by rfl) (h2 : (backTo pos (starEach [] X.env)).any (·.1) = false := by rfl) :
    EN X ρ s (.Call (.Name "sorted" p) [a] [] pos) (ms.map D.int) :=
  en_bi1 cr_sorted T.sorted PyProof.Rows.boot_sorted ha (fun w v xx r Q k => by
    obtain ⟨pp, vs, rfl, h1, h2⟩ := r.lst xx
    cases h2.ints
    refine ⟨pp, ns, rfl, SqL.of h1, hz, fun ns' p3 h3 h4 h5 => ?_⟩
    have e : ns' = ms := List.Perm.eq_of_pairwise (fun _ _ _ _ => Int.le_antisymm) h4 hm.2 (h3.trans hm.1)
    rw [e]
    exact k _ _ _ h5 (same_upd h5) upd_same reps_ints) hg (by decide) (by decide) h1 h2
/-- sorted of a dict with fewer than 64 keys -/
theorem en_sortedD {kvs : List (Int × D)} {ms : List Int} (T : Tops X.K X.mg) (ha : ER X ρ s a (.dk kvs)) (hm : (kvs.map (·.1)).Perm ms ∧ ms.Pairwise (· ≤ ·)) (hz : kvs.length < 64) (hc : X.calm = true := by rfl) (hg : Gl X "sorted" := by rfl) (h1 : starEach [a] X.env = (false, eval a X.env) :: starEach [] X.env := by rfl) (h2 : (backTo pos (starEach [] X.env)).any (·.1) = false := by rfl) :
    EN X ρ s (.Call (.Name "sorted" p) [a] [] pos) (ms.map D.int) :=
  en_bi1 (call_sortedDI hc) T.sorted PyProof.Rows.boot_sorted ha (fun w v xx r Q k => by
    obtain ⟨pp, vs, rfl, h1, h2⟩ := r.dk xx
    have l := h2.length
    rw [List.length_map] at l
    refine ⟨pp, _, kvs.map (·.1), rfl, .inl h1, ?_, by rw [List.length_map]; exact hz, fun ns' p3 h3 h4 h5 => ?_⟩
    · unfold dkv
      exact List.map_fst_zip (by rw [List.length_map, List.length_map, l]; exact Nat.le_refl _)
    have e : ns' = ms := List.Perm.eq_of_pairwise (fun _ _ _ _ => Int.le_antisymm) h4 hm.2 (h3.trans hm.1)
    rw [e]
    exact k _ _ _ h5 (same_upd h5) upd_same reps_ints) hg (by decide) (by decide) h1 h2
theorem ev_max2 (T : Tops X.K X.mg) (ha : EV X ρ s a (.int i)) (hb : EV X ρ s b (.int j)) (hc : X.calm = true := by rfl) (hg : Gl X "max" := by rfl) (h1 : starEach [a, b] X.env = (false, eval a X.env) :: starEach [b] X.env := by rfl) (h3 : starEach [b] X.env = (false, eval b X.env) :: starEach [] X.env := by rfl) (h2 : (backTo pos (starEach [b] X.env)).any (·.1) = false := by rfl) :
    EV X ρ s (.Call (.Name "max" p) [a, b] [] pos) (.int (max i j)) := fun w σ rl Q q =>
  sem_of (pe_callB (call_max2 hc) hg T.max PyProof.Rows.boot_max (pa_cons pe_sem (pa_cons pe_sem pa_nil h3) h1) (by decide) (by decide) h1 h2) (ha w σ rl _ fun v H1 e1 r1 => hb (w.to H1) σ (rl.same e1) _ fun u H2 e2 r2 => by
    cases r1
    cases r2
    refine ⟨i, j, rfl, ?_⟩
    have e : (if j > i then j else i) = max i j := by
      split <;> omega
    rw [e]
    exact q _ _ (e1.trans e2) (.int _))
theorem ev_min2 (T : Tops X.K X.mg) (ha : EV X ρ s a (.int i)) (hb : EV X ρ s b (.int j)) (hc : X.calm = true := by rfl) (hg : Gl X "min" := by rfl) (h1 : starEach [a, b] X.env = (false, eval a X.env) :: starEach [b] X.env := by rfl) (h3 : starEach [b] X.env = (false, eval b X.env) :: starEach [] X.env := by rfl) (h2 : (backTo pos (starEach [b] X.env)).any (·.1) = false := by rfl) :
    EV X ρ s (.Call (.Name "min" p) [a, b] [] pos) (.int (min i j)) := fun w σ rl Q q =>
  sem_of (pe_callB (call_min2 hc) hg T.min PyProof.Rows.boot_min (pa_cons pe_sem (pa_cons pe_sem pa_nil h3) h1) (by decide) (by decide) h1 h2) (ha w σ rl _ fun v H1 e1 r1 => hb (w.to H1) σ (rl.same e1) _ fun u H2 e2 r2 => by
    cases r1
    cases r2
    refine ⟨i, j, rfl, ?_⟩
    have e : (if j < i then j else i) = min i j := by
      split <;> omega
    rw [e]
    exact q _ _ (e1.trans e2) (.int _))
/-- tuple(range(n)) -/
def rng (n : Nat) : List Int := (List.range n).map fun (i : Nat) => (i : Int)
theorem ev_tupleRange {p1 pos1 : Pos} {n : Nat} (T : Tops X.K X.mg) (ha : EV X ρ s a (.int (n : Int))) (hz : n ≤ 1000) (hc : X.calm = true := by rfl) (hg : Gl X "tuple" := by rfl) (hg2 : Gl X "range" := by rfl) (h1 : starEach [.Call (.Name "range" p1) [a] [] pos1] X.env = (false, eval (.Call (.Name "range" p1) [a] [] pos1) X.env) :: starEach [] X.env := by rfl)
    (h3 : starEach [a] X.env = (false, eval a X.env) :: starEach [] X.env := by rfl) :
    EV X ρ s (.Call (.Name "tuple" p) [.Call (.Name "range" p1) [a] [] pos1] [] pos) (.tup ((rng n).map D.int)) := fun w σ rl Q q =>
  sem_of (pe_tupRg hc hg T.tuple (prg_1 hg2 T.range pe_sem h3) h1) (ha w σ rl _ fun v H1 e1 r1 => by
    cases r1
    refine ⟨(n : Int), rfl, RgOk.of_le (Int.le_refl 0) (by omega) (by decide) (by omega), fun t ht => ?_⟩
    have e2 : rgV 0 (n : Int) = (rng n).map V.int := by
      unfold rgV rng
      have e3 : ((n : Int) - 0).toNat = n := by omega
      rw [e3, List.map_map]
      apply List.map_congr_left
      intro k _
      show V.int (0 + (k : Int)) = V.int (k : Int)
      rw [Int.zero_add]
    rw [e2]
    exact q _ _ (e1.trans (same_upd ht)) ((rl.sto.same e1).newTup ht reps_ints))
end
/-! ## Dicts, calls of the text's own defs, comprehensions -/
section
variable {κ κ' : Type} [DecidableEq κ] [DecidableEq κ'] {α : Type}
def lkG (kvs : List (κ × α)) (k : κ) : Option α := (kvs.find? fun p => decide (p.1 = k)).map (·.2)
def putG (kvs : List (κ × α)) (k : κ) (v : α) : List (κ × α) := if (kvs.any fun p => decide (p.1 = k)) = true then kvs.map fun p => if p.1 = k then (p.1, v) else p else kvs ++ [(k, v)]
theorem lkG_nil (k : κ) : lkG ([] : List (κ × α)) k = none := rfl
theorem lkG_cons (p : κ × α) (r : List (κ × α)) (k : κ) : lkG (p :: r) k = if p.1 = k then some p.2 else lkG r k := by
  unfold lkG
  rw [List.find?_cons]
  by_cases h : p.1 = k
  · rw [if_pos h, decide_eq_true h]; rfl
  · rw [if_neg h, decide_eq_false h]
theorem lkG_any (k : κ) : ∀ kvs : List (κ × α), (kvs.any fun p => decide (p.1 = k)) = (lkG kvs k).isSome
  | [] => rfl
  | p :: r => by
    rw [List.any_cons, lkG_any k r, lkG_cons]
    by_cases h : p.1 = k
    · rw [if_pos h, decide_eq_true h]; rfl
    · rw [if_neg h, decide_eq_false h]; rfl
theorem lkG_app (k : κ) : ∀ (kvs r : List (κ × α)), lkG (kvs ++ r) k = (lkG kvs k).or (lkG r k)
  | [], r => rfl
  | p :: l, r => by
    rw [List.cons_append, lkG_cons, lkG_cons, lkG_app k l r]
    by_cases h : p.1 = k
    · rw [if_pos h, if_pos h]; rfl
    · rw [if_neg h, if_neg h]
theorem lkG_map (k j : κ) (v : α) : ∀ kvs : List (κ × α), lkG (kvs.map fun p => if p.1 = k then (p.1, v) else p) j = if j = k then (lkG kvs k).map (fun _ => v) else lkG kvs j
  | [] => by
    show none = if j = k then Option.map (fun _ => v) none else none
    split <;> rfl
  | p :: r => by
    rw [List.map_cons, lkG_cons, lkG_map k j v r, lkG_cons, lkG_cons]
    by_cases h : p.1 = k
    · rw [if_pos h, if_pos h]
      by_cases hj : j = k
      · rw [if_pos (show (p.1, v).1 = j from h.trans hj.symm), if_pos hj]; rfl
      · rw [if_neg (show ¬ (p.1, v).1 = j from fun z => hj (z.symm.trans h)), if_neg hj, if_neg hj, if_neg fun z => hj (z.symm.trans h)]
    · rw [if_neg h, if_neg h]
      by_cases hj : j = k
      · rw [if_pos hj, if_pos hj, if_neg fun z => h (z.trans hj)]
      · rw [if_neg hj, if_neg hj]
theorem lkG_put (kvs : List (κ × α)) (k j : κ) (v : α) : lkG (putG kvs k v) j = if j = k then some v else lkG kvs j := by
  unfold putG
  by_cases h : (kvs.any fun p => decide (p.1 = k)) = true
  · rw [if_pos h, lkG_map]
    rw [lkG_any] at h
    obtain ⟨u, hu⟩ := Option.isSome_iff_exists.mp h
    rw [hu] <;> rfl
  · rw [if_neg h, lkG_app, lkG_cons, lkG_nil]
    rw [lkG_any] at h
    have hn : lkG kvs k = none := by
      cases q : lkG kvs k with
      | none => rfl
      | some u => rw [q] at h; exact absurd rfl h
    by_cases hj : j = k
    · subst hj; rw [hn]; simp
    · rw [if_neg hj, if_neg (fun z => hj z.symm)]
      cases lkG kvs j <;> rfl
theorem putG_len (kvs : List (κ × α)) (k : κ) (v : α) : (putG kvs k v).length ≤ kvs.length + 1 := by
  unfold putG
  split
  · rw [List.length_map]; omega
  · rw [List.length_append]; exact Nat.le_refl _
theorem putG_keys (kvs : List (κ × α)) (k : κ) (v : α) : (putG kvs k v).map (·.1) = if (lkG kvs k).isSome then kvs.map (·.1) else kvs.map (·.1) ++ [k] := by
  unfold putG
  rw [← lkG_any]
  split
  · rw [List.map_map]
    apply List.map_congr_left
    intro p _
    show (if p.1 = k then (p.1, v) else p).1 = p.1
    split <;> rfl
  · rw [List.map_append] <;> rfl
theorem lkG_mem {kvs : List (κ × α)} {k : κ} {v : α} (h : lkG kvs k = some v) : (k, v) ∈ kvs := by
  induction kvs with
  | nil => cases h
  | cons p r ih =>
    rw [lkG_cons] at h
    by_cases q : p.1 = k
    · rw [if_pos q] at h
      cases h
      rw [← q]; exact List.mem_cons_self
    · rw [if_neg q] at h
      exact List.mem_cons_of_mem _ (ih h)
theorem lkG_key {kvs : List (κ × α)} {k : κ} : (lkG kvs k).isSome = true ↔ k ∈ kvs.map (·.1) := by
  rw [← lkG_any, List.any_eq_true]
  constructor
  · rintro ⟨p, hp, h⟩
    exact List.mem_map.mpr ⟨p, hp, of_decide_eq_true h⟩
  · intro h
    obtain ⟨p, hp, e⟩ := List.mem_map.mp h
    exact ⟨p, hp, decide_eq_true e⟩

variable {K : PySem.W.Frag} {w : Wd}
def zk (emb : κ → κ') (ks : List κ) (vs : List V) : List (κ' × V) := (ks.map emb).zip vs
theorem zk_val {emb : κ → κ'} (hi : ∀ a b, emb a = emb b → a = b) (k : κ) : ∀ {kvs : List (κ × D)} {vs : List V}, Reps K w vs (kvs.map (·.2)) →
    (∀ d, lkG kvs k = some d → ∃ v, valV (zk emb (kvs.map (·.1)) vs) (emb k) = some v ∧ Rep K w v d) ∧ (lkG kvs k = none → valV (zk emb (kvs.map (·.1)) vs) (emb k) = none)
  | [], _, .nil => ⟨fun _ h => (nomatch h), fun _ => rfl⟩
  | p :: r, _, .cons (v := v) (vs := vs) a b => by
    obtain ⟨h1, h2⟩ := zk_val hi k b
    have e : zk emb ((p :: r).map (·.1)) (v :: vs) = (emb p.1, v) :: zk emb (r.map (·.1)) vs := rfl
    rw [e, lkG_cons]
    by_cases h : p.1 = k
    · rw [if_pos h, valV_pos (show (emb p.1, v).1 = emb k from congrArg emb h)]
      exact ⟨fun d hd => ⟨v, rfl, by cases hd; exact a⟩, fun z => nomatch z⟩
    · rw [if_neg h, valV_neg (show ¬ (emb p.1, v).1 = emb k from fun z => h (hi _ _ z))]
      exact ⟨h1, h2⟩
theorem zk_any {emb : κ → κ'} (hi : ∀ a b, emb a = emb b → a = b) (k : κ) : ∀ {ks : List κ} {vs : List V}, vs.length = ks.length → ((zk emb ks vs).any fun p => decide (p.1 = emb k)) = ks.any fun a => decide (a = k)
  | [], [], _ => rfl
  | a :: ks, v :: vs, h => by
    have e : zk emb (a :: ks) (v :: vs) = (emb a, v) :: zk emb ks vs := rfl
    rw [e, List.any_cons, List.any_cons, zk_any hi k (Nat.succ.inj h)]
    congr 1
    show decide (emb a = emb k) = decide (a = k)
    by_cases z : a = k
    · rw [decide_eq_true z, decide_eq_true (congrArg emb z)]
    · rw [decide_eq_false z, decide_eq_false fun q => z (hi _ _ q)]
theorem zk_map {emb : κ → κ'} (hi : ∀ a b, emb a = emb b → a = b) (k : κ) {v : V} {d : D} (rv : Rep K w v d) : ∀ {kvs : List (κ × D)} {vs : List V}, Reps K w vs (kvs.map (·.2)) →
    ∃ vs', ((zk emb (kvs.map (·.1)) vs).map fun p => if p.1 = emb k then (p.1, v) else p) = zk emb ((kvs.map fun p => if p.1 = k then (p.1, d) else p).map (·.1)) vs' ∧ Reps K w vs' ((kvs.map fun p => if p.1 = k then (p.1, d) else p).map (·.2))
  | [], _, .nil => ⟨[], rfl, .nil⟩
  | p :: r, _, .cons (v := u) (vs := vs) a b => by
    obtain ⟨vs', h1, h2⟩ := zk_map hi k rv b
    have e : zk emb ((p :: r).map (·.1)) (u :: vs) = (emb p.1, u) :: zk emb (r.map (·.1)) vs := rfl
    rw [e, List.map_cons, h1, List.map_cons, List.map_cons, List.map_cons]
    by_cases h : p.1 = k
    · refine ⟨v :: vs', ?_, ?_⟩
      · rw [if_pos h, if_pos (show (emb p.1, u).1 = emb k from congrArg emb h)] <;> rfl
      · rw [if_pos h]; exact .cons rv h2
    · refine ⟨u :: vs', ?_, ?_⟩
      · rw [if_neg h, if_neg (show ¬ (emb p.1, u).1 = emb k from fun z => h (hi _ _ z))] <;> rfl
      · rw [if_neg h]; exact .cons a h2
theorem zk_put {emb : κ → κ'} (hi : ∀ a b, emb a = emb b → a = b) (k : κ) {v : V} {d : D} (rv : Rep K w v d) {kvs : List (κ × D)} {vs : List V} (r : Reps K w vs (kvs.map (·.2))) :
    ∃ vs', putK (zk emb (kvs.map (·.1)) vs) (emb k) v = zk emb ((putG kvs k d).map (·.1)) vs' ∧ Reps K w vs' ((putG kvs k d).map (·.2)) := by
  have hl : vs.length = (kvs.map (·.1)).length := by rw [r.length, List.length_map, List.length_map]
  unfold putK putG
  rw [zk_any hi k hl, List.any_map]
  show ∃ vs', (if (kvs.any fun p => decide (p.1 = k)) = true then _ else _) = _ ∧ _
  by_cases h : (kvs.any fun p => decide (p.1 = k)) = true
  · rw [if_pos h, if_pos h]
    exact zk_map hi k rv r
  · rw [if_neg h, if_neg h]
    refine ⟨vs ++ [v], ?_, ?_⟩
    · unfold zk
      rw [List.map_append, List.map_append, List.zip_append (by rw [List.length_map, hl])] <;> rfl
    · rw [List.map_append]
      exact r.append (.cons rv .nil)
end
theorem inl_inj (a b : Int) (h : (Sum.inl a : Key) = Sum.inl b) : a = b := Sum.inl.inj h
theorem minl_inj : ∀ (a b : List Int), (a.map fun i => (Sum.inl i : Key)) = (b.map fun i => (Sum.inl i : Key)) → a = b
  | [], [], _ => rfl
  | [], _ :: _, h => nomatch h
  | _ :: _, [], h => nomatch h
  | a :: as, b :: bs, h => by
    have h1 : (Sum.inl a : Key) = Sum.inl b := (List.cons.inj h).1
    rw [Sum.inl.inj h1, minl_inj as bs (List.cons.inj h).2]
section
variable {X : Cx} {ρ : List Sl} {s : List MO} {e a b c o : Expr} {pos p cpos apos : Pos} {R R' : Wd → V → Prop} {d x y z : D} {i j : Int} {k : Bool}
/-- what a dict of data holds at a datum -/
inductive DG : D → D → Option D → Prop where
  | k (kvs : List (Int × D)) (i : Int) : DG (.dk kvs) (.int i) (lkG kvs i)
  | t (kvs : List (List Int × D)) (is : List Int) : DG (.dt kvs) (.tup (is.map D.int)) (lkG kvs is)
theorem DG.of {K : PySem.W.Frag} {w : Wd} {v u : V} {r : Option D} (g : DG x y r) (xx : Sto K w s) (rv : RepR K w s v x) (ru : Rep K w u y) :
    ∃ q ro, v = .ref q ∧ DGet w.H q u ro ∧ IsD w.H q ∧ (∀ d, r = some d → ∃ v', ro = some v' ∧ Rep K w v' d) ∧ (r = none → ro = none) := by
  cases g with
  | k kvs i =>
    obtain ⟨q, vs, rfl, h1, h2⟩ := rv.dk xx
    cases ru
    obtain ⟨z1, z2⟩ := zk_val (emb := fun i : Int => (Sum.inl i : Key)) inl_inj i h2
    exact ⟨q, _, rfl, DGet.k (k := Sum.inl i) h1, .inl ⟨_, .inl h1⟩, fun d hd => z1 d hd, fun hn => z2 hn⟩
  | t kvs is =>
    obtain ⟨q, vs, rfl, h1, h2⟩ := rv.dt xx
    cases ru with
    | tup f g =>
      have e := g.ints
      subst e
      obtain ⟨z1, z2⟩ := zk_val (emb := fun i : List Int => i.map fun i => (Sum.inl i : Key)) minl_inj is h2
      refine ⟨q, _, rfl, DGet.t (k := is.map fun i => (Sum.inl i : Key)) h1 (by rw [List.map_map]; exact f.2.2), .inr ⟨_, .inl h1⟩, fun d hd => z1 d hd, fun hn => z2 hn⟩
theorem ev_dget (hu : X.A.units + 64 < cLine) (ha : ER X ρ s a x) (hb : EV X ρ s b y) (g : DG x y (some d)) (hs : NoSl b := by exact fun _ _ => rfl) : EV X ρ s (.Subscript a b pos) d := fun w σ rl Q q =>
  sem_of (pe_dget (by omega) pe_sem pe_sem hs) (ha w σ rl _ fun v H1 e1 r1 => hb (w.to H1) σ (rl.same e1) _ fun u H2 e2 r2 => by
    obtain ⟨pp, ro, rfl, g1, _, h1, _⟩ := g.of (rl.sto.same (e1.trans e2)) (r1.same e2) r2
    obtain ⟨v', rfl, r3⟩ := h1 d rfl
    exact ⟨pp, v', rfl, g1, q v' H2 (e1.trans e2) r3⟩)
theorem et_inD {r : Option D} (hu : X.A.units + 64 < cLine) (ha : EV X ρ s a y) (hb : ER X ρ s b x) (g : DG x y r) (hm : behindInMarks .In b = false := by rfl) : ET X ρ s (.Compare a [.In] [b] pos) r.isSome := fun w σ rl Q q =>
  semT_of (pt_cmp (pc_din (by omega) pe_sem pe_sem) hm) (ha w σ rl _ fun v H1 e1 r1 => hb (w.to H1) σ (rl.same e1) _ fun u H2 e2 r2 => by
    obtain ⟨pp, ro, rfl, g1, _, h1, h2⟩ := g.of (rl.sto.same (e1.trans e2)) r2 (r1.same e2)
    refine ⟨pp, ro, rfl, g1, _, rfl, ?_⟩
    have e3 : ro.isSome = r.isSome := by
      cases r with
      | none => rw [h2 rfl] <;> rfl
      | some d => obtain ⟨v', e4, _⟩ := h1 d rfl; rw [e4] <;> rfl
    rw [e3]
    exact q H2 (e1.trans e2))
theorem et_ninD {r : Option D} (hu : X.A.units + 64 < cLine) (ha : EV X ρ s a y) (hb : ER X ρ s b x) (g : DG x y r) (hm : behindInMarks .NotIn b = false := by rfl) : ET X ρ s (.Compare a [.NotIn] [b] pos) (!r.isSome) := fun w σ rl Q q =>
  semT_of (pt_cmp (pc_dnotin (by omega) pe_sem pe_sem) hm) (ha w σ rl _ fun v H1 e1 r1 => hb (w.to H1) σ (rl.same e1) _ fun u H2 e2 r2 => by
    obtain ⟨pp, ro, rfl, g1, _, h1, h2⟩ := g.of (rl.sto.same (e1.trans e2)) r2 (r1.same e2)
    refine ⟨pp, ro, rfl, g1, _, rfl, ?_⟩
    have e3 : ro.isSome = r.isSome := by
      cases r with
      | none => rw [h2 rfl] <;> rfl
      | some d => obtain ⟨v', e4, _⟩ := h1 d rfl; rw [e4] <;> rfl
    rw [e3]
    exact q H2 (e1.trans e2))
/-- o.get(e, f) -/
theorem ev_get {r : Option D} (hu : X.A.units + 64 < cLine) (ho : ER X ρ s o x) (he : EV X ρ s a y) (hf : EV X ρ s b z) (g : DG x y r) (m : M2 X o "get" apos a b cpos := by exact ⟨rfl, rfl, rfl, rfl⟩) : EV X ρ s (.Call (.Attribute o "get" apos) [a, b] [] cpos) (r.getD z) := fun w σ rl Q q =>
  sem_of (pe_dget2 (by omega) pe_sem pe_sem pe_sem m) (ho w σ rl _ fun v H1 e1 r1 => by
    have hd : ∃ pp, v = .ref pp ∧ IsD H1 pp := by
      cases g with
      | k kvs i => obtain ⟨q, vs, rfl, h1, h2⟩ := r1.dk (rl.sto.same e1); exact ⟨q, rfl, .inl ⟨_, .inl h1⟩⟩
      | t kvs i => obtain ⟨q, vs, rfl, h1, h2⟩ := r1.dt (rl.sto.same e1); exact ⟨q, rfl, .inr ⟨_, .inl h1⟩⟩
    obtain ⟨pp, rfl, hd⟩ := hd
    refine ⟨pp, rfl, hd, he (w.to H1) σ (rl.same e1) _ fun u H2 e2 r2 => hf (w.to H2) σ (rl.same (e1.trans e2)) _ fun t H3 e3 r3 => ?_⟩
    have ee := (e1.trans e2).trans e3
    obtain ⟨p2, ro, e4, g1, _, h1, h2⟩ := g.of (rl.sto.same ee) (r1.same (e2.trans e3)) (r2.same e3)
    cases e4
    refine ⟨ro, g1, ?_⟩
    cases r with
    | none => rw [h2 rfl]; exact q _ H3 ee r3
    | some d => obtain ⟨v', e4, r4⟩ := h1 d rfl; rw [e4]; exact q _ H3 ee r4)

/-! ### the text's own defs -/
/-- a promise that leaves all as it was: of the arguments' data, what is wanted of the answer's -/
def pSp (K : PySem.W.Frag) (F : List D → (D → Prop) → Prop) : Sp := fun vs H Q _ => ∃ (S : Addr → Prop) (ds : List D) (P : D → Prop), (∀ a, S a → H a ≠ none) ∧ Reps K ⟨S, [], H⟩ vs ds ∧ F ds P ∧
  ∀ v d H', Same H H' → Rep K ⟨S, [], H'⟩ v d → P d → Q v H'
/-- a def of the module keeps such a promise, and there is room to call it from A -/
def Calls (P : Program) (wd : World) (K : PySem.W.Frag) (mg : Str → Option Value) (base : Heap) (k : Nat) (n : Str) (F : List D → (D → Prop) → Prop) : Prop :=
  ∃ (f : Addr) (fd : FuncData) (ps : List Str), mg n = some (.ref f) ∧ PySem.W.keepIn K (.ref f) = true ∧ Binds K fd ps [] ∧ FnOk P wd K mg base CX0 k f fd ps (pSp K F)
theorem enter_fle {w : Wd} : Fle w ⟨fun a => w.S a ∨ a ∈ w.α, [], w.H⟩ := fun a h1 h2 _ => ⟨fun z => Or.elim z h1 h2, List.not_mem_nil, rfl⟩
theorem leave_fle {w : Wd} {H' : Hp} : Fle ⟨fun a => w.S a ∨ a ∈ w.α, [], H'⟩ (w.to H') := fun a h1 h2 _ => ⟨fun z => h1 (Or.inl z), fun z => h1 (Or.inr z), rfl⟩
/-- a call that gives d -/
theorem eg_call {n : Str} {F : List D → (D → Prop) → Prop} {es : List Expr} {ds : List D} {lv : Nat} {P : D → Prop} (C : Calls X.prog X.w X.K X.mg X.base lv n F) (hr : Room lv X.A) (ha : EA X ρ s (e :: es) ds) (hF : F ds P) (hP : ∀ w v d, Rep X.K w v d → P d → R w v)
    (hg : Gl X n := by rfl) (hdb : (n == ("__debug__" : Str)) = false := by decide) (he : starEach (e :: es) X.env = (false, eval e X.env) :: starEach es X.env := by rfl) (hpl : (backTo pos (starEach es X.env)).any (·.1) = false := by rfl) :
    EG X ρ s (.Call (.Name n p) (e :: es) [] pos) R := by
  obtain ⟨f, fd, ps, hm, hk, hb, G⟩ := C
  exact fun w σ rl Q q => sem_of (pe_call G hr hg hm hk hb .nil pass0 pa_sem hdb he hpl) (ha w σ rl _ fun vs H1 e1 r1 => by
    have x1 := rl.sto.same e1
    rw [List.append_nil]
    refine ⟨fun a => w.S a ∨ a ∈ w.α, ds, P, fun a h z => ?_, r1.mono (enter_fle (w := w.to H1)), hF, fun v d H' e2 r2 p2 => q v H' (e1.trans e2) (hP _ v d (r2.mono (leave_fle (w := w))) p2)⟩
    rcases h with h | h
    · exact x1.sok a h z
    · exact (x1.fresh z).2 h)
theorem ev_call {n : Str} {F : List D → (D → Prop) → Prop} {es : List Expr} {ds : List D} {lv : Nat} (C : Calls X.prog X.w X.K X.mg X.base lv n F) (hr : Room lv X.A) (ha : EA X ρ s (e :: es) ds) (hF : ∀ P : D → Prop, P d → F ds P)
    (hg : Gl X n := by rfl) (hdb : (n == ("__debug__" : Str)) = false := by decide) (he : starEach (e :: es) X.env = (false, eval e X.env) :: starEach es X.env := by rfl) (hpl : (backTo pos (starEach es X.env)).any (·.1) = false := by rfl) :
    EV X ρ s (.Call (.Name n p) (e :: es) [] pos) d :=
  eg_call C hr ha (hF (fun z => z = d) rfl) (fun w v d' r h => by rw [← h]; exact r) hg hdb he hpl
end
/-! ## Statements -/
structure AEnds where
  nx : List Sl → List MO → Prop
  rt : D → List MO → Prop
  bk : List Sl → List MO → Prop := fun _ _ => False
  ct : List Sl → List MO → Prop := fun _ _ => False
  xr : List Sl → List MO → Prop := fun _ _ => False
/-- from w to w': what is none of the def's own stands, new places come behind -/
structure Le (w w' : Wd) : Prop where
  S : w'.S = w.S
  keep : ∀ a o, a ∉ w.α → w.H a = some o → w'.H a = some o
  new : ∀ a, a ∈ w'.α → a ∈ w.α ∨ w.H a = none
  pre : ∃ t, w'.α = w.α ++ t
theorem Le.refl (w : Wd) : Le w w := ⟨rfl, fun _ _ _ h => h, fun _ h => .inl h, ⟨[], (List.append_nil _).symm⟩⟩
theorem Le.trans {w w' w'' : Wd} (a : Le w w') (b : Le w' w'') : Le w w'' where
  S := b.S.trans a.S
  keep := fun c o h1 h2 => b.keep c o (fun z => by
    rcases a.new c z with z | z
    · exact h1 z
    · rw [z] at h2; cases h2) (a.keep c o h1 h2)
  new := fun c h => by
    by_cases hc : c ∈ w.α
    · exact .inl hc
    · rcases b.new c h with z | z
      · exact a.new c z
      · refine .inr ?_
        cases q : w.H c with
        | none => rfl
        | some o => rw [a.keep c o hc q] at z; cases z
  pre := by
    obtain ⟨t, h⟩ := a.pre
    obtain ⟨u, h'⟩ := b.pre
    exact ⟨t ++ u, by rw [h', h, List.append_assoc]⟩
theorem Le.same {w : Wd} {H' : Hp} (e : Same w.H H') : Le w (w.to H') := ⟨rfl, fun a o _ h => e a o h, fun _ h => .inl h, ⟨[], (List.append_nil _).symm⟩⟩
theorem Le.fle {w w' : Wd} (l : Le w w') : Fle w w' := fun a h1 h2 ⟨o, h3⟩ =>
  ⟨by rw [l.S]; exact h1, (fun z => by
    rcases l.new a z with z | z
    · exact h2 z
    · rw [z] at h3; cases h3), by rw [h3]; exact l.keep a o h2 h3⟩
theorem Le.ix {w w' : Wd} (l : Le w w') {i : Nat} {a : Addr} (h : w.α[i]? = some a) : w'.α[i]? = some a := by
  obtain ⟨t, e⟩ := l.pre
  rw [e, List.getElem?_append_left (List.getElem?_eq_some_iff.mp h).1]
  exact h
structure Dom (K : PySem.W.Frag) (A : AEnds) (E : Ends) (W : WX) (w : Wd) : Prop where
  nx : ∀ w' σ ρ s, Le w w' → Rel K w' σ ρ s → A.nx ρ s → E.nx σ w'.H
  rt : ∀ w' s v d, Le w w' → Sto K w' s → Rep K ⟨w'.S, [], w'.H⟩ v d → A.rt d s → E.rt v w'.H
  bk : ∀ w' σ ρ s, Le w w' → Rel K w' σ ρ s → A.bk ρ s → E.bk σ w'.H
  ct : ∀ w' σ ρ s, Le w w' → Rel K w' σ ρ s → A.ct ρ s → E.ct σ w'.H
  xr : ∀ w' σ ρ s, Le w w' → Rel K w' σ ρ s → A.xr ρ s → W (.ref (He.ga K "NoDeed")) none σ w'.H
theorem Dom.le {K : PySem.W.Frag} {A : AEnds} {E : Ends} {W : WX} {w w' : Wd} (x : Dom K A E W w) (l : Le w w') : Dom K A E W w' :=
  ⟨fun _ _ _ _ l' => x.nx _ _ _ _ (l.trans l'), fun _ _ _ _ l' => x.rt _ _ _ _ (l.trans l'), fun _ _ _ _ l' => x.bk _ _ _ _ (l.trans l'), fun _ _ _ _ l' => x.ct _ _ _ _ (l.trans l'), fun _ _ _ _ l' => x.xr _ _ _ _ (l.trans l')⟩
def tSemS (X : Cx) (st : Stmt) : TS := fun E σ H => ∀ (pins : List (Addr × Obj)) (s : Shared), Inv X pins σ H s → wpAny (model X.prog X.w) X.A (exec st X.env) (SP X pins E) X.xe s
theorem ps_sem {X : Cx} {st : Stmt} : PS X st (tSemS X st) := ⟨fun pins s _ _ _ I h => h pins s I⟩
theorem semS_of {X : Cx} {st : Stmt} {t : TS} {E : Ends} {σ : L2.St} {H : Hp} (h : PS X st t) (q : t E σ H) : tSemS X st E σ H := fun pins s I => h.run pins s σ H E I q
def tSemB (X : Cx) (st : List Stmt) : TS := fun E σ H => ∀ (pins : List (Addr × Obj)) (s : Shared), Inv X pins σ H s → wpAny (model X.prog X.w) X.A (execs st X.env) (SP X pins E) X.xe s
theorem pss_sem {X : Cx} {st : List Stmt} : PSs X st (tSemB X st) := ⟨fun pins s _ _ _ I h => h pins s I⟩
theorem semB_of {X : Cx} {st : List Stmt} {t : TS} {E : Ends} {σ : L2.St} {H : Hp} (h : PSs X st t) (q : t E σ H) : tSemB X st E σ H := fun pins s I => h.run pins s σ H E I q
def SX (X : Cx) (ρ : List Sl) (s : List MO) (st : Stmt) (A : AEnds) : Prop := ∀ w σ E W, Rel X.K w σ ρ s → Takes X W → Dom X.K A E W w → tSemS X st E σ w.H
def SB (X : Cx) (ρ : List Sl) (s : List MO) (st : List Stmt) (A : AEnds) : Prop := ∀ w σ E W, Rel X.K w σ ρ s → Takes X W → Dom X.K A E W w → tSemB X st E σ w.H

section
variable {K : PySem.W.Frag} {w : Wd} {s : List MO} {σ : L2.St} {ρ : List Sl}
theorem EnvR.setD {i : Nat} {v : V} {d : D} (x : EnvR K w σ ρ) (r : Rep K w v d) : EnvR K w (σ.set i (some v)) (ρ.set i (.d d)) where
  len := by rw [List.length_set, List.length_set]; exact x.len
  en := fun j y h => by
    by_cases hj : i = j
    · subst hj
      have hl : i < ρ.length := by
        have := (List.getElem?_eq_some_iff.mp h).1
        rwa [List.length_set] at this
      rw [List.getElem?_set_self hl] at h
      cases h
      exact ⟨_, List.getElem?_set_self (by rw [x.len]; exact hl), v, rfl, r⟩
    · rw [List.getElem?_set_ne hj] at h ⊢
      exact x.en j y h
theorem EnvR.setR {i j : Nat} {a : Addr} (x : EnvR K w σ ρ) (h : w.α[j]? = some a) : EnvR K w (σ.set i (some (.ref a))) (ρ.set i (.r j)) where
  len := by rw [List.length_set, List.length_set]; exact x.len
  en := fun k y h' => by
    by_cases hj : i = k
    · subst hj
      have hl : i < ρ.length := by
        have := (List.getElem?_eq_some_iff.mp h').1
        rwa [List.length_set] at this
      rw [List.getElem?_set_self hl] at h'
      cases h'
      exact ⟨_, List.getElem?_set_self (by rw [x.len]; exact hl), a, h, rfl⟩
    · rw [List.getElem?_set_ne hj] at h' ⊢
      exact x.en k y h'
theorem EnvR.wipe1 {i : Nat} {o : Option V} (x : EnvR K w σ ρ) : EnvR K w (σ.set i o) (ρ.set i .no) where
  len := by rw [List.length_set, List.length_set]; exact x.len
  en := fun k y h' => by
    by_cases hj : i = k
    · subst hj
      have hl : i < ρ.length := by
        have := (List.getElem?_eq_some_iff.mp h').1
        rwa [List.length_set] at this
      rw [List.getElem?_set_self hl] at h'
      cases h'
      exact ⟨_, List.getElem?_set_self (by rw [x.len]; exact hl), trivial⟩
    · rw [List.getElem?_set_ne hj] at h' ⊢
      exact x.en k y h'
theorem EnvR.fle {w' : Wd} (x : EnvR K w σ ρ) (l : Fle w w') (h : ∀ (i : Nat) a, w.α[i]? = some a → w'.α[i]? = some a) : EnvR K w' σ ρ where
  len := x.len
  en := fun i y e => by
    obtain ⟨o, h1, h2⟩ := x.en i y e
    refine ⟨o, h1, ?_⟩
    cases y with
    | no => trivial
    | d d => obtain ⟨v, h3, h4⟩ := h2; exact ⟨v, h3, h4.mono l⟩
    | r j => obtain ⟨a, h3, h4⟩ := h2; exact ⟨a, h _ _ h3, h4⟩
/-- a new list of the def's own -/
theorem Mok.grow {w' : Wd} {a : Addr} {o : MO} (m : Mok K w a o) (l : Fle w w') (h : ∀ (i : Nat) b, w.α[i]? = some b → w'.α[i]? = some b) (ha : w'.H a = w.H a) : Mok K w' a o := by
  cases o with
  | lst ds => obtain ⟨vs, e, r⟩ := m; exact ⟨vs, ha.trans e, r.mono l⟩
  | dk ds => obtain ⟨vs, e, r⟩ := m; exact ⟨vs, ha.trans e, r.mono l⟩
  | dt ds => obtain ⟨vs, e, r⟩ := m; exact ⟨vs, ha.trans e, r.mono l⟩
  | wat j => obtain ⟨dx, q, e, r⟩ := m; exact ⟨dx, q, ha.trans e, h _ _ r⟩
  | ll js => obtain ⟨bs, e, n, r⟩ := m; exact ⟨bs, ha.trans e, n, fun i j b h1 h2 => h _ _ (r i j b h1 h2)⟩
theorem Sto.there (x : Sto K w s) {i : Nat} {a : Addr} (h : w.α[i]? = some a) : ∃ o, s[i]? = some o ∧ Mok K w a o := by
  have hl : i < s.length := by rw [← x.len]; exact (List.getElem?_eq_some_iff.mp h).1
  exact ⟨s[i], by simp [hl], x.mo i a _ h (by simp [hl])⟩
theorem Sto.addr (x : Sto K w s) {i : Nat} {o : MO} (h : s[i]? = some o) : ∃ a, w.α[i]? = some a ∧ Mok K w a o := by
  have hl : i < w.α.length := by rw [x.len]; exact (List.getElem?_eq_some_iff.mp h).1
  exact ⟨w.α[i], by simp [hl], x.mo i _ o (by simp [hl]) h⟩
theorem Mok.ne {a : Addr} {o : MO} (m : Mok K w a o) : w.H a ≠ none := by
  cases o with
  | lst ds => obtain ⟨vs, e, r⟩ := m; rw [e]; exact fun z => nomatch z
  | dk ds => obtain ⟨vs, e, r⟩ := m; rw [e]; exact fun z => nomatch z
  | dt ds => obtain ⟨vs, e, r⟩ := m; rw [e]; exact fun z => nomatch z
  | wat j => obtain ⟨dx, q, e, r⟩ := m; rw [e]; exact fun z => nomatch z
  | ll js => obtain ⟨bs, e, n, r⟩ := m; rw [e]; exact fun z => nomatch z
/-- a new object becomes the def's own: it stands at p in H', which else holds what w's heap does -/
theorem Sto.add {H' : Hp} {p : Addr} {o : MO} (x : Sto K w s) (hp : w.H p = none) (e : Same w.H H') (ho : Mok K ⟨w.S, w.α ++ [p], H'⟩ p o) :
    Le w ⟨w.S, w.α ++ [p], H'⟩ ∧ Sto K ⟨w.S, w.α ++ [p], H'⟩ (s ++ [o]) := by
  have l : Le w ⟨w.S, w.α ++ [p], H'⟩ := ⟨rfl, fun a u _ h => e a u h, fun a h => by
    rcases List.mem_append.mp h with h | h
    · exact .inl h
    · exact .inr (by rw [List.mem_singleton.mp h]; exact hp), ⟨[p], rfl⟩⟩
  obtain ⟨f1, f2⟩ := x.fresh hp
  refine ⟨l, ⟨fun a h => (x.same e).sok a h, by rw [List.length_append, List.length_append, x.len]; rfl, ?_, fun a h => ?_, fun i a u h1 h2 => ?_⟩⟩
  · refine List.nodup_append.mpr ⟨x.nd, List.nodup_cons.mpr ⟨List.not_mem_nil, List.nodup_nil⟩, fun a ha b hb z => ?_⟩
    rw [List.mem_singleton.mp hb] at z
    rw [z] at ha
    exact f2 ha
  · rcases List.mem_append.mp h with h | h
    · exact x.ns a h
    · rw [List.mem_singleton.mp h]; exact f1
  · by_cases hi : i < w.α.length
    · have h1' : w.α[i]? = some a := by rw [← List.getElem?_append_left hi]; exact h1
      have h2' : s[i]? = some u := by rw [← List.getElem?_append_left (by rw [← x.len]; exact hi)]; exact h2
      have m := x.mo i a u h1' h2'
      obtain ⟨t, ht⟩ : ∃ t, w.H a = some t := by
        cases q : w.H a with
        | none => exact absurd q m.ne
        | some t => exact ⟨t, rfl⟩
      exact m.grow l.fle (fun _ _ h => l.ix h) (by rw [ht]; exact e a t ht)
    · have hl : i = w.α.length := by
        have := (List.getElem?_eq_some_iff.mp h1).1
        rw [List.length_append, List.length_singleton] at this
        omega
      subst hl
      rw [List.getElem?_append_right (Nat.le_refl _), Nat.sub_self] at h1
      rw [List.getElem?_append_right (by rw [x.len]; exact Nat.le_refl _), x.len, Nat.sub_self] at h2
      cases h1
      cases h2
      exact ho
/-- an object of the def's own is changed -/
theorem Sto.put {i : Nat} {a : Addr} {o : MO} {h : HO} (x : Sto K w s) (hi : w.α[i]? = some a) (ho : Mok K (w.to (upd w.H a h)) a o) :
    Le w (w.to (upd w.H a h)) ∧ Sto K (w.to (upd w.H a h)) (s.set i o) := by
  have hm : a ∈ w.α := List.mem_of_getElem? hi
  have l : Le w (w.to (upd w.H a h)) := ⟨rfl, fun b u hb e => by
    show upd w.H a h b = some u
    rw [upd_ne (fun z => hb (by rw [z]; exact hm))]
    exact e, fun b hb => .inl hb, ⟨[], (List.append_nil _).symm⟩⟩
  refine ⟨l, ⟨fun b hb z => ?_, by rw [List.length_set]; exact x.len, x.nd, x.ns, fun j b u h1 h2 => ?_⟩⟩
  · have hb' : b ≠ a := fun z => x.ns a hm (by rw [← z]; exact hb)
    have z' : upd w.H a h b = none := z
    rw [upd_ne hb'] at z'
    exact x.sok b hb z'
  · by_cases hj : i = j
    · subst hj
      have h1' : w.α[i]? = some b := h1
      rw [hi] at h1'
      cases h1'
      rw [List.getElem?_set_self (by rw [← x.len]; exact (List.getElem?_eq_some_iff.mp hi).1)] at h2
      cases h2
      exact ho
    · rw [List.getElem?_set_ne hj] at h2
      have nb : b ≠ a := fun z => by
        have h1' : w.α[j]? = some b := h1
        rw [z] at h1'
        exact hj (nd_ix x.nd hi h1')
      exact (x.mo j b u h1 h2).grow l.fle (fun _ _ h => h) (upd_ne nb)
end

section
variable {X : Cx} {ρ : List Sl} {s : List MO} {e a b c o : Expr} {pos pos' p : Pos} {d x y z : D} {i j : Int} {k : Bool} {A : AEnds} {st : Stmt} {rest : List Stmt}
theorem sb_nil (h : A.nx ρ s) : SB X ρ s [] A := fun w σ E W rl tk dm => semB_of pss_nil (dm.nx w σ ρ s (Le.refl w) rl h)
theorem sb_cons (h : SX X ρ s st { A with nx := fun ρ' s' => SB X ρ' s' rest A }) : SB X ρ s (st :: rest) A := fun w σ E W rl tk dm =>
  semB_of (pss_cons ps_sem pss_sem) (h w σ { E with nx := tSemB X rest E } W rl tk ⟨fun w' σ' ρ' s' l r q => q w' σ' E W r tk (dm.le l), dm.rt, dm.bk, dm.ct, dm.xr⟩)
theorem sb_last (h : SX X ρ s st A) : SB X ρ s [st] A := fun w σ E W rl tk dm => semB_of (pss_one ps_sem) (h w σ E W rl tk dm)
theorem sx_pass (h : A.nx ρ s) : SX X ρ s (.Pass pos) A := fun w σ E W rl tk dm => semS_of ps_pass (dm.nx w σ ρ s (Le.refl w) rl h)
/-- x = e -/
theorem sx_set (n : Nat) {x : Str} (nd : X.N.Nodup) (he : EV X ρ s e d) (h : A.nx (ρ.set n (.d d)) s) (hi : X.N[n]? = some x := by rfl) (hx : Loc X.env.scope x := by first | exact Or.inl rfl | exact Or.inr rfl)
    (hs : swapsWith e (some (.Name x pos')) pos.line X.env = pure false := by rfl) (hf : X.fn x = true ∨ X.env.scope.names.lookup x = some .local := by first | exact .inl rfl | exact .inr rfl) : SX X ρ s (.Assign [.Name x pos'] e pos) A := fun w σ E W rl tk dm =>
  semS_of (ps_set nd hi hx pe_sem hs hf) (he w σ rl _ fun v H' e1 r => dm.nx (w.to H') _ _ _ (Le.same e1) ⟨rl.sto.same e1, (rl.env.same e1).setD r⟩ h)
/-- x = a new list, which the def will change -/
theorem sx_new (n : Nat) {x : Str} {ds : List D} (nd : X.N.Nodup) (he : EN X ρ s e ds) (h : A.nx (ρ.set n (.r s.length)) (s ++ [.lst ds])) (hi : X.N[n]? = some x := by rfl) (hx : Loc X.env.scope x := by first | exact Or.inl rfl | exact Or.inr rfl)
    (hs : swapsWith e (some (.Name x pos')) pos.line X.env = pure false := by rfl) (hf : X.fn x = true ∨ X.env.scope.names.lookup x = some .local := by first | exact .inl rfl | exact .inr rfl) : SX X ρ s (.Assign [.Name x pos'] e pos) A := fun w σ E W rl tk dm =>
  semS_of (ps_set nd hi hx pe_sem hs hf) (he w σ rl _ fun pp vs H' hp e1 h1 r => by
    have fl : Fle (w.av pp H') ⟨w.S, w.α ++ [pp], H'⟩ := fun a g1 g2 _ => ⟨fun z => g1 (.inl z), fun z => by
      rcases List.mem_append.mp z with z | z
      · exact g2 z
      · exact g1 (.inr (List.mem_singleton.mp z)), rfl⟩
    obtain ⟨l, x2⟩ := rl.sto.add (o := .lst ds) hp e1 ⟨vs, h1, r.mono fl⟩
    refine dm.nx ⟨w.S, w.α ++ [pp], H'⟩ _ _ _ l ⟨x2, (rl.env.fle l.fle fun _ _ h => l.ix h).setR (j := s.length) ?_⟩ h
    show (w.α ++ [pp])[s.length]? = some pp
    rw [← rl.sto.len, List.getElem?_append_right (Nat.le_refl _), Nat.sub_self]
    rfl)
theorem sx_ret (he : EV X ρ s e d) (h : A.rt d s) : SX X ρ s (.Return (some e) pos) A := fun w σ E W rl tk dm =>
  semS_of (ps_ret pe_sem) (he w σ rl _ fun v H' e1 r => dm.rt (w.to H') s v d (Le.same e1) (rl.sto.same e1) (RepR.view (rl.sto.same e1) (.inl r)) h)
theorem sx_retR (he : ER X ρ s e d) (h : A.rt d s) : SX X ρ s (.Return (some e) pos) A := fun w σ E W rl tk dm =>
  semS_of (ps_ret pe_sem) (he w σ rl _ fun v H' e1 r => dm.rt (w.to H') s v d (Le.same e1) (rl.sto.same e1) (RepR.view (rl.sto.same e1) r) h)
theorem sx_if {tb eb : List Stmt} (hc : ET X ρ s c k) (h1 : k = true → SB X ρ s tb A) (h2 : k = false → SB X ρ s eb A) : SX X ρ s (.If c tb eb pos) A := fun w σ E W rl tk dm =>
  semS_of (ps_if pt_sem pss_sem pss_sem) (hc w σ rl _ fun H' e1 => by
    cases k with
    | true => exact h1 rfl (w.to H') σ E W (rl.same e1) tk (dm.le (Le.same e1))
    | false => exact h2 rfl (w.to H') σ E W (rl.same e1) tk (dm.le (Le.same e1)))
theorem sx_break (h : A.bk ρ s) : SX X ρ s (.Break pos) A := fun w σ E W rl tk dm => semS_of ps_break (dm.bk w σ ρ s (Le.refl w) rl h)
theorem sx_continue (h : A.ct ρ s) : SX X ρ s (.Continue pos) A := fun w σ E W rl tk dm => semS_of ps_continue (dm.ct w σ ρ s (Le.refl w) rl h)
/-! targets -/
def GX (X : Cx) (tg : Expr) (f : D → List Sl → Option (List Sl)) : Prop := ∃ g : TG, PG X tg g ∧
  ∀ w σ ρ v d ρ', EnvR X.K w σ ρ → Rep X.K w v d → f d ρ = some ρ' → ∀ Q : L2.St → Hp → Prop, (∀ σ', EnvR X.K w σ' ρ' → Q σ' w.H) → g v σ w.H Q
def setAll : List Sl → List Nat → List D → List Sl
  | ρ, n :: ns, d :: ds => setAll (ρ.set n (.d d)) ns ds
  | ρ, _, _ => ρ
def fName (n : Nat) : D → List Sl → Option (List Sl) := fun d ρ => some (ρ.set n (.d d))
def fTup (ns : List Nat) : D → List Sl → Option (List Sl) := fun d ρ => match d with
  | .tup ds => if ds.length = ns.length then some (setAll ρ ns ds) else none
  | _ => none
theorem gx_name (n : Nat) {x : Str} (nd : X.N.Nodup) (hi : X.N[n]? = some x := by rfl) (hx : Loc X.env.scope x := by first | exact Or.inl rfl | exact Or.inr rfl) (hf : X.fn x = true ∨ X.env.scope.names.lookup x = some .local := by first | exact .inl rfl | exact .inr rfl) : GX X (.Name x pos) (fName n) :=
  ⟨_, pg_name nd hi hx hf, fun w σ ρ v d ρ' er r h Q q => by
    cases h
    exact q _ (er.setD r)⟩
/-- names, one behind another -/
def GXs (X : Cx) (es : List Expr) (ns : List Nat) : Prop := ∃ g : TGs, PGs X es g ∧
  ∀ w σ ρ vs ds, EnvR X.K w σ ρ → Reps X.K w vs ds → ds.length = ns.length → ∀ Q : L2.St → Hp → Prop, (∀ σ', EnvR X.K w σ' (setAll ρ ns ds) → Q σ' w.H) → g vs σ w.H Q
theorem gxs_nil : GXs X [] [] := ⟨_, pgs_nil, fun w σ ρ vs ds er r h Q q => by
  cases r with
  | nil => exact ⟨rfl, q σ er⟩
  | cons _ _ => cases h⟩
theorem gxs_cons (n : Nat) {x : Str} {es : List Expr} {ns : List Nat} (nd : X.N.Nodup) (h : GXs X es ns) (hi : X.N[n]? = some x := by rfl) (hx : Loc X.env.scope x := by first | exact Or.inl rfl | exact Or.inr rfl) (hf : X.fn x = true ∨ X.env.scope.names.lookup x = some .local := by first | exact .inl rfl | exact .inr rfl)
    (hs : (assignEach (.Name x pos :: es) X.env).map (·.2) = assign (.Name x pos) X.env :: (assignEach es X.env).map (·.2) := by rfl) : GXs X (.Name x pos :: es) (n :: ns) := by
  obtain ⟨g, h1, h2⟩ := h
  refine ⟨_, pgs_cons (pg_name nd hi hx hf) h1 hs, fun w σ ρ vs ds er r hl Q q => ?_⟩
  cases r with
  | nil => cases hl
  | cons a b => exact ⟨_, _, rfl, h2 w _ _ _ _ (er.setD a) b (Nat.succ.inj hl) Q q⟩
theorem gx_tup {es : List Expr} {ns : List Nat} {k : Nat} (h : GXs X es ns) (hc : X.calm = true := by rfl) (hn : (assignEach es X.env).length = ns.length := by rfl) (hst : (assignEach es X.env).findIdx? (·.1) = none := by rfl) : GX X (.Tuple es k pos) (fTup ns) := by
  obtain ⟨g, h1, h2⟩ := h
  refine ⟨_, pg_tup hc h1 hn hst, fun w σ ρ v d ρ' er r hd Q q => ?_⟩
  cases r with
  | @tup a vs ds f g2 =>
    have hd' : (if ds.length = ns.length then some (setAll ρ ns ds) else none) = some ρ' := hd
    by_cases hl : ds.length = ns.length
    · rw [if_pos hl] at hd'
      cases hd'
      exact ⟨a, vs, rfl, SqT.of f.2.2, g2.length.trans hl, h2 w σ ρ vs ds er g2 hl Q q⟩
    · rw [if_neg hl] at hd'; cases hd'
  | _ => cases hd
/-- a, b = e -/
theorem sx_unpack {es : List Expr} {k : Nat} {ns : List Nat} {ρ' : List Sl} (he : EV X ρ s e d) (hg : GX X (.Tuple es k pos') (fTup ns)) (hf : fTup ns d ρ = some ρ') (h : A.nx ρ' s)
    (hs : swapsWithSole [.Tuple es k pos'] e pos.line X.env = pure false := by rfl) (hw : swappedStores [.Tuple es k pos'] e X.env = pure none := by rfl)
    (h1 : (assignEach [.Tuple es k pos'] X.env).map (·.2) = [assign (.Tuple es k pos') X.env] := by rfl) : SX X ρ s (.Assign [.Tuple es k pos'] e pos) A := by
  obtain ⟨g, g1, g2⟩ := hg
  exact fun w σ E W rl tk dm => semS_of (ps_asg pe_sem g1 hs hw h1) (he w σ rl _ fun v H' e1 r => g2 (w.to H') σ ρ v d ρ' (rl.env.same e1) r hf _ fun σ' er => dm.nx (w.to H') _ _ _ (Le.same e1) ⟨rl.sto.same e1, er⟩ h)

/-! what is walked -/
structure ItOk (K : PySem.W.Frag) (w0 : Wd) (J : It) (items : List D) : Prop where
  stop : ∀ w s, Fle w0 w → Sto K w s → J.stop items.length w.H
  go : ∀ w s, Fle w0 w → Sto K w s → ∀ (i : Nat) d, items[i]? = some d → J.go i w.H ∧ ∀ v H', J.yld i w.H v H' → Same w.H H' ∧ Rep K (w.to H') v d
def ES (X : Cx) (ρ : List Sl) (s : List MO) (tg e : Expr) (items : List D) : Prop := ∃ wi : TI, PI X tg e wi ∧ ∀ w σ, Rel X.K w σ ρ s → ∀ R : It → Hp → Prop, (∀ J H', Same w.H H' → ItOk X.K (w.to H') J items → R J H') → wi σ w.H R
theorem es_list {tg : Expr} {ds : List D} (h : EV X ρ s e (.lst ds)) : ES X ρ s tg e ds := ⟨_, pi_list pe_sem, fun w σ rl R q => h w σ rl _ fun v H' e1 r => by
  cases r with
  | @lst p vs _ f g =>
    refine ⟨p, rfl, ⟨vs, SqL.of f.2.2⟩, q _ H' e1 ⟨fun w' s' l _ => ?_, fun w' s' l _ i d hd => ?_⟩⟩
    · have f' := l.fz f
      exact ⟨vs, SqL.of f'.2.2, by rw [g.length]; exact Nat.le_refl _⟩
    · have f' := l.fz f
      obtain ⟨v, h1, h2⟩ := (g.mono l).get hd
      exact ⟨⟨vs, v, SqL.of f'.2.2, h1⟩, fun v' H2 ⟨e2, h3⟩ => by
        subst e2
        have := h3 vs (SqL.of f'.2.2)
        rw [h1] at this
        cases this
        exact ⟨Same.refl _, h2⟩⟩⟩
theorem es_tup {tg : Expr} {ds : List D} (h : EV X ρ s e (.tup ds)) : ES X ρ s tg e ds := ⟨_, pi_tup pe_sem, fun w σ rl R q => h w σ rl _ fun v H' e1 r => by
  cases r with
  | @tup p vs _ f g =>
    refine ⟨p, rfl, ⟨vs, SqT.of f.2.2⟩, q _ H' e1 ⟨fun w' s' l _ => ?_, fun w' s' l _ i d hd => ?_⟩⟩
    · have f' := l.fz f
      exact ⟨vs, SqT.of f'.2.2, by rw [g.length]; exact Nat.le_refl _⟩
    · have f' := l.fz f
      obtain ⟨v, h1, h2⟩ := (g.mono l).get hd
      exact ⟨⟨vs, v, SqT.of f'.2.2, h1⟩, fun v' H2 ⟨e2, h3⟩ => by
        subst e2
        have := h3 vs (SqT.of f'.2.2)
        rw [h1] at this
        cases this
        exact ⟨Same.refl _, h2⟩⟩⟩
theorem rng_get {n i : Nat} {z : Int} (h : (rng n)[i]? = some z) : i < n ∧ z = (i : Int) := by
  unfold rng at h
  rw [List.getElem?_map] at h
  by_cases hi : i < n
  · rw [List.getElem?_range hi] at h
    exact ⟨hi, (Option.some.inj h).symm⟩
  · rw [List.getElem?_eq_none (by rw [List.length_range]; omega)] at h
    cases h
theorem rng_len (n : Nat) : (rng n).length = n := by unfold rng; rw [List.length_map, List.length_range]
theorem es_range {tg : Expr} {n : Nat} (T : Tops X.K X.mg) (h : EV X ρ s a (.int (n : Int))) (hz : n ≤ 100000) (hg : Gl X "range" := by rfl) (hs : starEach [a] X.env = [(false, eval a X.env)] := by rfl) : ES X ρ s tg (.Call (.Name "range" p) [a] [] pos) ((rng n).map D.int) :=
  ⟨_, pi_range1 hg T.range (pa_cons pe_sem pa_nil hs) hs, fun w σ rl R q => h w σ rl _ fun v H' e1 r => by
    cases r
    refine ⟨(n : Int), rfl, by omega, by omega, q _ H' e1 ⟨fun w' s' l _ => ?_, fun w' s' l _ i d hd => ?_⟩⟩
    · show (n : Int).toNat ≤ ((rng n).map D.int).length
      rw [List.length_map, rng_len]; omega
    · rw [List.getElem?_map] at hd
      obtain ⟨z, h1, h2⟩ := Option.map_eq_some_iff.mp hd
      obtain ⟨h3, h4⟩ := rng_get h1
      subst h2 h4
      refine ⟨show i < (n : Int).toNat by omega, fun v' H2 ⟨e2, e3⟩ => ?_⟩
      subst e2 e3
      rw [Int.zero_add]
      exact ⟨Same.refl _, .int _⟩⟩
/-- for -/
theorem sx_for {tg : Expr} {body : List Stmt} {items : List D} {f : D → List Sl → Option (List Sl)} (hi : ES X ρ s tg e items) (hg : GX X tg f) (Iv : Nat → List Sl → List MO → Prop) (h0 : Iv 0 ρ s)
    (hs : ∀ (i : Nat) d ρ' s', items[i]? = some d → Iv i ρ' s' → ∃ ρ2, f d ρ' = some ρ2 ∧ SB X ρ2 s' body { A with nx := Iv (i + 1), ct := Iv (i + 1), bk := A.nx })
    (hd : ∀ ρ' s', Iv items.length ρ' s' → A.nx ρ' s') (hp : PassesOwn (model X.prog X.w) X.A X.env X.xe := by first | exact PassesOwn.never | exact passes_of rfl) (hc : X.calm = true := by rfl) (hs2 : ∀ x, foldedSetIterable e X.env x = pure x := by intro _; rfl) : SX X ρ s (.For tg e body [] pos) A := by
  obtain ⟨wi, i1, i2⟩ := hi
  obtain ⟨g, g1, g2⟩ := hg
  refine fun w σ E W rl tk dm => semS_of (ps_for hp hc i1 g1 pss_sem hs2) (i2 w σ rl _ fun J H' e1 ok => ?_)
  refine ⟨fun i m σ' H2 => m = items.length - i ∧ i ≤ items.length ∧ ∃ w' ρ' s', w'.H = H2 ∧ Le (w.to H') w' ∧ Rel X.K w' σ' ρ' s' ∧ Iv i ρ' s', ⟨items.length, rfl, Nat.zero_le _, w.to H', ρ, s, rfl, Le.refl _, rl.same e1, h0⟩, ?_⟩
  rintro i m σ' H2 ⟨rfl, hle, w', ρ', s', rfl, l, rl', iv⟩
  by_cases hlt : i < items.length
  · obtain ⟨d, hd'⟩ : ∃ d, items[i]? = some d := ⟨items[i], by simp [hlt]⟩
    obtain ⟨go, yl⟩ := ok.go w' s' l.fle rl'.sto i d hd'
    refine .inr ⟨go, fun σ3 H3 => ∃ w3 ρ3 s3, w3.H = H3 ∧ Le (w.to H') w3 ∧ Rel X.K w3 σ3 ρ3 s3 ∧ Iv (i + 1) ρ3 s3, fun σ3 H3 q => ⟨items.length - (i + 1), by omega, rfl, hlt, q⟩, fun v H3 y => ?_⟩
    obtain ⟨e3, rv⟩ := yl v H3 y
    obtain ⟨ρ2, hf, hb⟩ := hs i d ρ' s' hd' iv
    refine g2 (w'.to H3) σ' ρ' v d ρ2 (rl'.env.same e3) rv hf _ fun σ4 er => ?_
    have l3 := l.trans (Le.same e3)
    have l0 := (Le.same e1).trans l3
    exact hb (w'.to H3) σ4 _ W ⟨rl'.sto.same e3, er⟩ tk ⟨fun w4 σ5 ρ5 s5 l4 r5 q => ⟨w4, ρ5, s5, rfl, l3.trans l4, r5, q⟩, (dm.le l0).rt, (dm.le l0).nx, fun w4 σ5 ρ5 s5 l4 r5 q => ⟨w4, ρ5, s5, rfl, l3.trans l4, r5, q⟩, (dm.le l0).xr⟩
  · have hi' : i = items.length := by omega
    subst hi'
    exact .inl ⟨ok.stop w' s' l.fle rl'.sto, dm.nx w' σ' ρ' s' ((Le.same e1).trans l) rl' (hd ρ' s' iv)⟩
/-- while -/
theorem sx_while {body : List Stmt} (Iv : List Sl → List MO → Prop) (μ : List Sl → List MO → Nat) (h0 : Iv ρ s)
    (hs : ∀ ρ' s', Iv ρ' s' → ∃ b, ET X ρ' s' c b ∧ (b = true → SB X ρ' s' body { A with nx := fun ρ2 s2 => Iv ρ2 s2 ∧ μ ρ2 s2 < μ ρ' s', ct := fun ρ2 s2 => Iv ρ2 s2 ∧ μ ρ2 s2 < μ ρ' s', bk := A.nx }) ∧ (b = false → A.nx ρ' s'))
    (hp : PassesOwn (model X.prog X.w) X.A X.env X.xe := by first | exact PassesOwn.never | exact passes_of rfl) : SX X ρ s (.While c body [] pos) A := by
  refine fun w σ E W rl tk dm => semS_of (ps_while hp pt_sem pss_sem) ?_
  refine ⟨fun m σ' H2 => ∃ w' ρ' s', w'.H = H2 ∧ Le w w' ∧ Rel X.K w' σ' ρ' s' ∧ Iv ρ' s' ∧ m = μ ρ' s', ⟨_, w, ρ, s, rfl, Le.refl _, rl, h0, rfl⟩, ?_⟩
  rintro m σ' H2 ⟨w', ρ', s', rfl, l, rl', iv, rfl⟩
  obtain ⟨b, ht, h1, h2⟩ := hs ρ' s' iv
  refine ht w' σ' rl' _ fun H3 e3 => ?_
  have l3 := l.trans (Le.same e3)
  cases b with
  | true =>
    rw [if_pos rfl]
    refine ⟨fun σ4 H4 => ∃ w4 ρ4 s4, w4.H = H4 ∧ Le w w4 ∧ Rel X.K w4 σ4 ρ4 s4 ∧ Iv ρ4 s4 ∧ μ ρ4 s4 < μ ρ' s', fun σ4 H4 ⟨w4, ρ4, s4, g1, g2, g3, g4, g5⟩ => ⟨_, g5, w4, ρ4, s4, g1, g2, g3, g4, rfl⟩, ?_⟩
    exact h1 rfl (w'.to H3) σ' _ W (rl'.same e3) tk ⟨fun w4 σ5 ρ5 s5 l4 r5 q => ⟨w4, ρ5, s5, rfl, l3.trans l4, r5, q.1, q.2⟩, (dm.le l3).rt, (dm.le l3).nx, fun w4 σ5 ρ5 s5 l4 r5 q => ⟨w4, ρ5, s5, rfl, l3.trans l4, r5, q.1, q.2⟩, (dm.le l3).xr⟩
  | false =>
    rw [if_neg Bool.false_ne_true]
    exact dm.nx (w'.to H3) σ' ρ' s' l3 (rl'.same e3) (h2 rfl)
end
/-! ## What a def changes -/
section
variable {X : Cx} {ρ : List Sl} {s : List MO} {e a b c o : Expr} {pos pos' p apos cpos : Pos} {d x y z : D} {i j : Int} {k : Bool} {A : AEnds} {st : Stmt} {rest : List Stmt} {n m : Nat}
/-- e is the store's n-th object -/
def EI (X : Cx) (ρ : List Sl) (s : List MO) (e : Expr) (n : Nat) : Prop := ∀ w σ, Rel X.K w σ ρ s → ∀ Q : VK, (∀ a H', Same w.H H' → w.α[n]? = some a → Q (.ref a) H') → tSem X e σ w.H Q
theorem ei_var (q : Nat) {x : Str} (hN : X.N[q]? = some x := by rfl) (hv : Vis X.env.scope x := by first | exact Or.inl rfl | exact Or.inr (Or.inl rfl) | exact Or.inr (Or.inr rfl))
    (h : ρ[q]? = some (.r n) := by rfl) (hd : (x == ("__debug__" : Str)) = false := by decide) (hcd : (x == ("__classdict__" : Str)) = false := by decide) : EI X ρ s (.Name x pos) n := fun w σ r Q k => by
  obtain ⟨u, h1, pp, h2, h3⟩ := r.env.en q _ h
  subst h3
  exact sem_of (pe_var hN hv hd hcd) ⟨.ref pp, h1, k _ w.H (Same.refl _) h2⟩
theorem ei_fld (C : Cls X.K (wC X.K)) (nA : NoAttr X.K (wC X.K) "states") (he : EI X ρ s e n) (hs : s[n]? = some (.wat m)) (hb : attributeBase e "states" X.env (eval e X.env) = eval e X.env := by rfl) : EI X ρ s (.Attribute e "states" pos) m := fun w σ r Q k =>
  sem_of (pe_fld pe_sem hb) (he w σ r _ fun a H' e1 ha => by
    obtain ⟨dx, l, h1, h2⟩ := r.sto.mo n a _ ha hs
    exact ⟨a, _, dx, _, .ref l, rfl, e1 _ _ h1, C, nA, by simp [List.lookup], k l H' e1 h2⟩)
theorem ei_ix {js : List Nat} (he : EI X ρ s a n) (hb : EV X ρ s b (.int i)) (hs : s[n]? = some (.ll js)) (h : atI js i = some m) (hq : PlainIx b := by exact fun _ _ => rfl) : EI X ρ s (.Subscript a b pos) m := fun w σ r Q k =>
  sem_of (pe_ix ix_list pe_sem pe_sem hq) (he w σ r _ fun a H1 e1 ha => hb (w.to H1) σ (r.same e1) _ fun u H2 e2 r2 => by
    cases r2
    obtain ⟨bs, h1, h2, h3⟩ := r.sto.mo n a _ ha hs
    obtain ⟨q, hq1, hq2⟩ : ∃ q, ixN js.length i = some q ∧ js[q]? = some m := by
      unfold atI at h
      cases z : ixN js.length i with
      | none => rw [z] at h; cases h
      | some q => rw [z] at h; exact ⟨q, rfl, h⟩
    have hlt : q < bs.length := by rw [h2]; exact (List.getElem?_eq_some_iff.mp hq2).1
    obtain ⟨l, hl⟩ : ∃ l, bs[q]? = some l := ⟨bs[q], by simp [hlt]⟩
    have hat : atI (bs.map V.ref) i = some (.ref l) := by
      unfold atI
      rw [List.length_map, h2, hq1]
      show (bs.map V.ref)[q]? = some (.ref l)
      rw [List.getElem?_map, hl] <;> rfl
    exact ⟨a, _, i, _, rfl, rfl, SqL.of ((e1.trans e2) _ _ h1), hat, k l H2 (e1.trans e2) (h3 q m l hq2 hl)⟩)
theorem er_i {u : MO} (he : EI X ρ s e n) (hs : s[n]? = some u) (hm : moD s u = some d) : ER X ρ s e d := fun w σ r Q k => he w σ r Q fun a H' e1 ha => k _ H' e1 (.inr ⟨n, a, u, ha, rfl, hs, hm⟩)
/-- self.states, self read only -/
theorem er_fld {ds : List D} (C : Cls X.K (wC X.K)) (nA : NoAttr X.K (wC X.K) "states") (he : ER X ρ s e (.wat ds)) (hb : attributeBase e "states" X.env (eval e X.env) = eval e X.env := by rfl) : ER X ρ s (.Attribute e "states" pos) (.lst ds) := fun w σ rl Q k =>
  sem_of (pe_fld pe_sem hb) (he w σ rl _ fun v H' e1 r => by
    rcases r with r | ⟨q, a, u, h1, rfl, h3, h4⟩
    · cases r with
      | @wat a dx l vs _ f g r => exact ⟨a, _, dx, _, .ref l, rfl, f.2.2, C, nA, by simp [List.lookup], k _ H' e1 (.inl (.lst g r))⟩
    · cases u with
      | wat m =>
        unfold moD at h4
        dsimp only at h4
        split at h4
        · rename_i es hm
          cases h4
          obtain ⟨dx, l, g1, g2⟩ := rl.sto.mo q a _ h1 h3
          exact ⟨a, _, dx, _, .ref l, rfl, e1 _ _ g1, C, nA, by simp [List.lookup], k _ H' e1 (.inr ⟨m, l, _, g2, rfl, hm, rfl⟩)⟩
        · cases h4
      | lst x => cases h4
      | dk x => cases h4
      | dt x => cases h4
      | ll x => cases h4)
/-! lists -/
theorem tyL {K : PySem.W.Frag} {H : Hp} {l : Addr} {vs : List V} (h : H l = some (.lst vs)) : tyV K "list" (.ref l) H := .inl ⟨rfl, _, .inl (.inl h)⟩
/-- o.append(e) -/
theorem sx_append {ds : List D} (ho : EI X ρ s o n) (he : EV X ρ s e d) (hs : s[n]? = some (.lst ds)) (hz : ds.length ≤ 100000) (h : A.nx ρ (s.set n (.lst (ds ++ [d]))))
    (hbase : attributeBase o "append" X.env (eval o X.env) = eval o X.env := by rfl)
    (hfew : ((backTo cpos (starEach [e] X.env)).all (fun x => !x.1) && (backToKw cpos (keywordEach [] X.env)).all (fun x => x.1.isSome) && decide (([e] : List Expr).length + ([] : List Keyword).length + (if ([] : List Keyword).isEmpty then 0 else 1) < 30)) = true := by rfl)
    (hline : (apos.endLine == cpos.line) = true := by rfl) (h1 : starEach [e] X.env = (false, eval e X.env) :: starEach [] X.env := by rfl) (h2 : (backTo cpos (starEach [] X.env)).any (·.1) = false := by rfl)
    (hsw : swapsWith (.Call (.Attribute o "append" apos) [e] [] cpos) none pos.line X.env = pure false := by rfl) : SX X ρ s (.Expr (.Call (.Attribute o "append" apos) [e] [] cpos) pos) A := fun w σ E W rl tk dm =>
  semS_of (ps_expr (pe_bm PySem.F.plainAttrs_list PySem.F.slot_list_append PySem.F.type_list_append mt_append pe_sem (pa_cons pe_sem pa_nil h1) hbase hfew hline h1 h2) hsw)
    (ho w σ rl _ fun l H1 e1 hl => by
      obtain ⟨vs, g1, g2⟩ := rl.sto.mo n l _ hl hs
      refine ⟨tyL (e1 _ _ g1), he (w.to H1) σ (rl.same e1) _ fun v H2 e2 r2 => ?_⟩
      have x2 := rl.sto.same (e1.trans e2)
      have g3 : H2 l = some (.lst vs) := (e1.trans e2) _ _ g1
      have hlen := g2.length
      refine ⟨l, vs, v, rfl, rfl, g3, Nat.lt_of_le_of_lt (by omega : vs.length ≤ 100000) (by decide), ?_⟩
      have g4 := g2.same (e1.trans e2)
      have fl : Fle (w.to H2) ((w.to H2).to (upd H2 l (.lst (vs ++ [v])))) := fun b q1 q2 q3 => ⟨q1, q2, upd_ne (fun z => q2 (by rw [z]; exact List.mem_of_getElem? hl))⟩
      obtain ⟨l2, x3⟩ := x2.put (w := w.to H2) (o := .lst (ds ++ [d])) (h := .lst (vs ++ [v])) hl ⟨vs ++ [v], upd_same, (g4.append (.cons r2 .nil)).mono fl⟩
      exact dm.nx _ σ ρ _ ((Le.same (e1.trans e2)).trans l2) ⟨x3, (rl.env.same (e1.trans e2)).fle l2.fle fun _ _ h => h⟩ h)
/-- o.extend(e), e a list that stands still -/
theorem sx_extend {ds es : List D} (ho : EI X ρ s o n) (he : EV X ρ s e (.lst es)) (hs : s[n]? = some (.lst ds)) (hz : ds.length + es.length ≤ 100000) (h : A.nx ρ (s.set n (.lst (ds ++ es))))
    (hbase : attributeBase o "extend" X.env (eval o X.env) = eval o X.env := by rfl)
    (hfew : ((backTo cpos (starEach [e] X.env)).all (fun x => !x.1) && (backToKw cpos (keywordEach [] X.env)).all (fun x => x.1.isSome) && decide (([e] : List Expr).length + ([] : List Keyword).length + (if ([] : List Keyword).isEmpty then 0 else 1) < 30)) = true := by rfl)
    (hline : (apos.endLine == cpos.line) = true := by rfl) (h1 : starEach [e] X.env = (false, eval e X.env) :: starEach [] X.env := by rfl) (h2 : (backTo cpos (starEach [] X.env)).any (·.1) = false := by rfl)
    (hsw : swapsWith (.Call (.Attribute o "extend" apos) [e] [] cpos) none pos.line X.env = pure false := by rfl) : SX X ρ s (.Expr (.Call (.Attribute o "extend" apos) [e] [] cpos) pos) A := fun w σ E W rl tk dm =>
  semS_of (ps_expr (pe_bm PySem.F.plainAttrs_list PySem.F.slot_list_extend PySem.F.type_list_extend mt_extend pe_sem (pa_cons pe_sem pa_nil h1) hbase hfew hline h1 h2) hsw)
    (ho w σ rl _ fun l H1 e1 hl => by
      obtain ⟨vs, g1, g2⟩ := rl.sto.mo n l _ hl hs
      refine ⟨tyL (e1 _ _ g1), he (w.to H1) σ (rl.same e1) _ fun v H2 e2 r2 => ?_⟩
      have x2 := rl.sto.same (e1.trans e2)
      have g3 : H2 l = some (.lst vs) := (e1.trans e2) _ _ g1
      have hlen := g2.length
      cases r2 with
      | @lst q us _ f r =>
        have hlen2 := r.length
        refine ⟨l, q, vs, us, rfl, rfl, g3, f.2.2, Nat.le_trans (by omega) (show 100000 ≤ sizeLine by decide), ?_⟩
        have g4 := g2.same (e1.trans e2)
        have fl : Fle (w.to H2) ((w.to H2).to (upd H2 l (.lst (vs ++ us)))) := fun b q1 q2 q3 => ⟨q1, q2, upd_ne (fun z => q2 (by rw [z]; exact List.mem_of_getElem? hl))⟩
        obtain ⟨l2, x3⟩ := x2.put (w := w.to H2) (o := .lst (ds ++ es)) (h := .lst (vs ++ us)) hl ⟨vs ++ us, upd_same, (g4.append r).mono fl⟩
        exact dm.nx _ σ ρ _ ((Le.same (e1.trans e2)).trans l2) ⟨x3, (rl.env.same (e1.trans e2)).fle l2.fle fun _ _ h => h⟩ h)
/-- o.reverse() -/
theorem sx_reverse {ds : List D} (ho : EI X ρ s o n) (hs : s[n]? = some (.lst ds)) (h : A.nx ρ (s.set n (.lst ds.reverse)))
    (hbase : attributeBase o "reverse" X.env (eval o X.env) = eval o X.env := by rfl) (hline : (apos.endLine == cpos.line) = true := by rfl)
    (hsw : swapsWith (.Call (.Attribute o "reverse" apos) [] [] cpos) none pos.line X.env = pure false := by rfl) : SX X ρ s (.Expr (.Call (.Attribute o "reverse" apos) [] [] cpos) pos) A := fun w σ E W rl tk dm =>
  semS_of (ps_expr (pe_bm0 PySem.F.plainAttrs_list PySem.F.slot_list_reverse PySem.F.type_list_reverse (fun pins s σ H x xs v us Q => mt_reverse pins s σ H x xs v us Q) pe_sem hbase hline) hsw)
    (ho w σ rl _ fun l H1 e1 hl => by
      obtain ⟨vs, g1, g2⟩ := rl.sto.mo n l _ hl hs
      have x2 := rl.sto.same e1
      refine ⟨tyL (e1 _ _ g1), l, vs, rfl, rfl, e1 _ _ g1, ?_⟩
      have g4 := g2.same e1
      have fl : Fle (w.to H1) ((w.to H1).to (upd H1 l (.lst vs.reverse))) := fun b q1 q2 q3 => ⟨q1, q2, upd_ne (fun z => q2 (by rw [z]; exact List.mem_of_getElem? hl))⟩
      obtain ⟨l2, x3⟩ := x2.put (w := w.to H1) (o := .lst ds.reverse) (h := .lst vs.reverse) hl ⟨vs.reverse, upd_same, g4.reverse.mono fl⟩
      exact dm.nx _ σ ρ _ ((Le.same e1).trans l2) ⟨x3, (rl.env.same e1).fle l2.fle fun _ _ h => h⟩ h)
/-- o[b] = e, o a list -/
theorem sx_setIx {ds : List D} {q : Nat} (ho : EI X ρ s o n) (hb : EV X ρ s b (.int i)) (he : EV X ρ s e d) (hs : s[n]? = some (.lst ds)) (hq : ixN ds.length i = some q) (h : A.nx ρ (s.set n (.lst (ds.set q d))))
    (hs1 : swapsWithSole [.Subscript o b pos'] e pos.line X.env = pure false := by rfl) (hw : swappedStores [.Subscript o b pos'] e X.env = pure none := by rfl) (h1 : (assignEach [.Subscript o b pos'] X.env).map (·.2) = [assign (.Subscript o b pos') X.env] := by rfl)
    (ha : ∀ v, assign (.Subscript o b pos') X.env v = (do
      let ov ← holding [v] (eval o X.env)
      let iv ← holding [v, ov] (eval b X.env)
      standAt pos'
      holding [v, ov, iv] (setItem ov iv v)
      release [v, ov, iv] []) := by intro _; rfl) : SX X ρ s (.Assign [.Subscript o b pos'] e pos) A := fun w σ E W rl tk dm =>
  semS_of (ps_asg pe_sem (pg_sub pe_sem pe_sem set_list ha) hs1 hw h1)
    (he w σ rl _ fun v H1 e1 r1 => ho (w.to H1) σ (rl.same e1) _ fun l H2 e2 hl => hb (w.to H2) σ (rl.same (e1.trans e2)) _ fun u H3 e3 r3 => by
      have ee := (e1.trans e2).trans e3
      have hl' : w.α[n]? = some l := hl
      obtain ⟨vs, g1, g2⟩ := rl.sto.mo n l _ hl' hs
      have x3 := rl.sto.same ee
      cases r3
      refine ⟨l, vs, i, q, rfl, rfl, ee _ _ g1, by rw [g2.length]; exact hq, ?_⟩
      have g4 := g2.same ee
      have fl : Fle (w.to H3) ((w.to H3).to (upd H3 l (.lst (vs.set q v)))) := fun b q1 q2 q3 => ⟨q1, q2, upd_ne (fun z => q2 (by rw [z]; exact List.mem_of_getElem? hl'))⟩
      obtain ⟨l2, x4⟩ := x3.put (w := w.to H3) (o := .lst (ds.set q d)) (h := .lst (vs.set q v)) hl' ⟨vs.set q v, upd_same, (g4.set (r1.same (e2.trans e3)) q).mono fl⟩
      exact dm.nx _ σ ρ _ ((Le.same ee).trans l2) ⟨x4, (rl.env.same ee).fle l2.fle fun _ _ h => h⟩ h)
theorem ixN_nat {n : Nat} {q : Nat} (h : q < n) : ixN n (q : Int) = some q := by
  unfold ixN
  rw [if_pos (by omega), if_pos (by omega)]
  congr 1
/-! dicts -/
theorem sx_putK {kvs : List (Int × D)} (hu : X.A.units + 64 < cLine) (ho : EI X ρ s o n) (hb : EV X ρ s b (.int i)) (he : EV X ρ s e d) (hs : s[n]? = some (.dk kvs)) (hz : kvs.length ≤ 100000) (h : A.nx ρ (s.set n (.dk (putG kvs i d))))
    (hsw : swapsWith e (some (.Subscript o b pos')) pos.line X.env = pure false := by rfl) : SX X ρ s (.Assign [.Subscript o b pos'] e pos) A := fun w σ E W rl tk dm =>
  semS_of (ps_dput (by omega) pe_sem pe_sem pe_sem hsw)
    (he w σ rl _ fun v H1 e1 r1 => ho (w.to H1) σ (rl.same e1) _ fun l H2 e2 hl => hb (w.to H2) σ (rl.same (e1.trans e2)) _ fun u H3 e3 r3 => by
      have ee := (e1.trans e2).trans e3
      have hl' : w.α[n]? = some l := hl
      obtain ⟨vs, g1, g2⟩ := rl.sto.mo n l _ hl' hs
      have x3 := rl.sto.same ee
      cases r3
      have g4 := g2.same ee
      obtain ⟨vs', z1, z2⟩ := zk_put (emb := fun i : Int => (Sum.inl i : Key)) inl_inj i (r1.same (e2.trans e3)) g4
      have hln : (dkv (kvs.map (·.1)) vs).length ≤ 100000 := by
        unfold dkv
        rw [List.length_zip, List.length_map, List.length_map]
        omega
      refine ⟨l, _, rfl, DPut.k (k := Sum.inl i) (ee _ _ g1) (Nat.lt_of_le_of_lt hln (by decide)), ?_⟩
      have fl : ∀ h, Fle (w.to H3) ((w.to H3).to (upd H3 l h)) := fun h b q1 q2 q3 => ⟨q1, q2, upd_ne (fun z => q2 (by rw [z]; exact List.mem_of_getElem? hl'))⟩
      obtain ⟨l2, x4⟩ := x3.put (w := w.to H3) (o := .dk (putG kvs i d)) (h := .dK (putK (dkv (kvs.map (·.1)) vs) (Sum.inl i) v)) hl' ⟨vs', by rw [show putK (dkv (kvs.map (·.1)) vs) (Sum.inl i) v = dkv ((putG kvs i d).map (·.1)) vs' from z1]; exact upd_same, z2.mono (fl _)⟩
      exact dm.nx _ σ ρ _ ((Le.same ee).trans l2) ⟨x4, (rl.env.same ee).fle l2.fle fun _ _ h => h⟩ h)
theorem sx_putT {kvs : List (List Int × D)} {is : List Int} (hu : X.A.units + 64 < cLine) (ho : EI X ρ s o n) (hb : EV X ρ s b (.tup (is.map D.int))) (he : EV X ρ s e d) (hs : s[n]? = some (.dt kvs)) (hz : kvs.length ≤ 100000) (h : A.nx ρ (s.set n (.dt (putG kvs is d))))
    (hsw : swapsWith e (some (.Subscript o b pos')) pos.line X.env = pure false := by rfl) : SX X ρ s (.Assign [.Subscript o b pos'] e pos) A := fun w σ E W rl tk dm =>
  semS_of (ps_dput (by omega) pe_sem pe_sem pe_sem hsw)
    (he w σ rl _ fun v H1 e1 r1 => ho (w.to H1) σ (rl.same e1) _ fun l H2 e2 hl => hb (w.to H2) σ (rl.same (e1.trans e2)) _ fun u H3 e3 r3 => by
      have ee := (e1.trans e2).trans e3
      have hl' : w.α[n]? = some l := hl
      obtain ⟨vs, g1, g2⟩ := rl.sto.mo n l _ hl' hs
      have x3 := rl.sto.same ee
      cases r3 with
      | @tup q us _ f r =>
        cases r.ints
        have g4 := g2.same ee
        obtain ⟨vs', z1, z2⟩ := zk_put (emb := fun i : List Int => i.map fun i => (Sum.inl i : Key)) minl_inj is (r1.same (e2.trans e3)) g4
        have hln : (dtv (kvs.map (·.1)) vs).length ≤ 100000 := by
          unfold dtv
          rw [List.length_zip, List.length_map, List.length_map]
          omega
        refine ⟨l, _, rfl, DPut.t (k := is.map fun i => (Sum.inl i : Key)) (ee _ _ g1) (by rw [List.map_map]; exact f.2.2) (Nat.lt_of_le_of_lt hln (by decide)), ?_⟩
        have fl : ∀ h, Fle (w.to H3) ((w.to H3).to (upd H3 l h)) := fun h b q1 q2 q3 => ⟨q1, q2, upd_ne (fun z => q2 (by rw [z]; exact List.mem_of_getElem? hl'))⟩
        obtain ⟨l2, x4⟩ := x3.put (w := w.to H3) (o := .dt (putG kvs is d)) (h := .dT (putK (dtv (kvs.map (·.1)) vs) (is.map fun i => (Sum.inl i : Key)) v)) hl' ⟨vs', by rw [show putK (dtv (kvs.map (·.1)) vs) (is.map fun i => (Sum.inl i : Key)) v = dtv ((putG kvs is d).map (·.1)) vs' from z1]; exact upd_same, z2.mono (fl _)⟩
        exact dm.nx _ σ ρ _ ((Le.same ee).trans l2) ⟨x4, (rl.env.same ee).fle l2.fle fun _ _ h => h⟩ h)
/-- x = a new object that the def will change, said by what stands at its place -/
theorem sx_newO {te : TE} {u : MO} (q : Nat) {x : Str} (nd : X.N.Nodup) (he : PE X e te)
    (ht : ∀ w σ, Rel X.K w σ ρ s → ∀ Q : VK, (∀ p H', w.H p = none → Same w.H H' → Mok X.K ⟨w.S, w.α ++ [p], H'⟩ p u → Q (.ref p) H') → te σ w.H Q) (h : A.nx (ρ.set q (.r s.length)) (s ++ [u])) (hi : X.N[q]? = some x := by rfl) (hx : Loc X.env.scope x := by first | exact Or.inl rfl | exact Or.inr rfl)
    (hs : swapsWith e (some (.Name x pos')) pos.line X.env = pure false := by rfl) (hf : X.fn x = true ∨ X.env.scope.names.lookup x = some .local := by first | exact .inl rfl | exact .inr rfl) : SX X ρ s (.Assign [.Name x pos'] e pos) A := fun w σ E W rl tk dm =>
  semS_of (ps_set nd hi hx he hs hf) (ht w σ rl _ fun pp H' hp e1 m => by
    obtain ⟨l, x2⟩ := rl.sto.add (o := u) hp e1 m
    refine dm.nx ⟨w.S, w.α ++ [pp], H'⟩ _ _ _ l ⟨x2, (rl.env.fle l.fle fun _ _ h => l.ix h).setR (j := s.length) ?_⟩ h
    show (w.α ++ [pp])[s.length]? = some pp
    rw [← rl.sto.len, List.getElem?_append_right (Nat.le_refl _), Nat.sub_self]
    rfl)
/-- x = {}, the keys to be tuples -/
theorem sx_newT (q : Nat) {x : Str} (nd : X.N.Nodup) (h : A.nx (ρ.set q (.r s.length)) (s ++ [.dt []])) (hi : X.N[q]? = some x := by rfl) (hx : Loc X.env.scope x := by first | exact Or.inl rfl | exact Or.inr rfl)
    (hs : swapsWith (.Dict [] [] p) (some (.Name x pos')) pos.line X.env = pure false := by rfl) (hf : X.fn x = true ∨ X.env.scope.names.lookup x = some .local := by first | exact .inl rfl | exact .inr rfl) : SX X ρ s (.Assign [.Name x pos'] (.Dict [] [] p) pos) A :=
  sx_newO (u := .dt []) q nd pe_dnewT (fun w σ rl Q k pp hp => k pp _ hp (same_upd hp) ⟨[], upd_same, .nil⟩) h hi hx hs hf
/-- the pairs of a display -/
def EPs (X : Cx) (ρ : List Sl) (s : List MO) (pos : Pos) (ks : List (Option Expr)) (es : List Expr) (kvs : List (Int × D)) : Prop := ∃ trs, PPs X pos ks es trs ∧
  ∀ w σ, Rel X.K w σ ρ s → ∀ Q : List (V × V) → Hp → Prop, (∀ vs H', Same w.H H' → Reps X.K (w.to H') vs (kvs.map (·.2)) → Q ((kvs.map fun p => V.int p.1).zip vs) H') → tPairs trs σ w.H Q
theorem eps_nil : EPs X ρ s pos [] [] [] := ⟨[], pps_nil, fun w σ rl Q q => q [] w.H (Same.refl _) .nil⟩
theorem eps_cons {ks : List (Option Expr)} {es : List Expr} {kvs : List (Int × D)} (ha : EV X ρ s a (.int i)) (hb : EV X ρ s b d) (h : EPs X ρ s pos ks es kvs) : EPs X ρ s pos (some a :: ks) (b :: es) ((i, d) :: kvs) := by
  obtain ⟨trs, h1, h2⟩ := h
  exact ⟨_, pps_cons pe_sem pe_sem h1, fun w σ rl Q q => ha w σ rl _ fun v H1 e1 r1 => hb (w.to H1) σ (rl.same e1) _ fun u H2 e2 r2 => h2 (w.to H2) σ (rl.same (e1.trans e2)) _ fun vs H3 e3 r3 => by
    cases r1
    exact q (u :: vs) H3 ((e1.trans e2).trans e3) (.cons (r2.same e3) r3)⟩
theorem zip_kv : ∀ (kvs : List (Int × D)) (vs : List V), (kvs.map fun p => V.int p.1).zip vs = (dkv (kvs.map (·.1)) vs).map (fun kv => (kV kv.1, kv.2))
  | [], _ => rfl
  | _ :: _, [] => rfl
  | p :: r, v :: vs => by
    show (V.int p.1, v) :: (r.map fun p => V.int p.1).zip vs = (kV (Sum.inl p.1), v) :: (dkv (r.map (·.1)) vs).map (fun kv => (kV kv.1, kv.2))
    rw [zip_kv r vs] <;> rfl
def mergeG (kvs more : List (Int × D)) : List (Int × D) := more.foldl (fun acc kv => putG acc kv.1 kv.2) kvs
theorem merge_zk {K : PySem.W.Frag} {w : Wd} : ∀ {more : List (Int × D)} {us : List V} {kvs : List (Int × D)} {vs : List V}, Reps K w us (more.map (·.2)) → Reps K w vs (kvs.map (·.2)) →
    ∃ vs', mergeK (dkv (kvs.map (·.1)) vs) (dkv (more.map (·.1)) us) = dkv ((mergeG kvs more).map (·.1)) vs' ∧ Reps K w vs' ((mergeG kvs more).map (·.2))
  | [], _, kvs, vs, .nil, r => ⟨vs, rfl, r⟩
  | p :: more, _, kvs, vs, .cons (v := u) (vs := us) r rs, r2 => by
    obtain ⟨vs1, z1, z2⟩ := zk_put (emb := fun i : Int => (Sum.inl i : Key)) inl_inj p.1 r r2
    obtain ⟨vs2, y1, y2⟩ := merge_zk (kvs := putG kvs p.1 p.2) rs z2
    refine ⟨vs2, ?_, y2⟩
    show mergeK (putK (dkv (kvs.map (·.1)) vs) (Sum.inl p.1) u) (dkv (more.map (·.1)) us) = _
    rw [show putK (dkv (kvs.map (·.1)) vs) (Sum.inl p.1) u = dkv ((putG kvs p.1 p.2).map (·.1)) vs1 from z1]
    exact y1
/-- x = {k: v, ..}, the keys ints -/
theorem sx_newD (q : Nat) {x : Str} {ks : List (Option Expr)} {es : List Expr} {kvs : List (Int × D)} (nd : X.N.Nodup) (hk : EPs X ρ s p ks es kvs) (hz : kvs.length ≤ 15) (h : A.nx (ρ.set q (.r s.length)) (s ++ [.dk (mergeG [] kvs)])) (hi : X.N[q]? = some x := by rfl) (hx : Loc X.env.scope x := by first | exact Or.inl rfl | exact Or.inr rfl)
    (hs : swapsWith (.Dict ks es p) (some (.Name x pos')) pos.line X.env = pure false := by rfl) (hf : X.fn x = true ∨ X.env.scope.names.lookup x = some .local := by first | exact .inl rfl | exact .inr rfl)
    (hall : ks.all (·.isSome) = true := by rfl) (hl : ks.length = es.length := by rfl) (h0 : ks ≠ [] := by exact fun z => nomatch z) (h15 : ks.length ≤ 15 := by decide) : SX X ρ s (.Assign [.Name x pos'] (.Dict ks es p) pos) A := by
  obtain ⟨trs, k1, k2⟩ := hk
  refine sx_newO (u := .dk (mergeG [] kvs)) q nd (pe_disp k1 hall hl h0 h15) (fun w σ rl Q k pp hp => ?_) h hi hx hs hf
  have f := rl.sto.fresh hp
  have rl' : Rel X.K (w.av pp (upd w.H pp (.dK []))) σ ρ s := by
    have fl := av_fle (w := w) (o := .dK []) hp
    refine ⟨⟨fun a h z => ?_, rl.sto.len, rl.sto.nd, fun a h z => ?_, fun i a u h1 h2 => ?_⟩, rl.env.fle fl fun _ _ h => h⟩
    · by_cases hq : a = pp
      · have z' : upd w.H pp (.dK []) a = none := z
        rw [hq, upd_same] at z'
        cases z'
      · rcases h with h | h
        · have z' : upd w.H pp (.dK []) a = none := z
          rw [upd_ne hq] at z'
          exact rl.sto.sok a h z'
        · exact hq h
    · rcases z with z | z
      · exact rl.sto.ns a h z
      · rw [z] at h; exact f.2 h
    · have ha : a ≠ pp := fun z => f.2 (by rw [← z]; exact List.mem_of_getElem? h1)
      exact (rl.sto.mo i a u h1 h2).grow fl (fun _ _ h => h) (upd_ne ha)
  refine k2 (w.av pp (upd w.H pp (.dK []))) σ rl' _ fun vs H2 e2 r2 => ⟨e2 _ _ upd_same, dkv (kvs.map (·.1)) vs, ?_, ?_, ?_⟩
  · exact zip_kv kvs vs
  · unfold dkv
    rw [List.length_zip, List.length_map, List.length_map]
    omega
  · have e3 : Same w.H (upd H2 pp (.dK (mergeK [] (dkv (kvs.map (·.1)) vs)))) := fun b u hb => by
      have nb : b ≠ pp := ne_of_none hb hp
      rw [upd_ne nb]
      exact e2 b u (by show upd w.H pp (.dK []) b = some u; rw [upd_ne nb]; exact hb)
    obtain ⟨vs', y1, y2⟩ := merge_zk (K := X.K) (kvs := []) (vs := []) r2 .nil
    have fl2 : Fle ((w.av pp (upd w.H pp (.dK []))).to H2) ⟨w.S, w.α ++ [pp], upd H2 pp (.dK (mergeK [] (dkv (kvs.map (·.1)) vs)))⟩ := fun a g1 g2 g3 => ⟨fun z => g1 (Or.inl z), fun z => by
      rcases List.mem_append.mp z with z | z
      · exact g2 z
      · exact g1 (Or.inr (List.mem_singleton.mp z)), upd_ne fun z => g1 (Or.inr z)⟩
    refine k pp _ hp e3 ⟨vs', ?_, y2.mono fl2⟩
    · show upd H2 pp (.dK (mergeK [] (dkv (kvs.map (·.1)) vs))) pp = _
      rw [upd_same]
      exact congrArg (fun l => some (HO.dK l)) y1
end
/-! ## Comprehensions; what a def of the text promises -/
section
variable {X : Cx} {ρ : List Sl} {s : List MO} {e a b c o elt iter : Expr} {pos pos' p apos cpos : Pos} {d x y z : D} {i j : Int} {k : Bool} {A : AEnds} {st : Stmt} {rest : List Stmt} {n m : Nat}
theorem Rel.avoid {K : PySem.W.Frag} {w : Wd} {σ : L2.St} {q : Addr} {H' : Hp} (x : Rel K w σ ρ s) (hq : w.H q = none) (e : Same w.H H') (hn : H' q ≠ none) : Fle w (w.av q H') ∧ Rel K (w.av q H') σ ρ s := by
  have f := x.sto.fresh hq
  have fl : Fle w (w.av q H') := fun a h1 h2 ⟨u, h3⟩ => ⟨fun z => Or.elim z h1 (ne_of_none h3 hq), h2, by rw [h3]; exact e a u h3⟩
  refine ⟨fl, ⟨⟨fun a h z => ?_, x.sto.len, x.sto.nd, fun a h z => ?_, fun i a u h1 h2 => ?_⟩, x.env.fle fl fun _ _ h => h⟩⟩
  · rcases h with h | h
    · exact (x.same e).sto.sok a h z
    · rw [h] at z; exact hn z
  · rcases z with z | z
    · exact x.sto.ns a h z
    · rw [z] at h; exact f.2 h
  · have m := x.sto.mo i a u h1 h2
    obtain ⟨t, ht⟩ : ∃ t, w.H a = some t := by
      cases g : w.H a with
      | none => exact absurd g m.ne
      | some t => exact ⟨t, rfl⟩
    exact m.grow fl (fun _ _ h => h) (by rw [ht]; exact e a t ht)
/-- what a comprehension with one name walks to -/
theorem lc_sem {β : Type} {wi : TI} {tt : TT} {te : TE} {q : Nat} {xs : List β} {enc : β → D} {F : β → Option D}
    (hw : ∀ w σ, Rel X.K w σ ρ s → ∀ R : It → Hp → Prop, (∀ J H', Same w.H H' → ItOk X.K (w.to H') J (xs.map enc) → R J H') → wi σ w.H R)
    (ht : ∀ x ∈ xs, ∀ w σ, Rel X.K w σ (ρ.set q (.d (enc x))) s → ∀ Q : Bool → Hp → Prop, (∀ H', Same w.H H' → Q (F x).isSome H') → tt σ w.H Q)
    (he : ∀ x ∈ xs, ∀ y, F x = some y → ∀ w σ, Rel X.K w σ (ρ.set q (.d (enc x))) s → ∀ Q : VK, (∀ v H', Same w.H H' → Rep X.K (w.to H') v y → Q v H') → te σ w.H Q) (hz : xs.length ≤ 100000) :
    ∀ w σ, Rel X.K w σ ρ s → ∀ Q : VK, (∀ p vs H', w.H p = none → Same w.H H' → H' p = some (.lst vs) → Reps X.K (w.av p H') vs (xs.filterMap F) → Q (.ref p) H') → tLc wi (gName q) tt te [q] σ w.H Q := by
  refine fun w σ rl Q kQ => hw w σ rl _ fun J H1 e1 ok L hL => ?_
  refine ⟨fun i m H => m = xs.length - i ∧ i ≤ xs.length ∧ Same H1 H ∧ ∃ acc, H L = some (.lst acc) ∧ Reps X.K (w.av L H) acc ((xs.take i).filterMap F), ⟨xs.length, rfl, Nat.zero_le _, same_upd hL, [], upd_same, .nil⟩, ?_⟩
  rintro i m H ⟨rfl, hi, e2, acc, hA, rA⟩
  have e12 : Same w.H H := e1.trans e2
  have hLw : w.H L = none := e1.free hL
  obtain ⟨fl, rl2⟩ := (rl.same e1).avoid (q := L) hL e2 (by rw [hA]; exact fun z => nomatch z)
  by_cases hlt : i < xs.length
  · obtain ⟨x, hx⟩ : ∃ x, xs[i]? = some x := ⟨xs[i], by simp [hlt]⟩
    have hmem : x ∈ xs := List.mem_of_getElem? hx
    obtain ⟨go, yl⟩ := ok.go (w.av L H) s fl rl2.sto i (enc x) (by rw [List.getElem?_map, hx]; rfl)
    refine .inr ⟨go, fun H' => Same H1 H' ∧ ∃ acc, H' L = some (.lst acc) ∧ Reps X.K (w.av L H') acc ((xs.take (i + 1)).filterMap F), fun H' g => ⟨xs.length - (i + 1), by omega, rfl, hlt, g⟩, fun v H3 hy => ?_⟩
    obtain ⟨e3, rv⟩ := yl v H3 hy
    refine ⟨?_, ?_⟩
    · show ((σ.set q none).set q (some v)).set q none = σ.set q none
      rw [List.set_set, List.set_set]
    · have er : EnvR X.K ((w.av L H).to H3) ((wipe σ [q]).set q (some v)) (ρ.set q (.d (enc x))) := by
        have h1 := ((rl2.env.wipe1 (i := q) (o := none)).same e3).setD (i := q) rv
        rw [List.set_set, List.set_set] at h1
        show EnvR X.K ((w.av L H).to H3) ((σ.set q none).set q (some v)) (ρ.set q (.d (enc x)))
        rw [List.set_set]
        exact h1
      have rl3 : Rel X.K ((w.av L H).to H3) ((wipe σ [q]).set q (some v)) (ρ.set q (.d (enc x))) s := ⟨rl2.sto.same e3, er⟩
      refine ht x hmem _ _ rl3 _ fun H4 e4 => ?_
      have etk : (xs.take (i + 1)).filterMap F = (xs.take i).filterMap F ++ (match F x with | some y => [y] | none => []) := by
        rw [List.take_succ, hx, List.filterMap_append]
        congr 1
        show [x].filterMap F = _
        rw [List.filterMap_cons]
        cases F x <;> rfl
      cases hF : F x with
      | none =>
        show Same H1 H4 ∧ _
        rw [etk, hF, List.append_nil]
        exact ⟨(e2.trans e3).trans e4, acc, e4 _ _ (e3 _ _ hA), (rA.same (e3.trans e4))⟩
      | some y =>
        refine he x hmem y hF _ _ (rl3.same e4) _ fun u H5 e5 r5 => ?_
        have hA5 : H5 L = some (.lst acc) := e5 _ _ (e4 _ _ (e3 _ _ hA))
        have hlen : acc.length ≤ 100000 := by
          rw [rA.length]
          exact Nat.le_trans (List.length_filterMap_le _ _) (by rw [List.length_take]; omega)
        refine ⟨acc, hA5, Nat.lt_of_le_of_lt hlen (by decide), fun b t hb => ?_, acc ++ [u], upd_same, ?_⟩
        · rw [upd_ne (ne_of_none hb hL)]
          exact e5 _ _ (e4 _ _ (e3 _ _ (e2 _ _ hb)))
        · rw [etk, hF]
          have fl5 : Fle ((w.av L H).to H5) (w.av L (upd H5 L (.lst (acc ++ [u])))) := fun b g1 g2 _ => ⟨g1, g2, upd_ne fun z => g1 (Or.inr z)⟩
          exact ((rA.same ((e3.trans e4).trans e5)).append (.cons r5 .nil)).mono fl5
  · have hi' : i = xs.length := by omega
    subst hi'
    rw [List.take_length] at rA
    refine .inl ⟨?_, kQ L acc H hLw e12 hA rA⟩
    have := ok.stop (w.av L H) s fl rl2.sto
    rw [List.length_map] at this
    exact this
/-- a comprehension that gives ds -/
def LcR (X : Cx) (ρ : List Sl) (s : List MO) (elt tg iter : Expr) (ifs : List Expr) (scope : Scope) (ds : List D) : Prop := ∃ (own : List (Str × Nat)) (wi : TI) (g : TG) (tt : TT) (te : TE), PI X tg iter wi ∧ BlkOk X.N X.env.scope scope own ∧
  (∀ (s : Shared) (H : Hp) (C : Addr) (cl : List (Str × Addr)) (fp : List Addr), PG (X.blk s H scope (compEnvC scope cl C X.env) fp) tg g) ∧ (∀ (s : Shared) (H : Hp) (C : Addr) (cl : List (Str × Addr)) (fp : List Addr), PTs (X.blk s H scope (compEnvC scope cl C X.env) fp) ifs tt) ∧
  (∀ (s : Shared) (H : Hp) (C : Addr) (cl : List (Str × Addr)) (fp : List Addr), PE (X.blk s H scope (compEnvC scope cl C X.env) fp) elt te) ∧
  ∀ w σ, Rel X.K w σ ρ s → ∀ Q : VK, (∀ p vs H', w.H p = none → Same w.H H' → H' p = some (.lst vs) → Reps X.K (w.av p H') vs ds → Q (.ref p) H') → tLc wi g tt te (own.map (·.2)) σ w.H Q
theorem lc_all {β : Type} (q : Nat) {n : Str} {tp : Pos} {scope : Scope} {xs : List β} {enc : β → D} {f : β → D} (nd : X.N.Nodup) (hi : ES X ρ s (.Name n tp) iter (xs.map enc))
    (ok : BlkOk X.N X.env.scope scope [(n, q)]) (hN : X.N[q]? = some n)
    (hl : L2.Loc (relabel scope X.env) n) (hf : (scope.names.lookup n == some .cell) = true ∨ (relabel scope X.env).names.lookup n = some .local)
    (he : ∀ (s0 : Shared) (H0 : Hp) (C : Addr) (cl : List (Str × Addr)) (fp : List Addr), ∀ x ∈ xs, EV (X.blk s0 H0 scope (compEnvC scope cl C X.env) fp) (ρ.set q (.d (enc x))) s elt (f x)) (hz : xs.length ≤ 100000) : LcR X ρ s elt (.Name n tp) iter [] scope (xs.map f) := by
  obtain ⟨wi, h1, h2⟩ := hi
  refine ⟨[(n, q)], wi, gName q, tYes, fun σ H Q => ∀ (s0 : Shared) (H0 : Hp) (C : Addr) (cl : List (Str × Addr)) (fp : List Addr), tSem (X.blk s0 H0 scope (compEnvC scope cl C X.env) fp) elt σ H Q, h1, ok,
    fun _ _ _ _ _ => pg_name (X := X.blk _ _ scope _ _) nd hN hl hf, fun _ _ _ _ _ => pts_nil, fun s0 H0 C cl fp => ⟨fun pins st σ H Q I h => h s0 H0 C cl fp pins st I⟩, ?_⟩
  have := lc_sem (X := X) (ρ := ρ) (s := s) (wi := wi) (tt := tYes) (te := fun σ H Q => ∀ (s0 : Shared) (H0 : Hp) (C : Addr) (cl : List (Str × Addr)) (fp : List Addr), tSem (X.blk s0 H0 scope (compEnvC scope cl C X.env) fp) elt σ H Q) (q := q) (xs := xs) (enc := enc) (F := fun x => some (f x)) h2
    (fun x _ w σ _ Q k => k w.H (Same.refl _)) (fun x hx y hy w σ rl Q k s0 H0 C cl fp => he s0 H0 C cl fp x hx w σ rl Q fun v H' e1 r1 => k v H' e1 (by cases hy; exact r1)) hz
  rw [List.filterMap_eq_map'] at this
  exact this
theorem filterMap_ite {β : Type} (pr : β → Bool) (f : β → D) : ∀ xs : List β, xs.filterMap (fun x => if pr x = true then some (f x) else none) = (xs.filter pr).map f
  | [] => rfl
  | x :: xs => by
    rw [List.filterMap_cons, filterMap_ite pr f xs, List.filter_cons]
    cases h : pr x with
    | true => rw [if_pos rfl, if_pos rfl] <;> rfl
    | false => rw [if_neg Bool.false_ne_true, if_neg Bool.false_ne_true]
theorem lc_if {β : Type} (q : Nat) {n : Str} {tp : Pos} {scope : Scope} {xs : List β} {enc : β → D} {f : β → D} {pr : β → Bool} (nd : X.N.Nodup) (hi : ES X ρ s (.Name n tp) iter (xs.map enc))
    (ok : BlkOk X.N X.env.scope scope [(n, q)]) (hN : X.N[q]? = some n)
    (hl : L2.Loc (relabel scope X.env) n) (hf : (scope.names.lookup n == some .cell) = true ∨ (relabel scope X.env).names.lookup n = some .local)
    (ht : ∀ (s0 : Shared) (H0 : Hp) (C : Addr) (cl : List (Str × Addr)) (fp : List Addr), ∀ x ∈ xs, ET (X.blk s0 H0 scope (compEnvC scope cl C X.env) fp) (ρ.set q (.d (enc x))) s c (pr x))
    (he : ∀ (s0 : Shared) (H0 : Hp) (C : Addr) (cl : List (Str × Addr)) (fp : List Addr), ∀ x ∈ xs, pr x = true → EV (X.blk s0 H0 scope (compEnvC scope cl C X.env) fp) (ρ.set q (.d (enc x))) s elt (f x)) (hz : xs.length ≤ 100000) : LcR X ρ s elt (.Name n tp) iter [c] scope ((xs.filter pr).map f) := by
  obtain ⟨wi, h1, h2⟩ := hi
  refine ⟨[(n, q)], wi, gName q, fun σ H Q => ∀ (s0 : Shared) (H0 : Hp) (C : Addr) (cl : List (Str × Addr)) (fp : List Addr), tSemT (X.blk s0 H0 scope (compEnvC scope cl C X.env) fp) c σ H Q, fun σ H Q => ∀ (s0 : Shared) (H0 : Hp) (C : Addr) (cl : List (Str × Addr)) (fp : List Addr), tSem (X.blk s0 H0 scope (compEnvC scope cl C X.env) fp) elt σ H Q, h1, ok,
    fun _ _ _ _ _ => pg_name (X := X.blk _ _ scope _ _) nd hN hl hf, fun s0 H0 C cl fp => pts_one ⟨fun pins st σ H Q I h => h s0 H0 C cl fp pins st I⟩, fun s0 H0 C cl fp => ⟨fun pins st σ H Q I h => h s0 H0 C cl fp pins st I⟩, ?_⟩
  have := lc_sem (X := X) (ρ := ρ) (s := s) (wi := wi) (tt := fun σ H Q => ∀ (s0 : Shared) (H0 : Hp) (C : Addr) (cl : List (Str × Addr)) (fp : List Addr), tSemT (X.blk s0 H0 scope (compEnvC scope cl C X.env) fp) c σ H Q) (te := fun σ H Q => ∀ (s0 : Shared) (H0 : Hp) (C : Addr) (cl : List (Str × Addr)) (fp : List Addr), tSem (X.blk s0 H0 scope (compEnvC scope cl C X.env) fp) elt σ H Q) (q := q) (xs := xs) (enc := enc) (F := fun x => if pr x = true then some (f x) else none) h2
    (fun x hx w σ rl Q k s0 H0 C cl fp => ht s0 H0 C cl fp x hx w σ rl Q fun H' e1 => by
      have := k H' e1
      cases h : pr x with
      | true => rw [h] at this; exact this
      | false => rw [h] at this; exact this)
    (fun x hx y hy w σ rl Q k s0 H0 C cl fp => by
      cases h : pr x with
      | true =>
        rw [h, if_pos rfl] at hy
        exact he s0 H0 C cl fp x hx h w σ rl Q fun v H' e1 r1 => k v H' e1 (by cases hy; exact r1)
      | false => rw [h, if_neg Bool.false_ne_true] at hy; cases hy) hz
  rw [filterMap_ite] at this
  exact this
theorem en_lc {tg : Expr} {ifs : List Expr} {scope : Scope} {ds : List D} (nd : X.N.Nodup) (h : LcR X ρ s elt tg iter ifs scope ds) (hc : X.calm = true := by rfl) (hs : ∀ x, foldedSetIterable iter X.env x = pure x := by intro _; rfl) : EN X ρ s (.ListComp elt [⟨tg, iter, ifs, 0⟩] scope pos) ds := by
  obtain ⟨own, wi, g, tt, te, h1, h2, h3, h4, h5, h6⟩ := h
  exact fun w σ rl Q q => sem_of (pe_lc hc nd h1 h2 h3 h4 h5 hs) (h6 w σ rl Q q)
/-- x = [..] on one line -/
theorem sx_setLc (r : Nat) {x : Str} {tg : Expr} {ifs : List Expr} {scope : Scope} {ds : List D} (nd : X.N.Nodup) (hl : LcR X ρ s elt tg iter ifs scope ds) (h : A.nx (ρ.set r (.d (.lst ds))) s) (hy : X.N[r]? = some x := by rfl) (hyl : X.env.scope.names.lookup x = some .local := by rfl)
    (hsw : swapsWith (.ListComp elt [⟨tg, iter, ifs, 0⟩] scope pos) (some (.Name x p)) pos'.line X.env = pure true := by exact sw_true rfl rfl rfl (by decide +kernel)) (hc : X.calm = true := by rfl) (hs : ∀ x, foldedSetIterable iter X.env x = pure x := by intro _; rfl) :
    SX X ρ s (.Assign [.Name x p] (.ListComp elt [⟨tg, iter, ifs, 0⟩] scope pos) pos') A := by
  obtain ⟨own, wi, g, tt, te, h1, h2, h3, h4, h5, h6⟩ := hl
  exact fun w σ E W rl tk dm => semS_of (ps_setLc hc nd hy hyl hsw h1 h2 h3 h4 h5 hs) (h6 w σ rl _ fun pp vs H' hp e1 g1 g2 => by
    have f := rl.sto.fresh hp
    exact dm.nx (w.to H') _ _ _ (Le.same e1) ⟨rl.sto.same e1, (rl.env.same e1).setD (.lst ⟨f.1, f.2, g1⟩ g2.unav)⟩ h)
theorem sx_newLc (r : Nat) {x : Str} {tg : Expr} {ifs : List Expr} {scope : Scope} {ds : List D} (nd : X.N.Nodup) (hl : LcR X ρ s elt tg iter ifs scope ds) (h : A.nx (ρ.set r (.r s.length)) (s ++ [.lst ds])) (hy : X.N[r]? = some x := by rfl) (hyl : X.env.scope.names.lookup x = some .local := by rfl)
    (hsw : swapsWith (.ListComp elt [⟨tg, iter, ifs, 0⟩] scope pos) (some (.Name x p)) pos'.line X.env = pure true := by exact sw_true rfl rfl rfl (by decide +kernel)) (hc : X.calm = true := by rfl) (hs : ∀ x, foldedSetIterable iter X.env x = pure x := by intro _; rfl) :
    SX X ρ s (.Assign [.Name x p] (.ListComp elt [⟨tg, iter, ifs, 0⟩] scope pos) pos') A := by
  obtain ⟨own, wi, g, tt, te, h1, h2, h3, h4, h5, h6⟩ := hl
  exact fun w σ E W rl tk dm => semS_of (ps_setLc hc nd hy hyl hsw h1 h2 h3 h4 h5 hs) (h6 w σ rl _ fun pp vs H' hp e1 g1 g2 => by
    have fl : Fle (w.av pp H') ⟨w.S, w.α ++ [pp], H'⟩ := fun a q1 q2 _ => ⟨fun z => q1 (.inl z), fun z => by
      rcases List.mem_append.mp z with z | z
      · exact q2 z
      · exact q1 (.inr (List.mem_singleton.mp z)), rfl⟩
    obtain ⟨l, x2⟩ := rl.sto.add (o := .lst ds) hp e1 ⟨vs, g1, g2.mono fl⟩
    refine dm.nx ⟨w.S, w.α ++ [pp], H'⟩ _ _ _ l ⟨x2, (rl.env.fle l.fle fun _ _ h => l.ix h).setR (j := s.length) ?_⟩ h
    show (w.α ++ [pp])[s.length]? = some pp
    rw [← rl.sto.len, List.getElem?_append_right (Nat.le_refl _), Nat.sub_self]
    rfl)
end
/-! ### a def keeps its promise -/
def start0 (N : List Str) (sl : List Sl) : List Sl := sl ++ List.replicate (N.length - sl.length) .no
theorem env_start {K : PySem.W.Frag} {w : Wd} {vs : List V} {sl : List Sl} {N : List Str} (h : EnvR K w (vs.map some) sl) : EnvR K w (L2.start N vs) (start0 N sl) where
  len := by
    have hl := h.len
    rw [List.length_map] at hl
    unfold L2.start start0
    rw [List.length_append, List.length_append, List.length_map, List.length_replicate, List.length_replicate, hl]
  en := fun i y e => by
    have hl := h.len
    rw [List.length_map] at hl
    unfold start0 at e
    unfold L2.start
    by_cases hi : i < sl.length
    · rw [List.getElem?_append_left hi] at e
      rw [List.getElem?_append_left (by rw [List.length_map]; omega)]
      exact h.en i y e
    · rw [List.getElem?_append_right (by omega)] at e
      have hr := (List.getElem?_eq_some_iff.mp e).1
      rw [List.getElem?_replicate] at e
      split at e
      · cases e
        rw [List.getElem?_append_right (by rw [List.length_map]; omega), List.length_map, List.getElem?_replicate, if_pos (by rw [List.length_replicate] at hr; omega)]
        exact ⟨none, rfl, trivial⟩
      · cases e
theorem env_ds {K : PySem.W.Frag} {w : Wd} {vs : List V} {ds : List D} (r : Reps K w vs ds) : EnvR K w (vs.map some) (ds.map .d) where
  len := by rw [List.length_map, List.length_map, r.length]
  en := fun i y e => by
    rw [List.getElem?_map] at e
    obtain ⟨d, h1, h2⟩ := Option.map_eq_some_iff.mp e
    obtain ⟨v, h3, h4⟩ := r.get h1
    subst h2
    exact ⟨some v, by rw [List.getElem?_map, h3]; rfl, v, rfl, h4⟩
/-- a def without a change of its arguments -/
theorem Calls.mk {P : Program} {wd : World} {K : PySem.W.Frag} {mg : Str → Option Value} {base : Heap} {n : Str} {k : Nat} {F : List D → (D → Prop) → Prop} {N ps : List Str} {st : Stmt} {f : Addr} {fd : FuncData}
    (FD : FunD K n n (defArgs st) (defBody st) (defScope st) [] [] f fd) (S : FnScope N ps (defScope st)) (hm : mg n = some (.ref f))
    (hb : ∀ (kV doc pm : Value) (an : Option Addr) (cdv ct : Value) (us : List Value), us.length = ps.length → bindArgs (PySem.W.fnOf n n (defArgs st) (defBody st) (defScope st) .none kV doc pm an cdv ct) ⟨us, []⟩ = pure (ps.zip us))
    (len : ∀ ds P, F ds P → ds.length = ps.length)
    (body : ∀ (cdv : Value) (A : Around) (outer : List PySem.Env) (s : Shared) (H : Hp) (E : XK), Room k (A.deeper (envOfC n (defScope st) s.heap.objs.size f cdv)) → ∀ ds Pd, F ds Pd →
      SB (cxOf CX0 P wd K mg base N n (defScope st) f cdv A outer s H E).nox (start0 N (ds.map .d)) [] (defBody st) { nx := fun _ _ => Pd .non, rt := fun d _ => Pd d }) : Calls P wd K mg base (k + 1) n F := by
  refine ⟨f, fd, ps, hm, FD.kp, FD.bindsN hb, FD.ok S (fun vs H Q E h => ?_) (fun cdv A outer s H vs Q E hr h => ⟨_, PSs.nox pss_sem, ?_⟩)⟩
  · obtain ⟨S', ds, Pd, _, r, hF, _⟩ := h
    rw [r.length]
    exact len ds Pd hF
  · obtain ⟨S', ds, Pd, sok, r, hF, q⟩ := h
    refine body cdv A outer s H E hr ds Pd hF ⟨S', [], H⟩ _ _ (fun _ _ _ _ => False) ⟨⟨sok, rfl, List.nodup_nil, fun a h => (nomatch h), fun i a o h => by cases h⟩, env_start (env_ds r)⟩ takes0 ⟨fun w' σ ρ s' l rl h => ?_, fun w' s' v d l x r h => ?_, fun w' σ ρ s' l rl h => h, fun w' σ ρ s' l rl h => h, fun w' σ ρ s' l rl h => h⟩
    · exact q .non .non w'.H (fun a o h => l.keep a o List.not_mem_nil h) .non h
    · rw [l.S] at r
      exact q v d w'.H (fun a o h => l.keep a o List.not_mem_nil h) r h
/-! ## Over tuples: enumerate, zip, sum, min, sorted -/
theorem mk_enumT {v : Value} {ob : Obj} {G : Heap → Prop} (B : Begins v ob G) :
    Meets (Builtin.«enumerate.__new__» ⟨[.type "enumerate", v], []⟩) (fun _ R z => G z.heap ∧
      R (.ok (.ret (.ref (z.heap.push ob).objs.size))) { z with heap := (z.heap.push ob).push { cls := .type "enumerate", data := .fields #[.none, .bool false, .ref z.heap.objs.size, rawInt 0, .none, .none] } }) :=
  .of_wp fun P wd A R z hz => by
    obtain ⟨hp, g, d, tk, os⟩ := z
    obtain ⟨h1, hz⟩ := hz
    have hsub := sub_enumerate
    have q1 : ∀ {A2 : Around} {E2 : Value → Shared → Prop} {Q2 : Value → Shared → Prop}, Q2 (.ref hp.objs.size) ⟨hp.push ob, g, d, tk, os⟩ → wpAny (model P wd) A2 (pyIter v) Q2 E2 ⟨hp, g, d, tk, os⟩ :=
      fun q => B.iter P wd _ _ ⟨hp, g, d, tk, os⟩ _ h1 q
    wp_walk using q1
    refine wpAny_stack_any fun w3 => wpAny_pure ?_
    split
    · rename_i cc _ _ _ _ _
      cases (cc == Value.type "enumerate") <;> (wp_walk using q1; exact ⟨_, rfl, hz⟩)
    · wp_walk using q1
      exact ⟨_, rfl, hz⟩
section
variable {P : Program} {wd : World} {A : Around} {E : Value → Shared → Prop} {z : Shared}
theorem call_enumT {l : Addr} {its : Array Value} {Q : Value → Shared → Prop} (hL : z.heap.IsTuple l its)
    (h : ∀ h2, IsEnum h2 (z.heap.objs.size + 1) z.heap.objs.size 0 .none → h2.IsTupleIter z.heap.objs.size l 0 → (∀ b o, z.heap.get? b = some o → h2.get? b = some o) → Q (.ref (z.heap.objs.size + 1)) { z with heap := h2 }) :
    wpAny (model P wd) A (call (.type "enumerate") [.ref l]) Q E z := by
  refine callType_new F.called_enumerate (by decide) (F.typeCall_enumerate_1 _) (F.newCall_enumerate_1 _) (fun ob => F.args_object_init_2 ob _) F.entry_enumerate_new
    (mk_enumT (begins_tuple l its)) ⟨hL, ?_⟩
  have hz : (z.heap.push { cls := .type "tuple_iterator", data := .fields #[.ref l, .int 0 0] }).objs.size = z.heap.objs.size + 1 := Heap.size_push ..
  show _ ∧ _
  rw [hz]
  have he : IsEnum ((z.heap.push { cls := .type "tuple_iterator", data := .fields #[.ref l, .int 0 0] }).push
      { cls := .type "enumerate", data := .fields #[.none, .bool false, .ref z.heap.objs.size, rawInt 0, .none, .none] }) (z.heap.objs.size + 1) z.heap.objs.size 0 .none := by
    have q := Heap.get?_push_size (z.heap.push { cls := .type "tuple_iterator", data := .fields #[.ref l, .int 0 0] })
      (o := { cls := .type "enumerate", data := .fields #[.none, .bool false, .ref z.heap.objs.size, rawInt 0, .none, .none] }) rfl
    rw [hz] at q
    exact q
  exact ⟨⟨_, he, rfl⟩, h _ he ⟨_, Heap.get?_push_of_some _ (Heap.get?_push_size _ rfl), rfl, rfl⟩ fun b o x => Heap.get?_push_of_some _ (Heap.get?_push_of_some _ x)⟩
end

section
open RZ
/-- the tuple at a, each item in a new pair -/
def IteT (K : PySem.W.Frag) (a : Addr) : It :=
  ⟨fun i H => ∃ (xs : List V) (x : V), SqT K H a xs ∧ xs[i]? = some x, fun i H v H' => ∃ T x, v = .ref T ∧ H T = none ∧ H' = upd H T (.tup [.int (i : Nat), x]) ∧ ∀ xs, SqT K H a xs → xs[i]? = some x, fun i H => ∃ xs : List V, SqT K H a xs ∧ xs.length = i⟩
theorem turn_enumT {P : Program} {w : World} {K : PySem.W.Frag} {elts : List Expr} {kk : Nat} {tpos : Pos} (a e it : Addr) (hai : a ≠ it) (hae : a ≠ e) :
    Turn P w K (.Tuple elts kk tpos) (IteT K a) [e, it] e (fun i h => (∃ old, IsEnum h e it ((i : Nat) : Int) old) ∧ h.IsTupleIter it a i ∧ e ≠ it) where
  mem := List.mem_cons_self
  obj := fun i h st b hb => by
    obtain ⟨⟨old, he⟩, ⟨ob, h1, h2, h3⟩, _⟩ := st
    have cs : b = e ∨ b = it := by simpa using hb
    rcases cs with rfl | rfl
    · exact ⟨_, he, fun v q => nomatch q⟩
    · exact ⟨ob, h1, fun v q => by rw [h3] at q; cases q⟩
  keep := fun i h h' st k => by
    obtain ⟨⟨old, he⟩, hi, hne⟩ := st
    exact ⟨⟨old, k e (by simp) _ he⟩, hi.at fun ob q => k it (by simp) ob q, hne⟩
  item := by
    intro X hP hw hK hc i pins s σ H E I hf st hg
    subst hP hw hK
    obtain ⟨⟨old, he⟩, hit, hne⟩ := st
    obtain ⟨xs, x, hq, hx⟩ := hg
    obtain ⟨its, rv, p, hz⟩ := I.tuple hq
    obtain ⟨u, hu, ru⟩ := rv.get hx
    have hel : e < s.heap.objs.size := Heap.lt_size he
    have hil : it < s.heap.objs.size := by obtain ⟨_, q, _⟩ := hit; exact Heap.lt_size q
    have hlt : i < its.toArray.size := by
      have := (List.getElem?_eq_some_iff.mp hu).1
      simpa using this
    have hh : X.A.in1.handled = none := I.ok.hd hc
    refine wpAny_pyNext_enum_itemC (Draws.tuple hh it a hai its.toArray) he ⟨hit, p⟩ hlt hne (by simp [hne, Ne.symm hae]) fun u2 h' tk hP ho hit2 hT hsz hk => ?_
    have eu : u2 = u := by
      have hP' : its.toArray[i]? = some u2 := hP
      have : its[i]? = some u2 := by simpa using hP'
      rw [hu] at this
      exact (Option.some.inj this).symm
    subst eu
    obtain ⟨hit', _⟩ := hit2
    refine ⟨_, rfl, wpAny_letOwnedTupleGo_enum (s := { s with heap := h', toks := tk + 1 }) ho fun h'' he' sb => ?_⟩
    have hT2 : h''.get? s.heap.objs.size = some { cls := .type "tuple", data := .seq #[.int i tk, u2] } := (sb.2 _ (Nat.ne_of_gt hel)).trans hT
    have new : ObjOk X.prog X.w (upd H s.heap.objs.size (.tup [.int (i : Nat), x])) h'' s.heap.objs.size (.tup [.int (i : Nat), x]) :=
      ⟨show 2 ≤ sizeLine by decide, [.int i tk, u2], .cons ⟨_, rfl⟩ (.cons ru .nil), ⟨_, hT2, rfl, _, rfl⟩⟩
    have I1 : Inv X pins σ (upd H s.heap.objs.size (.tup [.int (i : Nat), x])) { s with heap := h'', toks := tk + 1 } :=
      I.turnedNew (ch := [e, it]) (fun b ob hb q => (sb.2 b fun z => hb (by simp [z])).trans (hk b ob (fun z => hb (by simp [z])) (fun z => hb (by simp [z])) q)) hf (Nat.le_refl _) new
    refine ⟨.ref s.heap.objs.size, _, I1, rfl, ⟨_, x, rfl, I.hok.fresh (Nat.le_refl _), rfl, fun ys hy => by rw [I.tuple_inj hy hq]; exact hx⟩, ⟨⟨u2, ?_⟩, hit'.at fun ob q => (sb.2 it (Ne.symm hne)).trans q, hne⟩, fun b hb => ?_⟩
    · rw [Int.natCast_succ]; exact he'
    · have hb' : b < s.heap.objs.size := by
        have cs : b = e ∨ b = it := by simpa using hb
        rcases cs with rfl | rfl
        · exact hel
        · exact hil
      rw [upd_ne (Nat.ne_of_lt hb')]
      exact (hf b hb).1
  done := by
    intro X hP hw hK hc i pins s σ H E I hf st hg
    subst hP hw hK
    obtain ⟨⟨old, he⟩, hit, hne⟩ := st
    obtain ⟨xs, hq, hx⟩ := hg
    obtain ⟨its, rv, p, hz⟩ := I.tuple hq
    obtain ⟨f0, f1, f2, f3, f4, f5⟩ := hf it (by simp)
    have hl := rv.length
    have hh : X.A.in1.handled = none := I.ok.hd hc
    have en : its.toArray.size = i := by simp; omega
    refine wpAny_pyNext_enum_endD (Draws.tuple hh it a hai its.toArray) he (by rw [en]; exact ⟨hit, p⟩) fun h' eb => ⟨rfl, I.turned (t' := s.toks) (fun b o hb q => eb b o hb q) f0 f1 f3 f4 f5⟩
  self := fun A i s Q E st h => by
    obtain ⟨⟨old, he⟩, _⟩ := st
    exact wpAny_pyIter_enum he h

def iEnumT (K : PySem.W.Frag) (ta : TA) : TI := fun σ H R => ta σ H fun vs H1 => ∃ a xs, vs = [.ref a] ∧ SqT K H1 a xs ∧ R (IteT K a) H1
theorem pi_enumT {X : Cx} {e : Expr} {ta : TA} {p pos tpos : Pos} {elts : List Expr} {kk : Nat} (gl : Gl X "enumerate") (hm : X.mg "enumerate" = none) (ha : PA X [e] ta) (hs : starEach [e] X.env = [(false, eval e X.env)] := by rfl) :
    PI X (.Tuple elts kk tpos) (.Call (.Name "enumerate" p) [e] [] pos) (iEnumT X.K ta) := by
  refine ⟨fun pins s σ H R I h => ?_⟩
  refine Call_ (ld_blt I gl hm PyProof.Rows.boot_enumerate (PyProof.Rows.callWith_type1 (thn (ha.run pos pins s σ H _ I h) fun us s1 ⟨vs, H1, I1, r1, q1⟩ => ?_) hs rfl))
  obtain ⟨a, xs, ex, hq, q⟩ := q1
  subst ex
  rw [Vals.ref1 r1]
  obtain ⟨its, rv, p', hz⟩ := I1.tuple hq
  have hal : a < s1.heap.objs.size := by
    obtain ⟨ob, ho, _⟩ := id p'
    exact Heap.lt_size ho
  refine call_enumT p' fun h' he hit hk => wpAny_pyIter_enum he ?_
  refine ⟨s1.heap.objs.size + 1, [s1.heap.objs.size + 1, s1.heap.objs.size], _, _, H1, rfl, I1.kept (t' := s1.toks) hk, turn_enumT a (s1.heap.objs.size + 1) s1.heap.objs.size (Nat.ne_of_lt hal) (Nat.ne_of_lt (Nat.lt_succ_of_lt hal)), ⟨⟨.none, he⟩, hit, Nat.succ_ne_self _⟩, fun b hb => ?_, q⟩
  have hle : s1.heap.objs.size ≤ b := by
    have cs : b = s1.heap.objs.size + 1 ∨ b = s1.heap.objs.size := by simpa using hb
    rcases cs with z | z
    · rw [z]; exact Nat.le_succ _
    · rw [z]; exact Nat.le_refl _
  exact I1.fpOk hle (I1.hok.fresh hle)
def enums (n : Nat) : List D → List D
  | [] => []
  | d :: ds => .tup [.int (n : Int), d] :: enums (n + 1) ds
theorem enums_len : ∀ (ds : List D) (n : Nat), (enums n ds).length = ds.length
  | [], _ => rfl
  | _ :: ds, n => congrArg (· + 1) (enums_len ds (n + 1))
theorem enums_get : ∀ (ds : List D) (n i : Nat) (d : D), (enums n ds)[i]? = some d → ∃ x, ds[i]? = some x ∧ d = .tup [.int ((n + i : Nat) : Int), x]
  | [], _, _, _, h => nomatch h
  | x :: ds, n, 0, d, h => ⟨x, rfl, (Option.some.inj h).symm⟩
  | x :: ds, n, i + 1, d, h => by
    obtain ⟨y, h1, h2⟩ := enums_get ds (n + 1) i d (by simpa [enums] using h)
    exact ⟨y, by simpa using h1, by rw [h2]; congr 4; omega⟩
variable {X : Cx} {ρ : List Sl} {s : List MO} {e a b : Expr} {p pos tpos : Pos} {elts : List Expr} {kk : Nat}
theorem es_enumT {ds : List D} (T : Tops X.K X.mg) (h : EV X ρ s e (.tup ds)) (hg : Gl X "enumerate" := by rfl) (hs : starEach [e] X.env = [(false, eval e X.env)] := by rfl) : ES X ρ s (.Tuple elts kk tpos) (.Call (.Name "enumerate" p) [e] [] pos) (enums 0 ds) :=
  ⟨_, pi_enumT hg T.enumerate (pa_cons pe_sem pa_nil hs) hs, fun w σ rl R q => h w σ rl _ fun v H' e1 r => by
    cases r with
    | @tup pp vs _ f g =>
      refine ⟨pp, vs, rfl, SqT.of f.2.2, q _ H' e1 ⟨fun w' s' l xx => ?_, fun w' s' l xx i d hd => ?_⟩⟩
      · have f' := l.fz f
        exact ⟨vs, SqT.of f'.2.2, by rw [g.length, enums_len]⟩
      · have f' := l.fz f
        obtain ⟨x, h1, h2⟩ := enums_get ds 0 i d hd
        obtain ⟨v, h3, h4⟩ := (g.mono l).get h1
        refine ⟨⟨vs, v, SqT.of f'.2.2, h3⟩, fun v' H2 ⟨T, y, e2, e3, e4, e5⟩ => ?_⟩
        subst e2 e4 h2
        have e6 := e5 vs (SqT.of f'.2.2)
        rw [h3] at e6
        cases e6
        rw [Nat.zero_add]
        exact ⟨same_upd e3, xx.newTup e3 (.cons (.int _) (.cons h4 .nil))⟩⟩
def zips : List D → List D → List D
  | a :: as, b :: bs => .tup [a, b] :: zips as bs
  | _, _ => []
theorem zips_len : ∀ (as bs : List D), as.length = bs.length → (zips as bs).length = as.length
  | [], _, _ => rfl
  | _ :: _, [], h => nomatch h
  | _ :: as, _ :: bs, h => congrArg (· + 1) (zips_len as bs (Nat.succ.inj h))
theorem zips_get : ∀ (as bs : List D) (i : Nat) (d : D), (zips as bs)[i]? = some d → ∃ x y, as[i]? = some x ∧ bs[i]? = some y ∧ d = .tup [x, y]
  | [], _, _, _, h => nomatch h
  | _ :: _, [], _, _, h => nomatch h
  | x :: as, y :: bs, 0, d, h => ⟨x, y, rfl, rfl, (Option.some.inj h).symm⟩
  | _ :: as, _ :: bs, i + 1, d, h => zips_get as bs i d h
theorem es_zipT {xs ys : List D} (T : Tops X.K X.mg) (ha : EV X ρ s a (.tup xs)) (hb : EV X ρ s b (.tup ys)) (hl : xs.length = ys.length) (hg : Gl X "zip" := by rfl)
    (h1 : starEach [a, b] X.env = (false, eval a X.env) :: starEach [b] X.env := by rfl) (h3 : starEach [b] X.env = (false, eval b X.env) :: starEach [] X.env := by rfl) (h2 : (backTo pos (starEach [b] X.env)).any (·.1) = false := by rfl) :
    ES X ρ s (.Tuple elts kk tpos) (.Call (.Name "zip" p) [a, b] [] pos) (zips xs ys) :=
  ⟨_, pi_zipA hg T.zip (pa_cons pe_sem (pa_cons pe_sem pa_nil h3) h1) h1 h2, fun w σ rl R q => ha w σ rl _ fun v H1 e1 r => hb (w.to H1) σ (rl.same e1) _ fun u H2 e2 r2 => by
    have r1 := r.same e2
    cases r1 with
    | @tup pa vs _ f g =>
      cases r2 with
      | @tup pb us _ f2 g2 =>
        refine ⟨pa, pb, vs, us, rfl, .inr ⟨SqT.of f.2.2, SqT.of f2.2.2, q _ H2 (e1.trans e2) ⟨fun w' s' l xx => ?_, fun w' s' l xx i d hd => ?_⟩⟩⟩
        · have f' := l.fz f
          have f2' := l.fz f2
          exact ⟨vs, us, SqT.of f'.2.2, SqT.of f2'.2.2, .inl (by rw [g.length, zips_len _ _ hl]; exact Nat.le_refl _)⟩
        · have f' := l.fz f
          have f2' := l.fz f2
          obtain ⟨x, y, h1, h2, h3⟩ := zips_get xs ys i d hd
          obtain ⟨v, h4, h5⟩ := (g.mono l).get h1
          obtain ⟨v2, h6, h7⟩ := (g2.mono l).get h2
          refine ⟨⟨vs, us, v, v2, SqT.of f'.2.2, SqT.of f2'.2.2, h4, h6⟩, fun v' H2 ⟨T, x', y', e2, e3, e4, e5, e6⟩ => ?_⟩
          subst e2 e4 h3
          have e7 := e5 vs (SqT.of f'.2.2)
          have e8 := e6 us (SqT.of f2'.2.2)
          rw [h4] at e7
          rw [h6] at e8
          cases e7
          cases e8
          exact ⟨same_upd e3, xx.newTup e3 (.cons h5 (.cons h7 .nil))⟩⟩
end
/-! ### sum, min of a tuple; sorted of tuples of ints -/
section
variable {P : Program} {wd : World} {A : Around} {E : Value → Shared → Prop} {z : Shared} {t : Addr} {its : List Value} {ns : List Int} {Q : Value → Shared → Prop}
theorem raw_sumT (hh : A.handled = none) (hl : z.heap.IsTuple t its.toArray) (hi : IntsAre its ns)
    (h : ∀ h2 tk u, (∀ b o, z.heap.get? b = some o → h2.get? b = some o) → Q (.int ns.sum u) { z with heap := h2, toks := tk }) : wpAny (model P wd) A (call (.builtin "sum") [.ref t]) Q E z := by
  obtain ⟨xs, e⟩ := hi.allInts.items
  have hn : numsOf (intItems xs).toList = ns := by rw [← e]; exact hi.numsOf
  rw [nums_intItems] at hn
  rw [e] at hl
  refine PySem.W.ktm_sumG hh hl fun h2 tk u hk => ?_
  have q := h h2 tk u hk
  rw [preSum_eq, List.take_of_length_le (by simp), hn]
  exact q
theorem raw_minT (hh : A.handled = none) (hl : z.heap.IsTuple t its.toArray) (hi : IntsAre its ns) (hne : 0 < ns.length)
    (h : ∀ h2 tk M u, (∀ b o, z.heap.get? b = some o → h2.get? b = some o) → M ∈ ns → (∀ a, a ∈ ns → M ≤ a) → Q (.int M u) { z with heap := h2, toks := tk }) : wpAny (model P wd) A (call (.builtin "min") [.ref t]) Q E z := by
  obtain ⟨xs, e⟩ := hi.allInts.items
  have hn : numsOf (intItems xs).toList = ns := by rw [← e]; exact hi.numsOf
  rw [nums_intItems] at hn
  subst hn
  rw [e] at hl
  have hsz : 0 < xs.size := by simpa using hne
  obtain ⟨ob, ho, _⟩ := id hl
  have hlt : t < z.heap.objs.size := Heap.lt_size ho
  refine call_min_walk (wpAny_pyIter_tuple hl ?_)
  refine ⟨_, _, _, _, _, _, _, rfl, Walks.tuple (A := A.in1) hh z.heap.objs.size t (Nat.ne_of_lt hlt) (intItems xs), ⟨⟨_, Heap.get?_push_size _ rfl, rfl, rfl⟩, hl.at fun o e => Heap.get?_push_of_some _ e⟩, fun b hb => ?_, by simpa [intItems] using hsz, CmpOf.ints_lt (numAt xs) (fun _ _ => intItems_at), fun v h2 tk hv hk => ?_⟩
  · rcases List.mem_cons.mp hb with rfl | hb
    · exact Heap.lt_size (Heap.get?_push_size _ rfl)
    · obtain rfl := List.mem_singleton.mp hb
      exact Heap.lt_size (Heap.get?_push_of_some _ ho)
  · have hv' : (intItems xs)[argBest (fun i j => decide (numAt xs i < numAt xs j)) (xs.size - 1)]? = some v := by simpa [intItems] using hv
    obtain ⟨u, rfl⟩ := intItems_at hv'
    obtain ⟨h3, h4⟩ := argBest_lt (numAt xs) (xs.size - 1)
    refine h h2 tk _ u (fun b o e => hk b o (fun hm => ?_) (Heap.get?_push_of_some _ e)) ?_ fun a ha => ?_
    · obtain rfl := List.mem_singleton.mp hm
      exact Nat.lt_irrefl _ (Heap.lt_size e)
    · rw [numAt_eq]
      exact PySem.getD_mem (by rw [List.length_map, Array.length_toList]; omega)
    · obtain ⟨j, hj, rfl⟩ := mem_getD ha
      rw [List.length_map, Array.length_toList] at hj
      rw [← numAt_eq]
      exact h4 j (by omega)
end
section
variable {X : Cx} {ρ : List Sl} {s : List MO} {e a b c o : Expr} {pos p : Pos} {d x y : D} {i j : Int}
def rSumT (K : PySem.W.Frag) : List V → Hp → VK → Prop := fun vs H Q => ∃ (a : Addr) (ns : List Int), vs = [V.ref a] ∧ SqT K H a (ns.map V.int) ∧ Q (.int ns.sum) H
theorem cr_sumT (hc : X.calm = true) : CallR X (.builtin "sum") (rSumT X.K) := by
  intro pins z σ H vs us Q I r h
  obtain ⟨a, ns, rfl, hs, q⟩ := h
  obtain ⟨its, rv, hl, _⟩ := I.tuple hs
  rw [Vals.ref1 r]
  exact raw_sumT (I.ok.hd hc) hl rv.ints fun h' tk t' hk => ⟨.int _, H, I.kept hk, ⟨_, rfl⟩, q⟩
def rMinT (K : PySem.W.Frag) : List V → Hp → VK → Prop := fun vs H Q => ∃ (a : Addr) (ns : List Int), vs = [V.ref a] ∧ SqT K H a (ns.map V.int) ∧ 0 < ns.length ∧ ∀ m, m ∈ ns → (∀ y, y ∈ ns → m ≤ y) → Q (.int m) H
theorem cr_minT (hc : X.calm = true) : CallR X (.builtin "min") (rMinT X.K) := by
  intro pins z σ H vs us Q I r h
  obtain ⟨a, ns, rfl, hs, hne, q⟩ := h
  obtain ⟨its, rv, hl, _⟩ := I.tuple hs
  rw [Vals.ref1 r]
  exact raw_minT (I.ok.hd hc) hl rv.ints hne fun h' tk m t' hk h1 h2 => ⟨.int _, H, I.kept hk, ⟨_, rfl⟩, q m h1 h2⟩
theorem ev_sumT {ns : List Int} (T : Tops X.K X.mg) (ha : EV X ρ s a (.tup (ns.map D.int))) (hc : X.calm = true := by rfl) (hg : Gl X "sum" := by rfl) (h1 : starEach [a] X.env = (false, eval a X.env) :: starEach [] X.env := by rfl) (h2 : (backTo pos (starEach [] X.env)).any (·.1) = false := by rfl) :
    EV X ρ s (.Call (.Name "sum" p) [a] [] pos) (.int ns.sum) :=
  eg_bi1 (cr_sumT hc) T.sum PyProof.Rows.boot_sum (er_ ha) (fun w v xx r Q k => by
    obtain ⟨pp, vs, rfl, h1, h2⟩ := r.tup
    cases h2.ints
    exact ⟨pp, ns, rfl, SqT.of h1, k _ w.H (Same.refl _) (.int _)⟩) hg (by decide) (by decide) h1 h2
theorem ev_minT {ns : List Int} {m : Int} (T : Tops X.K X.mg) (ha : EV X ρ s a (.tup (ns.map D.int))) (hm : IsMin m ns) (hc : X.calm = true := by rfl) (hg : Gl X "min" := by rfl) (h1 : starEach [a] X.env = (false, eval a X.env) :: starEach [] X.env := by rfl) (h2 : (backTo pos (starEach [] X.env)).any (·.1) = false := by rfl) :
    EV X ρ s (.Call (.Name "min" p) [a] [] pos) (.int m) :=
  eg_bi1 (cr_minT hc) T.min PyProof.Rows.boot_min (er_ ha) (fun w v xx r Q k => by
    obtain ⟨pp, vs, rfl, h1, h2⟩ := r.tup
    cases h2.ints
    refine ⟨pp, ns, rfl, SqT.of h1, List.length_pos_of_mem hm.1, fun m' h3 h4 => ?_⟩
    have e : m' = m := Int.le_antisymm (h4 m hm.1) (hm.2 m' h3)
    rw [e]
    exact k _ w.H (Same.refl _) (.int _)) hg (by decide) (by decide) h1 h2

/-! lists of ints by the first difference -/
def lxLt : List Int → List Int → Bool
  | [], [] => false
  | [], _ :: _ => true
  | _ :: _, [] => false
  | a :: as, b :: bs => decide (a < b) || (decide (a = b) && lxLt as bs)
def lxLe (a b : List Int) : Bool := !lxLt b a
theorem lx_eq : ∀ (a b : List Int), lxLt a b = false → lxLt b a = false → a = b
  | [], [], _, _ => rfl
  | [], _ :: _, h, _ => nomatch h
  | _ :: _, [], _, h => nomatch h
  | a :: as, b :: bs, h, k => by
    unfold lxLt at h k
    simp only [Bool.or_eq_false_iff, decide_eq_false_iff_not, Bool.and_eq_false_iff] at h k
    have e : a = b := by omega
    subst e
    rw [lx_eq as bs (by simpa using h.2) (by simpa using k.2)]
theorem lx_trans : ∀ (a b c : List Int), lxLe a b = true → lxLe b c = true → lxLe a c = true
  | [], _, c, _, _ => by cases c <;> rfl
  | _ :: _, [], _, h, _ => nomatch h
  | _ :: _, _ :: _, [], _, h => nomatch h
  | a :: as, b :: bs, c :: cs, h, k => by
    have ih := lx_trans as bs cs
    unfold lxLe at *
    unfold lxLt at h k ⊢
    simp only [Bool.not_eq_true', Bool.or_eq_false_iff, decide_eq_false_iff_not, Bool.and_eq_false_iff] at h k ih ⊢
    refine ⟨by omega, ?_⟩
    rcases h.2 with h2 | h2
    · left; omega
    · rcases k.2 with k2 | k2
      · left; omega
      · right; exact ih h2 k2
theorem lx_total : ∀ (a b : List Int), (lxLe a b || lxLe b a) = true
  | [], [] => rfl
  | [], _ :: _ => rfl
  | _ :: _, [] => rfl
  | a :: as, b :: bs => by
    have ih := lx_total as bs
    unfold lxLe at *
    unfold lxLt
    rcases Int.lt_trichotomy a b with h | h | h
    · simp [h, Int.lt_asymm h, Int.ne_of_gt h, Int.ne_of_lt h]
    · subst h
      simpa using ih
    · simp [h, Int.lt_asymm h, Int.ne_of_gt h, Int.ne_of_lt h]
def srt (xs : List (List Int)) : List (List Int) := xs.mergeSort lxLe
theorem srt_perm (xs : List (List Int)) : xs.Perm (srt xs) := (List.mergeSort_perm xs lxLe).symm
theorem srt_pw (xs : List (List Int)) : (srt xs).Pairwise fun a b => lxLe a b = true := List.pairwise_mergeSort lx_trans lx_total xs
theorem lx_key : ∀ {as bs : List Int}, PyProof.Rows.lexLt PyProof.Rows.itemOrd (as.map Sum.inl) (bs.map Sum.inl) = lxLt as bs
  | [], [] => rfl
  | [], _ :: _ => rfl
  | _ :: _, [] => rfl
  | a :: as, b :: bs => by
    have ih := lx_key (as := as) (bs := bs)
    rw [List.map_cons, List.map_cons, PyProof.Rows.lex_cons, ih]
    show (decide (a < b) || (!decide (b < a) && lxLt as bs)) = (decide (a < b) || (decide (a = b) && lxLt as bs))
    rcases Int.lt_trichotomy a b with h | h | h
    · simp [h]
    · subst h; simp
    · simp [h, Int.lt_asymm h, Int.ne_of_gt h]
def sh0 : Nat → Bool := fun _ => false
theorem items0 : ∀ {vs : List Value} {ns : List Int} (i : Nat), IntsAre vs ns → PyProof.Rows.tupItems sh0 i vs = some (ns.map Sum.inl)
  | _, _, _, .nil => rfl
  | _, _, i, .cons n t h1 => by
    show (if sh0 i = true then none else (PyProof.Rows.tupItems sh0 (i + 1) _).map (Sum.inl n :: ·)) = _
    rw [items0 (i + 1) h1]
    rfl
theorem keyI {h : Heap} {v : Value} {ns : List Int} (t : TS.TupInts h v ns) : G.tupKeyC h sh0 v = some (ns.map Sum.inl) := by
  obtain ⟨a, xs, rfl, ⟨o, h1, h2, n, h3⟩, h4⟩ := t
  have e : G.isTupObj h (.ref a) = true := by simp [G.isTupObj, h1, h2]
  unfold G.tupKeyC
  rw [if_pos e]
  simp only [PyProof.Rows.tupKey, h1, h3]
  exact items0 0 h4
theorem tupOfI {h : Heap} {v : Value} {n : Int} {ns : List Int} (t : TS.TupInts h v (n :: ns)) : ∃ f, PyProof.Rows.TupOf h sh0 v f := by
  obtain ⟨a, xs, rfl, ⟨o, h1, h2, m, h3⟩, h4⟩ := t
  cases xs with
  | mk l =>
    cases h4 with
    | cons _ u h5 => exact ⟨.int n u, a, o, _, m, rfl, h1, h2, h3, rfl, fun _ => ⟨n, u, rfl⟩, fun z => nomatch z⟩
theorem tupsOfI {h : Heap} : ∀ {vs : List Value}, (∀ v ∈ vs, ∃ n ns, TS.TupInts h v (n :: ns)) → ∃ fs, PyProof.Rows.TupsOf h sh0 vs fs
  | [], _ => ⟨[], .nil⟩
  | v :: vs, k => by
    obtain ⟨n, ns, t⟩ := k v List.mem_cons_self
    obtain ⟨f, hf⟩ := tupOfI t
    obtain ⟨fs, hfs⟩ := tupsOfI fun u hu => k u (List.mem_cons_of_mem _ hu)
    exact ⟨f :: fs, .cons hf hfs⟩
/-- what sorted leaves -/
theorem out_lx {h : Heap} {vs : List Value} (hv : ∀ v ∈ vs, TS.TupInts h v (TS.intsOf h v)) {xs : Array Keyed} (hp : xs.Perm (pairsOf vs)) (hs : SortedToK (G.tupKindC h sh0) xs (pairsOf vs).size) :
    (xs.map (·.2)).toList.Perm vs ∧ ((xs.map (·.2)).toList.map (TS.intsOf h)) = srt (vs.map (TS.intsOf h)) := by
  have hl : xs.toList.Perm (vs.zip vs) := by
    rw [← pairsOf_toList]
    exact Array.perm_iff_toList_perm.mp hp
  have hm : ∀ q ∈ xs.toList, q.1 = q.2 ∧ q.1 ∈ vs := fun q hq => mem_zip_self (hl.mem_iff.mp hq)
  have h1 : (xs.map (·.2)).toList.Perm vs := by
    have z := hl.map Prod.snd
    rw [List.map_snd_zip (Nat.le_refl _)] at z
    rw [Array.toList_map]
    exact z
  refine ⟨h1, ?_⟩
  refine List.Perm.eq_of_pairwise (le := fun a b => lxLe a b = true) (fun a b _ _ p q => ?_) ?_ (srt_pw _) ((h1.map _).trans (srt_perm _))
  · unfold lxLe at p q
    rw [Bool.not_eq_true'] at p q
    exact lx_eq a b q p
  · rw [List.pairwise_map, List.pairwise_iff_getElem]
    intro i j hi hj hij
    have hsz : (xs.map (·.2)).toList.length = xs.size := by simp
    have hsz2 : xs.size = (pairsOf vs).size := hp.size_eq
    have hi' : i < xs.size := by rw [← hsz]; exact hi
    have hj' : j < xs.size := by rw [← hsz]; exact hj
    have k := hs i j (Nat.le_of_lt hij) (by rw [← hsz2]; exact hj')
    have gk : ∀ (i : Nat) (hi : i < xs.size), KK (G.tupKindC h sh0) xs i = (TS.intsOf h (xs[i].2)).map Sum.inl := fun i hi => by
      obtain ⟨e1, e2⟩ := hm xs[i] (by simp)
      unfold KK
      rw [Array.getElem?_eq_getElem hi]
      show (G.tupKeyC h sh0 (xs[i].1)).getD [] = _
      rw [keyI (hv _ e2), ← e1]
      rfl
    rw [gk i hi', gk j hj'] at k
    have k' : PyProof.Rows.lexLt PyProof.Rows.itemOrd ((TS.intsOf h (xs[j].2)).map Sum.inl) ((TS.intsOf h (xs[i].2)).map Sum.inl) = false := k
    rw [lx_key] at k'
    unfold lxLe
    have ei : (xs.map (·.2)).toList[i] = xs[i].2 := by simp
    have ej : (xs.map (·.2)).toList[j] = xs[j].2 := by simp
    rw [ei, ej, k']
    rfl
def rSortI (K : PySem.W.Frag) : List V → Hp → VK → Prop := fun vs H Q => ∃ (a : Addr) (xs : List V) (nss : List (List Int)), vs = [V.ref a] ∧ SqL K H a xs ∧ xs.length = nss.length ∧ (∀ (i : Nat) x ns, xs[i]? = some x → nss[i]? = some ns → ns ≠ [] ∧ TupI K H x ns) ∧
  ∀ (ps : List (V × List Int)) (p : Addr), ps.Perm (xs.zip nss) → ps.map (·.2) = srt nss → H p = none → Q (.ref p) (upd H p (.lst (ps.map (·.1))))
theorem cr_sortI : CallR X (.builtin "sorted") (rSortI X.K) := by
  intro pins s σ H vs us Q I r h
  obtain ⟨a, xs, nss, rfl, hs, hl, hx, q⟩ := h
  obtain ⟨its, rv, hL, hz⟩ := I.list hs
  rw [Vals.ref1 r]
  have hT : ∀ (i : Nat) x ns, xs[i]? = some x → nss[i]? = some ns → ∃ u, its[i]? = some u ∧ x = bkV u ∧ (∃ t, u = .ref t) ∧ ns ≠ [] ∧ TS.TupInts s.heap u ns := fun i x ns h1 h2 => by
    obtain ⟨h3, t, e, h4⟩ := hx i x ns h1 h2
    obtain ⟨u, h5, h6⟩ := rv.get h1
    subst e
    cases h6
    exact ⟨.ref t, h5, rfl, ⟨t, rfl⟩, h3, tupI_raw I h4⟩
  have hlen := rv.length
  have hall : ∀ u ∈ its, (∃ t, u = .ref t) ∧ (∃ n ns, TS.TupInts s.heap u (n :: ns)) ∧ TS.TupInts s.heap u (TS.intsOf s.heap u) := fun u hu => by
    obtain ⟨i, hi⟩ := List.getElem?_of_mem hu
    have hlt : i < its.length := (List.getElem?_eq_some_iff.mp hi).1
    obtain ⟨x, h1⟩ : ∃ x, xs[i]? = some x := ⟨xs[i]'(by omega), by simp⟩
    obtain ⟨ns, h2⟩ : ∃ ns, nss[i]? = some ns := ⟨nss[i]'(by omega), by simp⟩
    obtain ⟨u', h3, h4, h5, h6, h7⟩ := hT i x ns h1 h2
    rw [hi] at h3
    cases h3
    refine ⟨h5, ?_, by rw [h7.ints]; exact h7⟩
    cases ns with
    | nil => exact absurd rfl h6
    | cons n ns => exact ⟨n, ns, h7⟩
  have hpair : xs.zip nss = its.map fun u => (bkV u, TS.intsOf s.heap u) := by
    apply List.ext_getElem?
    intro i
    by_cases hi : i < xs.length
    · obtain ⟨x, h1⟩ : ∃ x, xs[i]? = some x := ⟨xs[i], by simp [hi]⟩
      obtain ⟨ns, h2⟩ : ∃ ns, nss[i]? = some ns := ⟨nss[i]'(by omega), by simp⟩
      obtain ⟨u', h3, h4, h5, h6, h7⟩ := hT i x ns h1 h2
      rw [List.getElem?_map, h3, (List.getElem?_zip_eq_some (z := (x, ns))).mpr ⟨h1, h2⟩, h4, ← h7.ints]
      rfl
    · rw [List.getElem?_eq_none (by rw [List.length_zip]; omega), List.getElem?_eq_none (by rw [List.length_map]; omega)]
  obtain ⟨fs, hfs⟩ := tupsOfI fun u hu => (hall u hu).2.1
  refine G.sorted_tups hL.isList hfs (fun u hu => ⟨_, keyI (hall u hu).2.2⟩) (by rw [← hlen]; exact hz) fun st h1 h2 _ => ?_
  obtain ⟨g1, g2⟩ := out_lx (fun u hu => (hall u hu).2.2) h1 h2
  generalize (arrOf st).map (·.2) = out at g1 g2 ⊢
  obtain ⟨ep, he'⟩ := PyProof.Rows.sortedAll_at s.heap its out
  have h3 : ∀ u ∈ out.toList, ∃ a, u = Value.ref a := fun u hu => (hall u (g1.mem_iff.mp hu)).1
  have hln : (out.toList.map bkV).length ≤ sizeLine := by
    rw [List.length_map, g1.length_eq, ← hlen]
    exact hz
  have eo : (out.toList.map fun u => (bkV u, TS.intsOf s.heap u)).map (·.1) = out.toList.map bkV := by rw [List.map_map]; rfl
  have es : nss = its.map (TS.intsOf s.heap) := by
    have z := congrArg (List.map Prod.snd) hpair
    rw [List.map_snd_zip (by omega), List.map_map] at z
    exact z
  refine ⟨.ref _, upd H (s.heap.objs.size + 1) (.lst (out.toList.map bkV)), I.laid (t' := s.toks) (fun _ _ => PyProof.Rows.sortedAll_old) (Nat.le_succ _) ⟨hln, out.toList, ep, bkV_vals h3, he'⟩, rfl, ?_⟩
  rw [← eo]
  refine q _ _ ?_ ?_ (I.hok.fresh (Nat.le_succ _))
  · rw [hpair]
    exact g1.map _
  · rw [List.map_map, es, ← g2]
    rfl
abbrev tupI (ns : List Int) : D := .tup (ns.map D.int)
/-- sorted of tuples of ints -/
theorem en_sortI {nss : List (List Int)} (T : Tops X.K X.mg) (ha : ER X ρ s a (.lst (nss.map tupI))) (hn : ∀ ns ∈ nss, ns ≠ []) (hg : Gl X "sorted" := by rfl) (h1 : starEach [a] X.env = (false, eval a X.env) :: starEach [] X.env := by rfl) (h2 : (backTo pos (starEach [] X.env)).any (·.1) = false := by rfl) :
    EN X ρ s (.Call (.Name "sorted" p) [a] [] pos) ((srt nss).map tupI) :=
  en_bi1 cr_sortI T.sorted PyProof.Rows.boot_sorted ha (fun w v xx r Q k => by
    obtain ⟨pp, vs, rfl, h1, h2⟩ := r.lst xx
    have hl := h2.length
    rw [List.length_map] at hl
    refine ⟨pp, vs, nss, rfl, SqL.of h1, hl, fun i x ns q1 q2 => ⟨hn ns (List.mem_of_getElem? q2), ?_⟩, fun ps p3 g1 g2 g3 => k p3 _ _ g3 (same_upd g3) upd_same ?_⟩
    · obtain ⟨d, q3, q4⟩ := h2.getV q1
      rw [List.getElem?_map, q2] at q3
      cases q3
      cases q4 with
      | tup f g =>
        cases g.ints
        exact ⟨_, rfl, SqT.of f.2.2⟩
    · refine Reps.av ?_ g3
      rw [← g2, List.map_map]
      have hall : ∀ q ∈ ps, Rep X.K w q.1 (tupI q.2) := fun q hq => by
        obtain ⟨i, hi⟩ := List.getElem?_of_mem (g1.mem_iff.mp hq)
        obtain ⟨q1, q2⟩ := List.getElem?_zip_eq_some.mp hi
        obtain ⟨d, q3, q4⟩ := h2.getV q1
        rw [List.getElem?_map, q2] at q3
        cases q3
        exact q4
      clear g1 g2
      induction ps with
      | nil => exact .nil
      | cons q ps ih => exact .cons (hall q List.mem_cons_self) (ih fun u hu => hall u (List.mem_cons_of_mem _ hu))) hg (by decide) (by decide) h1 h2
end
/-! ### tuple * int, none, once or more often -/
theorem tmul1 (l : Addr) (items : Array Value) (n : Nat) (dd : Option Addr) (sl : Array (Option Value)) (u : Tok) :
    Meets (Builtin.«tuple.__mul__» ⟨[.ref l, .int 1 u], []⟩) (fun _ R z => z.heap.get? l = some { cls := .type "tuple", dict := dd, data := .seq items n, slots := sl } ∧ R (.ok (.ret (Value.ref l))) z) :=
  .of_wp fun P wd A R z h => by
    obtain ⟨hp, g, d, tk, os⟩ := z
    obtain ⟨hl, h⟩ := h
    have f1 := AutoSeq1.idx_int
    have e1 : (items.isEmpty || (1 : Int) == 1) = true := by simp
    wp_walk using wpAny_loadPart' hl
    exact ⟨_, rfl, h⟩
theorem tmul0 (l : Addr) (items : Array Value) (n : Nat) (dd : Option Addr) (sl : Array (Option Value)) (u : Tok) (hi : items.isEmpty = false) :
    Meets (Builtin.«tuple.__mul__» ⟨[.ref l, .int 0 u], []⟩) (fun _ R z => z.heap.get? l = some { cls := .type "tuple", dict := dd, data := .seq items n, slots := sl } ∧ R (.ok (.ret (Value.ref z.heap.objs.size))) { z with heap := z.heap.push { cls := Value.type "tuple", data := Data.seq #[] } }) :=
  .of_wp fun P wd A R z h => by
    obtain ⟨hp, g, d, tk, os⟩ := z
    obtain ⟨hl, h⟩ := h
    have f1 := AutoSeq1.idx_int
    have c1 : (items.isEmpty || (0 : Int) == 1) = false := by rw [hi]; rfl
    wp_walk using wpAny_loadPart' hl
    repeat (first
      | (refine wpAny_ite_false (decide_eq_false (by rw [c1]; exact Bool.false_ne_true)) ?_; wp_walk using wpAny_loadPart' hl))
    exact ⟨_, rfl, h⟩
section
variable {X : Cx} {ρ : List Sl} {s : List MO} {a b : Expr} {pos : Pos} {i : Int}
def rRepA (K : PySem.W.Frag) : R2 := fun x y H Q => ∃ l k xs, x = .ref l ∧ y = .int k ∧ SqT K H l xs ∧ xs ≠ [] ∧ 0 ≤ k ∧ k ≤ 1000 ∧ xs.length ≤ 1000 ∧ (k = 1 → Q (.ref l) H) ∧
  (k ≠ 1 → ∀ p, H p = none → Q (.ref p) (upd H p (.tup (List.replicate k.toNat xs).flatten)))
theorem op_repA : OpR X (binaryOp .Mult) (rRepA X.K) := by
  intro pins z σ H x y v u Q I rx ry h
  obtain ⟨l, k, xs, rfl, rfl, hT, hne, h1, h2, hz, q1, q⟩ := h
  by_cases hk2 : 2 ≤ k
  · exact op_repT pins z σ H _ _ v u Q I rx ry ⟨l, k, xs, rfl, rfl, hT, hne, hk2, h2, hz, q (by omega)⟩
  cases rx
  obtain ⟨t, rfl⟩ := ry
  obtain ⟨its, r, ⟨⟨cls, dd, data, sl⟩, ho, hc, n, hd⟩, hs⟩ := I.tuple hT
  simp only at hc hd
  subst hc hd
  have hn : its.toArray.isEmpty = false := by
    cases its with
    | nil => cases r; exact absurd rfl hne
    | cons a b => rfl
  refine wpAny_binaryOp_repeat_ref (T := "tuple") (U := "int") (by decide) ⟨_, ho, rfl⟩ (fun s' => typeIs_int s' k t) noFill_tuple_mul F.fills_int_mul F.slot_int_rmul repeat_tuple F.slot_int_index.lookup
    (call_meets F.slot_int_rmul (typeIs_int z k t) F.entry_int_rmul (F.args_int_rmul_2 _ _) (int_rmul_tuple k t l its.toArray n dd sl) ⟨ho, rfl, ⟨_, ho, rfl⟩, ?_⟩)
  by_cases hk : k = 1
  · subst hk
    exact call_meets F.slot_tuple_mul ⟨_, ho, rfl⟩ F.entry_tuple_mul (F.args_tuple_mul_2 _ _) (tmul1 l its.toArray n dd sl t) ⟨ho, .ref l, H, I, rfl, q1 rfl⟩
  · have hk0 : k = 0 := by omega
    subst hk0
    refine call_meets F.slot_tuple_mul ⟨_, ho, rfl⟩ F.entry_tuple_mul (F.args_tuple_mul_2 _ _) (tmul0 l its.toArray n dd sl t hn) ⟨ho, .ref z.heap.objs.size, _, I.laid (t' := z.toks) (o := .tup []) (fun b ob e => Heap.get?_push_of_some _ e) (Nat.le_refl _) ⟨by decide, [], .nil, IsTup.new _ _⟩, rfl, q (by decide) _ (I.hok.fresh (Nat.le_refl _))⟩
theorem ev_repT {xs : List D} (ha : EV X ρ s a (.tup xs)) (hb : EV X ρ s b (.int i)) (h : xs ≠ [] ∧ 0 ≤ i ∧ i ≤ 1000 ∧ xs.length ≤ 1000) : EV X ρ s (.BinOp a .Mult b pos) (.tup (List.replicate i.toNat xs).flatten) := by
  refine fun w σ rl Q q => sem_of (pe_op op_repA pe_sem pe_sem) (ha w σ rl _ fun v H1 e1 r1 => hb (w.to H1) σ (rl.same e1) _ fun u H2 e2 r2 => ?_)
  have r1' := r1.same e2
  have x2 := rl.sto.same (e1.trans e2)
  cases r2
  cases r1' with
  | @tup p vs ds f g =>
    refine ⟨p, i, vs, rfl, rfl, SqT.of f.2.2, fun z => ?_, h.2.1, h.2.2.1, by rw [g.length]; exact h.2.2.2, fun z => ?_, fun _ p3 h3 => ?_⟩
    · subst z
      cases g
      exact h.1 rfl
    · subst z
      have e : (List.replicate (1 : Int).toNat xs).flatten = xs := by simp
      rw [e] at q
      exact q _ _ (e1.trans e2) (.tup f g)
    · exact q _ _ ((e1.trans e2).trans (same_upd h3)) (x2.newTup h3 (g.rep _))
end
/-! ### try .. except C as n: the error is kept behind the suite -/
section
variable {X : Cx} {pins : List (Addr × Obj)} {σ : L2.St} {H : Hp} {z : Shared}
/-- what lies in the heap, no one's, is kept -/
theorem adopt {a : Addr} {ob : Obj} {vs : Array Value} {cls : Value} (I : Inv X pins σ H z) (h0 : X.s_0.heap.get? a = none) (ha : z.heap.get? a = some ob) (hz : Zc cls none ob) (hd : ob.data = .fields vs) (na : H a = none)
    (nL : a ≠ X.env.locals) (np : ∀ q ∈ X.pn ++ pins, q.1 ≠ a) : Inv X pins σ (upd H a (CxO cls a)) z := by
  have ne : ∀ {b : Addr} {o : Obj}, X.s_0.heap.get? b = some o → b ≠ a := fun e q => by
    rw [q, h0] at e
    cases e
  have nh : ∀ {b : Addr} {o : HO}, H b = some o → b ≠ a := fun e q => by
    rw [q, na] at e
    cases e
  refine ⟨I.ok, I.os, I.bare, ⟨I.base.keep, I.base.slot, fun b o e n hx => ?_, I.base.there, fun b xs e => ?_, fun b o u e => ?_, fun b ps e => ?_⟩, I.loc, I.cell, ?_, fun x c e => ?_, fun q hq => ?_, fun b o e => ?_, I.len⟩
  · rw [upd_ne (ne e)]
    exact I.base.free b o e n hx
  · have e1 := I.base.tups b xs e
    rw [upd_ne (nh e1)]
    exact e1
  · have e1 := I.base.frzs b o u e
    rw [upd_ne (nh e1)]
    exact e1
  · obtain ⟨m, e1⟩ := I.base.tbls b ps e
    exact ⟨m, by rw [upd_ne (nh e1)]; exact e1⟩
  · rw [upd_ne (Ne.symm nL)]
    exact I.free
  · obtain ⟨v, hoc⟩ := I.cell x c e
    have nc : c ≠ a := fun q => by
      subst q
      obtain ⟨oc, e1, e2⟩ := hoc
      rw [ha] at e1
      rw [← Option.some.inj e1, hd] at e2
      cases e2
    rw [upd_ne nc]
    exact I.freeC x c e
  · obtain ⟨k1, k2, k3⟩ := I.pin q hq
    exact ⟨k1, by rw [upd_ne (np q hq)]; exact k2, k3⟩
  · by_cases hb : b = a
    · subst hb
      rw [upd_same] at e
      cases e
      exact ⟨⟨ob, vs, ha, hz, hd⟩, ⟨ob, ha⟩, fun g1 g2 ⟨o1, v1, q1, q2⟩ k => ⟨o1, v1, k o1 q1, q2⟩⟩
    · rw [upd_ne hb] at e
      refine (I.hok b o e).stay (fun c u _ q => q) (fun c q => ?_) fun c xs q => ?_
      · rw [upd_ne (nh q)]; exact q
      · rw [upd_ne (nh q)]; exact q
end
/-- what is wished of an error of the body -/
def wKeep (K : PySem.W.Frag) (c : Value) (i : Nat) (ts : Addr → Value → TS) (D : Ends) : WX := fun cls d σ H =>
  PySem.W.exmOne K cls c = some true ∧ d = none ∧ ∀ a, H a = none → ts a cls { nx := fun σ2 H2 => D.nx (σ2.set i none) (upd H2 a (CxO cls a)), rt := fun _ _ => False, bk := fun _ _ => False, ct := fun _ _ => False } (σ.set i (some (.ref a))) H
section
variable {X : Cx} {x n : Str} {c : Value} {i : Nat} {body suite : List Stmt} {b1 : Stmt} {q1 q2 q3 : Pos} {tb : WX → TS} {ts : Addr → Value → TS}
theorem ps_try_keep (hs : X.stack = X.env :: X.outer) (hf : X.env.frame = some X.env.locals) (hxe : X.ex = []) (nd : X.N.Nodup) (hi : X.N[i]? = some n) (hln : X.env.kindOf n = some .local) (hc : Names X x c)
    (hb : ∀ (W : WX) (pn : List (Addr × Obj)) (xe : Value → Shared → Prop), Takes (X.tr pn xe) W → PassesOwn (model X.prog X.w) X.A X.env xe → PSs (X.tr pn xe) body (tb W))
    (hsu : ∀ (a : Addr) (ob : Obj) (cls : Value) (pn : List (Addr × Obj)), Zc cls none ob → (∃ vs, ob.data = .fields vs) → PSs (X.suite a ((a, ob) :: pn)) (b1 :: suite) (ts a cls)) :
    PS X (.Try body [.ExceptHandler (some (.Name x q1)) (some n) (b1 :: suite) q2] [] [] q3) (fun D σ H => tb (wKeep X.K c i ts D) D σ H) := by
  refine ⟨fun pins z σ H D I h => ?_⟩
  have ok := I.ok
  have stk : X.A.frames = some (X.env :: X.outer) := ok.frames.trans (congrArg some hs)
  refine wpAny_Try_except (wpAny_mono ((hb (wKeep X.K c i ts D) (X.pn ++ pins) (fun er g1 => wpAny (model X.prog X.w) X.A (noteFrame er X.env) (fun _ g2 => wpAny (model X.prog X.w) X.A (setFlight er none) (fun _ g3 =>
    wpAny (model X.prog X.w) X.A (handleBy er X.env [.ExceptHandler (some (.Name x q1)) (some n) (b1 :: suite) q2]) (SP X pins D) X.xe g3) X.xe g2) X.xe g1) (fun u z' xx => ?_) PassesOwn.looking).run [] z σ H D (I.toTry _) h) (fun f z1 hz1 => ?_) fun er g1 he => he)
  · obtain ⟨a, G, sI, p2, σ', H', cls, d, rfl, J0, nb, up, sky, na, os, ag, hex, rfl, hyes⟩ := xx
    have J : Inv X pins σ' H' sI := J0.ofTry ok
    rw [show (X.tr (X.pn ++ pins) _).stack = X.env :: X.outer from hs] at sky
    show wpAny (model X.prog X.w) X.A (noteFrame (.ref a) X.env) _ _ _
    refine Sky.land Zc.steady stk hf sky fun h3 f3 up3 => ?_
    have J3 : Inv X pins σ' H' { z' with heap := h3 } := J.landed nb f3.1 (up.trans up3) os ag
    obtain ⟨o3, v3, e3, z3, d3⟩ := f3.there
    have nfr : a ∉ frs (X.env :: X.outer) := fun hm => by
      obtain ⟨_, o', e', hnf⟩ := f3.2.2.1.mem hm
      rw [e3] at e'
      cases e'
      exact hnf _ d3
    have nL : a ≠ X.env.locals := fun q => nfr (List.mem_filterMap.mpr ⟨X.env, List.mem_cons_self, by rw [hf, q]⟩)
    have nF : a ∉ X.fs := fun hm => by
      obtain ⟨en, he, q⟩ := List.mem_filterMap.mp hm
      exact nfr (List.mem_filterMap.mpr ⟨en, List.mem_cons_of_mem _ he, q⟩)
    have nSI : ∀ o, sI.heap.get? a ≠ some o := fun o e => by
      have e1 := nb a o e (by rw [show (X.tr (X.pn ++ pins) _).stack = X.env :: X.outer from hs]; exact nfr)
      rw [f3.2.1] at e1
      cases e1
    have hex0 : X.s_0.heap.get? a = none := by
      cases q : X.s_0.heap.get? a with
      | none => rfl
      | some o =>
        obtain ⟨o', e1⟩ := J.base.there a o q (by rw [hxe]; exact List.not_mem_nil)
        exact absurd e1 (nSI o')
    have npin : ∀ q ∈ X.pn ++ pins, q.1 ≠ a := fun q hq e => nSI q.2 (by rw [← e]; exact (J.pin q hq).1)
    have S3 := J3.suite e3 d3 na nL nF
    refine wpAny_handleBy_cons (codeAny_handlers_test ?_) (by intro q; cases q)
    have lt : PySem.W.Looks (model X.prog X.w) h3 (typeOf (.ref a)) cls := fun A Q E g k q => wpAny_typeOf_ref (k _ _ e3) (by rw [z3.1]; exact q)
    have test : ∀ {Q : Value → Shared → Prop} {E : Value → Shared → Prop}, Q c { z' with heap := h3 } → wpAny (model X.prog X.w) (X.A.mark (some (.ref a))) (eval (.Name x q1) X.env) Q E { z' with heap := h3 } := fun {Q E} q => by
      obtain ⟨hg, hdb, hm | ⟨hm, hv, hnn⟩⟩ := hc
      · exact ld_glob (X := X.suite a ((a, o3) :: (X.pn ++ pins))) S3 hg hm q hdb
      · exact ld_blt (X := X.suite a ((a, o3) :: (X.pn ++ pins))) S3 hg hm hv q hnn hdb
    refine test ((PySem.W.exm_one (M := model X.prog X.w) J3.kIn lt hex).here (codeAny_handlers_suite_as ?_))
    refine HandSPX.lands_againZ f3 fun h4 f4 up4 => ?_
    have J4 : Inv X pins σ' H' { z' with heap := h4 } := J.landed nb f4.1 ((up.trans up3).trans up4) os ag
    obtain ⟨o4, v4, e4, z4, d4⟩ := f4.there
    refine store_ok (X := X.suite a ((a, o4) :: (X.pn ++ pins))) (v := .ref a) (J4.suite e4 d4 na nL nF) nd hi (.inl hln) rfl (fun z5 S5 => ?_) (.inr hln)
    refine wpAny_mono ((hsu a o4 cls (X.pn ++ pins) z4 ⟨_, d4⟩).run [] z5 _ H' _ S5 (hyes a na)) (fun f z6 h6 => ?_) fun _ _ q => q.elim
    cases f with
    | next =>
      obtain ⟨σ6, H6, S6, k6⟩ := h6
      obtain ⟨e6, na6, _⟩ := S6.pin (a, o4) (List.mem_append_left _ List.mem_cons_self)
      refine gone_ok (adopt (S6.unsuite ok) hex0 e6 z4 d4 na6 nL npin) nd hi hln fun z7 J7 => ⟨_, _, J7, k6⟩
    | brk => obtain ⟨_, _, _, k⟩ := h6; exact k.elim
    | cont => obtain ⟨_, _, _, k⟩ := h6; exact k.elim
    | ret u => obtain ⟨_, _, _, _, _, k⟩ := h6; exact k.elim
  · cases f with
    | next =>
      obtain ⟨σ', H', J', q⟩ := hz1
      exact wpAny_execs_nil ⟨σ', H', J'.ofTry ok, q⟩
    | brk => obtain ⟨σ', H', J', q⟩ := hz1; exact ⟨σ', H', J'.ofTry ok, q⟩
    | cont => obtain ⟨σ', H', J', q⟩ := hz1; exact ⟨σ', H', J'.ofTry ok, q⟩
    | ret u => obtain ⟨v, σ', H', J', r, q⟩ := hz1; exact ⟨v, σ', H', J'.ofTry ok, r, q⟩
end
/-! ## Calls that look at, change, or raise -/
mutual
/-- nothing in it can ever change -/
inductive Imm : D → Prop where
  | non : Imm .non
  | bl (b : Bool) : Imm (.bl b)
  | int (i : Int) : Imm (.int i)
  | str (z : Str) : Imm (.str z)
  | tup {ds : List D} : Imms ds → Imm (.tup ds)
  | exc (c : Addr) : Imm (.exc c)
inductive Imms : List D → Prop where
  | nil : Imms []
  | cons {d : D} {ds : List D} : Imm d → Imms ds → Imms (d :: ds)
end
theorem imms_of : ∀ {ds : List D}, (∀ d ∈ ds, Imm d) → Imms ds
  | [], _ => .nil
  | d :: ds, h => .cons (h d List.mem_cons_self) (imms_of fun e he => h e (List.mem_cons_of_mem _ he))
section
variable {K : PySem.W.Frag} {w : Wd} {s : List MO}
theorem Mok.not_tup {a : Addr} {o : MO} {vs : List V} (m : Mok K w a o) (h : w.H a = some (.tup vs)) : False := by
  cases o with
  | lst ds => obtain ⟨us, q, r⟩ := m; rw [h] at q; cases q
  | dk ds => obtain ⟨us, q, r⟩ := m; rw [h] at q; cases q
  | dt ds => obtain ⟨us, q, r⟩ := m; rw [h] at q; cases q
  | wat j => obtain ⟨dx, l, q, r⟩ := m; rw [h] at q; cases q
  | ll js => obtain ⟨bs, q, r⟩ := m; rw [h] at q; cases q
theorem Mok.not_ext {a : Addr} {o : MO} {c : Value} {b : Addr} (m : Mok K w a o) (h : w.H a = some (CxO c b)) : False := by
  cases o with
  | lst ds => obtain ⟨us, q, r⟩ := m; rw [h] at q; cases q
  | dk ds => obtain ⟨us, q, r⟩ := m; rw [h] at q; cases q
  | dt ds => obtain ⟨us, q, r⟩ := m; rw [h] at q; cases q
  | wat j => obtain ⟨dx, l, q, r⟩ := m; rw [h] at q; cases q
  | ll js => obtain ⟨bs, q, r⟩ := m; rw [h] at q; cases q
theorem Sto.at (x : Sto K w s) {a : Addr} (h : a ∈ w.α) : ∃ o, Mok K w a o := by
  obtain ⟨i, hi⟩ := List.getElem?_of_mem h
  have hl : i < s.length := by rw [← x.len]; exact (List.getElem?_eq_some_iff.mp hi).1
  exact ⟨s[i], x.mo i a _ hi (by simp [hl])⟩
mutual
/-- seen as it stood, and unchangeable: it stands -/
theorem Rep.back (x : Sto K w s) : ∀ {d : D}, Imm d → ∀ {v : V}, Rep K ⟨w.S, [], w.H⟩ v d → Rep K w v d
  | _, .non, _, r => by cases r; exact .non
  | _, .bl b, _, r => by cases r; exact .bl b
  | _, .int i, _, r => by cases r; exact .int i
  | _, .str i, _, r => by cases r; exact .str i
  | _, .tup h, _, r => by
    cases r with
    | tup f g =>
      refine .tup ⟨f.1, fun z => ?_, f.2.2⟩ (Reps.back x h g)
      obtain ⟨o, m⟩ := x.at z
      exact m.not_tup f.2.2
  | _, .exc c, _, r => by
    cases r with
    | exc f =>
      refine .exc ⟨f.1, fun z => ?_, f.2.2⟩
      obtain ⟨o, m⟩ := x.at z
      exact m.not_ext f.2.2
theorem Reps.back (x : Sto K w s) : ∀ {ds : List D}, Imms ds → ∀ {vs : List V}, Reps K ⟨w.S, [], w.H⟩ vs ds → Reps K w vs ds
  | _, .nil, _, r => by cases r; exact .nil
  | _, .cons h t, _, r => by
    cases r with
    | cons r1 r2 => exact .cons (Rep.back x h r1) (Reps.back x t r2)
end
theorem RepR.imm (x : Sto K w s) {v : V} {d : D} (r : RepR K w s v d) (h : Imm d) : Rep K w v d := Rep.back x h (r.view x)
end
section
variable {X : Cx} {ρ : List Sl} {s : List MO} {e a b c o : Expr} {pos p apos : Pos} {R : Wd → V → Prop} {d x y : D} {lv : Nat}
/-- arguments that are only looked at -/
inductive RepRs (K : PySem.W.Frag) (w : Wd) (s : List MO) : List V → List D → Prop where
  | nil : RepRs K w s [] []
  | cons {v : V} {d : D} {vs : List V} {ds : List D} : RepR K w s v d → RepRs K w s vs ds → RepRs K w s (v :: vs) (d :: ds)
theorem RepRs.view {K : PySem.W.Frag} {w : Wd} {s : List MO} (x : Sto K w s) : ∀ {vs : List V} {ds : List D}, RepRs K w s vs ds → Reps K ⟨w.S, [], w.H⟩ vs ds
  | _, _, .nil => .nil
  | _, _, .cons r t => .cons (r.view x) (RepRs.view x t)
/-- a thing that a call gives can be none of the store's -/
inductive Lone (s : List MO) : D → Prop where
  | imm {d : D} : Imm d → Lone s d
  | dk {kvs : List (Int × D)} : Imms (kvs.map (·.2)) → (∀ o ∈ s, ∃ ds, o = .lst ds) → Lone s (.dk kvs)
theorem Rep.lone {K : PySem.W.Frag} {w : Wd} {s : List MO} (x : Sto K w s) {v : V} {d : D} (r : Rep K ⟨w.S, [], w.H⟩ v d) (h : Lone s d) : Rep K w v d := by
  cases h with
  | imm h => exact Rep.back x h r
  | dk h1 h2 =>
    cases r with
    | dk f g =>
      refine .dk ⟨f.1, fun z => ?_, f.2.2⟩ (Reps.back x h1 g)
      obtain ⟨i, hi⟩ := List.getElem?_of_mem z
      have hl : i < s.length := by rw [← x.len]; exact (List.getElem?_eq_some_iff.mp hi).1
      have hm := x.mo i _ s[i] hi (by simp [hl])
      obtain ⟨ds, e⟩ := h2 s[i] (List.getElem_mem hl)
      rw [e] at hm
      obtain ⟨vs, q, _⟩ := hm
      rw [f.2.2] at q
      cases q
def EAR (X : Cx) (ρ : List Sl) (s : List MO) (es : List Expr) (ds : List D) : Prop := ∀ w σ, Rel X.K w σ ρ s → ∀ Q : List V → Hp → Prop, (∀ vs H', Same w.H H' → RepRs X.K (w.to H') s vs ds → Q vs H') → tSemA X es σ w.H Q
theorem ear_nil : EAR X ρ s [] [] := fun w σ rl Q q => semA_of pa_nil (q [] w.H (Same.refl _) .nil)
theorem ear_cons {es : List Expr} {ds : List D} (h : ER X ρ s e d) (hr : EAR X ρ s es ds) (hs : starEach (e :: es) X.env = (false, eval e X.env) :: starEach es X.env := by rfl) : EAR X ρ s (e :: es) (d :: ds) := fun w σ rl Q q =>
  semA_of (pa_cons pe_sem pa_sem hs) (h w σ rl _ fun v H1 e1 r1 => hr (w.to H1) σ (rl.same e1) _ fun vs H2 e2 r2 => q (v :: vs) H2 (e1.trans e2) (.cons (r1.same e2) r2))
theorem view_all {w : Wd} {H' : Hp} (x : Sto X.K w s) (e : Same w.H H') {v : V} (r : Rep X.K ⟨w.S, [], H'⟩ v d) (hi : Lone s d) : Rep X.K (w.to H') v d := Rep.lone (x.same e) r hi
/-- f(e, ..), the arguments looked at, the answer unchangeable -/
theorem ev_callV {n : Str} {F : List D → (D → Prop) → Prop} {es : List Expr} {ds : List D} (C : Calls X.prog X.w X.K X.mg X.base lv n F) (hr : Room lv X.A) (ha : EAR X ρ s (e :: es) ds) (hF : F ds (· = d)) (hi : Lone s d)
    (hg : Gl X n := by rfl) (hdb : (n == ("__debug__" : Str)) = false := by decide) (he : starEach (e :: es) X.env = (false, eval e X.env) :: starEach es X.env := by rfl) (hpl : (backTo pos (starEach es X.env)).any (·.1) = false := by rfl) :
    EV X ρ s (.Call (.Name n p) (e :: es) [] pos) d := by
  obtain ⟨f, fd, ps, hm, hk, hb, G⟩ := C
  exact fun w σ rl Q q => sem_of (pe_call G hr hg hm hk hb .nil pass0 pa_sem hdb he hpl) (ha w σ rl _ fun vs H1 e1 r1 => by
    rw [List.append_nil]
    refine ⟨w.S, ds, (· = d), fun a h z => (rl.sto.same e1).sok a h z, r1.view (rl.sto.same e1), hF, fun v d' H' e2 r2 p2 => ?_⟩
    subst p2
    exact q v H' (e1.trans e2) (view_all (rl.sto.same e1) e2 r2 hi))
/-- a method of the watch that leaves all as it was -/
def MCalls (P : Program) (wd : World) (K : PySem.W.Frag) (mg : Str → Option Value) (base : Heap) (k : Nat) (m : Str) (F : List D → (D → Prop) → Prop) : Prop :=
  ∃ (f : Addr) (fd : FuncData) (ps : List Str), Meth K (wC K) m f ∧ Binds K fd ps [] ∧ FnOk P wd K mg base CX0 k f fd ps (pSp K F)
theorem RepR.watIns {K : PySem.W.Frag} {w : Wd} {v : V} {ds : List D} (x : Sto K w s) (r : RepR K w s v (.wat ds)) : ∃ a dx l, v = .ref a ∧ w.H a = some (.ins (wC K) dx [("states", .ref l)]) := by
  rcases r with r | ⟨i, a, u, h1, rfl, h3, h4⟩
  · cases r with
    | wat f g r => exact ⟨_, _, _, rfl, f.2.2⟩
  · cases u with
    | wat m =>
      obtain ⟨dx, l, g1, g2⟩ := x.mo i a _ h1 h3
      exact ⟨a, dx, l, rfl, g1⟩
    | _ => cases h4
theorem ev_methV0 {m : Str} {F : List D → (D → Prop) → Prop} {st : List D} (C : MCalls X.prog X.w X.K X.mg X.base lv m F) (cw : Cls X.K (wC X.K)) (hr : Room lv X.A) (ho : ER X ρ s o (.wat st)) (hF : F [.wat st] (· = d)) (hi : Lone s d) (hm : ("states" : Str) ≠ m := by decide) {pl : Sem Bool}
    (ht : eval (.Call (.Attribute o m apos) [] [] pos) X.env = (do
      let ov ← eval o X.env
      standAt apos.atName
      let (f, first) ← holding [ov] (getMethod ov m pl)
      callWith pos f first (backTo pos (starEach [] X.env)) (backToKw pos (keywordEach [] X.env))) := by rfl) : EV X ρ s (.Call (.Attribute o m apos) [] [] pos) d := by
  obtain ⟨f, fd, ps, hM, hb, G⟩ := C
  exact fun w σ rl Q q => sem_of (pe_meth0 pe_sem cw hM G hr hb .nil pass0 ht) (ho w σ rl _ fun v H1 e1 r1 => by
    have x1 := rl.sto.same e1
    obtain ⟨a, dx, l, rfl, h1⟩ := r1.watIns x1
    refine ⟨a, dx, _, rfl, h1, by
      rw [List.lookup_cons]
      rw [show (m == "states") = false from beq_eq_false_iff_ne.mpr (Ne.symm hm)]
      rfl, ?_⟩
    refine ⟨w.S, [.wat st], (· = d), fun a h z => x1.sok a h z, .cons (r1.view x1) .nil, hF, fun v d' H' e2 r2 p2 => ?_⟩
    subst p2
    exact q v H' (e1.trans e2) (view_all x1 e2 r2 hi))
end
/-! ### promises with a store -/
def subW (w : Wd) (αc : List Addr) : Wd := ⟨fun b => w.S b ∨ (b ∈ w.α ∧ b ∉ αc), αc, w.H⟩
section
variable {K : PySem.W.Frag} {w w' : Wd} {s : List MO} {αc : List Addr}
theorem subW_in (hs : ∀ a ∈ αc, a ∈ w.α) : Fle w (subW w αc) := fun a h1 h2 _ => ⟨fun z => z.elim h1 fun z => h2 z.1, fun z => h2 (hs a z), rfl⟩
theorem subW_back (hs : ∀ a ∈ αc, a ∈ w.α) (l : Le (subW w αc) w') : Fle w' (w.to w'.H) := fun a h1 h2 _ => by
  rw [l.S] at h1
  refine ⟨fun z => h1 (.inl z), fun z => ?_, rfl⟩
  by_cases hc : a ∈ αc
  · obtain ⟨t, e⟩ := l.pre
    exact h2 (by rw [e]; exact List.mem_append_left _ hc)
  · exact h1 (.inr ⟨z, hc⟩)
theorem subW_le (hs : ∀ a ∈ αc, a ∈ w.α) (l : Le (subW w αc) w') : Le w (w.to w'.H) :=
  ⟨rfl, fun a o h1 h2 => l.keep a o (fun z => h1 (hs a z)) h2, fun a h => .inl h, ⟨[], (List.append_nil _).symm⟩⟩
theorem Sto.sub (x : Sto K w s) (hs : ∀ a ∈ αc, a ∈ w.α) (nd : αc.Nodup) {s2 : List MO} (hl : αc.length = s2.length) (hm : ∀ (i : Nat) a o, αc[i]? = some a → s2[i]? = some o → Mok K (subW w αc) a o) : Sto K (subW w αc) s2 where
  sok := fun a h z => by
    rcases h with h | h
    · exact x.sok a h z
    · exact (x.fresh z).2 h.1
  len := hl
  nd := nd
  ns := fun a h z => by
    rcases z with z | z
    · exact x.ns a (hs a h) z
    · exact z.2 h
  mo := hm
/-- what another def left, seen again by the one at hand -/
theorem Sto.unsub (x : Sto K w s) (hs : ∀ a ∈ αc, a ∈ w.α) (l : Le (subW w αc) w') {s2 : List MO} (hl : s2.length = s.length) (hm : ∀ (i : Nat) a o, w.α[i]? = some a → s2[i]? = some o → (a ∉ αc ∧ s[i]? = some o) ∨ Mok K (w.to w'.H) a o) : Sto K (w.to w'.H) s2 where
  sok := fun a h z => by
    cases q : w.H a with
    | none => exact x.sok a h q
    | some o =>
      have e := l.keep a o (fun y => x.ns a (hs a y) h) q
      rw [show w'.H a = none from z] at e
      cases e
  len := x.len.trans hl.symm
  nd := x.nd
  ns := x.ns
  mo := fun i a o h1 h2 => by
    rcases hm i a o h1 h2 with ⟨h3, h4⟩ | h3
    · have m := x.mo i a o h1 h4
      have f := (subW_le hs l).fle
      cases o with
      | lst ds => obtain ⟨vs, q, r⟩ := m; exact ⟨vs, l.keep a _ h3 q, r.mono f⟩
      | dk ds => obtain ⟨vs, q, r⟩ := m; exact ⟨vs, l.keep a _ h3 q, r.mono f⟩
      | dt ds => obtain ⟨vs, q, r⟩ := m; exact ⟨vs, l.keep a _ h3 q, r.mono f⟩
      | wat j => obtain ⟨dx, u, q, r⟩ := m; exact ⟨dx, u, l.keep a _ h3 q, r⟩
      | ll js => obtain ⟨bs, q, r⟩ := m; exact ⟨bs, l.keep a _ h3 q, r⟩
    · exact h3
end
abbrev GF := List Sl → List MO → (D → List MO → Prop) → (List MO → Prop) → Prop
/-- a promise about a store: R of what comes back, Y where NoDeed comes -/
def gSp (K : PySem.W.Frag) (F : GF) : Sp := fun vs H Q E => ∃ (w : Wd) (sl : List Sl) (s : List MO) (R : D → List MO → Prop) (Y : List MO → Prop), w.H = H ∧ Rel K w (vs.map some) sl s ∧ F sl s R Y ∧
  (∀ w' s' v d, Le w w' → Sto K w' s' → Rep K ⟨w'.S, [], w'.H⟩ v d → R d s' → Q v w'.H) ∧ (∀ w' s', Le w w' → Sto K w' s' → Y s' → E (.ref (He.ga K "NoDeed")) none w'.H)
def GCalls (P : Program) (wd : World) (K : PySem.W.Frag) (mg : Str → Option Value) (base : Heap) (k : Nat) (n : Str) (F : GF) : Prop :=
  ∃ (f : Addr) (fd : FuncData) (ps : List Str), mg n = some (.ref f) ∧ PySem.W.keepIn K (.ref f) = true ∧ Binds K fd ps [] ∧ FnOk P wd K mg base (L2.CX P wd) k f fd ps (gSp K F)
def GMeth (P : Program) (wd : World) (K : PySem.W.Frag) (mg : Str → Option Value) (base : Heap) (k : Nat) (m : Str) (F : GF) : Prop :=
  ∃ (f : Addr) (fd : FuncData) (ps : List Str), Meth K (wC K) m f ∧ Binds K fd ps [] ∧ FnOk P wd K mg base (L2.CX P wd) k f fd ps (gSp K F)
theorem gfn {P : Program} {wd : World} {K : PySem.W.Frag} {mg : Str → Option Value} {base : Heap} {n q : Str} {k : Nat} {F : GF} {N ps : List Str} {st : Stmt} {f : Addr} {fd : FuncData}
    (FD : FunD K n q (defArgs st) (defBody st) (defScope st) [] [] f fd) (S : FnScope N ps (defScope st)) (len : ∀ sl s R Y, F sl s R Y → sl.length = ps.length)
    (body : ∀ (cdv : Value) (A : Around) (outer : List PySem.Env) (z : Shared) (H : Hp) (E : XK), Room k (A.deeper (envOfC q (defScope st) z.heap.objs.size f cdv)) → ∀ sl s R Y, F sl s R Y →
      SB (cxOf (L2.CX P wd) P wd K mg base N q (defScope st) f cdv A outer z H E) (start0 N sl) s (defBody st) { nx := fun _ s' => R .non s', rt := R, xr := fun _ s' => Y s' }) : FnOk P wd K mg base (L2.CX P wd) (k + 1) f fd ps (gSp K F) :=
  FD.ok S (fun vs H Q E ⟨w, sl, s, R, Y, e, rl, h, _⟩ => by
    have hl := rl.env.len
    rw [List.length_map] at hl
    exact hl.trans (len sl s R Y h)) fun cdv A outer z H vs Q E hr ⟨w, sl, s, R, Y, e, rl, h, hq, hy⟩ => ⟨_, pss_sem, by
    subst e
    refine body cdv A outer z w.H E hr sl s R Y h w _ _ (fun cls d _ H' => E cls d H') ⟨rl.sto, env_start rl.env⟩ (takes_of rfl rfl rfl rfl) ⟨fun w' σ ρ s' l rl' h' => hq w' s' .non .non l rl'.sto .non h', fun w' s' v d l x r h' => hq w' s' v d l x r h', fun _ _ _ _ _ _ h' => h'.elim, fun _ _ _ _ _ _ h' => h'.elim, fun w' σ ρ s' l rl' h' => hy w' s' l rl'.sto h'⟩⟩
theorem GCalls.mk {P : Program} {wd : World} {K : PySem.W.Frag} {mg : Str → Option Value} {base : Heap} {n : Str} {k : Nat} {F : GF} {N ps : List Str} {st : Stmt} {f : Addr} {fd : FuncData}
    (FD : FunD K n n (defArgs st) (defBody st) (defScope st) [] [] f fd) (S : FnScope N ps (defScope st)) (hm : mg n = some (.ref f))
    (hb : ∀ (kV doc pm : Value) (an : Option Addr) (cdv ct : Value) (us : List Value), us.length = ps.length → bindArgs (PySem.W.fnOf n n (defArgs st) (defBody st) (defScope st) .none kV doc pm an cdv ct) ⟨us, []⟩ = pure (ps.zip us))
    (len : ∀ sl s R Y, F sl s R Y → sl.length = ps.length)
    (body : ∀ (cdv : Value) (A : Around) (outer : List PySem.Env) (z : Shared) (H : Hp) (E : XK), Room k (A.deeper (envOfC n (defScope st) z.heap.objs.size f cdv)) → ∀ sl s R Y, F sl s R Y →
      SB (cxOf (L2.CX P wd) P wd K mg base N n (defScope st) f cdv A outer z H E) (start0 N sl) s (defBody st) { nx := fun _ s' => R .non s', rt := R, xr := fun _ s' => Y s' }) : GCalls P wd K mg base (k + 1) n F :=
  ⟨f, fd, ps, hm, FD.kp, FD.bindsN hb, gfn FD S len body⟩
theorem GMeth.mk {P : Program} {wd : World} {K : PySem.W.Frag} {mg : Str → Option Value} {base : Heap} {n q : Str} {k : Nat} {F : GF} {N ps : List Str} {st : Stmt} {f : Addr} {fd : FuncData}
    (FD : FunD K n q (defArgs st) (defBody st) (defScope st) [] [] f fd) (S : FnScope N ps (defScope st)) (hm : Meth K (wC K) n f)
    (hb : ∀ (kV doc pm : Value) (an : Option Addr) (cdv ct : Value) (us : List Value), us.length = ps.length → bindArgs (PySem.W.fnOf n q (defArgs st) (defBody st) (defScope st) .none kV doc pm an cdv ct) ⟨us, []⟩ = pure (ps.zip us))
    (len : ∀ sl s R Y, F sl s R Y → sl.length = ps.length)
    (body : ∀ (cdv : Value) (A : Around) (outer : List PySem.Env) (z : Shared) (H : Hp) (E : XK), Room k (A.deeper (envOfC q (defScope st) z.heap.objs.size f cdv)) → ∀ sl s R Y, F sl s R Y →
      SB (cxOf (L2.CX P wd) P wd K mg base N q (defScope st) f cdv A outer z H E) (start0 N sl) s (defBody st) { nx := fun _ s' => R .non s', rt := R, xr := fun _ s' => Y s' }) : GMeth P wd K mg base (k + 1) n F :=
  ⟨f, fd, ps, hm, FD.bindsN hb, gfn FD S len body⟩
/-- a method without a change -/
theorem MCalls.mk {P : Program} {wd : World} {K : PySem.W.Frag} {mg : Str → Option Value} {base : Heap} {n q : Str} {k : Nat} {F : List D → (D → Prop) → Prop} {N ps : List Str} {st : Stmt} {f : Addr} {fd : FuncData}
    (FD : FunD K n q (defArgs st) (defBody st) (defScope st) [] [] f fd) (S : FnScope N ps (defScope st)) (hm : Meth K (wC K) n f)
    (hb : ∀ (kV doc pm : Value) (an : Option Addr) (cdv ct : Value) (us : List Value), us.length = ps.length → bindArgs (PySem.W.fnOf n q (defArgs st) (defBody st) (defScope st) .none kV doc pm an cdv ct) ⟨us, []⟩ = pure (ps.zip us))
    (len : ∀ ds P, F ds P → ds.length = ps.length)
    (body : ∀ (cdv : Value) (A : Around) (outer : List PySem.Env) (s : Shared) (H : Hp) (E : XK), Room k (A.deeper (envOfC q (defScope st) s.heap.objs.size f cdv)) → ∀ ds Pd, F ds Pd →
      SB (cxOf CX0 P wd K mg base N q (defScope st) f cdv A outer s H E).nox (start0 N (ds.map .d)) [] (defBody st) { nx := fun _ _ => Pd .non, rt := fun d _ => Pd d }) : MCalls P wd K mg base (k + 1) n F := by
  refine ⟨f, fd, ps, hm, FD.bindsN hb, FD.ok S (fun vs H Q E ⟨S', ds, Pd, _, r, hF, _⟩ => ?_) (fun cdv A outer s H vs Q E hr ⟨S', ds, Pd, sok, r, hF, q⟩ => ⟨_, PSs.nox pss_sem, ?_⟩)⟩
  · rw [r.length]
    exact len ds Pd hF
  · refine body cdv A outer s H E hr ds Pd hF ⟨S', [], H⟩ _ _ (fun _ _ _ _ => False) ⟨⟨sok, rfl, List.nodup_nil, fun a h => (nomatch h), fun i a o h => by cases h⟩, env_start (env_ds r)⟩ takes0 ⟨fun w' σ ρ s' l rl h => ?_, fun w' s' v d l x r h => ?_, fun w' σ ρ s' l rl h => h, fun w' σ ρ s' l rl h => h, fun w' σ ρ s' l rl h => h⟩
    · exact q .non .non w'.H (fun a o h => l.keep a o List.not_mem_nil h) .non h
    · rw [l.S] at r
      exact q v d w'.H (fun a o h => l.keep a o List.not_mem_nil h) r h
section
variable {X : Cx} {ρ : List Sl} {s : List MO} {e a b c o : Expr} {es : List Expr} {pos p apos : Pos} {d x y : D} {lv n m : Nat} {A : AEnds}
/-- e changes the store, gives a datum, or NoDeed comes -/
def EC (X : Cx) (ρ : List Sl) (s : List MO) (e : Expr) (R : D → List MO → Prop) (Y : List MO → Prop) : Prop := ∀ w σ W, Rel X.K w σ ρ s → Takes X W → ∀ Q : VK, (∀ w' s' v d, Le w w' → Rel X.K w' σ ρ s' → Rep X.K w' v d → R d s' → Q v w'.H) →
  (∀ w' s', Le w w' → Rel X.K w' σ ρ s' → Y s' → W (.ref (He.ga X.K "NoDeed")) none σ w'.H) → tSem X e σ w.H Q
/-- arguments, the n-th object among them -/
def EAS (X : Cx) (ρ : List Sl) (s : List MO) (es : List Expr) (sl : List Sl) : Prop := ∀ w σ, Rel X.K w σ ρ s → ∀ Q : List V → Hp → Prop, (∀ vs H', Same w.H H' → EnvR X.K (w.to H') (vs.map some) sl → Q vs H') → tSemA X es σ w.H Q
theorem eas_nil : EAS X ρ s [] [] := fun w σ rl Q q => semA_of pa_nil (q [] w.H (Same.refl _) ⟨rfl, fun i x h => nomatch h⟩)
theorem env_consD {K : PySem.W.Frag} {w : Wd} {v : V} {d : D} {vs : List V} {sl : List Sl} (r : Rep K w v d) (h : EnvR K w (vs.map some) sl) : EnvR K w ((v :: vs).map some) (.d d :: sl) where
  len := congrArg (· + 1) h.len
  en := fun i y e => by
    cases i with
    | zero => cases e; exact ⟨_, rfl, v, rfl, r⟩
    | succ i => exact h.en i y e
theorem env_consR {K : PySem.W.Frag} {w : Wd} {a : Addr} {j : Nat} {vs : List V} {sl : List Sl} (r : w.α[j]? = some a) (h : EnvR K w (vs.map some) sl) : EnvR K w ((V.ref a :: vs).map some) (.r j :: sl) where
  len := congrArg (· + 1) h.len
  en := fun i y e => by
    cases i with
    | zero => cases e; exact ⟨_, rfl, a, r, rfl⟩
    | succ i => exact h.en i y e
theorem eas_d {sl : List Sl} (h : EV X ρ s e d) (hr : EAS X ρ s es sl) (hs : starEach (e :: es) X.env = (false, eval e X.env) :: starEach es X.env := by rfl) : EAS X ρ s (e :: es) (.d d :: sl) := fun w σ rl Q q =>
  semA_of (pa_cons pe_sem pa_sem hs) (h w σ rl _ fun v H1 e1 r1 => hr (w.to H1) σ (rl.same e1) _ fun vs H2 e2 r2 => q (v :: vs) H2 (e1.trans e2) (env_consD (r1.same e2) r2))
theorem eas_r {sl : List Sl} (h : EI X ρ s e n) (hr : EAS X ρ s es sl) (hs : starEach (e :: es) X.env = (false, eval e X.env) :: starEach es X.env := by rfl) : EAS X ρ s (e :: es) (.r n :: sl) := fun w σ rl Q q =>
  semA_of (pa_cons pe_sem pa_sem hs) (h w σ rl _ fun a H1 e1 h1 => hr (w.to H1) σ (rl.same e1) _ fun vs H2 e2 r2 => q (.ref a :: vs) H2 (e1.trans e2) (env_consR h1 r2))
/-- as another def sees them: the n-th object is its first -/
def slN (n : Nat) : Sl → Sl
  | .r i => if i = n then .r 0 else .no
  | y => y
theorem env_sub {K : PySem.W.Frag} {w : Wd} {l : Addr} {vs : List V} {sl : List Sl} (h : EnvR K w (vs.map some) sl) (hl : w.α[n]? = some l) : EnvR K (subW w [l]) (vs.map some) (sl.map (slN n)) where
  len := by rw [h.len, List.length_map]
  en := fun i y e => by
    rw [List.getElem?_map] at e
    obtain ⟨z, h1, h2⟩ := Option.map_eq_some_iff.mp e
    subst h2
    obtain ⟨u, h3, h4⟩ := h.en i z h1
    refine ⟨u, h3, ?_⟩
    cases z with
    | no => trivial
    | d d =>
      obtain ⟨v, h5, h6⟩ := h4
      exact ⟨v, h5, h6.mono (subW_in fun a ha => by rw [List.mem_singleton.mp ha]; exact List.mem_of_getElem? hl)⟩
    | r j =>
      obtain ⟨a, h5, h6⟩ := h4
      show SlOk K _ u (if j = n then Sl.r 0 else Sl.no)
      by_cases hj : j = n
      · rw [if_pos hj]
        subst hj
        rw [hl] at h5
        cases h5
        exact ⟨l, rfl, h6⟩
      · rw [if_neg hj]; trivial
/-- a call of a def that changes one list -/
theorem ec_callL {f : Str} {F : GF} {sl : List Sl} {ds : List D} {R : D → List D → Prop} (C : GCalls X.prog X.w X.K X.mg X.base lv f F) (hr : Room lv X.A) (n : Nat) (ha : EAS X ρ s (e :: es) sl) (hs : s[n]? = some (.lst ds))
    (hF : F (sl.map (slN n)) [.lst ds] (fun d s' => ∃ ds' t, s' = .lst ds' :: t ∧ Imm d ∧ R d ds') (fun _ => False))
    (hg : Gl X f := by rfl) (hdb : (f == ("__debug__" : Str)) = false := by decide) (he : starEach (e :: es) X.env = (false, eval e X.env) :: starEach es X.env := by rfl) (hpl : (backTo pos (starEach es X.env)).any (·.1) = false := by rfl) :
    EC X ρ s (.Call (.Name f p) (e :: es) [] pos) (fun d s' => ∃ ds', s' = s.set n (.lst ds') ∧ R d ds') (fun _ => False) := by
  obtain ⟨fa, fd, ps, hm, hk, hb, G⟩ := C
  refine fun w σ W rl tk Q q _ => sem_of (pe_callS (E := WE W) G hr hg hm hk hb (passAt tk) pa_sem hdb he hpl) (ha w σ rl _ fun vs H1 e1 r1 => ?_)
  have x1 := rl.sto.same e1
  obtain ⟨l, hl⟩ : ∃ l, w.α[n]? = some l := ⟨w.α[n]'(by rw [rl.sto.len]; exact (List.getElem?_eq_some_iff.mp hs).1), by simp⟩
  have hsub : ∀ a ∈ [l], a ∈ (w.to H1).α := fun a ha => by rw [List.mem_singleton.mp ha]; exact List.mem_of_getElem? hl
  refine ⟨subW (w.to H1) [l], _, [.lst ds], _, _, rfl, ⟨x1.sub hsub (by simp) rfl fun i a o h1 h2 => ?_, env_sub r1 hl⟩, hF, fun w' s' v d l1 x2 r2 h2 => ?_, fun _ _ _ _ h => h.elim⟩
  · cases i with
    | zero =>
      cases h1
      cases h2
      obtain ⟨us, g1, g2⟩ := x1.mo n l _ hl hs
      exact ⟨us, g1, g2.mono (subW_in hsub)⟩
    | succ i => cases h1
  · obtain ⟨ds', t, rfl, hi, hR⟩ := h2
    have r3 := (Rep.back x2 hi r2).mono (subW_back hsub l1)
    have hl1 : w'.α[0]? = some l := l1.ix (i := 0) rfl
    obtain ⟨us, g1, g2⟩ := x2.mo 0 l _ hl1 rfl
    have x3 : Sto X.K (w.to w'.H) (s.set n (.lst ds')) := x1.unsub hsub l1 (List.length_set ..) fun i a o h1 h2 => by
      by_cases hi : n = i
      · subst hi
        rw [List.getElem?_set_self (List.getElem?_eq_some_iff.mp hs).1] at h2
        cases h2
        have h1' : w.α[n]? = some a := h1
        rw [hl] at h1'
        cases h1'
        exact .inr ⟨us, g1, g2.mono (subW_back hsub l1)⟩
      · rw [List.getElem?_set_ne hi] at h2
        refine .inl ⟨fun z => hi ?_, h2⟩
        rw [List.mem_singleton.mp z] at h1
        exact nd_ix x1.nd hl h1
    have lw := (Le.same e1).trans (subW_le hsub l1)
    exact q (w.to w'.H) _ v d lw ⟨x3, rl.env.fle lw.fle fun _ _ h => h⟩ r3 ⟨ds', rfl, hR⟩
end
/-! ### the watch's methods; statements with such calls; raise, try -/
section
variable {X : Cx} {ρ : List Sl} {s : List MO} {e a b c o : Expr} {es : List Expr} {pos pos' p apos : Pos} {d x y : D} {lv n m : Nat} {A : AEnds}
theorem wat_ne {i j : Nat} {w : Wd} {k : Nat} {ds : List D} {K : PySem.W.Frag} {a l : Addr} (x : Sto K w s) (hi : s[i]? = some (.wat k)) (hj : s[j]? = some (.lst ds)) (h1 : w.α[i]? = some a) (h2 : w.α[j]? = some l) : a ≠ l := fun z => by
  subst z
  have e := nd_ix x.nd h1 h2
  subst e
  rw [hi] at hj
  cases hj
theorem ec_run {F : GF} {ds : List D} {st : List D} {R : D → List D → Prop} {Y : Prop} {w : Wd} {σ : L2.St} {W : WX} (rl : Rel X.K w σ ρ s) (hn : s[n]? = some (.wat m)) (hm : s[m]? = some (.lst st)) {v : Addr} {vs : List V} {H' : Hp} (e1 : Same w.H H') (hv : w.α[n]? = some v) (rs : Reps X.K (w.to H') vs ds)
    (hF : F (.r 0 :: ds.map .d) [.wat 1, .lst st] (fun d s' => ∃ st' t, s' = .wat 1 :: .lst st' :: t ∧ Imm d ∧ R d st') (fun s' => ∃ t, s' = .wat 1 :: .lst st :: t ∧ Y)) {Q : VK}
    (q : ∀ w' s' v d, Le w w' → Rel X.K w' σ ρ s' → Rep X.K w' v d → (∃ st', s' = s.set m (.lst st') ∧ R d st') → Q v w'.H) (qy : ∀ w' s', Le w w' → Rel X.K w' σ ρ s' → s' = s ∧ Y → W (.ref (He.ga X.K "NoDeed")) none σ w'.H) :
    gSp X.K F (.ref v :: vs) H' Q (WE W σ) := by
  have x1 := rl.sto.same e1
  obtain ⟨dx, l, g1, hl⟩ := x1.mo n v _ hv hn
  obtain ⟨us, g2, g3⟩ := x1.mo m l _ hl hm
  have hsub : ∀ a ∈ [v, l], a ∈ (w.to H').α := fun a ha => by
    rcases List.mem_cons.mp ha with z | z
    · rw [z]; exact List.mem_of_getElem? hv
    · rw [List.mem_singleton.mp z]; exact List.mem_of_getElem? hl
  have hne := wat_ne x1 hn hm hv hl
  refine ⟨subW (w.to H') [v, l], .r 0 :: ds.map .d, [.wat 1, .lst st], _, _, rfl, ⟨x1.sub hsub (by simp [hne]) rfl fun i a o h1 h2 => ?_, env_consR rfl (env_ds (rs.mono (subW_in hsub)))⟩, hF, fun w' s' v' d l1 x2 r2 h2 => ?_, fun w' s' l1 x2 h2 => ?_⟩
  · cases i with
    | zero =>
      cases h1
      cases h2
      exact ⟨dx, l, g1, rfl⟩
    | succ i =>
      cases i with
      | zero =>
        cases h1
        cases h2
        exact ⟨us, g2, g3.mono (subW_in hsub)⟩
      | succ i => cases h1
  · obtain ⟨st', t, rfl, hi, hR⟩ := h2
    have r3 := (Rep.back x2 hi r2).mono (subW_back hsub l1)
    obtain ⟨dx2, l2, k1, k2⟩ := x2.mo 0 v _ (l1.ix (i := 0) rfl) rfl
    have hl1 : w'.α[1]? = some l := l1.ix (i := 1) rfl
    rw [hl1] at k2
    cases k2
    obtain ⟨us2, k3, k4⟩ := x2.mo 1 l _ hl1 rfl
    have x3 : Sto X.K (w.to w'.H) (s.set m (.lst st')) := x1.unsub hsub l1 (List.length_set ..) fun i a o h1 h2 => by
      by_cases hi : m = i
      · subst hi
        rw [List.getElem?_set_self (List.getElem?_eq_some_iff.mp hm).1] at h2
        cases h2
        have h1' : w.α[m]? = some a := h1
        rw [show w.α[m]? = some l from hl] at h1'
        cases h1'
        exact .inr ⟨us2, k3, k4.mono (subW_back hsub l1)⟩
      · rw [List.getElem?_set_ne hi] at h2
        by_cases hin : n = i
        · subst hin
          rw [hn] at h2
          cases h2
          have h1' : w.α[n]? = some a := h1
          rw [hv] at h1'
          cases h1'
          exact .inr ⟨dx2, l, k1, hl⟩
        · refine .inl ⟨fun z => ?_, h2⟩
          rcases List.mem_cons.mp z with z | z
          · rw [z] at h1
            exact hin (nd_ix x1.nd hv h1)
          · rw [List.mem_singleton.mp z] at h1
            exact hi (nd_ix x1.nd hl h1)
    have lw := (Le.same e1).trans (subW_le hsub l1)
    exact q (w.to w'.H) _ v' d lw ⟨x3, rl.env.fle lw.fle fun _ _ h => h⟩ r3 ⟨st', rfl, hR⟩
  · obtain ⟨t, rfl, hY⟩ := h2
    obtain ⟨dx2, l2, k1, k2⟩ := x2.mo 0 v _ (l1.ix (i := 0) rfl) rfl
    have hl1 : w'.α[1]? = some l := l1.ix (i := 1) rfl
    rw [hl1] at k2
    cases k2
    obtain ⟨us2, k3, k4⟩ := x2.mo 1 l _ hl1 rfl
    have x3 : Sto X.K (w.to w'.H) s := x1.unsub hsub l1 rfl fun i a o h1 h2 => by
      by_cases hi : m = i
      · subst hi
        rw [hm] at h2
        cases h2
        have h1' : w.α[m]? = some a := h1
        rw [show w.α[m]? = some l from hl] at h1'
        cases h1'
        exact .inr ⟨us2, k3, k4.mono (subW_back hsub l1)⟩
      · by_cases hin : n = i
        · subst hin
          rw [hn] at h2
          cases h2
          have h1' : w.α[n]? = some a := h1
          rw [hv] at h1'
          cases h1'
          exact .inr ⟨dx2, l, k1, hl⟩
        · refine .inl ⟨fun z => ?_, h2⟩
          rcases List.mem_cons.mp z with z | z
          · rw [z] at h1
            exact hin (nd_ix x1.nd hv h1)
          · rw [List.mem_singleton.mp z] at h1
            exact hi (nd_ix x1.nd hl h1)
    have lw := (Le.same e1).trans (subW_le hsub l1)
    exact qy (w.to w'.H) _ lw ⟨x3, rl.env.fle lw.fle fun _ _ h => h⟩ ⟨rfl, hY⟩
variable {f : Str} {F : GF} {ds st : List D} {R : D → List D → Prop} {Y : Prop}
theorem lk_states {f : Str} {v : V} (hq : ("states" : Str) ≠ f) : ([(("states" : Str), v)] : List (Str × V)).lookup f = none := by
  rw [List.lookup_cons, show (f == ("states" : Str)) = false from beq_eq_false_iff_ne.mpr (Ne.symm hq)]
  rfl
/-- o.m(e, ..), o the watch -/
theorem ec_meth {pl : Sem Bool} (C : GMeth X.prog X.w X.K X.mg X.base lv f F) (cw : Cls X.K (wC X.K)) (hr : Room lv X.A) (ho : EI X ρ s o n) (ha : EA X ρ s (e :: es) ds) (hn : s[n]? = some (.wat m)) (hm : s[m]? = some (.lst st))
    (hF : F (.r 0 :: ds.map .d) [.wat 1, .lst st] (fun d s' => ∃ st' t, s' = .wat 1 :: .lst st' :: t ∧ Imm d ∧ R d st') (fun s' => ∃ t, s' = .wat 1 :: .lst st :: t ∧ Y)) (hq : ("states" : Str) ≠ f := by decide)
    (hst : starEach (e :: es) X.env = (false, eval e X.env) :: starEach es X.env := by rfl) (hpl : (backTo pos (starEach es X.env)).any (·.1) = false := by rfl)
    (ht : eval (.Call (.Attribute o f apos) (e :: es) [] pos) X.env = (do
      let ov ← eval o X.env
      standAt apos.atName
      let (f, first) ← holding [ov] (getMethod ov f pl)
      callWith pos f first (backTo pos (starEach (e :: es) X.env)) (backToKw pos (keywordEach [] X.env))) := by rfl) :
    EC X ρ s (.Call (.Attribute o f apos) (e :: es) [] pos) (fun d s' => ∃ st', s' = s.set m (.lst st') ∧ R d st') (fun s' => s' = s ∧ Y) := by
  obtain ⟨fa, fd, ps, hM, hb, G⟩ := C
  refine fun w σ W rl tk Q q qy pins z I => ?_
  refine PySem.W.methodCall_KW (pl := pl) (thn (ho w σ rl (fun x H1 => ∃ v, x = .ref v ∧ Same w.H H1 ∧ w.α[n]? = some v) (fun a H' e1 h1 => ⟨a, rfl, e1, h1⟩) pins z I) fun u s1 ⟨x, H1, I1, rx, v, ex, e1, hv⟩ => ?_) ht
  subst ex
  obtain rfl : u = Value.ref v := rx
  obtain ⟨dx, l, g1, hl⟩ := (rl.sto.same e1).mo n v _ hv hn
  refine getmeth_ok I1 g1 cw hM (lk_states hq) ?_
  refine PySem.W.callWith_K (first := [.ref v]) (h₀ := X.base) I.ok.mod.kin hM.kp (thn (ha (w.to H1) σ (rl.same e1) (fun vs H2 => Same H1 H2 ∧ Reps X.K (w.to H2) vs ds) (fun vs H' e2 r2 => ⟨e2, r2⟩) pos pins s1 I1) fun us s2 ⟨vs, H2, I2, r, e2, r2⟩ => ⟨I2.kIn, ?_⟩) hst hpl
  exact run_fnS (us := .ref v :: us) (vs := .ref v :: vs) (E := WE W) G hr hb (passAt tk σ) I2 (.cons rfl r) (ec_run rl hn hm (e1.trans e2) hv r2 hF q qy)
theorem ec_meth0 {pl : Sem Bool} (C : GMeth X.prog X.w X.K X.mg X.base lv f F) (cw : Cls X.K (wC X.K)) (hr : Room lv X.A) (ho : EI X ρ s o n) (hn : s[n]? = some (.wat m)) (hm : s[m]? = some (.lst st))
    (hF : F [.r 0] [.wat 1, .lst st] (fun d s' => ∃ st' t, s' = .wat 1 :: .lst st' :: t ∧ Imm d ∧ R d st') (fun s' => ∃ t, s' = .wat 1 :: .lst st :: t ∧ Y)) (hq : ("states" : Str) ≠ f := by decide)
    (ht : eval (.Call (.Attribute o f apos) [] [] pos) X.env = (do
      let ov ← eval o X.env
      standAt apos.atName
      let (f, first) ← holding [ov] (getMethod ov f pl)
      callWith pos f first (backTo pos (starEach [] X.env)) (backToKw pos (keywordEach [] X.env))) := by rfl) :
    EC X ρ s (.Call (.Attribute o f apos) [] [] pos) (fun d s' => ∃ st', s' = s.set m (.lst st') ∧ R d st') (fun s' => s' = s ∧ Y) := by
  obtain ⟨fa, fd, ps, hM, hb, G⟩ := C
  refine fun w σ W rl tk Q q qy pins z I => ?_
  refine PySem.W.methodCall_KW (pl := pl) (thn (ho w σ rl (fun x H1 => ∃ v, x = .ref v ∧ Same w.H H1 ∧ w.α[n]? = some v) (fun a H' e1 h1 => ⟨a, rfl, e1, h1⟩) pins z I) fun u s1 ⟨x, H1, I1, rx, v, ex, e1, hv⟩ => ?_) ht
  subst ex
  obtain rfl : u = Value.ref v := rx
  obtain ⟨dx, l, g1, hl⟩ := (rl.sto.same e1).mo n v _ hv hn
  refine getmeth_ok I1 g1 cw hM (lk_states hq) ?_
  exact PySem.W.callWith_K0 (first := [.ref v]) I1.kIn hM.kp (run_fnS (us := [.ref v]) (vs := [.ref v]) (E := WE W) G hr hb (passAt tk σ) I1 (.cons rfl .nil) (ec_run rl hn hm e1 hv .nil hF q qy))
/-- x = such a call -/
theorem sx_setC (n : Nat) {x : Str} {R : D → List MO → Prop} {Y : List MO → Prop} (nd : X.N.Nodup) (he : EC X ρ s e R Y) (h : ∀ d s', R d s' → A.nx (ρ.set n (.d d)) s') (hy : ∀ s', Y s' → A.xr ρ s') (hi : X.N[n]? = some x := by rfl) (hx : Loc X.env.scope x := by first | exact Or.inl rfl | exact Or.inr rfl)
    (hs : swapsWith e (some (.Name x pos')) pos.line X.env = pure false := by rfl) (hf : X.fn x = true ∨ X.env.scope.names.lookup x = some .local := by first | exact .inl rfl | exact .inr rfl) : SX X ρ s (.Assign [.Name x pos'] e pos) A := fun w σ E W rl tk dm =>
  semS_of (ps_set nd hi hx pe_sem hs hf) (he w σ W rl tk _ (fun w' s' v d l r1 r2 h2 => dm.nx w' _ _ _ l ⟨r1.sto, r1.env.setD r2⟩ (h d s' h2)) fun w' s' l r1 h2 => dm.xr w' σ ρ s' l r1 (hy s' h2))
/-- such a call by itself -/
theorem sx_exprC {R : D → List MO → Prop} {Y : List MO → Prop} (he : EC X ρ s e R Y) (h : ∀ d s', R d s' → A.nx ρ s') (hy : ∀ s', Y s' → A.xr ρ s') (hs : swapsWith e none pos.line X.env = pure false := by rfl) : SX X ρ s (.Expr e pos) A := fun w σ E W rl tk dm =>
  semS_of (ps_expr pe_sem hs) (he w σ W rl tk _ (fun w' s' v d l r1 r2 h2 => dm.nx w' _ _ _ l r1 (h d s' h2)) fun w' s' l r1 h2 => dm.xr w' σ ρ s' l r1 (hy s' h2))
/-- x = a + such a call -/
theorem sx_setAddC (n : Nat) {x : Str} {i : Int} {R : D → List MO → Prop} (nd : X.N.Nodup) (ha : EV X ρ s a (.int i)) (he : EC X ρ s e R (fun _ => False)) (h : ∀ d s', R d s' → ∃ j, d = .int j ∧ A.nx (ρ.set n (.d (.int (i + j)))) s') (hi : X.N[n]? = some x := by rfl) (hx : Loc X.env.scope x := by first | exact Or.inl rfl | exact Or.inr rfl)
    (hs : swapsWith (.BinOp a .Add e p) (some (.Name x pos')) pos.line X.env = pure false := by rfl) (hf : X.fn x = true ∨ X.env.scope.names.lookup x = some .local := by first | exact .inl rfl | exact .inr rfl) : SX X ρ s (.Assign [.Name x pos'] (.BinOp a .Add e p) pos) A := fun w σ E W rl tk dm =>
  semS_of (ps_set nd hi hx (pe_op op_add pe_sem pe_sem) hs hf) (ha w σ rl _ fun v H1 e1 r1 => he (w.to H1) σ W (rl.same e1) tk _ (fun w' s' u d l r2 r3 h2 => by
    obtain ⟨j, rfl, h3⟩ := h d s' h2
    cases r1
    cases r3
    exact ⟨i, j, rfl, rfl, dm.nx w' _ _ _ ((Le.same e1).trans l) ⟨r2.sto, r2.env.setD (.int _)⟩ h3⟩) fun _ _ _ _ h => h.elim)
/-- raise NoDeed('..') -/
theorem sx_raise {m : Str} {j : Nat} {p2 p3 : Pos} {bmB : List Value} {B newId initId : String} (F : ExcBaseFacts B newId initId bmB) (hq : PySem.W.excIn X.K (He.ga X.K "NoDeed") bmB newId = true) (gC : X.mg "NoDeed" = some (.ref (He.ga X.K "NoDeed"))) (kC : PySem.W.keepIn X.K (.ref (He.ga X.K "NoDeed")) = true)
    (r : Raises X (.ref (He.ga X.K "NoDeed"))) (h : A.xr ρ s) (hc : X.calm = true := by rfl) (hg : Gl X "NoDeed" := by rfl) : SX X ρ s (.Raise (some (.Call (.Name "NoDeed" p) [.Constant (.str m) j p2] [] p3)) none pos) A := fun w σ E W rl tk dm =>
  semS_of (ps_raise hc tk (pmk_own F hq gC kC r hg)) (dm.xr w σ ρ s (Le.refl w) rl h)
end
/-! ### isinstance of a kept error; try .. except LampError as e: caught = e; Watch(book) -/
/-- isinstance(e, c), e a kept error of the class D -/
def rIsX (K : PySem.W.Frag) : List V → Hp → VK → Prop := fun xs H Q => ∃ (a D : Addr) (c : V) (cv : Value) (b : Bool), xs = [.ref a, c] ∧ H a = some (CxO (.ref D) a) ∧ ExcC K D ∧ (∀ u, RelV c u → u = cv) ∧ PySem.W.kitOne K (.ref D) cv = some b ∧ Q (.bl b) H
theorem call_isX {X : Cx} : CallR X (.builtin "isinstance") (rIsX X.K) := by
  intro pins z σ H xs us Q I r h
  obtain ⟨a, D, c, cv, b, rfl, ha, C, hcv, e, q⟩ := h
  cases r with
  | cons rx rr =>
    cases rr with
    | cons rt rr =>
      cases rr
      cases rx
      have ec := hcv _ rt
      subst ec
      obtain ⟨⟨ob, vs, g1, g2, g3⟩, _⟩ := I.hok a _ ha
      have J : PySem.W.InstAt z.heap a ob D none := by
        obtain ⟨oc, od, oda, osl⟩ := ob
        obtain ⟨h1, h2⟩ := g2
        dsimp only at h1 h2 g3
        subst h1 h2 g3
        exact ⟨g1, rfl, rfl, trivial⟩
      exact PySem.W.kia_one (PySem.W.handS_kitx_exc C.hg C.hk C.hs C.hd C.ha C.hn C.ht C.hm) I.kIn J e (fun q => nomatch q) fun tk => ⟨.bl b, H, I.kept (t' := tk) fun _ _ q => q, rfl, q⟩
section
variable {X : Cx} {ρ : List Sl} {s : List MO} {e a b c o : Expr} {es : List Expr} {pos pos' p p2 apos : Pos} {d x y : D} {lv n m : Nat} {A : AEnds} {D0 : Addr} {k : Bool}
theorem ev_isRaw {xn : Str} {cV : V} {cv : Value} (T : Tops X.K X.mg) (ha : EV X ρ s a (.exc D0)) (C : ExcC X.K D0) (hc : PE X (.Name xn p2) (tC cV)) (hcv : ∀ u, RelV cV u → u = cv) (hk : PySem.W.kitOne X.K (.ref D0) cv = some k) (hg : Gl X "isinstance" := by rfl)
    (h1 : starEach [a, .Name xn p2] X.env = (false, eval a X.env) :: starEach [.Name xn p2] X.env := by rfl) (h3 : starEach [.Name xn p2] X.env = (false, eval (.Name xn p2) X.env) :: starEach [] X.env := by rfl) (h2 : (backTo pos (starEach [.Name xn p2] X.env)).any (·.1) = false := by rfl) :
    EV X ρ s (.Call (.Name "isinstance" p) [a, .Name xn p2] [] pos) (.bl k) := fun w σ rl Q q =>
  sem_of (pe_callB call_isX hg T.isinstance boot_isinstance (pa_cons pe_sem (pa_cons hc pa_nil h3) h1) (by decide) (by decide) h1 h2) (ha w σ rl _ fun v H1 e1 r1 => by
    cases r1 with
    | exc f => exact ⟨_, D0, cV, cv, k, rfl, f.2.2, C, hcv, hk, q _ H1 e1 (.bl k)⟩)
/-- isinstance(a, C), C a class of the text; C built in -/
theorem ev_isE {xn : Str} {cA : Addr} (T : Tops X.K X.mg) (ha : EV X ρ s a (.exc D0)) (C : ExcC X.K D0) (hm : X.mg xn = some (.ref cA)) (hk : PySem.W.kitOne X.K (.ref D0) (.ref cA) = some k) (hg : Gl X "isinstance" := by rfl) (hgc : Gl X xn := by rfl) (hdb : (xn == ("__debug__" : Str)) = false := by decide)
    (h1 : starEach [a, .Name xn p2] X.env = (false, eval a X.env) :: starEach [.Name xn p2] X.env := by rfl) (h3 : starEach [.Name xn p2] X.env = (false, eval (.Name xn p2) X.env) :: starEach [] X.env := by rfl) (h2 : (backTo pos (starEach [.Name xn p2] X.env)).any (·.1) = false := by rfl) :
    EV X ρ s (.Call (.Name "isinstance" p) [a, .Name xn p2] [] pos) (.bl k) := ev_isRaw (cv := .ref cA) T ha C (pe_glob (v := .ref cA) hgc hm rfl hdb) (fun _ r => r) hk hg h1 h3 h2
theorem ev_isVE (T : Tops X.K X.mg) (ha : EV X ρ s a (.exc D0)) (C : ExcC X.K D0) (hk : PySem.W.kitOne X.K (.ref D0) (.type "ValueError") = some k) (hg : Gl X "isinstance" := by rfl) (hgc : Gl X "ValueError" := by rfl)
    (h1 : starEach [a, .Name "ValueError" p2] X.env = (false, eval a X.env) :: starEach [.Name "ValueError" p2] X.env := by rfl) (h3 : starEach [.Name "ValueError" p2] X.env = (false, eval (.Name "ValueError" p2) X.env) :: starEach [] X.env := by rfl) (h2 : (backTo pos (starEach [.Name "ValueError" p2] X.env)).any (·.1) = false := by rfl) :
    EV X ρ s (.Call (.Name "isinstance" p) [a, .Name "ValueError" p2] [] pos) (.bl k) := ev_isRaw (cv := .type "ValueError") T ha C (pe_bltn (v := .ty "ValueError") hgc T.valueError (show bootBuiltins "ValueError" = some (.type "ValueError") by decide +kernel) rfl) (fun _ r => r) hk hg h1 h3 h2
/-- try: body / except C as e: caught = e -/
theorem sx_try {body : List Stmt} {en cn xc : Str} {q1 q2 q3 q4 q5 q6 : Pos} {cA : Addr} {j1 : Nat} (i j : Nat) (hij : i ≠ j) (nd : X.N.Nodup)
    (hb : ∀ (pn : List (Addr × Obj)) (xe : Value → Shared → Prop), SB (X.tr pn xe) ρ s body { nx := A.nx, rt := fun _ _ => False, xr := fun ρ' s' => i < ρ'.length ∧ A.nx (((ρ'.set i .no).set j (.d (.exc (He.ga X.K "NoDeed")))).set i .no) s' })
    (hm : X.mg xc = some (.ref cA)) (hx : PySem.W.exmOne X.K (.ref (He.ga X.K "NoDeed")) (.ref cA) = some true) (hs : X.stack = X.env :: X.outer := by rfl) (hf : X.env.frame = some X.env.locals := by rfl) (hxe : X.ex = [] := by rfl)
    (hi : X.N[i]? = some en := by rfl) (hj : X.N[j]? = some cn := by rfl) (hli : X.env.kindOf en = some .local := by rfl) (hlj : X.env.kindOf cn = some .local := by rfl) (hgc : Gl X xc := by rfl) (hdb : (xc == ("__debug__" : Str)) = false := by decide)
    (d1 : (en == ("__debug__" : Str)) = false := by decide) (d2 : (en == ("__classdict__" : Str)) = false := by decide) (hv : Vis X.env.scope en := by first | exact Or.inl rfl | exact Or.inr (Or.inl rfl) | exact Or.inr (Or.inr rfl))
    (hsw : swapsWith (.Name en q4) (some (.Name cn q5)) q6.line X.env = pure false := by rfl) (hlo : L2.Loc X.env.scope cn := by first | exact Or.inl rfl | exact Or.inr rfl) (hsf : X.env.scope.names.lookup cn = some .local := by rfl) :
    SX X ρ s (.Try body [.ExceptHandler (some (.Name xc q1)) (some en) [.Assign [.Name cn q5] (.Name en q4) q6] q2] [] [] q3) A := fun w σ E W rl tk dm =>
  semS_of (ps_try_keep (c := .ref cA) (tb := fun W' D σ H => ∀ (pn : List (Addr × Obj)) (xe : Value → Shared → Prop), Takes (X.tr pn xe) W' → tSemB (X.tr pn xe) body D σ H) hs hf hxe nd hi hli ⟨hgc, hdb, .inl hm⟩ (fun W' pn xe tk' _ => ⟨fun pins z σ' H' D I h => h pn xe tk' pins z I⟩)
    fun a ob cls pn hz hfv => pss_one (ps_set (X := X.suite a ((a, ob) :: pn)) nd hj hlo (pe_var (X := X.suite a ((a, ob) :: pn)) hi hv d1 d2) hsw (.inr hsf)))
    fun pn xe tk' => hb pn xe w σ E _ ⟨rl.sto, rl.env⟩ tk' ⟨fun w' σ' ρ' s' l r h => dm.nx w' σ' ρ' s' l r h, fun _ _ _ _ _ _ _ h => h.elim, fun _ _ _ _ _ _ h => h.elim, fun _ _ _ _ _ _ h => h.elim, fun w' σ' ρ' s' l r h => by
      refine ⟨hx, rfl, fun a ha => ⟨.ref a, ?_, ?_⟩⟩
      · exact List.getElem?_set_self (by rw [r.env.len]; exact h.1)
      · have f := r.sto.fresh ha
        have e1 : Same w'.H (upd w'.H a (CxO (.ref (He.ga X.K "NoDeed")) a)) := same_upd ha
        exact dm.nx (w'.to _) _ _ s' (l.trans (Le.same e1)) ⟨r.sto.same e1, (((r.env.same e1).wipe1 (i := i) (o := some (.ref a))).setD (i := j) (.exc ⟨f.1, f.2, upd_same⟩)).wipe1 (i := i) (o := none)⟩ h.2⟩
end

/-! ### a new watch -/
/-- what Watch.__init__ does -/
def iSp (K : PySem.W.Frag) : Sp := fun vs H Q _ => ∃ (x dx : Addr) (vb : V), vs = [.ref x, vb] ∧ H x = some (.ins (wC K) dx []) ∧
  ∀ T l, H T = none → upd H T (.tup [.int 0, vb]) l = none → Q .non (upd (upd (upd H T (.tup [.int 0, vb])) l (.lst [.ref T])) x (.ins (wC K) dx [("states", .ref l)]))
section
variable {X : Cx} {ρ : List Sl} {s : List MO} {e a b c o : Expr} {es : List Expr} {pos pos' p p2 apos : Pos} {d x y : D} {lv n m : Nat} {A : AEnds}
theorem sx_make {xn : Str} {f : Addr} {fd : FuncData} {ps : List Str} (n : Nat) (M : Mk X.K (wC X.K) f) (G : FnOk X.prog X.w X.K X.mg X.base CX0 lv f fd ps (iSp X.K)) (hb : Binds X.K fd ps []) (hr : Room (lv + 1) X.A) (hm : X.mg "Watch" = some (.ref (wC X.K))) (nd : X.N.Nodup) (he : EV X ρ s e d)
    (h : A.nx (ρ.set n (.r s.length)) (s ++ [.wat (s.length + 1), .lst [.tup [.int 0, d]]])) (hi : X.N[n]? = some xn := by rfl) (hx : L2.Loc X.env.scope xn := by first | exact Or.inl rfl | exact Or.inr rfl) (hg : Gl X "Watch" := by rfl)
    (h1 : starEach [e] X.env = (false, eval e X.env) :: starEach [] X.env := by rfl) (h2 : (backTo p2 (starEach [] X.env)).any (·.1) = false := by rfl)
    (hs : swapsWith (.Call (.Name "Watch" p) [e] [] p2) (some (.Name xn pos')) pos.line X.env = pure false := by rfl) (hf : X.fn xn = true ∨ X.env.scope.names.lookup xn = some .local := by first | exact .inl rfl | exact .inr rfl) :
    SX X ρ s (.Assign [.Name xn pos'] (.Call (.Name "Watch" p) [e] [] p2) pos) A := fun w σ E W rl tk dm =>
  semS_of (ps_set nd hi hx (pe_make M G hr hg hm hb .nil pass0 (pa_cons pe_sem pa_nil h1) (by decide) h1 h2) hs hf) (he w σ rl _ fun v H1 e1 r1 => by
    refine fun x dx hx hdx hne => ⟨x, dx, v, rfl, upd_same, fun T l hT hl => ⟨rfl, ?_⟩⟩
    have x1 := rl.sto.same e1
    have nTx : T ≠ x := fun z => by rw [z, upd_same] at hT; cases hT
    rw [upd_ne nTx] at hT
    have nTd : T ≠ dx := fun z => by rw [z, upd_same] at hT; cases hT
    rw [upd_ne nTd] at hT
    have nlT : l ≠ T := fun z => by rw [z, upd_same] at hl; cases hl
    rw [upd_ne nlT] at hl
    have nlx : l ≠ x := fun z => by rw [z, upd_same] at hl; cases hl
    rw [upd_ne nlx] at hl
    have nld : l ≠ dx := fun z => by rw [z, upd_same] at hl; cases hl
    rw [upd_ne nld] at hl
    generalize hH : upd (upd (upd (upd (upd H1 dx (.own x)) x (.ins (wC X.K) dx [])) T (.tup [.int 0, v])) l (.lst [.ref T])) x (.ins (wC X.K) dx [("states", .ref l)]) = H5
    have k5 : ∀ b o, H1 b = some o → H5 b = some o := fun b o q => by
      rw [← hH, upd_ne (ne_of_none q hx), upd_ne (ne_of_none q hl), upd_ne (ne_of_none q hT), upd_ne (ne_of_none q hx), upd_ne (ne_of_none q hdx)]
      exact q
    have f1 := x1.fresh hx
    have f2 := x1.fresh hl
    have f3 := x1.fresh hT
    have hT5 : H5 T = some (.tup [.int 0, v]) := by rw [← hH, upd_ne nTx, upd_ne (Ne.symm nlT), upd_same]
    have hl5 : H5 l = some (.lst [.ref T]) := by rw [← hH, upd_ne nlx, upd_same]
    have hx5 : H5 x = some (.ins (wC X.K) dx [("states", .ref l)]) := by rw [← hH, upd_same]
    have e5 : Same H1 H5 := k5
    have ee : Same w.H H5 := e1.trans e5
    have fl : Fle (w.to H1) ⟨w.S, w.α ++ [x, l], H5⟩ := fun b q1 q2 ⟨o, q3⟩ => ⟨q1, (fun z => by
      replace q3 : H1 b = some o := q3
      rcases List.mem_append.mp z with z | z
      · exact q2 z
      · rcases List.mem_cons.mp z with z | z
        · rw [z, hx] at q3; cases q3
        · rw [List.mem_singleton.mp z, hl] at q3; cases q3), (by rw [show (w.to H1).H b = some o from q3]; exact k5 b o q3)⟩
    have lw : Le w ⟨w.S, w.α ++ [x, l], H5⟩ := ⟨rfl, fun b o _ q => ee b o q, (fun b q => by
      rcases List.mem_append.mp q with q | q
      · exact .inl q
      · refine .inr ?_
        cases z : w.H b with
        | none => rfl
        | some o =>
          have z1 := e1 b o z
          rcases List.mem_cons.mp q with q | q
          · rw [q, hx] at z1; cases z1
          · rw [List.mem_singleton.mp q, hl] at z1; cases z1), ⟨[x, l], rfl⟩⟩
    have hlen := rl.sto.len
    have gx : (w.α ++ [x, l])[s.length]? = some x := by rw [← hlen, List.getElem?_append_right (Nat.le_refl _), Nat.sub_self]; rfl
    have gl : (w.α ++ [x, l])[s.length + 1]? = some l := by rw [← hlen, List.getElem?_append_right (Nat.le_succ _), show w.α.length + 1 - w.α.length = 1 by omega]; rfl
    refine dm.nx ⟨w.S, w.α ++ [x, l], H5⟩ _ _ _ lw ⟨⟨fun b q z => ?_, by simp [hlen], ?_, fun b q => ?_, fun i b o q1 q2 => ?_⟩, (rl.env.fle lw.fle fun _ _ q => lw.ix q).setR gx⟩ h
    · exact (x1.same e5).sok b q z
    · rw [List.nodup_append]
      refine ⟨x1.nd, by simp [Ne.symm nlx], fun b q b' q' z => ?_⟩
      subst z
      rcases List.mem_cons.mp q' with q' | q'
      · rw [q'] at q; exact f1.2 q
      · rw [List.mem_singleton.mp q'] at q; exact f2.2 q
    · rcases List.mem_append.mp q with q | q
      · exact x1.ns b q
      · rcases List.mem_cons.mp q with q | q
        · rw [q]; exact f1.1
        · rw [List.mem_singleton.mp q]; exact f2.1
    · by_cases hi' : i < s.length
      · rw [List.getElem?_append_left (by rw [hlen]; exact hi')] at q1
        rw [List.getElem?_append_left hi'] at q2
        have mm := x1.mo i b o q1 q2
        cases o with
        | lst ds => obtain ⟨vs, g, r⟩ := mm; exact ⟨vs, k5 _ _ g, r.mono fl⟩
        | dk ds => obtain ⟨vs, g, r⟩ := mm; exact ⟨vs, k5 _ _ g, r.mono fl⟩
        | dt ds => obtain ⟨vs, g, r⟩ := mm; exact ⟨vs, k5 _ _ g, r.mono fl⟩
        | wat j => obtain ⟨dy, u, g, r⟩ := mm; exact ⟨dy, u, k5 _ _ g, lw.ix r⟩
        | ll js => obtain ⟨bs, g, r, t⟩ := mm; exact ⟨bs, k5 _ _ g, r, fun i j b q1 q2 => lw.ix (t i j b q1 q2)⟩
      · by_cases h0 : i = s.length
        · subst h0
          have q1' : (w.α ++ [x, l])[s.length]? = some b := q1
          rw [gx] at q1'
          rw [List.getElem?_append_right (Nat.le_refl _), Nat.sub_self] at q2
          cases q1'
          cases q2
          exact ⟨dx, l, hx5, gl⟩
        · by_cases h1 : i = s.length + 1
          · subst h1
            have q1' : (w.α ++ [x, l])[s.length + 1]? = some b := q1
            rw [gl] at q1'
            rw [List.getElem?_append_right (Nat.le_succ _), show s.length + 1 - s.length = 1 by omega] at q2
            cases q1'
            cases q2
            refine ⟨[.ref T], hl5, .cons (.tup ⟨f3.1, fun z => ?_, hT5⟩ (.cons (.int 0) (.cons (r1.mono fl) .nil))) .nil⟩
            rcases List.mem_append.mp z with z | z
            · exact f3.2 z
            · rcases List.mem_cons.mp z with z | z
              · exact nTx z
              · exact nlT (List.mem_singleton.mp z).symm
          · rw [List.getElem?_eq_none (by simp; omega)] at q2
            cases q2)
end
/-! ### a list of new lists -/
section
variable {X : Cx} {ρ : List Sl} {s : List MO} {e a b c o iter : Expr} {es : List Expr} {pos pos' p p2 apos : Pos} {d x y : D} {lv m : Nat} {A : AEnds}
/-- many new objects become the def's own -/
theorem Sto.adds {K : PySem.W.Frag} {w : Wd} {H' : Hp} {ps : List Addr} {os : List MO} (x : Sto K w s) (e : Same w.H H') (hp : ∀ q ∈ ps, w.H q = none) (nd : ps.Nodup) (hl : ps.length = os.length) (ho : ∀ (i : Nat) q o, ps[i]? = some q → os[i]? = some o → Mok K ⟨w.S, w.α ++ ps, H'⟩ q o) :
    Le w ⟨w.S, w.α ++ ps, H'⟩ ∧ Sto K ⟨w.S, w.α ++ ps, H'⟩ (s ++ os) := by
  have l : Le w ⟨w.S, w.α ++ ps, H'⟩ := ⟨rfl, fun a u _ h => e a u h, (fun a h => by
    rcases List.mem_append.mp h with h | h
    · exact .inl h
    · exact .inr (hp a h)), ⟨ps, rfl⟩⟩
  refine ⟨l, fun a h => (x.same e).sok a h, by rw [List.length_append, List.length_append, x.len, hl], ?_, fun a h => ?_, fun i a u h1 h2 => ?_⟩
  · refine List.nodup_append.mpr ⟨x.nd, nd, fun a ha b hb z => ?_⟩
    subst z
    exact (x.fresh (hp a hb)).2 ha
  · rcases List.mem_append.mp h with h | h
    · exact x.ns a h
    · exact (x.fresh (hp a h)).1
  · by_cases hi : i < s.length
    · have h1' : w.α[i]? = some a := by rw [← List.getElem?_append_left (by rw [x.len]; exact hi)]; exact h1
      have h2' : s[i]? = some u := by rw [← List.getElem?_append_left hi]; exact h2
      have m := x.mo i a u h1' h2'
      obtain ⟨t, ht⟩ : ∃ t, w.H a = some t := by
        cases q : w.H a with
        | none => exact absurd q m.ne
        | some t => exact ⟨t, rfl⟩
      exact m.grow l.fle (fun _ _ h => l.ix h) (by rw [ht]; exact e a t ht)
    · have h1' : (w.α ++ ps)[i]? = some a := h1
      rw [List.getElem?_append_right (by rw [x.len]; omega), x.len] at h1'
      rw [List.getElem?_append_right (by omega)] at h2
      exact ho _ a u h1' h2
def llS (n k : Nat) : List MO := List.replicate k (.lst []) ++ [.ll ((List.range k).map (n + ·))]
/-- x = [[] for v in range(k)] -/
theorem sx_newLL {k : Nat} (r q : Nat) {xn n : Str} {tp lp : Pos} {scope : Scope} (T : Tops X.K X.mg) (nd : X.N.Nodup) (hi : ES X ρ s (.Name n tp) iter ((rng k).map D.int)) (hz : k ≤ 100000)
    (ok : BlkOk X.N X.env.scope scope [(n, q)]) (hN : X.N[q]? = some n) (hl : L2.Loc (relabel scope X.env) n) (hf : (scope.names.lookup n == some .cell) = true ∨ (relabel scope X.env).names.lookup n = some .local)
    (h : A.nx (ρ.set r (.r (s.length + k))) (s ++ llS s.length k)) (hy : X.N[r]? = some xn := by rfl) (hyl : X.env.scope.names.lookup xn = some .local := by rfl)
    (hsw : swapsWith (.ListComp (.List [] lp) [⟨.Name n tp, iter, [], 0⟩] scope pos) (some (.Name xn p)) pos'.line X.env = pure true := by exact sw_true rfl rfl rfl (by decide +kernel)) (hc : X.calm = true := by rfl) (hs : ∀ x, foldedSetIterable iter X.env x = pure x := by intro _; rfl) :
    SX X ρ s (.Assign [.Name xn p] (.ListComp (.List [] lp) [⟨.Name n tp, iter, [], 0⟩] scope pos) pos') A := by
  obtain ⟨wi, i1, i2⟩ := hi
  refine fun w σ E W rl tk dm => semS_of (ps_setLc hc nd hy hyl hsw i1 ok (fun _ _ _ _ _ => pg_name (X := X.blk _ _ scope _ _) nd hN hl hf) (fun _ _ _ _ _ => pts_nil) (fun _ _ _ _ _ => pe_lst pa_nil) hs) ?_
  refine i2 w σ rl _ fun J H1 e1 okJ L hL => ?_
  refine ⟨fun i mm H => mm = k - i ∧ i ≤ k ∧ Same H1 H ∧ ∃ bs : List Addr, H L = some (.lst (bs.map V.ref)) ∧ bs.length = i ∧ bs.Nodup ∧ ∀ b ∈ bs, b ≠ L ∧ H1 b = none ∧ H b = some (.lst []), ⟨k, rfl, Nat.zero_le _, same_upd hL, [], upd_same, rfl, List.nodup_nil, fun b h => nomatch h⟩, ?_⟩
  rintro i mm H ⟨rfl, hik, e2, bs, hA, hlen, hnd, hb⟩
  obtain ⟨fl, rl2⟩ := (rl.same e1).avoid (q := L) hL e2 (by rw [hA]; exact fun z => nomatch z)
  have hln : ((rng k).map D.int).length = k := by rw [List.length_map, rng_len]
  by_cases hlt : i < k
  · obtain ⟨d, hd⟩ : ∃ d, ((rng k).map D.int)[i]? = some d := ⟨((rng k).map D.int)[i]'(by rw [hln]; exact hlt), by simp⟩
    obtain ⟨go, yl⟩ := okJ.go (w.av L H) s fl rl2.sto i d hd
    refine .inr ⟨go, fun H' => Same H1 H' ∧ ∃ bs : List Addr, H' L = some (.lst (bs.map V.ref)) ∧ bs.length = i + 1 ∧ bs.Nodup ∧ ∀ b ∈ bs, b ≠ L ∧ H1 b = none ∧ H' b = some (.lst []), fun H' g => ⟨k - (i + 1), by omega, rfl, hlt, g⟩, fun v H3 hy3 => ?_⟩
    obtain ⟨e3, _⟩ := yl v H3 hy3
    refine ⟨?_, ?_⟩
    · show ((σ.set q none).set q (some v)).set q none = σ.set q none
      rw [List.set_set, List.set_set]
    · show _ ∧ ∀ pp, H3 pp = none → _
      refine ⟨by decide, fun pp hpp => ?_⟩
      have hLL : L ≠ pp := fun z => by
        have := e3 _ _ hA
        rw [z, hpp] at this
        cases this
      refine ⟨bs.map V.ref, by rw [upd_ne hLL]; exact e3 _ _ hA, Nat.lt_of_le_of_lt (by rw [List.length_map, hlen]; omega : _ ≤ 100000) (by decide), fun b t hbt => ?_, bs ++ [pp], by rw [upd_same, List.map_append]; rfl, by rw [List.length_append, hlen]; rfl, ?_, fun b hbm => ?_⟩
      · have g1 := e3 _ _ (e2 _ _ hbt)
        rw [upd_ne (fun z => by rw [z, hL] at hbt; cases hbt), upd_ne (fun z => by rw [z, hpp] at g1; cases g1)]
        exact g1
      · refine List.nodup_append.mpr ⟨hnd, List.nodup_cons.mpr ⟨List.not_mem_nil, List.nodup_nil⟩, fun b h1 b' h2 z => ?_⟩
        rw [List.mem_singleton.mp h2] at z
        have g := e3 _ _ (hb b h1).2.2
        rw [z, hpp] at g
        cases g
      · rcases List.mem_append.mp hbm with h1 | h1
        · obtain ⟨g1, g2, g3⟩ := hb b h1
          have g4 := e3 _ _ g3
          exact ⟨g1, g2, by rw [upd_ne g1, upd_ne (fun z => by rw [z, hpp] at g4; cases g4)]; exact g4⟩
        · have z := List.mem_singleton.mp h1
          subst z
          refine ⟨Ne.symm hLL, ?_, by rw [upd_ne (Ne.symm hLL), upd_same]⟩
          cases g : H1 b with
          | none => rfl
          | some t =>
            have := e3 _ _ (e2 _ _ g)
            rw [hpp] at this
            cases this
  · have hi' : i = k := by omega
    subst hi'
    refine .inl ⟨by have := okJ.stop (w.av L H) s fl rl2.sto; rw [hln] at this; exact this, ?_⟩
    have x1 := rl.sto.same e1
    have hlS : s.length = w.α.length := rl.sto.len.symm
    have gg : ∀ (j : Nat) q, (bs ++ [L])[j]? = some q → (w.α ++ (bs ++ [L]))[s.length + j]? = some q := fun j q h => by
      rw [List.getElem?_append_right (by omega), show s.length + j - w.α.length = j by omega]
      exact h
    obtain ⟨l, x2⟩ := x1.adds (H' := H) (ps := bs ++ [L]) (os := llS s.length i) e2 (fun q hq => by
        rcases List.mem_append.mp hq with h1 | h1
        · exact (hb q h1).2.1
        · rw [List.mem_singleton.mp h1]; exact hL) (by
        refine List.nodup_append.mpr ⟨hnd, List.nodup_cons.mpr ⟨List.not_mem_nil, List.nodup_nil⟩, fun b h1 b' h2 z => ?_⟩
        rw [List.mem_singleton.mp h2] at z
        exact (hb b h1).1 z) (by unfold llS; simp [hlen]) fun j q o h1 h2 => by
        unfold llS at h2
        by_cases hj : j < i
        · rw [List.getElem?_append_left (by rw [hlen]; exact hj)] at h1
          rw [List.getElem?_append_left (by rw [List.length_replicate]; exact hj), List.getElem?_replicate, if_pos hj] at h2
          cases h2
          exact ⟨[], (hb q (List.mem_of_getElem? h1)).2.2, .nil⟩
        · have hj' : j = i := by
            have := (List.getElem?_eq_some_iff.mp h1).1
            rw [List.length_append, hlen, List.length_singleton] at this
            omega
          subst hj'
          rw [List.getElem?_append_right (by omega), hlen, Nat.sub_self] at h1
          rw [List.getElem?_append_right (by rw [List.length_replicate]; exact Nat.le_refl _), List.length_replicate, Nat.sub_self] at h2
          cases h1
          cases h2
          refine ⟨bs, hA, by rw [List.length_map, List.length_range, hlen], fun t j b q1 q2 => ?_⟩
          rw [List.getElem?_map] at q1
          obtain ⟨t', g1, g2⟩ := Option.map_eq_some_iff.mp q1
          have ht : t < bs.length := (List.getElem?_eq_some_iff.mp q2).1
          rw [List.getElem?_range (by omega)] at g1
          cases g1
          subst g2
          exact gg t b (by rw [List.getElem?_append_left ht]; exact q2)
    refine dm.nx ⟨w.S, w.α ++ (bs ++ [L]), H⟩ _ _ _ ((Le.same e1).trans l) ⟨x2, ((rl.env.same e1).fle l.fle fun _ _ h => l.ix h).setR (j := s.length + i) ?_⟩ h
    exact gg i L (by rw [List.getElem?_append_right (by omega), hlen, Nat.sub_self]; rfl)
/-- return of a list of lists of the def's own -/
theorem sx_retLL {n : Nat} {js : List Nat} {dss : List (List D)} (he : EI X ρ s e n) (hn : s[n]? = some (.ll js)) (hl : js.length = dss.length) (hj : ∀ (i : Nat) j ds, js[i]? = some j → dss[i]? = some ds → s[j]? = some (.lst ds)) (h : A.rt (.lst (dss.map D.lst)) s) : SX X ρ s (.Return (some e) pos) A := fun w σ E W rl tk dm =>
  semS_of (ps_ret pe_sem) (he w σ rl _ fun a H' e1 ha => by
    have x := rl.sto.same e1
    have fl : Fle (w.to H') ⟨w.S, [], H'⟩ := fun a h1 h2 _ => ⟨h1, List.not_mem_nil, rfl⟩
    obtain ⟨bs, h1, h2, h3⟩ := x.mo n a _ ha hn
    refine dm.rt (w.to H') s _ _ (Le.same e1) x (.lst ⟨x.ns a (List.mem_of_getElem? ha), List.not_mem_nil, h1⟩ (Reps.of_get (by rw [List.length_map, List.length_map, h2, hl]) fun i v d q1 q2 => ?_)) h
    rw [List.getElem?_map] at q1 q2
    obtain ⟨b, g1, g2⟩ := Option.map_eq_some_iff.mp q1
    obtain ⟨ds, g3, g4⟩ := Option.map_eq_some_iff.mp q2
    subst g2 g4
    obtain ⟨j, g5⟩ : ∃ j, js[i]? = some j := ⟨js[i]'(by rw [hl]; exact (List.getElem?_eq_some_iff.mp g3).1), by simp⟩
    have g6 := h3 i j b g5 g1
    obtain ⟨vs, g7, g8⟩ := x.mo j b _ g6 (hj i j ds g5 g3)
    exact .lst ⟨x.ns b (List.mem_of_getElem? g6), List.not_mem_nil, g7⟩ (g8.mono fl))
end
/-! ### more on statements -/
section
variable {X : Cx} {ρ : List Sl} {s : List MO} {e : Expr} {pos : Pos} {d : D} {A : AEnds} {st : Stmt} {rest : List Stmt}
/-- a call by itself that leaves all as it was -/
theorem sx_expr (he : EV X ρ s e d) (h : A.nx ρ s) (hs : swapsWith e none pos.line X.env = pure false := by rfl) : SX X ρ s (.Expr e pos) A := fun w σ E W rl tk dm =>
  semS_of (ps_expr pe_sem hs) (he w σ rl _ fun v H' e1 r => dm.nx (w.to H') _ _ _ (Le.same e1) (rl.same e1) h)
theorem sx_nx {m m' : List Sl → List MO → Prop} (h : SX X ρ s st { A with nx := m }) (k : ∀ ρ s, m ρ s → m' ρ s) : SX X ρ s st { A with nx := m' } := fun w σ E W rl tk dm =>
  h w σ E W rl tk ⟨fun w' σ' ρ' s' l r q => dm.nx w' σ' ρ' s' l r (k _ _ q), dm.rt, dm.bk, dm.ct, dm.xr⟩
/-- what holds behind the first statement -/
theorem sb_cut (m : List Sl → List MO → Prop) (h : SX X ρ s st { A with nx := m }) (h2 : ∀ ρ' s', m ρ' s' → SB X ρ' s' rest A) : SB X ρ s (st :: rest) A := sb_cons (sx_nx h h2)
theorem sb_nx {m m' : List Sl → List MO → Prop} {b : List Stmt} (h : SB X ρ s b { A with nx := m }) (k : ∀ ρ s, m ρ s → m' ρ s) : SB X ρ s b { A with nx := m' } := fun w σ E W rl tk dm =>
  h w σ E W rl tk ⟨fun w' σ' ρ' s' l r q => dm.nx w' σ' ρ' s' l r (k _ _ q), dm.rt, dm.bk, dm.ct, dm.xr⟩
end
theorem en_is {X : Cx} {ρ : List Sl} {s : List MO} {e : Expr} {xs ys : List D} (h : EN X ρ s e xs) (k : xs = ys) : EN X ρ s e ys := by rw [← k]; exact h
theorem repN (m : Nat) (x : D) : (List.replicate ((m : Int)).toNat [x]).flatten = List.replicate m x := by
  rw [Int.toNat_natCast]
  induction m with
  | zero => rfl
  | succ m ih => rw [List.replicate_succ, List.flatten_cons, ih]; rfl
/-! ## The program's defs -/
abbrev PW : Program := PySem.Challenge.pw_lamprota_k54_deeds_refused
def top (i : Nat) : Stmt := PW.main.body.getD i (.Pass ⟨0, 0, 0, 0⟩)
abbrev sNightNeed : Stmt := top 9
abbrev sNeed : Stmt := top 10
abbrev sCanBurn : Stmt := top 11
abbrev sCutTo : Stmt := top 12
abbrev sLeftOut : Stmt := top 13
abbrev sWithBoat : Stmt := top 14
abbrev sCheckedTicks : Stmt := top 16
abbrev sLaid : Stmt := top 17
abbrev sTicksIn : Stmt := top 18
abbrev sStoreNode : Stmt := top 22
abbrev sTankNode : Stmt := top 23
abbrev sFlameNode : Stmt := top 24
abbrev sNightNode : Stmt := top 25
abbrev sLampTies : Stmt := top 26
abbrev sDayTies : Stmt := top 27
abbrev sWebOf : Stmt := top 28
abbrev sFlowsBetween : Stmt := top 29
abbrev sDayBy : Stmt := top 30
abbrev sRotaBy : Stmt := top 31
abbrev sTiesAt : Stmt := top 33
abbrev sStepsFrom : Stmt := top 34
abbrev sComeTo : Stmt := top 35
abbrev sWayBack : Stmt := top 36
abbrev sRoomOn : Stmt := top 37
abbrev sSent : Stmt := top 38
abbrev sMostFlow : Stmt := top 39
abbrev sLeastSide : Stmt := top 40
abbrev sTold : Stmt := top 42
abbrev sSpanFault : Stmt := top 46
abbrev sDarkFault : Stmt := top 47
abbrev sTicksBy : Stmt := top 48
abbrev sBuyingFault : Stmt := top 49
abbrev sBurningFault : Stmt := top 50
abbrev sBegun : Stmt := top 51
abbrev sPouredIn : Stmt := top 52
abbrev sDayFault : Stmt := top 53
abbrev sDayGone : Stmt := top 54
abbrev sFault : Stmt := top 55
abbrev sEvenings : Stmt := top 56
abbrev sBehindNight : Stmt := top 58
abbrev sWithDay : Stmt := top 59
abbrev sLawCell : Stmt := top 62
abbrev sLawStir : Stmt := top 63
abbrev sLawLamp : Stmt := top 64
abbrev sLawDay : Stmt := top 65
abbrev sLawBook : Stmt := top 66
abbrev sLawAfter : Stmt := top 67
abbrev sLawFailed : Stmt := top 68
abbrev sLawDayPut : Stmt := top 69
abbrev sLawPlainDay : Stmt := top 70
abbrev sLawDayBy : Stmt := top 71
abbrev sLawDeed : Stmt := top 72
abbrev sLawAwayDay : Stmt := top 73
abbrev sLawSpansOff : Stmt := top 74
abbrev sLawSpoiltDay : Stmt := top 75
abbrev sLawBadDay : Stmt := top 76
abbrev sLawTry : Stmt := top 77
abbrev sLawTryBehind : Stmt := top 78
abbrev sLawRefused : Stmt := top 79
abbrev sLaw : Stmt := top 80
abbrev wInit : Stmt := inClass (top 60) 0
abbrev wToday : Stmt := inClass (top 60) 1
abbrev wRest : Stmt := inClass (top 60) 2
abbrev wTold : Stmt := inClass (top 60) 3
abbrev wOpenRest : Stmt := inClass (top 60) 4
abbrev wPlaceOf : Stmt := inClass (top 60) 5
abbrev wNight : Stmt := inClass (top 60) 6
abbrev wFails : Stmt := inClass (top 60) 7
abbrev wBoat : Stmt := inClass (top 60) 8
abbrev wWants : Stmt := inClass (top 60) 9
abbrev wBack : Stmt := inClass (top 60) 10
abbrev wLeft : Stmt := inClass (top 60) 11
/-! ## the head -/
def mkD (n : Str) (st : Stmt) : He.DefD := ⟨(n, none), n, n, defArgs st, defBody st, defScope st, [], []⟩
def mkM (n q : Str) (st : Stmt) : He.DefD := ⟨("Watch", some n), n, q, defArgs st, defBody st, defScope st, [], []⟩
def fnL0 : List He.DefD := [mkD "night_need" sNightNeed, mkD "need" sNeed, mkD "can_burn" sCanBurn, mkD "cut_to" sCutTo, mkD "left_out" sLeftOut, mkD "with_boat" sWithBoat, mkD "checked_ticks" sCheckedTicks, mkD "laid" sLaid, mkD "ticks_in" sTicksIn, mkD "store_node" sStoreNode, mkD "tank_node" sTankNode, mkD "flame_node" sFlameNode, mkD "night_node" sNightNode, mkD "lamp_ties" sLampTies, mkD "day_ties" sDayTies, mkD "web_of" sWebOf, mkD "flows_between" sFlowsBetween, mkD "day_by" sDayBy, mkD "rota_by" sRotaBy, mkD "ties_at" sTiesAt]
def fnL1 : List He.DefD := [mkD "steps_from" sStepsFrom, mkD "come_to" sComeTo, mkD "way_back" sWayBack, mkD "room_on" sRoomOn, mkD "sent" sSent, mkD "most_flow" sMostFlow, mkD "least_side" sLeastSide, mkD "told" sTold, mkD "span_fault" sSpanFault, mkD "dark_fault" sDarkFault, mkD "ticks_by" sTicksBy, mkD "buying_fault" sBuyingFault, mkD "burning_fault" sBurningFault, mkD "begun" sBegun, mkD "poured_in" sPouredIn, mkD "day_fault" sDayFault, mkD "day_gone" sDayGone, mkD "fault" sFault, mkD "evenings" sEvenings, mkD "behind_night" sBehindNight]
def fnL2 : List He.DefD := [mkD "with_day" sWithDay, mkD "_law_cell" sLawCell, mkD "_law_stir" sLawStir, mkD "_law_lamp" sLawLamp, mkD "_law_day" sLawDay, mkD "_law_book" sLawBook, mkD "_law_after" sLawAfter, mkD "_law_failed" sLawFailed, mkD "_law_day_put" sLawDayPut, mkD "_law_plain_day" sLawPlainDay, mkD "_law_day_by" sLawDayBy, mkD "_law_deed" sLawDeed, mkD "_law_away_day" sLawAwayDay, mkD "_law_spans_off" sLawSpansOff, mkD "_law_spoilt_day" sLawSpoiltDay, mkD "_law_bad_day" sLawBadDay, mkD "_law_try" sLawTry, mkD "_law_try_behind" sLawTryBehind, mkD "_law_refused" sLawRefused, mkD "law" sLaw]
def fnL3 : List He.DefD := [mkM "__init__" "Watch.__init__" wInit, mkM "today" "Watch.today" wToday, mkM "rest" "Watch.rest" wRest, mkM "told" "Watch.told" wTold, mkM "open_rest" "Watch.open_rest" wOpenRest, mkM "place_of" "Watch.place_of" wPlaceOf, mkM "night" "Watch.night" wNight, mkM "fails" "Watch.fails" wFails, mkM "boat" "Watch.boat" wBoat, mkM "wants" "Watch.wants" wWants, mkM "back" "Watch.back" wBack, mkM "left" "Watch.left" wLeft]
def fnL : List He.DefD := fnL0 ++ fnL1 ++ fnL2 ++ fnL3
def faL0 : List He.Fa := [.glo "night_need", .glo "need", .glo "can_burn", .glo "cut_to", .glo "left_out", .glo "with_boat", .glo "checked_ticks", .glo "laid", .glo "ticks_in", .glo "store_node", .glo "tank_node", .glo "flame_node", .glo "night_node", .glo "lamp_ties", .glo "day_ties", .glo "web_of", .glo "flows_between", .glo "day_by", .glo "rota_by", .glo "ties_at"]
def faL1 : List He.Fa := [.glo "steps_from", .glo "come_to", .glo "way_back", .glo "room_on", .glo "sent", .glo "most_flow", .glo "least_side", .glo "told", .glo "span_fault", .glo "dark_fault", .glo "ticks_by", .glo "buying_fault", .glo "burning_fault", .glo "begun", .glo "poured_in", .glo "day_fault", .glo "day_gone", .glo "fault", .glo "evenings", .glo "behind_night"]
def faL2 : List He.Fa := [.glo "with_day", .glo "_law_cell", .glo "_law_stir", .glo "_law_lamp", .glo "_law_day", .glo "_law_book", .glo "_law_after", .glo "_law_failed", .glo "_law_day_put", .glo "_law_plain_day", .glo "_law_day_by", .glo "_law_deed", .glo "_law_away_day", .glo "_law_spans_off", .glo "_law_spoilt_day", .glo "_law_bad_day", .glo "_law_try", .glo "_law_try_behind", .glo "_law_refused", .glo "law"]
def faL3 : List He.Fa := [.glo "told_telling", .glo "Watch", .glo "LampError", .glo "BadBook", .glo "BadTicks", .glo "NoDeed", .glo "NoRest", .glo "BadRow", .free "len", .free "range", .free "min", .free "max", .free "sum", .free "sorted", .free "tuple", .free "list", .free "zip", .free "enumerate", .free "isinstance", .free "ValueError"]
def faL4 : List He.Fa := [.int "SEA" 0, .int "LIGHT" 1, .int "MOST_OIL" 1000000000000000000000000000000, .str "NO_FAULT" "", .cls "Watch", .noat "Watch" "states", .mkr "Watch", .meth "Watch" "__init__", .meth "Watch" "today", .meth "Watch" "rest", .meth "Watch" "told", .meth "Watch" "open_rest", .meth "Watch" "place_of", .meth "Watch" "night", .meth "Watch" "fails", .meth "Watch" "boat", .meth "Watch" "wants", .meth "Watch" "back", .meth "Watch" "left", .exc "NoDeed"]
def faL5 : List He.Fa := [.exm "NoDeed" "LampError" true, .keep "Watch"]
def faL : List He.Fa := faL0 ++ faL1 ++ faL2 ++ faL3 ++ faL4 ++ faL5
def loose0 : List Str := ["LampError", "BadBook", "BadTicks", "NoDeed", "NoRest", "BadRow", "MOST_OIL", "night_need", "need", "can_burn", "cut_to", "left_out", "with_boat", "checked_ticks", "laid", "ticks_in", "SEA", "LIGHT", "store_node", "tank_node"]
def loose1 : List Str := ["flame_node", "night_node", "lamp_ties", "day_ties", "web_of", "flows_between", "day_by", "rota_by", "ties_at", "steps_from", "come_to", "way_back", "room_on", "sent", "most_flow", "least_side", "told", "told_telling", "NO_FAULT", "span_fault"]
def loose2 : List Str := ["dark_fault", "ticks_by", "buying_fault", "burning_fault", "begun", "poured_in", "day_fault", "day_gone", "fault", "evenings", "behind_night", "with_day", "Watch", "_law_cell", "_law_stir", "_law_lamp", "_law_day", "_law_book", "_law_after", "_law_failed"]
def loose3 : List Str := ["_law_day_put", "_law_plain_day", "_law_day_by", "_law_deed", "_law_away_day", "_law_spans_off", "_law_spoilt_day", "_law_bad_day", "_law_try", "_law_try_behind", "_law_refused"]
def loose : List Str := loose0 ++ loose1 ++ loose2 ++ loose3
abbrev iLaw : Nat := 80

/-- what isinstance asks of the class NoDeed -/
def excB (K : PySem.W.Frag) : Bool :=
  let D := He.ga K "NoDeed"
  He.eqO (PySem.W.findIn K (.ref D) "__getattribute__") (some (some (.builtin "BaseException.__getattribute__"))) &&
  (He.eqO (PySem.W.findIn K (.ref D) "__getattr__") (some none) &&
  (decide (PySem.W.subIn K (.ref D) (.type "BaseException") = some true) &&
  (PySem.W.hasDictIn K D &&
  (He.eqO (PySem.W.findIn K (.ref D) "__class__") (some (some (.builtin "object.__class__"))) &&
  (He.eqO (PySem.W.specialIn K (.builtin "object.__class__") "__get__") (some (some (.builtin "getset_descriptor.__get__"))) &&
  (decide (PySem.W.takesIn K (.builtin "object.__class__") = some true) &&
  (decide (PySem.W.mroIn K D (.type "object") = some true) &&
  (decide (PySem.W.kitOne K (.ref D) (.ref (He.ga K "NoDeed")) = some true) &&
  (decide (PySem.W.kitOne K (.ref D) (.type "ValueError") = some true) &&
  (decide (PySem.W.kitOne K (.ref D) (.ref (He.ga K "BadBook")) = some false) &&
  (decide (PySem.W.kitOne K (.ref D) (.ref (He.ga K "BadRow")) = some false) &&
  (decide (PySem.W.kitOne K (.ref D) (.ref (He.ga K "BadTicks")) = some false) &&
  (decide (PySem.W.kitOne K (.ref D) (.ref (He.ga K "NoRest")) = some false) &&
  decide (He.ga K "told_telling" = He.ga K "told"))))))))))))))
abbrev AlX : Type := He.AlD × Bool
def obsX (K : PySem.W.Frag) : AlX := (He.obsD faL fnL K, excB K)
/-- what the module's names reach in four steps (a method's code), each step once -/
def refsG (g : Addr → Option Obj) (a : Addr) : List Addr := match g a with
  | some o => He.refsD o
  | none => []
def asX (g : Addr → Option Obj) : List Addr := (fun A1 => (fun A2 => (fun A3 => mainGlobals :: (A1 ++ (A2 ++ (A3 ++ A3.flatMap (refsG g))))) (A2.flatMap (refsG g))) (A1.flatMap (refsG g))) (refsG g mainGlobals)
def obsXG (g : Addr → Option Obj) : AlX := obsX (He.frG g (asX g))
def hookX : PySem.W.Hook where
  α := AlX
  obs := fun s => obsXG s.heap.get?
  val := fun _ => (He.valD fnL, true)
  says := fun _ h => ∃ K : PySem.W.Frag, K.In h ∧ obsX K = (He.valD fnL, true)
  of := fun _ _ e => ⟨_, He.frG_in, e⟩
  keeps := fun _ _ _ ⟨K, hK, c⟩ k => ⟨K, PySem.W.Frag.In.keeps hK k, c⟩
theorem obsXG_eq {g : Addr → Option Obj} {s : Shared} (h : ∀ a, g a = s.heap.get? a) : obsXG g = hookX.obs s := by
  have e : g = s.heap.get? := funext h
  rw [e] <;> rfl
abbrev R : PySem.W.OpenRow := PySem.W.OpenLaw.row PySem.Challenge.rw_lamprota_k54_deeds_refused
def ob (s : PySem.W.SharedT) : AlX := obsXG (HandSHeadRun.getT s)
theorem ob_eq (s : PySem.W.SharedT) : ob s = hookX.obs s.abs := obsXG_eq (HandSHeadRun.getT_eq s)
theorem run (w : World) : HandSHeadRun.RunEq R (PySem.W.view R.prog [80]) hookX ob 4000 loose w := by
  intro os
  kernel_rfl
/-! ## The books, as plain data -/
structure Lmp where
  tank : Int
  oil : Int
  away : List Int
structure Dy where
  boat : Int
  most : Int
  price : Int
  length : Int
  wanted : Int
structure Bk where
  store : Int
  oil : Int
  lamps : List Lmp
  days : List Dy
instance : Inhabited Lmp := ⟨⟨0, 0, []⟩⟩
instance : Inhabited Dy := ⟨⟨0, 0, 0, 0, 0⟩⟩
abbrev dInts (ns : List Int) : D := .tup (ns.map D.int)
def dLmp (l : Lmp) : D := .tup [.int l.tank, .int l.oil, dInts l.away]
def dDy (d : Dy) : D := .tup [.int d.boat, .int d.most, .int d.price, .int d.length, .int d.wanted]
def dBk (b : Bk) : D := .tup [.int b.store, .int b.oil, .tup (b.lamps.map dLmp), .tup (b.days.map dDy)]
theorem at_ {α β : Type} {f : α → β} {xs : List α} {j : Nat} {x : α} (h : xs[j]? = some x) : atI (xs.map f) (j : Int) = some (f x) := by
  rw [atI_map]
  unfold atI
  rw [ixN_nat (List.getElem?_eq_some_iff.mp h).1]
  show (xs[j]?).map f = _
  rw [h]
  rfl
theorem at_n {α : Type} {xs : List α} {j : Nat} {x : α} (h : xs[j]? = some x) : atI xs (j : Int) = some x := by
  unfold atI
  rw [ixN_nat (List.getElem?_eq_some_iff.mp h).1]
  exact h
theorem map_range {α β : Type} [Inhabited α] (g : α → β) (xs : List α) : (List.range xs.length).map (fun j => g xs[j]!) = xs.map g := by
  apply List.ext_getElem
  · simp
  · intro i h1 h2
    have h3 : i < xs.length := by simpa using h2
    simp [h3]
theorem get_bang {α : Type} [Inhabited α] {xs : List α} {j : Nat} (h : j < xs.length) : xs[j]? = some xs[j]! := by
  simp [h]
/-- from arguments to an answer -/
abbrev PF (F : List D → D → Prop) : List D → (D → Prop) → Prop := fun ds P => ∃ d, F ds d ∧ P d
structure IsDef (K : PySem.W.Frag) (mg : Str → Option Value) (n : Str) (st : Stmt) : Prop where
  ex : ∃ f fd, FunD K n n (defArgs st) (defBody st) (defScope st) [] [] f fd ∧ mg n = some (.ref f)
abbrev eNat (j : Nat) : D := .int (j : Int)
theorem es_rangeN {X : Cx} {ρ : List Sl} {s : List MO} {a : Expr} {p pos : Pos} {tg : Expr} {n : Nat} (T : Tops X.K X.mg) (h : EV X ρ s a (.int (n : Int))) (hz : n ≤ 100000) (hg : Gl X "range" := by rfl) (hs : starEach [a] X.env = [(false, eval a X.env)] := by rfl) : ES X ρ s tg (.Call (.Name "range" p) [a] [] pos) ((List.range n).map eNat) := by
  have := es_range (tg := tg) (p := p) (pos := pos) T h hz hg hs
  have e : (rng n).map D.int = (List.range n).map eNat := by unfold rng; rw [List.map_map]; rfl
  rw [e] at this
  exact this
theorem map_get {α β : Type} {f : α → β} {xs : List α} {i : Nat} {d : β} (h : (xs.map f)[i]? = some d) : ∃ x, xs[i]? = some x ∧ d = f x := by
  rw [List.getElem?_map] at h
  obtain ⟨x, h1, h2⟩ := Option.map_eq_some_iff.mp h
  exact ⟨x, h1, h2.symm⟩
theorem take_snoc {α : Type} {xs : List α} {i : Nat} {x : α} (h : xs[i]? = some x) : xs.take (i + 1) = xs.take i ++ [x] := by
  rw [List.take_succ, h]
  rfl
theorem map_set_ {α β : Type} (f : α → β) (xs : List α) (i : Nat) (x : α) : (xs.map f).set i (f x) = (xs.set i x).map f := by
  rw [List.map_set]
theorem cutD_take {α : Type} (xs : List α) (m : Nat) : cutD xs none (some (m : Int)) = xs.take m := by
  unfold cutD
  rw [HT.sIx_nat, HT.sIx_none, List.drop_zero, Nat.sub_zero]
  by_cases h : m ≤ xs.length
  · rw [Nat.min_eq_left h]
  · rw [Nat.min_eq_right (by omega), List.take_length, List.take_of_length_le (by omega)]
theorem cutD_drop {α : Type} (xs : List α) (m : Nat) : cutD xs (some (m : Int)) none = xs.drop m := by
  unfold cutD
  rw [HT.sIx_nat, HT.sIx_none]
  by_cases h : m ≤ xs.length
  · rw [Nat.min_eq_left h, List.take_of_length_le (by rw [List.length_drop]; omega)]
  · rw [Nat.min_eq_right (by omega), List.drop_eq_nil_of_le (Nat.le_refl _), List.drop_eq_nil_of_le (by omega)]
    exact List.take_nil ..
/-! ## books.py -/
inductive FNightNeed : List D → D → Prop where
  | mk (b : Bk) (j : Nat) (d : Dy) (h : b.days[j]? = some d) (h2 : d.wanted ≤ 3 ∧ 0 ≤ d.wanted) : FNightNeed [dBk b, .int j] (.int (d.length * d.wanted))
def Bk.need (b : Bk) : Int := (b.days.map fun d => d.length * d.wanted).sum
inductive FNeed : List D → D → Prop where
  | mk (b : Bk) (h : b.days.length ≤ 4) (h2 : ∀ d ∈ b.days, d.wanted ≤ 3 ∧ 0 ≤ d.wanted) : FNeed [dBk b] (.int b.need)
section
variable {P : Program} {wd : World} {K : PySem.W.Frag} {mg : Str → Option Value} {base : Heap}
theorem c_night_need (T : Tops K mg) (FD : IsDef K mg "night_need" sNightNeed)  : Calls P wd K mg base 1 "night_need" (PF FNightNeed) := by
  obtain ⟨f, fd, FD, hm⟩ := FD.ex
  refine Calls.mk (N := ["book", "day"]) (ps := ["book", "day"]) FD ⟨rfl, rfl, rfl, by decide +kernel, rfl, by decide +kernel, by decide +kernel⟩ hm (fun _ _ _ _ _ _ us h => by match us, h with | [a0, a1], _ => rfl) (fun ds Pd ⟨d, h, _⟩ => by cases h; rfl) fun cdv A outer s H E hr ds Pd ⟨d, h, hp⟩ => ?_
  have nd : (["book", "day"] : List Str).Nodup := by decide +kernel
  cases h with
  | mk b j d h h2 =>
  exact sb_last (sx_ret (ev_mul (ev_ix (er_ (ev_ix (er_ (ev_ix (er_ (ev_var 0)) ev_int (h := (by first | assumption | rfl | exact at_ (by assumption) | exact at_n (by assumption))))) (ev_var 1) (h := (by first | assumption | rfl | exact at_ (by assumption) | exact at_n (by assumption))))) ev_int (h := (by first | assumption | rfl | exact at_ (by assumption) | exact at_n (by assumption)))) (ev_ix (er_ (ev_ix (er_ (ev_ix (er_ (ev_var 0)) ev_int (h := (by first | assumption | rfl | exact at_ (by assumption) | exact at_n (by assumption))))) (ev_var 1) (h := (by first | assumption | rfl | exact at_ (by assumption) | exact at_n (by assumption))))) ev_int (h := (by first | assumption | rfl | exact at_ (by assumption) | exact at_n (by assumption)))) (.inr ⟨by omega, by omega⟩)) hp)
theorem c_need (T : Tops K mg) (FD : IsDef K mg "need" sNeed) (C_night_need : Calls P wd K mg base 1 "night_need" (PF FNightNeed)) : Calls P wd K mg base 2 "need" (PF FNeed) := by
  obtain ⟨f, fd, FD, hm⟩ := FD.ex
  refine Calls.mk (N := ["book", "day"]) (ps := ["book"]) FD ⟨rfl, rfl, rfl, by decide +kernel, rfl, by decide +kernel, by decide +kernel⟩ hm (fun _ _ _ _ _ _ us h => by match us, h with | [a0], _ => rfl) (fun ds Pd ⟨d, h, _⟩ => by cases h; rfl) fun cdv A outer s H E hr ds Pd ⟨d, h, hp⟩ => ?_
  have nd : (["book", "day"] : List Str).Nodup := by decide +kernel
  cases h with
  | mk b h h2 =>
  refine sb_last (sx_ret (ev_sumL T (er_is (er_n (en_lc nd (lc_all (enc := eNat) (f := fun j => .int (b.days[j]!.length * b.days[j]!.wanted)) 1 nd (es_rangeN T (ev_len T (er_ (ev_ix (er_ (ev_var 0)) ev_int (h := (by first | assumption | rfl | exact at_ (by assumption) | exact at_n (by assumption)))))) (by simp; omega)) (blkOk_by (own := [("day", 1)]) (N := ["book", "day"]) (sc := defScope sNeed) (by decide +kernel)) rfl (by first | exact Or.inl rfl | exact Or.inr rfl) (by first | exact Or.inl rfl | exact Or.inr rfl) (fun _ _ _ _ _ j hj => ?_) (by simp; omega)))) (y := .lst ((b.days.map fun d => d.length * d.wanted).map D.int)) ?_)) hp)
  · have hj' : j < b.days.length := by simpa using hj
    have hd := get_bang hj'
    exact (ev_call C_night_need (hr.mono (by decide)) (ea_cons (ev_var 0) (ea_cons (ev_var 1) ea_nil)) (fun _ p => ⟨_, .mk b j _ hd (h2 _ (List.mem_of_getElem? hd)), p⟩))
  · rw [List.length_map, map_range (fun d : Dy => D.int (d.length * d.wanted)) b.days, List.map_map]
    rfl
end

inductive FCanBurn : List D → D → Prop where
  | mk (b : Bk) (i j : Nat) (l : Lmp) (h : b.lamps[i]? = some l) : FCanBurn [dBk b, .int i, .int j] (.bl (!decide ((j : Int) ∈ l.away)))
def cutL (m : Int) (l : Lmp) : Lmp := ⟨l.tank, l.oil, l.away.filter fun x => decide (x < m)⟩
def Bk.cut (b : Bk) (m : Nat) : Bk := ⟨b.store, b.oil, b.lamps.map (cutL m), b.days.take m⟩
inductive FCutTo : List D → D → Prop where
  | mk (b : Bk) (m : Nat) (h : b.lamps.length ≤ 3) (h2 : ∀ l ∈ b.lamps, l.away.length ≤ 4) : FCutTo [dBk b, .int m] (dBk (b.cut m))
def Bk.leftOut (b : Bk) (i : Nat) : Bk := ⟨b.store, b.oil, b.lamps.set i ⟨b.lamps[i]!.tank, b.lamps[i]!.oil, rng b.days.length⟩, b.days⟩
inductive FLeftOut : List D → D → Prop where
  | mk (b : Bk) (i : Nat) (h : i < b.lamps.length) (h2 : b.days.length ≤ 4) : FLeftOut [dBk b, .int i] (dBk (b.leftOut i))
inductive FWithBoat : List D → D → Prop where
  | mk (d : Dy) (x : Int) : FWithBoat [dDy d, .int x] (dDy { d with boat := x })
section
variable {P : Program} {wd : World} {K : PySem.W.Frag} {mg : Str → Option Value} {base : Heap}
theorem c_can_burn (T : Tops K mg) (FD : IsDef K mg "can_burn" sCanBurn)  : Calls P wd K mg base 1 "can_burn" (PF FCanBurn) := by
  obtain ⟨f, fd, FD, hm⟩ := FD.ex
  refine Calls.mk (N := ["book", "lamp", "day"]) (ps := ["book", "lamp", "day"]) FD ⟨rfl, rfl, rfl, by decide +kernel, rfl, by decide +kernel, by decide +kernel⟩ hm (fun _ _ _ _ _ _ us h => by match us, h with | [a0, a1, a2], _ => rfl) (fun ds Pd ⟨d, h, _⟩ => by cases h; rfl) fun cdv A outer s H E hr ds Pd ⟨d, h, hp⟩ => ?_
  have nd : (["book", "lamp", "day"] : List Str).Nodup := by decide +kernel
  cases h with
  | mk b i j l h =>
  exact sb_last (sx_ret (ev_cmp co_notIn (er_ (ev_var 2)) (er_ (ev_ix (er_ (ev_ix (er_ (ev_ix (er_ (ev_var 0)) ev_int (h := (by first | assumption | rfl | exact at_ (by assumption) | exact at_n (by assumption))))) (ev_var 1) (h := (by first | assumption | rfl | exact at_ (by assumption) | exact at_n (by assumption))))) ev_int (h := (by first | assumption | rfl | exact at_ (by assumption) | exact at_n (by assumption)))))) hp)
theorem c_cut_to (T : Tops K mg) (FD : IsDef K mg "cut_to" sCutTo)  : Calls P wd K mg base 1 "cut_to" (PF FCutTo) := by
  obtain ⟨f, fd, FD, hm⟩ := FD.ex
  refine Calls.mk (N := ["book", "many", "lamps", "tank", "oil", "away", "day"]) (ps := ["book", "many"]) FD ⟨rfl, rfl, rfl, by decide +kernel, rfl, by decide +kernel, by decide +kernel⟩ hm (fun _ _ _ _ _ _ us h => by match us, h with | [a0, a1], _ => rfl) (fun ds Pd ⟨d, h, _⟩ => by cases h; rfl) fun cdv A outer s H E hr ds Pd ⟨d, h, hp⟩ => ?_
  have nd : (["book", "many", "lamps", "tank", "oil", "away", "day"] : List Str).Nodup := by decide +kernel
  cases h with
  | mk b m h h2 =>
  refine sb_cons (sx_new 2 nd (en_lst ea_nil) ?_)
  refine sb_cons (sx_for (items := b.lamps.map dLmp) (es_tup (ev_ix (er_ (ev_var 0)) ev_int (h := (by first | assumption | rfl | exact at_ (by assumption) | exact at_n (by assumption))))) (gx_tup (gxs_cons 3 nd (gxs_cons 4 nd (gxs_cons 5 nd gxs_nil)))) (fun i ρ s => ∃ x3 x4 x5 x6, ρ = [.d (dBk b), .d (.int m), .r 0, x3, x4, x5, x6] ∧ s = [.lst (((b.lamps.take i).map (cutL m)).map dLmp)]) ⟨_, _, _, _, rfl, rfl⟩ ?_ ?_)
  · rintro i d ρ s hd ⟨x3, x4, x5, x6, rfl, rfl⟩
    obtain ⟨l, hl, rfl⟩ := map_get hd
    refine ⟨_, rfl, ?_⟩
    have ha := h2 l (List.mem_of_getElem? hl)
    refine sb_last (sx_append (ei_var 2) (ev_tup (ea_cons (ev_var 3) (ea_cons (ev_var 4) (ea_cons (ev_tupleOf T (er_n (en_lc nd (lc_if (enc := D.int) (f := D.int) (pr := fun x => decide (x < m)) (xs := l.away) 6 nd (es_tup (ev_var 5)) (blkOk_by (own := [("day", 6)]) (N := ["book", "many", "lamps", "tank", "oil", "away", "day"]) (sc := defScope sCutTo) (by decide +kernel)) rfl (by first | exact Or.inl rfl | exact Or.inr rfl) (by first | exact Or.inl rfl | exact Or.inr rfl) (fun _ _ _ _ _ x hx => (et_cmp co_lt (er_ (ev_var 6)) (er_ (ev_var 1)))) (fun _ _ _ _ _ x hx _ => (ev_var 6)) (by omega))))) ea_nil)))) rfl (by simp; omega) ⟨_, _, _, _, rfl, ?_⟩)
    rw [take_snoc hl, List.map_append, List.map_append]
    rfl
  · rintro ρ s ⟨x3, x4, x5, x6, rfl, rfl⟩
    refine sb_last (sx_ret (ev_is (ev_tup (ea_cons (ev_ix (er_ (ev_var 0)) ev_int (h := (by first | assumption | rfl | exact at_ (by assumption) | exact at_n (by assumption)))) (ea_cons (ev_ix (er_ (ev_var 0)) ev_int (h := (by first | assumption | rfl | exact at_ (by assumption) | exact at_n (by assumption)))) (ea_cons (ev_tupleOf T (er_ref 2)) (ea_cons (ev_slT (ev_ix (er_ (ev_var 0)) ev_int (h := (by first | assumption | rfl | exact at_ (by assumption) | exact at_n (by assumption)))) eo_none (eo_some (ev_var 1))) ea_nil))))) ?_) hp)
    rw [List.take_of_length_le (by simp)]
    rw [cutD_take, ← List.map_take]
    rfl
theorem c_left_out (T : Tops K mg) (FD : IsDef K mg "left_out" sLeftOut)  : Calls P wd K mg base 1 "left_out" (PF FLeftOut) := by
  obtain ⟨f, fd, FD, hm⟩ := FD.ex
  refine Calls.mk (N := ["book", "lamp", "lamps"]) (ps := ["book", "lamp"]) FD ⟨rfl, rfl, rfl, by decide +kernel, rfl, by decide +kernel, by decide +kernel⟩ hm (fun _ _ _ _ _ _ us h => by match us, h with | [a0, a1], _ => rfl) (fun ds Pd ⟨d, h, _⟩ => by cases h; rfl) fun cdv A outer s H E hr ds Pd ⟨d, h, hp⟩ => ?_
  have nd : (["book", "lamp", "lamps"] : List Str).Nodup := by decide +kernel
  cases h with
  | mk b i h h2 =>
  have hi := get_bang h
  refine sb_cons (sx_new 2 nd (en_listOf T (er_ (ev_ix (er_ (ev_var 0)) ev_int (h := (by first | assumption | rfl | exact at_ (by assumption) | exact at_n (by assumption)))))) ?_)
  refine sb_cons (sx_setIx (ei_var 2) (ev_var 1) (ev_tup (ea_cons (ev_ix (er_ (ev_ix (er_ref 2) (ev_var 1) (h := (at_ hi)))) ev_int (h := (by first | assumption | rfl | exact at_ (by assumption) | exact at_n (by assumption)))) (ea_cons (ev_ix (er_ (ev_ix (er_ref 2) (ev_var 1) (h := (at_ hi)))) ev_int (h := (by first | assumption | rfl | exact at_ (by assumption) | exact at_n (by assumption)))) (ea_cons (ev_tupleRange T (ev_len T (er_ (ev_ix (er_ (ev_var 0)) ev_int (h := (by first | assumption | rfl | exact at_ (by assumption) | exact at_n (by assumption)))))) (by simp; omega)) ea_nil)))) rfl (ixN_nat (by simpa using h)) ?_)
  refine sb_last (sx_ret (ev_is (ev_tup (ea_cons (ev_ix (er_ (ev_var 0)) ev_int (h := (by first | assumption | rfl | exact at_ (by assumption) | exact at_n (by assumption)))) (ea_cons (ev_ix (er_ (ev_var 0)) ev_int (h := (by first | assumption | rfl | exact at_ (by assumption) | exact at_n (by assumption)))) (ea_cons (ev_tupleOf T (er_ref 2)) (ea_cons (ev_ix (er_ (ev_var 0)) ev_int (h := (by first | assumption | rfl | exact at_ (by assumption) | exact at_n (by assumption)))) ea_nil))))) ?_) hp)
  show D.tup [_, _, .tup ((b.lamps.map dLmp).set i (dLmp ⟨_, _, rng (b.days.map dDy).length⟩)), _] = _
  rw [map_set_, List.length_map]
  rfl
theorem c_with_boat (T : Tops K mg) (FD : IsDef K mg "with_boat" sWithBoat)  : Calls P wd K mg base 1 "with_boat" (PF FWithBoat) := by
  obtain ⟨f, fd, FD, hm⟩ := FD.ex
  refine Calls.mk (N := ["day", "boat"]) (ps := ["day", "boat"]) FD ⟨rfl, rfl, rfl, by decide +kernel, rfl, by decide +kernel, by decide +kernel⟩ hm (fun _ _ _ _ _ _ us h => by match us, h with | [a0, a1], _ => rfl) (fun ds Pd ⟨d, h, _⟩ => by cases h; rfl) fun cdv A outer s H E hr ds Pd ⟨d, h, hp⟩ => ?_
  have nd : (["day", "boat"] : List Str).Nodup := by decide +kernel
  cases h with
  | mk d x =>
  exact sb_last (sx_ret (ev_is (ev_catT (ev_tup (ea_cons (ev_var 1) ea_nil)) (ev_slT (ev_var 0) (eo_some ev_int) eo_none)) (by rfl)) hp)
end

/-! ## laying.py -/
structure Spn where
  lamp : Int
  lo : Int
  hi : Int
instance : Inhabited Spn := ⟨⟨0, 0, 0⟩⟩
def dSpn (x : Spn) : D := .tup [.int x.lamp, .int x.lo, .int x.hi]
inductive FCheckedTicks : List D → D → Prop where
  | mk (n w : Int) (ts : List Int) (h : ∀ t ∈ ts, 0 ≤ t ∧ t ≤ n) (h2 : ts.sum = w * n) (h3 : 0 ≤ w ∧ w ≤ 3) : FCheckedTicks [.int n, .int w, dInts ts] .non
def laidStep (n : Int) (k : Nat) (a t : Int) : List Spn := if t = n then [⟨k, 0, n⟩] else if n < a + t then [⟨k, 0, a + t - n⟩, ⟨k, a, n⟩] else if 0 < t then [⟨k, a, a + t⟩] else []
def laidAt (n : Int) (ts : List Int) : Nat → Int
  | 0 => 0
  | i + 1 => (laidAt n ts i + ts[i]!) % n
def laidTo (n : Int) (ts : List Int) : Nat → List Spn
  | 0 => []
  | i + 1 => laidTo n ts i ++ laidStep n i (laidAt n ts i) ts[i]!
def laidF (n : Int) (ts : List Int) : List Spn := laidTo n ts ts.length
theorem laidTo_len (n : Int) (ts : List Int) : ∀ i, (laidTo n ts i).length ≤ 2 * i
  | 0 => Nat.le_refl _
  | i + 1 => by
    have := laidTo_len n ts i
    unfold laidTo laidStep
    rw [List.length_append]
    split
    · simp; omega
    · split
      · simp; omega
      · split
        · simp; omega
        · simp; omega
inductive FLaid : List D → D → Prop where
  | mk (n w : Int) (ts : List Int) (h : ∀ t ∈ ts, 0 ≤ t ∧ t ≤ n) (h2 : ts.sum = w * n) (h3 : 0 ≤ w ∧ w ≤ 3) (h4 : 0 < n) (h5 : ts.length ≤ 3) : FLaid [.int n, .int w, dInts ts] (.tup ((laidF n ts).map dSpn))
/-- what each lamp burns -/
def addAt (xs : List Int) (i : Nat) (x : Int) : List Int := xs.set i (xs[i]! + x)
def ticksTo (m : Nat) (sp : List Spn) : Nat → List Int
  | 0 => List.replicate m 0
  | i + 1 => addAt (ticksTo m sp i) sp[i]!.lamp.toNat (sp[i]!.hi - sp[i]!.lo)
def ticksF (m : Nat) (sp : List Spn) : List Int := ticksTo m sp sp.length
theorem addAt_len (xs : List Int) (i : Nat) (x : Int) : (addAt xs i x).length = xs.length := List.length_set ..
theorem ticksTo_len (m : Nat) (sp : List Spn) : ∀ i, (ticksTo m sp i).length = m
  | 0 => List.length_replicate ..
  | i + 1 => (addAt_len ..).trans (ticksTo_len m sp i)
inductive FTicksIn : List D → D → Prop where
  | mk (m : Nat) (sp : List Spn) (h : m ≤ 3) (h2 : ∀ x ∈ sp, 0 ≤ x.lamp ∧ x.lamp < m) : FTicksIn [.int m, .tup (sp.map dSpn)] (dInts (ticksF m sp))
section
variable {P : Program} {wd : World} {K : PySem.W.Frag} {mg : Str → Option Value} {base : Heap}
theorem c_checked_ticks (T : Tops K mg) (FD : IsDef K mg "checked_ticks" sCheckedTicks)  : Calls P wd K mg base 1 "checked_ticks" (PF FCheckedTicks) := by
  obtain ⟨f, fd, FD, hm⟩ := FD.ex
  refine Calls.mk (N := ["length", "wanted", "ticks", "many"]) (ps := ["length", "wanted", "ticks"]) FD ⟨rfl, rfl, rfl, by decide +kernel, rfl, by decide +kernel, by decide +kernel⟩ hm (fun _ _ _ _ _ _ us h => by match us, h with | [a0, a1, a2], _ => rfl) (fun ds Pd ⟨d, h, _⟩ => by cases h; rfl) fun cdv A outer s H E hr ds Pd ⟨d, h, hp⟩ => ?_
  have nd : (["length", "wanted", "ticks", "many"] : List Str).Nodup := by decide +kernel
  cases h with
  | mk n w ts h h2 h3 =>
  refine sb_cons (sx_for (items := ts.map D.int) (es_tup (ev_var 2)) (gx_name 3 nd) (fun i ρ s => ∃ x, ρ = [.d (.int n), .d (.int w), .d (dInts ts), x] ∧ s = []) ⟨_, rfl, rfl⟩ ?_ ?_)
  · rintro i d ρ s hd ⟨x, rfl, rfl⟩
    obtain ⟨t, ht, rfl⟩ := map_get hd
    have hh := h t (List.mem_of_getElem? ht)
    refine ⟨_, rfl, sb_last (sx_if (et_w (ew_or (et_cmp co_lt (er_ (ev_var 3)) (er_ ev_int)) (fun hq => (ew_or1 (et_cmp co_gt (er_ (ev_var 3)) (er_ (ev_var 0))))))) (fun hk => ?_) fun _ => sb_nil ⟨_, rfl, rfl⟩)⟩
    exact absurd hk (by simp; omega)
  · rintro ρ s ⟨x, rfl, rfl⟩
    refine sb_last (sx_if (k := !decide (ts.sum = w * n)) (et_cmp co_ne (er_ (ev_sumT T (ev_var 2))) (er_ (ev_mul (ev_var 1) (ev_var 0) (.inl ⟨by omega, by omega⟩)))) (fun hk => ?_) fun _ => sb_nil hp)
    exact absurd hk (by simp [h2])
theorem c_laid (T : Tops K mg) (FD : IsDef K mg "laid" sLaid) (C_checked_ticks : Calls P wd K mg base 1 "checked_ticks" (PF FCheckedTicks)) : Calls P wd K mg base 2 "laid" (PF FLaid) := by
  obtain ⟨f, fd, FD, hm⟩ := FD.ex
  refine Calls.mk (N := ["length", "wanted", "ticks", "spans", "at", "lamp", "many", "end"]) (ps := ["length", "wanted", "ticks"]) FD ⟨rfl, rfl, rfl, by decide +kernel, rfl, by decide +kernel, by decide +kernel⟩ hm (fun _ _ _ _ _ _ us h => by match us, h with | [a0, a1, a2], _ => rfl) (fun ds Pd ⟨d, h, _⟩ => by cases h; rfl) fun cdv A outer s H E hr ds Pd ⟨d, h, hp⟩ => ?_
  have nd : (["length", "wanted", "ticks", "spans", "at", "lamp", "many", "end"] : List Str).Nodup := by decide +kernel
  cases h with
  | mk n w ts h h2 h3 h4 h5 =>
  refine sb_cons (sx_expr (ev_call C_checked_ticks (hr.mono (by decide)) (ea_cons (ev_var 0) (ea_cons (ev_var 1) (ea_cons (ev_var 2) ea_nil))) (fun _ p => ⟨_, .mk n w ts h h2 h3, p⟩)) ?_)
  refine sb_cons (sx_new 3 nd (en_lst ea_nil) ?_)
  refine sb_cons (sx_set 4 nd ev_int ?_)
  refine sb_cons (sx_for (items := enums 0 (ts.map D.int)) (es_enumT T (ev_var 2)) (gx_tup (gxs_cons 5 nd (gxs_cons 6 nd gxs_nil))) (fun i ρ s => ∃ x5 x6 x7, ρ = [.d (.int n), .d (.int w), .d (dInts ts), .r 0, .d (.int (laidAt n ts i)), x5, x6, x7] ∧ s = [.lst ((laidTo n ts i).map dSpn)]) ⟨_, _, _, rfl, rfl⟩ ?_ ?_)
  · rintro i d ρ s hd ⟨x5, x6, x7, rfl, rfl⟩
    obtain ⟨y, hy, rfl⟩ := enums_get _ 0 i d hd
    obtain ⟨t, ht, rfl⟩ := map_get hy
    have hh := h t (List.mem_of_getElem? ht)
    have hi : i < 3 := Nat.lt_of_lt_of_le (List.getElem?_eq_some_iff.mp ht).1 h5
    have hl := laidTo_len n ts i
    have et : ts[i]! = t := by simp [ht]
    rw [Nat.zero_add]
    refine ⟨_, rfl, ?_⟩
    refine sb_cons (sx_set 7 nd (ev_add (ev_var 4) (ev_var 6)) ?_)
    refine sb_cut (fun ρ s => ρ = [.d (.int n), .d (.int w), .d (dInts ts), .r 0, .d (.int (laidAt n ts i)), .d (.int i), .d (.int t), .d (.int (laidAt n ts i + t))] ∧ s = [.lst ((laidTo n ts (i + 1)).map dSpn)]) ?_ ?_
    · have em : ((laidTo n ts (i + 1)).map dSpn) = (laidTo n ts i).map dSpn ++ (laidStep n i (laidAt n ts i) t).map dSpn := by
        show ((laidTo n ts i ++ laidStep n i (laidAt n ts i) ts[i]!).map dSpn) = _
        rw [List.map_append, et]
      rw [em]
      refine sx_if (et_cmp co_eq (er_ (ev_var 6)) (er_ (ev_var 0))) (fun hk => ?_) (fun hk => ?_)
      · have hk' := of_decide_eq_true hk
        refine sb_last (sx_append (ei_var 3) (ev_tup (ea_cons (ev_var 5) (ea_cons ev_int (ea_cons (ev_var 0) ea_nil)))) rfl (by simp; omega) ⟨rfl, ?_⟩)
        unfold laidStep
        rw [if_pos hk']
        rfl
      · have hk' := of_decide_eq_false hk
        refine sb_last (sx_if (et_cmp co_gt (er_ (ev_var 7)) (er_ (ev_var 0))) (fun hk2 => ?_) (fun hk2 => ?_))
        · have hk2' := of_decide_eq_true hk2
          refine sb_cons (sx_append (ei_var 3) (ev_tup (ea_cons (ev_var 5) (ea_cons ev_int (ea_cons (ev_sub (ev_var 7) (ev_var 0)) ea_nil)))) rfl (by simp; omega) ?_)
          refine sb_last (sx_append (ei_var 3) (ev_tup (ea_cons (ev_var 5) (ea_cons (ev_var 4) (ea_cons (ev_var 0) ea_nil)))) rfl (by simp; omega) ⟨rfl, ?_⟩)
          unfold laidStep
          rw [if_neg hk', if_pos hk2', List.append_assoc]
          rfl
        · have hk2' := of_decide_eq_false hk2
          refine sb_last (sx_if (et_cmp co_gt (er_ (ev_var 6)) (er_ ev_int)) (fun hk3 => ?_) (fun hk3 => ?_))
          · have hk3' := of_decide_eq_true hk3
            refine sb_last (sx_append (ei_var 3) (ev_tup (ea_cons (ev_var 5) (ea_cons (ev_var 4) (ea_cons (ev_var 7) ea_nil)))) rfl (by simp; omega) ⟨rfl, ?_⟩)
            unfold laidStep
            rw [if_neg hk', if_neg hk2', if_pos hk3']
            rfl
          · have hk3' := of_decide_eq_false hk3
            refine sb_nil ⟨rfl, ?_⟩
            unfold laidStep
            rw [if_neg hk', if_neg hk2', if_neg hk3', List.map_nil, List.append_nil]
    · rintro ρ s ⟨rfl, rfl⟩
      refine sb_last (sx_set 4 nd (ev_is (ev_mod (ev_var 7) (ev_var 0)) ?_) ⟨_, _, _, rfl, rfl⟩)
      show _ = D.int ((laidAt n ts i + ts[i]!) % n)
      rw [et]
  · rintro ρ s ⟨x5, x6, x7, rfl, rfl⟩
    refine sb_last (sx_ret (ev_is (ev_tupleOf T (er_ref 3)) ?_) hp)
    rw [enums_len, List.length_map]
    rfl
theorem c_ticks_in (T : Tops K mg) (FD : IsDef K mg "ticks_in" sTicksIn)  : Calls P wd K mg base 1 "ticks_in" (PF FTicksIn) := by
  obtain ⟨f, fd, FD, hm⟩ := FD.ex
  refine Calls.mk (N := ["lamps", "spans", "found", "lamp", "start", "end"]) (ps := ["lamps", "spans"]) FD ⟨rfl, rfl, rfl, by decide +kernel, rfl, by decide +kernel, by decide +kernel⟩ hm (fun _ _ _ _ _ _ us h => by match us, h with | [a0, a1], _ => rfl) (fun ds Pd ⟨d, h, _⟩ => by cases h; rfl) fun cdv A outer s H E hr ds Pd ⟨d, h, hp⟩ => ?_
  have nd : (["lamps", "spans", "found", "lamp", "start", "end"] : List Str).Nodup := by decide +kernel
  cases h with
  | mk m sp h h2 =>
  refine sb_cons (sx_new 2 nd (en_is (en_rep (er_n (en_lst (ea_cons ev_int ea_nil))) (ev_var 0) ⟨by omega, by omega, by exact Nat.le_of_ble_eq_true rfl⟩) (repN m _)) ?_)
  refine sb_cons (sx_for (items := sp.map dSpn) (es_tup (ev_var 1)) (gx_tup (gxs_cons 3 nd (gxs_cons 4 nd (gxs_cons 5 nd gxs_nil)))) (fun i ρ s => ∃ x3 x4 x5, ρ = [.d (.int m), .d (.tup (sp.map dSpn)), .r 0, x3, x4, x5] ∧ s = [.lst ((ticksTo m sp i).map D.int)]) ⟨_, _, _, rfl, by rw [show ticksTo m sp 0 = List.replicate m 0 from rfl, List.map_replicate]; rfl⟩ ?_ ?_)
  · rintro i d ρ s hd ⟨x3, x4, x5, rfl, rfl⟩
    obtain ⟨t, ht, rfl⟩ := map_get hd
    have hh := h2 t (List.mem_of_getElem? ht)
    have et : sp[i]! = t := by simp [ht]
    obtain ⟨j, hj⟩ : ∃ j : Nat, t.lamp = j := ⟨t.lamp.toNat, by omega⟩
    have hlen := ticksTo_len m sp i
    have hjm : j < (ticksTo m sp i).length := by omega
    have hg := get_bang hjm
    obtain ⟨tl, tlo, thi⟩ := t
    simp only at hj
    subst hj
    refine ⟨_, rfl, ?_⟩
    refine sb_last (sx_setIx (ei_var 2) (ev_var 3) (ev_sub (ev_add (ev_ix (er_ref 2) (ev_var 3) (h := (by first | assumption | rfl | exact at_ (by assumption) | exact at_n (by assumption)))) (ev_var 5)) (ev_var 4)) rfl (ixN_nat (by rw [List.length_map]; exact hjm)) ⟨_, _, _, rfl, ?_⟩)
    have e1 : ticksTo m sp (i + 1) = (ticksTo m sp i).set j ((ticksTo m sp i)[j]! + (thi - tlo)) := by
      show addAt _ sp[i]!.lamp.toNat (sp[i]!.hi - sp[i]!.lo) = _
      rw [et]
      rfl
    rw [e1, ← map_set_, Int.add_sub_assoc]
    rfl
  · rintro ρ s ⟨x3, x4, x5, rfl, rfl⟩
    refine sb_last (sx_ret (ev_is (ev_tupleOf T (er_ref 2)) ?_) hp)
    rw [List.length_map]
    rfl
end

/-! ## bookweb.py, the ties -/
structure Bk.Ok (b : Bk) : Prop where
  l1 : 1 ≤ b.lamps.length
  l3 : b.lamps.length ≤ 3
  d1 : 1 ≤ b.days.length
  d4 : b.days.length ≤ 4
  lamp : ∀ l ∈ b.lamps, 0 ≤ l.oil ∧ l.oil ≤ l.tank ∧ l.away.length ≤ 4
  day : ∀ d ∈ b.days, 0 ≤ d.boat ∧ 0 ≤ d.most ∧ 1 ≤ d.length ∧ 0 ≤ d.wanted ∧ d.wanted ≤ b.lamps.length
  st : 0 ≤ b.store ∧ 0 ≤ b.oil
theorem Bk.Ok.need {b : Bk} (o : b.Ok) : FNeed [dBk b] (.int b.need) := .mk b o.d4 fun d hd => by
  have := o.day d hd
  have := o.l3
  omega
structure Tie where
  a : Nat
  c : Nat
  most : Int
  price : Int
instance : Inhabited Tie := ⟨⟨0, 0, 0, 0⟩⟩
def tl (t : Tie) : List Int := [(t.a : Int), (t.c : Int), t.most, t.price]
def dTie (t : Tie) : D := tupI (tl t)
structure Web where
  n : Nat
  ties : List Tie
def dWeb (w : Web) : D := .tup [.int w.n, .tup (w.ties.map dTie)]
def Bk.sN (b : Bk) (j : Nat) : Nat := 2 + j * (2 * b.lamps.length + 2)
def Bk.tN (b : Bk) (i j : Nat) : Nat := b.sN j + 1 + 2 * i
def Bk.fN (b : Bk) (i j : Nat) : Nat := b.sN j + 2 + 2 * i
def Bk.nN (b : Bk) (j : Nat) : Nat := b.sN j + 2 * b.lamps.length + 1
inductive FStoreNode : List D → D → Prop where
  | mk (b : Bk) (j : Nat) (h : b.lamps.length ≤ 3) (h2 : j ≤ 4) : FStoreNode [dBk b, .int j] (.int (b.sN j : Nat))
inductive FTankNode : List D → D → Prop where
  | mk (b : Bk) (i j : Nat) (h : b.lamps.length ≤ 3) (h2 : j ≤ 4) (h3 : i ≤ 4) : FTankNode [dBk b, .int i, .int j] (.int (b.tN i j : Nat))
inductive FFlameNode : List D → D → Prop where
  | mk (b : Bk) (i j : Nat) (h : b.lamps.length ≤ 3) (h2 : j ≤ 4) (h3 : i ≤ 4) : FFlameNode [dBk b, .int i, .int j] (.int (b.fN i j : Nat))
inductive FNightNode : List D → D → Prop where
  | mk (b : Bk) (j : Nat) (h : b.lamps.length ≤ 3) (h2 : j ≤ 4) : FNightNode [dBk b, .int j] (.int (b.nN j : Nat))
def Lmp.burns (l : Lmp) (j : Nat) (d : Dy) : Int := if (j : Int) ∈ l.away then 0 else d.length
def Bk.lampTies (b : Bk) (i j : Nat) : List Tie :=
  [⟨b.sN j, b.tN i j, b.need, 0⟩, ⟨b.tN i j, b.fN i j, b.lamps[i]!.tank, 0⟩, ⟨b.fN i j, b.nN j, b.lamps[i]!.burns j b.days[j]!, 0⟩] ++
    if j + 1 < b.days.length then [⟨b.fN i j, b.tN i (j + 1), b.need, 0⟩] else []
inductive FLampTies : List D → D → Prop where
  | mk (b : Bk) (i j : Nat) (o : b.Ok) (h : i < b.lamps.length) (h2 : j < b.days.length) : FLampTies [dBk b, .int i, .int j] (.lst ((b.lampTies i j).map dTie))
def Bk.dayTies0 (b : Bk) (j : Nat) : List Tie :=
  [⟨0, b.sN j, b.days[j]!.boat, 0⟩, ⟨0, b.sN j, b.days[j]!.most, b.days[j]!.price⟩, ⟨b.nN j, 1, b.days[j]!.length * b.days[j]!.wanted, 0⟩] ++
    if j + 1 < b.days.length then [⟨b.sN j, b.sN (j + 1), b.store, 0⟩] else []
def Bk.dayTies (b : Bk) (j : Nat) : List Tie := b.dayTies0 j ++ (List.range b.lamps.length).flatMap fun i => b.lampTies i j
inductive FDayTies : List D → D → Prop where
  | mk (b : Bk) (j : Nat) (o : b.Ok) (h2 : j < b.days.length) : FDayTies [dBk b, .int j] (.lst ((b.dayTies j).map dTie))
def Bk.ties0 (b : Bk) : List Tie := ⟨0, b.sN 0, b.oil, 0⟩ :: (List.range b.lamps.length).map fun i => ⟨0, b.tN i 0, b.lamps[i]!.oil, 0⟩
def Bk.tieL (b : Bk) : List Tie := b.ties0 ++ (List.range b.days.length).flatMap fun j => b.dayTies j
def tieLe (x y : Tie) : Bool := lxLe (tl x) (tl y)
def Bk.web (b : Bk) : Web := ⟨b.sN b.days.length, b.tieL.mergeSort tieLe⟩
theorem srt_map (xs : List Tie) : srt (xs.map tl) = (xs.mergeSort tieLe).map tl := by
  refine List.Perm.eq_of_pairwise (le := fun a b => lxLe a b = true) (fun a b _ _ p q => ?_) (srt_pw _) ?_ ((srt_perm _).symm.trans ((List.mergeSort_perm xs tieLe).symm.map tl))
  · unfold lxLe at p q
    rw [Bool.not_eq_true'] at p q
    exact lx_eq a b q p
  · rw [List.pairwise_map]
    exact List.pairwise_mergeSort (le := tieLe) (fun a b c => lx_trans _ _ _) (fun a b => lx_total _ _) xs
theorem lampTies_len (b : Bk) (i j : Nat) : (b.lampTies i j).length ≤ 4 := by
  unfold Bk.lampTies
  split <;> simp
theorem dayTies0_len (b : Bk) (j : Nat) : (b.dayTies0 j).length ≤ 4 := by
  unfold Bk.dayTies0
  split <;> simp
theorem flat_len {α : Type} (f : Nat → List α) (c : Nat) (h : ∀ i, (f i).length ≤ c) : ∀ n, ((List.range n).flatMap f).length ≤ c * n
  | 0 => Nat.zero_le _
  | n + 1 => by
    rw [List.range_succ, List.flatMap_append, List.length_append, Nat.mul_succ]
    have h1 := flat_len f c h n
    have h2 := h n
    simp only [List.flatMap_cons, List.flatMap_nil, List.append_nil]
    omega
theorem flat_succ {α : Type} (f : Nat → List α) (n : Nat) : (List.range (n + 1)).flatMap f = (List.range n).flatMap f ++ f n := by
  rw [List.range_succ, List.flatMap_append]
  simp
theorem dayTies_len {b : Bk} (o : b.Ok) (j : Nat) : (b.dayTies j).length ≤ 16 := by
  unfold Bk.dayTies
  rw [List.length_append]
  have h1 := dayTies0_len b j
  have h2 := flat_len (fun i => b.lampTies i j) 4 (fun i => lampTies_len b i j) b.lamps.length
  have := o.l3
  omega
inductive FWebOf : List D → D → Prop where
  | mk (b : Bk) (o : b.Ok) : FWebOf [dBk b] (dWeb b.web)
section
variable {P : Program} {wd : World} {K : PySem.W.Frag} {mg : Str → Option Value} {base : Heap}
theorem c_store_node (T : Tops K mg) (FD : IsDef K mg "store_node" sStoreNode)  : Calls P wd K mg base 1 "store_node" (PF FStoreNode) := by
  obtain ⟨f, fd, FD, hm⟩ := FD.ex
  refine Calls.mk (N := ["book", "day"]) (ps := ["book", "day"]) FD ⟨rfl, rfl, rfl, by decide +kernel, rfl, by decide +kernel, by decide +kernel⟩ hm (fun _ _ _ _ _ _ us h => by match us, h with | [a0, a1], _ => rfl) (fun ds Pd ⟨d, h, _⟩ => by cases h; rfl) fun cdv A outer s H E hr ds Pd ⟨d, h, hp⟩ => ?_
  have nd : (["book", "day"] : List Str).Nodup := by decide +kernel
  cases h with
  | mk b j h h2 =>
  refine sb_last (sx_ret (ev_is (ev_add ev_int (ev_mul (ev_var 1) (ev_add (ev_mul ev_int (ev_len T (er_ (ev_ix (er_ (ev_var 0)) ev_int (h := (by first | assumption | rfl | exact at_ (by assumption) | exact at_n (by assumption))))))) ev_int) (.inl ⟨by omega, by omega⟩))) ?_) hp)
  simp [Bk.sN]
theorem c_tank_node (T : Tops K mg) (FD : IsDef K mg "tank_node" sTankNode) (C_store_node : Calls P wd K mg base 1 "store_node" (PF FStoreNode)) : Calls P wd K mg base 2 "tank_node" (PF FTankNode) := by
  obtain ⟨f, fd, FD, hm⟩ := FD.ex
  refine Calls.mk (N := ["book", "lamp", "day"]) (ps := ["book", "lamp", "day"]) FD ⟨rfl, rfl, rfl, by decide +kernel, rfl, by decide +kernel, by decide +kernel⟩ hm (fun _ _ _ _ _ _ us h => by match us, h with | [a0, a1, a2], _ => rfl) (fun ds Pd ⟨d, h, _⟩ => by cases h; rfl) fun cdv A outer s H E hr ds Pd ⟨d, h, hp⟩ => ?_
  have nd : (["book", "lamp", "day"] : List Str).Nodup := by decide +kernel
  cases h with
  | mk b i j h h2 h3 =>
  refine sb_last (sx_ret (ev_is (ev_add (ev_add (ev_call C_store_node (hr.mono (by decide)) (ea_cons (ev_var 0) (ea_cons (ev_var 2) ea_nil)) (fun _ p => ⟨_, .mk b j h h2, p⟩)) ev_int) (ev_mul ev_int (ev_var 1))) ?_) hp)
  simp [Bk.tN]
theorem c_flame_node (T : Tops K mg) (FD : IsDef K mg "flame_node" sFlameNode) (C_store_node : Calls P wd K mg base 1 "store_node" (PF FStoreNode)) : Calls P wd K mg base 2 "flame_node" (PF FFlameNode) := by
  obtain ⟨f, fd, FD, hm⟩ := FD.ex
  refine Calls.mk (N := ["book", "lamp", "day"]) (ps := ["book", "lamp", "day"]) FD ⟨rfl, rfl, rfl, by decide +kernel, rfl, by decide +kernel, by decide +kernel⟩ hm (fun _ _ _ _ _ _ us h => by match us, h with | [a0, a1, a2], _ => rfl) (fun ds Pd ⟨d, h, _⟩ => by cases h; rfl) fun cdv A outer s H E hr ds Pd ⟨d, h, hp⟩ => ?_
  have nd : (["book", "lamp", "day"] : List Str).Nodup := by decide +kernel
  cases h with
  | mk b i j h h2 h3 =>
  refine sb_last (sx_ret (ev_is (ev_add (ev_add (ev_call C_store_node (hr.mono (by decide)) (ea_cons (ev_var 0) (ea_cons (ev_var 2) ea_nil)) (fun _ p => ⟨_, .mk b j h h2, p⟩)) ev_int) (ev_mul ev_int (ev_var 1))) ?_) hp)
  simp [Bk.fN]
theorem c_night_node (T : Tops K mg) (FD : IsDef K mg "night_node" sNightNode) (C_store_node : Calls P wd K mg base 1 "store_node" (PF FStoreNode)) : Calls P wd K mg base 2 "night_node" (PF FNightNode) := by
  obtain ⟨f, fd, FD, hm⟩ := FD.ex
  refine Calls.mk (N := ["book", "day"]) (ps := ["book", "day"]) FD ⟨rfl, rfl, rfl, by decide +kernel, rfl, by decide +kernel, by decide +kernel⟩ hm (fun _ _ _ _ _ _ us h => by match us, h with | [a0, a1], _ => rfl) (fun ds Pd ⟨d, h, _⟩ => by cases h; rfl) fun cdv A outer s H E hr ds Pd ⟨d, h, hp⟩ => ?_
  have nd : (["book", "day"] : List Str).Nodup := by decide +kernel
  cases h with
  | mk b j h h2 =>
  refine sb_last (sx_ret (ev_is (ev_add (ev_add (ev_call C_store_node (hr.mono (by decide)) (ea_cons (ev_var 0) (ea_cons (ev_var 1) ea_nil)) (fun _ p => ⟨_, .mk b j h h2, p⟩)) (ev_mul ev_int (ev_len T (er_ (ev_ix (er_ (ev_var 0)) ev_int (h := (by first | assumption | rfl | exact at_ (by assumption) | exact at_n (by assumption)))))))) ev_int) ?_) hp)
  simp [Bk.nN]
theorem c_lamp_ties (T : Tops K mg) (FD : IsDef K mg "lamp_ties" sLampTies) (C_tank_node : Calls P wd K mg base 2 "tank_node" (PF FTankNode)) (C_flame_node : Calls P wd K mg base 2 "flame_node" (PF FFlameNode)) (C_can_burn : Calls P wd K mg base 1 "can_burn" (PF FCanBurn)) (C_store_node : Calls P wd K mg base 1 "store_node" (PF FStoreNode)) (C_need : Calls P wd K mg base 2 "need" (PF FNeed)) (C_night_node : Calls P wd K mg base 2 "night_node" (PF FNightNode)) : Calls P wd K mg base 3 "lamp_ties" (PF FLampTies) := by
  obtain ⟨f, fd, FD, hm⟩ := FD.ex
  refine Calls.mk (N := ["book", "lamp", "day", "tank", "flame", "length", "ties"]) (ps := ["book", "lamp", "day"]) FD ⟨rfl, rfl, rfl, by decide +kernel, rfl, by decide +kernel, by decide +kernel⟩ hm (fun _ _ _ _ _ _ us h => by match us, h with | [a0, a1, a2], _ => rfl) (fun ds Pd ⟨d, h, _⟩ => by cases h; rfl) fun cdv A outer s H E hr ds Pd ⟨d, h, hp⟩ => ?_
  have nd : (["book", "lamp", "day", "tank", "flame", "length", "ties"] : List Str).Nodup := by decide +kernel
  cases h with
  | mk b i j o h h2 =>
  have hi := get_bang h
  have hj := get_bang h2
  have hl3 := o.l3
  have hd4 := o.d4
  refine sb_cons (sx_set 3 nd (ev_call C_tank_node (hr.mono (by decide)) (ea_cons (ev_var 0) (ea_cons (ev_var 1) (ea_cons (ev_var 2) ea_nil))) (fun _ p => ⟨_, .mk b i j hl3 (by omega) (by omega), p⟩)) ?_)
  refine sb_cons (sx_set 4 nd (ev_call C_flame_node (hr.mono (by decide)) (ea_cons (ev_var 0) (ea_cons (ev_var 1) (ea_cons (ev_var 2) ea_nil))) (fun _ p => ⟨_, .mk b i j hl3 (by omega) (by omega), p⟩)) ?_)
  refine sb_cons (sx_set 5 nd ev_int ?_)
  refine sb_cut (fun ρ s => ρ = [.d (dBk b), .d (.int i), .d (.int j), .d (.int (b.tN i j : Nat)), .d (.int (b.fN i j : Nat)), .d (.int (b.lamps[i]!.burns j b.days[j]!)), .no] ∧ s = []) ?_ ?_
  · refine sx_if (et_of (ev_call C_can_burn (hr.mono (by decide)) (ea_cons (ev_var 0) (ea_cons (ev_var 1) (ea_cons (ev_var 2) ea_nil))) (fun _ p => ⟨_, .mk b i j _ hi, p⟩))) (fun hk => ?_) (fun hk => ?_)
    · refine sb_last (sx_set 5 nd (ev_ix (er_ (ev_ix (er_ (ev_ix (er_ (ev_var 0)) ev_int (h := (by first | assumption | rfl | exact at_ (by assumption) | exact at_n (by assumption))))) (ev_var 2) (h := (by first | assumption | rfl | exact at_ (by assumption) | exact at_n (by assumption))))) ev_int (h := (by first | assumption | rfl | exact at_ (by assumption) | exact at_n (by assumption)))) ⟨?_, rfl⟩)
      have hk' : ¬ (j : Int) ∈ (b.lamps[i]!).away := by simpa using hk
      unfold Lmp.burns
      rw [if_neg hk']
      rfl
    · refine sb_nil ⟨?_, rfl⟩
      have hk' : (j : Int) ∈ (b.lamps[i]!).away := by simpa using hk
      unfold Lmp.burns
      rw [if_pos hk']
      rfl
  · rintro ρ s ⟨rfl, rfl⟩
    refine sb_cons (sx_new 6 nd (en_lst (ea_cons (ev_tup (ea_cons (ev_call C_store_node (hr.mono (by decide)) (ea_cons (ev_var 0) (ea_cons (ev_var 2) ea_nil)) (fun _ p => ⟨_, .mk b j hl3 (by omega), p⟩)) (ea_cons (ev_var 3) (ea_cons (ev_call C_need (hr.mono (by decide)) (ea_cons (ev_var 0) ea_nil) (fun _ p => ⟨_, o.need, p⟩)) (ea_cons ev_int ea_nil))))) (ea_cons (ev_tup (ea_cons (ev_var 3) (ea_cons (ev_var 4) (ea_cons (ev_ix (er_ (ev_ix (er_ (ev_ix (er_ (ev_var 0)) ev_int (h := (by first | assumption | rfl | exact at_ (by assumption) | exact at_n (by assumption))))) (ev_var 1) (h := (at_ hi)))) ev_int (h := (by first | assumption | rfl | exact at_ (by assumption) | exact at_n (by assumption)))) (ea_cons ev_int ea_nil))))) ea_nil))) ?_)
    refine sb_cons (sx_append (ei_var 6) (ev_tup (ea_cons (ev_var 4) (ea_cons (ev_call C_night_node (hr.mono (by decide)) (ea_cons (ev_var 0) (ea_cons (ev_var 2) ea_nil)) (fun _ p => ⟨_, .mk b j hl3 (by omega), p⟩)) (ea_cons (ev_var 5) (ea_cons ev_int ea_nil))))) rfl (by simp) ?_)
    refine sb_cut (fun ρ s => ρ = [.d (dBk b), .d (.int i), .d (.int j), .d (.int (b.tN i j : Nat)), .d (.int (b.fN i j : Nat)), .d (.int (b.lamps[i]!.burns j b.days[j]!)), .r 0] ∧ s = [.lst ((b.lampTies i j).map dTie)]) ?_ ?_
    · refine sx_if (k := decide ((j : Int) + 1 < b.days.length)) (et_is (et_cmp co_lt (er_ (ev_add (ev_var 2) ev_int)) (er_ (ev_len T (er_ (ev_ix (er_ (ev_var 0)) ev_int (h := (by first | assumption | rfl | exact at_ (by assumption) | exact at_n (by assumption)))))))) (by rw [List.length_map])) (fun hk => ?_) (fun hk => ?_)
      · have hk' : j + 1 < b.days.length := by have := of_decide_eq_true hk; omega
        refine sb_last (sx_append (ei_var 6) (ev_tup (ea_cons (ev_var 4) (ea_cons (ev_call C_tank_node (hr.mono (by decide)) (ea_cons (ev_var 0) (ea_cons (ev_var 1) (ea_cons (ev_add (ev_var 2) ev_int) ea_nil))) (fun _ p => ⟨_, .mk b i (j + 1) hl3 (by omega) (by omega), p⟩)) (ea_cons (ev_call C_need (hr.mono (by decide)) (ea_cons (ev_var 0) ea_nil) (fun _ p => ⟨_, o.need, p⟩)) (ea_cons ev_int ea_nil))))) rfl (by simp) ⟨rfl, ?_⟩)
        unfold Bk.lampTies
        rw [if_pos hk']
        rfl
      · have hk' : ¬ j + 1 < b.days.length := by have := of_decide_eq_false hk; omega
        refine sb_nil ⟨rfl, ?_⟩
        unfold Bk.lampTies
        rw [if_neg hk']
        rfl
    · rintro ρ s ⟨rfl, rfl⟩
      exact sb_last (sx_retR (er_ref 6) hp)
theorem c_day_ties (T : Tops K mg) (FD : IsDef K mg "day_ties" sDayTies) (C_store_node : Calls P wd K mg base 1 "store_node" (PF FStoreNode)) (C_night_node : Calls P wd K mg base 2 "night_node" (PF FNightNode)) (C_night_need : Calls P wd K mg base 1 "night_need" (PF FNightNeed)) (C_lamp_ties : Calls P wd K mg base 3 "lamp_ties" (PF FLampTies)) : Calls P wd K mg base 4 "day_ties" (PF FDayTies) := by
  obtain ⟨f, fd, FD, hm⟩ := FD.ex
  refine Calls.mk (N := ["book", "day", "store", "ties", "lamp"]) (ps := ["book", "day"]) FD ⟨rfl, rfl, rfl, by decide +kernel, rfl, by decide +kernel, by decide +kernel⟩ hm (fun _ _ _ _ _ _ us h => by match us, h with | [a0, a1], _ => rfl) (fun ds Pd ⟨d, h, _⟩ => by cases h; rfl) fun cdv A outer s H E hr ds Pd ⟨d, h, hp⟩ => ?_
  have nd : (["book", "day", "store", "ties", "lamp"] : List Str).Nodup := by decide +kernel
  cases h with
  | mk b j o h2 =>
  have hj := get_bang h2
  have hl3 := o.l3
  have hd4 := o.d4
  have hday := o.day _ (List.mem_of_getElem? hj)
  refine sb_cons (sx_set 2 nd (ev_call C_store_node (hr.mono (by decide)) (ea_cons (ev_var 0) (ea_cons (ev_var 1) ea_nil)) (fun _ p => ⟨_, .mk b j hl3 (by omega), p⟩)) ?_)
  refine sb_cons (sx_new 3 nd (en_lst (ea_cons (ev_tup (ea_cons (ev_gint T.sea) (ea_cons (ev_var 2) (ea_cons (ev_ix (er_ (ev_ix (er_ (ev_ix (er_ (ev_var 0)) ev_int (h := (by first | assumption | rfl | exact at_ (by assumption) | exact at_n (by assumption))))) (ev_var 1) (h := (at_ hj)))) ev_int (h := (by first | assumption | rfl | exact at_ (by assumption) | exact at_n (by assumption)))) (ea_cons ev_int ea_nil))))) (ea_cons (ev_tup (ea_cons (ev_gint T.sea) (ea_cons (ev_var 2) (ea_cons (ev_ix (er_ (ev_ix (er_ (ev_ix (er_ (ev_var 0)) ev_int (h := (by first | assumption | rfl | exact at_ (by assumption) | exact at_n (by assumption))))) (ev_var 1) (h := (at_ hj)))) ev_int (h := (by first | assumption | rfl | exact at_ (by assumption) | exact at_n (by assumption)))) (ea_cons (ev_ix (er_ (ev_ix (er_ (ev_ix (er_ (ev_var 0)) ev_int (h := (by first | assumption | rfl | exact at_ (by assumption) | exact at_n (by assumption))))) (ev_var 1) (h := (at_ hj)))) ev_int (h := (by first | assumption | rfl | exact at_ (by assumption) | exact at_n (by assumption)))) ea_nil))))) ea_nil))) ?_)
  refine sb_cons (sx_append (ei_var 3) (ev_tup (ea_cons (ev_call C_night_node (hr.mono (by decide)) (ea_cons (ev_var 0) (ea_cons (ev_var 1) ea_nil)) (fun _ p => ⟨_, .mk b j hl3 (by omega), p⟩)) (ea_cons (ev_gint T.light) (ea_cons (ev_call C_night_need (hr.mono (by decide)) (ea_cons (ev_var 0) (ea_cons (ev_var 1) ea_nil)) (fun _ p => ⟨_, .mk b j _ hj (by omega), p⟩)) (ea_cons ev_int ea_nil))))) rfl (by simp) ?_)
  refine sb_cut (fun ρ s => ρ = [.d (dBk b), .d (.int j), .d (.int (b.sN j : Nat)), .r 0, .no] ∧ s = [.lst ((b.dayTies0 j).map dTie)]) ?_ ?_
  · refine sx_if (k := decide ((j : Int) + 1 < b.days.length)) (et_is (et_cmp co_lt (er_ (ev_add (ev_var 1) ev_int)) (er_ (ev_len T (er_ (ev_ix (er_ (ev_var 0)) ev_int (h := (by first | assumption | rfl | exact at_ (by assumption) | exact at_n (by assumption)))))))) (by rw [List.length_map])) (fun hk => ?_) (fun hk => ?_)
    · have hk' : j + 1 < b.days.length := by have := of_decide_eq_true hk; omega
      refine sb_last (sx_append (ei_var 3) (ev_tup (ea_cons (ev_var 2) (ea_cons (ev_call C_store_node (hr.mono (by decide)) (ea_cons (ev_var 0) (ea_cons (ev_add (ev_var 1) ev_int) ea_nil)) (fun _ p => ⟨_, .mk b (j + 1) hl3 (by omega), p⟩)) (ea_cons (ev_ix (er_ (ev_var 0)) ev_int (h := (by first | assumption | rfl | exact at_ (by assumption) | exact at_n (by assumption)))) (ea_cons ev_int ea_nil))))) rfl (by simp) ⟨rfl, ?_⟩)
      unfold Bk.dayTies0
      rw [if_pos hk']
      rfl
    · have hk' : ¬ j + 1 < b.days.length := by have := of_decide_eq_false hk; omega
      refine sb_nil ⟨rfl, ?_⟩
      unfold Bk.dayTies0
      rw [if_neg hk']
      rfl
  · rintro ρ s ⟨rfl, rfl⟩
    refine sb_cons (sx_for (items := (List.range b.lamps.length).map eNat) (es_rangeN T (ev_is (ev_len T (er_ (ev_ix (er_ (ev_var 0)) ev_int (h := (by first | assumption | rfl | exact at_ (by assumption) | exact at_n (by assumption)))))) (by rw [List.length_map])) (by omega)) (gx_name 4 nd) (fun i ρ s => ∃ x, ρ = [.d (dBk b), .d (.int j), .d (.int (b.sN j : Nat)), .r 0, x] ∧ s = [.lst ((b.dayTies0 j ++ (List.range i).flatMap fun i => b.lampTies i j).map dTie)]) ⟨_, rfl, by simp⟩ ?_ ?_)
    · rintro i d ρ s hd ⟨x, rfl, rfl⟩
      obtain ⟨i', hi', rfl⟩ := map_get hd
      have hi2 : i < b.lamps.length ∧ i' = i := by
        rw [List.getElem?_eq_some_iff] at hi'
        obtain ⟨q1, q2⟩ := hi'
        simp at q1 q2
        exact ⟨q1, q2.symm⟩
      obtain ⟨hi3, rfl⟩ := hi2
      have l1 := dayTies0_len b j
      have l2 := flat_len (fun i => b.lampTies i j) 4 (fun i => lampTies_len b i j) i'
      have l3 := lampTies_len b i' j
      refine ⟨_, rfl, sb_last (sx_extend (ei_var 3) (ev_call C_lamp_ties (hr.mono (by decide)) (ea_cons (ev_var 0) (ea_cons (ev_var 4) (ea_cons (ev_var 1) ea_nil))) (fun _ p => ⟨_, .mk b i' j o hi3 h2, p⟩)) rfl (by simp only [List.length_map, List.length_append]; omega) ⟨_, rfl, ?_⟩)⟩
      rw [flat_succ, ← List.map_append, List.append_assoc]
      rfl
    · rintro ρ s ⟨x, rfl, rfl⟩
      rw [List.length_map, List.length_range]
      exact sb_last (sx_retR (er_ref 3) hp)
theorem c_web_of (T : Tops K mg) (FD : IsDef K mg "web_of" sWebOf) (C_store_node : Calls P wd K mg base 1 "store_node" (PF FStoreNode)) (C_tank_node : Calls P wd K mg base 2 "tank_node" (PF FTankNode)) (C_day_ties : Calls P wd K mg base 4 "day_ties" (PF FDayTies)) : Calls P wd K mg base 5 "web_of" (PF FWebOf) := by
  obtain ⟨f, fd, FD, hm⟩ := FD.ex
  refine Calls.mk (N := ["book", "ties", "lamp", "day"]) (ps := ["book"]) FD ⟨rfl, rfl, rfl, by decide +kernel, rfl, by decide +kernel, by decide +kernel⟩ hm (fun _ _ _ _ _ _ us h => by match us, h with | [a0], _ => rfl) (fun ds Pd ⟨d, h, _⟩ => by cases h; rfl) fun cdv A outer s H E hr ds Pd ⟨d, h, hp⟩ => ?_
  have nd : (["book", "ties", "lamp", "day"] : List Str).Nodup := by decide +kernel
  cases h with
  | mk b o =>
  have hl3 := o.l3
  have hd4 := o.d4
  refine sb_cons (sx_new 1 nd (en_lst (ea_cons (ev_tup (ea_cons (ev_gint T.sea) (ea_cons (ev_call C_store_node (hr.mono (by decide)) (ea_cons (ev_var 0) (ea_cons ev_int ea_nil)) (fun _ p => ⟨_, .mk b 0 hl3 (by omega), p⟩)) (ea_cons (ev_ix (er_ (ev_var 0)) ev_int (h := (by first | assumption | rfl | exact at_ (by assumption) | exact at_n (by assumption)))) (ea_cons ev_int ea_nil))))) ea_nil)) ?_)
  refine sb_cons (sx_for (items := (List.range b.lamps.length).map eNat) (es_rangeN T (ev_is (ev_len T (er_ (ev_ix (er_ (ev_var 0)) ev_int (h := (by first | assumption | rfl | exact at_ (by assumption) | exact at_n (by assumption)))))) (by rw [List.length_map])) (by omega)) (gx_name 2 nd) (fun i ρ s => ∃ x y, ρ = [.d (dBk b), .r 0, x, y] ∧ s = [.lst ((⟨0, b.sN 0, b.oil, 0⟩ :: (List.range i).map fun i => ⟨0, b.tN i 0, b.lamps[i]!.oil, 0⟩ : List Tie).map dTie)]) ⟨_, _, rfl, rfl⟩ ?_ ?_)
  · rintro i d ρ s hd ⟨x, y, rfl, rfl⟩
    obtain ⟨i', hi', rfl⟩ := map_get hd
    have hi2 : i < b.lamps.length ∧ i' = i := by
      rw [List.getElem?_eq_some_iff] at hi'
      obtain ⟨q1, q2⟩ := hi'
      simp at q1 q2
      exact ⟨q1, q2.symm⟩
    obtain ⟨hi3, rfl⟩ := hi2
    have hi := get_bang hi3
    refine ⟨_, rfl, sb_last (sx_append (ei_var 1) (ev_tup (ea_cons (ev_gint T.sea) (ea_cons (ev_call C_tank_node (hr.mono (by decide)) (ea_cons (ev_var 0) (ea_cons (ev_var 2) (ea_cons ev_int ea_nil))) (fun _ p => ⟨_, .mk b i' 0 hl3 (by omega) (by omega), p⟩)) (ea_cons (ev_ix (er_ (ev_ix (er_ (ev_ix (er_ (ev_var 0)) ev_int (h := (by first | assumption | rfl | exact at_ (by assumption) | exact at_n (by assumption))))) (ev_var 2) (h := (at_ hi)))) ev_int (h := (by first | assumption | rfl | exact at_ (by assumption) | exact at_n (by assumption)))) (ea_cons ev_int ea_nil))))) rfl (by simp; omega) ⟨_, _, rfl, ?_⟩)⟩
    rw [List.range_succ, List.map_append, List.map_cons, List.map_cons, List.map_append]
    rfl
  · rintro ρ s ⟨x, y, rfl, rfl⟩
    rw [List.length_map, List.length_range]
    refine sb_cons (sx_for (items := (List.range b.days.length).map eNat) (es_rangeN T (ev_is (ev_len T (er_ (ev_ix (er_ (ev_var 0)) ev_int (h := (by first | assumption | rfl | exact at_ (by assumption) | exact at_n (by assumption)))))) (by rw [List.length_map])) (by omega)) (gx_name 3 nd) (fun i ρ s => ∃ x y, ρ = [.d (dBk b), .r 0, x, y] ∧ s = [.lst ((b.ties0 ++ (List.range i).flatMap fun j => b.dayTies j).map dTie)]) ⟨_, _, rfl, by simp [Bk.ties0]⟩ ?_ ?_)
    · rintro i d ρ s hd ⟨x, y, rfl, rfl⟩
      obtain ⟨i', hi', rfl⟩ := map_get hd
      have hi2 : i < b.days.length ∧ i' = i := by
        rw [List.getElem?_eq_some_iff] at hi'
        obtain ⟨q1, q2⟩ := hi'
        simp at q1 q2
        exact ⟨q1, q2.symm⟩
      obtain ⟨hi3, rfl⟩ := hi2
      have l1 : b.ties0.length = 1 + b.lamps.length := by simp [Bk.ties0, Nat.add_comm]
      have l2 := flat_len (fun i => b.dayTies i) 16 (fun i => dayTies_len o i) i'
      have l3 := dayTies_len o i'
      refine ⟨_, rfl, sb_last (sx_extend (ei_var 1) (ev_call C_day_ties (hr.mono (by decide)) (ea_cons (ev_var 0) (ea_cons (ev_var 3) ea_nil)) (fun _ p => ⟨_, .mk b i' o hi3, p⟩)) rfl (by simp only [List.length_map, List.length_append]; omega) ⟨_, _, rfl, ?_⟩)⟩
      rw [flat_succ, ← List.map_append, List.append_assoc]
      rfl
    · rintro ρ s ⟨x, y, rfl, rfl⟩
      rw [List.length_map, List.length_range]
      have es : (b.ties0 ++ (List.range b.days.length).flatMap fun j => b.dayTies j).map dTie = (b.tieL.map tl).map tupI := by
        rw [List.map_map]
        rfl
      rw [es]
      refine sb_last (sx_ret (ev_is (ev_tup (ea_cons (ev_call C_store_node (hr.mono (by decide)) (ea_cons (ev_var 0) (ea_cons (ev_len T (er_ (ev_ix (er_ (ev_var 0)) ev_int (h := (by first | assumption | rfl | exact at_ (by assumption) | exact at_n (by assumption)))))) ea_nil)) (fun _ p => ⟨_, .mk b (b.days.map dDy).length hl3 (by rw [List.length_map]; exact hd4), p⟩)) (ea_cons (ev_tupleOf T (er_n (en_sortI T (er_ref 1) (fun ns hn => by obtain ⟨t, _, rfl⟩ := List.mem_map.mp hn; exact fun z => nomatch z)))) ea_nil))) ?_) hp)
      rw [srt_map, List.map_map, List.length_map]
      rfl
end

/-! ## webs.py, the looks -/
structure Web.Ok (w : Web) : Prop where
  n : w.n ≤ 1000
  m : w.ties.length ≤ 1000
  t : ∀ x ∈ w.ties, x.a < w.n ∧ x.c < w.n ∧ x.a ≠ x.c
def placesTo (ts : List Tie) (v : Nat) : Nat → List Nat
  | 0 => []
  | p + 1 => placesTo ts v p ++ ((if ts[p]!.a = v then [p] else []) ++ (if ts[p]!.c = v then [p] else []))
def Web.at (w : Web) (v : Nat) : List Nat := placesTo w.ties v w.ties.length
def dPlaces (w : Web) : D := .lst (((List.range w.n).map fun v => (w.at v).map eNat).map D.lst)
theorem placesTo_len (ts : List Tie) (v : Nat) : ∀ p, (placesTo ts v p).length ≤ 2 * p
  | 0 => Nat.le_refl _
  | p + 1 => by
    have := placesTo_len ts v p
    unfold placesTo
    rw [List.length_append, List.length_append]
    split <;> split <;> simp <;> omega
theorem placesTo_lt (ts : List Tie) (v : Nat) : ∀ p, ∀ x ∈ placesTo ts v p, x < p
  | 0, x, h => nomatch h
  | p + 1, x, h => by
    unfold placesTo at h
    rw [List.mem_append, List.mem_append] at h
    rcases h with h | h | h
    · have := placesTo_lt ts v p x h; omega
    · split at h
      · rw [List.mem_singleton.mp h]; omega
      · cases h
    · split at h
      · rw [List.mem_singleton.mp h]; omega
      · cases h
theorem Web.at_lt (w : Web) (v : Nat) {p : Nat} (h : p ∈ w.at v) : p < w.ties.length := placesTo_lt _ _ _ p h
inductive FTiesAt : List D → D → Prop where
  | mk (w : Web) (o : w.Ok) : FTiesAt [dWeb w] (dPlaces w)
structure Stp where
  other : Nat
  place : Nat
  along : Bool
def dStp (x : Stp) : D := .tup [.int x.other, .int x.place, .bl x.along]
def stepAt (w : Web) (fl : List Int) (v p : Nat) : List Stp := if w.ties[p]!.a = v ∧ fl[p]! < w.ties[p]!.most then [⟨w.ties[p]!.c, p, true⟩] else if w.ties[p]!.c = v ∧ 0 < fl[p]! then [⟨w.ties[p]!.a, p, false⟩] else []
def stepsTo (w : Web) (fl : List Int) (v : Nat) : Nat → List Stp
  | 0 => []
  | i + 1 => stepsTo w fl v i ++ stepAt w fl v (w.at v)[i]!
def stepsF (w : Web) (fl : List Int) (v : Nat) : List Stp := stepsTo w fl v (w.at v).length
theorem stepsTo_len (w : Web) (fl : List Int) (v : Nat) : ∀ i, (stepsTo w fl v i).length ≤ i
  | 0 => Nat.le_refl _
  | i + 1 => by
    have := stepsTo_len w fl v i
    unfold stepsTo stepAt
    rw [List.length_append]
    split
    · simp; omega
    · split
      · simp; omega
      · simp; omega
inductive FStepsFrom : List D → D → Prop where
  | mk (w : Web) (o : w.Ok) (x : D) (fl : List Int) (hx : Seq x (fl.map D.int)) (hl : fl.length = w.ties.length) (v : Nat) (hv : v < w.n) : FStepsFrom [dWeb w, dPlaces w, x, .int v] (.lst ((stepsF w fl v).map dStp))
abbrev Par := Option (Nat × Nat × Bool)
def dPar : Par → D
  | none => .non
  | some (v, p, al) => .tup [.int v, .int p, .bl al]
abbrev Fnd := List (Nat × Par)
def dFnd (f : Fnd) : D := .dk (f.map fun q => ((q.1 : Int), dPar q.2))
def visit (v : Nat) (f : Fnd) (x : Stp) : Fnd := if x.other ∈ f.map (·.1) then f else f ++ [(x.other, some (v, x.place, x.along))]
def visits (v : Nat) (f : Fnd) (xs : List Stp) : Nat → Fnd
  | 0 => f
  | i + 1 => match xs[i]? with
    | some x => visit v (visits v f xs i) x
    | none => visits v f xs i
section
variable {P : Program} {wd : World} {K : PySem.W.Frag} {mg : Str → Option Value} {base : Heap}
theorem llS_map (n : Nat) (ts : List Tie) : llS 0 n = (List.range n).map (fun v => MO.lst ((placesTo ts v 0).map eNat)) ++ [.ll ((List.range n).map (0 + ·))] := by
  unfold llS
  congr 1
  apply List.ext_getElem
  · simp
  · intro i h1 h2
    simp [placesTo]
theorem set_ll {n m : Nat} (f g : Nat → MO) (x : MO) (t : List MO) (hm : m < n) (h : ∀ v, g v = if v = m then x else f v) : ((List.range n).map f ++ t).set m x = (List.range n).map g ++ t := by
  apply List.ext_getElem?
  intro i
  rw [List.getElem?_set]
  by_cases hi : i < n
  · rw [List.getElem?_append_left (by simpa using hi), List.getElem?_append_left (by simpa using hi)]
    by_cases e : m = i
    · subst e
      rw [if_pos rfl, if_pos (by simp; omega)]
      simp [hi, h]
    · rw [if_neg e]
      have e' : ¬ i = m := fun z => e z.symm
      simp [hi, h, e']
  · rw [if_neg (by omega), List.getElem?_append_right (by simpa using hi), List.getElem?_append_right (by simpa using hi)]
    simp
theorem ll_get {n : Nat} (f : Nat → MO) (t : MO) {m : Nat} (h : m < n) : ((List.range n).map f ++ [t])[m]? = some (f m) := by
  rw [List.getElem?_append_left (by simpa using h)]
  simp [h]
theorem ll_last {n : Nat} (f : Nat → MO) (t : MO) : ((List.range n).map f ++ [t])[n]? = some t := by
  rw [List.getElem?_append_right (by simp)]
  simp
theorem ll_at {n m : Nat} (h : m < n) : atI ((List.range n).map (0 + ·)) ((m : Nat) : Int) = some m := by
  have h2 : (List.range n)[m]? = some m := List.getElem?_range h
  rw [at_ h2, Nat.zero_add]
theorem c_ties_at (T : Tops K mg) (FD : IsDef K mg "ties_at" sTiesAt)  : Calls P wd K mg base 1 "ties_at" (PF FTiesAt) := by
  obtain ⟨f, fd, FD, hm⟩ := FD.ex
  refine Calls.mk (N := ["web", "places", "node", "place", "tie"]) (ps := ["web"]) FD ⟨rfl, rfl, rfl, by decide +kernel, rfl, by decide +kernel, by decide +kernel⟩ hm (fun _ _ _ _ _ _ us h => by match us, h with | [a0], _ => rfl) (fun ds Pd ⟨d, h, _⟩ => by cases h; rfl) fun cdv A outer s H E hr ds Pd ⟨d, h, hp⟩ => ?_
  have nd : (["web", "places", "node", "place", "tie"] : List Str).Nodup := by decide +kernel
  cases h with
  | mk w o =>
  have hn := o.n
  have hm2 := o.m
  refine sb_cons (sx_newLL 1 2 T nd (es_range T (ev_ix (er_ (ev_var 0)) ev_int (h := (by first | assumption | rfl | exact at_ (by assumption) | exact at_n (by assumption)))) (by omega)) (by omega) (blkOk_by (own := [("node", 2)]) (N := ["web", "places", "node", "place", "tie"]) (sc := defScope sTiesAt) (by decide +kernel)) rfl (by first | exact Or.inl rfl | exact Or.inr rfl) (by first | exact Or.inl rfl | exact Or.inr rfl) ?_)
  rw [show ([] : List MO) ++ llS [].length w.n = llS 0 w.n from rfl, llS_map w.n w.ties]
  refine sb_cons (sx_for (items := enums 0 (w.ties.map dTie)) (es_enumT T (ev_ix (er_ (ev_var 0)) ev_int (h := (by first | assumption | rfl | exact at_ (by assumption) | exact at_n (by assumption))))) (gx_tup (gxs_cons 3 nd (gxs_cons 4 nd gxs_nil))) (fun i ρ s => ∃ x y z, ρ = [.d (dWeb w), .r w.n, x, y, z] ∧ s = (List.range w.n).map (fun v => MO.lst ((placesTo w.ties v i).map eNat)) ++ [.ll ((List.range w.n).map (0 + ·))]) ⟨_, _, _, by rw [List.length_nil, Nat.zero_add]; rfl, rfl⟩ ?_ ?_)
  · rintro i d ρ s hd ⟨x, y, z, rfl, rfl⟩
    obtain ⟨y', hy, rfl⟩ := enums_get _ 0 i d hd
    obtain ⟨t, ht, rfl⟩ := map_get hy
    obtain ⟨ha, hc, hac⟩ := o.t t (List.mem_of_getElem? ht)
    have hi : i < w.ties.length := (List.getElem?_eq_some_iff.mp ht).1
    have et : w.ties[i]! = t := by simp [ht]
    have l1 := placesTo_len w.ties t.a i
    have l2 := placesTo_len w.ties t.c i
    rw [Nat.zero_add]
    refine ⟨_, rfl, ?_⟩
    refine sb_cons (sx_append (n := t.a) (ds := (placesTo w.ties t.a i).map eNat) (ei_ix (ei_var 1) (ev_ix (er_ (ev_var 4)) ev_int (h := (by first | assumption | rfl | exact at_ (by assumption) | exact at_n (by assumption)))) (ll_last _ _) (ll_at ha)) (ev_var 3) (ll_get (fun v => MO.lst ((placesTo w.ties v i).map eNat)) _ ha) (by rw [List.length_map]; omega) ?_)
    rw [set_ll (m := t.a) (g := fun v => if v = t.a then MO.lst ((placesTo w.ties t.a i).map eNat ++ [.int i]) else MO.lst ((placesTo w.ties v i).map eNat)) _ _ _ ha fun v => rfl]
    refine sb_last (sx_append (n := t.c) (ds := (placesTo w.ties t.c i).map eNat) (ei_ix (ei_var 1) (ev_ix (er_ (ev_var 4)) ev_int (h := (by first | assumption | rfl | exact at_ (by assumption) | exact at_n (by assumption)))) (ll_last _ _) (ll_at hc)) (ev_var 3) ?_ (by rw [List.length_map]; omega) ⟨_, _, _, rfl, ?_⟩)
    · rw [ll_get _ _ hc, if_neg (Ne.symm hac)]
    · refine set_ll _ _ _ _ hc fun v => ?_
      by_cases h1 : v = t.c
      · subst h1
        rw [if_pos rfl]
        show MO.lst ((placesTo w.ties t.c i ++ ((if w.ties[i]!.a = t.c then [i] else []) ++ (if w.ties[i]!.c = t.c then [i] else []))).map eNat) = _
        rw [et, if_neg hac, if_pos rfl, List.nil_append, List.map_append]
        rfl
      · rw [if_neg h1]
        show MO.lst ((placesTo w.ties v i ++ ((if w.ties[i]!.a = v then [i] else []) ++ (if w.ties[i]!.c = v then [i] else []))).map eNat) = _
        rw [et, if_neg (fun z => h1 z.symm : ¬ t.c = v), List.append_nil]
        by_cases h2 : v = t.a
        · subst h2
          rw [if_pos rfl, if_pos rfl, List.map_append]
          rfl
        · rw [if_neg h2, if_neg (fun z => h2 z.symm : ¬ t.a = v), List.append_nil]
  · rintro ρ s ⟨x, y, z, rfl, rfl⟩
    rw [enums_len, List.length_map]
    refine sb_last (sx_retLL (n := w.n) (js := (List.range w.n).map (0 + ·)) (dss := (List.range w.n).map fun v => (w.at v).map eNat) (ei_var 1) (ll_last _ _) (by simp) (fun i j ds h1 h2 => ?_) hp)
    obtain ⟨i1, g1, rfl⟩ := map_get h1
    obtain ⟨i2, g2, rfl⟩ := map_get h2
    rw [g1] at g2
    cases g2
    have hlt : i1 < w.n := by
      have := List.mem_of_getElem? g1
      simpa using this
    rw [Nat.zero_add]
    exact ll_get _ _ hlt
theorem c_steps_from (T : Tops K mg) (FD : IsDef K mg "steps_from" sStepsFrom)  : Calls P wd K mg base 1 "steps_from" (PF FStepsFrom) := by
  obtain ⟨f, fd, FD, hm⟩ := FD.ex
  refine Calls.mk (N := ["web", "places", "flow", "node", "found", "place", "tie"]) (ps := ["web", "places", "flow", "node"]) FD ⟨rfl, rfl, rfl, by decide +kernel, rfl, by decide +kernel, by decide +kernel⟩ hm (fun _ _ _ _ _ _ us h => by match us, h with | [a0, a1, a2, a3], _ => rfl) (fun ds Pd ⟨d, h, _⟩ => by cases h; rfl) fun cdv A outer s H E hr ds Pd ⟨d, h, hp⟩ => ?_
  have nd : (["web", "places", "flow", "node", "found", "place", "tie"] : List Str).Nodup := by decide +kernel
  cases h with
  | mk w o x fl hx hl v hv =>
  have hm2 := o.m
  have hlen := placesTo_len w.ties v w.ties.length
  refine sb_cons (sx_new 4 nd (en_lst ea_nil) ?_)
  have hv2 : ((List.range w.n).map fun v => (w.at v).map eNat)[v]? = some ((w.at v).map eNat) := by simp [hv]
  refine sb_cons (sx_for (items := (w.at v).map eNat) (es_list (ev_ix (er_ (ev_var 1)) (ev_var 3) (h := (at_ hv2)))) (gx_name 5 nd) (fun i ρ s => ∃ y z, ρ = [.d (dWeb w), .d (dPlaces w), .d x, .d (.int v), .r 0, y, z] ∧ s = [.lst ((stepsTo w fl v i).map dStp)]) ⟨_, _, rfl, rfl⟩ ?_ ?_)
  · rintro i d ρ s hd ⟨y, z, rfl, rfl⟩
    obtain ⟨p, hp', rfl⟩ := map_get hd
    have hpl : p < w.ties.length := w.at_lt v (List.mem_of_getElem? hp')
    have hi : i < (w.at v).length := (List.getElem?_eq_some_iff.mp hp').1
    have hi2 : i ≤ 2 * w.ties.length := by unfold Web.at at hi; omega
    have l1 := stepsTo_len w fl v i
    have ep : (w.at v)[i]! = p := by simp [hp']
    have ht := get_bang hpl
    have hf := get_bang (xs := fl) (j := p) (by omega)
    have em : (stepsTo w fl v (i + 1)).map dStp = (stepsTo w fl v i).map dStp ++ (stepAt w fl v p).map dStp := by
      show ((stepsTo w fl v i ++ stepAt w fl v (w.at v)[i]!).map dStp) = _
      rw [List.map_append, ep]
    refine ⟨_, rfl, ?_⟩
    refine sb_cons (sx_set 6 nd (ev_ix (er_ (ev_ix (er_ (ev_var 0)) ev_int (h := (by first | assumption | rfl | exact at_ (by assumption) | exact at_n (by assumption))))) (ev_var 5) (h := (by first | assumption | rfl | exact at_ (by assumption) | exact at_n (by assumption)))) ?_)
    refine sb_last (sx_if (et_w (ew_and (et_cmp co_eq (er_ (ev_ix (er_ (ev_var 6)) ev_int (h := (by first | assumption | rfl | exact at_ (by assumption) | exact at_n (by assumption))))) (er_ (ev_var 3))) (fun hq => (ew_and1 (et_cmp co_lt (er_ (ev_ix (er_ (ev_var 2)) (ev_var 5) (q := hx) (h := at_ hf))) (er_ (ev_ix (er_ (ev_var 6)) ev_int (h := (by first | assumption | rfl | exact at_ (by assumption) | exact at_n (by assumption)))))))))) (fun hk => ?_) (fun hk => ?_))
    · have hk' : w.ties[p]!.a = v ∧ fl[p]! < w.ties[p]!.most := by
        rw [Bool.and_eq_true, decide_eq_true_iff, decide_eq_true_iff] at hk
        omega
      refine sb_last (sx_append (ei_var 4) (ev_tup (ea_cons (ev_ix (er_ (ev_var 6)) ev_int (h := (by first | assumption | rfl | exact at_ (by assumption) | exact at_n (by assumption)))) (ea_cons (ev_var 5) (ea_cons ev_bl ea_nil)))) rfl (by rw [List.length_map]; omega) ⟨_, _, rfl, ?_⟩)
      rw [em]
      unfold stepAt
      rw [if_pos hk']
      rfl
    · have hk' : ¬ (w.ties[p]!.a = v ∧ fl[p]! < w.ties[p]!.most) := by
        rw [Bool.and_eq_false_iff, decide_eq_false_iff_not, decide_eq_false_iff_not] at hk
        omega
      refine sb_last (sx_if (et_w (ew_and (et_cmp co_eq (er_ (ev_ix (er_ (ev_var 6)) ev_int (h := (by first | assumption | rfl | exact at_ (by assumption) | exact at_n (by assumption))))) (er_ (ev_var 3))) (fun hq => (ew_and1 (et_cmp co_gt (er_ (ev_ix (er_ (ev_var 2)) (ev_var 5) (q := hx) (h := at_ hf))) (er_ ev_int)))))) (fun hk2 => ?_) (fun hk2 => ?_))
      · have hk2' : w.ties[p]!.c = v ∧ 0 < fl[p]! := by
          rw [Bool.and_eq_true, decide_eq_true_iff, decide_eq_true_iff] at hk2
          omega
        refine sb_last (sx_append (ei_var 4) (ev_tup (ea_cons (ev_ix (er_ (ev_var 6)) ev_int (h := (by first | assumption | rfl | exact at_ (by assumption) | exact at_n (by assumption)))) (ea_cons (ev_var 5) (ea_cons ev_bl ea_nil)))) rfl (by rw [List.length_map]; omega) ⟨_, _, rfl, ?_⟩)
        rw [em]
        unfold stepAt
        rw [if_neg hk', if_pos hk2']
        rfl
      · have hk2' : ¬ (w.ties[p]!.c = v ∧ 0 < fl[p]!) := by
          rw [Bool.and_eq_false_iff, decide_eq_false_iff_not, decide_eq_false_iff_not] at hk2
          omega
        refine sb_nil ⟨_, _, rfl, ?_⟩
        rw [em]
        unfold stepAt
        rw [if_neg hk', if_neg hk2', List.map_nil, List.append_nil]
  · rintro ρ s ⟨y, z, rfl, rfl⟩
    rw [List.length_map]
    exact sb_last (sx_retR (er_ref 4) hp)
end

/-! ## webs.py, the walk -/
theorem lkG_fnd {β : Type} (g : β → D) (v : Nat) : ∀ f : List (Nat × β), lkG (f.map fun q => ((q.1 : Int), g q.2)) (v : Int) = (lkG f v).map g
  | [] => rfl
  | q :: f => by
    rw [List.map_cons, lkG_cons, lkG_cons, lkG_fnd g v f]
    by_cases h : q.1 = v
    · rw [if_pos h, if_pos (by rw [h])]; rfl
    · rw [if_neg h, if_neg (by omega)]
theorem dg_k {kvs : List (Int × D)} {i : Int} {d : D} (h : lkG kvs i = some d) : DG (.dk kvs) (.int i) (some d) := by
  rw [← h]
  exact .k kvs i
structure FndOk (n : Nat) (f : Fnd) : Prop where
  nd : (f.map (·.1)).Nodup
  lt : ∀ q ∈ f, q.1 < n
  par : ∀ (j : Nat) v u p al, f[j]? = some (v, some (u, p, al)) → ∃ j', j' < j ∧ ∃ r, f[j']? = some (u, r)
theorem FndOk.len {n : Nat} {f : Fnd} (o : FndOk n f) : f.length ≤ n := by
  have h := nat_nodup_len (f.map (·.1)) (List.range n) o.nd fun x hx => by
    obtain ⟨q, hq, rfl⟩ := List.mem_map.mp hx
    exact List.mem_range.mpr (o.lt q hq)
  rw [List.length_map, List.length_range] at h
  exact h
theorem visit_pre {v : Nat} {f : Fnd} {x : Stp} {k : Nat} {q : Nat × Par} (h : f[k]? = some q) : (visit v f x)[k]? = some q := by
  unfold visit
  split
  · exact h
  · rw [List.getElem?_append_left (List.getElem?_eq_some_iff.mp h).1]
    exact h
theorem visits_pre {v : Nat} {f : Fnd} {xs : List Stp} {k : Nat} {q : Nat × Par} (h : f[k]? = some q) : ∀ i, (visits v f xs i)[k]? = some q
  | 0 => h
  | i + 1 => by
    unfold visits
    split
    · exact visit_pre (visits_pre h i)
    · exact visits_pre h i
theorem visit_ok {n : Nat} {f : Fnd} {x : Stp} {v k : Nat} {r : Par} (o : FndOk n f) (hv : f[k]? = some (v, r)) (hx : x.other < n) : FndOk n (visit v f x) := by
  unfold visit
  split
  · exact o
  · rename_i hm
    refine ⟨?_, fun q hq => ?_, fun j w u p al h => ?_⟩
    · rw [List.map_append]
      refine List.nodup_append.mpr ⟨o.nd, List.nodup_cons.mpr ⟨List.not_mem_nil, List.nodup_nil⟩, fun a ha b hb z => ?_⟩
      rw [show b = x.other from List.mem_singleton.mp hb] at z
      rw [z] at ha
      exact hm ha
    · rcases List.mem_append.mp hq with h | h
      · exact o.lt q h
      · rw [List.mem_singleton.mp h]; exact hx
    · by_cases hj : j < f.length
      · rw [List.getElem?_append_left hj] at h
        obtain ⟨j', h1, r', h2⟩ := o.par j w u p al h
        exact ⟨j', h1, r', by rw [List.getElem?_append_left (List.getElem?_eq_some_iff.mp h2).1]; exact h2⟩
      · rw [List.getElem?_append_right (by omega)] at h
        have hj0 : j - f.length = 0 := by
          have := (List.getElem?_eq_some_iff.mp h).1
          simpa using this
        rw [hj0] at h
        cases h
        have hk := (List.getElem?_eq_some_iff.mp hv).1
        exact ⟨k, by omega, r, by rw [List.getElem?_append_left hk]; exact hv⟩
theorem visits_ok {n : Nat} {f : Fnd} {xs : List Stp} {v k : Nat} {r : Par} (o : FndOk n f) (hv : f[k]? = some (v, r)) (hx : ∀ x ∈ xs, x.other < n) : ∀ i, FndOk n (visits v f xs i)
  | 0 => o
  | i + 1 => by
    unfold visits
    split
    · rename_i x h
      exact visit_ok (visits_ok o hv hx i) (visits_pre hv i) (hx x (List.mem_of_getElem? h))
    · exact visits_ok o hv hx i
theorem stepAt_lt {w : Web} (o : w.Ok) {fl : List Int} {v p : Nat} (hp : p < w.ties.length) : ∀ x ∈ stepAt w fl v p, x.other < w.n := fun x hx => by
  have ht := o.t _ (List.mem_of_getElem? (get_bang hp))
  unfold stepAt at hx
  split at hx
  · rw [List.mem_singleton.mp hx]; exact ht.2.1
  · split at hx
    · rw [List.mem_singleton.mp hx]; exact ht.1
    · cases hx
theorem stepsTo_lt {w : Web} (o : w.Ok) {fl : List Int} {v : Nat} : ∀ i, i ≤ (w.at v).length → ∀ x ∈ stepsTo w fl v i, x.other < w.n
  | 0, _, x, h => nomatch h
  | i + 1, hi, x, h => by
    unfold stepsTo at h
    rcases List.mem_append.mp h with h | h
    · exact stepsTo_lt o i (by omega) x h
    · exact stepAt_lt o (w.at_lt v (List.mem_of_getElem? (get_bang (by omega)))) x h
def bfsTo (w : Web) (fl : List Int) (first : Nat) : Nat → Fnd
  | 0 => [(first, none)]
  | i + 1 => match (bfsTo w fl first i)[i]? with
    | some q => visits q.1 (bfsTo w fl first i) (stepsF w fl q.1) (stepsF w fl q.1).length
    | none => bfsTo w fl first i
theorem bfs_ok {w : Web} (o : w.Ok) {fl : List Int} {first : Nat} (hf : first < w.n) : ∀ i, FndOk w.n (bfsTo w fl first i)
  | 0 => ⟨by simp [bfsTo], fun q hq => by rw [List.mem_singleton.mp hq]; exact hf, fun j v u p al h => by
    cases j with
    | zero => cases h
    | succ j => cases h⟩
  | i + 1 => by
    unfold bfsTo
    split
    · rename_i q h
      exact visits_ok (r := q.2) (bfs_ok o hf i) h (stepsTo_lt o _ (Nat.le_refl _)) _
    · exact bfs_ok o hf i
theorem bfs_stay {w : Web} {fl : List Int} {first i : Nat} (h : (bfsTo w fl first i).length ≤ i) : ∀ k, bfsTo w fl first (i + k) = bfsTo w fl first i
  | 0 => rfl
  | k + 1 => by
    have e := bfs_stay h k
    show (match (bfsTo w fl first (i + k))[i + k]? with
      | some q => visits q.1 (bfsTo w fl first (i + k)) (stepsF w fl q.1) (stepsF w fl q.1).length
      | none => bfsTo w fl first (i + k)) = _
    rw [e, List.getElem?_eq_none (by omega)]
def come (w : Web) (fl : List Int) (first : Nat) : Fnd := bfsTo w fl first w.n
theorem bfs_come {w : Web} (o : w.Ok) {fl : List Int} {first i : Nat} (hf : first < w.n) (h : (bfsTo w fl first i).length = i) : bfsTo w fl first i = come w fl first := by
  have h2 := (bfs_ok o (fl := fl) hf i).len
  have := bfs_stay (k := w.n - i) (Nat.le_of_eq h)
  rw [show i + (w.n - i) = w.n by omega] at this
  exact this.symm
inductive FComeTo : List D → D → Prop where
  | mk (w : Web) (o : w.Ok) (x : D) (fl : List Int) (hx : Seq x (fl.map D.int)) (hl : fl.length = w.ties.length) (v : Nat) (hv : v < w.n) : FComeTo [dWeb w, dPlaces w, x, .int v] (dFnd (come w fl v))
def ixAt (n k : Nat) (ρ : List Sl) : Nat := match ρ[k]? with
  | some (Sl.d (D.int a)) => n - a.toNat
  | _ => 0
def dWS (q : Nat × Bool) : D := .tup [.int q.1, .bl q.2]
def wayN (f : Fnd) : Nat → Par → List (Nat × Bool)
  | 0, _ => []
  | _ + 1, none => []
  | k + 1, some (v, p, al) => (p, al) :: wayN f k ((lkG f v).getD none)
def FO (f : Fnd) (pr : Par) (k : Nat) : Prop := ∀ v p al, pr = some (v, p, al) → ∃ j, j < k ∧ ∃ r, f[j]? = some (v, r)
theorem lk_ix {f : Fnd} (nd : (f.map (·.1)).Nodup) {j v : Nat} {r : Par} (h : f[j]? = some (v, r)) : lkG f v = some r := by
  induction f generalizing j with
  | nil => cases h
  | cons q f ih =>
    rw [lkG_cons]
    rw [List.map_cons] at nd
    obtain ⟨n1, n2⟩ := List.nodup_cons.mp nd
    cases j with
    | zero => cases h; rw [if_pos rfl]
    | succ j =>
      have h' : f[j]? = some (v, r) := h
      rw [if_neg fun z => n1 (List.mem_map.mpr ⟨_, List.mem_of_getElem? h', z.symm⟩)]
      exact ih n2 h'
theorem FO.next {n : Nat} {f : Fnd} (o : FndOk n f) {v p : Nat} {al : Bool} {k : Nat} (h : FO f (some (v, p, al)) (k + 1)) : ∃ pr, lkG f v = some pr ∧ FO f pr k := by
  obtain ⟨j, hj, r, hr⟩ := h v p al rfl
  refine ⟨r, lk_ix o.nd hr, fun u p2 al2 e => ?_⟩
  subst e
  obtain ⟨j', h1, r', h2⟩ := o.par j v u p2 al2 hr
  exact ⟨j', by omega, r', h2⟩
inductive FWayBack : List D → D → Prop where
  | mk (n : Nat) (f : Fnd) (o : FndOk n f) (hn : n ≤ 1000) (v : Nat) (pr : Par) (h : lkG f v = some pr) : FWayBack [dFnd f, .int v] (.lst ((wayN f f.length pr).map dWS))
def room (w : Web) (fl : List Int) (q : Nat × Bool) : Int := if q.2 then w.ties[q.1]!.most - fl[q.1]! else fl[q.1]!
inductive FRoomOn : List D → D → Prop where
  | mk (w : Web) (fl : List Int) (hl : fl.length = w.ties.length) (q : Nat × Bool) (h : q.1 < w.ties.length) : FRoomOn [dWeb w, .lst (fl.map D.int), dWS q] (.int (room w fl q))
section
variable {P : Program} {wd : World} {K : PySem.W.Frag} {mg : Str → Option Value} {base : Heap}
theorem c_come_to (T : Tops K mg) (FD : IsDef K mg "come_to" sComeTo) (C_steps_from : Calls P wd K mg base 1 "steps_from" (PF FStepsFrom)) : Calls P wd K mg base 2 "come_to" (PF FComeTo) := by
  obtain ⟨f, fd, FD, hm⟩ := FD.ex
  refine Calls.mk (N := ["web", "places", "flow", "first", "found", "line", "at", "other", "place", "along"]) (ps := ["web", "places", "flow", "first"]) FD ⟨rfl, rfl, rfl, by decide +kernel, rfl, by decide +kernel, by decide +kernel⟩ hm (fun _ _ _ _ _ _ us h => by match us, h with | [a0, a1, a2, a3], _ => rfl) (fun ds Pd ⟨d, h, _⟩ => by cases h; rfl) fun cdv A outer s H E hr ds Pd ⟨d, h, hp⟩ => ?_
  have nd : (["web", "places", "flow", "first", "found", "line", "at", "other", "place", "along"] : List Str).Nodup := by decide +kernel
  cases h with
  | mk w o x fl hx hl v hv =>
  have hn := o.n
  refine sb_cons (sx_newD 4 nd (eps_cons (ev_var 3) ev_non eps_nil) (Nat.le_of_ble_eq_true rfl) ?_)
  refine sb_cons (sx_new 5 nd (en_lst (ea_cons (ev_var 3) ea_nil)) ?_)
  refine sb_cons (sx_set 6 nd ev_int ?_)
  refine sb_cut (fun ρ s => ∃ y z u, ρ = [.d (dWeb w), .d (dPlaces w), .d x, .d (.int v), .r 0, .r 1, .d (.int (come w fl v).length), y, z, u] ∧ s = [.dk ((come w fl v).map fun q => ((q.1 : Int), dPar q.2)), .lst (((come w fl v).map (·.1)).map eNat)]) ?_ ?_
  · refine sx_while (fun ρ s => ∃ (i : Nat) (y z u : Sl), i ≤ (bfsTo w fl v i).length ∧ ρ = [.d (dWeb w), .d (dPlaces w), .d x, .d (.int v), .r 0, .r 1, .d (.int i), y, z, u] ∧ s = [.dk ((bfsTo w fl v i).map fun q => ((q.1 : Int), dPar q.2)), .lst (((bfsTo w fl v i).map (·.1)).map eNat)]) (fun ρ s => ixAt w.n 6 ρ) ⟨0, _, _, _, Nat.zero_le _, rfl, rfl⟩ ?_
    rintro ρ s ⟨i, y, z, u, hi, rfl, rfl⟩
    have ok := bfs_ok o (fl := fl) hv i
    have hlen := ok.len
    refine ⟨decide ((i : Int) < (bfsTo w fl v i).length), et_is (et_cmp co_lt (er_ (ev_var 6)) (er_ (ev_len T (er_ref 5)))) (by rw [List.length_map, List.length_map]), fun hk => ?_, fun hk => ?_⟩
    · have hk' : i < (bfsTo w fl v i).length := by have := of_decide_eq_true hk; omega
      obtain ⟨q, hq⟩ : ∃ q, (bfsTo w fl v i)[i]? = some q := ⟨(bfsTo w fl v i)[i], by simp [hk']⟩
      have hqn := ok.lt q (List.mem_of_getElem? hq)
      have hql : ((bfsTo w fl v i).map (·.1))[i]? = some q.1 := by rw [List.getElem?_map, hq]; rfl
      have hb : bfsTo w fl v (i + 1) = visits q.1 (bfsTo w fl v i) (stepsF w fl q.1) (stepsF w fl q.1).length := by
        show (match (bfsTo w fl v i)[i]? with
          | some q => visits q.1 (bfsTo w fl v i) (stepsF w fl q.1) (stepsF w fl q.1).length
          | none => bfsTo w fl v i) = _
        rw [hq]
      have hxs : ∀ x ∈ stepsF w fl q.1, x.other < w.n := stepsTo_lt o _ (Nat.le_refl _)
      refine sb_cut (fun ρ s => ∃ y z u, ρ = [.d (dWeb w), .d (dPlaces w), .d x, .d (.int v), .r 0, .r 1, .d (.int i), y, z, u] ∧ s = [.dk ((bfsTo w fl v (i + 1)).map fun q => ((q.1 : Int), dPar q.2)), .lst (((bfsTo w fl v (i + 1)).map (·.1)).map eNat)]) ?_ ?_
      · refine sx_for (items := (stepsF w fl q.1).map dStp) (es_list (ev_call C_steps_from (hr.mono (by decide)) (ea_cons (ev_var 0) (ea_cons (ev_var 1) (ea_cons (ev_var 2) (ea_cons (ev_ix (er_ref 5) (ev_var 6) (h := (at_ hql))) ea_nil)))) (fun _ p => ⟨_, .mk w o x fl hx hl q.1 hqn, p⟩))) (gx_tup (gxs_cons 7 nd (gxs_cons 8 nd (gxs_cons 9 nd gxs_nil)))) (fun j ρ s => ∃ y z u, ρ = [.d (dWeb w), .d (dPlaces w), .d x, .d (.int v), .r 0, .r 1, .d (.int i), y, z, u] ∧ s = [.dk ((visits q.1 (bfsTo w fl v i) (stepsF w fl q.1) j).map fun q => ((q.1 : Int), dPar q.2)), .lst (((visits q.1 (bfsTo w fl v i) (stepsF w fl q.1) j).map (·.1)).map eNat)]) ⟨_, _, _, rfl, rfl⟩ ?_ ?_
        · rintro j d ρ s hd ⟨y, z, u, rfl, rfl⟩
          obtain ⟨t, ht, rfl⟩ := map_get hd
          have ok2 := visits_ok (r := q.2) ok hq hxs j
          have hlen2 := ok2.len
          have hj : visits q.1 (bfsTo w fl v i) (stepsF w fl q.1) (j + 1) = visit q.1 (visits q.1 (bfsTo w fl v i) (stepsF w fl q.1) j) t := by
            show (match (stepsF w fl q.1)[j]? with
              | some x => visit q.1 (visits q.1 (bfsTo w fl v i) (stepsF w fl q.1) j) x
              | none => visits q.1 (bfsTo w fl v i) (stepsF w fl q.1) j) = _
            rw [ht]
          have hq2 := visits_pre (v := q.1) (xs := stepsF w fl q.1) hq j
          rw [hj]
          generalize visits q.1 (bfsTo w fl v i) (stepsF w fl q.1) j = g at *
          have hql2 : (g.map (·.1))[i]? = some q.1 := by rw [List.getElem?_map, hq2]; rfl
          refine ⟨_, rfl, ?_⟩
          refine sb_last (sx_if (k := !(lkG g t.other).isSome) (et_is (et_ninD hr.units (ev_var 7) (er_ref 4) (.k _ _)) (by rw [lkG_fnd]; simp)) (fun hk => ?_) (fun hk => ?_))
          · have hnm : lkG g t.other = none := by
              cases hh : lkG g t.other with
              | none => rfl
              | some _ => rw [hh] at hk; cases hk
            have hnm2 : ¬ t.other ∈ g.map (·.1) := fun z => by
              have := lkG_key.mpr z
              rw [hnm] at this
              cases this
            refine sb_cons (sx_putK hr.units (ei_var 4) (ev_var 7) (ev_tup (ea_cons (ev_ix (er_ref 5) (ev_var 6) (h := (at_ hql2))) (ea_cons (ev_var 8) (ea_cons (ev_var 9) ea_nil)))) rfl (by simp; omega) ?_)
            refine sb_last (sx_append (ei_var 5) (ev_var 7) rfl (by simp; omega) ⟨_, _, _, rfl, ?_⟩)
            unfold visit
            rw [if_neg hnm2]
            have e1 : putG (g.map fun q => ((q.1 : Int), dPar q.2)) (t.other : Int) (.tup [.int q.1, .int t.place, .bl t.along]) = (g ++ [(t.other, some (q.1, t.place, t.along))]).map fun q => ((q.1 : Int), dPar q.2) := by
              unfold putG
              rw [lkG_any, lkG_fnd, hnm]
              simp [dPar]
            show [MO.dk (putG (g.map fun q => ((q.1 : Int), dPar q.2)) (t.other : Int) (.tup [.int q.1, .int t.place, .bl t.along])), MO.lst ((g.map (·.1)).map eNat ++ [.int t.other])] = _
            rw [e1]
            simp
          · have hm : t.other ∈ g.map (·.1) := lkG_key.mp (by cases hh : (lkG g t.other).isSome with
              | true => rfl
              | false => rw [hh] at hk; cases hk)
            refine sb_nil ⟨_, _, _, rfl, ?_⟩
            unfold visit
            rw [if_pos hm]
        · rintro ρ s ⟨y, z, u, rfl, rfl⟩
          rw [List.length_map, hb]
          exact ⟨_, _, _, rfl, rfl⟩
      · rintro ρ s ⟨y, z, u, rfl, rfl⟩
        refine sb_last (sx_set 6 nd (ev_add (ev_var 6) ev_int) ⟨⟨i + 1, _, _, _, ?_, rfl, rfl⟩, ?_⟩)
        · rw [hb]
          have h1 := visits_pre (v := q.1) (xs := stepsF w fl q.1) hq (stepsF w fl q.1).length
          exact (List.getElem?_eq_some_iff.mp h1).1
        · show w.n - ((i : Int) + 1).toNat < w.n - (i : Int).toNat
          omega
    · have hk' : (bfsTo w fl v i).length = i := by have := of_decide_eq_false hk; omega
      refine ⟨y, z, u, ?_, ?_⟩
      · rw [← bfs_come o hv hk', hk']
      · rw [← bfs_come o hv hk']
  · rintro ρ s ⟨y, z, u, rfl, rfl⟩
    exact sb_last (sx_retR (er_ref 4) hp)
theorem c_way_back (T : Tops K mg) (FD : IsDef K mg "way_back" sWayBack)  : Calls P wd K mg base 1 "way_back" (PF FWayBack) := by
  obtain ⟨f, fd, FD, hm⟩ := FD.ex
  refine Calls.mk (N := ["found", "last", "steps", "step"]) (ps := ["found", "last"]) FD ⟨rfl, rfl, rfl, by decide +kernel, rfl, by decide +kernel, by decide +kernel⟩ hm (fun _ _ _ _ _ _ us h => by match us, h with | [a0, a1], _ => rfl) (fun ds Pd ⟨d, h, _⟩ => by cases h; rfl) fun cdv A outer s H E hr ds Pd ⟨d, h, hp⟩ => ?_
  have nd : (["found", "last", "steps", "step"] : List Str).Nodup := by decide +kernel
  cases h with
  | mk n f o hn v pr h =>
  have hlen := o.len
  have hl1 : 0 < f.length := List.length_pos_of_mem (lkG_mem h)
  refine sb_cons (sx_new 2 nd (en_lst ea_nil) ?_)
  refine sb_cons (sx_set 3 nd (ev_dget hr.units (er_ (ev_var 0)) (ev_var 1) (dg_k (by rw [lkG_fnd, h]; rfl))) ?_)
  refine sb_cut (fun ρ s => ∃ y, ρ = [.d (dFnd f), .d (.int v), .r 0, y] ∧ s = [.lst ((wayN f f.length pr).map dWS)]) ?_ ?_
  · refine sx_while (fun ρ s => ∃ (p : Par) (k : Nat) (so : List (Nat × Bool)), ρ = [.d (dFnd f), .d (.int v), .r 0, .d (dPar p)] ∧ s = [.lst (so.map dWS)] ∧ so ++ wayN f k p = wayN f f.length pr ∧ so.length + k = f.length ∧ FO f p k) (fun ρ s => match s with | [.lst ds] => f.length - ds.length | _ => 0) ⟨pr, f.length, [], rfl, rfl, rfl, by simp, ?_⟩ ?_
    · intro u p al e
      subst e
      obtain ⟨j, hj⟩ := List.getElem?_of_mem (lkG_mem h)
      obtain ⟨j', h1, r, h2⟩ := o.par j v u p al hj
      exact ⟨j', (List.getElem?_eq_some_iff.mp h2).1, r, h2⟩
    · rintro ρ s ⟨p, k, so, rfl, rfl, e, hk, fo⟩
      refine ⟨!isN (dPar p), (et_cmp co_notN (er_ (ev_var 3)) (er_ ev_non)), fun hb => ?_, fun hb => ?_⟩
      · cases p with
        | none => cases hb
        | some p =>
          obtain ⟨u, pl, al⟩ := p
          cases k with
          | zero =>
            obtain ⟨j, hj, _⟩ := fo u pl al rfl
            omega
          | succ k =>
            obtain ⟨pr2, h2, fo2⟩ := fo.next o
            refine sb_cons (sx_append (ei_var 2) (ev_tup (ea_cons (ev_ix (er_ (ev_var 3)) ev_int (h := (by first | assumption | rfl | exact at_ (by assumption) | exact at_n (by assumption)))) (ea_cons (ev_ix (er_ (ev_var 3)) ev_int (h := (by first | assumption | rfl | exact at_ (by assumption) | exact at_n (by assumption)))) ea_nil))) rfl (by rw [List.length_map]; omega) ?_)
            refine sb_last (sx_set 3 nd (ev_dget hr.units (er_ (ev_var 0)) (ev_ix (er_ (ev_var 3)) ev_int (h := (by first | assumption | rfl | exact at_ (by assumption) | exact at_n (by assumption)))) (dg_k (by rw [lkG_fnd, h2]; rfl))) ⟨⟨pr2, k, so ++ [(pl, al)], rfl, ?_, ?_, ?_, fo2⟩, ?_⟩)
            · rw [List.map_append]; rfl
            · rw [← e, List.append_assoc]
              show so ++ ((pl, al) :: wayN f k pr2) = so ++ ((pl, al) :: wayN f k ((lkG f u).getD none))
              rw [h2]
              rfl
            · rw [List.length_append, List.length_singleton]; omega
            · show f.length - (so.map dWS ++ [_]).length < f.length - (so.map dWS).length
              rw [List.length_append, List.length_map, List.length_singleton]
              omega
      · cases p with
        | some p => cases hb
        | none =>
          refine ⟨_, rfl, ?_⟩
          rw [← e]
          cases k <;> simp [wayN]
  · rintro ρ s ⟨y, rfl, rfl⟩
    exact sb_last (sx_retR (er_ref 2) hp)
theorem c_room_on (T : Tops K mg) (FD : IsDef K mg "room_on" sRoomOn)  : Calls P wd K mg base 1 "room_on" (PF FRoomOn) := by
  obtain ⟨f, fd, FD, hm⟩ := FD.ex
  refine Calls.mk (N := ["web", "flow", "step", "place", "along"]) (ps := ["web", "flow", "step"]) FD ⟨rfl, rfl, rfl, by decide +kernel, rfl, by decide +kernel, by decide +kernel⟩ hm (fun _ _ _ _ _ _ us h => by match us, h with | [a0, a1, a2], _ => rfl) (fun ds Pd ⟨d, h, _⟩ => by cases h; rfl) fun cdv A outer s H E hr ds Pd ⟨d, h, hp⟩ => ?_
  have nd : (["web", "flow", "step", "place", "along"] : List Str).Nodup := by decide +kernel
  cases h with
  | mk w fl hl q h =>
  obtain ⟨p, al⟩ := q
  have ht := get_bang h
  have hf := get_bang (xs := fl) (j := p) (by rw [hl]; exact h)
  refine sb_cons (sx_unpack (ρ' := _) (ev_var 2) (gx_tup (gxs_cons 3 nd (gxs_cons 4 nd gxs_nil))) rfl ?_)
  refine sb_cons (sx_if (et_of (ev_var 4)) (fun hk => ?_) (fun hk => ?_))
  · subst hk
    exact sb_last (sx_ret (ev_sub (ev_ix (er_ (ev_ix (er_ (ev_ix (er_ (ev_var 0)) ev_int (h := (by first | assumption | rfl | exact at_ (by assumption) | exact at_n (by assumption))))) (ev_var 3) (h := (by first | assumption | rfl | exact at_ (by assumption) | exact at_n (by assumption))))) ev_int (h := (by first | assumption | rfl | exact at_ (by assumption) | exact at_n (by assumption)))) (ev_ix (er_ (ev_var 1)) (ev_var 3) (h := (by first | assumption | rfl | exact at_ (by assumption) | exact at_n (by assumption))))) hp)
  · subst hk
    exact sb_nil (sb_last (sx_ret (ev_ix (er_ (ev_var 1)) (ev_var 3) (h := (by first | assumption | rfl | exact at_ (by assumption) | exact at_n (by assumption)))) hp))
end

/-! ## flows, as plain data -/
def push (m : Int) (fl : List Int) (q : Nat × Bool) : List Int := fl.set q.1 (if q.2 then fl[q.1]! + m else fl[q.1]! - m)
def pushes (m : Int) (fl : List Int) (st : List (Nat × Bool)) : Nat → List Int
  | 0 => fl
  | i + 1 => match st[i]? with
    | some q => push m (pushes m fl st i) q
    | none => pushes m fl st i
theorem pushes_len (m : Int) (fl : List Int) (st : List (Nat × Bool)) : ∀ i, (pushes m fl st i).length = fl.length
  | 0 => rfl
  | i + 1 => by
    unfold pushes
    split
    · unfold push
      rw [List.length_set]
      exact pushes_len m fl st i
    · exact pushes_len m fl st i
/-- the least of them -/
def lmin : List Int → Int
  | [] => 0
  | [x] => x
  | x :: xs => min x (lmin xs)
theorem lmin_is : ∀ {xs : List Int}, xs ≠ [] → IsMin (lmin xs) xs
  | [], h => absurd rfl h
  | [x], _ => ⟨List.mem_singleton.mpr rfl, fun y hy => by rw [List.mem_singleton.mp hy]; exact Int.le_refl _⟩
  | x :: y :: xs, _ => by
    obtain ⟨h1, h2⟩ := lmin_is (xs := y :: xs) (by simp)
    show IsMin (min x (lmin (y :: xs))) _
    refine ⟨?_, fun z hz => ?_⟩
    · by_cases h : x ≤ lmin (y :: xs)
      · rw [Int.min_eq_left h]; exact List.mem_cons_self
      · rw [Int.min_eq_right (by omega)]; exact List.mem_cons_of_mem _ h1
    · rcases List.mem_cons.mp hz with e | e
      · subst e; exact Int.min_le_left _ _
      · have := h2 z e
        have := Int.min_le_right x (lmin (y :: xs))
        omega
inductive FSent : GF where
  | mk {R : D → List MO → Prop} {Y : List MO → Prop} (w : Web) (fl : List Int) (hl : fl.length = w.ties.length) (st : List (Nat × Bool)) (h : ∀ q ∈ st, q.1 < w.ties.length) (hz : st.length ≤ 1000) (hne : st ≠ [])
    (hR : R (.int (lmin (st.map (room w fl)))) [.lst ((pushes (lmin (st.map (room w fl))) fl st st.length).map D.int)]) : FSent [.d (dWeb w), .r 0, .d (.lst (st.map dWS))] [.lst (fl.map D.int)] R Y
section
variable {P : Program} {wd : World} {K : PySem.W.Frag} {mg : Str → Option Value} {base : Heap}
theorem c_sent (T : Tops K mg) (FD : IsDef K mg "sent" sSent) (C_room_on : Calls P wd K mg base 1 "room_on" (PF FRoomOn)) : GCalls P wd K mg base 2 "sent" FSent := by
  obtain ⟨f, fd, FD, hm⟩ := FD.ex
  refine GCalls.mk (N := ["web", "flow", "steps", "much", "step", "place", "along"]) (ps := ["web", "flow", "steps"]) FD ⟨rfl, rfl, rfl, by decide +kernel, rfl, by decide +kernel, by decide +kernel⟩ hm (fun _ _ _ _ _ _ us h => by match us, h with | [a0, a1, a2], _ => rfl) (fun sl s R Y h => by cases h; rfl) fun cdv A outer z H E hr sl s R Y h => ?_
  have nd : (["web", "flow", "steps", "much", "step", "place", "along"] : List Str).Nodup := by decide +kernel
  cases h with
  | mk w fl hl st h hz hne hR =>
  refine sb_cons (sx_set 3 nd (ev_minL T (er_n (en_is (en_lc nd (lc_all (enc := dWS) (f := fun q => .int (room w fl q)) (xs := st) 4 nd (es_list (ev_var 2)) (blkOk_by (own := [("step", 4)]) (N := ["web", "flow", "steps", "much", "step", "place", "along"]) (sc := defScope sSent) (by decide +kernel)) rfl (by first | exact Or.inl rfl | exact Or.inr rfl) (by first | exact Or.inl rfl | exact Or.inr rfl) (fun _ _ _ _ _ q hq => (ev_callV C_room_on (hr.mono (by decide)) (ear_cons (er_ (ev_var 0)) (ear_cons (er_ref 1) (ear_cons (er_ (ev_var 4)) ear_nil))) (hF := ⟨_, .mk w fl hl q (h q hq), rfl⟩) (.imm (.int _)))) (by omega))) (ys := (st.map (room w fl)).map D.int) (by rw [List.map_map]; rfl))) (lmin_is (by simpa using hne))) ?_)
  generalize hm2 : lmin (st.map (room w fl)) = m at *
  refine sb_cons (sx_for (items := st.map dWS) (es_list (ev_var 2)) (gx_tup (gxs_cons 5 nd (gxs_cons 6 nd gxs_nil))) (fun i ρ s => ∃ y z u, ρ = [.d (dWeb w), .r 0, .d (.lst (st.map dWS)), .d (.int m), y, z, u] ∧ s = [.lst ((pushes m fl st i).map D.int)]) ⟨_, _, _, rfl, rfl⟩ ?_ ?_)
  · rintro i d ρ s hd ⟨y, z, u, rfl, rfl⟩
    obtain ⟨q, hq, rfl⟩ := map_get hd
    have hpl := h q (List.mem_of_getElem? hq)
    have hlen := pushes_len m fl st i
    have hf := get_bang (xs := pushes m fl st i) (j := q.1) (by omega)
    have e1 : pushes m fl st (i + 1) = push m (pushes m fl st i) q := by
      show (match st[i]? with | some q => push m (pushes m fl st i) q | none => pushes m fl st i) = _
      rw [hq]
    rw [e1]
    obtain ⟨p, al⟩ := q
    refine ⟨_, rfl, sb_last (sx_if (et_of (ev_var 6)) (fun hk => ?_) (fun hk => ?_))⟩
    · subst hk
      refine sb_last (sx_setIx (ei_var 1) (ev_var 5) (ev_add (ev_ix (er_ref 1) (ev_var 5) (h := (at_ hf))) (ev_var 3)) rfl (ixN_nat (by rw [List.length_map]; omega)) ⟨_, _, _, rfl, ?_⟩)
      show [MO.lst (((pushes m fl st i).map D.int).set p (D.int _))] = [MO.lst ((List.set _ p _).map D.int)]
      rw [← map_set_]
      rfl
    · subst hk
      refine sb_last (sx_setIx (ei_var 1) (ev_var 5) (ev_sub (ev_ix (er_ref 1) (ev_var 5) (h := (at_ hf))) (ev_var 3)) rfl (ixN_nat (by rw [List.length_map]; omega)) ⟨_, _, _, rfl, ?_⟩)
      show [MO.lst (((pushes m fl st i).map D.int).set p (D.int _))] = [MO.lst ((List.set _ p _).map D.int)]
      rw [← map_set_]
      rfl
  · rintro ρ s ⟨y, z, u, rfl, rfl⟩
    rw [List.length_map]
    exact sb_last (sx_ret (ev_var 3) hR)
end

/-! ## flows: what a push along a way does -/
def netL : List Tie → List Int → Nat → Int
  | t :: ts, x :: xs, v => (if t.c = v then x else 0) - (if t.a = v then x else 0) + netL ts xs v
  | _, _, _ => 0
theorem netL_set (v : Nat) (y : Int) : ∀ (ts : List Tie) (fl : List Int) (i : Nat), fl.length = ts.length → i < ts.length →
    netL ts (fl.set i y) v = netL ts fl v + (if ts[i]!.c = v then y - fl[i]! else 0) - (if ts[i]!.a = v then y - fl[i]! else 0)
  | [], _, _, _, h => by cases h
  | t :: ts, [], _, h, _ => by cases h
  | t :: ts, x :: fl, 0, h, _ => by
    show (if t.c = v then y else 0) - (if t.a = v then y else 0) + netL ts fl v = (if t.c = v then x else 0) - (if t.a = v then x else 0) + netL ts fl v + (if t.c = v then y - x else 0) - (if t.a = v then y - x else 0)
    split <;> split <;> omega
  | t :: ts, x :: fl, i + 1, h, hi => by
    have ih := netL_set v y ts fl i (Nat.succ.inj h) (Nat.lt_of_succ_lt_succ hi)
    show (if t.c = v then x else 0) - (if t.a = v then x else 0) + netL ts (fl.set i y) v = (if t.c = v then x else 0) - (if t.a = v then x else 0) + netL ts fl v + (if ts[i]!.c = v then y - fl[i]! else 0) - (if ts[i]!.a = v then y - fl[i]! else 0)
    rw [ih]
    omega
def capL : List Tie → Nat → Int
  | t :: ts, v => (if t.c = v then t.most else 0) + capL ts v
  | [], _ => 0
/-- between nought and what each tie bears -/
structure FB (w : Web) (fl : List Int) : Prop where
  len : fl.length = w.ties.length
  lo : ∀ p, p < w.ties.length → 0 ≤ fl[p]!
  hi : ∀ p, p < w.ties.length → fl[p]! ≤ w.ties[p]!.most
theorem netL_le (v : Nat) : ∀ (ts : List Tie) (fl : List Int), fl.length = ts.length → (∀ p, p < ts.length → 0 ≤ fl[p]! ∧ fl[p]! ≤ ts[p]!.most) → netL ts fl v ≤ capL ts v
  | [], [], _, _ => Int.le_refl _
  | [], _ :: _, h, _ => by cases h
  | t :: ts, [], h, _ => by cases h
  | t :: ts, x :: fl, h, k => by
    have ih := netL_le v ts fl (Nat.succ.inj h) fun p hp => k (p + 1) (Nat.succ_lt_succ hp)
    have h0 := k 0 (Nat.succ_pos _)
    have h1 : 0 ≤ x ∧ x ≤ t.most := h0
    show (if t.c = v then x else 0) - (if t.a = v then x else 0) + netL ts fl v ≤ (if t.c = v then t.most else 0) + capL ts v
    split <;> split <;> omega
def StepOk (w : Web) (fl : List Int) (u v p : Nat) (al : Bool) : Prop := p < w.ties.length ∧ (al = true → w.ties[p]!.a = u ∧ w.ties[p]!.c = v ∧ fl[p]! < w.ties[p]!.most) ∧ (al = false → w.ties[p]!.c = u ∧ w.ties[p]!.a = v ∧ 0 < fl[p]!)
theorem StepOk.room {w : Web} {fl : List Int} {u v p : Nat} {al : Bool} (h : StepOk w fl u v p al) : 1 ≤ room w fl (p, al) := by
  unfold Lp.room
  cases al with
  | true => have := (h.2.1 rfl).2.2; simp only [if_true]; omega
  | false => have := (h.2.2 rfl).2.2; simp only [Bool.false_eq_true, if_false]; omega
theorem stepAt_ok {w : Web} {fl : List Int} {v p : Nat} (hp : p < w.ties.length) : ∀ x ∈ stepAt w fl v p, StepOk w fl v x.other x.place x.along := fun x hx => by
  unfold stepAt at hx
  split at hx
  · rename_i h
    rw [List.mem_singleton.mp hx]
    exact ⟨hp, fun _ => ⟨h.1, rfl, h.2⟩, fun z => nomatch z⟩
  · split at hx
    · rename_i h
      rw [List.mem_singleton.mp hx]
      exact ⟨hp, (fun z => nomatch z), fun _ => ⟨h.1, rfl, h.2⟩⟩
    · cases hx
theorem stepsTo_ok {w : Web} {fl : List Int} {v : Nat} : ∀ i, i ≤ (w.at v).length → ∀ x ∈ stepsTo w fl v i, StepOk w fl v x.other x.place x.along
  | 0, _, x, h => nomatch h
  | i + 1, hi, x, h => by
    unfold stepsTo at h
    rcases List.mem_append.mp h with h | h
    · exact stepsTo_ok i (by omega) x h
    · exact stepAt_ok (w.at_lt v (List.mem_of_getElem? (get_bang (by omega)))) x h
/-- each but the first was come to by a step -/
structure FndS (w : Web) (fl : List Int) (first : Nat) (f : Fnd) : Prop where
  no : ∀ v, (v, none) ∈ f → v = first
  st : ∀ v u p al, (v, some (u, p, al)) ∈ f → StepOk w fl u v p al
theorem visits_s {w : Web} {fl : List Int} {first v : Nat} {f : Fnd} {xs : List Stp} (o : FndS w fl first f) (hx : ∀ x ∈ xs, StepOk w fl v x.other x.place x.along) : ∀ i, FndS w fl first (visits v f xs i)
  | 0 => o
  | i + 1 => by
    have ih := visits_s o hx i
    unfold visits
    split
    · rename_i x h
      unfold visit
      split
      · exact ih
      · refine ⟨fun y hy => ?_, fun y u p al hy => ?_⟩
        · rcases List.mem_append.mp hy with z | z
          · exact ih.no y z
          · cases List.mem_singleton.mp z
        · rcases List.mem_append.mp hy with z | z
          · exact ih.st y u p al z
          · cases List.mem_singleton.mp z
            exact hx x (List.mem_of_getElem? h)
    · exact ih
theorem bfs_s {w : Web} {fl : List Int} {first : Nat} : ∀ i, FndS w fl first (bfsTo w fl first i)
  | 0 => ⟨fun v h => by cases List.mem_singleton.mp h; rfl, fun v u p al h => by cases List.mem_singleton.mp h⟩
  | i + 1 => by
    unfold bfsTo
    split
    · exact visits_s (bfs_s i) (stepsTo_ok _ (Nat.le_refl _)) _
    · exact bfs_s i
/-- a way from the first, seen from its end -/
inductive Pth (w : Web) (fl : List Int) (first : Nat) : List Nat → List (Nat × Bool) → Prop where
  | nil : Pth w fl first [first] []
  | cons {v u p : Nat} {al : Bool} {ns : List Nat} {st : List (Nat × Bool)} : StepOk w fl u v p al → Pth w fl first (u :: ns) st → Pth w fl first (v :: u :: ns) ((p, al) :: st)
theorem way_pth {w : Web} {fl : List Int} {first n : Nat} {f : Fnd} (o : FndOk n f) (s : FndS w fl first f) : ∀ (k j v : Nat) (pr : Par), f[j]? = some (v, pr) → FO f pr k →
    ∃ ns, Pth w fl first (v :: ns) (wayN f k pr) ∧ (∀ x ∈ ns, ∃ i, i < j ∧ ∃ r, f[i]? = some (x, r)) ∧ (v :: ns).Nodup
  | k, j, v, none, hj, _ => by
    have hv := s.no v (List.mem_of_getElem? hj)
    subst hv
    refine ⟨[], ?_, (fun x h => nomatch h), List.nodup_cons.mpr ⟨List.not_mem_nil, List.nodup_nil⟩⟩
    cases k <;> exact .nil
  | 0, j, v, some (u, p, al), hj, fo => by
    obtain ⟨j', h, _⟩ := fo u p al rfl
    exact absurd h (Nat.not_lt_zero _)
  | k + 1, j, v, some (u, p, al), hj, fo => by
    obtain ⟨pr, h1, fo2⟩ := fo.next o
    obtain ⟨j', h2, r, h3⟩ := o.par j v u p al hj
    have e : pr = r := by
      have := lk_ix o.nd h3
      rw [h1] at this
      exact Option.some.inj this
    subst e
    obtain ⟨ns, p1, p2, p3⟩ := way_pth o s k j' u pr h3 fo2
    refine ⟨u :: ns, ?_, fun x hx => ?_, ?_⟩
    · show Pth w fl first (v :: u :: ns) ((p, al) :: wayN f k ((lkG f u).getD none))
      rw [h1]
      exact .cons (s.st v u p al (List.mem_of_getElem? hj)) p1
    · rcases List.mem_cons.mp hx with z | z
      · rw [z]; exact ⟨j', h2, pr, h3⟩
      · obtain ⟨i, q1, q2⟩ := p2 x z
        exact ⟨i, by omega, q2⟩
    · refine List.nodup_cons.mpr ⟨fun z => ?_, p3⟩
      have hi : ∃ i, i < j ∧ ∃ r, f[i]? = some (v, r) := by
        rcases List.mem_cons.mp z with z | z
        · rw [z]; exact ⟨j', h2, pr, h3⟩
        · obtain ⟨i, q1, q2⟩ := p2 v z
          exact ⟨i, by omega, q2⟩
      obtain ⟨i, q1, r2, q2⟩ := hi
      have g1 : (f.map (·.1))[i]? = some v := by rw [List.getElem?_map, q2]; rfl
      have g2 : (f.map (·.1))[j]? = some v := by rw [List.getElem?_map, hj]; rfl
      have := nd_ix o.nd g1 g2
      omega
theorem Pth.ends {w : Web} {fl : List Int} {first : Nat} {ns : List Nat} {st : List (Nat × Bool)} (h : Pth w fl first ns st) : ∀ q ∈ st, q.1 < w.ties.length ∧ w.ties[q.1]!.a ∈ ns ∧ w.ties[q.1]!.c ∈ ns := by
  induction h with
  | nil => intro q hq; cases hq
  | @cons v u p al ns st hs _ ih =>
    intro q hq
    rcases List.mem_cons.mp hq with z | z
    · subst z
      refine ⟨hs.1, ?_⟩
      cases al with
      | true => obtain ⟨g1, g2, _⟩ := hs.2.1 rfl; rw [g1, g2]; simp
      | false => obtain ⟨g1, g2, _⟩ := hs.2.2 rfl; rw [g1, g2]; simp
    · obtain ⟨g1, g2, g3⟩ := ih q z
      exact ⟨g1, List.mem_cons_of_mem _ g2, List.mem_cons_of_mem _ g3⟩
theorem Pth.places {w : Web} {fl : List Int} {first : Nat} {ns : List Nat} {st : List (Nat × Bool)} (h : Pth w fl first ns st) : ns.Nodup → (st.map (·.1)).Nodup := by
  induction h with
  | nil => intro _; exact List.nodup_nil
  | @cons v u p al ns st hs hp ih =>
    intro nd
    obtain ⟨n1, n2⟩ := List.nodup_cons.mp nd
    refine List.nodup_cons.mpr ⟨fun z => ?_, ih n2⟩
    obtain ⟨q, hq, e⟩ := List.mem_map.mp z
    obtain ⟨_, g2, g3⟩ := hp.ends q hq
    have e' : q.1 = p := e
    rw [e'] at g2 g3
    cases al with
    | true => obtain ⟨_, k2, _⟩ := hs.2.1 rfl; rw [k2] at g3; exact n1 g3
    | false => obtain ⟨_, k2, _⟩ := hs.2.2 rfl; rw [k2] at g2; exact n1 g2
theorem Pth.keep {w : Web} {fl fl' : List Int} {first : Nat} {ns : List Nat} {st : List (Nat × Bool)} (h : Pth w fl first ns st) : (∀ q ∈ st, fl'[q.1]! = fl[q.1]!) → Pth w fl' first ns st := by
  induction h with
  | nil => intro _; exact .nil
  | @cons v u p al ns st hs hp ih =>
    intro k
    have e : fl'[p]! = fl[p]! := k (p, al) List.mem_cons_self
    exact .cons ⟨hs.1, fun z => by rw [e]; exact hs.2.1 z, fun z => by rw [e]; exact hs.2.2 z⟩ (ih fun q hq => k q (List.mem_cons_of_mem _ hq))
theorem set_ne! {fl : List Int} {i j : Nat} {y : Int} (h : i ≠ j) : (fl.set i y)[j]! = fl[j]! := by
  simp [List.getElem!_eq_getElem?_getD, List.getElem?_set_ne h]
theorem set_eq! {fl : List Int} {i : Nat} {y : Int} (h : i < fl.length) : (fl.set i y)[i]! = y := by
  simp [h]
theorem push_path {w : Web} {first : Nat} {m : Int} (hm : 0 ≤ m) {ns : List Nat} {st : List (Nat × Bool)} {fl0 : List Int} (h : Pth w fl0 first ns st) : ∀ fl : List Int, (∀ q ∈ st, fl[q.1]! = fl0[q.1]!) → FB w fl → (st.map (·.1)).Nodup → (∀ q ∈ st, m ≤ room w fl0 q) → ∀ v t, ns = v :: t →
    FB w (st.foldl (push m) fl) ∧ ∀ x, netL w.ties (st.foldl (push m) fl) x = netL w.ties fl x + (if x = v then m else 0) - (if x = first then m else 0) := by
  induction h with
  | nil =>
    intro fl _ fb _ _ v t e
    cases e
    refine ⟨fb, fun x => ?_⟩
    show netL w.ties fl x = _
    split <;> omega
  | @cons v u p al ns st hs hp ih =>
    intro fl hk fb nd hr v' t e
    cases e
    obtain ⟨n1, n2⟩ := List.nodup_cons.mp nd
    have hp1 := hs.1
    have hlen := fb.len
    have hpf : fl[p]! = fl0[p]! := hk (p, al) List.mem_cons_self
    have hroom : m ≤ room w fl (p, al) := by
      have := hr (p, al) List.mem_cons_self
      unfold Lp.room at this ⊢
      rw [hpf]
      exact this
    have fb1 : FB w (push m fl (p, al)) := by
      refine ⟨by unfold push; rw [List.length_set]; exact hlen, fun q hq => ?_, fun q hq => ?_⟩
      · have := fb.lo q hq
        unfold push
        by_cases e : p = q
        · subst e
          rw [set_eq! (by omega)]
          cases al with
          | true => simp only [if_true]; omega
          | false =>
            have : m ≤ fl[p]! := hroom
            simp only [Bool.false_eq_true, if_false]
            omega
        · rw [set_ne! e]; exact this
      · have := fb.hi q hq
        unfold push
        by_cases e : p = q
        · subst e
          rw [set_eq! (by omega)]
          cases al with
          | true =>
            have : m ≤ w.ties[p]!.most - fl[p]! := hroom
            simp only [if_true]
            omega
          | false => simp only [Bool.false_eq_true, if_false]; omega
        · rw [set_ne! e]; exact this
    have net1 : ∀ x, netL w.ties (push m fl (p, al)) x = netL w.ties fl x + (if x = v then m else 0) - (if x = u then m else 0) := fun x => by
      unfold push
      rw [netL_set x _ w.ties fl p hlen hp1]
      cases al with
      | true =>
        obtain ⟨g1, g2, _⟩ := hs.2.1 rfl
        rw [g1, g2]
        simp only [if_true]
        by_cases h1 : v = x <;> by_cases h2 : u = x <;> simp [h1, h2, eq_comm] <;> omega
      | false =>
        obtain ⟨g1, g2, _⟩ := hs.2.2 rfl
        rw [g1, g2]
        simp only [Bool.false_eq_true, if_false]
        by_cases h1 : v = x <;> by_cases h2 : u = x <;> simp [h1, h2, eq_comm] <;> omega
    obtain ⟨r1, r2⟩ := ih (push m fl (p, al)) (fun q hq => by
        have hne : p ≠ q.1 := fun z => n1 (List.mem_map.mpr ⟨q, hq, z.symm⟩)
        show (fl.set p _)[q.1]! = _
        rw [set_ne! hne]
        exact hk q (List.mem_cons_of_mem _ hq)) fb1 n2 (fun q hq => hr q (List.mem_cons_of_mem _ hq)) u _ rfl
    refine ⟨r1, fun x => ?_⟩
    have := r2 x
    rw [net1 x] at this
    show netL w.ties (st.foldl (push m) (push m fl (p, al))) x = _
    omega
/-! ### the greatest flow -/
structure FlowInv (w : Web) (first last : Nat) (fl : List Int) (total : Int) : Prop where
  fb : FB w fl
  net : ∀ x, netL w.ties fl x = (if x = last then total else 0) - (if x = first then total else 0)
theorem pushes_fold (m : Int) (fl : List Int) (st : List (Nat × Bool)) : ∀ i, i ≤ st.length → pushes m fl st i = (st.take i).foldl (push m) fl
  | 0, _ => rfl
  | i + 1, h => by
    have hx : st[i]? = some (st[i]'h) := by simp
    unfold pushes
    rw [hx, take_snoc hx, List.foldl_append, pushes_fold m fl st i (by omega)]
    rfl
def wayTo (w : Web) (fl : List Int) (first : Nat) (pr : Par) : List (Nat × Bool) := wayN (come w fl first) (come w fl first).length pr
def augM (w : Web) (fl : List Int) (first : Nat) (pr : Par) : Int := lmin ((wayTo w fl first pr).map (room w fl))
def aug (w : Web) (first last : Nat) (x : List Int × Int) : List Int × Int := match lkG (come w x.1 first) last with
  | none => x
  | some pr => (pushes (augM w x.1 first pr) x.1 (wayTo w x.1 first pr) (wayTo w x.1 first pr).length, x.2 + augM w x.1 first pr)
def augN (w : Web) (first last : Nat) : Nat → List Int × Int
  | 0 => (List.replicate w.ties.length 0, 0)
  | i + 1 => aug w first last (augN w first last i)
theorem way_facts {w : Web} (o : w.Ok) {fl : List Int} {first last : Nat} (hf : first < w.n) (hne : last ≠ first) {pr : Par} (h : lkG (come w fl first) last = some pr) :
    ∃ ns, Pth w fl first (last :: ns) (wayTo w fl first pr) ∧ (last :: ns).Nodup ∧ wayTo w fl first pr ≠ [] := by
  have ok := bfs_ok o (fl := fl) hf w.n
  obtain ⟨j, hj⟩ := List.getElem?_of_mem (lkG_mem h)
  have fo : FO (come w fl first) pr (come w fl first).length := fun u p al e => by
    subst e
    obtain ⟨j', h1, r, h2⟩ := ok.par j last u p al hj
    exact ⟨j', (List.getElem?_eq_some_iff.mp h2).1, r, h2⟩
  obtain ⟨ns, p1, _, p3⟩ := way_pth ok (bfs_s (w := w) (fl := fl) (first := first) w.n) _ j last pr hj fo
  refine ⟨ns, p1, p3, fun z => ?_⟩
  have p1' : Pth w fl first (last :: ns) (wayTo w fl first pr) := p1
  rw [z] at p1'
  cases p1'
  exact hne rfl
theorem Pth.rooms {w : Web} {fl : List Int} {first : Nat} {ns : List Nat} {st : List (Nat × Bool)} (h : Pth w fl first ns st) : ∀ q ∈ st, 1 ≤ room w fl q := by
  induction h with
  | nil => intro q hq; cases hq
  | @cons v u p al ns st hs _ ih =>
    intro q hq
    rcases List.mem_cons.mp hq with z | z
    · subst z; exact hs.room
    · exact ih q z
theorem aug_inv {w : Web} (o : w.Ok) {first last : Nat} (hf : first < w.n) (hne : last ≠ first) {x : List Int × Int} {pr : Par} (i : FlowInv w first last x.1 x.2) (h : lkG (come w x.1 first) last = some pr) :
    FlowInv w first last (aug w first last x).1 (aug w first last x).2 ∧ x.2 + 1 ≤ (aug w first last x).2 := by
  obtain ⟨ns, p1, p2, p3⟩ := way_facts o hf hne h
  have hmin := lmin_is (xs := (wayTo w x.1 first pr).map (room w x.1)) (by simpa using p3)
  have hm1 : 1 ≤ augM w x.1 first pr := by
    obtain ⟨q, hq, e⟩ := List.mem_map.mp hmin.1
    unfold augM
    rw [← e]
    exact p1.rooms q hq
  have e1 : aug w first last x = (pushes (augM w x.1 first pr) x.1 (wayTo w x.1 first pr) (wayTo w x.1 first pr).length, x.2 + augM w x.1 first pr) := by
    unfold aug
    rw [h]
  rw [e1]
  refine ⟨?_, by show x.2 + 1 ≤ x.2 + augM w x.1 first pr; omega⟩
  have pp := push_path (m := augM w x.1 first pr) (by omega) p1 x.1 (fun q _ => rfl) i.fb (p1.places p2) (fun q hq => hmin.2 _ (List.mem_map.mpr ⟨q, hq, rfl⟩)) last ns rfl
  show FlowInv w first last (pushes (augM w x.1 first pr) x.1 (wayTo w x.1 first pr) (wayTo w x.1 first pr).length) (x.2 + augM w x.1 first pr)
  rw [pushes_fold _ _ _ _ (Nat.le_refl _), List.take_length]
  refine ⟨pp.1, fun y => ?_⟩
  rw [pp.2 y, i.net y]
  split <;> split <;> omega
theorem netL_zero (v : Nat) : ∀ ts : List Tie, netL ts (List.replicate ts.length 0) v = 0
  | [] => rfl
  | t :: ts => by
    show (if t.c = v then (0 : Int) else 0) - (if t.a = v then 0 else 0) + netL ts (List.replicate ts.length 0) v = 0
    rw [netL_zero v ts]
    split <;> split <;> rfl
theorem aug0 {w : Web} {first last : Nat} (hc : ∀ t ∈ w.ties, 0 ≤ t.most) : FlowInv w first last (augN w first last 0).1 (augN w first last 0).2 := by
  have hz : ∀ p, p < w.ties.length → (List.replicate w.ties.length (0 : Int))[p]! = 0 := fun p hp => by simp [hp]
  refine ⟨⟨List.length_replicate .., fun p hp => ?_, fun p hp => ?_⟩, fun x => ?_⟩
  · rw [show (augN w first last 0).1 = List.replicate w.ties.length 0 from rfl, hz p hp]
    exact Int.le_refl _
  · rw [show (augN w first last 0).1 = List.replicate w.ties.length 0 from rfl, hz p hp]
    exact hc _ (List.mem_of_getElem? (get_bang hp))
  · show netL w.ties (List.replicate w.ties.length 0) x = _
    rw [netL_zero]
    show (0 : Int) = (if x = last then (0 : Int) else 0) - (if x = first then 0 else 0)
    split <;> split <;> rfl
theorem FlowInv.bound {w : Web} {first last : Nat} (hne : last ≠ first) {fl : List Int} {total : Int} (i : FlowInv w first last fl total) : total ≤ capL w.ties last := by
  have h1 := netL_le last w.ties fl i.fb.len fun p hp => ⟨i.fb.lo p hp, i.fb.hi p hp⟩
  have h2 := i.net last
  rw [if_pos rfl, if_neg hne] at h2
  omega
theorem augN_inv {w : Web} (o : w.Ok) {first last : Nat} (hf : first < w.n) (hne : last ≠ first) (hc : ∀ t ∈ w.ties, 0 ≤ t.most) : ∀ i, FlowInv w first last (augN w first last i).1 (augN w first last i).2
  | 0 => aug0 hc
  | i + 1 => by
    have ih := augN_inv o hf hne hc i
    cases h : lkG (come w (augN w first last i).1 first) last with
    | none =>
      have e : augN w first last (i + 1) = augN w first last i := by
        show aug w first last (augN w first last i) = _
        unfold aug
        rw [h]
      rw [e]
      exact ih
    | some pr => exact (aug_inv o hf hne ih h).1
def mostF (w : Web) (first last : Nat) : List Int × Int := augN w first last (capL w.ties last).toNat
theorem augN_stay {w : Web} {first last i : Nat} (h : lkG (come w (augN w first last i).1 first) last = none) : ∀ k, augN w first last (i + k) = augN w first last i
  | 0 => rfl
  | k + 1 => by
    show aug w first last (augN w first last (i + k)) = _
    rw [augN_stay h k]
    unfold aug
    rw [h]
theorem augN_most {w : Web} {first last i : Nat} (h : lkG (come w (augN w first last i).1 first) last = none) (hi : (i : Int) ≤ capL w.ties last) : augN w first last i = mostF w first last := by
  have := augN_stay h ((capL w.ties last).toNat - i)
  rw [show i + ((capL w.ties last).toNat - i) = (capL w.ties last).toNat by omega] at this
  exact this.symm
/-! ## most_flow, least_side -/
def capAt (c : Int) (k : Nat) (ρ : List Sl) : Nat := match ρ[k]? with
  | some (Sl.d (D.int a)) => (c - a).toNat
  | _ => 0
theorem imms_fnd (f : Fnd) : Imms ((f.map fun q => ((q.1 : Int), dPar q.2)).map (·.2)) := imms_of fun d hd => by
  obtain ⟨q, hq, rfl⟩ := List.mem_map.mp hd
  obtain ⟨q', _, rfl⟩ := List.mem_map.mp hq
  obtain ⟨v, pr⟩ := q'
  cases pr with
  | none => exact .non
  | some x => obtain ⟨a, b, c⟩ := x; exact .tup (.cons (.int _) (.cons (.int _) (.cons (.bl _) .nil)))
theorem wayN_len (f : Fnd) : ∀ (k : Nat) (pr : Par), (wayN f k pr).length ≤ k
  | 0, _ => Nat.le_refl _
  | _ + 1, none => Nat.zero_le _
  | k + 1, some (v, p, al) => Nat.succ_le_succ (wayN_len f k _)
inductive FMostFlow : List D → D → Prop where
  | mk (w : Web) (o : w.Ok) (hc : ∀ t ∈ w.ties, 0 ≤ t.most) (a c : Nat) (ha : a < w.n) (hne : c ≠ a) : FMostFlow [dWeb w, .int a, .int c] (.tup [.int (mostF w a c).2, dInts (mostF w a c).1])
def sortI (xs : List Int) : List Int := xs.mergeSort fun a b => decide (a ≤ b)
theorem sortI_ok (xs : List Int) : xs.Perm (sortI xs) ∧ (sortI xs).Pairwise (· ≤ ·) := by
  refine ⟨(List.mergeSort_perm xs _).symm, ?_⟩
  have h := List.pairwise_mergeSort (le := fun a b : Int => decide (a ≤ b)) (fun a b c h1 h2 => by simp at *; omega) (fun a b => by simp; omega) xs
  exact h.imp fun h => of_decide_eq_true h
inductive FLeastSide : List D → D → Prop where
  | mk (w : Web) (o : w.Ok) (hc : ∀ t ∈ w.ties, 0 ≤ t.most) (hn : w.n < 64) (a c : Nat) (ha : a < w.n) (hne : c ≠ a) : FLeastSide [dWeb w, .int a, .int c] (dInts (sortI (((come w (mostF w a c).1 a).map fun q => ((q.1 : Int), dPar q.2)).map (·.1))))
section
variable {P : Program} {wd : World} {K : PySem.W.Frag} {mg : Str → Option Value} {base : Heap}
theorem c_most_flow (T : Tops K mg) (FD : IsDef K mg "most_flow" sMostFlow) (C_ties_at : Calls P wd K mg base 1 "ties_at" (PF FTiesAt)) (C_come_to : Calls P wd K mg base 2 "come_to" (PF FComeTo)) (C_sent : GCalls P wd K mg base 2 "sent" FSent) (C_way_back : Calls P wd K mg base 1 "way_back" (PF FWayBack)) : Calls P wd K mg base 3 "most_flow" (PF FMostFlow) := by
  obtain ⟨f, fd, FD, hm⟩ := FD.ex
  refine Calls.mk (N := ["web", "first", "last", "places", "flow", "total", "found"]) (ps := ["web", "first", "last"]) FD ⟨rfl, rfl, rfl, by decide +kernel, rfl, by decide +kernel, by decide +kernel⟩ hm (fun _ _ _ _ _ _ us h => by match us, h with | [a0, a1, a2], _ => rfl) (fun ds Pd ⟨d, h, _⟩ => by cases h; rfl) fun cdv A outer s H E hr ds Pd ⟨d, h, hp⟩ => ?_
  have nd : (["web", "first", "last", "places", "flow", "total", "found"] : List Str).Nodup := by decide +kernel
  cases h with
  | mk w o hc a c ha hne =>
  have hn := o.n
  have hm := o.m
  refine sb_cons (sx_set 3 nd (ev_call C_ties_at (hr.mono (by decide)) (ea_cons (ev_var 0) ea_nil) (fun _ p => ⟨_, .mk w o, p⟩)) ?_)
  refine sb_cons (sx_new 4 nd (ds := List.replicate w.ties.length (.int 0)) (en_is (en_rep (er_n (en_lst (ea_cons ev_int ea_nil))) (ev_len T (er_ (ev_ix (er_ (ev_var 0)) ev_int (h := (by first | assumption | rfl | exact at_ (by assumption) | exact at_n (by assumption)))))) ⟨by rw [List.length_map]; omega, by omega, by exact Nat.le_of_ble_eq_true rfl⟩) (by rw [List.length_map]; exact repN _ _)) ?_)
  refine sb_cons (sx_set 5 nd ev_int ?_)
  have e0 : List.replicate w.ties.length (D.int 0) = (List.replicate w.ties.length (0 : Int)).map D.int := by rw [List.map_replicate]
  rw [e0]
  have lone : ∀ (fl : List Int), ∀ o ∈ ([.lst (fl.map D.int)] : List MO), ∃ ds, o = .lst ds := fun fl o ho => ⟨_, List.mem_singleton.mp ho⟩
  refine sb_cons (sx_set 6 nd (ev_callV C_come_to (hr.mono (by decide)) (ear_cons (er_ (ev_var 0)) (ear_cons (er_ (ev_var 3)) (ear_cons (er_ref 4) (ear_cons (er_ (ev_var 1)) ear_nil)))) (hF := ⟨_, .mk w o _ (List.replicate w.ties.length 0) (.lst _) (List.length_replicate ..) a ha, rfl⟩) (.dk (imms_fnd _) (lone _))) ?_)
  refine sb_cut (fun ρ s => ∃ y, ρ = [.d (dWeb w), .d (.int a), .d (.int c), .d (dPlaces w), .r 0, .d (.int (mostF w a c).2), y] ∧ s = [.lst ((mostF w a c).1.map D.int)]) ?_ ?_
  · refine sx_while (fun ρ s => ∃ (i : Nat), ((i : Int) ≤ (augN w a c i).2) ∧ ρ = [.d (dWeb w), .d (.int a), .d (.int c), .d (dPlaces w), .r 0, .d (.int (augN w a c i).2), .d (dFnd (come w (augN w a c i).1 a))] ∧ s = [.lst ((augN w a c i).1.map D.int)]) (fun ρ s => capAt (capL w.ties c) 5 ρ) ⟨0, Int.le_refl 0, rfl, rfl⟩ ?_
    rintro ρ s ⟨i, hi, rfl, rfl⟩
    have inv := augN_inv o ha hne hc i
    have bd := inv.bound hne
    have ok := bfs_ok o (fl := (augN w a c i).1) ha w.n
    refine ⟨(lkG (come w (augN w a c i).1 a) c).isSome, et_is (et_inD hr.units (ev_var 2) (er_ (ev_var 6)) (.k _ _)) (by rw [lkG_fnd]; simp), fun hk => ?_, fun hk => ?_⟩
    · obtain ⟨pr, hpr⟩ := Option.isSome_iff_exists.mp hk
      obtain ⟨i2, up⟩ := aug_inv o ha hne inv hpr
      have ea : augN w a c (i + 1) = (pushes (augM w (augN w a c i).1 a pr) (augN w a c i).1 (wayTo w (augN w a c i).1 a pr) (wayTo w (augN w a c i).1 a pr).length, (augN w a c i).2 + augM w (augN w a c i).1 a pr) := by
        show aug w a c (augN w a c i) = _
        unfold aug
        rw [hpr]
      have up2 : (augN w a c i).2 + 1 ≤ (augN w a c (i + 1)).2 := up
      have inv2 := augN_inv o ha hne hc (i + 1)
      have bd2 := inv2.bound hne
      obtain ⟨ns, p1, p2, p3⟩ := way_facts o ha hne hpr
      have hwl : (wayTo w (augN w a c i).1 a pr).length ≤ 1000 := Nat.le_trans (wayN_len _ _ _) (Nat.le_trans ok.len hn)
      refine sb_cons (sx_setAddC 5 nd (ev_var 5) (ec_callL (R := fun d ds => d = .int (augM w (augN w a c i).1 a pr) ∧ ds = (augN w a c (i + 1)).1.map D.int) C_sent (hr.mono (by decide)) 0 (eas_d (ev_var 0) (eas_r (ei_var 4) (eas_d (ev_call C_way_back (hr.mono (by decide)) (ea_cons (ev_var 6) (ea_cons (ev_var 2) ea_nil)) (fun _ p => ⟨_, .mk w.n _ ok hn c pr hpr, p⟩)) eas_nil))) rfl (by exact .mk w (augN w a c i).1 inv.fb.len (wayTo w (augN w a c i).1 a pr) (fun q hq => (p1.ends q hq).1) hwl p3 ⟨_, [], rfl, .int _, rfl, by rw [ea]; rfl⟩)) ?_)
      rintro d s' ⟨ds, rfl, rfl, rfl⟩
      refine ⟨_, rfl, ?_⟩
      refine sb_last (sx_set 6 nd (ev_callV C_come_to (hr.mono (by decide)) (ear_cons (er_ (ev_var 0)) (ear_cons (er_ (ev_var 3)) (ear_cons (er_ref 4) (ear_cons (er_ (ev_var 1)) ear_nil)))) (hF := ⟨_, .mk w o _ (augN w a c (i + 1)).1 (.lst _) inv2.fb.len a ha, rfl⟩) (.dk (imms_fnd _) (lone _))) ⟨⟨i + 1, by omega, ?_, rfl⟩, ?_⟩)
      · have e2 : (augN w a c i).2 + augM w (augN w a c i).1 a pr = (augN w a c (i + 1)).2 := by rw [ea]
        rw [e2]
        rfl
      · show (capL w.ties c - ((augN w a c i).2 + augM w (augN w a c i).1 a pr)).toNat < (capL w.ties c - (augN w a c i).2).toNat
        have e2 : (augN w a c i).2 + augM w (augN w a c i).1 a pr = (augN w a c (i + 1)).2 := by rw [ea]
        rw [e2]
        omega
    · have hno : lkG (come w (augN w a c i).1 a) c = none := by
        cases hh : lkG (come w (augN w a c i).1 a) c with
        | none => rfl
        | some _ => rw [hh] at hk; cases hk
      have e := augN_most hno (by omega)
      exact ⟨_, by rw [e], by rw [e]⟩
  · rintro ρ s ⟨y, rfl, rfl⟩
    exact sb_last (sx_ret (ev_tup (ea_cons (ev_var 5) (ea_cons (ev_tupleOf T (er_ref 4)) ea_nil))) hp)
theorem c_least_side (T : Tops K mg) (FD : IsDef K mg "least_side" sLeastSide) (C_most_flow : Calls P wd K mg base 3 "most_flow" (PF FMostFlow)) (C_ties_at : Calls P wd K mg base 1 "ties_at" (PF FTiesAt)) (C_come_to : Calls P wd K mg base 2 "come_to" (PF FComeTo)) : Calls P wd K mg base 4 "least_side" (PF FLeastSide) := by
  obtain ⟨f, fd, FD, hm⟩ := FD.ex
  refine Calls.mk (N := ["web", "first", "last", "flow"]) (ps := ["web", "first", "last"]) FD ⟨rfl, rfl, rfl, by decide +kernel, rfl, by decide +kernel, by decide +kernel⟩ hm (fun _ _ _ _ _ _ us h => by match us, h with | [a0, a1, a2], _ => rfl) (fun ds Pd ⟨d, h, _⟩ => by cases h; rfl) fun cdv A outer s H E hr ds Pd ⟨d, h, hp⟩ => ?_
  have nd : (["web", "first", "last", "flow"] : List Str).Nodup := by decide +kernel
  cases h with
  | mk w o hc hn a c ha hne =>
  have inv := augN_inv o ha hne hc (capL w.ties c).toNat
  have ok := bfs_ok o (fl := (mostF w a c).1) ha w.n
  have hl := ok.len
  refine sb_cons (sx_set 3 nd (ev_ix (er_ (ev_call C_most_flow (hr.mono (by decide)) (ea_cons (ev_var 0) (ea_cons (ev_var 1) (ea_cons (ev_var 2) ea_nil))) (fun _ p => ⟨_, .mk w o hc a c ha hne, p⟩))) ev_int (h := (by first | assumption | rfl | exact at_ (by assumption) | exact at_n (by assumption)))) ?_)
  exact sb_last (sx_ret (ev_tupleOf T (er_n (en_sortedD T (er_ (ev_call C_come_to (hr.mono (by decide)) (ea_cons (ev_var 0) (ea_cons (ev_call C_ties_at (hr.mono (by decide)) (ea_cons (ev_var 0) ea_nil) (fun _ p => ⟨_, .mk w o, p⟩)) (ea_cons (ev_var 3) (ea_cons (ev_var 1) ea_nil)))) (fun _ p => ⟨_, .mk w o _ (mostF w a c).1 (.tup _) inv.fb.len a ha, p⟩))) (sortI_ok _) (by rw [List.length_map]; exact Nat.lt_of_le_of_lt hl hn)))) hp)
end

/-! ## bookweb.py, the rota -/
section
variable {κ : Type} [DecidableEq κ] {α β : Type}
theorem lkG_mapV (g : α → β) (k : κ) : ∀ f : List (κ × α), lkG (f.map fun q => (q.1, g q.2)) k = (lkG f k).map g
  | [] => rfl
  | q :: f => by
    rw [List.map_cons, lkG_cons, lkG_cons, lkG_mapV g k f]
    by_cases h : q.1 = k
    · rw [if_pos h, if_pos h]; rfl
    · rw [if_neg h, if_neg h]
theorem putG_mapV (g : α → β) (k : κ) (x : α) (f : List (κ × α)) : putG (f.map fun q => (q.1, g q.2)) k (g x) = (putG f k x).map fun q => (q.1, g q.2) := by
  unfold putG
  rw [lkG_any, lkG_any, lkG_mapV]
  have e : ((lkG f k).map g).isSome = (lkG f k).isSome := by cases lkG f k <;> rfl
  rw [e]
  split
  · rw [List.map_map, List.map_map]
    apply List.map_congr_left
    intro q _
    show (if q.1 = k then (q.1, g x) else (q.1, g q.2)) = (fun q : κ × α => (q.1, g q.2)) (if q.1 = k then (q.1, x) else q)
    split <;> rfl
  · rw [List.map_append]
    rfl
end
abbrev Flw := List (List Int × Int)
def dFlw (f : Flw) : D := .dt (f.map fun q => (q.1, D.int q.2))
def pair (t : Tie) : List Int := [(t.a : Int), (t.c : Int)]
def fbTo (ts : List Tie) (fl : List Int) : Nat → Flw
  | 0 => []
  | i + 1 => putG (fbTo ts fl i) (pair ts[i]!) ((lkG (fbTo ts fl i) (pair ts[i]!)).getD 0 + fl[i]!)
def Bk.flows (b : Bk) (fl : List Int) : Flw := fbTo b.web.ties fl b.web.ties.length
theorem fbTo_len (ts : List Tie) (fl : List Int) : ∀ i, (fbTo ts fl i).length ≤ i
  | 0 => Nat.le_refl _
  | i + 1 => Nat.le_trans (putG_len _ _ _) (Nat.succ_le_succ (fbTo_len ts fl i))
theorem dg_t {f : Flw} {k : List Int} {x : Int} (h : lkG f k = some x) : DG (dFlw f) (.tup (k.map D.int)) (some (.int x)) := by
  have := DG.t (f.map fun q => (q.1, D.int q.2)) k
  rw [lkG_mapV, h] at this
  exact this
inductive FFlowsBetween : List D → D → Prop where
  | mk (b : Bk) (o : b.Ok) (fl : List Int) (hl : fl.length = b.web.ties.length) (hz : b.web.ties.length ≤ 1000) : FFlowsBetween [dBk b, dInts fl] (dFlw (b.flows fl))
/-- what the flows say of each day -/
structure FlG (b : Bk) (f : Flw) (sea : Nat → Int) (pour burn : Nat → Nat → Int) : Prop where
  hsea : ∀ j, j < b.days.length → lkG f [0, (b.sN j : Int)] = some (sea j)
  hpour : ∀ i j, i < b.lamps.length → j < b.days.length → lkG f [(b.sN j : Int), (b.tN i j : Int)] = some (pour i j)
  hburn : ∀ i j, i < b.lamps.length → j < b.days.length → lkG f [(b.fN i j : Int), (b.nN j : Int)] = some (burn i j)
  nn : ∀ i j, i < b.lamps.length → j < b.days.length → 0 ≤ burn i j ∧ burn i j ≤ b.days[j]!.length
  all : ∀ j, j < b.days.length → ((List.range b.lamps.length).map fun i => burn i j).sum = b.days[j]!.wanted * b.days[j]!.length
structure Part where
  taken : Int
  bought : Int
  poured : List Int
  spans : List Spn
def dPart (x : Part) : D := .tup [.int x.taken, .int x.bought, dInts x.poured, .tup (x.spans.map dSpn)]
instance : Inhabited Part := ⟨⟨0, 0, [], []⟩⟩
def comeSea (b : Bk) (sea : Nat → Int) (j : Nat) : Int := if j = 0 then sea j - b.oil else sea j
def dayBy (b : Bk) (sea : Nat → Int) (pour burn : Nat → Nat → Int) (j : Nat) (tanks : List Int) : Part :=
  ⟨min b.days[j]!.boat (max 0 (comeSea b sea j)), max 0 (comeSea b sea j - min b.days[j]!.boat (max 0 (comeSea b sea j))),
    (List.range b.lamps.length).map fun i => min (pour i j) (b.lamps[i]!.tank - tanks[i]!), laidF b.days[j]!.length ((List.range b.lamps.length).map fun i => burn i j)⟩
inductive FDayBy : List D → D → Prop where
  | mk (b : Bk) (o : b.Ok) (f : Flw) (sea : Nat → Int) (pour burn : Nat → Nat → Int) (g : FlG b f sea pour burn) (j : Nat) (hj : j < b.days.length) (tanks : List Int) (ht : tanks.length = b.lamps.length) (x : D) (hx : Seq x (tanks.map D.int)) :
    FDayBy [dBk b, .int j, dFlw f, x] (dPart (dayBy b sea pour burn j tanks))
theorem laidTo_lamp (n : Int) (ts : List Int) : ∀ i, ∀ x ∈ laidTo n ts i, 0 ≤ x.lamp ∧ x.lamp < i
  | 0, x, h => nomatch h
  | i + 1, x, h => by
    unfold laidTo at h
    rcases List.mem_append.mp h with h | h
    · have := laidTo_lamp n ts i x h; omega
    · unfold laidStep at h
      split at h
      · rw [List.mem_singleton.mp h]; simp only; omega
      · split at h
        · rcases List.mem_cons.mp h with h | h
          · rw [h]; simp only; omega
          · rw [List.mem_singleton.mp h]; simp only; omega
        · split at h
          · rw [List.mem_singleton.mp h]; simp only; omega
          · cases h
def tankNext (x : Part) (m : Nat) (tanks : List Int) : List Int := (List.range m).map fun i => tanks[i]! + x.poured[i]! - (ticksF m x.spans)[i]!
def rotaT (b : Bk) (sea : Nat → Int) (pour burn : Nat → Nat → Int) : Nat → List Int
  | 0 => b.lamps.map (·.oil)
  | j + 1 => tankNext (dayBy b sea pour burn j (rotaT b sea pour burn j)) b.lamps.length (rotaT b sea pour burn j)
def rotaBy (b : Bk) (sea : Nat → Int) (pour burn : Nat → Nat → Int) : List Part := (List.range b.days.length).map fun j => dayBy b sea pour burn j (rotaT b sea pour burn j)
theorem rotaT_len (b : Bk) (sea : Nat → Int) (pour burn : Nat → Nat → Int) : ∀ j, (rotaT b sea pour burn j).length = b.lamps.length
  | 0 => List.length_map ..
  | j + 1 => by
    show ((List.range b.lamps.length).map _).length = _
    rw [List.length_map, List.length_range]
inductive FRotaBy : List D → D → Prop where
  | mk (b : Bk) (o : b.Ok) (fl : List Int) (hl : fl.length = b.web.ties.length) (hz : b.web.ties.length ≤ 1000) (sea : Nat → Int) (pour burn : Nat → Nat → Int) (g : FlG b (b.flows fl) sea pour burn) : FRotaBy [dBk b, dInts fl] (.tup ((rotaBy b sea pour burn).map dPart))
theorem range_get {n i j : Nat} (h : (List.range n)[i]? = some j) : i < n ∧ j = i := by
  rw [List.getElem?_eq_some_iff] at h
  obtain ⟨q1, q2⟩ := h
  simp at q1 q2
  exact ⟨q1, q2.symm⟩
theorem map_ints {α : Type} (g : α → Int) (xs : List α) : (xs.map fun x => D.int (g x)) = (xs.map g).map D.int := by rw [List.map_map]; rfl
section
variable {P : Program} {wd : World} {K : PySem.W.Frag} {mg : Str → Option Value} {base : Heap}
theorem c_flows_between (T : Tops K mg) (FD : IsDef K mg "flows_between" sFlowsBetween) (C_web_of : Calls P wd K mg base 5 "web_of" (PF FWebOf)) : Calls P wd K mg base 6 "flows_between" (PF FFlowsBetween) := by
  obtain ⟨f, fd, FD, hm⟩ := FD.ex
  refine Calls.mk (N := ["book", "flow", "found", "tie", "much"]) (ps := ["book", "flow"]) FD ⟨rfl, rfl, rfl, by decide +kernel, rfl, by decide +kernel, by decide +kernel⟩ hm (fun _ _ _ _ _ _ us h => by match us, h with | [a0, a1], _ => rfl) (fun ds Pd ⟨d, h, _⟩ => by cases h; rfl) fun cdv A outer s H E hr ds Pd ⟨d, h, hp⟩ => ?_
  have nd : (["book", "flow", "found", "tie", "much"] : List Str).Nodup := by decide +kernel
  cases h with
  | mk b o fl hl hz =>
  refine sb_cons (sx_newT 2 nd ?_)
  refine sb_cons (sx_for (items := zips (b.web.ties.map dTie) (fl.map D.int)) (es_zipT T (ev_ix (er_ (ev_call C_web_of (hr.mono (by decide)) (ea_cons (ev_var 0) ea_nil) (fun _ p => ⟨_, .mk b o, p⟩))) ev_int (h := (by first | assumption | rfl | exact at_ (by assumption) | exact at_n (by assumption)))) (ev_var 1) (by rw [List.length_map, List.length_map, hl])) (gx_tup (gxs_cons 3 nd (gxs_cons 4 nd gxs_nil))) (fun i ρ s => ∃ y z, ρ = [.d (dBk b), .d (dInts fl), .r 0, y, z] ∧ s = [.dt ((fbTo b.web.ties fl i).map fun q => (q.1, D.int q.2))]) ⟨_, _, rfl, rfl⟩ ?_ ?_)
  · rintro i d ρ s hd ⟨y, z, rfl, rfl⟩
    obtain ⟨x1, x2, h1, h2, rfl⟩ := zips_get _ _ i d hd
    obtain ⟨t, ht, rfl⟩ := map_get h1
    obtain ⟨m, hm2, rfl⟩ := map_get h2
    have hi : i < b.web.ties.length := (List.getElem?_eq_some_iff.mp ht).1
    have hln := fbTo_len b.web.ties fl i
    have e1 : b.web.ties[i]! = t := by simp [ht]
    have e2 : fl[i]! = m := by simp [hm2]
    refine ⟨_, rfl, sb_last (sx_putT (is := pair t) (d := .int ((lkG (fbTo b.web.ties fl i) (pair t)).getD 0 + m)) hr.units (ei_var 2) (ev_tup (ea_cons (ev_ix (er_ (ev_var 3)) ev_int (h := (by first | assumption | rfl | exact at_ (by assumption) | exact at_n (by assumption)))) (ea_cons (ev_ix (er_ (ev_var 3)) ev_int (h := (by first | assumption | rfl | exact at_ (by assumption) | exact at_n (by assumption)))) ea_nil))) (ev_add (ev_is (ev_get hr.units (er_ref 2) (ev_tup (ea_cons (ev_ix (er_ (ev_var 3)) ev_int (h := (by first | assumption | rfl | exact at_ (by assumption) | exact at_n (by assumption)))) (ea_cons (ev_ix (er_ (ev_var 3)) ev_int (h := (by first | assumption | rfl | exact at_ (by assumption) | exact at_n (by assumption)))) ea_nil))) ev_int (.t _ (pair t))) ?_) (ev_var 4)) rfl (by rw [List.length_map]; omega) ⟨_, _, rfl, ?_⟩)⟩
    · rw [lkG_mapV]
      cases lkG (fbTo b.web.ties fl i) (pair t) <;> rfl
    · show [MO.dt (putG ((fbTo b.web.ties fl i).map fun q => (q.1, D.int q.2)) (pair t) (D.int _))] = [MO.dt ((putG (fbTo b.web.ties fl i) (pair b.web.ties[i]!) _).map fun q => (q.1, D.int q.2))]
      rw [putG_mapV, e1, e2]
  · rintro ρ s ⟨y, z, rfl, rfl⟩
    rw [zips_len _ _ (by rw [List.length_map, List.length_map, hl]), List.length_map]
    exact sb_last (sx_retR (er_ref 2) hp)
theorem c_day_by (T : Tops K mg) (FD : IsDef K mg "day_by" sDayBy) (C_store_node : Calls P wd K mg base 1 "store_node" (PF FStoreNode)) (C_tank_node : Calls P wd K mg base 2 "tank_node" (PF FTankNode)) (C_flame_node : Calls P wd K mg base 2 "flame_node" (PF FFlameNode)) (C_night_node : Calls P wd K mg base 2 "night_node" (PF FNightNode)) (C_laid : Calls P wd K mg base 2 "laid" (PF FLaid)) : Calls P wd K mg base 3 "day_by" (PF FDayBy) := by
  obtain ⟨f, fd, FD, hm⟩ := FD.ex
  refine Calls.mk (N := ["book", "day", "flows", "tanks", "coming", "taken", "bought", "poured", "ticks", "lamp", "flowing"]) (ps := ["book", "day", "flows", "tanks"]) FD ⟨rfl, rfl, rfl, by decide +kernel, rfl, by decide +kernel, by decide +kernel⟩ hm (fun _ _ _ _ _ _ us h => by match us, h with | [a0, a1, a2, a3], _ => rfl) (fun ds Pd ⟨d, h, _⟩ => by cases h; rfl) fun cdv A outer s H E hr ds Pd ⟨d, h, hp⟩ => ?_
  have nd : (["book", "day", "flows", "tanks", "coming", "taken", "bought", "poured", "ticks", "lamp", "flowing"] : List Str).Nodup := by decide +kernel
  cases h with
  | mk b o f sea pour burn g j hj tanks ht x hx =>
  have hl3 := o.l3
  have hd4 := o.d4
  have hjd := get_bang hj
  have hday := o.day _ (List.mem_of_getElem? hjd)
  refine sb_cons (sx_set (d := .int (sea j)) 4 nd (ev_dget hr.units (er_ (ev_var 2)) (ev_tup (ea_cons (ev_gint T.sea) (ea_cons (ev_call C_store_node (hr.mono (by decide)) (ea_cons (ev_var 0) (ea_cons (ev_var 1) ea_nil)) (fun _ p => ⟨_, .mk b j hl3 (by omega), p⟩)) ea_nil))) (dg_t (k := [0, (b.sN j : Int)]) (g.hsea j hj))) ?_)
  refine sb_cut (fun ρ s => ρ = [.d (dBk b), .d (.int j), .d (dFlw f), .d x, .d (.int (comeSea b sea j)), .no, .no, .no, .no, .no, .no] ∧ s = []) ?_ ?_
  · refine sx_if (et_cmp co_eq (er_ (ev_var 1)) (er_ ev_int)) (fun hk => ?_) (fun hk => ?_)
    · have hk' : j = 0 := by have := of_decide_eq_true hk; omega
      refine sb_last (sx_set 4 nd (ev_sub (ev_var 4) (ev_ix (er_ (ev_var 0)) ev_int (h := (by first | assumption | rfl | exact at_ (by assumption) | exact at_n (by assumption))))) ⟨?_, rfl⟩)
      unfold comeSea
      rw [if_pos hk']
      rfl
    · have hk' : ¬ j = 0 := by have := of_decide_eq_false hk; omega
      refine sb_nil ⟨?_, rfl⟩
      unfold comeSea
      rw [if_neg hk']
      rfl
  · rintro ρ s ⟨rfl, rfl⟩
    refine sb_cons (sx_set 5 nd (ev_min2 T (ev_ix (er_ (ev_ix (er_ (ev_ix (er_ (ev_var 0)) ev_int (h := (by first | assumption | rfl | exact at_ (by assumption) | exact at_n (by assumption))))) (ev_var 1) (h := (by first | assumption | rfl | exact at_ (by assumption) | exact at_n (by assumption))))) ev_int (h := (by first | assumption | rfl | exact at_ (by assumption) | exact at_n (by assumption)))) (ev_max2 T ev_int (ev_var 4))) ?_)
    refine sb_cons (sx_set 6 nd (ev_max2 T ev_int (ev_sub (ev_var 4) (ev_var 5))) ?_)
    refine sb_cons (sx_new 7 nd (en_lst ea_nil) ?_)
    refine sb_cons (sx_new 8 nd (en_lst ea_nil) ?_)
    refine sb_cons (sx_for (items := (List.range b.lamps.length).map eNat) (es_rangeN T (ev_is (ev_len T (er_ (ev_ix (er_ (ev_var 0)) ev_int (h := (by first | assumption | rfl | exact at_ (by assumption) | exact at_n (by assumption)))))) (by rw [List.length_map])) (by omega)) (gx_name 9 nd) (fun i ρ s => ∃ y z, ρ = [.d (dBk b), .d (.int j), .d (dFlw f), .d x, .d (.int (comeSea b sea j)), .d (.int (min b.days[j]!.boat (max 0 (comeSea b sea j)))), .d (.int (max 0 (comeSea b sea j - min b.days[j]!.boat (max 0 (comeSea b sea j))))), .r 0, .r 1, y, z] ∧
      s = [.lst (((List.range i).map fun i => min (pour i j) (b.lamps[i]!.tank - tanks[i]!)).map D.int), .lst (((List.range i).map fun i => burn i j).map D.int)]) ⟨_, _, rfl, rfl⟩ ?_ ?_)
    · rintro i d ρ s hd ⟨y, z, rfl, rfl⟩
      obtain ⟨i', hi', rfl⟩ := map_get hd
      obtain ⟨hi3, rfl⟩ := range_get hi'
      have hi := get_bang hi3
      have hti := get_bang (xs := tanks) (j := i') (by omega)
      refine ⟨_, rfl, ?_⟩
      refine sb_cons (sx_set (d := .int (pour i' j)) 10 nd (ev_dget hr.units (er_ (ev_var 2)) (ev_tup (ea_cons (ev_call C_store_node (hr.mono (by decide)) (ea_cons (ev_var 0) (ea_cons (ev_var 1) ea_nil)) (fun _ p => ⟨_, .mk b j hl3 (by omega), p⟩)) (ea_cons (ev_call C_tank_node (hr.mono (by decide)) (ea_cons (ev_var 0) (ea_cons (ev_var 9) (ea_cons (ev_var 1) ea_nil))) (fun _ p => ⟨_, .mk b i' j hl3 (by omega) (by omega), p⟩)) ea_nil))) (dg_t (k := [(b.sN j : Int), (b.tN i' j : Int)]) (g.hpour i' j hi3 hj))) ?_)
      refine sb_cons (sx_append (ei_var 7) (ev_min2 T (ev_var 10) (ev_sub (ev_ix (er_ (ev_ix (er_ (ev_ix (er_ (ev_var 0)) ev_int (h := (by first | assumption | rfl | exact at_ (by assumption) | exact at_n (by assumption))))) (ev_var 9) (h := (at_ hi)))) ev_int (h := (by first | assumption | rfl | exact at_ (by assumption) | exact at_n (by assumption)))) (ev_ix (er_ (ev_var 3)) (ev_var 9) (q := hx) (h := at_ hti)))) rfl (by simp; omega) ?_)
      refine sb_last (sx_append (d := .int (burn i' j)) (ei_var 8) (ev_dget hr.units (er_ (ev_var 2)) (ev_tup (ea_cons (ev_call C_flame_node (hr.mono (by decide)) (ea_cons (ev_var 0) (ea_cons (ev_var 9) (ea_cons (ev_var 1) ea_nil))) (fun _ p => ⟨_, .mk b i' j hl3 (by omega) (by omega), p⟩)) (ea_cons (ev_call C_night_node (hr.mono (by decide)) (ea_cons (ev_var 0) (ea_cons (ev_var 1) ea_nil)) (fun _ p => ⟨_, .mk b j hl3 (by omega), p⟩)) ea_nil))) (dg_t (k := [(b.fN i' j : Int), (b.nN j : Int)]) (g.hburn i' j hi3 hj))) rfl (by simp; omega) ⟨_, _, rfl, ?_⟩)
      rw [List.range_succ, List.map_append, List.map_append, List.map_append, List.map_append]
      rfl
    · rintro ρ s ⟨y, z, rfl, rfl⟩
      rw [List.length_map, List.length_range]
      have hall := g.all j hj
      exact sb_last (sx_ret (ev_tup (ea_cons (ev_var 5) (ea_cons (ev_var 6) (ea_cons (ev_tupleOf T (er_ref 7)) (ea_cons (ev_call C_laid (hr.mono (by decide)) (ea_cons (ev_ix (er_ (ev_ix (er_ (ev_ix (er_ (ev_var 0)) ev_int (h := (by first | assumption | rfl | exact at_ (by assumption) | exact at_n (by assumption))))) (ev_var 1) (h := (at_ hjd)))) ev_int (h := (by first | assumption | rfl | exact at_ (by assumption) | exact at_n (by assumption)))) (ea_cons (ev_ix (er_ (ev_ix (er_ (ev_ix (er_ (ev_var 0)) ev_int (h := (by first | assumption | rfl | exact at_ (by assumption) | exact at_n (by assumption))))) (ev_var 1) (h := (at_ hjd)))) ev_int (h := (by first | assumption | rfl | exact at_ (by assumption) | exact at_n (by assumption)))) (ea_cons (ev_tupleOf T (er_ref 8)) ea_nil))) (fun _ p => ⟨_, .mk _ _ _ (fun t ht => by obtain ⟨i, hi, rfl⟩ := List.mem_map.mp ht; exact g.nn i j (List.mem_range.mp hi) hj) hall (by omega) (by omega) (by simp; omega), p⟩)) ea_nil))))) hp)
theorem c_rota_by (T : Tops K mg) (FD : IsDef K mg "rota_by" sRotaBy) (C_flows_between : Calls P wd K mg base 6 "flows_between" (PF FFlowsBetween)) (C_day_by : Calls P wd K mg base 3 "day_by" (PF FDayBy)) (C_ticks_in : Calls P wd K mg base 1 "ticks_in" (PF FTicksIn)) : Calls P wd K mg base 7 "rota_by" (PF FRotaBy) := by
  obtain ⟨f, fd, FD, hm⟩ := FD.ex
  refine Calls.mk (N := ["book", "flow", "flows", "tanks", "lamp", "days", "day", "told", "burning"]) (ps := ["book", "flow"]) FD ⟨rfl, rfl, rfl, by decide +kernel, rfl, by decide +kernel, by decide +kernel⟩ hm (fun _ _ _ _ _ _ us h => by match us, h with | [a0, a1], _ => rfl) (fun ds Pd ⟨d, h, _⟩ => by cases h; rfl) fun cdv A outer s H E hr ds Pd ⟨d, h, hp⟩ => ?_
  have nd : (["book", "flow", "flows", "tanks", "lamp", "days", "day", "told", "burning"] : List Str).Nodup := by decide +kernel
  cases h with
  | mk b o fl hl hz sea pour burn g =>
  have hl3 := o.l3
  have hd4 := o.d4
  refine sb_cons (sx_set 2 nd (ev_call C_flows_between (hr.mono (by decide)) (ea_cons (ev_var 0) (ea_cons (ev_var 1) ea_nil)) (fun _ p => ⟨_, .mk b o fl hl hz, p⟩)) ?_)
  refine sb_cons (sx_set (d := .lst (b.lamps.map fun l => D.int l.oil)) 3 nd (ev_n (en_lc nd (lc_all (enc := dLmp) (f := fun l => D.int l.oil) (xs := b.lamps) 4 nd (es_tup (ev_ix (er_ (ev_var 0)) ev_int (h := (by first | assumption | rfl | exact at_ (by assumption) | exact at_n (by assumption))))) (blkOk_by (own := [("lamp", 4)]) (N := ["book", "flow", "flows", "tanks", "lamp", "days", "day", "told", "burning"]) (sc := defScope sRotaBy) (by decide +kernel)) rfl (by first | exact Or.inl rfl | exact Or.inr rfl) (by first | exact Or.inl rfl | exact Or.inr rfl) (fun _ _ _ _ _ l hl => (ev_ix (er_ (ev_var 4)) ev_int (h := (by first | assumption | rfl | exact at_ (by assumption) | exact at_n (by assumption))))) (by omega)))) ?_)
  rw [map_ints]
  refine sb_cons (sx_new 5 nd (en_lst ea_nil) ?_)
  refine sb_cons (sx_for (items := (List.range b.days.length).map eNat) (es_rangeN T (ev_is (ev_len T (er_ (ev_ix (er_ (ev_var 0)) ev_int (h := (by first | assumption | rfl | exact at_ (by assumption) | exact at_n (by assumption)))))) (by rw [List.length_map])) (by omega)) (gx_name 6 nd) (fun j ρ s => ∃ x6 x7 x8 x9, ρ = [.d (dBk b), .d (dInts fl), .d (dFlw (b.flows fl)), .d (.lst ((rotaT b sea pour burn j).map D.int)), x6, .r 0, x7, x8, x9] ∧
    s = [.lst (((List.range j).map fun j => dayBy b sea pour burn j (rotaT b sea pour burn j)).map dPart)]) ⟨_, _, _, _, rfl, rfl⟩ ?_ ?_)
  · rintro i d ρ s hd ⟨x6, x7, x8, x9, rfl, rfl⟩
    obtain ⟨j, hj', rfl⟩ := map_get hd
    obtain ⟨hj, rfl⟩ := range_get hj'
    have htl := rotaT_len b sea pour burn j
    have hsp := laidTo_lamp b.days[j]!.length ((List.range b.lamps.length).map fun i => burn i j) ((List.range b.lamps.length).map fun i => burn i j).length
    rw [List.length_map, List.length_range] at hsp
    refine ⟨_, rfl, ?_⟩
    refine sb_cons (sx_set 7 nd (ev_call C_day_by (hr.mono (by decide)) (ea_cons (ev_var 0) (ea_cons (ev_var 6) (ea_cons (ev_var 2) (ea_cons (ev_var 3) ea_nil)))) (fun _ p => ⟨_, .mk b o _ sea pour burn g j hj _ htl _ (.lst _), p⟩)) ?_)
    have hm2 : ((rotaT b sea pour burn j).map D.int).length = b.lamps.length := by rw [List.length_map, htl]
    refine sb_cons (sx_set 8 nd (ev_call C_ticks_in (hr.mono (by decide)) (ea_cons (ev_is (ev_len T (er_ (ev_var 3))) (by rw [hm2])) (ea_cons (ev_ix (er_ (ev_var 7)) ev_int (h := (by first | assumption | rfl | exact at_ (by assumption) | exact at_n (by assumption)))) ea_nil)) (fun _ p => ⟨_, .mk b.lamps.length _ hl3 (fun x hx => by unfold dayBy laidF at hx; rw [List.length_map, List.length_range] at hx; exact hsp x hx), p⟩)) ?_)
    refine sb_cons (sx_set 3 nd (ev_n (en_lc nd (lc_all (enc := eNat) (f := fun i => D.int ((rotaT b sea pour burn j)[i]! + (dayBy b sea pour burn j (rotaT b sea pour burn j)).poured[i]! - (ticksF b.lamps.length (dayBy b sea pour burn j (rotaT b sea pour burn j)).spans)[i]!)) (xs := List.range b.lamps.length) 4 nd (es_rangeN T (ev_is (ev_len T (er_ (ev_var 3))) (by rw [hm2])) (by omega)) (blkOk_by (own := [("lamp", 4)]) (N := ["book", "flow", "flows", "tanks", "lamp", "days", "day", "told", "burning"]) (sc := defScope sRotaBy) (by decide +kernel)) rfl (by first | exact Or.inl rfl | exact Or.inr rfl) (by first | exact Or.inl rfl | exact Or.inr rfl) (fun _ _ _ _ _ i hi => ?_) (by simp; omega)))) ?_)
    · have hi2 : i < b.lamps.length := List.mem_range.mp hi
      have g1 := get_bang (xs := rotaT b sea pour burn j) (j := i) (by omega)
      have g2 := get_bang (xs := (dayBy b sea pour burn j (rotaT b sea pour burn j)).poured) (j := i) (by unfold dayBy; simp; omega)
      have g3 := get_bang (xs := ticksF b.lamps.length (dayBy b sea pour burn j (rotaT b sea pour burn j)).spans) (j := i) (by unfold ticksF; rw [ticksTo_len]; omega)
      exact (ev_sub (ev_add (ev_ix (er_ (ev_var 3)) (ev_var 4) (h := (at_ g1))) (ev_ix (er_ (ev_ix (er_ (ev_var 7)) ev_int (h := (by first | assumption | rfl | exact at_ (by assumption) | exact at_n (by assumption))))) (ev_var 4) (h := (at_ g2)))) (ev_ix (er_ (ev_var 8)) (ev_var 4) (h := (at_ g3))))
    rw [map_ints (fun i => (rotaT b sea pour burn j)[i]! + (dayBy b sea pour burn j (rotaT b sea pour burn j)).poured[i]! - (ticksF b.lamps.length (dayBy b sea pour burn j (rotaT b sea pour burn j)).spans)[i]!) (List.range b.lamps.length)]
    refine sb_last (sx_append (ei_var 5) (ev_var 7) rfl (by simp; omega) ⟨_, _, _, _, rfl, ?_⟩)
    rw [List.range_succ, List.map_append, List.map_append]
    rfl
  · rintro ρ s ⟨x6, x7, x8, x9, rfl, rfl⟩
    rw [List.length_map, List.length_range]
    exact sb_last (sx_ret (ev_tupleOf T (er_ref 5)) hp)
end

/-! ## walk.py -/
def leSpn (x y : Spn) : Bool := le3 x.lamp x.lo x.hi y.lamp y.lo y.hi
theorem co_leSpn {X : Cx} {s : List MO} {x y : Spn} (hu : X.A.units + 64 < cLine) : CO X s .LtE (dSpn x) (dSpn y) (leSpn x y) := co_le3 hu
def spBad1 (n : Int) (m : Nat) (x : Spn) : Bool := decide (x.lamp < 0) || (decide ((m : Int) ≤ x.lamp) || (decide (x.lo < 0) || (decide (n < x.hi) || decide (x.hi ≤ x.lo))))
def spBad2 (sp : List Spn) : Nat → Bool
  | 0 => false
  | i + 1 => leSpn sp[i + 1]! sp[i]! || (decide (sp[i + 1]!.lamp = sp[i]!.lamp) && decide (sp[i + 1]!.lo < sp[i]!.hi))
def spanFault (n : Int) (m : Nat) (sp : List Spn) : Bool := (List.range sp.length).any fun i => spBad1 n m sp[i]! || spBad2 sp i
def lastSp (sp : List Spn) : Nat → D
  | 0 => .non
  | i + 1 => dSpn sp[i]!
inductive FSpanFault : List D → D → Prop where
  | mk (n : Int) (m : Nat) (sp : List Spn) : FSpanFault [.int n, .int m, .tup (sp.map dSpn)] (.bl (spanFault n m sp))
theorem any_range {n : Nat} {f : Nat → Bool} {i : Nat} (hi : i < n) (h : f i = true) : (List.range n).any f = true := List.any_eq_true.mpr ⟨i, List.mem_range.mpr hi, h⟩
theorem any_range_false {n : Nat} {f : Nat → Bool} (h : ∀ i, i < n → f i = false) : (List.range n).any f = false := List.any_eq_false.mpr fun i hi => by rw [h i (List.mem_range.mp hi)]; exact Bool.false_ne_true
theorem any_false_at {n : Nat} {f : Nat → Bool} (h : (List.range n).any f = false) {i : Nat} (hi : i < n) : f i = false := by
  have := List.any_eq_false.mp h i (List.mem_range.mpr hi)
  cases q : f i with
  | false => rfl
  | true => exact absurd q this
abbrev IIs := List (Int × Int)
def turnsTo (n : Int) (sp : List Spn) : Nat → IIs
  | 0 => putG (putG [] 0 0) n 0
  | i + 1 => putG (putG (turnsTo n sp i) sp[i]!.lo ((lkG (turnsTo n sp i) sp[i]!.lo).getD 0 + 1)) sp[i]!.hi ((lkG (putG (turnsTo n sp i) sp[i]!.lo ((lkG (turnsTo n sp i) sp[i]!.lo).getD 0 + 1)) sp[i]!.hi).getD 0 - 1)
def turns (n : Int) (sp : List Spn) : IIs := turnsTo n sp sp.length
def litTo (f : IIs) (ks : List Int) : Nat → Int
  | 0 => 0
  | i + 1 => litTo f ks i + (lkG f ks[i]!).getD 0
def darkF (n w : Int) (sp : List Spn) : Bool := (List.range (sortI ((turns n sp).map (·.1))).length).any fun i => decide ((sortI ((turns n sp).map (·.1)))[i]! < n) && !decide (litTo (turns n sp) (sortI ((turns n sp).map (·.1))) (i + 1) = w)
theorem turnsTo_len (n : Int) (sp : List Spn) : ∀ i, (turnsTo n sp i).length ≤ 2 + 2 * i
  | 0 => Nat.le_trans (putG_len _ _ _) (Nat.succ_le_succ (putG_len _ _ _))
  | i + 1 => by
    have h := turnsTo_len n sp i
    unfold turnsTo
    refine Nat.le_trans (putG_len _ _ _) (Nat.le_trans (Nat.succ_le_succ (putG_len _ _ _)) ?_)
    omega
inductive FDarkFault : List D → D → Prop where
  | mk (n w : Int) (sp : List Spn) (h : sp.length ≤ 20) : FDarkFault [.int n, .int w, .tup (sp.map dSpn)] (.bl (darkF n w sp))
inductive FTicksBy : List D → D → Prop where
  | mk (m : Nat) (sp : List Spn) (h : m ≤ 3) (h2 : ∀ x ∈ sp, 0 ≤ x.lamp ∧ x.lamp < m) : FTicksBy [.int m, .tup (sp.map dSpn)] (.lst ((ticksF m sp).map D.int))
def buyF (d : Dy) (store : Int) (x : Part) : Str := if x.taken < 0 ∨ d.boat < x.taken then "boat" else if x.bought < 0 ∨ d.most < x.bought then "market" else if lmin x.poured < 0 ∨ store + x.taken + x.bought < x.poured.sum then "pour" else ""
inductive FBuyingFault : List D → D → Prop where
  | mk (d : Dy) (store : Int) (x : Part) (h : x.poured ≠ []) : FBuyingFault [dDy d, .int store, dPart x] (.str (buyF d store x))
def burnF (b : Bk) (j : Nat) (tanks : List Int) (sp : List Spn) : Str :=
  if ((List.range tanks.length).any fun i => decide (b.lamps[i]!.tank < tanks[i]!)) = true then "tank"
  else if spanFault b.days[j]!.length tanks.length sp = true then "span"
  else if ((List.range sp.length).any fun i => decide ((j : Int) ∈ b.lamps[sp[i]!.lamp.toNat]!.away)) = true then "away"
  else if ((List.range tanks.length).any fun i => decide (tanks[i]! < (ticksF tanks.length sp)[i]!)) = true then "oil"
  else if darkF b.days[j]!.length b.days[j]!.wanted sp = true then "dark" else ""
theorem spanFault_in {n : Int} {m : Nat} {sp : List Spn} (h : spanFault n m sp = false) : ∀ x ∈ sp, 0 ≤ x.lamp ∧ x.lamp < m ∧ 0 ≤ x.lo ∧ x.lo < x.hi ∧ x.hi ≤ n := fun x hx => by
  obtain ⟨i, hi⟩ := List.getElem?_of_mem hx
  have hl := (List.getElem?_eq_some_iff.mp hi).1
  have := any_false_at h hl
  rw [Bool.or_eq_false_iff] at this
  have h1 := this.1
  have e : sp[i]! = x := by simp [hi]
  rw [e] at h1
  unfold spBad1 at h1
  simp only [Bool.or_eq_false_iff, decide_eq_false_iff_not] at h1
  omega
inductive FBurningFault : List D → D → Prop where
  | mk (b : Bk) (j : Nat) (hj : j < b.days.length) (hl3 : b.lamps.length ≤ 3) (tanks : List Int) (ht : tanks.length = b.lamps.length) (sp : List Spn) (h : sp.length ≤ 20) : FBurningFault [dBk b, .int j, .lst (tanks.map D.int), .tup (sp.map dSpn)] (.str (burnF b j tanks sp))
def dState (store : Int) (tanks : List Int) : D := .tup [.int store, .lst (tanks.map D.int)]
inductive FBegun : List D → D → Prop where
  | mk (b : Bk) (hl3 : b.lamps.length ≤ 3) : FBegun [dBk b] (dState b.oil (b.lamps.map (·.oil)))
def pouredIn (tanks : List Int) (x : Part) : List Int := (List.range tanks.length).map fun i => tanks[i]! + x.poured[i]!
inductive FPouredIn : List D → D → Prop where
  | mk (store : Int) (tanks : List Int) (x : Part) (ht : tanks.length ≤ 3) (h : x.poured.length = tanks.length) : FPouredIn [dState store tanks, dPart x] (.lst ((pouredIn tanks x).map D.int))
def dayF (b : Bk) (j : Nat) (store : Int) (tanks : List Int) (x : Part) : Str := if buyF b.days[j]! store x = "" then burnF b j (pouredIn tanks x) x.spans else buyF b.days[j]! store x
inductive FDayFault : List D → D → Prop where
  | mk (b : Bk) (j : Nat) (hj : j < b.days.length) (hl3 : b.lamps.length ≤ 3) (hl1 : 1 ≤ b.lamps.length) (store : Int) (tanks : List Int) (ht : tanks.length = b.lamps.length) (x : Part) (hx : x.poured.length = b.lamps.length) (h : x.spans.length ≤ 20) :
    FDayFault [dBk b, .int j, dState store tanks, dPart x] (.str (dayF b j store tanks x))
def goneStore (b : Bk) (store : Int) (x : Part) : Int := min (store + x.taken + x.bought - x.poured.sum) b.store
def goneTanks (tanks : List Int) (x : Part) : List Int := (List.range tanks.length).map fun i => (pouredIn tanks x)[i]! - (ticksF tanks.length x.spans)[i]!
inductive FDayGone : List D → D → Prop where
  | mk (b : Bk) (store : Int) (tanks : List Int) (x : Part) (ht : tanks.length ≤ 3) (hx : x.poured.length = tanks.length) (hs : ∀ y ∈ x.spans, 0 ≤ y.lamp ∧ y.lamp < tanks.length) : FDayGone [dBk b, dState store tanks, dPart x] (dState (goneStore b store x) (goneTanks tanks x))
/-- of a rota of one day -/
def oneF (b : Bk) (x : Part) : Str := dayF b 0 b.oil (b.lamps.map (·.oil)) x
inductive FFault : List D → D → Prop where
  | mk (b : Bk) (hd : 1 ≤ b.days.length) (hl3 : b.lamps.length ≤ 3) (hl1 : 1 ≤ b.lamps.length) (x : Part) (hx : x.poured.length = b.lamps.length) (h : x.spans.length ≤ 20) : FFault [dBk b, .tup [dPart x]] (if oneF b x = "" then .non else .tup [.int 0, .str (oneF b x)])
inductive FEvenings : List D → D → Prop where
  | mk (b : Bk) (hl3 : b.lamps.length ≤ 3) (x : Part) (hx : x.poured.length = b.lamps.length) (hs : ∀ y ∈ x.spans, 0 ≤ y.lamp ∧ y.lamp < b.lamps.length) : FEvenings [dBk b, .tup [dPart x]] (.lst [.tup [.int (goneStore b b.oil x), dInts (goneTanks (b.lamps.map (·.oil)) x)]])
section
variable {P : Program} {wd : World} {K : PySem.W.Frag} {mg : Str → Option Value} {base : Heap}
theorem c_span_fault (T : Tops K mg) (FD : IsDef K mg "span_fault" sSpanFault)  : Calls P wd K mg base 1 "span_fault" (PF FSpanFault) := by
  obtain ⟨f, fd, FD, hm⟩ := FD.ex
  refine Calls.mk (N := ["length", "lamps", "spans", "last", "span", "lamp", "start", "end"]) (ps := ["length", "lamps", "spans"]) FD ⟨rfl, rfl, rfl, by decide +kernel, rfl, by decide +kernel, by decide +kernel⟩ hm (fun _ _ _ _ _ _ us h => by match us, h with | [a0, a1, a2], _ => rfl) (fun ds Pd ⟨d, h, _⟩ => by cases h; rfl) fun cdv A outer s H E hr ds Pd ⟨d, h, hp⟩ => ?_
  have nd : (["length", "lamps", "spans", "last", "span", "lamp", "start", "end"] : List Str).Nodup := by decide +kernel
  cases h with
  | mk n m sp =>
  refine sb_cons (sx_set 3 nd ev_non ?_)
  refine sb_cons (sx_for (items := sp.map dSpn) (es_tup (ev_var 2)) (gx_name 4 nd) (fun i ρ s => (∀ j, j < i → (spBad1 n m sp[j]! || spBad2 sp j) = false) ∧ ∃ y z u v, ρ = [.d (.int n), .d (.int m), .d (.tup (sp.map dSpn)), .d (lastSp sp i), y, z, u, v] ∧ s = []) ⟨fun j hj => absurd hj (Nat.not_lt_zero _), _, _, _, _, rfl, rfl⟩ ?_ ?_)
  · rintro i d ρ s hd ⟨hgood, y, z, u, v, rfl, rfl⟩
    obtain ⟨x, hx, rfl⟩ := map_get hd
    have hi : i < sp.length := (List.getElem?_eq_some_iff.mp hx).1
    have ex : sp[i]! = x := by simp [hx]
    refine ⟨_, rfl, ?_⟩
    refine sb_cons (sx_unpack (ev_var 4) (gx_tup (gxs_cons 5 nd (gxs_cons 6 nd (gxs_cons 7 nd gxs_nil)))) rfl ?_)
    refine sb_cons (sx_if (k := spBad1 n m x) (et_w (ew_or (et_cmp co_lt (er_ (ev_var 5)) (er_ ev_int)) (fun hq => (ew_or (et_cmp co_ge (er_ (ev_var 5)) (er_ (ev_var 1))) (fun hq => (ew_or (et_cmp co_lt (er_ (ev_var 6)) (er_ ev_int)) (fun hq => (ew_or (et_cmp co_gt (er_ (ev_var 7)) (er_ (ev_var 0))) (fun hq => (ew_or1 (et_cmp co_le (er_ (ev_var 7)) (er_ (ev_var 6))))))))))))) (fun hk => ?_) (fun hk => ?_))
    · refine sb_last (sx_ret (ev_is ev_bl ?_) hp)
      rw [spanFault, any_range hi (by rw [ex, hk]; rfl)]
    · refine sb_nil (sb_cons (sx_if (k := spBad2 sp i) ?_ (fun hk2 => ?_) (fun hk2 => ?_)))
      · cases i with
        | zero => exact et_w (ew_and (k := false) (k2 := false) (et_is (et_cmp co_notN (er_ (ev_var 3)) (er_ ev_non)) (by rfl)) (fun hq => nomatch hq))
        | succ i =>
          have e2 : sp[i + 1]! = x := ex
          have e4 : spBad2 sp (i + 1) = (leSpn x sp[i]! || (decide (x.lamp = sp[i]!.lamp) && decide (x.lo < sp[i]!.hi))) := by
            show (leSpn sp[i + 1]! sp[i]! || (decide (sp[i + 1]!.lamp = sp[i]!.lamp) && decide (sp[i + 1]!.lo < sp[i]!.hi))) = _
            rw [e2]
          rw [e4]
          refine et_w (ew_and (k := true) (et_is (et_cmp co_notN (er_ (ev_var 3)) (er_ ev_non)) (by rfl)) fun _ => ew_and1 (et_w (ew_or (et_cmp (co_leSpn hr.units) (er_ (ev_var 4)) (er_ (ev_var 3))) fun _ => ew_or1 (et_w ?_))))
          exact ew_and (et_cmp co_eq (er_ (ev_var 5)) (er_ (ev_ix (er_ (ev_var 3)) ev_int (h := (by first | assumption | rfl | exact at_ (by assumption) | exact at_n (by assumption)))))) fun _ => ew_and1 (et_cmp co_lt (er_ (ev_var 6)) (er_ (ev_ix (er_ (ev_var 3)) ev_int (h := (by first | assumption | rfl | exact at_ (by assumption) | exact at_n (by assumption))))))
      · refine sb_last (sx_ret (ev_is ev_bl ?_) hp)
        rw [spanFault, any_range hi (by rw [hk2, Bool.or_true])]
      · refine sb_nil (sb_last (sx_set 3 nd (ev_var 4) ⟨fun j hj => ?_, .d (dSpn x), .d (.int x.lamp), .d (.int x.lo), .d (.int x.hi), ?_, rfl⟩))
        · by_cases hji : j < i
          · exact hgood j hji
          · have e3 : j = i := by omega
            subst e3
            rw [ex, hk, hk2]
            rfl
        · have el : lastSp sp (i + 1) = dSpn x := by
            show dSpn sp[i]! = _
            rw [ex]
          rw [el]
          rfl
  · rintro ρ s ⟨hgood, y, z, u, v, rfl, rfl⟩
    rw [List.length_map] at hgood
    refine sb_last (sx_ret (ev_is ev_bl ?_) hp)
    rw [spanFault, any_range_false hgood]
theorem c_dark_fault (T : Tops K mg) (FD : IsDef K mg "dark_fault" sDarkFault)  : Calls P wd K mg base 1 "dark_fault" (PF FDarkFault) := by
  obtain ⟨f, fd, FD, hm⟩ := FD.ex
  refine Calls.mk (N := ["length", "wanted", "spans", "turns", "lamp", "start", "end", "lit", "tick"]) (ps := ["length", "wanted", "spans"]) FD ⟨rfl, rfl, rfl, by decide +kernel, rfl, by decide +kernel, by decide +kernel⟩ hm (fun _ _ _ _ _ _ us h => by match us, h with | [a0, a1, a2], _ => rfl) (fun ds Pd ⟨d, h, _⟩ => by cases h; rfl) fun cdv A outer s H E hr ds Pd ⟨d, h, hp⟩ => ?_
  have nd : (["length", "wanted", "spans", "turns", "lamp", "start", "end", "lit", "tick"] : List Str).Nodup := by decide +kernel
  cases h with
  | mk n w sp h =>
  refine sb_cons (sx_newD 3 nd (eps_cons ev_int ev_int (eps_cons (ev_var 0) ev_int eps_nil)) (Nat.le_of_ble_eq_true rfl) ?_)
  have e0 : mergeG [] [((0 : Int), D.int 0), (n, D.int 0)] = (turnsTo n sp 0).map fun q => (q.1, D.int q.2) := by
    show putG (putG [] 0 (D.int 0)) n (D.int 0) = _
    rw [show (putG [] (0 : Int) (D.int 0)) = (putG [] (0 : Int) (0 : Int)).map (fun q => (q.1, D.int q.2)) from rfl, putG_mapV D.int]
    rfl
  rw [e0]
  refine sb_cons (sx_for (items := sp.map dSpn) (es_tup (ev_var 2)) (gx_tup (gxs_cons 4 nd (gxs_cons 5 nd (gxs_cons 6 nd gxs_nil)))) (fun i ρ s => ∃ y z u v t, ρ = [.d (.int n), .d (.int w), .d (.tup (sp.map dSpn)), .r 0, y, z, u, v, t] ∧ s = [.dk ((turnsTo n sp i).map fun q => (q.1, D.int q.2))]) ⟨_, _, _, _, _, rfl, rfl⟩ ?_ ?_)
  · rintro i d ρ s hd ⟨y, z, u, v, t, rfl, rfl⟩
    obtain ⟨x, hx, rfl⟩ := map_get hd
    have hi : i < sp.length := (List.getElem?_eq_some_iff.mp hx).1
    have ex : sp[i]! = x := by simp [hx]
    have hln := turnsTo_len n sp i
    have hl2 := putG_len (turnsTo n sp i) x.lo ((lkG (turnsTo n sp i) x.lo).getD 0 + 1)
    refine ⟨_, rfl, ?_⟩
    refine sb_cons (sx_putK (d := .int ((lkG (turnsTo n sp i) x.lo).getD 0 + 1)) hr.units (ei_var 3) (ev_var 5) (ev_add (ev_is (ev_get hr.units (er_ref 3) (ev_var 5) ev_int (.k _ _)) ?_) ev_int) rfl (by rw [List.length_map]; omega) ?_)
    · rw [lkG_mapV D.int]
      cases lkG (turnsTo n sp i) x.lo <;> rfl
    rw [putG_mapV D.int]
    refine sb_last (sx_putK (d := .int ((lkG (putG (turnsTo n sp i) x.lo ((lkG (turnsTo n sp i) x.lo).getD 0 + 1)) x.hi).getD 0 - 1)) hr.units (ei_var 3) (ev_var 6) (ev_sub (ev_is (ev_get hr.units (er_ref 3) (ev_var 6) ev_int (.k _ _)) ?_) ev_int) rfl (by rw [List.length_map]; omega) ⟨_, _, _, _, _, rfl, ?_⟩)
    · rw [lkG_mapV D.int]
      cases lkG (putG (turnsTo n sp i) x.lo ((lkG (turnsTo n sp i) x.lo).getD 0 + 1)) x.hi <;> rfl
    · show [MO.dk (putG ((putG (turnsTo n sp i) x.lo ((lkG (turnsTo n sp i) x.lo).getD 0 + 1)).map fun q => (q.1, D.int q.2)) x.hi (D.int _))] = _
      rw [putG_mapV D.int]
      show _ = [MO.dk ((putG (putG (turnsTo n sp i) sp[i]!.lo ((lkG (turnsTo n sp i) sp[i]!.lo).getD 0 + 1)) sp[i]!.hi ((lkG (putG (turnsTo n sp i) sp[i]!.lo ((lkG (turnsTo n sp i) sp[i]!.lo).getD 0 + 1)) sp[i]!.hi).getD 0 - 1)).map fun q => (q.1, D.int q.2))]
      rw [ex]
  · rintro ρ s ⟨y, z, u, v, t, rfl, rfl⟩
    rw [List.length_map]
    have hln := turnsTo_len n sp sp.length
    refine sb_cons (sx_set 7 nd ev_int ?_)
    have ek : (((turns n sp).map fun q => (q.1, D.int q.2)).map (·.1)) = (turns n sp).map (·.1) := by rw [List.map_map]; rfl
    have hks := sortI_ok ((turns n sp).map (·.1))
    generalize hk : sortI ((turns n sp).map (·.1)) = ks at hks
    refine sb_cons (sx_for (items := ks.map D.int) (es_list (ev_n (en_sortedD (ms := ks) T (er_ref 3) (by rw [List.map_map]; exact hks) (by rw [List.length_map]; omega)))) (gx_name 8 nd) (fun i ρ s => (∀ j, j < i → (decide (ks[j]! < n) && !decide (litTo (turns n sp) ks (j + 1) = w)) = false) ∧ ∃ y z u t, ρ = [.d (.int n), .d (.int w), .d (.tup (sp.map dSpn)), .r 0, y, z, u, .d (.int (litTo (turns n sp) ks i)), t] ∧ s = [.dk ((turns n sp).map fun q => (q.1, D.int q.2))]) ⟨fun j hj => absurd hj (Nat.not_lt_zero _), _, _, _, _, rfl, rfl⟩ ?_ ?_)
    · rintro i d ρ s hd ⟨hgood, y, z, u, t, rfl, rfl⟩
      obtain ⟨x, hx, rfl⟩ := map_get hd
      have hi : i < ks.length := (List.getElem?_eq_some_iff.mp hx).1
      have ex : ks[i]! = x := by simp [hx]
      have hmem : x ∈ (turns n sp).map (·.1) := hks.1.mem_iff.mpr (List.mem_of_getElem? hx)
      obtain ⟨c, hc⟩ := Option.isSome_iff_exists.mp (lkG_key.mpr hmem)
      have e1 : litTo (turns n sp) ks (i + 1) = litTo (turns n sp) ks i + c := by
        show litTo (turns n sp) ks i + (lkG (turns n sp) ks[i]!).getD 0 = _
        rw [ex, hc]
        rfl
      refine ⟨_, rfl, ?_⟩
      refine sb_cons (sx_set 7 nd (ev_add (ev_var 7) (ev_dget hr.units (er_ref 3) (ev_var 8) (dg_k (d := .int c) (by rw [lkG_mapV D.int, hc]; rfl)))) ?_)
      refine sb_last (sx_if (k := decide (x < n) && !decide (litTo (turns n sp) ks i + c = w)) (et_w (ew_and (et_cmp co_lt (er_ (ev_var 8)) (er_ (ev_var 0))) (fun hq => (ew_and1 (et_cmp co_ne (er_ (ev_var 7)) (er_ (ev_var 1))))))) (fun hb => ?_) (fun hb => ?_))
      · refine sb_last (sx_ret (ev_is ev_bl ?_) hp)
        rw [darkF, hk, any_range hi (by rw [ex, e1]; exact hb)]
      · refine sb_nil ⟨fun j hj => ?_, y, z, u, .d (.int x), ?_, rfl⟩
        · by_cases hji : j < i
          · exact hgood j hji
          · have e3 : j = i := by omega
            subst e3
            rw [ex, e1]
            exact hb
        · rw [e1]
          rfl
    · rintro ρ s ⟨hgood, y, z, u, t, rfl, rfl⟩
      rw [List.length_map] at hgood
      refine sb_last (sx_ret (ev_is ev_bl ?_) hp)
      rw [darkF, hk, any_range_false hgood]
theorem c_ticks_by (T : Tops K mg) (FD : IsDef K mg "ticks_by" sTicksBy)  : Calls P wd K mg base 1 "ticks_by" (PF FTicksBy) := by
  obtain ⟨f, fd, FD, hm⟩ := FD.ex
  refine Calls.mk (N := ["lamps", "spans", "ticks", "lamp", "start", "end"]) (ps := ["lamps", "spans"]) FD ⟨rfl, rfl, rfl, by decide +kernel, rfl, by decide +kernel, by decide +kernel⟩ hm (fun _ _ _ _ _ _ us h => by match us, h with | [a0, a1], _ => rfl) (fun ds Pd ⟨d, h, _⟩ => by cases h; rfl) fun cdv A outer s H E hr ds Pd ⟨d, h, hp⟩ => ?_
  have nd : (["lamps", "spans", "ticks", "lamp", "start", "end"] : List Str).Nodup := by decide +kernel
  cases h with
  | mk m sp h h2 =>
  refine sb_cons (sx_new 2 nd (ds := (List.replicate m (.int 0))) (en_is (en_rep (er_n (en_lst (ea_cons ev_int ea_nil))) (ev_var 0) ⟨by omega, by omega, by exact Nat.le_of_ble_eq_true rfl⟩) (repN m _)) ?_)
  refine sb_cons (sx_for (items := sp.map dSpn) (es_tup (ev_var 1)) (gx_tup (gxs_cons 3 nd (gxs_cons 4 nd (gxs_cons 5 nd gxs_nil)))) (fun i ρ s => ∃ x3 x4 x5, ρ = [.d (.int m), .d (.tup (sp.map dSpn)), .r 0, x3, x4, x5] ∧ s = [.lst ((ticksTo m sp i).map D.int)]) ⟨_, _, _, rfl, by rw [show ticksTo m sp 0 = List.replicate m 0 from rfl, List.map_replicate]; rfl⟩ ?_ ?_)
  · rintro i d ρ s hd ⟨x3, x4, x5, rfl, rfl⟩
    obtain ⟨t, ht, rfl⟩ := map_get hd
    have hh := h2 t (List.mem_of_getElem? ht)
    have et : sp[i]! = t := by simp [ht]
    obtain ⟨j, hj⟩ : ∃ j : Nat, t.lamp = j := ⟨t.lamp.toNat, by omega⟩
    have hlen := ticksTo_len m sp i
    have hjm : j < (ticksTo m sp i).length := by omega
    have hg := get_bang hjm
    obtain ⟨tl, tlo, thi⟩ := t
    simp only at hj
    subst hj
    refine ⟨_, rfl, ?_⟩
    refine sb_last (sx_setIx (ei_var 2) (ev_var 3) (ev_sub (ev_add (ev_ix (er_ref 2) (ev_var 3) (h := (by first | assumption | rfl | exact at_ (by assumption) | exact at_n (by assumption)))) (ev_var 5)) (ev_var 4)) rfl (ixN_nat (by rw [List.length_map]; exact hjm)) ⟨_, _, _, rfl, ?_⟩)
    have e1 : ticksTo m sp (i + 1) = (ticksTo m sp i).set j ((ticksTo m sp i)[j]! + (thi - tlo)) := by
      show addAt _ sp[i]!.lamp.toNat (sp[i]!.hi - sp[i]!.lo) = _
      rw [et]
      rfl
    rw [e1, ← map_set_, Int.add_sub_assoc]
    rfl
  · rintro ρ s ⟨x3, x4, x5, rfl, rfl⟩
    rw [List.length_map]
    exact sb_last (sx_retR (er_ref 2) hp)
theorem c_buying_fault (T : Tops K mg) (FD : IsDef K mg "buying_fault" sBuyingFault)  : Calls P wd K mg base 1 "buying_fault" (PF FBuyingFault) := by
  obtain ⟨f, fd, FD, hm⟩ := FD.ex
  refine Calls.mk (N := ["day", "store", "part", "taken", "bought", "poured"]) (ps := ["day", "store", "part"]) FD ⟨rfl, rfl, rfl, by decide +kernel, rfl, by decide +kernel, by decide +kernel⟩ hm (fun _ _ _ _ _ _ us h => by match us, h with | [a0, a1, a2], _ => rfl) (fun ds Pd ⟨d, h, _⟩ => by cases h; rfl) fun cdv A outer s H E hr ds Pd ⟨d, h, hp⟩ => ?_
  have nd : (["day", "store", "part", "taken", "bought", "poured"] : List Str).Nodup := by decide +kernel
  cases h with
  | mk d store x h =>
  refine sb_cons (sx_unpack (d := .tup [.int x.taken, .int x.bought, dInts x.poured]) (ev_is (ev_slT (ev_var 2) eo_none (eo_some ev_int)) (by rfl)) (gx_tup (gxs_cons 3 nd (gxs_cons 4 nd (gxs_cons 5 nd gxs_nil)))) rfl ?_)
  refine sb_cons (sx_if (k := decide (x.taken < 0) || decide (d.boat < x.taken)) (et_w (ew_or (et_cmp co_lt (er_ (ev_var 3)) (er_ ev_int)) (fun hq => (ew_or1 (et_cmp co_gt (er_ (ev_var 3)) (er_ (ev_ix (er_ (ev_var 0)) ev_int (h := (by first | assumption | rfl | exact at_ (by assumption) | exact at_n (by assumption)))))))))) (fun hk => ?_) (fun hk => ?_))
  · rw [Bool.or_eq_true, decide_eq_true_iff, decide_eq_true_iff] at hk
    refine sb_last (sx_ret (ev_is ev_str ?_) hp)
    rw [buyF, if_pos hk]
  · rw [Bool.or_eq_false_iff, decide_eq_false_iff_not, decide_eq_false_iff_not] at hk
    refine sb_nil (sb_cons (sx_if (k := decide (x.bought < 0) || decide (d.most < x.bought)) (et_w (ew_or (et_cmp co_lt (er_ (ev_var 4)) (er_ ev_int)) (fun hq => (ew_or1 (et_cmp co_gt (er_ (ev_var 4)) (er_ (ev_ix (er_ (ev_var 0)) ev_int (h := (by first | assumption | rfl | exact at_ (by assumption) | exact at_n (by assumption)))))))))) (fun hk2 => ?_) (fun hk2 => ?_)))
    · rw [Bool.or_eq_true, decide_eq_true_iff, decide_eq_true_iff] at hk2
      refine sb_last (sx_ret (ev_is ev_str ?_) hp)
      rw [buyF, if_neg (by omega), if_pos hk2]
    · rw [Bool.or_eq_false_iff, decide_eq_false_iff_not, decide_eq_false_iff_not] at hk2
      refine sb_nil (sb_cons (sx_if (k := decide (lmin x.poured < 0) || decide (store + x.taken + x.bought < x.poured.sum)) (et_w (ew_or (et_cmp co_lt (er_ (ev_minT T (ev_var 5) (lmin_is h))) (er_ ev_int)) (fun hq => (ew_or1 (et_cmp co_gt (er_ (ev_sumT T (ev_var 5))) (er_ (ev_add (ev_add (ev_var 1) (ev_var 3)) (ev_var 4)))))))) (fun hk3 => ?_) (fun hk3 => ?_)))
      · rw [Bool.or_eq_true, decide_eq_true_iff, decide_eq_true_iff] at hk3
        refine sb_last (sx_ret (ev_is ev_str ?_) hp)
        rw [buyF, if_neg (by omega), if_neg (by omega), if_pos hk3]
      · rw [Bool.or_eq_false_iff, decide_eq_false_iff_not, decide_eq_false_iff_not] at hk3
        refine sb_nil (sb_last (sx_ret (ev_is (ev_gstr T.noFault) ?_) hp))
        rw [buyF, if_neg (by omega), if_neg (by omega), if_neg (by omega)]
end

/-! ## walk.py, the rest -/
section
variable {P : Program} {wd : World} {K : PySem.W.Frag} {mg : Str → Option Value} {base : Heap}
theorem c_burning_fault (T : Tops K mg) (FD : IsDef K mg "burning_fault" sBurningFault) (C_span_fault : Calls P wd K mg base 1 "span_fault" (PF FSpanFault)) (C_ticks_by : Calls P wd K mg base 1 "ticks_by" (PF FTicksBy)) (C_dark_fault : Calls P wd K mg base 1 "dark_fault" (PF FDarkFault)) : Calls P wd K mg base 2 "burning_fault" (PF FBurningFault) := by
  obtain ⟨f, fd, FD, hm⟩ := FD.ex
  refine Calls.mk (N := ["book", "number", "tanks", "spans", "length", "wanted", "lamps", "lamp", "span", "ticks"]) (ps := ["book", "number", "tanks", "spans"]) FD ⟨rfl, rfl, rfl, by decide +kernel, rfl, by decide +kernel, by decide +kernel⟩ hm (fun _ _ _ _ _ _ us h => by match us, h with | [a0, a1, a2, a3], _ => rfl) (fun ds Pd ⟨d, h, _⟩ => by cases h; rfl) fun cdv A outer s H E hr ds Pd ⟨d, h, hp⟩ => ?_
  have nd : (["book", "number", "tanks", "spans", "length", "wanted", "lamps", "lamp", "span", "ticks"] : List Str).Nodup := by decide +kernel
  cases h with
  | mk b j hj hl3 tanks ht sp h =>
  have hjd := get_bang hj
  refine sb_cons (sx_unpack (d := .tup [.int b.days[j]!.length, .int b.days[j]!.wanted]) (ev_is (ev_slT (ev_ix (er_ (ev_ix (er_ (ev_var 0)) ev_int (h := (by first | assumption | rfl | exact at_ (by assumption) | exact at_n (by assumption))))) (ev_var 1) (h := (at_ (f := dDy) hjd))) (eo_some ev_int) eo_none) (by rfl)) (gx_tup (gxs_cons 4 nd (gxs_cons 5 nd gxs_nil))) rfl ?_)
  refine sb_cons (sx_set (d := .int tanks.length) 6 nd (ev_is (ev_len T (er_ (ev_var 2))) (by rw [List.length_map])) ?_)
  refine sb_cut (fun ρ s => ((List.range tanks.length).any fun i => decide (b.lamps[i]!.tank < tanks[i]!)) = false ∧ ∃ y, ρ = [.d (dBk b), .d (.int j), .d (.lst (tanks.map D.int)), .d (.tup (sp.map dSpn)), .d (.int b.days[j]!.length), .d (.int b.days[j]!.wanted), .d (.int tanks.length), y, .no, .no] ∧ s = []) ?_ ?_
  · refine sx_for (items := (List.range tanks.length).map eNat) (es_rangeN T (ev_var 6) (by omega)) (gx_name 7 nd) (fun i ρ s => (∀ k, k < i → decide (b.lamps[k]!.tank < tanks[k]!) = false) ∧ ∃ y, ρ = [.d (dBk b), .d (.int j), .d (.lst (tanks.map D.int)), .d (.tup (sp.map dSpn)), .d (.int b.days[j]!.length), .d (.int b.days[j]!.wanted), .d (.int tanks.length), y, .no, .no] ∧ s = []) ⟨fun k hk => absurd hk (Nat.not_lt_zero _), _, rfl, rfl⟩ ?_ ?_
    · rintro i d ρ s hd ⟨hgood, y, rfl, rfl⟩
      obtain ⟨i', hi', rfl⟩ := map_get hd
      obtain ⟨hi, rfl⟩ := range_get hi'
      have g1 := get_bang hi
      have g2 := get_bang (xs := b.lamps) (j := i') (by omega)
      refine ⟨_, rfl, sb_last (sx_if (et_cmp co_gt (er_ (ev_ix (er_ (ev_var 2)) (ev_var 7) (h := (at_ g1)))) (er_ (ev_ix (er_ (ev_ix (er_ (ev_ix (er_ (ev_var 0)) ev_int (h := (by first | assumption | rfl | exact at_ (by assumption) | exact at_n (by assumption))))) (ev_var 7) (h := (at_ g2)))) ev_int (h := (by first | assumption | rfl | exact at_ (by assumption) | exact at_n (by assumption)))))) (fun hk => ?_) (fun hk => ?_))⟩
      · refine sb_last (sx_ret (ev_is ev_str ?_) hp)
        rw [burnF, if_pos (any_range hi hk)]
      · refine sb_nil ⟨fun k hk2 => ?_, _, rfl, rfl⟩
        by_cases hki : k < i'
        · exact hgood k hki
        · have e3 : k = i' := by omega
          subst e3
          exact hk
    · rintro ρ s ⟨hgood, y, rfl, rfl⟩
      rw [List.length_map, List.length_range] at hgood
      exact ⟨any_range_false hgood, y, rfl, rfl⟩
  · rintro ρ s ⟨c1, y, rfl, rfl⟩
    refine sb_cons (sx_if (et_of (ev_call C_span_fault (hr.mono (by decide)) (ea_cons (ev_var 4) (ea_cons (ev_var 6) (ea_cons (ev_var 3) ea_nil))) (fun _ p => ⟨_, .mk _ tanks.length sp, p⟩))) (fun hk => ?_) (fun hk => ?_))
    · refine sb_last (sx_ret (ev_is ev_str ?_) hp)
      rw [burnF, c1, hk]
      rfl
    · have hin := spanFault_in hk
      refine sb_nil (sb_cut (fun ρ s => ((List.range sp.length).any fun i => decide ((j : Int) ∈ b.lamps[sp[i]!.lamp.toNat]!.away)) = false ∧ ∃ y z, ρ = [.d (dBk b), .d (.int j), .d (.lst (tanks.map D.int)), .d (.tup (sp.map dSpn)), .d (.int b.days[j]!.length), .d (.int b.days[j]!.wanted), .d (.int tanks.length), y, z, .no] ∧ s = []) ?_ ?_)
      · refine sx_for (items := sp.map dSpn) (es_tup (ev_var 3)) (gx_name 8 nd) (fun i ρ s => (∀ k, k < i → decide ((j : Int) ∈ b.lamps[sp[k]!.lamp.toNat]!.away) = false) ∧ ∃ y z, ρ = [.d (dBk b), .d (.int j), .d (.lst (tanks.map D.int)), .d (.tup (sp.map dSpn)), .d (.int b.days[j]!.length), .d (.int b.days[j]!.wanted), .d (.int tanks.length), y, z, .no] ∧ s = []) ⟨fun k hk => absurd hk (Nat.not_lt_zero _), _, _, rfl, rfl⟩ ?_ ?_
        · rintro i d ρ s hd ⟨hgood, y, z, rfl, rfl⟩
          obtain ⟨x, hx, rfl⟩ := map_get hd
          have hi : i < sp.length := (List.getElem?_eq_some_iff.mp hx).1
          have ex : sp[i]! = x := by simp [hx]
          have hxin := hin x (List.mem_of_getElem? hx)
          obtain ⟨q, hq⟩ : ∃ q : Nat, x.lamp = q := ⟨x.lamp.toNat, by omega⟩
          have g2 := get_bang (xs := b.lamps) (j := q) (by omega)
          have ha : atI (b.lamps.map dLmp) x.lamp = some (dLmp b.lamps[q]!) := by rw [hq]; exact at_ g2
          refine ⟨_, rfl, sb_last (sx_if (k := decide ((j : Int) ∈ b.lamps[q]!.away)) (et_cmp co_in (er_ (ev_var 1)) (er_ (ev_ix (er_ (ev_ix (er_ (ev_ix (er_ (ev_var 0)) ev_int (h := (by first | assumption | rfl | exact at_ (by assumption) | exact at_n (by assumption))))) (ev_ix (er_ (ev_var 8)) ev_int (h := (by first | assumption | rfl | exact at_ (by assumption) | exact at_n (by assumption)))) (h := ha))) ev_int (h := (by first | assumption | rfl | exact at_ (by assumption) | exact at_n (by assumption)))))) (fun hk5 => ?_) (fun hk5 => ?_))⟩
          · refine sb_last (sx_ret (ev_is ev_str ?_) hp)
            have e3 : ((List.range sp.length).any fun i => decide ((j : Int) ∈ b.lamps[sp[i]!.lamp.toNat]!.away)) = true := any_range hi (by rw [ex, hq]; exact hk5)
            rw [burnF, c1, hk, e3]
            rfl
          · refine sb_nil ⟨fun k hk2 => ?_, _, _, rfl, rfl⟩
            by_cases hki : k < i
            · exact hgood k hki
            · have e3 : k = i := by omega
              subst e3
              rw [ex, hq]
              exact hk5
        · rintro ρ s ⟨hgood, y, z, rfl, rfl⟩
          rw [List.length_map] at hgood
          exact ⟨any_range_false hgood, y, z, rfl, rfl⟩
      · rintro ρ s ⟨c3, y, z, rfl, rfl⟩
        refine sb_cons (sx_set 9 nd (ev_call C_ticks_by (hr.mono (by decide)) (ea_cons (ev_var 6) (ea_cons (ev_var 3) ea_nil)) (fun _ p => ⟨_, .mk tanks.length sp (by omega) (fun x hx => by have := hin x hx; omega), p⟩)) ?_)
        refine sb_cut (fun ρ s => ((List.range tanks.length).any fun i => decide (tanks[i]! < (ticksF tanks.length sp)[i]!)) = false ∧ ∃ y z u, ρ = [.d (dBk b), .d (.int j), .d (.lst (tanks.map D.int)), .d (.tup (sp.map dSpn)), .d (.int b.days[j]!.length), .d (.int b.days[j]!.wanted), .d (.int tanks.length), y, z, u] ∧ s = []) ?_ ?_
        · refine sx_for (items := (List.range tanks.length).map eNat) (es_rangeN T (ev_var 6) (by omega)) (gx_name 7 nd) (fun i ρ s => (∀ k, k < i → decide (tanks[k]! < (ticksF tanks.length sp)[k]!) = false) ∧ ∃ y z, ρ = [.d (dBk b), .d (.int j), .d (.lst (tanks.map D.int)), .d (.tup (sp.map dSpn)), .d (.int b.days[j]!.length), .d (.int b.days[j]!.wanted), .d (.int tanks.length), y, z, .d (.lst ((ticksF tanks.length sp).map D.int))] ∧ s = []) ⟨fun k hk => absurd hk (Nat.not_lt_zero _), _, _, rfl, rfl⟩ ?_ ?_
          · rintro i d ρ s hd ⟨hgood, y, z, rfl, rfl⟩
            obtain ⟨i', hi', rfl⟩ := map_get hd
            obtain ⟨hi, rfl⟩ := range_get hi'
            have g1 := get_bang hi
            have g2 := get_bang (xs := ticksF tanks.length sp) (j := i') (by unfold ticksF; rw [ticksTo_len]; exact hi)
            refine ⟨_, rfl, sb_last (sx_if (et_cmp co_gt (er_ (ev_ix (er_ (ev_var 9)) (ev_var 7) (h := (at_ g2)))) (er_ (ev_ix (er_ (ev_var 2)) (ev_var 7) (h := (at_ g1))))) (fun hk2 => ?_) (fun hk2 => ?_))⟩
            · refine sb_last (sx_ret (ev_is ev_str ?_) hp)
              have e3 : ((List.range tanks.length).any fun i => decide (tanks[i]! < (ticksF tanks.length sp)[i]!)) = true := any_range hi hk2
              rw [burnF, c1, hk, c3, e3]
              rfl
            · refine sb_nil ⟨fun k hk3 => ?_, _, _, rfl, rfl⟩
              by_cases hki : k < i'
              · exact hgood k hki
              · have e3 : k = i' := by omega
                subst e3
                exact hk2
          · rintro ρ s ⟨hgood, y, z, rfl, rfl⟩
            rw [List.length_map, List.length_range] at hgood
            exact ⟨any_range_false hgood, y, z, _, rfl, rfl⟩
        · rintro ρ s ⟨c4, y, z, u, rfl, rfl⟩
          refine sb_cons (sx_if (et_of (ev_call C_dark_fault (hr.mono (by decide)) (ea_cons (ev_var 4) (ea_cons (ev_var 5) (ea_cons (ev_var 3) ea_nil))) (fun _ p => ⟨_, .mk _ _ sp h, p⟩))) (fun hk2 => ?_) (fun hk2 => ?_))
          · refine sb_last (sx_ret (ev_is ev_str ?_) hp)
            rw [burnF, c1, hk, c3, c4, hk2]
            rfl
          · refine sb_nil (sb_last (sx_ret (ev_is (ev_gstr T.noFault) ?_) hp))
            rw [burnF, c1, hk, c3, c4, hk2]
            rfl
theorem c_begun (T : Tops K mg) (FD : IsDef K mg "begun" sBegun)  : Calls P wd K mg base 1 "begun" (PF FBegun) := by
  obtain ⟨f, fd, FD, hm⟩ := FD.ex
  refine Calls.mk (N := ["book", "lamp"]) (ps := ["book"]) FD ⟨rfl, rfl, rfl, by decide +kernel, rfl, by decide +kernel, by decide +kernel⟩ hm (fun _ _ _ _ _ _ us h => by match us, h with | [a0], _ => rfl) (fun ds Pd ⟨d, h, _⟩ => by cases h; rfl) fun cdv A outer s H E hr ds Pd ⟨d, h, hp⟩ => ?_
  have nd : (["book", "lamp"] : List Str).Nodup := by decide +kernel
  cases h with
  | mk b hl3 =>
  refine sb_last (sx_ret (ev_is (ev_tup (ea_cons (ev_ix (er_ (ev_var 0)) ev_int (h := (by first | assumption | rfl | exact at_ (by assumption) | exact at_n (by assumption)))) (ea_cons (ev_n (en_lc nd (lc_all (enc := dLmp) (f := fun l => D.int l.oil) (xs := b.lamps) 1 nd (es_tup (ev_ix (er_ (ev_var 0)) ev_int (h := (by first | assumption | rfl | exact at_ (by assumption) | exact at_n (by assumption))))) (blkOk_by (own := [("lamp", 1)]) (N := ["book", "lamp"]) (sc := defScope sBegun) (by decide +kernel)) rfl (by first | exact Or.inl rfl | exact Or.inr rfl) (by first | exact Or.inl rfl | exact Or.inr rfl) (fun _ _ _ _ _ l hl => (ev_ix (er_ (ev_var 1)) ev_int (h := (by first | assumption | rfl | exact at_ (by assumption) | exact at_n (by assumption))))) (by omega)))) ea_nil))) ?_) hp)
  rw [map_ints]
  rfl
theorem c_poured_in (T : Tops K mg) (FD : IsDef K mg "poured_in" sPouredIn)  : Calls P wd K mg base 1 "poured_in" (PF FPouredIn) := by
  obtain ⟨f, fd, FD, hm⟩ := FD.ex
  refine Calls.mk (N := ["state", "part", "lamp"]) (ps := ["state", "part"]) FD ⟨rfl, rfl, rfl, by decide +kernel, rfl, by decide +kernel, by decide +kernel⟩ hm (fun _ _ _ _ _ _ us h => by match us, h with | [a0, a1], _ => rfl) (fun ds Pd ⟨d, h, _⟩ => by cases h; rfl) fun cdv A outer s H E hr ds Pd ⟨d, h, hp⟩ => ?_
  have nd : (["state", "part", "lamp"] : List Str).Nodup := by decide +kernel
  cases h with
  | mk store tanks x ht h =>
  refine sb_last (sx_ret (ev_is (ev_n (en_lc nd (lc_all (enc := eNat) (f := fun i => D.int (tanks[i]! + x.poured[i]!)) (xs := List.range tanks.length) 2 nd (es_rangeN T (ev_is (ev_len T (er_ (ev_ix (er_ (ev_var 0)) ev_int (h := (by first | assumption | rfl | exact at_ (by assumption) | exact at_n (by assumption)))))) (by rw [List.length_map])) (by omega)) (blkOk_by (own := [("lamp", 2)]) (N := ["state", "part", "lamp"]) (sc := defScope sPouredIn) (by decide +kernel)) rfl (by first | exact Or.inl rfl | exact Or.inr rfl) (by first | exact Or.inl rfl | exact Or.inr rfl) (fun _ _ _ _ _ i hi => ?_) (by simp; omega)))) ?_) hp)
  · have hi2 : i < tanks.length := List.mem_range.mp hi
    have g1 := get_bang hi2
    have g2 := get_bang (xs := x.poured) (j := i) (by omega)
    exact (ev_add (ev_ix (er_ (ev_ix (er_ (ev_var 0)) ev_int (h := (by first | assumption | rfl | exact at_ (by assumption) | exact at_n (by assumption))))) (ev_var 2) (h := (at_ g1))) (ev_ix (er_ (ev_ix (er_ (ev_var 1)) ev_int (h := (by first | assumption | rfl | exact at_ (by assumption) | exact at_n (by assumption))))) (ev_var 2) (h := (at_ g2))))
  · rw [map_ints (fun i => tanks[i]! + x.poured[i]!)]
    rfl
theorem poured_len (tanks : List Int) (x : Part) : (pouredIn tanks x).length = tanks.length := by unfold pouredIn; rw [List.length_map, List.length_range]
theorem c_day_fault (T : Tops K mg) (FD : IsDef K mg "day_fault" sDayFault) (C_buying_fault : Calls P wd K mg base 1 "buying_fault" (PF FBuyingFault)) (C_burning_fault : Calls P wd K mg base 2 "burning_fault" (PF FBurningFault)) (C_poured_in : Calls P wd K mg base 1 "poured_in" (PF FPouredIn)) : Calls P wd K mg base 3 "day_fault" (PF FDayFault) := by
  obtain ⟨f, fd, FD, hm⟩ := FD.ex
  refine Calls.mk (N := ["book", "number", "state", "part", "word"]) (ps := ["book", "number", "state", "part"]) FD ⟨rfl, rfl, rfl, by decide +kernel, rfl, by decide +kernel, by decide +kernel⟩ hm (fun _ _ _ _ _ _ us h => by match us, h with | [a0, a1, a2, a3], _ => rfl) (fun ds Pd ⟨d, h, _⟩ => by cases h; rfl) fun cdv A outer s H E hr ds Pd ⟨d, h, hp⟩ => ?_
  have nd : (["book", "number", "state", "part", "word"] : List Str).Nodup := by decide +kernel
  cases h with
  | mk b j hj hl3 hl1 store tanks ht x hx h =>
  have hjd := get_bang hj
  refine sb_cons (sx_set 4 nd (ev_call C_buying_fault (hr.mono (by decide)) (ea_cons (ev_ix (er_ (ev_ix (er_ (ev_var 0)) ev_int (h := (by first | assumption | rfl | exact at_ (by assumption) | exact at_n (by assumption))))) (ev_var 1) (h := (at_ hjd))) (ea_cons (ev_ix (er_ (ev_var 2)) ev_int (h := (by first | assumption | rfl | exact at_ (by assumption) | exact at_n (by assumption)))) (ea_cons (ev_var 3) ea_nil))) (fun _ p => ⟨_, .mk b.days[j]! store x (fun z => by rw [z] at hx; simp at hx; omega), p⟩)) ?_)
  refine sb_cons (sx_if (k := !decide (buyF b.days[j]! store x = "")) (et_cmp co_neS (er_ (ev_var 4)) (er_ (ev_gstr T.noFault))) (fun hk => ?_) (fun hk => ?_))
  · have hk' : ¬ buyF b.days[j]! store x = "" := by simpa using hk
    refine sb_last (sx_ret (ev_is (ev_var 4) ?_) hp)
    rw [dayF, if_neg hk']
  · have hk' : buyF b.days[j]! store x = "" := by simpa using hk
    refine sb_nil (sb_last (sx_ret (ev_is (ev_call C_burning_fault (hr.mono (by decide)) (ea_cons (ev_var 0) (ea_cons (ev_var 1) (ea_cons (ev_call C_poured_in (hr.mono (by decide)) (ea_cons (ev_var 2) (ea_cons (ev_var 3) ea_nil)) (fun _ p => ⟨_, .mk store tanks x (by omega) (by omega), p⟩)) (ea_cons (ev_ix (er_ (ev_var 3)) ev_int (h := (by first | assumption | rfl | exact at_ (by assumption) | exact at_n (by assumption)))) ea_nil)))) (fun _ p => ⟨_, .mk b j hj hl3 _ (by rw [poured_len]; exact ht) _ h, p⟩)) ?_) hp))
    rw [dayF, if_pos hk']
theorem c_day_gone (T : Tops K mg) (FD : IsDef K mg "day_gone" sDayGone) (C_poured_in : Calls P wd K mg base 1 "poured_in" (PF FPouredIn)) (C_ticks_by : Calls P wd K mg base 1 "ticks_by" (PF FTicksBy)) : Calls P wd K mg base 2 "day_gone" (PF FDayGone) := by
  obtain ⟨f, fd, FD, hm⟩ := FD.ex
  refine Calls.mk (N := ["book", "state", "part", "left", "tanks", "ticks", "lamp"]) (ps := ["book", "state", "part"]) FD ⟨rfl, rfl, rfl, by decide +kernel, rfl, by decide +kernel, by decide +kernel⟩ hm (fun _ _ _ _ _ _ us h => by match us, h with | [a0, a1, a2], _ => rfl) (fun ds Pd ⟨d, h, _⟩ => by cases h; rfl) fun cdv A outer s H E hr ds Pd ⟨d, h, hp⟩ => ?_
  have nd : (["book", "state", "part", "left", "tanks", "ticks", "lamp"] : List Str).Nodup := by decide +kernel
  cases h with
  | mk b store tanks x ht hx hs =>
  refine sb_cons (sx_set 3 nd (ev_sub (ev_add (ev_add (ev_ix (er_ (ev_var 1)) ev_int (h := (by first | assumption | rfl | exact at_ (by assumption) | exact at_n (by assumption)))) (ev_ix (er_ (ev_var 2)) ev_int (h := (by first | assumption | rfl | exact at_ (by assumption) | exact at_n (by assumption))))) (ev_ix (er_ (ev_var 2)) ev_int (h := (by first | assumption | rfl | exact at_ (by assumption) | exact at_n (by assumption))))) (ev_sumT T (ev_ix (er_ (ev_var 2)) ev_int (h := (by first | assumption | rfl | exact at_ (by assumption) | exact at_n (by assumption)))))) ?_)
  refine sb_cons (sx_set 4 nd (ev_call C_poured_in (hr.mono (by decide)) (ea_cons (ev_var 1) (ea_cons (ev_var 2) ea_nil)) (fun _ p => ⟨_, .mk store tanks x ht hx, p⟩)) ?_)
  have hm2 : ((pouredIn tanks x).map D.int).length = tanks.length := by rw [List.length_map, poured_len]
  refine sb_cons (sx_set 5 nd (ev_call C_ticks_by (hr.mono (by decide)) (ea_cons (ev_is (ev_len T (er_ (ev_var 4))) (by rw [hm2])) (ea_cons (ev_ix (er_ (ev_var 2)) ev_int (h := (by first | assumption | rfl | exact at_ (by assumption) | exact at_n (by assumption)))) ea_nil)) (fun _ p => ⟨_, .mk tanks.length _ ht hs, p⟩)) ?_)
  refine sb_last (sx_ret (ev_is (ev_tup (ea_cons (ev_min2 T (ev_var 3) (ev_ix (er_ (ev_var 0)) ev_int (h := (by first | assumption | rfl | exact at_ (by assumption) | exact at_n (by assumption))))) (ea_cons (ev_n (en_lc nd (lc_all (enc := eNat) (f := fun i => D.int ((pouredIn tanks x)[i]! - (ticksF tanks.length x.spans)[i]!)) (xs := List.range tanks.length) 6 nd (es_rangeN T (ev_is (ev_len T (er_ (ev_var 4))) (by rw [hm2])) (by omega)) (blkOk_by (own := [("lamp", 6)]) (N := ["book", "state", "part", "left", "tanks", "ticks", "lamp"]) (sc := defScope sDayGone) (by decide +kernel)) rfl (by first | exact Or.inl rfl | exact Or.inr rfl) (by first | exact Or.inl rfl | exact Or.inr rfl) (fun _ _ _ _ _ i hi => ?_) (by simp; omega)))) ea_nil))) ?_) hp)
  · have hi2 : i < tanks.length := List.mem_range.mp hi
    have g1 := get_bang (xs := pouredIn tanks x) (j := i) (by rw [poured_len]; exact hi2)
    have g2 := get_bang (xs := ticksF tanks.length x.spans) (j := i) (by unfold ticksF; rw [ticksTo_len]; exact hi2)
    exact (ev_sub (ev_ix (er_ (ev_var 4)) (ev_var 6) (h := (at_ g1))) (ev_ix (er_ (ev_var 5)) (ev_var 6) (h := (at_ g2))))
  · rw [map_ints (fun i => (pouredIn tanks x)[i]! - (ticksF tanks.length x.spans)[i]!)]
    rfl
theorem dayF_in {b : Bk} {j : Nat} {store : Int} {tanks : List Int} {x : Part} (h : dayF b j store tanks x = "") : ∀ y ∈ x.spans, 0 ≤ y.lamp ∧ y.lamp < tanks.length := by
  unfold dayF at h
  split at h
  · unfold burnF at h
    split at h
    · exact absurd h (by decide)
    · split at h
      · exact absurd h (by decide)
      · rename_i _ hs
        intro y hy
        have := spanFault_in (by simpa using hs) y hy
        rw [poured_len] at this
        omega
  · rename_i h2
    exact absurd h h2
theorem c_fault (T : Tops K mg) (FD : IsDef K mg "fault" sFault) (C_begun : Calls P wd K mg base 1 "begun" (PF FBegun)) (C_day_fault : Calls P wd K mg base 3 "day_fault" (PF FDayFault)) (C_day_gone : Calls P wd K mg base 2 "day_gone" (PF FDayGone)) : Calls P wd K mg base 4 "fault" (PF FFault) := by
  obtain ⟨f, fd, FD, hm⟩ := FD.ex
  refine Calls.mk (N := ["book", "rota", "state", "number", "word"]) (ps := ["book", "rota"]) FD ⟨rfl, rfl, rfl, by decide +kernel, rfl, by decide +kernel, by decide +kernel⟩ hm (fun _ _ _ _ _ _ us h => by match us, h with | [a0, a1], _ => rfl) (fun ds Pd ⟨d, h, _⟩ => by cases h; rfl) fun cdv A outer s H E hr ds Pd ⟨d, h, hp⟩ => ?_
  have nd : (["book", "rota", "state", "number", "word"] : List Str).Nodup := by decide +kernel
  cases h with
  | mk b hd hl3 hl1 x hx h =>
  refine sb_cons (sx_set 2 nd (ev_call C_begun (hr.mono (by decide)) (ea_cons (ev_var 0) ea_nil) (fun _ p => ⟨_, .mk b hl3, p⟩)) ?_)
  have h1 : ([dPart x] : List D)[0]? = some (dPart x) := rfl
  refine sb_cons (sx_for (items := (List.range 1).map eNat) (es_rangeN T (ev_is (ev_len T (er_ (ev_var 1))) (by rfl)) (by decide)) (gx_name 3 nd) (fun i ρ s => (i = 0 ∧ ρ = [.d (dBk b), .d (.tup [dPart x]), .d (dState b.oil (b.lamps.map (·.oil))), .no, .no] ∧ s = []) ∨ (i = 1 ∧ oneF b x = "" ∧ s = [])) (.inl ⟨rfl, rfl, rfl⟩) ?_ ?_)
  · rintro i d ρ s hd (⟨rfl, rfl, rfl⟩ | ⟨rfl, _, rfl⟩)
    · cases hd
      refine ⟨_, rfl, ?_⟩
      refine sb_cons (sx_set 4 nd (ev_call C_day_fault (hr.mono (by decide)) (ea_cons (ev_var 0) (ea_cons (ev_var 3) (ea_cons (ev_var 2) (ea_cons (ev_ix (er_ (ev_var 1)) (ev_var 3) (h := (at_n h1))) ea_nil)))) (fun _ p => ⟨_, .mk b 0 hd hl3 hl1 _ (b.lamps.map (·.oil)) (by rw [List.length_map]) x hx h, p⟩)) ?_)
      refine sb_cons (sx_if (k := !decide (oneF b x = "")) (et_cmp co_neS (er_ (ev_var 4)) (er_ (ev_gstr T.noFault))) (fun hk => ?_) (fun hk => ?_))
      · have hk' : ¬ oneF b x = "" := by simpa using hk
        rw [if_neg hk'] at hp
        exact sb_last (sx_ret (ev_tup (ea_cons (ev_var 3) (ea_cons (ev_var 4) ea_nil))) hp)
      · have hk' : oneF b x = "" := by simpa using hk
        have hin := dayF_in (show dayF b 0 b.oil (b.lamps.map (·.oil)) x = "" from hk')
        refine sb_nil (sb_last (sx_set 2 nd (ev_call C_day_gone (hr.mono (by decide)) (ea_cons (ev_var 0) (ea_cons (ev_var 2) (ea_cons (ev_ix (er_ (ev_var 1)) (ev_var 3) (h := (at_n h1))) ea_nil))) (fun _ p => ⟨_, .mk b _ (b.lamps.map (·.oil)) x (by rw [List.length_map]; exact hl3) (by rw [List.length_map]; exact hx) hin, p⟩)) (.inr ⟨rfl, hk', rfl⟩)))
    · cases hd
  · rintro ρ s (⟨h, rfl, rfl⟩ | ⟨_, h, rfl⟩)
    · cases h
    · rw [if_pos h] at hp
      exact sb_last (sx_ret ev_non hp)
theorem c_evenings (T : Tops K mg) (FD : IsDef K mg "evenings" sEvenings) (C_begun : Calls P wd K mg base 1 "begun" (PF FBegun)) (C_day_gone : Calls P wd K mg base 2 "day_gone" (PF FDayGone)) : Calls P wd K mg base 3 "evenings" (PF FEvenings) := by
  obtain ⟨f, fd, FD, hm⟩ := FD.ex
  refine Calls.mk (N := ["book", "rota", "state", "found", "part"]) (ps := ["book", "rota"]) FD ⟨rfl, rfl, rfl, by decide +kernel, rfl, by decide +kernel, by decide +kernel⟩ hm (fun _ _ _ _ _ _ us h => by match us, h with | [a0, a1], _ => rfl) (fun ds Pd ⟨d, h, _⟩ => by cases h; rfl) fun cdv A outer s H E hr ds Pd ⟨d, h, hp⟩ => ?_
  have nd : (["book", "rota", "state", "found", "part"] : List Str).Nodup := by decide +kernel
  cases h with
  | mk b hl3 x hx hs =>
  refine sb_cons (sx_set 2 nd (ev_call C_begun (hr.mono (by decide)) (ea_cons (ev_var 0) ea_nil) (fun _ p => ⟨_, .mk b hl3, p⟩)) ?_)
  refine sb_cons (sx_new 3 nd (en_lst ea_nil) ?_)
  refine sb_cons (sx_for (items := [dPart x]) (es_tup (ev_var 1)) (gx_name 4 nd) (fun i ρ s => (i = 0 ∧ ρ = [.d (dBk b), .d (.tup [dPart x]), .d (dState b.oil (b.lamps.map (·.oil))), .r 0, .no] ∧ s = [.lst []]) ∨ (i = 1 ∧ ρ = [.d (dBk b), .d (.tup [dPart x]), .d (dState (goneStore b b.oil x) (goneTanks (b.lamps.map (·.oil)) x)), .r 0, .d (dPart x)] ∧ s = [.lst [.tup [.int (goneStore b b.oil x), dInts (goneTanks (b.lamps.map (·.oil)) x)]]])) (.inl ⟨rfl, rfl, rfl⟩) ?_ ?_)
  · rintro i d ρ s hd (⟨rfl, rfl, rfl⟩ | ⟨rfl, rfl, rfl⟩)
    · cases hd
      refine ⟨_, rfl, ?_⟩
      refine sb_cons (sx_set 2 nd (ev_call C_day_gone (hr.mono (by decide)) (ea_cons (ev_var 0) (ea_cons (ev_var 2) (ea_cons (ev_var 4) ea_nil))) (fun _ p => ⟨_, .mk b _ (b.lamps.map (·.oil)) x (by rw [List.length_map]; exact hl3) (by rw [List.length_map]; exact hx) (by rw [List.length_map]; exact hs), p⟩)) ?_)
      exact sb_last (sx_append (ei_var 3) (ev_tup (ea_cons (ev_ix (er_ (ev_var 2)) ev_int (h := (by first | assumption | rfl | exact at_ (by assumption) | exact at_n (by assumption)))) (ea_cons (ev_tupleOf T (er_ (ev_ix (er_ (ev_var 2)) ev_int (h := (by first | assumption | rfl | exact at_ (by assumption) | exact at_n (by assumption)))))) ea_nil))) rfl (Nat.zero_le _) (.inr ⟨rfl, rfl, rfl⟩))
    · cases hd
  · rintro ρ s (⟨h, rfl, rfl⟩ | ⟨h, rfl, rfl⟩)
    · cases h
    · exact sb_last (sx_retR (er_ref 3) hp)
end

/-! ## the web of a book -/
theorem mem_lampTies {b : Bk} {i j : Nat} {t : Tie} (h : t ∈ b.lampTies i j) : t = ⟨b.sN j, b.tN i j, b.need, 0⟩ ∨ t = ⟨b.tN i j, b.fN i j, b.lamps[i]!.tank, 0⟩ ∨ t = ⟨b.fN i j, b.nN j, b.lamps[i]!.burns j b.days[j]!, 0⟩ ∨ (j + 1 < b.days.length ∧ t = ⟨b.fN i j, b.tN i (j + 1), b.need, 0⟩) := by
  unfold Bk.lampTies at h
  split at h
  · rename_i hj
    simp only [List.mem_append, List.mem_cons, List.not_mem_nil, or_false] at h
    rcases h with (h | h | h) | h
    · exact .inl h
    · exact .inr (.inl h)
    · exact .inr (.inr (.inl h))
    · exact .inr (.inr (.inr ⟨hj, h⟩))
  · simp only [List.append_nil, List.mem_cons, List.not_mem_nil, or_false] at h
    rcases h with h | h | h
    · exact .inl h
    · exact .inr (.inl h)
    · exact .inr (.inr (.inl h))
theorem mem_dayTies0 {b : Bk} {j : Nat} {t : Tie} (h : t ∈ b.dayTies0 j) : t = ⟨0, b.sN j, b.days[j]!.boat, 0⟩ ∨ t = ⟨0, b.sN j, b.days[j]!.most, b.days[j]!.price⟩ ∨ t = ⟨b.nN j, 1, b.days[j]!.length * b.days[j]!.wanted, 0⟩ ∨ (j + 1 < b.days.length ∧ t = ⟨b.sN j, b.sN (j + 1), b.store, 0⟩) := by
  unfold Bk.dayTies0 at h
  split at h
  · rename_i hj
    simp only [List.mem_append, List.mem_cons, List.not_mem_nil, or_false] at h
    rcases h with (h | h | h) | h
    · exact .inl h
    · exact .inr (.inl h)
    · exact .inr (.inr (.inl h))
    · exact .inr (.inr (.inr ⟨hj, h⟩))
  · simp only [List.append_nil, List.mem_cons, List.not_mem_nil, or_false] at h
    rcases h with h | h | h
    · exact .inl h
    · exact .inr (.inl h)
    · exact .inr (.inr (.inl h))
theorem mem_tieL {b : Bk} {t : Tie} (h : t ∈ b.tieL) : t = ⟨0, b.sN 0, b.oil, 0⟩ ∨ (∃ i, i < b.lamps.length ∧ t = ⟨0, b.tN i 0, b.lamps[i]!.oil, 0⟩) ∨ (∃ j, j < b.days.length ∧ t ∈ b.dayTies0 j) ∨ (∃ i j, i < b.lamps.length ∧ j < b.days.length ∧ t ∈ b.lampTies i j) := by
  unfold Bk.tieL Bk.ties0 at h
  rcases List.mem_append.mp h with h | h
  · rcases List.mem_cons.mp h with h | h
    · exact .inl h
    · obtain ⟨i, hi, e⟩ := List.mem_map.mp h
      exact .inr (.inl ⟨i, List.mem_range.mp hi, e.symm⟩)
  · obtain ⟨j, hj, h⟩ := List.mem_flatMap.mp h
    have hj' := List.mem_range.mp hj
    unfold Bk.dayTies at h
    rcases List.mem_append.mp h with h | h
    · exact .inr (.inr (.inl ⟨j, hj', h⟩))
    · obtain ⟨i, hi, h⟩ := List.mem_flatMap.mp h
      exact .inr (.inr (.inr ⟨i, j, List.mem_range.mp hi, hj', h⟩))
theorem mem_web {b : Bk} {t : Tie} (h : t ∈ b.web.ties) : t ∈ b.tieL := (List.mergeSort_perm _ _).mem_iff.mp h
theorem sN_succ (b : Bk) (j : Nat) : b.sN (j + 1) = b.sN j + (2 * b.lamps.length + 2) := by
  unfold Bk.sN
  rw [Nat.succ_mul]
  omega
theorem sN_le (b : Bk) {j k : Nat} (h : j ≤ k) : b.sN j ≤ b.sN k := by
  unfold Bk.sN
  have := Nat.mul_le_mul_right (2 * b.lamps.length + 2) h
  omega
theorem need_nn {b : Bk} (o : b.Ok) : 0 ≤ b.need := by
  unfold Bk.need
  have : ∀ ds : List Dy, (∀ d ∈ ds, d ∈ b.days) → 0 ≤ (ds.map fun d => d.length * d.wanted).sum := by
    intro ds
    induction ds with
    | nil => intro _; exact Int.le_refl _
    | cons d ds ih =>
      intro h
      have h1 := o.day d (h d List.mem_cons_self)
      have h2 := ih fun x hx => h x (List.mem_cons_of_mem _ hx)
      rw [List.map_cons, List.sum_cons]
      have := Int.mul_nonneg (show 0 ≤ d.length by omega) h1.2.2.2.1
      omega
  exact this b.days fun d h => h
theorem web_nn {b : Bk} (o : b.Ok) : ∀ t ∈ b.web.ties, 0 ≤ t.most := fun t ht => by
  have hn := need_nn o
  rcases mem_tieL (mem_web ht) with rfl | ⟨i, hi, rfl⟩ | ⟨j, hj, h⟩ | ⟨i, j, hi, hj, h⟩
  · exact o.st.2
  · exact (o.lamp _ (List.mem_of_getElem? (get_bang hi))).1
  · have hd := o.day _ (List.mem_of_getElem? (get_bang hj))
    rcases mem_dayTies0 h with rfl | rfl | rfl | ⟨_, rfl⟩
    · exact hd.1
    · exact hd.2.1
    · exact Int.mul_nonneg (by omega) hd.2.2.2.1
    · exact o.st.1
  · have hl := o.lamp _ (List.mem_of_getElem? (get_bang hi))
    have hd := o.day _ (List.mem_of_getElem? (get_bang hj))
    rcases mem_lampTies h with rfl | rfl | rfl | ⟨_, rfl⟩
    · exact hn
    · show 0 ≤ b.lamps[i]!.tank; omega
    · show 0 ≤ b.lamps[i]!.burns j b.days[j]!
      unfold Lmp.burns
      split <;> omega
    · exact hn
theorem web_len {b : Bk} (o : b.Ok) : b.web.ties.length ≤ 1000 := by
  show (b.tieL.mergeSort tieLe).length ≤ 1000
  rw [List.length_mergeSort]
  unfold Bk.tieL
  rw [List.length_append]
  have h1 : b.ties0.length = 1 + b.lamps.length := by simp [Bk.ties0, Nat.add_comm]
  have h2 := flat_len (fun j => b.dayTies j) 16 (fun j => dayTies_len o j) b.days.length
  have := o.l3
  have := o.d4
  omega
theorem web_n {b : Bk} (o : b.Ok) : b.web.n < 64 := by
  show b.sN b.days.length < 64
  have h1 := sN_le b o.d4
  have h2 : b.sN 4 = 2 + 4 * (2 * b.lamps.length + 2) := rfl
  have := o.l3
  omega
theorem web_ok {b : Bk} (o : b.Ok) : b.web.Ok where
  n := by have := web_n o; omega
  m := web_len o
  t := fun t ht => by
    have hs0 : b.sN 0 = 2 := by simp [Bk.sN]
    have hN : b.web.n = b.sN b.days.length := rfl
    have l1 := o.l1
    have d1 := o.d1
    rw [hN]
    have h1 := sN_le b d1
    have hs1 : b.sN 1 = b.sN 0 + (2 * b.lamps.length + 2) := sN_succ b 0
    rcases mem_tieL (mem_web ht) with rfl | ⟨i, hi, rfl⟩ | ⟨j, hj, h⟩ | ⟨i, j, hi, hj, h⟩
    · simp only; omega
    · simp only [Bk.tN]; omega
    · have h2 := sN_le b (show j + 1 ≤ b.days.length by omega)
      have h3 := sN_succ b j
      have h4 := sN_le b (Nat.zero_le j)
      rcases mem_dayTies0 h with rfl | rfl | rfl | ⟨hj2, rfl⟩
      · simp only; omega
      · simp only; omega
      · simp only [Bk.nN]; omega
      · have h5 := sN_le b (show j + 1 + 1 ≤ b.days.length by omega)
        have h6 := sN_succ b (j + 1)
        simp only
        omega
    · have h2 := sN_le b (show j + 1 ≤ b.days.length by omega)
      have h3 := sN_succ b j
      have h4 := sN_le b (Nat.zero_le j)
      rcases mem_lampTies h with rfl | rfl | rfl | ⟨hj2, rfl⟩
      · simp only [Bk.tN]; omega
      · simp only [Bk.tN, Bk.fN]; omega
      · simp only [Bk.nN, Bk.fN]; omega
      · have h5 := sN_le b (show j + 1 + 1 ≤ b.days.length by omega)
        have h6 := sN_succ b (j + 1)
        simp only [Bk.tN, Bk.fN]
        omega
def Bk.seaF (b : Bk) (fl : List Int) (j : Nat) : Int := (lkG (b.flows fl) [0, (b.sN j : Int)]).getD 0
def Bk.pourF (b : Bk) (fl : List Int) (i j : Nat) : Int := (lkG (b.flows fl) [(b.sN j : Int), (b.tN i j : Int)]).getD 0
def Bk.burnF (b : Bk) (fl : List Int) (i j : Nat) : Int := (lkG (b.flows fl) [(b.fN i j : Int), (b.nN j : Int)]).getD 0
/-- the flow that told finds -/
def Bk.best (b : Bk) : List Int := (mostF b.web 0 1).1
def Bk.FlOk (b : Bk) : Prop := (mostF b.web 0 1).2 = b.need → FlG b (b.flows b.best) (b.seaF b.best) (b.pourF b.best) (b.burnF b.best)
/-! ## telling.py -/
def Bk.rota (b : Bk) : List Part := rotaBy b (b.seaF b.best) (b.pourF b.best) (b.burnF b.best)
def toldD (b : Bk) : D := if (mostF b.web 0 1).2 = b.need then .tup [.str "rota", .tup (b.rota.map dPart)] else .tup [.str "none", dInts (sortI (((come b.web b.best 0).map fun q => ((q.1 : Int), dPar q.2)).map (·.1)))]
inductive FTold : List D → D → Prop where
  | mk (b : Bk) (o : b.Ok) (g : b.FlOk) : FTold [dBk b] (toldD b)
section
variable {P : Program} {wd : World} {K : PySem.W.Frag} {mg : Str → Option Value} {base : Heap}
theorem c_told (T : Tops K mg) (FD : IsDef K mg "told" sTold) (C_web_of : Calls P wd K mg base 5 "web_of" (PF FWebOf)) (C_most_flow : Calls P wd K mg base 3 "most_flow" (PF FMostFlow)) (C_need : Calls P wd K mg base 2 "need" (PF FNeed)) (C_rota_by : Calls P wd K mg base 7 "rota_by" (PF FRotaBy)) (C_least_side : Calls P wd K mg base 4 "least_side" (PF FLeastSide)) : Calls P wd K mg base 8 "told" (PF FTold) := by
  obtain ⟨f, fd, FD, hm⟩ := FD.ex
  refine Calls.mk (N := ["book", "web", "much", "flow"]) (ps := ["book"]) FD ⟨rfl, rfl, rfl, by decide +kernel, rfl, by decide +kernel, by decide +kernel⟩ hm (fun _ _ _ _ _ _ us h => by match us, h with | [a0], _ => rfl) (fun ds Pd ⟨d, h, _⟩ => by cases h; rfl) fun cdv A outer s H E hr ds Pd ⟨d, h, hp⟩ => ?_
  have nd : (["book", "web", "much", "flow"] : List Str).Nodup := by decide +kernel
  cases h with
  | mk b o g =>
  have wo := web_ok o
  have wc := web_nn o
  have wn := web_n o
  have hn2 : 2 ≤ b.web.n := by show 2 ≤ b.sN b.days.length; unfold Bk.sN; omega
  have inv := augN_inv wo (first := 0) (last := 1) (by omega) (by decide) wc (capL b.web.ties 1).toNat
  refine sb_cons (sx_set 1 nd (ev_call C_web_of (hr.mono (by decide)) (ea_cons (ev_var 0) ea_nil) (fun _ p => ⟨_, .mk b o, p⟩)) ?_)
  refine sb_cons (sx_unpack (ev_call C_most_flow (hr.mono (by decide)) (ea_cons (ev_var 1) (ea_cons (ev_gint T.sea) (ea_cons (ev_gint T.light) ea_nil))) (fun _ p => ⟨_, .mk b.web wo wc 0 1 (by omega) (by decide), p⟩)) (gx_tup (gxs_cons 2 nd (gxs_cons 3 nd gxs_nil))) rfl ?_)
  refine sb_cons (sx_if (et_cmp co_eq (er_ (ev_var 2)) (er_ (ev_call C_need (hr.mono (by decide)) (ea_cons (ev_var 0) ea_nil) (fun _ p => ⟨_, o.need, p⟩)))) (fun hk => ?_) (fun hk => ?_))
  · have hk' := of_decide_eq_true hk
    refine sb_last (sx_ret (ev_is (ev_tup (ea_cons ev_str (ea_cons (ev_call C_rota_by (hr.mono (by decide)) (ea_cons (ev_var 0) (ea_cons (ev_var 3) ea_nil)) (fun _ p => ⟨_, .mk b o b.best inv.fb.len (web_len o) _ _ _ (g hk'), p⟩)) ea_nil))) ?_) hp)
    unfold toldD
    rw [if_pos hk']
    rfl
  · have hk' := of_decide_eq_false hk
    refine sb_nil (sb_last (sx_ret (ev_is (ev_tup (ea_cons ev_str (ea_cons (ev_call C_least_side (hr.mono (by decide)) (ea_cons (ev_var 1) (ea_cons (ev_gint T.sea) (ea_cons (ev_gint T.light) ea_nil))) (fun _ p => ⟨_, .mk b.web wo wc wn 0 1 (by omega) (by decide), p⟩)) ea_nil))) ?_) hp))
    unfold toldD
    rw [if_neg hk']
    rfl
end

/-! ## watch.py -/
structure IsMeth (K : PySem.W.Frag) (n q : Str) (st : Stmt) : Prop where
  ex : ∃ f fd, FunD K n q (defArgs st) (defBody st) (defScope st) [] [] f fd ∧ Meth K (wC K) n f
/-- NoDeed can be made and raised -/
structure XF (K : PySem.W.Frag) (mg : Str → Option Value) : Prop where
  base : ∃ B newId initId bmB, ExcBaseFacts B newId initId bmB ∧ PySem.W.excIn K (He.ga K "NoDeed") bmB newId = true
  g : mg "NoDeed" = some (.ref (He.ga K "NoDeed"))
  k : PySem.W.keepIn K (.ref (He.ga K "NoDeed")) = true
  s : PySem.W.subIn K (.ref (He.ga K "NoDeed")) (.type "BaseException") = some true
  t : PySem.W.typeIn K (.ref (He.ga K "NoDeed")) = some (.type "type")
theorem sx_rz {X : Cx} {ρ : List Sl} {s : List MO} {A : AEnds} {m : Str} {j : Nat} {pos p p2 p3 : Pos} (xf : XF X.K X.mg) (h : A.xr ρ s) (hc : X.calm = true := by rfl) (hg : Gl X "NoDeed" := by rfl) : SX X ρ s (.Raise (some (.Call (.Name "NoDeed" p) [.Constant (.str m) j p2] [] p3)) none pos) A := by
  obtain ⟨B, n, i, b, h1, h2⟩ := xf.base
  exact sx_raise h1 h2 xf.g xf.k (raises_own xf.s xf.t) h hc hg
def dOB : Option Bk → D
  | none => .non
  | some b => dBk b
def dSt (t : Int) (ob : Option Bk) : D := .tup [.int t, dOB ob]
theorem at_last {α : Type} (xs : List α) (x : α) : atI (xs ++ [x]) (-1) = some x := by
  unfold atI ixN
  rw [if_neg (by decide), if_pos (by rw [List.length_append, List.length_singleton]; omega)]
  have e : ((-1 : Int) + ((xs ++ [x]).length : Int)).toNat = xs.length := by rw [List.length_append, List.length_singleton]; omega
  first
    | (show (xs ++ [x])[((-1 : Int) + ((xs ++ [x]).length : Int)).toNat]? = some x; rw [e, List.getElem?_append_right (Nat.le_refl _), Nat.sub_self]; rfl)
    | (simp)
def nextL (l : Lmp) (oil : Int) : Lmp := ⟨l.tank, oil, (l.away.filter fun x => decide (0 < x)).map fun x => x - 1⟩
def Bk.nextLs (b : Bk) (ts : List Int) (n : Nat) : List Lmp := (List.range n).map fun i => nextL b.lamps[i]! ts[i]!
def Bk.behind (b : Bk) (store : Int) (ts : List Int) : Option Bk := if b.days.length = 1 then none else some ⟨b.store, store, b.nextLs ts b.lamps.length, b.days.drop 1⟩
inductive FBehindNight : List D → D → Prop where
  | mk (b : Bk) (o : b.Ok) (store : Int) (ts : List Int) (h : ts.length = b.lamps.length) : FBehindNight [dBk b, .int store, dInts ts] (dOB (b.behind store ts))
inductive FWithDay : List D → D → Prop where
  | mk (b : Bk) (o : b.Ok) (j : Nat) (hj : j < b.days.length) (d : Dy) : FWithDay [dBk b, .int j, dDy d] (dBk { b with days := b.days.set j d })
inductive FToday : List D → D → Prop where
  | mk (xs : List D) (t : Int) (ob : Option Bk) : FToday [.wat (xs ++ [dSt t ob])] (.int t)
inductive FRest : List D → D → Prop where
  | mk (xs : List D) (t : Int) (b : Bk) : FRest [.wat (xs ++ [dSt t (some b)])] (dBk b)
inductive FLeft : List D → D → Prop where
  | mk (xs : List D) (t : Int) (ob : Option Bk) : FLeft [.wat (xs ++ [dSt t ob])] (.int (xs.length : Nat))
inductive FOpenRest : GF where
  | mk {R : D → List MO → Prop} {Y : List MO → Prop} (xs : List D) (t : Int) (ob : Option Bk) (hR : ∀ b, ob = some b → R (dBk b) [.wat 1, .lst (xs ++ [dSt t ob])]) (hY : ob = none → Y [.wat 1, .lst (xs ++ [dSt t ob])]) : FOpenRest [.r 0] [.wat 1, .lst (xs ++ [dSt t ob])] R Y
inductive FPlaceOf : GF where
  | mk {R : D → List MO → Prop} {Y : List MO → Prop} (xs : List D) (t : Int) (ob : Option Bk) (b : Bk) (n : Int) (hR : 0 ≤ n - t → n - t < b.days.length → R (.int (n - t)) [.wat 1, .lst (xs ++ [dSt t ob])]) (hY : n - t < 0 ∨ (b.days.length : Int) ≤ n - t → Y [.wat 1, .lst (xs ++ [dSt t ob])]) :
    FPlaceOf [.r 0, .d (dBk b), .d (.int n)] [.wat 1, .lst (xs ++ [dSt t ob])] R Y
section
variable {P : Program} {wd : World} {K : PySem.W.Frag} {mg : Str → Option Value} {base : Heap}
theorem c_behind_night (T : Tops K mg) (FD : IsDef K mg "behind_night" sBehindNight)  : Calls P wd K mg base 1 "behind_night" (PF FBehindNight) := by
  obtain ⟨f, fd, FD, hm⟩ := FD.ex
  refine Calls.mk (N := ["book", "store", "tanks", "lamps", "lamp", "oil", "day"]) (ps := ["book", "store", "tanks"]) FD ⟨rfl, rfl, rfl, by decide +kernel, rfl, by decide +kernel, by decide +kernel⟩ hm (fun _ _ _ _ _ _ us h => by match us, h with | [a0, a1, a2], _ => rfl) (fun ds Pd ⟨d, h, _⟩ => by cases h; rfl) fun cdv A outer s H E hr ds Pd ⟨d, h, hp⟩ => ?_
  have nd : (["book", "store", "tanks", "lamps", "lamp", "oil", "day"] : List Str).Nodup := by decide +kernel
  cases h with
  | mk b o store ts h =>
  have hl3 := o.l3
  refine sb_cons (sx_if (k := decide (b.days.length = 1)) (et_is (et_cmp co_eq (er_ (ev_len T (er_ (ev_ix (er_ (ev_var 0)) ev_int (h := (by first | assumption | rfl | exact at_ (by assumption) | exact at_n (by assumption))))))) (er_ ev_int)) (by rw [List.length_map]; exact decide_eq_decide.mpr (by omega))) (fun hk => ?_) (fun hk => ?_))
  · have hk' := of_decide_eq_true hk
    rw [Bk.behind, if_pos hk'] at hp
    exact sb_last (sx_ret ev_non hp)
  · have hk' := of_decide_eq_false hk
    rw [Bk.behind, if_neg hk'] at hp
    refine sb_nil (sb_cons (sx_new 3 nd (en_lst ea_nil) ?_))
    refine sb_cons (sx_for (items := zips (b.lamps.map dLmp) (ts.map D.int)) (es_zipT T (ev_ix (er_ (ev_var 0)) ev_int (h := (by first | assumption | rfl | exact at_ (by assumption) | exact at_n (by assumption)))) (ev_var 2) (by rw [List.length_map, List.length_map, h])) (gx_tup (gxs_cons 4 nd (gxs_cons 5 nd gxs_nil))) (fun i ρ s => ∃ y z, ρ = [.d (dBk b), .d (.int store), .d (dInts ts), .r 0, y, z, .no] ∧ s = [.lst ((b.nextLs ts i).map dLmp)]) ⟨_, _, rfl, rfl⟩ ?_ ?_)
    · rintro i d ρ s hd ⟨y, z, rfl, rfl⟩
      obtain ⟨x1, x2, h1, h2, rfl⟩ := zips_get _ _ i d hd
      obtain ⟨l, hl, rfl⟩ := map_get h1
      obtain ⟨oil, ho, rfl⟩ := map_get h2
      have hi : i < b.lamps.length := (List.getElem?_eq_some_iff.mp hl).1
      have e1 : b.lamps[i]! = l := by simp [hl]
      have e2 : ts[i]! = oil := by simp [ho]
      have hal := (o.lamp l (List.mem_of_getElem? hl)).2.2
      refine ⟨_, rfl, sb_last (sx_append (ei_var 3) (ev_tup (ea_cons (ev_ix (er_ (ev_var 4)) ev_int (h := (by first | assumption | rfl | exact at_ (by assumption) | exact at_n (by assumption)))) (ea_cons (ev_var 5) (ea_cons (ev_tupleOf T (er_n (en_is (en_lc nd (lc_if (enc := D.int) (f := fun x => D.int (x - 1)) (pr := fun x => decide (0 < x)) (xs := l.away) 6 nd (es_tup (ev_ix (er_ (ev_var 4)) ev_int (h := (by first | assumption | rfl | exact at_ (by assumption) | exact at_n (by assumption))))) (blkOk_by (own := [("day", 6)]) (N := ["book", "store", "tanks", "lamps", "lamp", "oil", "day"]) (sc := defScope sBehindNight) (by decide +kernel)) rfl (by first | exact Or.inl rfl | exact Or.inr rfl) (by first | exact Or.inl rfl | exact Or.inr rfl) (fun _ _ _ _ _ x hx => (et_cmp co_gt (er_ (ev_var 6)) (er_ ev_int))) (fun _ _ _ _ _ x hx _ => (ev_sub (ev_var 6) ev_int)) (by omega))) (map_ints (fun x => x - 1) _)))) ea_nil)))) rfl (by unfold Bk.nextLs; simp; omega) ⟨_, _, rfl, ?_⟩)⟩
      have e3 : b.nextLs ts (i + 1) = b.nextLs ts i ++ [nextL l oil] := by
        unfold Bk.nextLs
        rw [List.range_succ, List.map_append, List.map_cons, List.map_nil, e1, e2]
      rw [e3, List.map_append]
      rfl
    · rintro ρ s ⟨y, z, rfl, rfl⟩
      refine sb_last (sx_ret (ev_is (ev_tup (ea_cons (ev_ix (er_ (ev_var 0)) ev_int (h := (by first | assumption | rfl | exact at_ (by assumption) | exact at_n (by assumption)))) (ea_cons (ev_var 1) (ea_cons (ev_tupleOf T (er_ref 3)) (ea_cons (ev_slT (ev_ix (er_ (ev_var 0)) ev_int (h := (by first | assumption | rfl | exact at_ (by assumption) | exact at_n (by assumption)))) (eo_some ev_int) eo_none) ea_nil))))) ?_) hp)
      rw [zips_len _ _ (by rw [List.length_map, List.length_map, h]), List.length_map, show ((1 : Int)) = ((1 : Nat) : Int) from rfl, cutD_drop, ← List.map_drop]
      rfl
theorem c_with_day (T : Tops K mg) (FD : IsDef K mg "with_day" sWithDay)  : Calls P wd K mg base 1 "with_day" (PF FWithDay) := by
  obtain ⟨f, fd, FD, hm⟩ := FD.ex
  refine Calls.mk (N := ["book", "number", "day"]) (ps := ["book", "number", "day"]) FD ⟨rfl, rfl, rfl, by decide +kernel, rfl, by decide +kernel, by decide +kernel⟩ hm (fun _ _ _ _ _ _ us h => by match us, h with | [a0, a1, a2], _ => rfl) (fun ds Pd ⟨d, h, _⟩ => by cases h; rfl) fun cdv A outer s H E hr ds Pd ⟨d, h, hp⟩ => ?_
  have nd : (["book", "number", "day"] : List Str).Nodup := by decide +kernel
  cases h with
  | mk b o j hj d =>
  have hd4 := o.d4
  refine sb_last (sx_ret (ev_is (ev_tup (ea_cons (ev_ix (er_ (ev_var 0)) ev_int (h := (by first | assumption | rfl | exact at_ (by assumption) | exact at_n (by assumption)))) (ea_cons (ev_ix (er_ (ev_var 0)) ev_int (h := (by first | assumption | rfl | exact at_ (by assumption) | exact at_n (by assumption)))) (ea_cons (ev_ix (er_ (ev_var 0)) ev_int (h := (by first | assumption | rfl | exact at_ (by assumption) | exact at_n (by assumption)))) (ea_cons (ev_catT (ev_catT (ev_slT (ev_ix (er_ (ev_var 0)) ev_int (h := (by first | assumption | rfl | exact at_ (by assumption) | exact at_n (by assumption)))) eo_none (eo_some (ev_var 1))) (ev_tup (ea_cons (ev_var 2) ea_nil)) (by unfold cutD; simp; omega)) (ev_slT (ev_ix (er_ (ev_var 0)) ev_int (h := (by first | assumption | rfl | exact at_ (by assumption) | exact at_n (by assumption)))) (eo_some (ev_add (ev_var 1) ev_int)) eo_none) (by unfold cutD; simp; omega)) ea_nil))))) ?_) hp)
  rw [cutD_take, show ((j : Int) + 1) = ((j + 1 : Nat) : Int) by omega, cutD_drop, ← List.map_take, ← List.map_drop]
  show D.tup [_, _, _, .tup ((b.days.take j).map dDy ++ [dDy d] ++ (b.days.drop (j + 1)).map dDy)] = D.tup [_, _, _, .tup ((b.days.set j d).map dDy)]
  rw [List.set_eq_take_append_cons_drop, if_pos hj, List.map_append, List.map_cons, List.append_assoc]
  rfl
theorem c_w_today (T : Tops K mg) (FD : IsMeth K "today" "Watch.today" wToday) (cw : Cls K (wC K)) (nA : NoAttr K (wC K) "states") (xf : XF K mg)  : MCalls P wd K mg base 1 "today" (PF FToday) := by
  obtain ⟨f, fd, FD, hm⟩ := FD.ex
  refine MCalls.mk (N := ["self"]) (ps := ["self"]) FD ⟨rfl, rfl, rfl, by decide +kernel, rfl, by decide +kernel, by decide +kernel⟩ hm (fun _ _ _ _ _ _ us h => by match us, h with | [a0], _ => rfl) (fun ds Pd ⟨d, h, _⟩ => by cases h; rfl) fun cdv A outer s H E hr ds Pd ⟨d, h, hp⟩ => ?_
  have nd : (["self"] : List Str).Nodup := by decide +kernel
  cases h with
  | mk xs t ob =>
  exact sb_last (sx_ret (ev_ix (er_ (ev_ix (er_fld cw nA (er_ (ev_var 0))) (ev_neg ev_int) (h := (at_last xs (dSt t ob))))) ev_int (h := (by first | assumption | rfl | exact at_ (by assumption) | exact at_n (by assumption)))) hp)
theorem c_w_rest (T : Tops K mg) (FD : IsMeth K "rest" "Watch.rest" wRest) (cw : Cls K (wC K)) (nA : NoAttr K (wC K) "states") (xf : XF K mg)  : MCalls P wd K mg base 1 "rest" (PF FRest) := by
  obtain ⟨f, fd, FD, hm⟩ := FD.ex
  refine MCalls.mk (N := ["self", "book"]) (ps := ["self"]) FD ⟨rfl, rfl, rfl, by decide +kernel, rfl, by decide +kernel, by decide +kernel⟩ hm (fun _ _ _ _ _ _ us h => by match us, h with | [a0], _ => rfl) (fun ds Pd ⟨d, h, _⟩ => by cases h; rfl) fun cdv A outer s H E hr ds Pd ⟨d, h, hp⟩ => ?_
  have nd : (["self", "book"] : List Str).Nodup := by decide +kernel
  cases h with
  | mk xs t b =>
  refine sb_cons (sx_set 1 nd (ev_ix (er_ (ev_ix (er_fld cw nA (er_ (ev_var 0))) (ev_neg ev_int) (h := (at_last xs (dSt t (some b)))))) ev_int (h := (by first | assumption | rfl | exact at_ (by assumption) | exact at_n (by assumption)))) ?_)
  refine sb_cons (sx_if (k := false) (et_is (et_cmp co_isN (er_ (ev_var 1)) (er_ ev_non)) (by rfl)) (fun hk => nomatch hk) fun _ => ?_)
  exact sb_nil (sb_last (sx_ret (ev_var 1) hp))
theorem c_w_left (T : Tops K mg) (FD : IsMeth K "left" "Watch.left" wLeft) (cw : Cls K (wC K)) (nA : NoAttr K (wC K) "states") (xf : XF K mg)  : MCalls P wd K mg base 1 "left" (PF FLeft) := by
  obtain ⟨f, fd, FD, hm⟩ := FD.ex
  refine MCalls.mk (N := ["self"]) (ps := ["self"]) FD ⟨rfl, rfl, rfl, by decide +kernel, rfl, by decide +kernel, by decide +kernel⟩ hm (fun _ _ _ _ _ _ us h => by match us, h with | [a0], _ => rfl) (fun ds Pd ⟨d, h, _⟩ => by cases h; rfl) fun cdv A outer s H E hr ds Pd ⟨d, h, hp⟩ => ?_
  have nd : (["self"] : List Str).Nodup := by decide +kernel
  cases h with
  | mk xs t ob =>
  refine sb_last (sx_ret (ev_is (ev_sub (ev_len T (er_fld cw nA (er_ (ev_var 0)))) ev_int) ?_) hp)
  rw [List.length_append, List.length_singleton]
  congr 1
  omega
theorem c_w_open_rest (T : Tops K mg) (FD : IsMeth K "open_rest" "Watch.open_rest" wOpenRest) (cw : Cls K (wC K)) (nA : NoAttr K (wC K) "states") (xf : XF K mg)  : GMeth P wd K mg base 1 "open_rest" FOpenRest := by
  obtain ⟨f, fd, FD, hm⟩ := FD.ex
  refine GMeth.mk (N := ["self", "book"]) (ps := ["self"]) FD ⟨rfl, rfl, rfl, by decide +kernel, rfl, by decide +kernel, by decide +kernel⟩ hm (fun _ _ _ _ _ _ us h => by match us, h with | [a0], _ => rfl) (fun sl s R Y h => by cases h <;> rfl) fun cdv A outer z H E hr sl s R Y h => ?_
  have nd : (["self", "book"] : List Str).Nodup := by decide +kernel
  cases h with
  | mk xs t ob hR hY =>
  refine sb_cons (sx_set (d := dOB ob) 1 nd (ev_ix (er_ (ev_ix (er_fld cw nA (er_ref 0)) (ev_neg ev_int) (h := (at_last xs (dSt t ob))))) ev_int (h := (by first | assumption | rfl | exact at_ (by assumption) | exact at_n (by assumption)))) ?_)
  cases ob with
  | none => exact sb_cons (sx_if (k := true) (et_is (et_cmp co_isN (er_ (ev_var 1)) (er_ ev_non)) (by rfl)) (fun _ => sb_last (sx_rz xf (hY rfl))) fun hk => nomatch hk)
  | some b => exact sb_cons (sx_if (k := false) (et_is (et_cmp co_isN (er_ (ev_var 1)) (er_ ev_non)) (by rfl)) (fun hk => nomatch hk) fun _ => sb_nil (sb_last (sx_ret (ev_var 1) (hR b rfl))))
theorem c_w_place_of (T : Tops K mg) (FD : IsMeth K "place_of" "Watch.place_of" wPlaceOf) (cw : Cls K (wC K)) (nA : NoAttr K (wC K) "states") (xf : XF K mg) (C_today : MCalls P wd K mg base 1 "today" (PF FToday)) : GMeth P wd K mg base 2 "place_of" FPlaceOf := by
  obtain ⟨f, fd, FD, hm⟩ := FD.ex
  refine GMeth.mk (N := ["self", "book", "day", "place"]) (ps := ["self", "book", "day"]) FD ⟨rfl, rfl, rfl, by decide +kernel, rfl, by decide +kernel, by decide +kernel⟩ hm (fun _ _ _ _ _ _ us h => by match us, h with | [a0, a1, a2], _ => rfl) (fun sl s R Y h => by cases h <;> rfl) fun cdv A outer z H E hr sl s R Y h => ?_
  have nd : (["self", "book", "day", "place"] : List Str).Nodup := by decide +kernel
  cases h with
  | mk xs t ob b n hR hY =>
  refine sb_cons (sx_set 3 nd (ev_sub (ev_var 2) (ev_methV0 C_today cw (hr.mono (by decide)) (er_ref 0) ⟨_, .mk xs t ob, rfl⟩ (.imm (.int _)))) ?_)
  refine sb_cons (sx_if (k := decide (n - t < 0) || decide ((b.days.length : Int) ≤ n - t)) (et_w (ew_or (et_cmp co_lt (er_ (ev_var 3)) (er_ ev_int)) fun _ => ew_or1 (et_cmp co_ge (er_ (ev_var 3)) (er_is (er_ (ev_len T (er_ (ev_ix (er_ (ev_var 1)) ev_int (h := (by first | assumption | rfl | exact at_ (by assumption) | exact at_n (by assumption))))))) (by rw [List.length_map]))))) (fun hk => ?_) (fun hk => ?_))
  · rw [Bool.or_eq_true, decide_eq_true_iff, decide_eq_true_iff] at hk
    exact sb_last (sx_rz xf (hY hk))
  · rw [Bool.or_eq_false_iff, decide_eq_false_iff_not, decide_eq_false_iff_not] at hk
    exact sb_nil (sb_last (sx_ret (ev_var 3) (hR (by omega) (by omega))))
end

/-! ## watch.py, the deeds -/
abbrev sW (st : List D) : List MO := [.wat 1, .lst st]
def nightOut (xs : List D) (t : Int) (b : Bk) (x : Part) : List D := xs ++ [dSt t (some b)] ++ [dSt (t + 1) (b.behind (goneStore (b.cut 1) b.oil x) (goneTanks (b.lamps.map (·.oil)) x))]
inductive FNight : GF where
  | gone {R : D → List MO → Prop} {Y : List MO → Prop} (xs : List D) (t : Int) (d : D) (hY : Y (sW (xs ++ [dSt t none]))) : FNight [.r 0, .d d] (sW (xs ++ [dSt t none])) R Y
  | mk {R : D → List MO → Prop} {Y : List MO → Prop} (xs : List D) (t : Int) (b : Bk) (o : b.Ok) (x : Part) (hx : x.poured.length = b.lamps.length) (h : x.spans.length ≤ 20) (hz : xs.length ≤ 1000)
    (hR : oneF (b.cut 1) x = "" → R .non (sW (nightOut xs t b x))) (hY : ¬ oneF (b.cut 1) x = "" → Y (sW (xs ++ [dSt t (some b)]))) : FNight [.r 0, .d (dPart x)] (sW (xs ++ [dSt t (some b)])) R Y
inductive FFails : GF where
  | gone {R : D → List MO → Prop} {Y : List MO → Prop} (xs : List D) (t : Int) (d : D) (hY : Y (sW (xs ++ [dSt t none]))) : FFails [.r 0, .d d] (sW (xs ++ [dSt t none])) R Y
  | mk {R : D → List MO → Prop} {Y : List MO → Prop} (xs : List D) (t : Int) (b : Bk) (o : b.Ok) (n : Int) (hz : xs.length ≤ 1000)
    (hR : ∀ i : Nat, n = i → i < b.lamps.length → R .non (sW (xs ++ [dSt t (some b)] ++ [dSt t (some (b.leftOut i))]))) (hY : n < 0 ∨ (b.lamps.length : Int) ≤ n → Y (sW (xs ++ [dSt t (some b)]))) : FFails [.r 0, .d (.int n)] (sW (xs ++ [dSt t (some b)])) R Y
inductive FBoat : GF where
  | gone {R : D → List MO → Prop} {Y : List MO → Prop} (xs : List D) (t : Int) (d e : D) (hY : Y (sW (xs ++ [dSt t none]))) : FBoat [.r 0, .d d, .d e] (sW (xs ++ [dSt t none])) R Y
  | mk {R : D → List MO → Prop} {Y : List MO → Prop} (xs : List D) (t : Int) (b : Bk) (o : b.Ok) (n m : Int) (hz : xs.length ≤ 1000)
    (hR : ∀ j : Nat, n - t = j → j < b.days.length → 0 ≤ m → m ≤ 1000000000000000000000000000000 → R .non (sW (xs ++ [dSt t (some b)] ++ [dSt t (some { b with days := b.days.set j { b.days[j]! with boat := m } })])))
    (hY : (n - t < 0 ∨ (b.days.length : Int) ≤ n - t) ∨ m < 0 ∨ 1000000000000000000000000000000 < m → Y (sW (xs ++ [dSt t (some b)]))) : FBoat [.r 0, .d (.int n), .d (.int m)] (sW (xs ++ [dSt t (some b)])) R Y
inductive FWants : GF where
  | gone {R : D → List MO → Prop} {Y : List MO → Prop} (xs : List D) (t : Int) (d e : D) (hY : Y (sW (xs ++ [dSt t none]))) : FWants [.r 0, .d d, .d e] (sW (xs ++ [dSt t none])) R Y
  | mk {R : D → List MO → Prop} {Y : List MO → Prop} (xs : List D) (t : Int) (b : Bk) (o : b.Ok) (n m : Int) (hz : xs.length ≤ 1000)
    (hR : ∀ j : Nat, n - t = j → j < b.days.length → 0 ≤ m → m ≤ b.lamps.length → R .non (sW (xs ++ [dSt t (some b)] ++ [dSt t (some { b with days := b.days.set j { b.days[j]! with wanted := m } })])))
    (hY : (n - t < 0 ∨ (b.days.length : Int) ≤ n - t) ∨ m < 0 ∨ (b.lamps.length : Int) < m → Y (sW (xs ++ [dSt t (some b)]))) : FWants [.r 0, .d (.int n), .d (.int m)] (sW (xs ++ [dSt t (some b)])) R Y
theorem goneTanks_len (tanks : List Int) (x : Part) : (goneTanks tanks x).length = tanks.length := by unfold goneTanks; rw [List.length_map, List.length_range]
theorem cut_lamps (b : Bk) (m : Nat) : (b.cut m).lamps.length = b.lamps.length := List.length_map ..
theorem cut_oils (b : Bk) (m : Nat) : (b.cut m).lamps.map (·.oil) = b.lamps.map (·.oil) := by
  show (b.lamps.map (cutL m)).map (·.oil) = _
  rw [List.map_map]
  rfl
theorem imm_ints (ns : List Int) : Imms (ns.map D.int) := imms_of fun d hd => by
  obtain ⟨x, _, rfl⟩ := List.mem_map.mp hd
  exact .int x
theorem imm_lmp (l : Lmp) : Imm (dLmp l) := .tup (.cons (.int _) (.cons (.int _) (.cons (.tup (imm_ints _)) .nil)))
theorem imm_dy (d : Dy) : Imm (dDy d) := .tup (.cons (.int _) (.cons (.int _) (.cons (.int _) (.cons (.int _) (.cons (.int _) .nil)))))
theorem imm_bk (b : Bk) : Imm (dBk b) := .tup (.cons (.int _) (.cons (.int _) (.cons (.tup (imms_of fun d hd => by
  obtain ⟨x, _, rfl⟩ := List.mem_map.mp hd
  exact imm_lmp x)) (.cons (.tup (imms_of fun d hd => by
  obtain ⟨x, _, rfl⟩ := List.mem_map.mp hd
  exact imm_dy x)) .nil))))
section
variable {P : Program} {wd : World} {K : PySem.W.Frag} {mg : Str → Option Value} {base : Heap}
theorem c_w_night (T : Tops K mg) (FD : IsMeth K "night" "Watch.night" wNight) (cw : Cls K (wC K)) (nA : NoAttr K (wC K) "states") (xf : XF K mg) (C_open_rest : GMeth P wd K mg base 1 "open_rest" FOpenRest) (C_cut_to : Calls P wd K mg base 1 "cut_to" (PF FCutTo)) (C_fault : Calls P wd K mg base 4 "fault" (PF FFault)) (C_evenings : Calls P wd K mg base 3 "evenings" (PF FEvenings)) (C_today : MCalls P wd K mg base 1 "today" (PF FToday)) (C_behind_night : Calls P wd K mg base 1 "behind_night" (PF FBehindNight)) : GMeth P wd K mg base 5 "night" FNight := by
  obtain ⟨f, fd, FD, hm⟩ := FD.ex
  refine GMeth.mk (N := ["self", "day", "book", "first", "store", "tanks"]) (ps := ["self", "day"]) FD ⟨rfl, rfl, rfl, by decide +kernel, rfl, by decide +kernel, by decide +kernel⟩ hm (fun _ _ _ _ _ _ us h => by match us, h with | [a0, a1], _ => rfl) (fun sl s R Y h => by cases h <;> rfl) fun cdv A outer z H E hr sl s R Y h => ?_
  have nd : (["self", "day", "book", "first", "store", "tanks"] : List Str).Nodup := by decide +kernel
  cases h with
  | gone xs t d hY =>
    refine sb_cons (sx_setC 2 nd (ec_meth0 (R := fun _ _ => False) (Y := True) C_open_rest cw (hr.mono (by decide)) (ei_var 0) rfl rfl (by exact .mk xs t none (fun b hb => nomatch hb) (fun hn => ⟨[], rfl, trivial⟩))) ?_ ?_)
    · rintro d s' ⟨_, _, h⟩
      exact h.elim
    · rintro s' ⟨rfl, _⟩
      exact hY
  | mk xs t b o x hx h hz hR hY =>
    refine sb_cons (sx_setC 2 nd (ec_meth0 (R := fun d st => d = dBk b ∧ st = xs ++ [dSt t (some b)]) (Y := False) C_open_rest cw (hr.mono (by decide)) (ei_var 0) rfl rfl (by exact .mk xs t (some b) (fun b' hb => by cases hb; exact ⟨_, [], rfl, imm_bk b, rfl, rfl⟩) (fun hn => nomatch hn))) ?_ ?_)
    · rintro d s' ⟨_, rfl, rfl, rfl⟩
      have hl3 := o.l3
      have hl1 := o.l1
      have hcl := cut_lamps b 1
      have hcd : 1 ≤ (b.cut 1).days.length := by
        show 1 ≤ (b.days.take 1).length
        rw [List.length_take]
        have := o.d1
        omega
      refine sb_cons (sx_set 3 nd (ev_call C_cut_to (hr.mono (by decide)) (ea_cons (ev_var 2) (ea_cons ev_int ea_nil)) (fun _ p => ⟨_, .mk b 1 hl3 (fun l hl => (o.lamp l hl).2.2), p⟩)) ?_)
      refine sb_cons (sx_if (k := !isN (if oneF (b.cut 1) x = "" then .non else .tup [.int 0, .str (oneF (b.cut 1) x)])) (et_cmp co_notN (er_ (ev_call C_fault (hr.mono (by decide)) (ea_cons (ev_var 3) (ea_cons (ev_tup (ea_cons (ev_var 1) ea_nil)) ea_nil)) (fun _ p => ⟨_, .mk (b.cut 1) hcd (by omega) (by omega) x (by omega) h, p⟩))) (er_ ev_non)) (fun hk => ?_) (fun hk => ?_))
      · have hk' : ¬ oneF (b.cut 1) x = "" := fun z => by rw [if_pos z] at hk; cases hk
        exact sb_last (sx_rz xf (hY hk'))
      · have hk' : oneF (b.cut 1) x = "" := by
          by_cases z : oneF (b.cut 1) x = ""
          · exact z
          · rw [if_neg z] at hk; cases hk
        have hin := dayF_in (show dayF (b.cut 1) 0 (b.cut 1).oil ((b.cut 1).lamps.map (·.oil)) x = "" from hk')
        rw [List.length_map] at hin
        refine sb_nil (sb_cons (sx_unpack (ev_ix (er_ (ev_call C_evenings (hr.mono (by decide)) (ea_cons (ev_var 3) (ea_cons (ev_tup (ea_cons (ev_var 1) ea_nil)) ea_nil)) (fun _ p => ⟨_, .mk (b.cut 1) (by omega) x (by omega) hin, p⟩))) ev_int (h := (by first | assumption | rfl | exact at_ (by assumption) | exact at_n (by assumption)))) (gx_tup (gxs_cons 4 nd (gxs_cons 5 nd gxs_nil))) rfl ?_))
        rw [cut_oils]
        exact sb_last (sx_append (n := 1) (ds := xs ++ [dSt t (some b)]) (ei_fld cw nA (ei_var 0) rfl) (ev_tup (ea_cons (ev_add (ev_methV0 C_today cw (hr.mono (by decide)) (er_ref 0) ⟨_, .mk xs t (some b), rfl⟩ (.imm (.int _))) ev_int) (ea_cons (ev_call C_behind_night (hr.mono (by decide)) (ea_cons (ev_var 2) (ea_cons (ev_var 4) (ea_cons (ev_var 5) ea_nil))) (fun _ p => ⟨_, .mk b o _ _ (by rw [goneTanks_len, List.length_map]), p⟩)) ea_nil))) rfl (by simp; omega) (by exact hR hk'))
    · rintro s' ⟨rfl, h⟩
      exact h.elim
theorem c_w_fails (T : Tops K mg) (FD : IsMeth K "fails" "Watch.fails" wFails) (cw : Cls K (wC K)) (nA : NoAttr K (wC K) "states") (xf : XF K mg) (C_open_rest : GMeth P wd K mg base 1 "open_rest" FOpenRest) (C_today : MCalls P wd K mg base 1 "today" (PF FToday)) (C_left_out : Calls P wd K mg base 1 "left_out" (PF FLeftOut)) : GMeth P wd K mg base 2 "fails" FFails := by
  obtain ⟨f, fd, FD, hm⟩ := FD.ex
  refine GMeth.mk (N := ["self", "lamp", "book"]) (ps := ["self", "lamp"]) FD ⟨rfl, rfl, rfl, by decide +kernel, rfl, by decide +kernel, by decide +kernel⟩ hm (fun _ _ _ _ _ _ us h => by match us, h with | [a0, a1], _ => rfl) (fun sl s R Y h => by cases h <;> rfl) fun cdv A outer z H E hr sl s R Y h => ?_
  have nd : (["self", "lamp", "book"] : List Str).Nodup := by decide +kernel
  cases h with
  | gone xs t d hY =>
    refine sb_cons (sx_setC 2 nd (ec_meth0 (R := fun _ _ => False) (Y := True) C_open_rest cw (hr.mono (by decide)) (ei_var 0) rfl rfl (by exact .mk xs t none (fun b hb => nomatch hb) (fun hn => ⟨[], rfl, trivial⟩))) ?_ ?_)
    · rintro d s' ⟨_, _, h⟩
      exact h.elim
    · rintro s' ⟨rfl, _⟩
      exact hY
  | mk xs t b o n hz hR hY =>
    refine sb_cons (sx_setC 2 nd (ec_meth0 (R := fun d st => d = dBk b ∧ st = xs ++ [dSt t (some b)]) (Y := False) C_open_rest cw (hr.mono (by decide)) (ei_var 0) rfl rfl (by exact .mk xs t (some b) (fun b' hb => by cases hb; exact ⟨_, [], rfl, imm_bk b, rfl, rfl⟩) (fun hn => nomatch hn))) ?_ ?_)
    · rintro d s' ⟨_, rfl, rfl, rfl⟩
      refine sb_cons (sx_if (k := decide (n < 0) || decide ((b.lamps.length : Int) ≤ n)) (et_w (ew_or (et_cmp co_lt (er_ (ev_var 1)) (er_ ev_int)) fun _ => ew_or1 (et_cmp co_ge (er_ (ev_var 1)) (er_is (er_ (ev_len T (er_ (ev_ix (er_ (ev_var 2)) ev_int (h := (by first | assumption | rfl | exact at_ (by assumption) | exact at_n (by assumption))))))) (by rw [List.length_map]))))) (fun hk => ?_) (fun hk => ?_))
      · rw [Bool.or_eq_true, decide_eq_true_iff, decide_eq_true_iff] at hk
        exact sb_last (sx_rz xf (hY hk))
      · rw [Bool.or_eq_false_iff, decide_eq_false_iff_not, decide_eq_false_iff_not] at hk
        obtain ⟨i, hi⟩ : ∃ i : Nat, n = i := ⟨n.toNat, by omega⟩
        subst hi
        have hil : i < b.lamps.length := by omega
        exact sb_nil (sb_last (sx_append (n := 1) (ds := xs ++ [dSt t (some b)]) (ei_fld cw nA (ei_var 0) rfl) (ev_tup (ea_cons (ev_methV0 C_today cw (hr.mono (by decide)) (er_ref 0) ⟨_, .mk xs t (some b), rfl⟩ (.imm (.int _))) (ea_cons (ev_call C_left_out (hr.mono (by decide)) (ea_cons (ev_var 2) (ea_cons (ev_var 1) ea_nil)) (fun _ p => ⟨_, .mk b i hil o.d4, p⟩)) ea_nil))) rfl (by simp; omega) (by exact hR i rfl hil)))
    · rintro s' ⟨rfl, h⟩
      exact h.elim
theorem c_w_boat (T : Tops K mg) (FD : IsMeth K "boat" "Watch.boat" wBoat) (cw : Cls K (wC K)) (nA : NoAttr K (wC K) "states") (xf : XF K mg) (C_open_rest : GMeth P wd K mg base 1 "open_rest" FOpenRest) (C_place_of : GMeth P wd K mg base 2 "place_of" FPlaceOf) (C_today : MCalls P wd K mg base 1 "today" (PF FToday)) (C_with_day : Calls P wd K mg base 1 "with_day" (PF FWithDay)) (C_with_boat : Calls P wd K mg base 1 "with_boat" (PF FWithBoat)) : GMeth P wd K mg base 3 "boat" FBoat := by
  obtain ⟨f, fd, FD, hm⟩ := FD.ex
  refine GMeth.mk (N := ["self", "day", "much", "book", "place"]) (ps := ["self", "day", "much"]) FD ⟨rfl, rfl, rfl, by decide +kernel, rfl, by decide +kernel, by decide +kernel⟩ hm (fun _ _ _ _ _ _ us h => by match us, h with | [a0, a1, a2], _ => rfl) (fun sl s R Y h => by cases h <;> rfl) fun cdv A outer z H E hr sl s R Y h => ?_
  have nd : (["self", "day", "much", "book", "place"] : List Str).Nodup := by decide +kernel
  cases h with
  | gone xs t d e hY =>
    refine sb_cons (sx_setC 3 nd (ec_meth0 (R := fun _ _ => False) (Y := True) C_open_rest cw (hr.mono (by decide)) (ei_var 0) rfl rfl (by exact .mk xs t none (fun b hb => nomatch hb) (fun hn => ⟨[], rfl, trivial⟩))) ?_ ?_)
    · rintro d s' ⟨_, _, h⟩
      exact h.elim
    · rintro s' ⟨rfl, _⟩
      exact hY
  | mk xs t b o n m hz hR hY =>
    refine sb_cons (sx_setC 3 nd (ec_meth0 (R := fun d st => d = dBk b ∧ st = xs ++ [dSt t (some b)]) (Y := False) C_open_rest cw (hr.mono (by decide)) (ei_var 0) rfl rfl (by exact .mk xs t (some b) (fun b' hb => by cases hb; exact ⟨_, [], rfl, imm_bk b, rfl, rfl⟩) (fun hn => nomatch hn))) ?_ ?_)
    · rintro d s' ⟨_, rfl, rfl, rfl⟩
      refine sb_cons (sx_setC 4 nd (ec_meth (R := fun d st => d = .int (n - t) ∧ st = xs ++ [dSt t (some b)] ∧ 0 ≤ n - t ∧ n - t < b.days.length) (Y := n - t < 0 ∨ (b.days.length : Int) ≤ n - t) C_place_of cw (hr.mono (by decide)) (ei_var 0) (ea_cons (ev_var 3) (ea_cons (ev_var 1) ea_nil)) rfl rfl (by exact .mk xs t (some b) b n (fun h1 h2 => ⟨_, [], rfl, .int _, rfl, rfl, h1, h2⟩) (fun hn => ⟨[], rfl, hn⟩))) ?_ ?_)
      · rintro d s' ⟨_, rfl, rfl, rfl, h1, h2⟩
        refine sb_cons (sx_if (k := decide (m < 0) || decide (1000000000000000000000000000000 < m)) (et_w (ew_or (et_cmp co_lt (er_ (ev_var 2)) (er_ ev_int)) (fun hq => (ew_or1 (et_cmp co_gt (er_ (ev_var 2)) (er_ (ev_gint T.mostOil))))))) (fun hk => ?_) (fun hk => ?_))
        · rw [Bool.or_eq_true, decide_eq_true_iff, decide_eq_true_iff] at hk
          exact sb_last (sx_rz xf (hY (.inr hk)))
        · rw [Bool.or_eq_false_iff, decide_eq_false_iff_not, decide_eq_false_iff_not] at hk
          obtain ⟨j, hj⟩ : ∃ j : Nat, n - t = j := ⟨(n - t).toNat, by omega⟩
          have hjl : j < b.days.length := by omega
          have hjd := get_bang hjl
          rw [hj]
          exact sb_nil (sb_last (sx_append (n := 1) (ds := xs ++ [dSt t (some b)]) (ei_fld cw nA (ei_var 0) rfl) (ev_tup (ea_cons (ev_methV0 C_today cw (hr.mono (by decide)) (er_ref 0) ⟨_, .mk xs t (some b), rfl⟩ (.imm (.int _))) (ea_cons (ev_call C_with_day (hr.mono (by decide)) (ea_cons (ev_var 3) (ea_cons (ev_var 4) (ea_cons (ev_call C_with_boat (hr.mono (by decide)) (ea_cons (ev_ix (er_ (ev_ix (er_ (ev_var 3)) ev_int (h := (by first | assumption | rfl | exact at_ (by assumption) | exact at_n (by assumption))))) (ev_var 4) (h := (at_ hjd))) (ea_cons (ev_var 2) ea_nil)) (fun _ p => ⟨_, .mk _ _, p⟩)) ea_nil))) (fun _ p => ⟨_, .mk b o j hjl _, p⟩)) ea_nil))) rfl (by simp; omega) (by exact hR j hj hjl (by omega) (by omega))))
      · rintro s' ⟨rfl, h⟩
        exact hY (.inl h)
    · rintro s' ⟨rfl, h⟩
      exact h.elim
theorem c_w_wants (T : Tops K mg) (FD : IsMeth K "wants" "Watch.wants" wWants) (cw : Cls K (wC K)) (nA : NoAttr K (wC K) "states") (xf : XF K mg) (C_open_rest : GMeth P wd K mg base 1 "open_rest" FOpenRest) (C_place_of : GMeth P wd K mg base 2 "place_of" FPlaceOf) (C_today : MCalls P wd K mg base 1 "today" (PF FToday)) (C_with_day : Calls P wd K mg base 1 "with_day" (PF FWithDay)) : GMeth P wd K mg base 3 "wants" FWants := by
  obtain ⟨f, fd, FD, hm⟩ := FD.ex
  refine GMeth.mk (N := ["self", "day", "wanted", "book", "place"]) (ps := ["self", "day", "wanted"]) FD ⟨rfl, rfl, rfl, by decide +kernel, rfl, by decide +kernel, by decide +kernel⟩ hm (fun _ _ _ _ _ _ us h => by match us, h with | [a0, a1, a2], _ => rfl) (fun sl s R Y h => by cases h <;> rfl) fun cdv A outer z H E hr sl s R Y h => ?_
  have nd : (["self", "day", "wanted", "book", "place"] : List Str).Nodup := by decide +kernel
  cases h with
  | gone xs t d e hY =>
    refine sb_cons (sx_setC 3 nd (ec_meth0 (R := fun _ _ => False) (Y := True) C_open_rest cw (hr.mono (by decide)) (ei_var 0) rfl rfl (by exact .mk xs t none (fun b hb => nomatch hb) (fun hn => ⟨[], rfl, trivial⟩))) ?_ ?_)
    · rintro d s' ⟨_, _, h⟩
      exact h.elim
    · rintro s' ⟨rfl, _⟩
      exact hY
  | mk xs t b o n m hz hR hY =>
    refine sb_cons (sx_setC 3 nd (ec_meth0 (R := fun d st => d = dBk b ∧ st = xs ++ [dSt t (some b)]) (Y := False) C_open_rest cw (hr.mono (by decide)) (ei_var 0) rfl rfl (by exact .mk xs t (some b) (fun b' hb => by cases hb; exact ⟨_, [], rfl, imm_bk b, rfl, rfl⟩) (fun hn => nomatch hn))) ?_ ?_)
    · rintro d s' ⟨_, rfl, rfl, rfl⟩
      refine sb_cons (sx_setC 4 nd (ec_meth (R := fun d st => d = .int (n - t) ∧ st = xs ++ [dSt t (some b)] ∧ 0 ≤ n - t ∧ n - t < b.days.length) (Y := n - t < 0 ∨ (b.days.length : Int) ≤ n - t) C_place_of cw (hr.mono (by decide)) (ei_var 0) (ea_cons (ev_var 3) (ea_cons (ev_var 1) ea_nil)) rfl rfl (by exact .mk xs t (some b) b n (fun h1 h2 => ⟨_, [], rfl, .int _, rfl, rfl, h1, h2⟩) (fun hn => ⟨[], rfl, hn⟩))) ?_ ?_)
      · rintro d s' ⟨_, rfl, rfl, rfl, h1, h2⟩
        refine sb_cons (sx_if (k := decide (m < 0) || decide ((b.lamps.length : Int) < m)) (et_w (ew_or (et_cmp co_lt (er_ (ev_var 2)) (er_ ev_int)) fun _ => ew_or1 (et_cmp co_gt (er_ (ev_var 2)) (er_is (er_ (ev_len T (er_ (ev_ix (er_ (ev_var 3)) ev_int (h := (by first | assumption | rfl | exact at_ (by assumption) | exact at_n (by assumption))))))) (by rw [List.length_map]))))) (fun hk => ?_) (fun hk => ?_))
        · rw [Bool.or_eq_true, decide_eq_true_iff, decide_eq_true_iff] at hk
          exact sb_last (sx_rz xf (hY (.inr hk)))
        · rw [Bool.or_eq_false_iff, decide_eq_false_iff_not, decide_eq_false_iff_not] at hk
          obtain ⟨j, hj⟩ : ∃ j : Nat, n - t = j := ⟨(n - t).toNat, by omega⟩
          have hjl : j < b.days.length := by omega
          have hjd := get_bang hjl
          rw [hj]
          exact sb_nil (sb_last (sx_append (n := 1) (ds := xs ++ [dSt t (some b)]) (ei_fld cw nA (ei_var 0) rfl) (ev_tup (ea_cons (ev_methV0 C_today cw (hr.mono (by decide)) (er_ref 0) ⟨_, .mk xs t (some b), rfl⟩ (.imm (.int _))) (ea_cons (ev_call C_with_day (hr.mono (by decide)) (ea_cons (ev_var 3) (ea_cons (ev_var 4) (ea_cons (ev_is (y := dDy { b.days[j]! with wanted := m }) (ev_catT (ys := [.int m]) (ev_slT (xs := [.int b.days[j]!.boat, .int b.days[j]!.most, .int b.days[j]!.price, .int b.days[j]!.length, .int b.days[j]!.wanted]) (ev_ix (er_ (ev_ix (er_ (ev_var 3)) ev_int (h := (by first | assumption | rfl | exact at_ (by assumption) | exact at_n (by assumption))))) (ev_var 4) (h := (at_ (f := dDy) hjd))) eo_none (eo_some ev_int)) (ev_tup (ea_cons (ev_var 2) ea_nil))) (by rfl)) ea_nil))) (fun _ p => ⟨_, .mk b o j hjl _, p⟩)) ea_nil))) rfl (by simp; omega) (by exact hR j hj hjl (by omega) (by omega))))
      · rintro s' ⟨rfl, h⟩
        exact hY (.inl h)
    · rintro s' ⟨rfl, h⟩
      exact h.elim
end

/-! ## the law: its books -/
def cellF (ns : List Int) (k : Nat) : Int := ns.getD k 0
def stirF (c k : Int) : Int := ((c + 7919 * k + 101) % 2147483647 * ((c + 7919 * k + 101) % 2147483647) % 2147483647) * 48271 % 2147483629 / 7
theorem stir_nn (c k : Int) : 0 ≤ stirF c k := by unfold stirF; omega
inductive FLawCell : List D → D → Prop where
  | mk (ns : List Int) (k : Nat) : FLawCell [.scr ns, .int k] (.int (cellF ns k))
inductive FLawStir : List D → D → Prop where
  | mk (c k : Int) : FLawStir [.int c, .int k] (.int (stirF c k))
def lampF (c : Int) (days : Nat) (times : Int) : Lmp := ⟨stirF c 1 % 13 * times, stirF c 2 % (stirF c 1 % 13 + 1) * times, (rng days).filter fun d => decide (stirF c (20 + d) % 7 = 0)⟩
inductive FLawLamp : List D → D → Prop where
  | mk (c : Int) (days : Nat) (h : days ≤ 4) (times : Int) : FLawLamp [.int c, .int days, .int times] (dLmp (lampF c days times))
def dayF0 (c : Int) (lamps : Nat) (times : Int) : Dy := ⟨stirF c 3 % 15 * times, stirF c 4 % 10 * times, stirF c 5 % 7, (1 + stirF c 6 % 6) * times, stirF c 7 % (lamps + 1)⟩
inductive FLawDay : List D → D → Prop where
  | mk (c : Int) (lamps : Nat) (times : Int) : FLawDay [.int c, .int lamps, .int times] (dDy (dayF0 c lamps times))
def headF (ns : List Int) : Int := stirF (cellF ns 0) 0
def lampsN (h : Int) : Nat := (1 + h % 3).toNat
def daysN (h : Int) : Nat := (1 + h / 3 % 4).toNat
def timesF (h : Int) : Int := if h / 12 % 8 = 7 then 100000000000000 else 1
def bookH (h : Int) (ns : List Int) : Bk := ⟨h / 96 % 20 * timesF h, h / 1920 % 12 * timesF h, (List.range (lampsN h)).map fun k => lampF (cellF ns (1 + k)) (daysN h) (timesF h), (List.range (daysN h)).map fun k => dayF0 (cellF ns (4 + k)) (lampsN h) (timesF h)⟩
def bookF (ns : List Int) : Bk := bookH (headF ns) ns
inductive FLawBook : List D → D → Prop where
  | mk (ns : List Int) : FLawBook [.scr ns] (dBk (bookF ns))
theorem pow14 : D.int ((10 : Int) ^ (14 : Int).toNat) = .int 100000000000000 := by
  congr 1
theorem times_at {i : Int} (h0 : 0 ≤ i) (h8 : i < 8) : atI [D.int 1, D.int 1, D.int 1, D.int 1, D.int 1, D.int 1, D.int 1, D.int 100000000000000] i = some (.int (if i = 7 then 100000000000000 else 1)) := by
  have : i = 0 ∨ i = 1 ∨ i = 2 ∨ i = 3 ∨ i = 4 ∨ i = 5 ∨ i = 6 ∨ i = 7 := by omega
  rcases this with rfl | rfl | rfl | rfl | rfl | rfl | rfl | rfl <;> rfl
theorem rng_mem {n : Nat} {x : Int} (h : x ∈ rng n) : ∃ j : Nat, x = j ∧ j < n := by
  unfold rng at h
  obtain ⟨j, hj, rfl⟩ := List.mem_map.mp h
  exact ⟨j, rfl, List.mem_range.mp hj⟩
theorem bookH_ok (h : Int) (hh : 0 ≤ h) (ns : List Int) : (bookH h ns).Ok := by
  have hl : (bookH h ns).lamps.length = lampsN h := by simp [bookH]
  have hd : (bookH h ns).days.length = daysN h := by simp [bookH]
  have hL : 1 ≤ lampsN h ∧ lampsN h ≤ 3 := by unfold lampsN; omega
  have hD : 1 ≤ daysN h ∧ daysN h ≤ 4 := by unfold daysN; omega
  have ht : 1 ≤ timesF h := by unfold timesF; split <;> decide
  refine ⟨by omega, by omega, by omega, by omega, fun l hlm => ?_, fun d hdm => ?_, ?_⟩
  · obtain ⟨k, _, rfl⟩ := List.mem_map.mp hlm
    refine ⟨Int.mul_nonneg ?_ (by omega), Int.mul_le_mul_of_nonneg_right ?_ (by omega), Nat.le_trans (List.length_filter_le _ _) (by rw [rng_len]; exact hD.2)⟩
    · exact Int.emod_nonneg _ (by omega)
    · have := Int.emod_lt_of_pos (stirF (cellF ns (1 + k)) 2) (show 0 < stirF (cellF ns (1 + k)) 1 % 13 + 1 by omega)
      show stirF (cellF ns (1 + k)) 2 % (stirF (cellF ns (1 + k)) 1 % 13 + 1) ≤ stirF (cellF ns (1 + k)) 1 % 13
      omega
  · obtain ⟨k, _, rfl⟩ := List.mem_map.mp hdm
    rw [hl]
    have h7 := Int.emod_lt_of_pos (stirF (cellF ns (4 + k)) 7) (show (0 : Int) < (lampsN h : Int) + 1 by omega)
    have h7' := Int.emod_nonneg (stirF (cellF ns (4 + k)) 7) (show ((lampsN h : Int) + 1) ≠ 0 by omega)
    have h6 : 1 * timesF h ≤ (1 + stirF (cellF ns (4 + k)) 6 % 6) * timesF h := Int.mul_le_mul_of_nonneg_right (by omega) (by omega)
    refine ⟨Int.mul_nonneg (by omega) (by omega), Int.mul_nonneg (by omega) (by omega), ?_, h7', ?_⟩
    · show 1 ≤ (1 + stirF (cellF ns (4 + k)) 6 % 6) * timesF h
      omega
    · show stirF (cellF ns (4 + k)) 7 % ((lampsN h : Int) + 1) ≤ (lampsN h : Int)
      omega
  · exact ⟨Int.mul_nonneg (by omega) (by omega), Int.mul_nonneg (by omega) (by omega)⟩
theorem bookF_ok (ns : List Int) : (bookF ns).Ok := bookH_ok _ (stir_nn _ _) ns
section
variable {P : Program} {wd : World} {K : PySem.W.Frag} {mg : Str → Option Value} {base : Heap}
theorem c__law_cell (T : Tops K mg) (FD : IsDef K mg "_law_cell" sLawCell)  : Calls P wd K mg base 1 "_law_cell" (PF FLawCell) := by
  obtain ⟨f, fd, FD, hm⟩ := FD.ex
  refine Calls.mk (N := ["script", "k"]) (ps := ["script", "k"]) FD ⟨rfl, rfl, rfl, by decide +kernel, rfl, by decide +kernel, by decide +kernel⟩ hm (fun _ _ _ _ _ _ us h => by match us, h with | [a0, a1], _ => rfl) (fun ds Pd ⟨d, h, _⟩ => by cases h; rfl) fun cdv A outer s H E hr ds Pd ⟨d, h, hp⟩ => ?_
  have nd : (["script", "k"] : List Str).Nodup := by decide +kernel
  cases h with
  | mk ns k =>
  refine sb_cons (sx_if (k := decide (k < ns.length)) (et_is (et_cmp co_lt (er_ (ev_var 1)) (er_ (ev_lenS T (ev_var 0)))) (decide_eq_decide.mpr (by omega))) (fun hk => ?_) (fun hk => ?_))
  · have hk' := of_decide_eq_true hk
    refine sb_last (sx_ret (ev_is (ev_ixS (ev_var 0) (ev_var 1) (h := (at_n (x := ns[k]'hk') (by simp)))) ?_) hp)
    simp [cellF, hk']
  · have hk' := of_decide_eq_false hk
    refine sb_nil (sb_last (sx_ret (ev_is ev_int ?_) hp))
    simp [cellF, Nat.le_of_not_lt hk']
theorem c__law_stir (T : Tops K mg) (FD : IsDef K mg "_law_stir" sLawStir)  : Calls P wd K mg base 1 "_law_stir" (PF FLawStir) := by
  obtain ⟨f, fd, FD, hm⟩ := FD.ex
  refine Calls.mk (N := ["cell", "k", "near"]) (ps := ["cell", "k"]) FD ⟨rfl, rfl, rfl, by decide +kernel, rfl, by decide +kernel, by decide +kernel⟩ hm (fun _ _ _ _ _ _ us h => by match us, h with | [a0, a1], _ => rfl) (fun ds Pd ⟨d, h, _⟩ => by cases h; rfl) fun cdv A outer s H E hr ds Pd ⟨d, h, hp⟩ => ?_
  have nd : (["cell", "k", "near"] : List Str).Nodup := by decide +kernel
  cases h with
  | mk c k =>
  refine sb_cons (sx_set 2 nd (ev_mod (ev_add (ev_add (ev_var 0) (ev_mul ev_int (ev_var 1))) ev_int) ev_int) ?_)
  refine sb_cons (sx_set 2 nd (ev_mod (ev_mul (ev_var 2) (ev_var 2)) ev_int) ?_)
  exact sb_last (sx_ret (ev_fdiv (ev_mod (ev_mul (ev_var 2) ev_int) ev_int) ev_int) hp)
theorem c__law_lamp (T : Tops K mg) (FD : IsDef K mg "_law_lamp" sLawLamp) (C__law_stir : Calls P wd K mg base 1 "_law_stir" (PF FLawStir)) : Calls P wd K mg base 2 "_law_lamp" (PF FLawLamp) := by
  obtain ⟨f, fd, FD, hm⟩ := FD.ex
  refine Calls.mk (N := ["cell", "days", "times", "tank", "oil", "away", "day"]) (ps := ["cell", "days", "times"]) FD ⟨rfl, rfl, rfl, by decide +kernel, rfl, by decide +kernel, by decide +kernel⟩ hm (fun _ _ _ _ _ _ us h => by match us, h with | [a0, a1, a2], _ => rfl) (fun ds Pd ⟨d, h, _⟩ => by cases h; rfl) fun cdv A outer s H E hr ds Pd ⟨d, h, hp⟩ => ?_
  have nd : (["cell", "days", "times", "tank", "oil", "away", "day"] : List Str).Nodup := by decide +kernel
  cases h with
  | mk c days h times =>
  refine sb_cons (sx_set 3 nd (ev_mod (ev_call C__law_stir (hr.mono (by decide)) (ea_cons (ev_var 0) (ea_cons ev_int ea_nil)) (fun _ p => ⟨_, .mk c 1, p⟩)) ev_int) ?_)
  refine sb_cons (sx_set 4 nd (ev_mod (ev_call C__law_stir (hr.mono (by decide)) (ea_cons (ev_var 0) (ea_cons ev_int ea_nil)) (fun _ p => ⟨_, .mk c 2, p⟩)) (ev_add (ev_var 3) ev_int)) ?_)
  refine sb_cons (sx_setLc (ds := ((rng days).filter fun d => decide (stirF c (20 + d) % 7 = 0)).map D.int) 5 nd (lc_if (enc := D.int) (f := D.int) (pr := fun d => decide (stirF c (20 + d) % 7 = 0)) (xs := rng days) 6 nd (es_range T (ev_var 1) (by omega)) (blkOk_by (own := [("day", 6)]) (N := ["cell", "days", "times", "tank", "oil", "away", "day"]) (sc := defScope sLawLamp) (by decide +kernel)) rfl (by first | exact Or.inl rfl | exact Or.inr rfl) (by first | exact Or.inl rfl | exact Or.inr rfl) (fun _ _ _ _ _ x hx => (et_cmp co_eq (er_ (ev_mod (ev_call C__law_stir (hr.mono (by decide)) (ea_cons (ev_var 0) (ea_cons (ev_add ev_int (ev_var 6)) ea_nil)) (fun _ p => ⟨_, .mk c (20 + x), p⟩)) ev_int)) (er_ ev_int))) (fun _ _ _ _ _ x hx _ => (ev_var 6)) (by rw [rng_len]; omega)) ?_)
  have m2 := Int.emod_nonneg (stirF c 2) (show (stirF c 1 % 13 + 1) ≠ 0 by omega)
  have m3 := Int.emod_lt_of_pos (stirF c 2) (show 0 < stirF c 1 % 13 + 1 by omega)
  exact sb_last (sx_ret (ev_tup (ea_cons (ev_mul (ev_var 3) (ev_var 2)) (ea_cons (ev_mul (ev_var 4) (ev_var 2)) (ea_cons (ev_tupleOf T (er_ (ev_var 5))) ea_nil)))) hp)
theorem c__law_day (T : Tops K mg) (FD : IsDef K mg "_law_day" sLawDay) (C__law_stir : Calls P wd K mg base 1 "_law_stir" (PF FLawStir)) : Calls P wd K mg base 2 "_law_day" (PF FLawDay) := by
  obtain ⟨f, fd, FD, hm⟩ := FD.ex
  refine Calls.mk (N := ["cell", "lamps", "times", "boat", "most", "length"]) (ps := ["cell", "lamps", "times"]) FD ⟨rfl, rfl, rfl, by decide +kernel, rfl, by decide +kernel, by decide +kernel⟩ hm (fun _ _ _ _ _ _ us h => by match us, h with | [a0, a1, a2], _ => rfl) (fun ds Pd ⟨d, h, _⟩ => by cases h; rfl) fun cdv A outer s H E hr ds Pd ⟨d, h, hp⟩ => ?_
  have nd : (["cell", "lamps", "times", "boat", "most", "length"] : List Str).Nodup := by decide +kernel
  cases h with
  | mk c lamps times =>
  refine sb_cons (sx_set 3 nd (ev_mul (ev_mod (ev_call C__law_stir (hr.mono (by decide)) (ea_cons (ev_var 0) (ea_cons ev_int ea_nil)) (fun _ p => ⟨_, .mk c 3, p⟩)) ev_int) (ev_var 2)) ?_)
  refine sb_cons (sx_set 4 nd (ev_mul (ev_mod (ev_call C__law_stir (hr.mono (by decide)) (ea_cons (ev_var 0) (ea_cons ev_int ea_nil)) (fun _ p => ⟨_, .mk c 4, p⟩)) ev_int) (ev_var 2)) ?_)
  refine sb_cons (sx_set 5 nd (ev_mul (ev_add ev_int (ev_mod (ev_call C__law_stir (hr.mono (by decide)) (ea_cons (ev_var 0) (ea_cons ev_int ea_nil)) (fun _ p => ⟨_, .mk c 6, p⟩)) ev_int)) (ev_var 2)) ?_)
  exact sb_last (sx_ret (ev_tup (ea_cons (ev_var 3) (ea_cons (ev_var 4) (ea_cons (ev_mod (ev_call C__law_stir (hr.mono (by decide)) (ea_cons (ev_var 0) (ea_cons ev_int ea_nil)) (fun _ p => ⟨_, .mk c 5, p⟩)) ev_int) (ea_cons (ev_var 5) (ea_cons (ev_mod (ev_call C__law_stir (hr.mono (by decide)) (ea_cons (ev_var 0) (ea_cons ev_int ea_nil)) (fun _ p => ⟨_, .mk c 7, p⟩)) (ev_add (ev_var 1) ev_int)) ea_nil)))))) hp)
end

theorem ev_1e14 {X : Cx} {ρ : List Sl} {s : List MO} {i j : Nat} {p1 p2 p3 : Pos} : EV X ρ s (.BinOp (.Constant (.int 10) i p1) .Pow (.Constant (.int 14) j p2) p3) (.int 100000000000000) := ev_is (ev_pow ev_int ev_int) pow14
theorem lc_is {X : Cx} {ρ : List Sl} {s : List MO} {elt tg iter : Expr} {ifs : List Expr} {scope : Scope} {ds ds' : List D} (h : LcR X ρ s elt tg iter ifs scope ds) (k : ds = ds') : LcR X ρ s elt tg iter ifs scope ds' := by rw [← k]; exact h
section
variable {P : Program} {wd : World} {K : PySem.W.Frag} {mg : Str → Option Value} {base : Heap}
theorem c__law_book (T : Tops K mg) (FD : IsDef K mg "_law_book" sLawBook) (C__law_stir : Calls P wd K mg base 1 "_law_stir" (PF FLawStir)) (C__law_cell : Calls P wd K mg base 1 "_law_cell" (PF FLawCell)) (C__law_lamp : Calls P wd K mg base 2 "_law_lamp" (PF FLawLamp)) (C__law_day : Calls P wd K mg base 2 "_law_day" (PF FLawDay)) : Calls P wd K mg base 3 "_law_book" (PF FLawBook) := by
  obtain ⟨f, fd, FD, hm⟩ := FD.ex
  refine Calls.mk (N := ["script", "head", "lamps", "days", "times", "store", "oil", "held", "k", "told_days"]) (ps := ["script"]) FD ⟨rfl, rfl, rfl, by decide +kernel, rfl, by decide +kernel, by decide +kernel⟩ hm (fun _ _ _ _ _ _ us h => by match us, h with | [a0], _ => rfl) (fun ds Pd ⟨d, h, _⟩ => by cases h; rfl) fun cdv A outer s H E hr ds Pd ⟨d, h, hp⟩ => ?_
  have nd : (["script", "head", "lamps", "days", "times", "store", "oil", "held", "k", "told_days"] : List Str).Nodup := by decide +kernel
  cases h with
  | mk ns =>
  have hh : 0 ≤ headF ns := stir_nn _ _
  refine sb_cons (sx_set (d := .int (headF ns)) 1 nd (ev_call C__law_stir (hr.mono (by decide)) (ea_cons (ev_call C__law_cell (hr.mono (by decide)) (ea_cons (ev_var 0) (ea_cons ev_int ea_nil)) (fun _ p => ⟨_, .mk ns 0, p⟩)) (ea_cons ev_int ea_nil)) (fun _ p => ⟨_, .mk _ 0, p⟩)) ?_)
  unfold bookF at hp
  generalize headF ns = h at hh hp ⊢
  have hL : 1 ≤ lampsN h ∧ lampsN h ≤ 3 := by unfold lampsN; omega
  have hD : 1 ≤ daysN h ∧ daysN h ≤ 4 := by unfold daysN; omega
  refine sb_cons (sx_set (d := .int (lampsN h : Nat)) 2 nd (ev_is (ev_add ev_int (ev_mod (ev_var 1) ev_int)) (by unfold lampsN; congr 1; omega)) ?_)
  refine sb_cons (sx_set (d := .int (daysN h : Nat)) 3 nd (ev_is (ev_add ev_int (ev_mod (ev_fdiv (ev_var 1) ev_int) ev_int)) (by unfold daysN; congr 1; omega)) ?_)
  have hx : atI [D.int 1, D.int 1, D.int 1, D.int 1, D.int 1, D.int 1, D.int 1, D.int 100000000000000] (h / 12 % 8) = some (.int (timesF h)) := by unfold timesF; exact times_at (by omega) (by omega)
  refine sb_cons ?_
  generalize hq : Const.int 14 = q
  have hq2 : ∀ (X : Cx) (ρ : List Sl) (s : List MO) (i j : Nat) (p1 p2 p3 : Pos), EV X ρ s (.BinOp (.Constant (.int 10) i p1) .Pow (.Constant q j p2) p3) (.int 100000000000000) := fun X ρ s i j p1 p2 p3 => by
    rw [← hq]
    exact ev_1e14
  refine sx_set 4 nd (ev_ix (er_n (en_lst (ea_cons ev_int (ea_cons ev_int (ea_cons ev_int (ea_cons ev_int (ea_cons ev_int (ea_cons ev_int (ea_cons ev_int (ea_cons (hq2 _ _ _ _ _ _ _ _) ea_nil)))))))))) (ev_mod (ev_fdiv (ev_var 1) ev_int) ev_int) (h := hx)) ?_ (hs := by subst hq; kernel_rfl)
  refine sb_cons (sx_set 5 nd (ev_mul (ev_mod (ev_fdiv (ev_var 1) ev_int) ev_int) (ev_var 4)) ?_)
  refine sb_cons (sx_set 6 nd (ev_mul (ev_mod (ev_fdiv (ev_var 1) ev_int) ev_int) (ev_var 4)) ?_)
  refine sb_cons (sx_setLc (ds := ((List.range (lampsN h)).map fun k => lampF (cellF ns (1 + k)) (daysN h) (timesF h)).map dLmp) 7 nd (lc_is (lc_all (enc := eNat) (f := fun k => dLmp (lampF (cellF ns (1 + k)) (daysN h) (timesF h))) (xs := List.range (lampsN h)) 8 nd (es_rangeN T (ev_var 2) (by omega)) (blkOk_by (own := [("k", 8)]) (N := ["script", "head", "lamps", "days", "times", "store", "oil", "held", "k", "told_days"]) (sc := defScope sLawBook) (by decide +kernel)) rfl (by first | exact Or.inl rfl | exact Or.inr rfl) (by first | exact Or.inl rfl | exact Or.inr rfl) (fun _ _ _ _ _ k hk => (ev_call C__law_lamp (hr.mono (by decide)) (ea_cons (ev_call C__law_cell (hr.mono (by decide)) (ea_cons (ev_var 0) (ea_cons (ev_add ev_int (ev_var 8)) ea_nil)) (fun _ p => ⟨_, .mk ns (1 + k), p⟩)) (ea_cons (ev_var 3) (ea_cons (ev_var 4) ea_nil))) (fun _ p => ⟨_, .mk _ _ hD.2 _, p⟩))) (by rw [List.length_range]; omega)) (by rw [List.map_map]; rfl)) ?_)
  refine sb_cons (sx_setLc (ds := ((List.range (daysN h)).map fun k => dayF0 (cellF ns (4 + k)) (lampsN h) (timesF h)).map dDy) 9 nd (lc_is (lc_all (enc := eNat) (f := fun k => dDy (dayF0 (cellF ns (4 + k)) (lampsN h) (timesF h))) (xs := List.range (daysN h)) 8 nd (es_rangeN T (ev_var 3) (by omega)) (blkOk_by (own := [("k", 8)]) (N := ["script", "head", "lamps", "days", "times", "store", "oil", "held", "k", "told_days"]) (sc := defScope sLawBook) (by decide +kernel)) rfl (by first | exact Or.inl rfl | exact Or.inr rfl) (by first | exact Or.inl rfl | exact Or.inr rfl) (fun _ _ _ _ _ k hk => (ev_call C__law_day (hr.mono (by decide)) (ea_cons (ev_call C__law_cell (hr.mono (by decide)) (ea_cons (ev_var 0) (ea_cons (ev_add ev_int (ev_var 8)) ea_nil)) (fun _ p => ⟨_, .mk ns (4 + k), p⟩)) (ea_cons (ev_var 2) (ea_cons (ev_var 4) ea_nil))) (fun _ p => ⟨_, .mk _ _ _, p⟩))) (by rw [List.length_range]; omega)) (by rw [List.map_map]; rfl)) ?_)
  exact sb_last (sx_ret (ev_tup (ea_cons (ev_var 5) (ea_cons (ev_var 6) (ea_cons (ev_tupleOf T (er_ (ev_var 7))) (ea_cons (ev_tupleOf T (er_ (ev_var 9))) ea_nil))))) hp)
end

/-! ## the law: what a deed leaves -/
def subTo (t : List Int) (sp : List Spn) : Nat → List Int
  | 0 => t
  | i + 1 => (subTo t sp i).set sp[i]!.lamp.toNat ((subTo t sp i)[sp[i]!.lamp.toNat]! - (sp[i]!.hi - sp[i]!.lo))
theorem subTo_len (t : List Int) (sp : List Spn) : ∀ i, (subTo t sp i).length = t.length
  | 0 => rfl
  | i + 1 => by
    show ((subTo t sp i).set _ _).length = _
    rw [List.length_set, subTo_len t sp i]
theorem subTo_eq (t : List Int) (sp : List Spn) {q : Nat} (hq : q < t.length) : ∀ i, (subTo t sp i)[q]! = t[q]! - (ticksTo t.length sp i)[q]!
  | 0 => by
    show t[q]! = t[q]! - (List.replicate t.length (0 : Int))[q]!
    have : (List.replicate t.length (0 : Int))[q]! = 0 := by simp [hq]
    omega
  | i + 1 => by
    have ih := subTo_eq t sp hq i
    have l1 := subTo_len t sp i
    have l2 := ticksTo_len t.length sp i
    show ((subTo t sp i).set _ _)[q]! = t[q]! - ((ticksTo t.length sp i).set sp[i]!.lamp.toNat ((ticksTo t.length sp i)[sp[i]!.lamp.toNat]! + (sp[i]!.hi - sp[i]!.lo)))[q]!
    by_cases e : sp[i]!.lamp.toNat = q
    · rw [e, set_eq! (by omega), set_eq! (by omega)]
      omega
    · rw [set_ne! e, set_ne! e]
      exact ih
inductive FLawAfter : List D → D → Prop where
  | mk (b : Bk) (o : b.Ok) (x : Part) (hx : x.poured.length = b.lamps.length) (hs : ∀ y ∈ x.spans, 0 ≤ y.lamp ∧ y.lamp < b.lamps.length) : FLawAfter [dBk b, dPart x] (dOB (b.behind (goneStore (b.cut 1) b.oil x) (goneTanks (b.lamps.map (·.oil)) x)))
inductive FLawFailed : List D → D → Prop where
  | mk (b : Bk) (i : Nat) (h : i < b.lamps.length) (h2 : b.days.length ≤ 4) : FLawFailed [dBk b, .int i] (dBk (b.leftOut i))
inductive FLawDayPut : List D → D → Prop where
  | mk (b : Bk) (j : Nat) (h : j < b.days.length) (d : Dy) : FLawDayPut [dBk b, .int j, dDy d] (dBk { b with days := b.days.set j d })
section
variable {P : Program} {wd : World} {K : PySem.W.Frag} {mg : Str → Option Value} {base : Heap}
theorem c__law_after (T : Tops K mg) (FD : IsDef K mg "_law_after" sLawAfter)  : Calls P wd K mg base 1 "_law_after" (PF FLawAfter) := by
  obtain ⟨f, fd, FD, hm⟩ := FD.ex
  refine Calls.mk (N := ["book", "part", "tanks", "k", "lamp", "start", "end", "kept", "lamps", "day"]) (ps := ["book", "part"]) FD ⟨rfl, rfl, rfl, by decide +kernel, rfl, by decide +kernel, by decide +kernel⟩ hm (fun _ _ _ _ _ _ us h => by match us, h with | [a0, a1], _ => rfl) (fun ds Pd ⟨d, h, _⟩ => by cases h; rfl) fun cdv A outer s H E hr ds Pd ⟨d, h, hp⟩ => ?_
  have nd : (["book", "part", "tanks", "k", "lamp", "start", "end", "kept", "lamps", "day"] : List Str).Nodup := by decide +kernel
  cases h with
  | mk b o x hx hs =>
  have hl3 := o.l3
  have hpl : (pouredIn (b.lamps.map (·.oil)) x).length = b.lamps.length := by rw [poured_len, List.length_map]
  refine sb_cons (sx_newLc (ds := (pouredIn (b.lamps.map (·.oil)) x).map D.int) 2 nd (lc_is (lc_all (enc := eNat) (f := fun i => D.int (b.lamps[i]!.oil + x.poured[i]!)) (xs := List.range b.lamps.length) 3 nd (es_rangeN T (ev_is (ev_len T (er_ (ev_ix (er_ (ev_var 0)) ev_int (h := (by first | assumption | rfl | exact at_ (by assumption) | exact at_n (by assumption)))))) (by rw [List.length_map])) (by omega)) (blkOk_by (own := [("k", 3)]) (N := ["book", "part", "tanks", "k", "lamp", "start", "end", "kept", "lamps", "day"]) (sc := defScope sLawAfter) (by decide +kernel)) rfl (by first | exact Or.inl rfl | exact Or.inr rfl) (by first | exact Or.inl rfl | exact Or.inr rfl) (fun _ _ _ _ _ i hi => ?_) (by simp; omega)) ?_) ?_)
  · have hi2 : i < b.lamps.length := List.mem_range.mp hi
    have g1 := get_bang hi2
    have g2 := get_bang (xs := x.poured) (j := i) (by omega)
    exact (ev_add (ev_ix (er_ (ev_ix (er_ (ev_ix (er_ (ev_var 0)) ev_int (h := (by first | assumption | rfl | exact at_ (by assumption) | exact at_n (by assumption))))) (ev_var 3) (h := (at_ g1)))) ev_int (h := (by first | assumption | rfl | exact at_ (by assumption) | exact at_n (by assumption)))) (ev_ix (er_ (ev_ix (er_ (ev_var 1)) ev_int (h := (by first | assumption | rfl | exact at_ (by assumption) | exact at_n (by assumption))))) (ev_var 3) (h := (at_ g2))))
  · unfold pouredIn
    rw [List.map_map, List.length_map]
    apply List.map_congr_left
    intro i hi
    have hi2 : i < b.lamps.length := List.mem_range.mp hi
    show D.int _ = D.int _
    congr 2
    simp [hi2]
  refine sb_cons (sx_for (items := x.spans.map dSpn) (es_tup (ev_ix (er_ (ev_var 1)) ev_int (h := (by first | assumption | rfl | exact at_ (by assumption) | exact at_n (by assumption))))) (gx_tup (gxs_cons 4 nd (gxs_cons 5 nd (gxs_cons 6 nd gxs_nil)))) (fun i ρ s => ∃ y z u, ρ = (((start0 ["book", "part", "tanks", "k", "lamp", "start", "end", "kept", "lamps", "day"] [.d (dBk b), .d (dPart x)]).set 2 (.r 0)).set 4 y |>.set 5 z |>.set 6 u) ∧ s = [.lst ((subTo (pouredIn (b.lamps.map (·.oil)) x) x.spans i).map D.int)]) ⟨.no, .no, .no, rfl, rfl⟩ ?_ ?_)
  · rintro i d ρ s hd ⟨y, z, u, rfl, rfl⟩
    obtain ⟨t, ht, rfl⟩ := map_get hd
    have hh := hs t (List.mem_of_getElem? ht)
    have et : x.spans[i]! = t := by simp [ht]
    obtain ⟨j, hj⟩ : ∃ j : Nat, t.lamp = j := ⟨t.lamp.toNat, by omega⟩
    have hlen := subTo_len (pouredIn (b.lamps.map (·.oil)) x) x.spans i
    have hjm : j < (subTo (pouredIn (b.lamps.map (·.oil)) x) x.spans i).length := by omega
    have hg := get_bang hjm
    obtain ⟨tl, tlo, thi⟩ := t
    simp only at hj
    subst hj
    refine ⟨_, rfl, ?_⟩
    refine sb_last (sx_setIx (ei_var 2) (ev_var 4) (ev_sub (ev_ix (er_ref 2) (ev_var 4) (h := (by first | assumption | rfl | exact at_ (by assumption) | exact at_n (by assumption)))) (ev_sub (ev_var 6) (ev_var 5))) rfl (ixN_nat (by rw [List.length_map]; exact hjm)) ⟨_, _, _, rfl, ?_⟩)
    have e1 : subTo (pouredIn (b.lamps.map (·.oil)) x) x.spans (i + 1) = (subTo (pouredIn (b.lamps.map (·.oil)) x) x.spans i).set j ((subTo (pouredIn (b.lamps.map (·.oil)) x) x.spans i)[j]! - (thi - tlo)) := by
      show (subTo (pouredIn (b.lamps.map (·.oil)) x) x.spans i).set x.spans[i]!.lamp.toNat _ = _
      rw [et]
      rfl
    rw [e1, ← map_set_]
    rfl
  · rintro ρ s ⟨y, z, u, rfl, rfl⟩
    rw [List.length_map]
    have hsl := subTo_len (pouredIn (b.lamps.map (·.oil)) x) x.spans x.spans.length
    have eg : subTo (pouredIn (b.lamps.map (·.oil)) x) x.spans x.spans.length = goneTanks (b.lamps.map (·.oil)) x := by
      apply List.ext_getElem
      · rw [hsl, goneTanks_len, poured_len]
      · intro q h1 h2
        have hq : q < (pouredIn (b.lamps.map (·.oil)) x).length := by omega
        have := subTo_eq (pouredIn (b.lamps.map (·.oil)) x) x.spans hq x.spans.length
        have e1 : (subTo (pouredIn (b.lamps.map (·.oil)) x) x.spans x.spans.length)[q]! = (subTo (pouredIn (b.lamps.map (·.oil)) x) x.spans x.spans.length)[q] := by simp [h1]
        rw [← e1, this]
        unfold goneTanks ticksF
        rw [poured_len] at hq ⊢
        simp [hq]
    rw [eg]
    have hgl : (goneTanks (b.lamps.map (·.oil)) x).length = b.lamps.length := by rw [goneTanks_len, List.length_map]
    refine sb_cons (sx_set (d := .int (goneStore (b.cut 1) b.oil x)) 7 nd (ev_is (ev_min2 T (ev_ix (er_ (ev_var 0)) ev_int (h := (by first | assumption | rfl | exact at_ (by assumption) | exact at_n (by assumption)))) (ev_sub (ev_add (ev_add (ev_ix (er_ (ev_var 0)) ev_int (h := (by first | assumption | rfl | exact at_ (by assumption) | exact at_n (by assumption)))) (ev_ix (er_ (ev_var 1)) ev_int (h := (by first | assumption | rfl | exact at_ (by assumption) | exact at_n (by assumption))))) (ev_ix (er_ (ev_var 1)) ev_int (h := (by first | assumption | rfl | exact at_ (by assumption) | exact at_n (by assumption))))) (ev_sumT T (ev_ix (er_ (ev_var 1)) ev_int (h := (by first | assumption | rfl | exact at_ (by assumption) | exact at_n (by assumption))))))) (by unfold goneStore; rw [Int.min_comm]; rfl)) ?_)
    refine sb_cons (sx_new 8 nd (en_lst ea_nil) ?_)
    generalize goneStore (b.cut 1) b.oil x = st at hp ⊢
    generalize goneTanks (b.lamps.map (·.oil)) x = ts at hp hgl ⊢
    refine sb_cons (sx_for (items := (List.range b.lamps.length).map eNat) (es_rangeN T (ev_is (ev_len T (er_ref 2)) (by rw [List.length_map, hgl])) (by omega)) (gx_name 3 nd) (fun i ρ s => ∃ y z u v, ρ = (((((start0 ["book", "part", "tanks", "k", "lamp", "start", "end", "kept", "lamps", "day"] [.d (dBk b), .d (dPart x)]).set 2 (.r 0)).set 4 y |>.set 5 z |>.set 6 u).set 7 (.d (.int st))).set 8 (.r 1)).set 3 v ∧ s = [.lst (ts.map D.int), .lst ((b.nextLs ts i).map dLmp)]) ⟨y, z, u, .no, rfl, rfl⟩ ?_ ?_)
    · rintro i d ρ s hd ⟨y, z, u, v, rfl, rfl⟩
      obtain ⟨i', hi', rfl⟩ := map_get hd
      obtain ⟨hi, rfl⟩ := range_get hi'
      have g1 := get_bang hi
      have g2 := get_bang (xs := ts) (j := i') (by omega)
      have hal := (o.lamp _ (List.mem_of_getElem? g1)).2.2
      refine ⟨_, rfl, sb_last (sx_append (ei_var 8) (ev_tup (ea_cons (ev_ix (er_ (ev_ix (er_ (ev_ix (er_ (ev_var 0)) ev_int (h := (by first | assumption | rfl | exact at_ (by assumption) | exact at_n (by assumption))))) (ev_var 3) (h := (at_ g1)))) ev_int (h := (by first | assumption | rfl | exact at_ (by assumption) | exact at_n (by assumption)))) (ea_cons (ev_ix (er_ref 2) (ev_var 3) (h := (at_ g2))) (ea_cons (ev_tupleOf T (er_n (en_is (en_lc nd (lc_if (enc := D.int) (f := fun x => D.int (x - 1)) (pr := fun x => decide (0 < x)) (xs := b.lamps[i']!.away) 9 nd (es_tup (ev_ix (er_ (ev_ix (er_ (ev_ix (er_ (ev_var 0)) ev_int (h := (by first | assumption | rfl | exact at_ (by assumption) | exact at_n (by assumption))))) (ev_var 3) (h := (at_ (f := dLmp) g1)))) ev_int (h := (by first | assumption | rfl | exact at_ (by assumption) | exact at_n (by assumption))))) (blkOk_by (own := [("day", 9)]) (N := ["book", "part", "tanks", "k", "lamp", "start", "end", "kept", "lamps", "day"]) (sc := defScope sLawAfter) (by decide +kernel)) rfl (by first | exact Or.inl rfl | exact Or.inr rfl) (by first | exact Or.inl rfl | exact Or.inr rfl) (fun _ _ _ _ _ x hx => (et_cmp co_gt (er_ (ev_var 9)) (er_ ev_int))) (fun _ _ _ _ _ x hx _ => (ev_sub (ev_var 9) ev_int)) (by omega))) (map_ints (fun x => x - 1) _)))) ea_nil)))) rfl (by unfold Bk.nextLs; simp; omega) ⟨_, _, _, _, rfl, ?_⟩)⟩
      have e3 : b.nextLs ts (i' + 1) = b.nextLs ts i' ++ [nextL b.lamps[i']! ts[i']!] := by
        unfold Bk.nextLs
        rw [List.range_succ, List.map_append, List.map_cons, List.map_nil]
      rw [e3, List.map_append]
      rfl
    · rintro ρ s ⟨y, z, u, v, rfl, rfl⟩
      rw [List.length_map, List.length_range]
      refine sb_cons (sx_if (k := decide (b.days.length = 1)) (et_is (et_cmp co_eq (er_ (ev_len T (er_ (ev_ix (er_ (ev_var 0)) ev_int (h := (by first | assumption | rfl | exact at_ (by assumption) | exact at_n (by assumption))))))) (er_ ev_int)) (by rw [List.length_map]; exact decide_eq_decide.mpr (by omega))) (fun hk => ?_) (fun hk => ?_))
      · have hk' := of_decide_eq_true hk
        rw [Bk.behind, if_pos hk'] at hp
        exact sb_last (sx_ret ev_non hp)
      · have hk' := of_decide_eq_false hk
        rw [Bk.behind, if_neg hk'] at hp
        refine sb_nil (sb_last (sx_ret (ev_is (ev_tup (ea_cons (ev_ix (er_ (ev_var 0)) ev_int (h := (by first | assumption | rfl | exact at_ (by assumption) | exact at_n (by assumption)))) (ea_cons (ev_var 7) (ea_cons (ev_tupleOf T (er_ref 8)) (ea_cons (ev_slT (ev_ix (er_ (ev_var 0)) ev_int (h := (by first | assumption | rfl | exact at_ (by assumption) | exact at_n (by assumption)))) (eo_some ev_int) eo_none) ea_nil))))) ?_) hp))
        rw [show ((1 : Int)) = ((1 : Nat) : Int) from rfl, cutD_drop, ← List.map_drop]
        rfl
theorem c__law_failed (T : Tops K mg) (FD : IsDef K mg "_law_failed" sLawFailed)  : Calls P wd K mg base 1 "_law_failed" (PF FLawFailed) := by
  obtain ⟨f, fd, FD, hm⟩ := FD.ex
  refine Calls.mk (N := ["book", "lamp", "lamps"]) (ps := ["book", "lamp"]) FD ⟨rfl, rfl, rfl, by decide +kernel, rfl, by decide +kernel, by decide +kernel⟩ hm (fun _ _ _ _ _ _ us h => by match us, h with | [a0, a1], _ => rfl) (fun ds Pd ⟨d, h, _⟩ => by cases h; rfl) fun cdv A outer s H E hr ds Pd ⟨d, h, hp⟩ => ?_
  have nd : (["book", "lamp", "lamps"] : List Str).Nodup := by decide +kernel
  cases h with
  | mk b i h h2 =>
  have hi := get_bang h
  refine sb_cons (sx_new 2 nd (en_listOf T (er_ (ev_ix (er_ (ev_var 0)) ev_int (h := (by first | assumption | rfl | exact at_ (by assumption) | exact at_n (by assumption)))))) ?_)
  refine sb_cons (sx_setIx (ei_var 2) (ev_var 1) (ev_tup (ea_cons (ev_ix (er_ (ev_ix (er_ref 2) (ev_var 1) (h := (at_ hi)))) ev_int (h := (by first | assumption | rfl | exact at_ (by assumption) | exact at_n (by assumption)))) (ea_cons (ev_ix (er_ (ev_ix (er_ref 2) (ev_var 1) (h := (at_ hi)))) ev_int (h := (by first | assumption | rfl | exact at_ (by assumption) | exact at_n (by assumption)))) (ea_cons (ev_tupleRange T (ev_len T (er_ (ev_ix (er_ (ev_var 0)) ev_int (h := (by first | assumption | rfl | exact at_ (by assumption) | exact at_n (by assumption)))))) (by simp; omega)) ea_nil)))) rfl (ixN_nat (by simpa using h)) ?_)
  refine sb_last (sx_ret (ev_is (ev_tup (ea_cons (ev_ix (er_ (ev_var 0)) ev_int (h := (by first | assumption | rfl | exact at_ (by assumption) | exact at_n (by assumption)))) (ea_cons (ev_ix (er_ (ev_var 0)) ev_int (h := (by first | assumption | rfl | exact at_ (by assumption) | exact at_n (by assumption)))) (ea_cons (ev_tupleOf T (er_ref 2)) (ea_cons (ev_ix (er_ (ev_var 0)) ev_int (h := (by first | assumption | rfl | exact at_ (by assumption) | exact at_n (by assumption)))) ea_nil))))) ?_) hp)
  show D.tup [_, _, .tup ((b.lamps.map dLmp).set i (dLmp ⟨_, _, rng (b.days.map dDy).length⟩)), _] = _
  rw [map_set_, List.length_map]
  rfl
theorem c__law_day_put (T : Tops K mg) (FD : IsDef K mg "_law_day_put" sLawDayPut)  : Calls P wd K mg base 1 "_law_day_put" (PF FLawDayPut) := by
  obtain ⟨f, fd, FD, hm⟩ := FD.ex
  refine Calls.mk (N := ["book", "place", "day", "days"]) (ps := ["book", "place", "day"]) FD ⟨rfl, rfl, rfl, by decide +kernel, rfl, by decide +kernel, by decide +kernel⟩ hm (fun _ _ _ _ _ _ us h => by match us, h with | [a0, a1, a2], _ => rfl) (fun ds Pd ⟨d, h, _⟩ => by cases h; rfl) fun cdv A outer s H E hr ds Pd ⟨d, h, hp⟩ => ?_
  have nd : (["book", "place", "day", "days"] : List Str).Nodup := by decide +kernel
  cases h with
  | mk b j h d =>
  refine sb_cons (sx_new 3 nd (en_listOf T (er_ (ev_ix (er_ (ev_var 0)) ev_int (h := (by first | assumption | rfl | exact at_ (by assumption) | exact at_n (by assumption)))))) ?_)
  refine sb_cons (sx_setIx (ei_var 3) (ev_var 1) (ev_var 2) rfl (ixN_nat (by simpa using h)) ?_)
  refine sb_last (sx_ret (ev_is (ev_tup (ea_cons (ev_ix (er_ (ev_var 0)) ev_int (h := (by first | assumption | rfl | exact at_ (by assumption) | exact at_n (by assumption)))) (ea_cons (ev_ix (er_ (ev_var 0)) ev_int (h := (by first | assumption | rfl | exact at_ (by assumption) | exact at_n (by assumption)))) (ea_cons (ev_ix (er_ (ev_var 0)) ev_int (h := (by first | assumption | rfl | exact at_ (by assumption) | exact at_n (by assumption)))) (ea_cons (ev_tupleOf T (er_ref 3)) ea_nil))))) ?_) hp)
  show D.tup [_, _, _, .tup ((b.days.map dDy).set j (dDy d))] = _
  rw [map_set_]
  rfl
end

/-! ## the law: a plain day -/
def freeP (b : Bk) (k : Nat) : Bool := !decide ((0 : Int) ∈ b.lamps[k]!.away) && decide (b.days[0]!.length ≤ b.lamps[k]!.tank)
def freeL (b : Bk) : List Nat := (List.range b.lamps.length).filter (freeP b)
def pickF (fr : List Nat) (turn : Int) (n : Nat) : List Int := (List.range n).map fun (k : Nat) => ((fr[(((k : Int) + turn) % (fr.length : Int)).toNat]! : Nat) : Int)
def chosenF (b : Bk) (turn : Int) : List Int := sortI (pickF (freeL b) turn b.days[0]!.wanted.toNat)
def pourTo (b : Bk) (n : Int) (ch : List Int) : Nat → List Int
  | 0 => List.replicate b.lamps.length 0
  | i + 1 => (pourTo b n ch i).set ch[i]!.toNat (max 0 (n - b.lamps[ch[i]!.toNat]!.oil))
def pourF (b : Bk) (n : Int) (ch : List Int) : List Int := pourTo b n ch ch.length
theorem pourTo_len (b : Bk) (n : Int) (ch : List Int) : ∀ i, (pourTo b n ch i).length = b.lamps.length
  | 0 => List.length_replicate ..
  | i + 1 => by
    show ((pourTo b n ch i).set _ _).length = _
    rw [List.length_set, pourTo_len b n ch i]
def lackF (b : Bk) (ch : List Int) : Int := max 0 ((pourF b b.days[0]!.length ch).sum - b.oil)
def takenF (b : Bk) (turn lack : Int) : Int := if turn / 8 % 2 = 0 then b.days[0]!.boat else min b.days[0]!.boat lack
def boughtF (b : Bk) (turn lack : Int) : Int := if turn / 16 % 2 = 0 then b.days[0]!.most else max 0 (lack - takenF b turn lack)
def wholeS (n : Int) (ch : List Int) : List Spn := ch.map fun k => ⟨k, 0, n⟩
def plainP (b : Bk) (turn : Int) : Part := ⟨takenF b turn (lackF b (chosenF b turn)), boughtF b turn (lackF b (chosenF b turn)), pourF b b.days[0]!.length (chosenF b turn), wholeS b.days[0]!.length (chosenF b turn)⟩
def plainF (b : Bk) (turn : Int) : Option Part := if ((freeL b).length : Int) < b.days[0]!.wanted then none else if b.days[0]!.boat + b.days[0]!.most < lackF b (chosenF b turn) then none else some (plainP b turn)
def dOP : Option Part → D
  | none => .non
  | some x => dPart x
inductive FLawPlainDay : List D → D → Prop where
  | mk (b : Bk) (o : b.Ok) (turn : Int) (ht : 0 ≤ turn) : FLawPlainDay [dBk b, .int turn] (dOP (plainF b turn))
theorem pick2 {a c : D} {i : Int} (h0 : 0 ≤ i) (h2 : i < 2) : atI [a, c] i = some (if i = 0 then a else c) := by
  have : i = 0 ∨ i = 1 := by omega
  rcases this with rfl | rfl <;> rfl
theorem free_mem {b : Bk} {k : Nat} (h : k ∈ freeL b) : k < b.lamps.length ∧ freeP b k = true := by
  obtain ⟨h1, h2⟩ := List.mem_filter.mp h
  exact ⟨List.mem_range.mp h1, h2⟩
theorem pick_mem {fr : List Nat} {turn : Int} {n : Nat} (hn : n ≤ fr.length) {x : Int} (h : x ∈ pickF fr turn n) : ∃ k : Nat, x = k ∧ k ∈ fr := by
  obtain ⟨k, hk, rfl⟩ := List.mem_map.mp h
  have hk' := List.mem_range.mp hk
  have h1 := Int.emod_nonneg ((k : Int) + turn) (show (fr.length : Int) ≠ 0 by omega)
  have h2 := Int.emod_lt_of_pos ((k : Int) + turn) (show (0 : Int) < (fr.length : Int) by omega)
  exact ⟨_, rfl, List.mem_of_getElem? (get_bang (by omega))⟩
section
variable {P : Program} {wd : World} {K : PySem.W.Frag} {mg : Str → Option Value} {base : Heap}
theorem c__law_plain_day (T : Tops K mg) (FD : IsDef K mg "_law_plain_day" sLawPlainDay)  : Calls P wd K mg base 1 "_law_plain_day" (PF FLawPlainDay) := by
  obtain ⟨f, fd, FD, hm⟩ := FD.ex
  refine Calls.mk (N := ["book", "turn", "boat", "most", "price", "length", "wanted", "free", "k", "chosen", "poured", "lack", "taken", "bought"]) (ps := ["book", "turn"]) FD ⟨rfl, rfl, rfl, by decide +kernel, rfl, by decide +kernel, by decide +kernel⟩ hm (fun _ _ _ _ _ _ us h => by match us, h with | [a0, a1], _ => rfl) (fun ds Pd ⟨d, h, _⟩ => by cases h; rfl) fun cdv A outer s H E hr ds Pd ⟨d, h, hp⟩ => ?_
  have nd : (["book", "turn", "boat", "most", "price", "length", "wanted", "free", "k", "chosen", "poured", "lack", "taken", "bought"] : List Str).Nodup := by decide +kernel
  cases h with
  | mk b o turn ht =>
  have hl3 := o.l3
  have h0 : b.days[0]? = some b.days[0]! := get_bang o.d1
  have hday := o.day _ (List.mem_of_getElem? h0)
  have h0' : ((b.days.map dDy))[0]? = some (dDy b.days[0]!) := by rw [List.getElem?_map, h0]; rfl
  refine sb_cons (sx_unpack (d := dDy b.days[0]!) (ev_ix (er_ (ev_ix (er_ (ev_var 0)) ev_int (h := (by first | assumption | rfl | exact at_ (by assumption) | exact at_n (by assumption))))) ev_int (h := at_n h0')) (gx_tup (gxs_cons 2 nd (gxs_cons 3 nd (gxs_cons 4 nd (gxs_cons 5 nd (gxs_cons 6 nd gxs_nil)))))) rfl ?_)
  refine sb_cons (sx_set (d := .lst ((freeL b).map eNat)) 7 nd (ev_n (en_lc nd (lc_if (enc := eNat) (f := eNat) (pr := freeP b) (xs := List.range b.lamps.length) 8 nd (es_rangeN T (ev_is (ev_len T (er_ (ev_ix (er_ (ev_var 0)) ev_int (h := (by first | assumption | rfl | exact at_ (by assumption) | exact at_n (by assumption)))))) (by rw [List.length_map])) (by omega)) (blkOk_by (own := [("k", 8)]) (N := ["book", "turn", "boat", "most", "price", "length", "wanted", "free", "k", "chosen", "poured", "lack", "taken", "bought"]) (sc := defScope sLawPlainDay) (by decide +kernel)) rfl (by first | exact Or.inl rfl | exact Or.inr rfl) (by first | exact Or.inl rfl | exact Or.inr rfl) (fun _ _ _ _ _ k hk => ?_) (fun _ _ _ _ _ k hk _ => (ev_var 8)) (by simp; omega)))) ?_)
  · have hk2 := get_bang (List.mem_range.mp hk)
    exact et_w (ew_and (et_cmp (co_notIn (.tup _)) (er_ ev_int) (er_ (ev_ix (er_ (ev_ix (er_ (ev_ix (er_ (ev_var 0)) ev_int (h := (by first | assumption | rfl | exact at_ (by assumption) | exact at_n (by assumption))))) (ev_var 8) (h := (at_ (f := dLmp) hk2)))) ev_int (h := (by first | assumption | rfl | exact at_ (by assumption) | exact at_n (by assumption)))))) fun _ => ew_and1 (et_cmp co_ge (er_ (ev_ix (er_ (ev_ix (er_ (ev_ix (er_ (ev_var 0)) ev_int (h := (by first | assumption | rfl | exact at_ (by assumption) | exact at_n (by assumption))))) (ev_var 8) (h := (at_ hk2)))) ev_int (h := (by first | assumption | rfl | exact at_ (by assumption) | exact at_n (by assumption))))) (er_ (ev_var 5))))
  obtain ⟨wn, hwn⟩ : ∃ wn : Nat, b.days[0]!.wanted = wn := ⟨b.days[0]!.wanted.toNat, by omega⟩
  refine sb_cons (sx_if (k := decide (((freeL b).length : Int) < b.days[0]!.wanted)) (et_is (et_cmp co_lt (er_ (ev_len T (er_ (ev_var 7)))) (er_ (ev_var 6))) (by rw [List.length_map])) (fun hk => ?_) (fun hk => ?_))
  · have hk' := of_decide_eq_true hk
    rw [plainF, if_pos hk'] at hp
    exact sb_last (sx_ret ev_non hp)
  have hk' := of_decide_eq_false hk
  rw [plainF, if_neg hk'] at hp
  have hwf : wn ≤ (freeL b).length := by omega
  have hfl : (freeL b).length ≤ b.lamps.length := by
    have := List.length_filter_le (freeP b) (List.range b.lamps.length)
    rw [List.length_range] at this
    exact this
  have hpk : ∀ x ∈ chosenF b turn, ∃ k : Nat, x = k ∧ k ∈ freeL b := fun x hx => by
    have hx2 := (sortI_ok _).1.mem_iff.mpr hx
    exact pick_mem (by rw [hwn, Int.toNat_natCast]; exact hwf) hx2
  have hcl : (chosenF b turn).length = wn := by
    have := (sortI_ok (pickF (freeL b) turn b.days[0]!.wanted.toNat)).1.length_eq
    unfold chosenF
    rw [← this, hwn, Int.toNat_natCast]
    unfold pickF
    rw [List.length_map, List.length_range]
  refine sb_nil (sb_cons (sx_set (d := .lst ((chosenF b turn).map D.int)) 9 nd (ev_n (en_sorted (ns := pickF (freeL b) turn b.days[0]!.wanted.toNat) T (er_is (er_n (en_lc nd (lc_all (enc := eNat) (f := fun k => D.int ((freeL b)[(((k : Int) + turn) % ((freeL b).length : Int)).toNat]! : Nat)) (xs := List.range wn) 8 nd (es_rangeN T (ev_is (ev_var 6) (by rw [hwn])) (by omega)) (blkOk_by (own := [("k", 8)]) (N := ["book", "turn", "boat", "most", "price", "length", "wanted", "free", "k", "chosen", "poured", "lack", "taken", "bought"]) (sc := defScope sLawPlainDay) (by decide +kernel)) rfl (by first | exact Or.inl rfl | exact Or.inr rfl) (by first | exact Or.inl rfl | exact Or.inr rfl) (fun _ _ _ _ _ k hk2 => ?_) (by simp; omega)))) (y := .lst ((pickF (freeL b) turn b.days[0]!.wanted.toNat).map D.int)) ?_) (sortI_ok _) (by rw [hwn, Int.toNat_natCast]; unfold pickF; rw [List.length_map, List.length_range]; omega))) ?_))
  · have hkw := List.mem_range.mp hk2
    have m1 := Int.emod_nonneg ((k : Int) + turn) (show ((freeL b).length : Int) ≠ 0 by omega)
    have m2 := Int.emod_lt_of_pos ((k : Int) + turn) (show (0 : Int) < ((freeL b).length : Int) by omega)
    have hg := get_bang (xs := freeL b) (j := (((k : Int) + turn) % ((freeL b).length : Int)).toNat) (by omega)
    have hat : atI ((freeL b).map eNat) (((k : Int) + turn) % ((freeL b).length : Int)) = some (eNat (freeL b)[(((k : Int) + turn) % ((freeL b).length : Int)).toNat]!) := by
      have := at_ (f := eNat) hg
      rw [Int.toNat_of_nonneg m1] at this
      exact this
    exact ev_ix (er_ (ev_var 7)) (ev_mod (ev_add (ev_var 8) (ev_var 1)) (ev_is (ev_len T (er_ (ev_var 7))) (by rw [List.length_map])) (by omega)) (h := hat)
  · rw [hwn, Int.toNat_natCast]
    unfold pickF
    rw [List.map_map]
    rfl
  generalize hch : chosenF b turn = ch at hp hpk hcl ⊢
  refine sb_cons (sx_new 10 nd (ds := (List.replicate b.lamps.length (.int 0))) (en_is (en_rep (er_n (en_lst (ea_cons ev_int ea_nil))) (ev_len T (er_ (ev_ix (er_ (ev_var 0)) ev_int (h := (by first | assumption | rfl | exact at_ (by assumption) | exact at_n (by assumption)))))) ⟨by rw [List.length_map]; omega, by omega, by exact Nat.le_of_ble_eq_true rfl⟩) (by rw [List.length_map]; exact repN _ _)) ?_)
  have hfin : ∀ k : Nat, k ∈ freeL b → k < b.lamps.length := fun k hk => (free_mem hk).1
  have hchl : ch.length ≤ 3 := by omega
  refine sb_cons (sx_for (items := ch.map D.int) (es_list (ev_var 9)) (gx_name 8 nd) (fun i ρ s => ∃ v, ρ = ((((setAll (start0 ["book", "turn", "boat", "most", "price", "length", "wanted", "free", "k", "chosen", "poured", "lack", "taken", "bought"] [.d (dBk b), .d (.int turn)]) [2, 3, 4, 5, 6] [.int b.days[0]!.boat, .int b.days[0]!.most, .int b.days[0]!.price, .int b.days[0]!.length, .int b.days[0]!.wanted]).set 7 (.d (.lst ((freeL b).map eNat)))).set 9 (.d (.lst (ch.map D.int)))).set 10 (.r 0)).set 8 v ∧ s = [.lst ((pourTo b b.days[0]!.length ch i).map D.int)]) ⟨.no, rfl, by rw [show pourTo b b.days[0]!.length ch 0 = List.replicate b.lamps.length 0 from rfl, List.map_replicate]; rfl⟩ ?_ ?_)
  · rintro i d ρ s hd ⟨v, rfl, rfl⟩
    obtain ⟨t, ht2, rfl⟩ := map_get hd
    obtain ⟨j, rfl, hj⟩ := hpk t (List.mem_of_getElem? ht2)
    have hjl := hfin j hj
    have g1 := get_bang hjl
    have et : ch[i]! = (j : Int) := by simp [ht2]
    have hpl := pourTo_len b b.days[0]!.length ch i
    refine ⟨_, rfl, sb_last (sx_setIx (ei_var 10) (ev_var 8) (ev_max2 T ev_int (ev_sub (ev_var 5) (ev_ix (er_ (ev_ix (er_ (ev_ix (er_ (ev_var 0)) ev_int (h := (by first | assumption | rfl | exact at_ (by assumption) | exact at_n (by assumption))))) (ev_var 8) (h := (at_ g1)))) ev_int (h := (by first | assumption | rfl | exact at_ (by assumption) | exact at_n (by assumption)))))) rfl (ixN_nat (by rw [List.length_map]; omega)) ⟨_, rfl, ?_⟩)⟩
    have e1 : pourTo b b.days[0]!.length ch (i + 1) = (pourTo b b.days[0]!.length ch i).set j (max 0 (b.days[0]!.length - b.lamps[j]!.oil)) := by
      show (pourTo b b.days[0]!.length ch i).set ch[i]!.toNat (max 0 (b.days[0]!.length - b.lamps[ch[i]!.toNat]!.oil)) = _
      rw [et]
      rfl
    rw [e1, ← map_set_]
    rfl
  · rintro ρ s ⟨v, rfl, rfl⟩
    rw [List.length_map]
    refine sb_cons (sx_set (d := .int (lackF b ch)) 11 nd (ev_max2 T ev_int (ev_sub (ev_sumL (ns := pourF b b.days[0]!.length ch) T (er_ref 10)) (ev_ix (er_ (ev_var 0)) ev_int (h := (by first | assumption | rfl | exact at_ (by assumption) | exact at_n (by assumption)))))) ?_)
    refine sb_cons (sx_if (et_cmp co_gt (er_ (ev_var 11)) (er_ (ev_add (ev_var 2) (ev_var 3)))) (fun hk2 => ?_) (fun hk2 => ?_))
    · have hk3 := of_decide_eq_true hk2
      rw [if_pos hk3] at hp
      exact sb_last (sx_ret ev_non hp)
    · have hk3 := of_decide_eq_false hk2
      rw [if_neg hk3] at hp
      refine sb_nil (sb_cons (sx_set (d := .int (takenF b turn (lackF b ch))) 12 nd (ev_ix (er_n (en_lst (ea_cons (ev_var 2) (ea_cons (ev_min2 T (ev_var 2) (ev_var 11)) ea_nil)))) (ev_mod (ev_fdiv (ev_var 1) ev_int) ev_int) (h := (by rw [pick2 (by omega) (by omega)]; unfold takenF; split <;> rfl))) ?_))
      refine sb_cons (sx_set (d := .int (boughtF b turn (lackF b ch))) 13 nd (ev_ix (er_n (en_lst (ea_cons (ev_var 3) (ea_cons (ev_max2 T ev_int (ev_sub (ev_var 11) (ev_var 12))) ea_nil)))) (ev_mod (ev_fdiv (ev_var 1) ev_int) ev_int) (h := (by rw [pick2 (by omega) (by omega)]; unfold boughtF; split <;> rfl))) ?_)
      refine sb_last (sx_ret (ev_is (ev_tup (ea_cons (ev_var 12) (ea_cons (ev_var 13) (ea_cons (ev_tupleOf T (er_ref 10)) (ea_cons (ev_tupleOf T (er_n (en_is (en_lc nd (lc_all (enc := D.int) (f := fun k => dSpn ⟨k, 0, b.days[0]!.length⟩) (xs := ch) 8 nd (es_list (ev_var 9)) (blkOk_by (own := [("k", 8)]) (N := ["book", "turn", "boat", "most", "price", "length", "wanted", "free", "k", "chosen", "poured", "lack", "taken", "bought"]) (sc := defScope sLawPlainDay) (by decide +kernel)) rfl (by first | exact Or.inl rfl | exact Or.inr rfl) (by first | exact Or.inl rfl | exact Or.inr rfl) (fun _ _ _ _ _ k hk => (ev_tup (ea_cons (ev_var 8) (ea_cons ev_int (ea_cons (ev_var 5) ea_nil))))) (by omega))) (ys := (wholeS b.days[0]!.length ch).map dSpn) (by unfold wholeS; rw [List.map_map]; rfl)))) ea_nil))))) ?_) hp)
      unfold plainP
      rw [hch]
      rfl
end

/-! ## the law: the day of a deed -/
def dayByF (b : Bk) (turn : Int) : Option Part := if 4 < turn % 8 then none else if 1 < turn % 8 then plainF b (turn / 8) else if (mostF b.web 0 1).2 = b.need then some b.rota[0]! else none
inductive FLawDayBy : List D → D → Prop where
  | mk (b : Bk) (o : b.Ok) (g : b.FlOk) (turn : Int) (ht : 0 ≤ turn) : FLawDayBy [dBk b, .int turn] (dOP (dayByF b turn))
section
variable {P : Program} {wd : World} {K : PySem.W.Frag} {mg : Str → Option Value} {base : Heap}
theorem Calls.also {n m : Str} {k : Nat} {F : List D → (D → Prop) → Prop} (C : Calls P wd K mg base k n F) (h : mg m = mg n) : Calls P wd K mg base k m F := by
  obtain ⟨f, fd, ps, h1, h2⟩ := C
  exact ⟨f, fd, ps, h.trans h1, h2⟩
theorem c__law_day_by (T : Tops K mg) (FD : IsDef K mg "_law_day_by" sLawDayBy) (C__law_plain_day : Calls P wd K mg base 1 "_law_plain_day" (PF FLawPlainDay)) (C_told_telling : Calls P wd K mg base 8 "told_telling" (PF FTold)) : Calls P wd K mg base 9 "_law_day_by" (PF FLawDayBy) := by
  obtain ⟨f, fd, FD, hm⟩ := FD.ex
  refine Calls.mk (N := ["book", "turn", "shown"]) (ps := ["book", "turn"]) FD ⟨rfl, rfl, rfl, by decide +kernel, rfl, by decide +kernel, by decide +kernel⟩ hm (fun _ _ _ _ _ _ us h => by match us, h with | [a0, a1], _ => rfl) (fun ds Pd ⟨d, h, _⟩ => by cases h; rfl) fun cdv A outer s H E hr ds Pd ⟨d, h, hp⟩ => ?_
  have nd : (["book", "turn", "shown"] : List Str).Nodup := by decide +kernel
  cases h with
  | mk b o g turn ht =>
  refine sb_cons (sx_if (et_cmp co_gt (er_ (ev_mod (ev_var 1) ev_int)) (er_ ev_int)) (fun hk => ?_) (fun hk => ?_))
  · have hk' := of_decide_eq_true hk
    rw [dayByF, if_pos hk'] at hp
    exact sb_last (sx_ret ev_non hp)
  have hk' := of_decide_eq_false hk
  rw [dayByF, if_neg hk'] at hp
  refine sb_nil (sb_cons (sx_if (et_cmp co_gt (er_ (ev_mod (ev_var 1) ev_int)) (er_ ev_int)) (fun hk2 => ?_) (fun hk2 => ?_)))
  · have hk3 := of_decide_eq_true hk2
    rw [if_pos hk3] at hp
    exact sb_last (sx_ret (ev_call C__law_plain_day (hr.mono (by decide)) (ea_cons (ev_var 0) (ea_cons (ev_fdiv (ev_var 1) ev_int) ea_nil)) (fun _ p => ⟨_, .mk b o _ (by omega), p⟩)) hp)
  have hk3 := of_decide_eq_false hk2
  rw [if_neg hk3] at hp
  refine sb_nil (sb_cons (sx_set (d := toldD b) 2 nd (ev_call C_told_telling (hr.mono (by decide)) (ea_cons (ev_var 0) ea_nil) (fun _ p => ⟨_, .mk b o g, p⟩)) ?_))
  unfold toldD
  by_cases hm2 : (mostF b.web 0 1).2 = b.need
  · rw [if_pos hm2] at hp ⊢
    have hrl : b.rota[0]? = some b.rota[0]! := get_bang (by show 0 < ((List.range b.days.length).map _).length; rw [List.length_map, List.length_range]; exact o.d1)
    have hr0 : (b.rota.map dPart)[0]? = some (dPart b.rota[0]!) := by rw [List.getElem?_map, hrl]; rfl
    refine sb_cons (sx_if (k := true) (et_is (et_cmp co_eqS (er_ (ev_ix (er_ (ev_var 2)) ev_int (h := (by first | assumption | rfl | exact at_ (by assumption) | exact at_n (by assumption))))) (er_ ev_str)) (by decide)) (fun _ => ?_) fun hq => nomatch hq)
    exact sb_last (sx_ret (ev_ix (er_ (ev_ix (er_ (ev_var 2)) ev_int (h := (by first | assumption | rfl | exact at_ (by assumption) | exact at_n (by assumption))))) ev_int (h := at_n hr0)) hp)
  · rw [if_neg hm2] at hp ⊢
    refine sb_cons (sx_if (k := false) (et_is (et_cmp co_eqS (er_ (ev_ix (er_ (ev_var 2)) ev_int (h := (by first | assumption | rfl | exact at_ (by assumption) | exact at_n (by assumption))))) (er_ ev_str)) (by decide)) (fun hq => nomatch hq) fun _ => ?_)
    exact sb_nil (sb_last (sx_ret ev_non hp))
end

/-! ## the law: a lamp that is away -/
def outP (b : Bk) (k : Nat) : Bool := decide ((0 : Int) ∈ b.lamps[k]!.away) && decide (b.days[0]!.length ≤ b.lamps[k]!.tank)
def outL (b : Bk) : List Nat := (List.range b.lamps.length).filter (outP b)
def outK (b : Bk) (turn : Int) : Nat := (outL b)[(turn % ((outL b).length : Int)).toNat]!
def awayC (b : Bk) (turn : Int) : List Int := sortI ((outK b turn :: (freeL b ++ (outL b).filter fun (k : Nat) => !decide ((k : Int) = (outK b turn : Int))).take (b.days[0]!.wanted.toNat - 1)).map fun (k : Nat) => (k : Int))
def awayF (b : Bk) (turn : Int) : Option Part := if b.days[0]!.wanted = 0 ∨ outL b = [] ∨ ((outL b).length : Int) + ((freeL b).length : Int) < b.days[0]!.wanted then none else some ⟨b.days[0]!.boat, b.days[0]!.most, pourF b b.days[0]!.length (awayC b turn), wholeS b.days[0]!.length (awayC b turn)⟩
inductive FLawAwayDay : List D → D → Prop where
  | mk (b : Bk) (o : b.Ok) (turn : Int) (ht : 0 ≤ turn) : FLawAwayDay [dBk b, .int turn] (dOP (awayF b turn))
theorem out_mem {b : Bk} {k : Nat} (h : k ∈ outL b) : k < b.lamps.length ∧ outP b k = true := by
  obtain ⟨h1, h2⟩ := List.mem_filter.mp h
  exact ⟨List.mem_range.mp h1, h2⟩
theorem eNats (xs : List Nat) : xs.map eNat = (xs.map fun (k : Nat) => (k : Int)).map D.int := by rw [List.map_map]; rfl
section
variable {P : Program} {wd : World} {K : PySem.W.Frag} {mg : Str → Option Value} {base : Heap}
theorem c__law_away_day (T : Tops K mg) (FD : IsDef K mg "_law_away_day" sLawAwayDay)  : Calls P wd K mg base 1 "_law_away_day" (PF FLawAwayDay) := by
  obtain ⟨f, fd, FD, hm⟩ := FD.ex
  refine Calls.mk (N := ["book", "turn", "boat", "most", "price", "length", "wanted", "out", "k", "free", "lamp", "others", "chosen", "poured"]) (ps := ["book", "turn"]) FD ⟨rfl, rfl, rfl, by decide +kernel, rfl, by decide +kernel, by decide +kernel⟩ hm (fun _ _ _ _ _ _ us h => by match us, h with | [a0, a1], _ => rfl) (fun ds Pd ⟨d, h, _⟩ => by cases h; rfl) fun cdv A outer s H E hr ds Pd ⟨d, h, hp⟩ => ?_
  have nd : (["book", "turn", "boat", "most", "price", "length", "wanted", "out", "k", "free", "lamp", "others", "chosen", "poured"] : List Str).Nodup := by decide +kernel
  cases h with
  | mk b o turn ht =>
  have hl3 := o.l3
  have h0 : b.days[0]? = some b.days[0]! := get_bang o.d1
  have hday := o.day _ (List.mem_of_getElem? h0)
  have h0' : ((b.days.map dDy))[0]? = some (dDy b.days[0]!) := by rw [List.getElem?_map, h0]; rfl
  refine sb_cons (sx_unpack (d := dDy b.days[0]!) (ev_ix (er_ (ev_ix (er_ (ev_var 0)) ev_int (h := (by first | assumption | rfl | exact at_ (by assumption) | exact at_n (by assumption))))) ev_int (h := at_n h0')) (gx_tup (gxs_cons 2 nd (gxs_cons 3 nd (gxs_cons 4 nd (gxs_cons 5 nd (gxs_cons 6 nd gxs_nil)))))) rfl ?_)
  refine sb_cons (sx_setLc (ds := (outL b).map eNat) 7 nd (lc_if (enc := eNat) (f := eNat) (pr := outP b) (xs := List.range b.lamps.length) 8 nd (es_rangeN T (ev_is (ev_len T (er_ (ev_ix (er_ (ev_var 0)) ev_int (h := (by first | assumption | rfl | exact at_ (by assumption) | exact at_n (by assumption)))))) (by rw [List.length_map])) (by omega)) (blkOk_by (own := [("k", 8)]) (N := ["book", "turn", "boat", "most", "price", "length", "wanted", "out", "k", "free", "lamp", "others", "chosen", "poured"]) (sc := defScope sLawAwayDay) (by decide +kernel)) rfl (by first | exact Or.inl rfl | exact Or.inr rfl) (by first | exact Or.inl rfl | exact Or.inr rfl) (fun _ _ _ _ _ k hk => ?_) (fun _ _ _ _ _ k hk _ => (ev_var 8)) (by simp; omega)) ?_)
  · have hk2 := get_bang (List.mem_range.mp hk)
    exact et_w (ew_and (et_cmp (co_in (.tup _)) (er_ ev_int) (er_ (ev_ix (er_ (ev_ix (er_ (ev_ix (er_ (ev_var 0)) ev_int (h := (by first | assumption | rfl | exact at_ (by assumption) | exact at_n (by assumption))))) (ev_var 8) (h := (at_ (f := dLmp) hk2)))) ev_int (h := (by first | assumption | rfl | exact at_ (by assumption) | exact at_n (by assumption)))))) fun _ => ew_and1 (et_cmp co_ge (er_ (ev_ix (er_ (ev_ix (er_ (ev_ix (er_ (ev_var 0)) ev_int (h := (by first | assumption | rfl | exact at_ (by assumption) | exact at_n (by assumption))))) (ev_var 8) (h := (at_ hk2)))) ev_int (h := (by first | assumption | rfl | exact at_ (by assumption) | exact at_n (by assumption))))) (er_ (ev_var 5))))
  refine sb_cons (sx_setLc (ds := (freeL b).map eNat) 9 nd (lc_if (enc := eNat) (f := eNat) (pr := freeP b) (xs := List.range b.lamps.length) 8 nd (es_rangeN T (ev_is (ev_len T (er_ (ev_ix (er_ (ev_var 0)) ev_int (h := (by first | assumption | rfl | exact at_ (by assumption) | exact at_n (by assumption)))))) (by rw [List.length_map])) (by omega)) (blkOk_by (own := [("k", 8)]) (N := ["book", "turn", "boat", "most", "price", "length", "wanted", "out", "k", "free", "lamp", "others", "chosen", "poured"]) (sc := defScope sLawAwayDay) (by decide +kernel)) rfl (by first | exact Or.inl rfl | exact Or.inr rfl) (by first | exact Or.inl rfl | exact Or.inr rfl) (fun _ _ _ _ _ k hk => ?_) (fun _ _ _ _ _ k hk _ => (ev_var 8)) (by simp; omega)) ?_)
  · have hk2 := get_bang (List.mem_range.mp hk)
    exact et_w (ew_and (et_cmp (co_notIn (.tup _)) (er_ ev_int) (er_ (ev_ix (er_ (ev_ix (er_ (ev_ix (er_ (ev_var 0)) ev_int (h := (by first | assumption | rfl | exact at_ (by assumption) | exact at_n (by assumption))))) (ev_var 8) (h := (at_ (f := dLmp) hk2)))) ev_int (h := (by first | assumption | rfl | exact at_ (by assumption) | exact at_n (by assumption)))))) fun _ => ew_and1 (et_cmp co_ge (er_ (ev_ix (er_ (ev_ix (er_ (ev_ix (er_ (ev_var 0)) ev_int (h := (by first | assumption | rfl | exact at_ (by assumption) | exact at_n (by assumption))))) (ev_var 8) (h := (at_ hk2)))) ev_int (h := (by first | assumption | rfl | exact at_ (by assumption) | exact at_n (by assumption))))) (er_ (ev_var 5))))
  obtain ⟨wn, hwn⟩ : ∃ wn : Nat, b.days[0]!.wanted = wn := ⟨b.days[0]!.wanted.toNat, by omega⟩
  have hfl : (freeL b).length ≤ b.lamps.length := by
    have := List.length_filter_le (freeP b) (List.range b.lamps.length)
    rw [List.length_range] at this
    exact this
  have hol : (outL b).length ≤ b.lamps.length := by
    have := List.length_filter_le (outP b) (List.range b.lamps.length)
    rw [List.length_range] at this
    exact this
  refine sb_cons (sx_if (k := decide (b.days[0]!.wanted = 0) || (((outL b).map fun (k : Nat) => (k : Int)).isEmpty || decide (((outL b).length : Int) + ((freeL b).length : Int) < b.days[0]!.wanted))) (et_w (ew_or (et_cmp co_eq (er_ (ev_var 6)) (er_ ev_int)) fun _ => ew_or (et_cmp (co_eqNil hr.units) (er_is (er_ (ev_var 7)) (by rw [eNats])) (er_n (en_lst ea_nil))) fun _ => ew_or1 (et_cmp co_lt (er_is (er_ (ev_add (ev_len T (er_ (ev_var 7))) (ev_len T (er_ (ev_var 9))))) (by rw [List.length_map, List.length_map])) (er_ (ev_var 6))))) (fun hk => ?_) (fun hk => ?_))
  · have hk' : b.days[0]!.wanted = 0 ∨ outL b = [] ∨ ((outL b).length : Int) + ((freeL b).length : Int) < b.days[0]!.wanted := by simpa using hk
    rw [awayF, if_pos hk'] at hp
    exact sb_last (sx_ret ev_non hp)
  have hk' : ¬ (b.days[0]!.wanted = 0 ∨ outL b = [] ∨ ((outL b).length : Int) + ((freeL b).length : Int) < b.days[0]!.wanted) := by simpa [and_assoc] using hk
  rw [awayF, if_neg hk'] at hp
  have hw1 : 1 ≤ wn := by omega
  have ho1 : 1 ≤ (outL b).length := by
    cases hq : outL b with
    | nil => exact absurd (.inr (.inl hq)) hk'
    | cons a c => simp
  have m1 := Int.emod_nonneg turn (show ((outL b).length : Int) ≠ 0 by omega)
  have m2 := Int.emod_lt_of_pos turn (show (0 : Int) < ((outL b).length : Int) by omega)
  have hg := get_bang (xs := outL b) (j := (turn % ((outL b).length : Int)).toNat) (by omega)
  have hat : atI ((outL b).map eNat) (turn % ((outL b).length : Int)) = some (eNat (outK b turn)) := by
    have := at_ (f := eNat) hg
    rw [Int.toNat_of_nonneg m1] at this
    exact this
  have hoK : outK b turn ∈ outL b := List.mem_of_getElem? hg
  refine sb_nil (sb_cons (sx_set (d := eNat (outK b turn)) 10 nd (ev_ix (er_ (ev_var 7)) (ev_mod (ev_var 1) (ev_is (ev_len T (er_ (ev_var 7))) (by rw [List.length_map])) (by omega)) (h := hat)) ?_))
  have hff : ((outL b).filter fun (k : Nat) => !decide ((k : Int) = (outK b turn : Int))).length ≤ (outL b).length := List.length_filter_le _ _
  generalize hoth : freeL b ++ (outL b).filter (fun (k : Nat) => !decide ((k : Int) = (outK b turn : Int))) = oth
  have hothl : oth.length ≤ 6 := by rw [← hoth, List.length_append]; omega
  have hothm : ∀ k ∈ oth, k < b.lamps.length := fun k hk => by
    rw [← hoth] at hk
    rcases List.mem_append.mp hk with h | h
    · exact (free_mem h).1
    · exact (out_mem (List.mem_filter.mp h).1).1
  refine sb_cons (sx_set (d := .lst (oth.map eNat)) 11 nd (ev_is (ev_n (en_cat (er_ (ev_var 9)) (er_n (en_lc nd (lc_if (enc := eNat) (f := eNat) (pr := fun (k : Nat) => !decide ((k : Int) = (outK b turn : Int))) (xs := outL b) 8 nd (es_list (ev_var 7)) (blkOk_by (own := [("k", 8)]) (N := ["book", "turn", "boat", "most", "price", "length", "wanted", "out", "k", "free", "lamp", "others", "chosen", "poured"]) (sc := defScope sLawAwayDay) (by decide +kernel)) rfl (by first | exact Or.inl rfl | exact Or.inr rfl) (by first | exact Or.inl rfl | exact Or.inr rfl) (fun _ _ _ _ _ k hk => (et_cmp co_ne (er_ (ev_var 8)) (er_ (ev_var 10)))) (fun _ _ _ _ _ k hk _ => (ev_var 8)) (by omega)))) (by rw [List.length_map, List.length_map]; omega))) (by rw [← hoth, List.map_append])) ?_)
  have hch : awayC b turn = sortI ((outK b turn :: oth.take (wn - 1)).map fun (k : Nat) => (k : Int)) := by
    unfold awayC
    rw [hoth, hwn, Int.toNat_natCast]
  have hpk : ∀ x ∈ awayC b turn, ∃ k : Nat, x = k ∧ k < b.lamps.length := fun x hx => by
    rw [hch] at hx
    have hx2 := (sortI_ok _).1.mem_iff.mpr hx
    obtain ⟨k, hk, rfl⟩ := List.mem_map.mp hx2
    refine ⟨k, rfl, ?_⟩
    rcases List.mem_cons.mp hk with h | h
    · rw [h]; exact (out_mem hoK).1
    · exact hothm k (List.mem_of_mem_take h)
  have hchl : (awayC b turn).length ≤ 7 := by
    rw [hch, ← (sortI_ok _).1.length_eq, List.length_map, List.length_cons, List.length_take]
    omega
  refine sb_cons (sx_set (d := .lst ((awayC b turn).map D.int)) 12 nd (ev_is (ev_n (en_sorted (ns := (outK b turn :: oth.take (wn - 1)).map fun (k : Nat) => (k : Int)) (ms := sortI ((outK b turn :: oth.take (wn - 1)).map fun (k : Nat) => (k : Int))) T (er_is (er_n (en_cat (er_n (en_lst (ea_cons (ev_var 10) ea_nil))) (er_n (en_sl (er_ (ev_var 11)) eo_none (eo_some (ev_sub (ev_var 6) ev_int)))) (by unfold cutD; simp; omega))) ?_) (sortI_ok _) (by rw [List.length_map, List.length_cons, List.length_take]; omega))) (by rw [hch])) ?_)
  · rw [hwn, show ((wn : Int) - 1) = ((wn - 1 : Nat) : Int) by omega, cutD_take, ← List.map_take]
    show D.lst (eNat (outK b turn) :: _) = _
    rw [eNats]
    rfl
  generalize awayC b turn = ch at hp hpk hchl ⊢
  refine sb_cons (sx_new 13 nd (ds := (List.replicate b.lamps.length (.int 0))) (en_is (en_rep (er_n (en_lst (ea_cons ev_int ea_nil))) (ev_len T (er_ (ev_ix (er_ (ev_var 0)) ev_int (h := (by first | assumption | rfl | exact at_ (by assumption) | exact at_n (by assumption)))))) ⟨by rw [List.length_map]; omega, by omega, by exact Nat.le_of_ble_eq_true rfl⟩) (by rw [List.length_map]; exact repN _ _)) ?_)
  refine sb_cons (sx_for (items := ch.map D.int) (es_list (ev_var 12)) (gx_name 8 nd) (fun i ρ s => ∃ v, ρ = (((((((setAll (start0 ["book", "turn", "boat", "most", "price", "length", "wanted", "out", "k", "free", "lamp", "others", "chosen", "poured"] [.d (dBk b), .d (.int turn)]) [2, 3, 4, 5, 6] [.int b.days[0]!.boat, .int b.days[0]!.most, .int b.days[0]!.price, .int b.days[0]!.length, .int b.days[0]!.wanted]).set 7 (.d (.lst ((outL b).map eNat)))).set 9 (.d (.lst ((freeL b).map eNat)))).set 10 (.d (eNat (outK b turn)))).set 11 (.d (.lst (oth.map eNat)))).set 12 (.d (.lst (ch.map D.int)))).set 13 (.r 0)).set 8 v ∧ s = [.lst ((pourTo b b.days[0]!.length ch i).map D.int)]) ⟨.no, rfl, by rw [show pourTo b b.days[0]!.length ch 0 = List.replicate b.lamps.length 0 from rfl, List.map_replicate]; rfl⟩ ?_ ?_)
  · rintro i d ρ s hd ⟨v, rfl, rfl⟩
    obtain ⟨t, ht2, rfl⟩ := map_get hd
    obtain ⟨j, rfl, hj⟩ := hpk t (List.mem_of_getElem? ht2)
    have hjl := hj
    have g1 := get_bang hjl
    have et : ch[i]! = (j : Int) := by simp [ht2]
    have hpl := pourTo_len b b.days[0]!.length ch i
    refine ⟨_, rfl, sb_last (sx_setIx (ei_var 13) (ev_var 8) (ev_max2 T ev_int (ev_sub (ev_var 5) (ev_ix (er_ (ev_ix (er_ (ev_ix (er_ (ev_var 0)) ev_int (h := (by first | assumption | rfl | exact at_ (by assumption) | exact at_n (by assumption))))) (ev_var 8) (h := (at_ g1)))) ev_int (h := (by first | assumption | rfl | exact at_ (by assumption) | exact at_n (by assumption)))))) rfl (ixN_nat (by rw [List.length_map]; omega)) ⟨_, rfl, ?_⟩)⟩
    have e1 : pourTo b b.days[0]!.length ch (i + 1) = (pourTo b b.days[0]!.length ch i).set j (max 0 (b.days[0]!.length - b.lamps[j]!.oil)) := by
      show (pourTo b b.days[0]!.length ch i).set ch[i]!.toNat (max 0 (b.days[0]!.length - b.lamps[ch[i]!.toNat]!.oil)) = _
      rw [et]
      rfl
    rw [e1, ← map_set_]
    rfl
  · rintro ρ s ⟨v, rfl, rfl⟩
    rw [List.length_map]
    exact sb_last (sx_ret (ev_is (ev_tup (ea_cons (ev_var 2) (ea_cons (ev_var 3) (ea_cons (ev_tupleOf T (er_ref 13)) (ea_cons (ev_tupleOf T (er_n (en_is (en_lc nd (lc_all (enc := D.int) (f := fun k => dSpn ⟨k, 0, b.days[0]!.length⟩) (xs := ch) 8 nd (es_list (ev_var 12)) (blkOk_by (own := [("k", 8)]) (N := ["book", "turn", "boat", "most", "price", "length", "wanted", "out", "k", "free", "lamp", "others", "chosen", "poured"]) (sc := defScope sLawAwayDay) (by decide +kernel)) rfl (by first | exact Or.inl rfl | exact Or.inr rfl) (by first | exact Or.inl rfl | exact Or.inr rfl) (fun _ _ _ _ _ k hk => (ev_tup (ea_cons (ev_var 8) (ea_cons ev_int (ea_cons (ev_var 5) ea_nil))))) (by omega))) (ys := (wholeS b.days[0]!.length ch).map dSpn) (by unfold wholeS; rw [List.map_map]; rfl)))) ea_nil))))) (by rfl)) hp)
end

/-! ## the law: spans that are off -/
def offF (pre : List Spn) (l : Spn) (turn : Int) : List Spn :=
  if turn % 4 = 0 ∧ 1 < pre.length + 1 then (pre ++ [l]).reverse
  else if turn % 4 < 2 ∧ 1 < l.hi then pre ++ [⟨l.lamp, 1, l.hi⟩, ⟨l.lamp, 0, 1⟩]
  else if turn % 4 = 2 ∧ 1 < l.hi then pre ++ [⟨l.lamp, 0, l.hi⟩, ⟨l.lamp, 1, l.hi⟩]
  else if 1 < l.hi then pre ++ [⟨l.lamp, 0, l.hi - 1⟩] else pre ++ [⟨l.lamp, 0, l.hi + 1⟩]
inductive FLawSpansOff : List D → D → Prop where
  | mk (pre : List Spn) (l : Spn) (turn : Int) (h : pre.length ≤ 10) : FLawSpansOff [.tup ((pre ++ [l]).map dSpn), .int turn] (.tup ((offF pre l turn).map dSpn))
theorem cutD_last {α : Type} (xs : List α) (x : α) : cutD (xs ++ [x]) none (some (-1)) = xs := by
  have e : HT.sIx (xs ++ [x]).length (xs ++ [x]).length (some (-1)) = xs.length := by
    show (if (-1 : Int) < 0 then ((-1 : Int) + ((xs ++ [x]).length : Int)).toNat else min (-1 : Int).toNat (xs ++ [x]).length) = _
    rw [if_pos (by decide), List.length_append, List.length_singleton]
    omega
  unfold cutD
  rw [e, HT.sIx_none, List.drop_zero, Nat.sub_zero, List.take_left']
  rfl
theorem ixN_last (n : Nat) : ixN (n + 1) (-1) = some n := by
  unfold ixN
  rw [if_neg (by decide), if_pos (by omega)]
  congr 1
  omega
theorem set_last {α : Type} (xs : List α) (x y : α) : (xs ++ [x]).set xs.length y = xs ++ [y] := by
  rw [List.set_append_right _ _ (Nat.le_refl _), Nat.sub_self]
  rfl
section
variable {P : Program} {wd : World} {K : PySem.W.Frag} {mg : Str → Option Value} {base : Heap}
theorem c__law_spans_off (T : Tops K mg) (FD : IsDef K mg "_law_spans_off" sLawSpansOff)  : Calls P wd K mg base 1 "_law_spans_off" (PF FLawSpansOff) := by
  obtain ⟨f, fd, FD, hm⟩ := FD.ex
  refine Calls.mk (N := ["spans", "turn", "made", "lamp", "start", "end"]) (ps := ["spans", "turn"]) FD ⟨rfl, rfl, rfl, by decide +kernel, rfl, by decide +kernel, by decide +kernel⟩ hm (fun _ _ _ _ _ _ us h => by match us, h with | [a0, a1], _ => rfl) (fun ds Pd ⟨d, h, _⟩ => by cases h; rfl) fun cdv A outer s H E hr ds Pd ⟨d, h, hp⟩ => ?_
  have nd : (["spans", "turn", "made", "lamp", "start", "end"] : List Str).Nodup := by decide +kernel
  cases h with
  | mk pre l turn h =>
  have em : (pre ++ [l]).map dSpn = pre.map dSpn ++ [dSpn l] := by rw [List.map_append]; rfl
  refine sb_cons (sx_new 2 nd (en_listOf T (er_ (ev_var 0))) ?_)
  rw [em]
  have hla := at_last (pre.map dSpn) (dSpn l)
  refine sb_cons (sx_unpack (d := dSpn l) (ev_ix (er_ref 2) (ev_neg ev_int) (h := hla)) (gx_tup (gxs_cons 3 nd (gxs_cons 4 nd (gxs_cons 5 nd gxs_nil)))) rfl ?_)
  refine sb_cut (fun ρ s => ∃ (j : Nat) (x : Sl), ρ = (((start0 ["spans", "turn", "made", "lamp", "start", "end"] [.d (.tup (pre.map dSpn ++ [dSpn l])), .d (.int turn)]).set 2 (.r j) |>.set 3 (.d (.int l.lamp)) |>.set 4 (.d (.int l.lo)) |>.set 5 (.d (.int l.hi)))) ∧ s[j]? = some (.lst ((offF pre l turn).map dSpn))) ?_ ?_
  · refine sx_if (k := decide (turn % 4 = 0) && decide (1 < pre.length + 1)) (et_w (ew_and (et_cmp co_eq (er_ (ev_mod (ev_var 1) ev_int)) (er_ ev_int)) fun _ => ew_and1 (et_is (et_cmp co_gt (er_ (ev_len T (er_ref 2))) (er_ ev_int)) (by rw [List.length_append, List.length_map, List.length_singleton]; exact decide_eq_decide.mpr (by omega))))) (fun hk => ?_) (fun hk => ?_)
    · have hk' : turn % 4 = 0 ∧ 1 < pre.length + 1 := by simpa using hk
      refine sb_last (sx_reverse (ei_var 2) rfl ⟨0, .no, rfl, ?_⟩)
      rw [offF, if_pos hk', List.map_reverse, em]
      rfl
    have hk' : ¬ (turn % 4 = 0 ∧ 1 < pre.length + 1) := by simpa using hk
    refine sb_last (sx_if (k := decide (turn % 4 < 2) && decide (1 < l.hi)) (et_w (ew_and (et_cmp co_lt (er_ (ev_mod (ev_var 1) ev_int)) (er_ ev_int)) (fun hq => (ew_and1 (et_cmp co_gt (er_ (ev_var 5)) (er_ ev_int)))))) (fun hk2 => ?_) (fun hk2 => ?_))
    · have hk3 : turn % 4 < 2 ∧ 1 < l.hi := by simpa using hk2
      refine sb_last (sx_new 2 nd (en_cat (er_n (en_sl (er_ref 2) eo_none (eo_some (ev_neg ev_int)))) (er_n (en_lst (ea_cons (ev_tup (ea_cons (ev_var 3) (ea_cons ev_int (ea_cons (ev_var 5) ea_nil)))) (ea_cons (ev_tup (ea_cons (ev_var 3) (ea_cons ev_int (ea_cons ev_int ea_nil)))) ea_nil)))) (by unfold cutD; simp; omega)) ⟨1, .no, rfl, ?_⟩)
      rw [offF, if_neg hk', if_pos hk3, List.map_append]
      show some (MO.lst (cutD (pre.map dSpn ++ [dSpn l]) none (some (-1)) ++ _)) = _
      rw [cutD_last]
      rfl
    have hk3 : ¬ (turn % 4 < 2 ∧ 1 < l.hi) := by simpa using hk2
    refine sb_last (sx_if (k := decide (turn % 4 = 2) && decide (1 < l.hi)) (et_w (ew_and (et_cmp co_eq (er_ (ev_mod (ev_var 1) ev_int)) (er_ ev_int)) (fun hq => (ew_and1 (et_cmp co_gt (er_ (ev_var 5)) (er_ ev_int)))))) (fun hk4 => ?_) (fun hk4 => ?_))
    · have hk5 : turn % 4 = 2 ∧ 1 < l.hi := by simpa using hk4
      refine sb_last (sx_new 2 nd (en_cat (er_n (en_sl (er_ref 2) eo_none (eo_some (ev_neg ev_int)))) (er_n (en_lst (ea_cons (ev_tup (ea_cons (ev_var 3) (ea_cons ev_int (ea_cons (ev_var 5) ea_nil)))) (ea_cons (ev_tup (ea_cons (ev_var 3) (ea_cons ev_int (ea_cons (ev_var 5) ea_nil)))) ea_nil)))) (by unfold cutD; simp; omega)) ⟨1, .no, rfl, ?_⟩)
      rw [offF, if_neg hk', if_neg hk3, if_pos hk5, List.map_append]
      show some (MO.lst (cutD (pre.map dSpn ++ [dSpn l]) none (some (-1)) ++ _)) = _
      rw [cutD_last]
      rfl
    have hk5 : ¬ (turn % 4 = 2 ∧ 1 < l.hi) := by simpa using hk4
    have hix : ixN (pre.map dSpn ++ [dSpn l]).length (-1) = some pre.length := by rw [List.length_append, List.length_map]; exact ixN_last _
    refine sb_last (sx_if (k := decide (1 < l.hi)) (et_cmp co_gt (er_ (ev_var 5)) (er_ ev_int)) (fun hk6 => ?_) (fun hk6 => ?_))
    · have hk7 := of_decide_eq_true hk6
      refine sb_last (sx_setIx (ei_var 2) (ev_neg ev_int) (ev_tup (ea_cons (ev_var 3) (ea_cons ev_int (ea_cons (ev_sub (ev_var 5) ev_int) ea_nil)))) rfl hix ⟨0, .no, rfl, ?_⟩)
      rw [offF, if_neg hk', if_neg hk3, if_neg hk5, if_pos hk7, List.map_append]
      show some (MO.lst ((pre.map dSpn ++ [dSpn l]).set pre.length _)) = _
      rw [show pre.length = (pre.map dSpn).length by rw [List.length_map], set_last]
      rfl
    · have hk7 := of_decide_eq_false hk6
      refine sb_last (sx_setIx (ei_var 2) (ev_neg ev_int) (ev_tup (ea_cons (ev_var 3) (ea_cons ev_int (ea_cons (ev_add (ev_var 5) ev_int) ea_nil)))) rfl hix ⟨0, .no, rfl, ?_⟩)
      rw [offF, if_neg hk', if_neg hk3, if_neg hk5, if_neg hk7, List.map_append]
      show some (MO.lst ((pre.map dSpn ++ [dSpn l]).set pre.length _)) = _
      rw [show pre.length = (pre.map dSpn).length by rw [List.length_map], set_last]
      rfl
  · rintro ρ s ⟨j, x, rfl, hs⟩
    exact sb_last (sx_ret (ev_tupleOf T (er_ref 2 (j := j) (h := rfl) (hs := hs) (hm := rfl))) hp)
end

/-! ## the law: a spoilt day -/
theorem plain_eq {b : Bk} {turn : Int} {x : Part} (h : plainF b turn = some x) : x = plainP b turn ∧ b.days[0]!.wanted ≤ ((freeL b).length : Int) ∧ lackF b (chosenF b turn) ≤ b.days[0]!.boat + b.days[0]!.most := by
  unfold plainF at h
  split at h
  · cases h
  · split at h
    · cases h
    · cases h
      exact ⟨rfl, by omega, by omega⟩
theorem chosen_mem {b : Bk} {turn : Int} (h : b.days[0]!.wanted ≤ ((freeL b).length : Int)) {x : Int} (hx : x ∈ chosenF b turn) : ∃ k : Nat, x = k ∧ k ∈ freeL b :=
  pick_mem (by omega) ((sortI_ok _).1.mem_iff.mpr hx)
theorem chosen_len (b : Bk) (turn : Int) : (chosenF b turn).length = b.days[0]!.wanted.toNat := by
  unfold chosenF
  rw [← (sortI_ok (pickF (freeL b) turn b.days[0]!.wanted.toNat)).1.length_eq]
  unfold pickF
  rw [List.length_map, List.length_range]
theorem plain_spans {b : Bk} (o : b.Ok) {turn : Int} {x : Part} (h : plainF b turn = some x) : x.poured.length = b.lamps.length ∧ x.spans.length ≤ 3 ∧ ∀ y ∈ x.spans, ∃ k : Nat, y.lamp = k ∧ k < b.lamps.length := by
  obtain ⟨rfl, h2, _⟩ := plain_eq h
  have hday := o.day _ (List.mem_of_getElem? (get_bang o.d1))
  have hl3 := o.l3
  refine ⟨pourTo_len .., ?_, fun y hy => ?_⟩
  · show ((chosenF b turn).map _).length ≤ 3
    rw [List.length_map, chosen_len]
    omega
  · obtain ⟨k, hk, rfl⟩ := List.mem_map.mp hy
    obtain ⟨j, rfl, hj⟩ := chosen_mem h2 hk
    exact ⟨j, rfl, (free_mem hj).1⟩
def spoilL (x : Part) (turn : Int) : Nat := x.spans[(turn / 64 % (x.spans.length : Int)).toNat]!.lamp.toNat
def spoilX (b : Bk) (turn : Int) (x : Part) : Option Part := if x.spans = [] then none
  else if turn % 4 = 1 then some ⟨b.days[0]!.boat, b.days[0]!.most, x.poured.set (spoilL x turn) (b.lamps[spoilL x turn]!.tank - b.lamps[spoilL x turn]!.oil + 1), x.spans⟩
  else if turn % 4 = 2 ∧ 0 < x.poured[spoilL x turn]! then some ⟨x.taken, x.bought, x.poured.set (spoilL x turn) (x.poured[spoilL x turn]! - 1), x.spans⟩
  else some ⟨x.taken, x.bought, x.poured, offF x.spans.dropLast x.spans.getLast! (turn / 4)⟩
def spoilF (b : Bk) (turn : Int) : Option Part := if turn % 4 = 0 then awayF b (turn / 8) else (plainF b (turn / 8)).bind (spoilX b turn)
inductive FLawSpoiltDay : List D → D → Prop where
  | mk (b : Bk) (o : b.Ok) (turn : Int) (ht : 0 ≤ turn) : FLawSpoiltDay [dBk b, .int turn] (dOP (spoilF b turn))
section
variable {P : Program} {wd : World} {K : PySem.W.Frag} {mg : Str → Option Value} {base : Heap}
theorem c__law_spoilt_day (T : Tops K mg) (FD : IsDef K mg "_law_spoilt_day" sLawSpoiltDay) (C__law_plain_day : Calls P wd K mg base 1 "_law_plain_day" (PF FLawPlainDay)) (C__law_away_day : Calls P wd K mg base 1 "_law_away_day" (PF FLawAwayDay)) (C__law_spans_off : Calls P wd K mg base 1 "_law_spans_off" (PF FLawSpansOff)) : Calls P wd K mg base 2 "_law_spoilt_day" (PF FLawSpoiltDay) := by
  obtain ⟨f, fd, FD, hm⟩ := FD.ex
  refine Calls.mk (N := ["book", "turn", "good", "taken", "bought", "poured", "spans", "lamp", "much"]) (ps := ["book", "turn"]) FD ⟨rfl, rfl, rfl, by decide +kernel, rfl, by decide +kernel, by decide +kernel⟩ hm (fun _ _ _ _ _ _ us h => by match us, h with | [a0, a1], _ => rfl) (fun ds Pd ⟨d, h, _⟩ => by cases h; rfl) fun cdv A outer s H E hr ds Pd ⟨d, h, hp⟩ => ?_
  have nd : (["book", "turn", "good", "taken", "bought", "poured", "spans", "lamp", "much"] : List Str).Nodup := by decide +kernel
  cases h with
  | mk b o turn ht =>
  have hl3 := o.l3
  have h0 : b.days[0]? = some b.days[0]! := get_bang o.d1
  have h0' : ((b.days.map dDy))[0]? = some (dDy b.days[0]!) := by rw [List.getElem?_map, h0]; rfl
  refine sb_cons (sx_set 2 nd (ev_call C__law_plain_day (hr.mono (by decide)) (ea_cons (ev_var 0) (ea_cons (ev_fdiv (ev_var 1) ev_int) ea_nil)) (fun _ p => ⟨_, .mk b o _ (by omega), p⟩)) ?_)
  refine sb_cons (sx_if (et_cmp co_eq (er_ (ev_mod (ev_var 1) ev_int)) (er_ ev_int)) (fun hk => ?_) (fun hk => ?_))
  · have hk' := of_decide_eq_true hk
    rw [spoilF, if_pos hk'] at hp
    exact sb_last (sx_ret (ev_call C__law_away_day (hr.mono (by decide)) (ea_cons (ev_var 0) (ea_cons (ev_fdiv (ev_var 1) ev_int) ea_nil)) (fun _ p => ⟨_, .mk b o _ (by omega), p⟩)) hp)
  have hk' := of_decide_eq_false hk
  rw [spoilF, if_neg hk'] at hp
  refine sb_nil ?_
  cases hg : plainF b (turn / 8) with
  | none =>
    rw [hg] at hp
    refine sb_cons (sx_if (k := true) (et_w (ew_or (k := true) (k2 := false) (et_is (et_cmp co_isN (er_ (ev_var 2)) (er_ ev_non)) (by rfl)) (fun hq => nomatch hq))) (fun _ => ?_) fun hq => nomatch hq)
    exact sb_last (sx_ret ev_non hp)
  | some x =>
    rw [hg] at hp
    replace hp : Pd (dOP (spoilX b turn x)) := hp
    obtain ⟨hpl, hsl, hsp⟩ := plain_spans o hg
    refine sb_cons (sx_if (k := decide (x.spans.length = 0)) (et_w (ew_or (k := false) (et_is (et_cmp co_isN (er_ (ev_var 2)) (er_ ev_non)) (by rfl)) (fun _ => ew_or1 (et_is (et_cmp co_eq (er_ (ev_len T (er_ (ev_ix (er_ (ev_var 2)) ev_int (h := rfl))))) (er_ ev_int)) (by rw [List.length_map]; exact decide_eq_decide.mpr (by omega)))))) (fun hk2 => ?_) (fun hk2 => ?_))
    · have hk3 := List.eq_nil_of_length_eq_zero (of_decide_eq_true hk2)
      rw [spoilX, if_pos hk3] at hp
      exact sb_last (sx_ret ev_non hp)
    have hk3 : ¬ x.spans = [] := fun z => by rw [z] at hk2; cases hk2
    rw [spoilX, if_neg hk3] at hp
    have hlen : 1 ≤ x.spans.length := List.length_pos_iff.mpr hk3
    refine sb_nil (sb_cons (sx_unpack (d := dPart x) (ev_var 2) (gx_tup (gxs_cons 3 nd (gxs_cons 4 nd (gxs_cons 5 nd (gxs_cons 6 nd gxs_nil))))) rfl ?_))
    have m1 := Int.emod_nonneg (turn / 64) (show (x.spans.length : Int) ≠ 0 by omega)
    have m2 := Int.emod_lt_of_pos (turn / 64) (show (0 : Int) < (x.spans.length : Int) by omega)
    have hgs := get_bang (xs := x.spans) (j := (turn / 64 % (x.spans.length : Int)).toNat) (by omega)
    have hat : atI (x.spans.map dSpn) (turn / 64 % (x.spans.length : Int)) = some (dSpn x.spans[(turn / 64 % (x.spans.length : Int)).toNat]!) := by
      have := at_ (f := dSpn) hgs
      rw [Int.toNat_of_nonneg m1] at this
      exact this
    obtain ⟨k, hk4, hkl⟩ := hsp _ (List.mem_of_getElem? hgs)
    have hsk : spoilL x turn = k := by unfold spoilL; rw [hk4]; rfl
    rw [hsk] at hp
    refine sb_cons (sx_set (d := .int k) 7 nd (ev_is (ev_ix (er_ (ev_ix (er_ (ev_var 6)) (ev_mod (ev_fdiv (ev_var 1) ev_int) (ev_is (ev_len T (er_ (ev_var 6))) (by rw [List.length_map])) (by omega)) (h := hat))) ev_int (h := rfl)) (by rw [hk4])) ?_)
    refine sb_cons (sx_new 8 nd (en_listOf T (er_ (ev_var 5))) ?_)
    have g1 := get_bang hkl
    have g2 := get_bang (xs := x.poured) (j := k) (by omega)
    have hix : ixN (x.poured.map D.int).length (k : Int) = some k := ixN_nat (by rw [List.length_map]; omega)
    refine sb_cons (sx_if (et_cmp co_eq (er_ (ev_mod (ev_var 1) ev_int)) (er_ ev_int)) (fun hk5 => ?_) (fun hk5 => ?_))
    · rw [if_pos (of_decide_eq_true hk5)] at hp
      refine sb_cons (sx_setIx (ei_var 8) (ev_var 7) (ev_add (ev_sub (ev_ix (er_ (ev_ix (er_ (ev_ix (er_ (ev_var 0)) ev_int (h := (by first | assumption | rfl | exact at_ (by assumption) | exact at_n (by assumption))))) (ev_var 7) (h := (at_ g1)))) ev_int (h := (by first | assumption | rfl | exact at_ (by assumption) | exact at_n (by assumption)))) (ev_ix (er_ (ev_ix (er_ (ev_ix (er_ (ev_var 0)) ev_int (h := (by first | assumption | rfl | exact at_ (by assumption) | exact at_n (by assumption))))) (ev_var 7) (h := (at_ g1)))) ev_int (h := (by first | assumption | rfl | exact at_ (by assumption) | exact at_n (by assumption))))) ev_int) rfl hix ?_)
      refine sb_last (sx_ret (ev_is (ev_tup (ea_cons (ev_ix (er_ (ev_ix (er_ (ev_ix (er_ (ev_var 0)) ev_int (h := (by first | assumption | rfl | exact at_ (by assumption) | exact at_n (by assumption))))) ev_int (h := at_n h0'))) ev_int (h := rfl)) (ea_cons (ev_ix (er_ (ev_ix (er_ (ev_ix (er_ (ev_var 0)) ev_int (h := (by first | assumption | rfl | exact at_ (by assumption) | exact at_n (by assumption))))) ev_int (h := at_n h0'))) ev_int (h := rfl)) (ea_cons (ev_tupleOf T (er_ref 8)) (ea_cons (ev_var 6) ea_nil))))) ?_) hp)
      rw [map_set_]
      rfl
    rw [if_neg (of_decide_eq_false hk5)] at hp
    refine sb_nil (sb_cons (sx_if (k := decide (turn % 4 = 2) && decide (0 < x.poured[k]!)) (et_w (ew_and (et_cmp co_eq (er_ (ev_mod (ev_var 1) ev_int)) (er_ ev_int)) (fun hq => (ew_and1 (et_cmp co_gt (er_ (ev_ix (er_ref 8) (ev_var 7) (h := (at_ g2)))) (er_ ev_int)))))) (fun hk6 => ?_) (fun hk6 => ?_)))
    · have hk7 : turn % 4 = 2 ∧ 0 < x.poured[k]! := by simpa using hk6
      rw [if_pos hk7] at hp
      refine sb_cons (sx_setIx (ei_var 8) (ev_var 7) (ev_sub (ev_ix (er_ref 8) (ev_var 7) (h := (at_ g2))) ev_int) rfl hix ?_)
      refine sb_last (sx_ret (ev_is (ev_tup (ea_cons (ev_var 3) (ea_cons (ev_var 4) (ea_cons (ev_tupleOf T (er_ref 8)) (ea_cons (ev_var 6) ea_nil))))) ?_) hp)
      rw [map_set_]
      rfl
    · have hk7 : ¬ (turn % 4 = 2 ∧ 0 < x.poured[k]!) := by simpa using hk6
      rw [if_neg hk7] at hp
      have hdl : x.spans = x.spans.dropLast ++ [x.spans.getLast!] := by
        rw [List.getLast!_eq_getLast?_getD, List.getLast?_eq_some_getLast hk3]
        exact (List.dropLast_concat_getLast hk3).symm
      refine sb_nil (sb_last (sx_ret (ev_tup (ea_cons (ev_var 3) (ea_cons (ev_var 4) (ea_cons (ev_var 5) (ea_cons (ev_call C__law_spans_off (hr.mono (by decide)) (ea_cons (ev_var 6) (ea_cons (ev_fdiv (ev_var 1) ev_int) ea_nil)) (fun _ p => ⟨_, ?_, p⟩)) ea_nil))))) hp))
      have := FLawSpansOff.mk x.spans.dropLast x.spans.getLast! (turn / 4) (by rw [List.length_dropLast]; omega)
      rw [← hdl] at this
      exact this
end

/-! ## the law: a bad day -/
def zerosL (b : Bk) : List Int := List.replicate b.lamps.length 0
def muchB (b : Bk) : Int := b.days[0]!.boat + b.days[0]!.most + b.oil + 1
def pouredB (b : Bk) (turn : Int) : List Int := (List.replicate (turn / 10 % (b.lamps.length : Int)).toNat 0 ++ [muchB b] ++ zerosL b).take b.lamps.length
def badB (b : Bk) (turn : Int) : List Part :=
  [⟨b.days[0]!.boat + 1, 0, zerosL b, []⟩, ⟨-1, 0, zerosL b, []⟩, ⟨0, b.days[0]!.most + 1, zerosL b, []⟩, ⟨0, -1, zerosL b, []⟩,
   ⟨b.days[0]!.boat, b.days[0]!.most, pouredB b turn, []⟩, ⟨0, 0, zerosL b, [⟨0, 0, 1⟩, ⟨b.lamps.length, 0, 1⟩]⟩, ⟨0, 0, zerosL b, [⟨0, 0, b.days[0]!.length + 1⟩]⟩,
   ⟨0, 0, zerosL b, [⟨0, 1, 1⟩]⟩, ⟨0, 0, -1 :: (zerosL b).drop 1, []⟩, ⟨0, 0, zerosL b, [⟨-1, 0, 1⟩]⟩]
def badL (b : Bk) (turn : Int) : List Part := badB b turn ++ (if 0 < b.days[0]!.wanted then [⟨0, 0, zerosL b, []⟩] else [])
def badE (b : Bk) (turn : Int) : Part := (badL b turn)[(turn % ((badL b turn).length : Int)).toNat]!
def badF (b : Bk) (turn : Int) : Part := if 0 < turn % 3 then (spoilF b (turn / 2)).getD (badE b (turn / 3)) else badE b (turn / 3)
inductive FLawBadDay : List D → D → Prop where
  | mk (b : Bk) (o : b.Ok) (turn : Int) (ht : 0 ≤ turn) : FLawBadDay [dBk b, .int turn] (dPart (badF b turn))
theorem cut1 {α : Type} (xs : List α) : cutD xs (some 1) none = xs.drop 1 := cutD_drop xs 1
theorem badL_len (b : Bk) (turn : Int) : 10 ≤ (badL b turn).length := by
  unfold badL
  rw [List.length_append]
  exact Nat.le_add_right _ _
theorem rep1 (m : Nat) (x : D) : (List.replicate m [x]).flatten = List.replicate m x := by
  have := repN m x
  rw [Int.toNat_natCast] at this
  exact this
section
variable {P : Program} {wd : World} {K : PySem.W.Frag} {mg : Str → Option Value} {base : Heap}
theorem c__law_bad_day (T : Tops K mg) (FD : IsDef K mg "_law_bad_day" sLawBadDay) (C__law_spoilt_day : Calls P wd K mg base 2 "_law_spoilt_day" (PF FLawSpoiltDay)) : Calls P wd K mg base 3 "_law_bad_day" (PF FLawBadDay) := by
  obtain ⟨f, fd, FD, hm⟩ := FD.ex
  refine Calls.mk (N := ["book", "turn", "spoilt", "lamps", "day", "nothing", "much", "poured", "spans", "parts"]) (ps := ["book", "turn"]) FD ⟨rfl, rfl, rfl, by decide +kernel, rfl, by decide +kernel, by decide +kernel⟩ hm (fun _ _ _ _ _ _ us h => by match us, h with | [a0, a1], _ => rfl) (fun ds Pd ⟨d, h, _⟩ => by cases h; rfl) fun cdv A outer s H E hr ds Pd ⟨d, h, hp⟩ => ?_
  have nd : (["book", "turn", "spoilt", "lamps", "day", "nothing", "much", "poured", "spans", "parts"] : List Str).Nodup := by decide +kernel
  cases h with
  | mk b o turn ht =>
  have hl3 := o.l3
  have hl1 := o.l1
  have h0 : b.days[0]? = some b.days[0]! := get_bang o.d1
  have h0' : ((b.days.map dDy))[0]? = some (dDy b.days[0]!) := by rw [List.getElem?_map, h0]; rfl
  refine sb_cons (sx_set 2 nd (ev_call C__law_spoilt_day (hr.mono (by decide)) (ea_cons (ev_var 0) (ea_cons (ev_fdiv (ev_var 1) ev_int) ea_nil)) (fun _ p => ⟨_, .mk b o _ (by omega), p⟩)) ?_)
  refine sb_cons (sx_if (k := decide (0 < turn % 3) && !isN (dOP (spoilF b (turn / 2)))) (et_w (ew_and (et_cmp co_gt (er_ (ev_mod (ev_var 1) ev_int)) (er_ ev_int)) (fun hq => (ew_and1 (et_cmp co_notN (er_ (ev_var 2)) (er_ ev_non)))))) (fun hk => ?_) (fun hk => ?_))
  · rw [Bool.and_eq_true, decide_eq_true_iff] at hk
    rw [badF, if_pos hk.1] at hp
    refine sb_last (sx_ret (ev_var 2) ?_)
    cases hs : spoilF b (turn / 2) with
    | none => rw [hs] at hk; exact nomatch hk.2
    | some x => rw [hs] at hp; exact hp
  have hbe : badF b turn = badE b (turn / 3) := by
    unfold badF
    split
    · rename_i h1
      cases hs : spoilF b (turn / 2) with
      | none => rfl
      | some x =>
        rw [hs, decide_eq_true h1] at hk
        exact nomatch hk
    · rfl
  rw [hbe] at hp
  have ht3 : 0 ≤ turn / 3 := by omega
  refine sb_nil (sb_cons (sx_set 1 nd (ev_fdiv (ev_var 1) ev_int) ?_))
  generalize turn / 3 = tn at hp ht3 ⊢
  refine sb_cons (sx_set (d := .int b.lamps.length) 3 nd (ev_is (ev_len T (er_ (ev_ix (er_ (ev_var 0)) ev_int (h := (by first | assumption | rfl | exact at_ (by assumption) | exact at_n (by assumption)))))) (by rw [List.length_map])) ?_)
  refine sb_cons (sx_set (d := dDy b.days[0]!) 4 nd (ev_ix (er_ (ev_ix (er_ (ev_var 0)) ev_int (h := (by first | assumption | rfl | exact at_ (by assumption) | exact at_n (by assumption))))) ev_int (h := at_n h0')) ?_)
  refine sb_cons (sx_set (d := dInts (zerosL b)) 5 nd (ev_is (ev_tupleOf T (er_n (en_is (en_rep (er_n (en_lst (ea_cons ev_int ea_nil))) (ev_var 3) ⟨by omega, by omega, by exact Nat.le_of_ble_eq_true rfl⟩) (repN _ _)))) (by unfold zerosL; rw [← List.map_replicate])) ?_)
  refine sb_cons (sx_set (d := .int (muchB b)) 6 nd (ev_add (ev_add (ev_add (ev_ix (er_ (ev_var 4)) ev_int (h := (by first | assumption | rfl | exact at_ (by assumption) | exact at_n (by assumption)))) (ev_ix (er_ (ev_var 4)) ev_int (h := (by first | assumption | rfl | exact at_ (by assumption) | exact at_n (by assumption))))) (ev_ix (er_ (ev_var 0)) ev_int (h := (by first | assumption | rfl | exact at_ (by assumption) | exact at_n (by assumption))))) ev_int) ?_)
  have m1 := Int.emod_nonneg (tn / 10) (show (b.lamps.length : Int) ≠ 0 by omega)
  have m2 := Int.emod_lt_of_pos (tn / 10) (show (0 : Int) < (b.lamps.length : Int) by omega)
  refine sb_cons (sx_set (d := dInts (pouredB b tn)) 7 nd (ev_is (ev_slT (ev_catT (ev_catT (ev_repT (i := tn / 10 % (b.lamps.length : Int)) (ev_tup (ea_cons ev_int ea_nil)) (ev_mod (ev_fdiv (ev_var 1) ev_int) (ev_var 3)) ⟨fun z => (nomatch z), by omega, by omega, by exact Nat.le_of_ble_eq_true rfl⟩) (ev_tup (ea_cons (ev_var 6) ea_nil)) (by rw [rep1]; simp; omega)) (ev_var 5) (by rw [rep1]; simp [zerosL]; omega)) eo_none (eo_some (ev_var 3))) ?_) ?_)
  · rw [cutD_take, rep1]
    unfold pouredB dInts
    rw [List.map_take, List.map_append, List.map_append, List.map_replicate]
    rfl
  refine sb_cons (sx_set (d := .tup [dSpn ⟨0, 0, 1⟩, dSpn ⟨b.lamps.length, 0, 1⟩]) 8 nd (ev_is (ev_tup (ea_cons (ev_tup (ea_cons ev_int (ea_cons ev_int (ea_cons ev_int ea_nil)))) (ea_cons (ev_tup (ea_cons (ev_var 3) (ea_cons ev_int (ea_cons ev_int ea_nil)))) ea_nil))) (by rfl)) ?_)
  refine sb_cons (sx_new 9 nd (ds := [dPart ⟨b.days[0]!.boat + 1, 0, zerosL b, []⟩, dPart ⟨-1, 0, zerosL b, []⟩, dPart ⟨0, b.days[0]!.most + 1, zerosL b, []⟩, dPart ⟨0, -1, zerosL b, []⟩]) (en_is (en_lst (ea_cons (ev_tup (ea_cons (ev_add (ev_ix (er_ (ev_var 4)) ev_int (h := (by first | assumption | rfl | exact at_ (by assumption) | exact at_n (by assumption)))) ev_int) (ea_cons ev_int (ea_cons (ev_var 5) (ea_cons (ev_tup ea_nil) ea_nil))))) (ea_cons (ev_tup (ea_cons (ev_neg ev_int) (ea_cons ev_int (ea_cons (ev_var 5) (ea_cons (ev_tup ea_nil) ea_nil))))) (ea_cons (ev_tup (ea_cons ev_int (ea_cons (ev_add (ev_ix (er_ (ev_var 4)) ev_int (h := (by first | assumption | rfl | exact at_ (by assumption) | exact at_n (by assumption)))) ev_int) (ea_cons (ev_var 5) (ea_cons (ev_tup ea_nil) ea_nil))))) (ea_cons (ev_tup (ea_cons ev_int (ea_cons (ev_neg ev_int) (ea_cons (ev_var 5) (ea_cons (ev_tup ea_nil) ea_nil))))) ea_nil))))) (by rfl)) ?_)
  refine sb_cons (sx_extend (es := [dPart ⟨b.days[0]!.boat, b.days[0]!.most, pouredB b tn, []⟩, dPart ⟨0, 0, zerosL b, [⟨0, 0, 1⟩, ⟨b.lamps.length, 0, 1⟩]⟩, dPart ⟨0, 0, zerosL b, [⟨0, 0, b.days[0]!.length + 1⟩]⟩]) (ei_var 9) (ev_is (ev_n (en_lst (ea_cons (ev_tup (ea_cons (ev_ix (er_ (ev_var 4)) ev_int (h := (by first | assumption | rfl | exact at_ (by assumption) | exact at_n (by assumption)))) (ea_cons (ev_ix (er_ (ev_var 4)) ev_int (h := (by first | assumption | rfl | exact at_ (by assumption) | exact at_n (by assumption)))) (ea_cons (ev_var 7) (ea_cons (ev_tup ea_nil) ea_nil))))) (ea_cons (ev_tup (ea_cons ev_int (ea_cons ev_int (ea_cons (ev_var 5) (ea_cons (ev_var 8) ea_nil))))) (ea_cons (ev_tup (ea_cons ev_int (ea_cons ev_int (ea_cons (ev_var 5) (ea_cons (ev_tup (ea_cons (ev_tup (ea_cons ev_int (ea_cons ev_int (ea_cons (ev_add (ev_ix (er_ (ev_var 4)) ev_int (h := (by first | assumption | rfl | exact at_ (by assumption) | exact at_n (by assumption)))) ev_int) ea_nil)))) ea_nil)) ea_nil))))) ea_nil))))) (by rfl)) rfl (by simp) ?_)
  refine sb_cons (sx_extend (es := [dPart ⟨0, 0, zerosL b, [⟨0, 1, 1⟩]⟩, dPart ⟨0, 0, -1 :: (zerosL b).drop 1, []⟩, dPart ⟨0, 0, zerosL b, [⟨-1, 0, 1⟩]⟩]) (ei_var 9) (ev_is (ev_n (en_lst (ea_cons (ev_tup (ea_cons ev_int (ea_cons ev_int (ea_cons (ev_var 5) (ea_cons (ev_tup (ea_cons (ev_tup (ea_cons ev_int (ea_cons ev_int (ea_cons ev_int ea_nil)))) ea_nil)) ea_nil))))) (ea_cons (ev_tup (ea_cons ev_int (ea_cons ev_int (ea_cons (ev_is (y := dInts (-1 :: (zerosL b).drop 1)) (ev_catT (ev_tup (ea_cons (ev_neg ev_int) ea_nil)) (ev_slT (ev_var 5) (eo_some ev_int) eo_none) (by rw [cut1]; unfold zerosL; simp; omega)) (by rw [cut1, ← List.map_drop]; rfl)) (ea_cons (ev_tup ea_nil) ea_nil))))) (ea_cons (ev_tup (ea_cons ev_int (ea_cons ev_int (ea_cons (ev_var 5) (ea_cons (ev_tup (ea_cons (ev_tup (ea_cons (ev_neg ev_int) (ea_cons ev_int (ea_cons ev_int ea_nil)))) ea_nil)) ea_nil))))) ea_nil))))) (by rfl)) rfl (by simp) ?_)
  refine sb_cut (fun ρ s => ∃ z, ρ = (setAll (start0 ["book", "turn", "spoilt", "lamps", "day", "nothing", "much", "poured", "spans", "parts"] [.d (dBk b), .d (.int turn)]) [2, 1, 3, 4, 5, 6, 7, 8] [dOP (spoilF b (turn / 2)), .int tn, .int b.lamps.length, dDy b.days[0]!, dInts (zerosL b), .int (muchB b), dInts (pouredB b tn), z]).set 9 (.r 0) ∧ s = [.lst ((badL b tn).map dPart)]) ?_ ?_
  · refine sx_if (et_cmp co_gt (er_ (ev_ix (er_ (ev_var 4)) ev_int (h := (by first | assumption | rfl | exact at_ (by assumption) | exact at_n (by assumption))))) (er_ ev_int)) (fun hk2 => ?_) (fun hk2 => ?_)
    · refine sb_last (sx_append (ei_var 9) (ev_is (y := dPart ⟨0, 0, zerosL b, []⟩) (ev_tup (ea_cons ev_int (ea_cons ev_int (ea_cons (ev_var 5) (ea_cons (ev_tup ea_nil) ea_nil))))) (by rfl)) rfl (by simp) ⟨_, rfl, ?_⟩)
      have hw : 0 < b.days[0]!.wanted := of_decide_eq_true hk2
      rw [badL, if_pos hw, List.map_append]
      rfl
    · refine sb_nil ⟨_, rfl, ?_⟩
      have hw : ¬ 0 < b.days[0]!.wanted := of_decide_eq_false hk2
      rw [badL, if_neg hw, List.append_nil]
      rfl
  · rintro ρ s ⟨z, rfl, rfl⟩
    have hbl := badL_len b tn
    have n1 := Int.emod_nonneg tn (show ((badL b tn).length : Int) ≠ 0 by omega)
    have n2 := Int.emod_lt_of_pos tn (show (0 : Int) < ((badL b tn).length : Int) by omega)
    have hg := get_bang (xs := badL b tn) (j := (tn % ((badL b tn).length : Int)).toNat) (by omega)
    have hat : atI ((badL b tn).map dPart) (tn % ((badL b tn).length : Int)) = some (dPart (badE b tn)) := by
      have := at_ (f := dPart) hg
      rw [Int.toNat_of_nonneg n1] at this
      exact this
    exact sb_last (sx_ret (ev_ix (er_ref 9) (ev_mod (ev_var 1) (ev_is (ev_len T (er_ref 9)) (by rw [List.length_map])) (by omega)) (h := hat)) hp)
end

/-! ## what the plain laws must give (proved in M5..) -/
structure Laws : Prop where
  fl : ∀ b : Bk, b.Ok → b.FlOk
  good : ∀ (b : Bk) (turn : Int) (x : Part), b.Ok → 0 ≤ turn → dayByF b turn = some x → x.poured.length = b.lamps.length ∧ x.spans.length ≤ 20 ∧ oneF (b.cut 1) x = ""
  bad : ∀ (b : Bk) (turn : Int), b.Ok → 0 ≤ turn → (badF b turn).poured.length = b.lamps.length ∧ (badF b turn).spans.length ≤ 20 ∧ ¬ oneF (b.cut 1) (badF b turn) = ""
  behind : ∀ (b b' : Bk) (x : Part), b.Ok → x.poured.length = b.lamps.length → oneF (b.cut 1) x = "" → b.behind (goneStore (b.cut 1) b.oil x) (goneTanks (b.lamps.map (·.oil)) x) = some b' → b'.Ok
theorem Bk.Ok.left {b : Bk} (o : b.Ok) {i : Nat} (hi : i < b.lamps.length) : (b.leftOut i).Ok := by
  have hl : (b.leftOut i).lamps.length = b.lamps.length := List.length_set ..
  have h1 := o.lamp _ (List.mem_of_getElem? (get_bang hi))
  refine ⟨by rw [hl]; exact o.l1, by rw [hl]; exact o.l3, o.d1, o.d4, fun l h => ?_, fun d hd => ?_, o.st⟩
  · rcases List.mem_or_eq_of_mem_set h with h | h
    · exact o.lamp l h
    · rw [h]
      exact ⟨h1.1, h1.2.1, by show (rng b.days.length).length ≤ 4; rw [rng_len]; exact o.d4⟩
  · rw [hl]
    exact o.day d hd
theorem Bk.Ok.put {b : Bk} (o : b.Ok) {j : Nat} {d : Dy} (h : 0 ≤ d.boat ∧ 0 ≤ d.most ∧ 1 ≤ d.length ∧ 0 ≤ d.wanted ∧ d.wanted ≤ b.lamps.length) : ({ b with days := b.days.set j d } : Bk).Ok := by
  have hl : (b.days.set j d).length = b.days.length := List.length_set ..
  refine ⟨o.l1, o.l3, by show 1 ≤ (b.days.set j d).length; rw [hl]; exact o.d1, by show (b.days.set j d).length ≤ 4; rw [hl]; exact o.d4, o.lamp, fun e he => ?_, o.st⟩
  rcases List.mem_or_eq_of_mem_set he with h2 | h2
  · exact o.day e h2
  · rw [h2]; exact h
/-! ## the law: a deed -/
def OkO (ob : Option Bk) : Prop := ∀ b, ob = some b → b.Ok
inductive FLawDeed : GF where
  | mk {R : D → List MO → Prop} {Y : List MO → Prop} (xs : List D) (t : Int) (b : Bk) (o : b.Ok) (ext : List D) (c : Int) (hz : xs.length ≤ 900)
    (hR : ∀ t' ob', OkO ob' → R (.tup [.int t', dOB ob', .non]) (sW (xs ++ [dSt t (some b)] ++ [dSt t' ob']))) : FLawDeed [.r 0, .d (.tup (.int t :: dBk b :: ext)), .d (.int c)] (sW (xs ++ [dSt t (some b)])) R Y
theorem cut2 {α : Type} (xs : List α) : cutD xs none (some 2) = xs.take 2 := cutD_take xs 2
theorem pick3 {a c e : D} {i : Int} (h0 : 0 ≤ i) (h3 : i < 3) : atI [a, c, e] i = some (if i = 0 then a else if i = 1 then c else e) := by
  have : i = 0 ∨ i = 1 ∨ i = 2 := by omega
  rcases this with rfl | rfl | rfl <;> rfl
theorem pow30 : D.int ((10 : Int) ^ (30 : Int).toNat) = .int 1000000000000000000000000000000 := by
  congr 1
theorem ev_1e30 {X : Cx} {ρ : List Sl} {s : List MO} {i j : Nat} {p1 p2 p3 : Pos} : EV X ρ s (.BinOp (.Constant (.int 10) i p1) .Pow (.Constant (.int 30) j p2) p3) (.int 1000000000000000000000000000000) := ev_is (ev_pow ev_int ev_int) pow30
def deedM (turn : Int) : Int := if turn / 520 % 3 = 0 then turn / 40 % 13 else if turn / 520 % 3 = 1 then 0 else 1000000000000000000000000000000 - turn / 40 % 3
section
variable {P : Program} {wd : World} {K : PySem.W.Frag} {mg : Str → Option Value} {base : Heap}
theorem c__law_deed (T : Tops K mg) (laws : Laws) (cw : Cls K (wC K)) (nA : NoAttr K (wC K) "states") (FD : IsDef K mg "_law_deed" sLawDeed) (C__law_stir : Calls P wd K mg base 1 "_law_stir" (PF FLawStir)) (C__law_day_by : Calls P wd K mg base 9 "_law_day_by" (PF FLawDayBy)) (C__law_after : Calls P wd K mg base 1 "_law_after" (PF FLawAfter)) (C__law_failed : Calls P wd K mg base 1 "_law_failed" (PF FLawFailed)) (C__law_day_put : Calls P wd K mg base 1 "_law_day_put" (PF FLawDayPut)) (C_night : GMeth P wd K mg base 5 "night" FNight) (C_fails : GMeth P wd K mg base 2 "fails" FFails) (C_boat : GMeth P wd K mg base 3 "boat" FBoat) (C_wants : GMeth P wd K mg base 3 "wants" FWants) : GCalls P wd K mg base 10 "_law_deed" FLawDeed := by
  obtain ⟨f, fd, FD, hm⟩ := FD.ex
  refine GCalls.mk (N := ["watch", "state", "cell", "today", "book", "turn", "place", "day", "part", "given", "lamp", "much", "wanted"]) (ps := ["watch", "state", "cell"]) FD ⟨rfl, rfl, rfl, by decide +kernel, rfl, by decide +kernel, by decide +kernel⟩ hm (fun _ _ _ _ _ _ us h => by match us, h with | [a0, a1, a2], _ => rfl) (fun sl s R Y h => by cases h; rfl) fun cdv A outer z H E hr sl s R Y h => ?_
  have nd : (["watch", "state", "cell", "today", "book", "turn", "place", "day", "part", "given", "lamp", "much", "wanted"] : List Str).Nodup := by decide +kernel
  cases h with
  | mk xs t b o ext c hz hR =>
  have hl3 := o.l3
  have hl1 := o.l1
  have hd1 := o.d1
  have hd4 := o.d4
  refine sb_cons (sx_unpack (d := .tup [.int t, dBk b]) (ev_is (ev_slT (ev_var 1) eo_none (eo_some ev_int)) (by rw [cut2]; rfl)) (gx_tup (gxs_cons 3 nd (gxs_cons 4 nd gxs_nil))) rfl ?_)
  refine sb_cons (sx_set 5 nd (ev_call C__law_stir (hr.mono (by decide)) (ea_cons (ev_var 2) (ea_cons ev_int ea_nil)) (fun _ p => ⟨_, .mk c 8, p⟩)) ?_)
  have hh := stir_nn c 8
  generalize stirF c 8 = tn at hh ⊢
  have p1 := Int.emod_nonneg (tn / 8) (show (b.days.length : Int) ≠ 0 by omega)
  have p2 := Int.emod_lt_of_pos (tn / 8) (show (0 : Int) < (b.days.length : Int) by omega)
  obtain ⟨j, hj⟩ : ∃ j : Nat, tn / 8 % (b.days.length : Int) = j := ⟨(tn / 8 % (b.days.length : Int)).toNat, by omega⟩
  have hjl : j < b.days.length := by omega
  have hjd := get_bang hjl
  have hday := o.day _ (List.mem_of_getElem? hjd)
  refine sb_cons (sx_set (d := .int j) 6 nd (ev_is (ev_mod (ev_fdiv (ev_var 5) ev_int) (ev_is (ev_len T (er_ (ev_ix (er_ (ev_var 4)) ev_int (h := (by first | assumption | rfl | exact at_ (by assumption) | exact at_n (by assumption)))))) (by rw [List.length_map])) (by omega)) (by rw [hj])) ?_)
  refine sb_cons (sx_set 7 nd (ev_ix (er_ (ev_ix (er_ (ev_var 4)) ev_int (h := (by first | assumption | rfl | exact at_ (by assumption) | exact at_n (by assumption))))) (ev_var 6) (h := (at_ hjd))) ?_)
  refine sb_cons (sx_set 8 nd (ev_call C__law_day_by (hr.mono (by decide)) (ea_cons (ev_var 4) (ea_cons (ev_var 5) ea_nil)) (fun _ p => ⟨_, .mk b o (laws.fl b o) tn hh, p⟩)) ?_)
  cases hdb : dayByF b tn with
  | some x =>
    obtain ⟨hx1, hx2, hx3⟩ := laws.good b tn x o hh hdb
    have hin := dayF_in (show dayF (b.cut 1) 0 (b.cut 1).oil ((b.cut 1).lamps.map (·.oil)) x = "" from hx3)
    rw [List.length_map, cut_lamps] at hin
    refine sb_cons (sx_if (k := true) (et_is (et_cmp co_notN (er_ (ev_var 8)) (er_ ev_non)) (by rfl)) (fun _ => ?_) fun hq => nomatch hq)
    refine sb_cons (sx_setC 9 nd (ec_meth (R := fun d st => d = .non ∧ st = nightOut xs t b x) (Y := False) C_night cw (hr.mono (by decide)) (ei_var 0) (ea_cons (ev_var 8) ea_nil) rfl rfl (by exact .mk xs t b o x hx1 hx2 (by omega) (fun _ => ⟨_, [], rfl, .non, rfl, rfl⟩) (fun hn => absurd hx3 hn))) ?_ ?_)
    · rintro d s' ⟨_, rfl, rfl, rfl⟩
      refine sb_last (sx_ret (ev_tup (ea_cons (ev_add (ev_var 3) ev_int) (ea_cons (ev_call C__law_after (hr.mono (by decide)) (ea_cons (ev_var 4) (ea_cons (ev_var 8) ea_nil)) (fun _ p => ⟨_, .mk b o x hx1 hin, p⟩)) (ea_cons (ev_var 9) ea_nil)))) ?_)
      exact hR _ _ fun b' hb' => laws.behind b b' x o hx1 hx3 hb'
    · rintro s' ⟨rfl, h⟩
      exact h.elim
  | none =>
    refine sb_cons (sx_if (k := false) (et_is (et_cmp co_notN (er_ (ev_var 8)) (er_ ev_non)) (by rfl)) (fun hq => nomatch hq) fun _ => sb_nil ?_)
    refine sb_cons (sx_if (et_cmp co_eq (er_ (ev_mod (ev_var 5) ev_int)) (er_ ev_int)) (fun hk => ?_) (fun hk => sb_nil ?_))
    · have q1 := Int.emod_nonneg (tn / 40) (show (b.lamps.length : Int) ≠ 0 by omega)
      have q2 := Int.emod_lt_of_pos (tn / 40) (show (0 : Int) < (b.lamps.length : Int) by omega)
      obtain ⟨i, hi⟩ : ∃ i : Nat, tn / 40 % (b.lamps.length : Int) = i := ⟨(tn / 40 % (b.lamps.length : Int)).toNat, by omega⟩
      have hil : i < b.lamps.length := by omega
      refine sb_cons (sx_set (d := .int i) 10 nd (ev_is (ev_mod (ev_fdiv (ev_var 5) ev_int) (ev_is (ev_len T (er_ (ev_ix (er_ (ev_var 4)) ev_int (h := (by first | assumption | rfl | exact at_ (by assumption) | exact at_n (by assumption)))))) (by rw [List.length_map])) (by omega)) (by rw [hi])) ?_)
      refine sb_cons (sx_setC 9 nd (ec_meth (R := fun d st => d = .non ∧ st = xs ++ [dSt t (some b)] ++ [dSt t (some (b.leftOut i))]) (Y := False) C_fails cw (hr.mono (by decide)) (ei_var 0) (ea_cons (ev_var 10) ea_nil) rfl rfl (by exact .mk xs t b o (i : Int) (by omega) (fun i' e h => by obtain rfl : i = i' := (by omega); exact ⟨_, [], rfl, .non, rfl, rfl⟩) (fun hn => by omega))) ?_ ?_)
      · rintro d s' ⟨_, rfl, rfl, rfl⟩
        refine sb_last (sx_ret (ev_tup (ea_cons (ev_var 3) (ea_cons (ev_call C__law_failed (hr.mono (by decide)) (ea_cons (ev_var 4) (ea_cons (ev_var 10) ea_nil)) (fun _ p => ⟨_, .mk b i hil hd4, p⟩)) (ea_cons (ev_var 9) ea_nil)))) ?_)
        exact hR t (some (b.leftOut i)) fun b' hb' => by cases hb'; exact o.left hil
      · rintro s' ⟨rfl, h⟩
        exact h.elim
    refine sb_cons (sx_if (et_cmp co_eq (er_ (ev_mod (ev_var 5) ev_int)) (er_ ev_int)) (fun hk2 => ?_) (fun hk2 => sb_nil ?_))
    · have hm0 : 0 ≤ deedM tn ∧ deedM tn ≤ 1000000000000000000000000000000 := by unfold deedM; split <;> (try split) <;> omega
      have hx3 : atI [D.int (tn / 40 % 13), D.int 0, D.int (1000000000000000000000000000000 - tn / 40 % 3)] (tn / 520 % 3) = some (.int (deedM tn)) := by
        rw [pick3 (by omega) (by omega)]
        unfold deedM
        split
        · rfl
        · split <;> rfl
      generalize deedM tn = mu at hm0 hx3
      refine sb_cons ?_
      generalize hq : Const.int 30 = q
      have hq2 : ∀ (X : Cx) (ρ : List Sl) (s : List MO) (i j : Nat) (p1 p2 p3 : Pos), EV X ρ s (.BinOp (.Constant (.int 10) i p1) .Pow (.Constant q j p2) p3) (.int 1000000000000000000000000000000) := fun X ρ s i j p1 p2 p3 => by
        rw [← hq]
        exact ev_1e30
      refine sx_set 11 nd (ev_ix (er_n (en_lst (ea_cons (ev_mod (ev_fdiv (ev_var 5) ev_int) ev_int) (ea_cons ev_int (ea_cons (ev_sub (hq2 _ _ _ _ _ _ _ _) (ev_mod (ev_fdiv (ev_var 5) ev_int) ev_int)) ea_nil))))) (ev_mod (ev_fdiv (ev_var 5) ev_int) ev_int) (h := hx3)) ?_ (hs := by subst hq; kernel_rfl)
      refine sb_cons (sx_setC 9 nd (ec_meth (R := fun d st => d = .non ∧ st = xs ++ [dSt t (some b)] ++ [dSt t (some { b with days := b.days.set j { b.days[j]! with boat := mu } })]) (Y := False) C_boat cw (hr.mono (by decide)) (ei_var 0) (ea_cons (ev_add (ev_var 3) (ev_var 6)) (ea_cons (ev_var 11) ea_nil)) rfl rfl (by exact .mk xs t b o (t + j) mu (by omega) (fun i' e h _ _ => by obtain rfl : j = i' := (by omega); exact ⟨_, [], rfl, .non, rfl, rfl⟩) (fun hn => by omega))) ?_ ?_)
      · rintro d s' ⟨_, rfl, rfl, rfl⟩
        refine sb_last (sx_ret (ev_tup (ea_cons (ev_var 3) (ea_cons (ev_call C__law_day_put (hr.mono (by decide)) (ea_cons (ev_var 4) (ea_cons (ev_var 6) (ea_cons (ev_is (y := dDy { b.days[j]! with boat := mu }) (ev_catT (ys := [.int b.days[j]!.most, .int b.days[j]!.price, .int b.days[j]!.length, .int b.days[j]!.wanted]) (ev_tup (ea_cons (ev_var 11) ea_nil)) (ev_is (ev_slT (xs := [.int b.days[j]!.boat, .int b.days[j]!.most, .int b.days[j]!.price, .int b.days[j]!.length, .int b.days[j]!.wanted]) (ev_var 7) (eo_some ev_int) eo_none) (by rfl))) (by rfl)) ea_nil))) (fun _ p => ⟨_, .mk b j hjl _, p⟩)) (ea_cons (ev_var 9) ea_nil)))) ?_)
        exact hR t (some _) fun b' hb' => by cases hb'; exact o.put (by exact ⟨hm0.1, hday.2⟩)
      · rintro s' ⟨rfl, h⟩
        exact h.elim
    · have w1 := Int.emod_nonneg (tn / 40) (show ((b.lamps.length : Int) + 1) ≠ 0 by omega)
      have w2 := Int.emod_lt_of_pos (tn / 40) (show (0 : Int) < (b.lamps.length : Int) + 1 by omega)
      refine sb_cons (sx_set (d := .int (tn / 40 % ((b.lamps.length : Int) + 1))) 12 nd (ev_mod (ev_fdiv (ev_var 5) ev_int) (ev_is (ev_add (ev_len T (er_ (ev_ix (er_ (ev_var 4)) ev_int (h := (by first | assumption | rfl | exact at_ (by assumption) | exact at_n (by assumption)))))) ev_int) (by rw [List.length_map])) (by omega)) ?_)
      refine sb_cut (fun ρ s => ∃ wa : Int, (0 ≤ wa ∧ wa ≤ b.lamps.length) ∧ ρ = (setAll (start0 ["watch", "state", "cell", "today", "book", "turn", "place", "day", "part", "given", "lamp", "much", "wanted"] [.r 0, .d (.tup (.int t :: dBk b :: ext)), .d (.int c)]) [3, 4, 5, 6, 7, 8, 12] [.int t, dBk b, .int tn, .int j, dDy b.days[j]!, .non, .int wa]) ∧ s = sW (xs ++ [dSt t (some b)])) ?_ ?_
      · refine sx_if (et_cmp co_lt (er_ (ev_mod (ev_var 5) ev_int)) (er_ ev_int)) (fun hk3 => ?_) (fun hk3 => ?_)
        · refine sb_last (sx_set 12 nd (ev_max2 T ev_int (ev_sub (ev_ix (er_ (ev_var 7)) ev_int (h := (by first | assumption | rfl | exact at_ (by assumption) | exact at_n (by assumption)))) ev_int)) ⟨max 0 (b.days[j]!.wanted - 1), by omega, rfl, rfl⟩)
        · exact sb_nil ⟨_, ⟨by omega, by omega⟩, rfl, rfl⟩
      · rintro ρ s ⟨wa, hwa, rfl, rfl⟩
        refine sb_cons (sx_setC 9 nd (ec_meth (R := fun d st => d = .non ∧ st = xs ++ [dSt t (some b)] ++ [dSt t (some { b with days := b.days.set j { b.days[j]! with wanted := wa } })]) (Y := False) C_wants cw (hr.mono (by decide)) (ei_var 0) (ea_cons (ev_add (ev_var 3) (ev_var 6)) (ea_cons (ev_var 12) ea_nil)) rfl rfl (by exact .mk xs t b o (t + j) wa (by omega) (fun i' e h _ _ => by obtain rfl : j = i' := (by omega); exact ⟨_, [], rfl, .non, rfl, rfl⟩) (fun hn => by omega))) ?_ ?_)
        · rintro d s' ⟨_, rfl, rfl, rfl⟩
          refine sb_last (sx_ret (ev_tup (ea_cons (ev_var 3) (ea_cons (ev_call C__law_day_put (hr.mono (by decide)) (ea_cons (ev_var 4) (ea_cons (ev_var 6) (ea_cons (ev_is (y := dDy { b.days[j]! with wanted := wa }) (ev_catT (xs := [.int b.days[j]!.boat, .int b.days[j]!.most, .int b.days[j]!.price, .int b.days[j]!.length]) (ev_is (ev_slT (xs := [.int b.days[j]!.boat, .int b.days[j]!.most, .int b.days[j]!.price, .int b.days[j]!.length, .int b.days[j]!.wanted]) (ev_var 7) eo_none (eo_some ev_int)) (by rfl)) (ev_tup (ea_cons (ev_var 12) ea_nil))) (by rfl)) ea_nil))) (fun _ p => ⟨_, .mk b j hjl _, p⟩)) (ea_cons (ev_var 9) ea_nil)))) ?_)
          exact hR t (some _) fun b' hb' => by cases hb'; exact o.put (by exact ⟨hday.1, hday.2.1, hday.2.2.1, hwa.1, hwa.2⟩)
        · rintro s' ⟨rfl, h⟩
          exact h.elim
end

/-! ## the law: what can not be -/
structure XL (K : PySem.W.Frag) (mg : Str → Option Value) : Prop where
  lamp : mg "LampError" = some (.ref (He.ga K "LampError"))
  exm : PySem.W.exmOne K (.ref (He.ga K "NoDeed")) (.ref (He.ga K "LampError")) = some true
theorem at0 {α : Type} {a : α} {r : List α} : atI (a :: r) 0 = some a := at_n (j := 0) rfl
theorem at1 {α : Type} {a c : α} {r : List α} : atI (a :: c :: r) 1 = some c := at_n (j := 1) rfl
inductive FLawTry (K : PySem.W.Frag) : GF where
  | mk {R : D → List MO → Prop} {Y : List MO → Prop} (xs : List D) (t : Int) (b : Bk) (o : b.Ok) (ext : List D) (c : Int) (hz : xs.length ≤ 900)
    (hR : R (.exc (He.ga K "NoDeed")) (sW (xs ++ [dSt t (some b)]))) : FLawTry K [.r 0, .d (.tup (.int t :: dBk b :: ext)), .d (.int c)] (sW (xs ++ [dSt t (some b)])) R Y
theorem pick4 {P : D → Prop} {a c e f : D} {i : Int} (h0 : 0 ≤ i) (h4 : i < 4) (ha : P a) (hc : P c) (he : P e) (hf : P f) : ∃ d, atI [a, c, e, f] i = some d ∧ P d := by
  have : i = 0 ∨ i = 1 ∨ i = 2 ∨ i = 3 := by omega
  rcases this with rfl | rfl | rfl | rfl
  · exact ⟨a, rfl, ha⟩
  · exact ⟨c, rfl, hc⟩
  · exact ⟨e, rfl, he⟩
  · exact ⟨f, rfl, hf⟩
section
variable {P : Program} {wd : World} {K : PySem.W.Frag} {mg : Str → Option Value} {base : Heap}
theorem c__law_try (T : Tops K mg) (laws : Laws) (cw : Cls K (wC K)) (nA : NoAttr K (wC K) "states") (xl : XL K mg) (FD : IsDef K mg "_law_try" sLawTry) (C__law_stir : Calls P wd K mg base 1 "_law_stir" (PF FLawStir)) (C__law_bad_day : Calls P wd K mg base 3 "_law_bad_day" (PF FLawBadDay)) (C_night : GMeth P wd K mg base 5 "night" FNight) (C_fails : GMeth P wd K mg base 2 "fails" FFails) (C_boat : GMeth P wd K mg base 3 "boat" FBoat) (C_wants : GMeth P wd K mg base 3 "wants" FWants) : GCalls P wd K mg base 6 "_law_try" (FLawTry K) := by
  obtain ⟨f, fd, FD, hm⟩ := FD.ex
  refine GCalls.mk (N := ["watch", "state", "cell", "turn", "book", "lamps", "rest", "far", "wrong", "day", "good", "caught", "e"]) (ps := ["watch", "state", "cell"]) FD ⟨rfl, rfl, rfl, by decide +kernel, rfl, by decide +kernel, by decide +kernel⟩ hm (fun _ _ _ _ _ _ us h => by match us, h with | [a0, a1, a2], _ => rfl) (fun sl s R Y h => by cases h; rfl) fun cdv A outer z H E hr sl s R Y h => ?_
  have nd : (["watch", "state", "cell", "turn", "book", "lamps", "rest", "far", "wrong", "day", "good", "caught", "e"] : List Str).Nodup := by decide +kernel
  cases h with
  | mk xs t b o ext c hz hR =>
  have hl3 := o.l3
  have hl1 := o.l1
  have hd1 := o.d1
  have hd4 := o.d4
  refine sb_cons (sx_set 3 nd (ev_call C__law_stir (hr.mono (by decide)) (ea_cons (ev_var 2) (ea_cons ev_int ea_nil)) (fun _ p => ⟨_, .mk c 11, p⟩)) ?_)
  have hh := stir_nn c 11
  generalize stirF c 11 = tn at hh ⊢
  refine sb_cons (sx_set (d := dBk b) 4 nd (ev_ix (er_ (ev_var 1)) ev_int (h := at1)) ?_)
  refine sb_cons (sx_set (d := .int b.lamps.length) 5 nd (ev_is (ev_len T (er_ (ev_ix (er_ (ev_var 4)) ev_int (h := (by first | assumption | rfl | exact at_ (by assumption) | exact at_n (by assumption) | exact at0 | exact at1))))) (by rw [List.length_map])) ?_)
  refine sb_cons (sx_set 6 nd (ev_fdiv (ev_var 3) ev_int) ?_)
  refine sb_cons (sx_set 7 nd (ev_mod (ev_fdiv (ev_var 6) ev_int) ev_int) ?_)
  have hr0 : 0 ≤ tn / 16 := by omega
  generalize tn / 16 = re at hr0 ⊢
  have hf0 : 0 ≤ re / 4 % 9 := by omega
  generalize re / 4 % 9 = far at hf0 ⊢
  obtain ⟨dw, hdw, wr, rfl, hwr⟩ : ∃ d, atI [D.int (-1), D.int (-1 - far), D.int (1000000000000000000000000000000 + 1), D.int (1000000000000000000000000000000 + 1 + far)] (re % 4) = some d ∧ ∃ w : Int, d = .int w ∧ (w < 0 ∨ 1000000000000000000000000000000 < w) :=
    pick4 (by omega) (by omega) ⟨_, rfl, by omega⟩ ⟨_, rfl, by omega⟩ ⟨_, rfl, by omega⟩ ⟨_, rfl, by omega⟩
  refine sb_cons ?_
  generalize hq : Const.int 30 = q
  have hq2 : ∀ (X : Cx) (ρ : List Sl) (s : List MO) (i j : Nat) (p1 p2 p3 : Pos), EV X ρ s (.BinOp (.Constant (.int 10) i p1) .Pow (.Constant q j p2) p3) (.int 1000000000000000000000000000000) := fun X ρ s i j p1 p2 p3 => by
    rw [← hq]
    exact ev_1e30
  refine sx_set 8 nd (ev_ix (er_n (en_lst (ea_cons (ev_neg ev_int) (ea_cons (ev_sub (ev_neg ev_int) (ev_var 7)) (ea_cons (ev_add (hq2 _ _ _ _ _ _ _ _) ev_int) (ea_cons (ev_add (ev_add (hq2 _ _ _ _ _ _ _ _) ev_int) (ev_var 7)) ea_nil)))))) (ev_mod (ev_var 6) ev_int) (h := hdw)) ?_ (hs := by subst hq; kernel_rfl)
  obtain ⟨dd, hdd, dy, rfl, hdy⟩ : ∃ d, atI [D.int (t - 1), D.int (t + b.days.length), D.int (t - 1 - far), D.int (t + 16 + far)] (re % 4) = some d ∧ ∃ w : Int, d = .int w ∧ (w - t < 0 ∨ (b.days.length : Int) ≤ w - t) :=
    pick4 (by omega) (by omega) ⟨_, rfl, by omega⟩ ⟨_, rfl, by omega⟩ ⟨_, rfl, by omega⟩ ⟨_, rfl, by omega⟩
  refine sb_cons (sx_set 9 nd (ev_ix (er_n (en_lst (ea_cons (ev_sub (ev_ix (er_ (ev_var 1)) ev_int (h := at0)) ev_int) (ea_cons (ev_add (ev_ix (er_ (ev_var 1)) ev_int (h := at0)) (ev_is (ev_len T (er_ (ev_ix (er_ (ev_var 4)) ev_int (h := (by first | assumption | rfl | exact at_ (by assumption) | exact at_n (by assumption) | exact at0 | exact at1))))) (by rw [List.length_map]))) (ea_cons (ev_sub (ev_sub (ev_ix (er_ (ev_var 1)) ev_int (h := at0)) ev_int) (ev_var 7)) (ea_cons (ev_add (ev_add (ev_ix (er_ (ev_var 1)) ev_int (h := at0)) ev_int) (ev_var 7)) ea_nil)))))) (ev_mod (ev_var 6) ev_int) (h := hdd)) ?_)
  have p1 := Int.emod_nonneg (re / 36) (show (b.days.length : Int) ≠ 0 by omega)
  have p2 := Int.emod_lt_of_pos (re / 36) (show (0 : Int) < (b.days.length : Int) by omega)
  refine sb_cons (sx_set (d := .int (t + re / 36 % (b.days.length : Int))) 10 nd (ev_add (ev_ix (er_ (ev_var 1)) ev_int (h := at0)) (ev_mod (ev_fdiv (ev_var 6) ev_int) (ev_is (ev_len T (er_ (ev_ix (er_ (ev_var 4)) ev_int (h := (by first | assumption | rfl | exact at_ (by assumption) | exact at_n (by assumption) | exact at0 | exact at1))))) (by rw [List.length_map])) (by omega))) ?_)
  generalize hgo : t + re / 36 % (b.days.length : Int) = go
  have hgo1 : 0 ≤ go - t ∧ go - t < b.days.length := by omega
  refine sb_cons (sx_set 11 nd ev_non ?_)
  refine sb_cut (fun ρ s => ρ[11]? = some (.d (.exc (He.ga K "NoDeed"))) ∧ s = sW (xs ++ [dSt t (some b)])) ?_ ?_
  · refine sx_try (j1 := 0) 12 11 (by decide) nd (fun pn xe => ?_) xl.lamp xl.exm
    have hb1 := laws.bad b re o hr0
    refine sb_last (sx_if (et_cmp co_lt (er_ (ev_mod (ev_var 3) ev_int)) (er_ ev_int)) (fun hk => ?_) (fun hk => ?_))
    · refine sb_last (sx_exprC (ec_meth (R := fun _ _ => False) (Y := True) C_night cw (hr.mono (by decide)) (ei_var 0) (ea_cons (ev_call C__law_bad_day (hr.mono (by decide)) (ea_cons (ev_var 4) (ea_cons (ev_var 6) ea_nil)) (fun _ p => ⟨_, .mk b o re hr0, p⟩)) ea_nil) rfl rfl (by exact .mk xs t b o _ hb1.1 hb1.2.1 (by omega) (fun z => absurd z hb1.2.2) (fun _ => ⟨_, rfl, trivial⟩))) ?_ ?_)
      · rintro d s' ⟨_, _, h⟩
        exact h.elim
      · rintro s' ⟨rfl, _⟩
        exact ⟨by exact Nat.le_of_ble_eq_true rfl, rfl, rfl⟩
    refine sb_last (sx_if (et_cmp co_lt (er_ (ev_mod (ev_var 3) ev_int)) (er_ ev_int)) (fun hk => ?_) (fun hk => ?_))
    · obtain ⟨dl, hdl, ln, rfl, hln⟩ : ∃ d, atI [D.int (-1), D.int b.lamps.length, D.int (b.lamps.length + 7), D.int (-b.lamps.length)] (re % 4) = some d ∧ ∃ w : Int, d = .int w ∧ (w < 0 ∨ (b.lamps.length : Int) ≤ w) :=
        pick4 (by omega) (by omega) ⟨_, rfl, by omega⟩ ⟨_, rfl, by omega⟩ ⟨_, rfl, by omega⟩ ⟨_, rfl, by omega⟩
      refine sb_last (sx_exprC (ec_meth (R := fun _ _ => False) (Y := True) C_fails cw (hr.mono (by decide)) (ei_var 0) (ea_cons (ev_ix (er_n (en_lst (ea_cons (ev_neg ev_int) (ea_cons (ev_var 5) (ea_cons (ev_add (ev_var 5) ev_int) (ea_cons (ev_neg (ev_var 5)) ea_nil)))))) (ev_mod (ev_var 6) ev_int) (h := hdl)) ea_nil) rfl rfl (by exact .mk xs t b o ln (by omega) (fun i e h => by omega) (fun _ => ⟨_, rfl, trivial⟩))) ?_ ?_)
      · rintro d s' ⟨_, _, h⟩
        exact h.elim
      · rintro s' ⟨rfl, _⟩
        exact ⟨by exact Nat.le_of_ble_eq_true rfl, rfl, rfl⟩
    refine sb_last (sx_if (et_cmp co_eq (er_ (ev_mod (ev_var 3) ev_int)) (er_ ev_int)) (fun hk => ?_) (fun hk => ?_))
    · refine sb_last (sx_exprC (ec_meth (R := fun _ _ => False) (Y := True) C_boat cw (hr.mono (by decide)) (ei_var 0) (ea_cons (ev_var 9) (ea_cons (ev_var 7) ea_nil)) rfl rfl (by exact .mk xs t b o dy far (by omega) (fun i e h _ _ => by omega) (fun _ => ⟨_, rfl, trivial⟩))) ?_ ?_)
      · rintro d s' ⟨_, _, h⟩
        exact h.elim
      · rintro s' ⟨rfl, _⟩
        exact ⟨by exact Nat.le_of_ble_eq_true rfl, rfl, rfl⟩
    refine sb_last (sx_if (et_cmp co_lt (er_ (ev_mod (ev_var 3) ev_int)) (er_ ev_int)) (fun hk => ?_) (fun hk => ?_))
    · refine sb_last (sx_exprC (ec_meth (R := fun _ _ => False) (Y := True) C_boat cw (hr.mono (by decide)) (ei_var 0) (ea_cons (ev_var 10) (ea_cons (ev_var 8) ea_nil)) rfl rfl (by exact .mk xs t b o go wr (by omega) (fun i e h _ _ => by omega) (fun _ => ⟨_, rfl, trivial⟩))) ?_ ?_)
      · rintro d s' ⟨_, _, h⟩
        exact h.elim
      · rintro s' ⟨rfl, _⟩
        exact ⟨by exact Nat.le_of_ble_eq_true rfl, rfl, rfl⟩
    refine sb_last (sx_if (et_cmp co_eq (er_ (ev_mod (ev_var 3) ev_int)) (er_ ev_int)) (fun hk => ?_) (fun hk => ?_))
    · refine sb_last (sx_exprC (ec_meth (R := fun _ _ => False) (Y := True) C_wants cw (hr.mono (by decide)) (ei_var 0) (ea_cons (ev_var 9) (ea_cons ev_int ea_nil)) rfl rfl (by exact .mk xs t b o dy 0 (by omega) (fun i e h _ _ => by omega) (fun _ => ⟨_, rfl, trivial⟩))) ?_ ?_)
      · rintro d s' ⟨_, _, h⟩
        exact h.elim
      · rintro s' ⟨rfl, _⟩
        exact ⟨by exact Nat.le_of_ble_eq_true rfl, rfl, rfl⟩
    · obtain ⟨dl, hdl, ln, rfl, hln⟩ : ∃ d, atI [D.int (-1), D.int (b.lamps.length + 1), D.int (b.lamps.length + 9), D.int (-b.lamps.length - 1)] (re % 4) = some d ∧ ∃ w : Int, d = .int w ∧ (w < 0 ∨ (b.lamps.length : Int) < w) :=
        pick4 (by omega) (by omega) ⟨_, rfl, by omega⟩ ⟨_, rfl, by omega⟩ ⟨_, rfl, by omega⟩ ⟨_, rfl, by omega⟩
      refine sb_last (sx_exprC (ec_meth (R := fun _ _ => False) (Y := True) C_wants cw (hr.mono (by decide)) (ei_var 0) (ea_cons (ev_var 10) (ea_cons (ev_ix (er_n (en_lst (ea_cons (ev_neg ev_int) (ea_cons (ev_add (ev_var 5) ev_int) (ea_cons (ev_add (ev_var 5) ev_int) (ea_cons (ev_sub (ev_neg (ev_var 5)) ev_int) ea_nil)))))) (ev_mod (ev_var 6) ev_int) (h := hdl)) ea_nil)) rfl rfl (by exact .mk xs t b o go ln (by omega) (fun i e h _ _ => by omega) (fun _ => ⟨_, rfl, trivial⟩))) ?_ ?_)
      · rintro d s' ⟨_, _, h⟩
        exact h.elim
      · rintro s' ⟨rfl, _⟩
        exact ⟨by exact Nat.le_of_ble_eq_true rfl, rfl, rfl⟩
  · rintro ρ s ⟨hc, rfl⟩
    exact sb_last (sx_ret (ev_var 11 (h := hc)) hR)
end

/-! ## the law: behind the last night; what is refused; the whole -/
inductive FLawTryBehind (K : PySem.W.Frag) : GF where
  | mk {R : D → List MO → Prop} {Y : List MO → Prop} (xs : List D) (t : Int) (b : Bk) (o : b.Ok) (c n : Int)
    (hR : R (.exc (He.ga K "NoDeed")) (sW (xs ++ [dSt t none]))) : FLawTryBehind K [.r 0, .d (.int c), .d (.int n), .d (dBk b)] (sW (xs ++ [dSt t none])) R Y
theorem pick3P {P : D → Prop} {a c e : D} {i : Int} (h0 : 0 ≤ i) (h4 : i < 3) (ha : P a) (hc : P c) (he : P e) : ∃ d, atI [a, c, e] i = some d ∧ P d := by
  have : i = 0 ∨ i = 1 ∨ i = 2 := by omega
  rcases this with rfl | rfl | rfl
  · exact ⟨a, rfl, ha⟩
  · exact ⟨c, rfl, hc⟩
  · exact ⟨e, rfl, he⟩
section
variable {P : Program} {wd : World} {K : PySem.W.Frag} {mg : Str → Option Value} {base : Heap}
theorem c__law_try_behind (T : Tops K mg) (laws : Laws) (cw : Cls K (wC K)) (nA : NoAttr K (wC K) "states") (xl : XL K mg) (FD : IsDef K mg "_law_try_behind" sLawTryBehind) (C__law_stir : Calls P wd K mg base 1 "_law_stir" (PF FLawStir)) (C_night : GMeth P wd K mg base 5 "night" FNight) (C_fails : GMeth P wd K mg base 2 "fails" FFails) (C_boat : GMeth P wd K mg base 3 "boat" FBoat) (C_wants : GMeth P wd K mg base 3 "wants" FWants) : GCalls P wd K mg base 6 "_law_try_behind" (FLawTryBehind K) := by
  obtain ⟨f, fd, FD, hm⟩ := FD.ex
  refine GCalls.mk (N := ["watch", "cell", "days", "book", "turn", "caught", "e"]) (ps := ["watch", "cell", "days", "book"]) FD ⟨rfl, rfl, rfl, by decide +kernel, rfl, by decide +kernel, by decide +kernel⟩ hm (fun _ _ _ _ _ _ us h => by match us, h with | [a0, a1, a2, a3], _ => rfl) (fun sl s R Y h => by cases h; rfl) fun cdv A outer z H E hr sl s R Y h => ?_
  have nd : (["watch", "cell", "days", "book", "turn", "caught", "e"] : List Str).Nodup := by decide +kernel
  cases h with
  | mk xs t b o c n hR =>
  have hl3 := o.l3
  have hl1 := o.l1
  refine sb_cons (sx_set 4 nd (ev_call C__law_stir (hr.mono (by decide)) (ea_cons (ev_var 1) (ea_cons ev_int ea_nil)) (fun _ p => ⟨_, .mk c 11, p⟩)) ?_)
  have hh := stir_nn c 11
  generalize stirF c 11 = tn at hh ⊢
  refine sb_cons (sx_set 5 nd ev_non ?_)
  refine sb_cut (fun ρ s => ρ[5]? = some (.d (.exc (He.ga K "NoDeed"))) ∧ s = sW (xs ++ [dSt t none])) ?_ ?_
  · refine sx_try (j1 := 0) 6 5 (by decide) nd (fun pn xe => ?_) xl.lamp xl.exm
    obtain ⟨dl, hdl, ln, rfl⟩ : ∃ d, atI [D.int 0, D.int (n - 1), D.int n] (tn / 4 % 3) = some d ∧ ∃ w : Int, d = .int w :=
      pick3P (by omega) (by omega) ⟨_, rfl⟩ ⟨_, rfl⟩ ⟨_, rfl⟩
    refine sb_last (sx_if (et_cmp co_eq (er_ (ev_mod (ev_var 4) ev_int)) (er_ ev_int)) (fun hk => ?_) (fun hk => ?_))
    · refine sb_last (sx_exprC (ec_meth (R := fun _ _ => False) (Y := True) C_fails cw (hr.mono (by decide)) (ei_var 0) (ea_cons ev_int ea_nil) rfl rfl (by exact .gone xs t _ ⟨_, rfl, trivial⟩)) ?_ ?_)
      · rintro d s' ⟨_, _, h⟩
        exact h.elim
      · rintro s' ⟨rfl, _⟩
        exact ⟨by exact Nat.le_of_ble_eq_true rfl, rfl, rfl⟩
    refine sb_last (sx_if (et_cmp co_eq (er_ (ev_mod (ev_var 4) ev_int)) (er_ ev_int)) (fun hk => ?_) (fun hk => ?_))
    · refine sb_last (sx_exprC (ec_meth (R := fun _ _ => False) (Y := True) C_boat cw (hr.mono (by decide)) (ei_var 0) (ea_cons (ev_ix (er_n (en_lst (ea_cons ev_int (ea_cons (ev_sub (ev_var 2) ev_int) (ea_cons (ev_var 2) ea_nil))))) (ev_mod (ev_fdiv (ev_var 4) ev_int) ev_int) (h := hdl)) (ea_cons ev_int ea_nil)) rfl rfl (by exact .gone xs t _ _ ⟨_, rfl, trivial⟩)) ?_ ?_)
      · rintro d s' ⟨_, _, h⟩
        exact h.elim
      · rintro s' ⟨rfl, _⟩
        exact ⟨by exact Nat.le_of_ble_eq_true rfl, rfl, rfl⟩
    refine sb_last (sx_if (et_cmp co_eq (er_ (ev_mod (ev_var 4) ev_int)) (er_ ev_int)) (fun hk => ?_) (fun hk => ?_))
    · refine sb_last (sx_exprC (ec_meth (R := fun _ _ => False) (Y := True) C_wants cw (hr.mono (by decide)) (ei_var 0) (ea_cons (ev_ix (er_n (en_lst (ea_cons ev_int (ea_cons (ev_sub (ev_var 2) ev_int) (ea_cons (ev_var 2) ea_nil))))) (ev_mod (ev_fdiv (ev_var 4) ev_int) ev_int) (h := hdl)) (ea_cons ev_int ea_nil)) rfl rfl (by exact .gone xs t _ _ ⟨_, rfl, trivial⟩)) ?_ ?_)
      · rintro d s' ⟨_, _, h⟩
        exact h.elim
      · rintro s' ⟨rfl, _⟩
        exact ⟨by exact Nat.le_of_ble_eq_true rfl, rfl, rfl⟩
    · refine sb_last (sx_exprC (ec_meth (R := fun _ _ => False) (Y := True) C_night cw (hr.mono (by decide)) (ei_var 0) (ea_cons (ev_tup (ea_cons ev_int (ea_cons ev_int (ea_cons (ev_tupleOf T (er_n (en_rep (er_n (en_lst (ea_cons ev_int ea_nil))) (ev_len T (er_ (ev_ix (er_ (ev_var 3)) ev_int (h := (by first | assumption | rfl | exact at_ (by assumption) | exact at_n (by assumption) | exact at0 | exact at1))))) ⟨by rw [List.length_map]; omega, by rw [List.length_map]; omega, by exact Nat.le_of_ble_eq_true rfl⟩))) (ea_cons (ev_tup ea_nil) ea_nil))))) ea_nil) rfl rfl (by exact .gone xs t _ ⟨_, rfl, trivial⟩)) ?_ ?_)
      · rintro d s' ⟨_, _, h⟩
        exact h.elim
      · rintro s' ⟨rfl, _⟩
        exact ⟨by exact Nat.le_of_ble_eq_true rfl, rfl, rfl⟩
  · rintro ρ s ⟨hc, rfl⟩
    exact sb_last (sx_ret (ev_var 5 (h := hc)) hR)
end
/-- what isinstance says of a caught error -/
structure XK2 (K : PySem.W.Frag) (mg : Str → Option Value) : Prop where
  ec : ExcC K (He.ga K "NoDeed")
  g0 : mg "NoDeed" = some (.ref (He.ga K "NoDeed"))
  g1 : mg "BadBook" = some (.ref (He.ga K "BadBook"))
  g2 : mg "BadRow" = some (.ref (He.ga K "BadRow"))
  g3 : mg "BadTicks" = some (.ref (He.ga K "BadTicks"))
  g4 : mg "NoRest" = some (.ref (He.ga K "NoRest"))
  gw : mg "Watch" = some (.ref (wC K))
  k0 : PySem.W.kitOne K (.ref (He.ga K "NoDeed")) (.ref (He.ga K "NoDeed")) = some true
  kv : PySem.W.kitOne K (.ref (He.ga K "NoDeed")) (.type "ValueError") = some true
  k1 : PySem.W.kitOne K (.ref (He.ga K "NoDeed")) (.ref (He.ga K "BadBook")) = some false
  k2 : PySem.W.kitOne K (.ref (He.ga K "NoDeed")) (.ref (He.ga K "BadRow")) = some false
  k3 : PySem.W.kitOne K (.ref (He.ga K "NoDeed")) (.ref (He.ga K "BadTicks")) = some false
  k4 : PySem.W.kitOne K (.ref (He.ga K "NoDeed")) (.ref (He.ga K "NoRest")) = some false
inductive FLawRefused (K : PySem.W.Frag) : List D → D → Prop where
  | mk : FLawRefused K [.exc (He.ga K "NoDeed")] (.bl true)
section
variable {P : Program} {wd : World} {K : PySem.W.Frag} {mg : Str → Option Value} {base : Heap}
theorem c__law_refused (T : Tops K mg) (xk : XK2 K mg) (FD : IsDef K mg "_law_refused" sLawRefused)  : Calls P wd K mg base 1 "_law_refused" (PF (FLawRefused K)) := by
  obtain ⟨f, fd, FD, hm⟩ := FD.ex
  refine Calls.mk (N := ["caught", "others"]) (ps := ["caught"]) FD ⟨rfl, rfl, rfl, by decide +kernel, rfl, by decide +kernel, by decide +kernel⟩ hm (fun _ _ _ _ _ _ us h => by match us, h with | [a0], _ => rfl) (fun ds Pd ⟨d, h, _⟩ => by cases h; rfl) fun cdv A outer s H E hr ds Pd ⟨d, h, hp⟩ => ?_
  have nd : (["caught", "others"] : List Str).Nodup := by decide +kernel
  cases h with
  | mk  =>
  refine sb_cons (sx_new 1 nd (en_lst (ea_cons (ev_isE (k := false) T (ev_var 0) xk.ec xk.g1 xk.k1) (ea_cons (ev_isE (k := false) T (ev_var 0) xk.ec xk.g2 xk.k2) (ea_cons (ev_isE (k := false) T (ev_var 0) xk.ec xk.g3 xk.k3) ea_nil)))) ?_)
  refine sb_cons (sx_append (ds := [.bl false, .bl false, .bl false]) (ei_var 1) (ev_isE (k := false) T (ev_var 0) xk.ec xk.g4 xk.k4) rfl (by decide) ?_)
  refine sb_last (sx_ret (ev_is (ev_and (ev_isE (k := true) T (ev_var 0) xk.ec xk.g0 xk.k0) (fun _ => (ev_and (ev_isVE (k := true) T (ev_var 0) xk.ec xk.kv) (fun _ => (ev_one (ev_cmp (co_notInB (bs := [false, false, false, false]) (.lst _)) (er_ ev_bl) (er_ref 1))))))) (by rfl)) hp)
end

/-! ## the whole law -/
def ICalls (P : Program) (wd : World) (K : PySem.W.Frag) (mg : Str → Option Value) (base : Heap) (k : Nat) : Prop := ∃ (f : Addr) (fd : FuncData) (ps : List Str), Mk K (wC K) f ∧ Binds K fd ps [] ∧ FnOk P wd K mg base CX0 k f fd ps (iSp K)
/-! a book as data, equal to itself -/
def pyInts (ns : List Int) : PyData := .tuple (ns.map .int)
def pyL (l : Lmp) : PyData := .tuple [.int l.tank, .int l.oil, pyInts l.away]
def pyDy (d : Dy) : PyData := .tuple [.int d.boat, .int d.most, .int d.price, .int d.length, .int d.wanted]
def pyB (b : Bk) : PyData := .tuple [.int b.store, .int b.oil, .tuple (b.lamps.map pyL), .tuple (b.days.map pyDy)]
theorem pys_map {α : Type} {f : α → D} {g : α → PyData} (h : ∀ x, PyOf (f x) (g x)) : ∀ xs : List α, PysOf (xs.map f) (xs.map g)
  | [] => .nil
  | x :: xs => .cons (h x) (pys_map h xs)
theorem py_lmp (l : Lmp) : PyOf (dLmp l) (pyL l) := .tup (.cons (.int _) (.cons (.int _) (.cons (.tup (pys_map (fun i => .int i) _)) .nil)))
theorem py_dy (d : Dy) : PyOf (dDy d) (pyDy d) := .tup (.cons (.int _) (.cons (.int _) (.cons (.int _) (.cons (.int _) (.cons (.int _) .nil)))))
theorem py_bk (b : Bk) : PyOf (dBk b) (pyB b) := .tup (.cons (.int _) (.cons (.int _) (.cons (.tup (pys_map py_lmp _)) (.cons (.tup (pys_map py_dy _)) .nil))))
theorem lay_map {α : Type} {g : α → PyData} {n : Nat} (h : ∀ x, (g x).canLay0 = true ∧ (g x).depth ≤ n) : ∀ xs : List α, PyData.canLayAll0 (xs.map g) = true ∧ PyData.depthAll (xs.map g) ≤ n
  | [] => by simp [PyData.canLayAll0, PyData.depthAll]
  | x :: xs => by
    have h1 := h x
    have h2 := lay_map h xs
    simp only [List.map_cons, PyData.canLayAll0, PyData.depthAll, h1.1, h2.1, Bool.and_self, true_and]
    omega
theorem lay_int (i : Int) : (PyData.int i).canLay0 = true ∧ (PyData.int i).depth ≤ 0 := by simp [PyData.canLay0, PyData.depth]
theorem lay_ints (ns : List Int) : (pyInts ns).canLay0 = true ∧ (pyInts ns).depth ≤ 1 := by
  have := lay_map lay_int ns
  simp only [pyInts, PyData.canLay0, PyData.depth, this.1, true_and]
  omega
theorem lay_lmp (l : Lmp) : (pyL l).canLay0 = true ∧ (pyL l).depth ≤ 2 := by
  have := lay_ints l.away
  have h1 := lay_int l.tank
  have h2 := lay_int l.oil
  simp only [pyL, PyData.canLay0, PyData.depth, PyData.canLayAll0, PyData.depthAll, this.1, Bool.and_self, true_and] at *
  omega
theorem lay_dy (d : Dy) : (pyDy d).canLay0 = true ∧ (pyDy d).depth ≤ 2 := by
  simp [pyDy, PyData.canLay0, PyData.depth, PyData.canLayAll0, PyData.depthAll]
theorem lay_bk (b : Bk) : (pyB b).canLay0 = true ∧ (pyB b).depth ≤ 4 := by
  have h1 := lay_map lay_lmp b.lamps
  have h2 := lay_map lay_dy b.days
  simp only [pyB, PyData.canLay0, PyData.depth, PyData.canLayAll0, PyData.depthAll, h1.1, h2.1, Bool.and_self, true_and] at *
  omega
theorem bk_shaped (b : Bk) : SeqAt.shaped (pyB b) = true := by
  have := lay_bk b
  unfold SeqAt.shaped
  rw [this.1, decide_eq_true (by omega)]
  rfl
theorem bk_same (b : Bk) : PyData.eqv (pyB b) (pyB b) = true := SeqAt.eqv_refl _ (lay_bk b).1
theorem co_neBk {X : Cx} {s : List MO} {b : Bk} (hu : X.A.units + 64 < cLine) : CO X s .NotEq (dBk b) (dBk b) false := by
  have h := co_neD (X := X) (s := s) hu (py_bk b) (py_bk b) (bk_shaped b) (bk_shaped b) (fun w v x r => r.imm x (imm_bk b)) (fun w v x r => r.imm x (imm_bk b))
  rw [bk_same] at h
  exact h
/-- f(watch, e, ..) -/
theorem ec_callW {X : Cx} {ρ : List Sl} {s : List MO} {o : Expr} {es : List Expr} {pos p : Pos} {lv n m : Nat} {f : Str} {F : GF} {ds st : List D} {R : D → List D → Prop} {Y : Prop} (C : GCalls X.prog X.w X.K X.mg X.base lv f F) (hr : Room lv X.A) (ho : EI X ρ s o n) (ha : EA X ρ s es ds) (hn : s[n]? = some (.wat m)) (hm : s[m]? = some (.lst st))
    (hF : F (.r 0 :: ds.map .d) [.wat 1, .lst st] (fun d s' => ∃ st' t, s' = .wat 1 :: .lst st' :: t ∧ Imm d ∧ R d st') (fun s' => ∃ t, s' = .wat 1 :: .lst st :: t ∧ Y))
    (hg : Gl X f := by rfl) (hdb : (f == ("__debug__" : Str)) = false := by decide) (he : starEach (o :: es) X.env = (false, eval o X.env) :: starEach es X.env := by rfl) (hpl : (backTo pos (starEach es X.env)).any (·.1) = false := by rfl) :
    EC X ρ s (.Call (.Name f p) (o :: es) [] pos) (fun d s' => ∃ st', s' = s.set m (.lst st') ∧ R d st') (fun s' => s' = s ∧ Y) := by
  obtain ⟨fa, fd, ps, hmg, hk, hb, G⟩ := C
  refine fun w σ W rl tk Q q qy => sem_of (pe_callS (E := WE W) G hr hg hmg hk hb (passAt tk) (pa_cons pe_sem pa_sem he) hdb he hpl) (ho w σ rl _ fun a H1 e1 h1 => ha (w.to H1) σ (rl.same e1) _ fun vs H2 e2 r2 => ?_)
  exact ec_run rl hn hm (e1.trans e2) h1 r2 hF q qy
theorem Calls.mkAt {P : Program} {wd : World} {K : PySem.W.Frag} {mg : Str → Option Value} {base : Heap} {n : Str} {k : Nat} {F : List D → (D → Prop) → Prop} {N ps : List Str} {st : Stmt} {f : Addr} {fd : FuncData}
    (FD : FunD K n n (defArgs st) (defBody st) (defScope st) [] [] f fd) (S : FnScope N ps (defScope st))
    (len : ∀ ds P, F ds P → ds.length = ps.length)
    (body : ∀ (cdv : Value) (A : Around) (outer : List PySem.Env) (s : Shared) (H : Hp) (E : XK), Room k (A.deeper (envOfC n (defScope st) s.heap.objs.size f cdv)) → ∀ ds Pd, F ds Pd →
      SB (cxOf CX0 P wd K mg base N n (defScope st) f cdv A outer s H E).nox (start0 N (ds.map .d)) [] (defBody st) { nx := fun _ _ => Pd .non, rt := fun d _ => Pd d }) : FnOk P wd K mg base CX0 (k + 1) f fd ps (pSp K F) := by
  refine FD.ok S (fun vs H Q E h => ?_) (fun cdv A outer s H vs Q E hr h => ⟨_, PSs.nox pss_sem, ?_⟩)
  · obtain ⟨S', ds, Pd, _, r, hF, _⟩ := h
    rw [r.length]
    exact len ds Pd hF
  · obtain ⟨S', ds, Pd, sok, r, hF, q⟩ := h
    refine body cdv A outer s H E hr ds Pd hF ⟨S', [], H⟩ _ _ (fun _ _ _ _ => False) ⟨⟨sok, rfl, List.nodup_nil, fun a h => (nomatch h), fun i a o h => by cases h⟩, env_start (env_ds r)⟩ takes0 ⟨fun w' σ ρ s' l rl h => ?_, fun w' s' v d l x r h => ?_, fun w' σ ρ s' l rl h => h, fun w' σ ρ s' l rl h => h, fun w' σ ρ s' l rl h => h⟩
    · exact q .non .non w'.H (fun a o h => l.keep a o List.not_mem_nil h) .non h
    · rw [l.S] at r
      exact q v d w'.H (fun a o h => l.keep a o List.not_mem_nil h) r h
inductive FLaw : List D → D → Prop where
  | mk (ns : List Int) : FLaw [.scr ns] (.bl true)
theorem imm_ob (ob : Option Bk) : Imm (dOB ob) := by
  cases ob with
  | none => exact .non
  | some b => exact imm_bk b
section
variable {P : Program} {wd : World} {K : PySem.W.Frag} {mg : Str → Option Value} {base : Heap}
theorem c_law (T : Tops K mg) (laws : Laws) (cw : Cls K (wC K)) (nA : NoAttr K (wC K) "states") (xk : XK2 K mg) (ini : ICalls P wd K mg base 1) {f : Addr} {fd : FuncData} (FD : FunD K "law" "law" (defArgs sLaw) (defBody sLaw) (defScope sLaw) [] [] f fd) (C__law_book : Calls P wd K mg base 3 "_law_book" (PF FLawBook)) (C__law_try : GCalls P wd K mg base 6 "_law_try" (FLawTry K)) (C__law_try_behind : GCalls P wd K mg base 6 "_law_try_behind" (FLawTryBehind K)) (C__law_refused : Calls P wd K mg base 1 "_law_refused" (PF (FLawRefused K))) (C__law_deed : GCalls P wd K mg base 10 "_law_deed" FLawDeed) (C_today : MCalls P wd K mg base 1 "today" (PF FToday)) (C_rest : MCalls P wd K mg base 1 "rest" (PF FRest)) (C_left : MCalls P wd K mg base 1 "left" (PF FLeft)) : FnOk P wd K mg base CX0 11 f fd ["script"] (pSp K (PF FLaw)) := by
  refine Calls.mkAt (N := ["script", "book", "watch", "state", "done", "cell", "caught"]) (ps := ["script"]) FD ⟨rfl, rfl, rfl, by decide +kernel, rfl, by decide +kernel, by decide +kernel⟩ (fun ds Pd ⟨d, h, _⟩ => by cases h; rfl) fun cdv A outer s H E hr ds Pd ⟨d, h, hp⟩ => ?_
  have nd : (["script", "book", "watch", "state", "done", "cell", "caught"] : List Str).Nodup := by decide +kernel
  cases h with
  | mk ns =>
  obtain ⟨fI, fdI, psI, hMk, hBi, hFn⟩ := ini
  have ok0 := bookF_ok ns
  refine sb_cons (sx_set 1 nd (ev_call C__law_book (hr.mono (by decide)) (ea_cons (ev_var 0) ea_nil) (fun _ p => ⟨_, .mk ns, p⟩)) ?_)
  generalize bookF ns = b0 at ok0 ⊢
  refine sb_cons (sx_make 2 hMk hFn hBi (hr.mono (by decide)) xk.gw nd (ev_var 1) ?_)
  refine sb_cons (sx_set (d := .tup [.int 0, dBk b0]) 3 nd (ev_tup (ea_cons ev_int (ea_cons (ev_var 1) ea_nil))) ?_)
  refine sb_cons (sx_set 4 nd ev_int ?_)
  obtain ⟨cs, hcs⟩ : ∃ cs : List Int, cs = cutD ns (some 8) (some 28) ++ [0] := ⟨_, rfl⟩
  have hcl : (cutD ns (some 8) (some 28)).length ≤ 20 := by
    unfold cutD
    rw [List.length_take]
    refine Nat.le_trans (Nat.min_le_left _ _) ?_
    rw [show (some (8 : Int)) = some ((8 : Nat) : Int) from rfl, show (some (28 : Int)) = some ((28 : Nat) : Int) from rfl, HT.sIx_nat, HT.sIx_nat]
    omega
  have hcz : cs.length ≤ 21 := by rw [hcs, List.length_append, List.length_singleton]; omega
  have hz1 : ((cutD ns (some 8) (some 28)).map D.int).length + [D.int 0].length ≤ 100000 := by rw [List.length_map, List.length_singleton]; omega
  refine sb_cons (sx_for (items := cs.map D.int) (es_list (ev_is (ev_n (en_cat (er_n (en_slS (ev_var 0) (eo_some ev_int) (eo_some ev_int))) (er_n (en_lst (ea_cons ev_int ea_nil))))) (by rw [hcs, List.map_append]; rfl))) (gx_name 5 nd) (fun i ρ s => ∃ xs t ob ext y z, OkO ob ∧ xs.length ≤ i ∧ ρ = [.d (.scr ns), .d (dBk b0), .r 0, .d (.tup (.int t :: dOB ob :: ext)), .d (.int (xs.length : Nat)), y, z] ∧ s = sW (xs ++ [dSt t ob])) ⟨[], 0, some b0, [], .no, .no, fun b hb => by cases hb; exact ok0, Nat.le_refl _, rfl, rfl⟩ ?_ ?_)
  · rintro i d ρ s hd ⟨xs, t, ob, ext, y, z, hok, hxs, rfl, rfl⟩
    obtain ⟨c, hc, rfl⟩ := map_get hd
    have hi : i < cs.length := (List.getElem?_eq_some_iff.mp hc).1
    refine ⟨_, rfl, ?_⟩
    refine sb_cut (fun ρ s => ρ = [.d (.scr ns), .d (dBk b0), .r 0, .d (.tup (.int t :: dOB ob :: ext)), .d (.int (xs.length : Nat)), .d (.int c), .d (.exc (He.ga K "NoDeed"))] ∧ s = sW (xs ++ [dSt t ob])) ?_ ?_
    · cases ob with
      | none =>
        refine sx_if (k := true) (et_is (et_cmp co_isN (er_ (ev_ix (er_ (ev_var 3)) ev_int (h := (by first | assumption | rfl | exact at_ (by assumption) | exact at_n (by assumption) | exact at0 | exact at1)))) (er_ ev_non)) (by rfl)) (fun _ => ?_) (fun hq => nomatch hq)
        refine sb_last (sx_setC 6 nd (ec_callW (R := fun d st => d = .exc (He.ga K "NoDeed") ∧ st = xs ++ [dSt t none]) (Y := False) C__law_try_behind (hr.mono (by decide)) (ei_var 2) (ea_cons (ev_var 5) (ea_cons (ev_len T (er_ (ev_ix (er_ (ev_var 1)) ev_int (h := (by first | assumption | rfl | exact at_ (by assumption) | exact at_n (by assumption) | exact at0 | exact at1))))) (ea_cons (ev_var 1) ea_nil))) rfl rfl (by exact .mk xs t b0 ok0 _ _ ⟨_, [], rfl, .exc _, rfl, rfl⟩)) ?_ ?_)
        · rintro d s' ⟨_, rfl, rfl, rfl⟩
          exact ⟨rfl, rfl⟩
        · rintro s' ⟨rfl, h⟩
          exact h.elim
      | some b =>
        refine sx_if (k := false) (et_is (et_cmp co_isN (er_ (ev_ix (er_ (ev_var 3)) ev_int (h := (by first | assumption | rfl | exact at_ (by assumption) | exact at_n (by assumption) | exact at0 | exact at1)))) (er_ ev_non)) (by rfl)) (fun hq => nomatch hq) (fun _ => ?_)
        refine sb_last (sx_setC 6 nd (ec_callW (R := fun d st => d = .exc (He.ga K "NoDeed") ∧ st = xs ++ [dSt t (some b)]) (Y := False) C__law_try (hr.mono (by decide)) (ei_var 2) (ea_cons (ev_var 3) (ea_cons (ev_var 5) ea_nil)) rfl rfl (by exact .mk xs t b (hok b rfl) ext _ (by omega) ⟨_, [], rfl, .exc _, rfl, rfl⟩)) ?_ ?_)
        · rintro d s' ⟨_, rfl, rfl, rfl⟩
          exact ⟨rfl, rfl⟩
        · rintro s' ⟨rfl, h⟩
          exact h.elim
    · rintro ρ s ⟨rfl, rfl⟩
      refine sb_cons (sx_if (k := false) (et_is (et_w (ew_or (et_not (et_of (ev_call C__law_refused (hr.mono (by decide)) (ea_cons (ev_var 6) ea_nil) (fun _ p => ⟨_, .mk, p⟩)))) (fun hq => (ew_or (et_cmp co_ne (er_ (ev_methV0 C_today cw (hr.mono (by decide)) (er_ref 2) ⟨_, .mk xs t ob, rfl⟩ (.imm (.int _)))) (er_ (ev_ix (er_ (ev_var 3)) ev_int (h := (by first | assumption | rfl | exact at_ (by assumption) | exact at_n (by assumption) | exact at0 | exact at1))))) (fun hq => (ew_or1 (et_cmp co_ne (er_ (ev_methV0 C_left cw (hr.mono (by decide)) (er_ref 2) ⟨_, .mk xs t ob, rfl⟩ (.imm (.int _)))) (er_ (ev_var 4))))))))) (by simp)) (fun hq => nomatch hq) (fun _ => sb_nil ?_))
      cases ob with
      | none =>
        refine sb_last (sx_if (k := false) (et_is (et_cmp co_notN (er_ (ev_ix (er_ (ev_var 3)) ev_int (h := (by first | assumption | rfl | exact at_ (by assumption) | exact at_n (by assumption) | exact at0 | exact at1)))) (er_ ev_non)) (by rfl)) (fun hq => nomatch hq) (fun _ => sb_nil ?_))
        exact ⟨xs, t, none, ext, _, _, hok, by omega, rfl, rfl⟩
      | some b =>
        refine sb_last (sx_if (k := true) (et_is (et_cmp co_notN (er_ (ev_ix (er_ (ev_var 3)) ev_int (h := (by first | assumption | rfl | exact at_ (by assumption) | exact at_n (by assumption) | exact at0 | exact at1)))) (er_ ev_non)) (by rfl)) (fun _ => ?_) (fun hq => nomatch hq))
        refine sb_cons (sx_if (k := false) (et_cmp (co_neBk hr.units) (er_ (ev_methV0 C_rest cw (hr.mono (by decide)) (er_ref 2) ⟨_, .mk xs t b, rfl⟩ (.imm (imm_bk b)))) (er_ (ev_ix (er_ (ev_var 3)) ev_int (h := (by first | assumption | rfl | exact at_ (by assumption) | exact at_n (by assumption) | exact at0 | exact at1))))) (fun hq => nomatch hq) (fun _ => sb_nil ?_))
        refine sb_cons (sx_setC 3 nd (ec_callW (R := fun d st => ∃ t' ob', OkO ob' ∧ d = .tup [.int t', dOB ob', .non] ∧ st = xs ++ [dSt t (some b)] ++ [dSt t' ob']) (Y := False) C__law_deed (hr.mono (by decide)) (ei_var 2) (ea_cons (ev_var 3) (ea_cons (ev_var 5) ea_nil)) rfl rfl (by exact .mk xs t b (hok b rfl) ext _ (by omega) (fun t' ob' h => ⟨_, [], rfl, .tup (.cons (.int _) (.cons (imm_ob ob') (.cons .non .nil))), t', ob', h, rfl, rfl⟩))) ?_ ?_)
        · rintro d s' ⟨_, rfl, t', ob', hok', rfl, rfl⟩
          refine sb_last (sx_set (d := .int ((xs ++ [dSt t (some b)]).length : Nat)) 4 nd (ev_is (ev_add (ev_var 4) ev_int) (by rw [List.length_append]; rfl)) ?_)
          exact ⟨xs ++ [dSt t (some b)], t', ob', [.non], _, _, hok', by rw [List.length_append, List.length_singleton]; omega, rfl, rfl⟩
        · rintro s' ⟨rfl, h⟩
          exact h.elim
  · rintro ρ s ⟨xs, t, ob, ext, y, z, _, _, rfl, rfl⟩
    exact sb_last (sx_ret ev_bl hp)
end

/-! ## plain laws: what burns in a tick, dark nights, spans -/
def isum {α : Type} (xs : List α) (f : α → Int) : Int := (xs.map f).sum
theorem isum_nil {α : Type} (f : α → Int) : isum [] f = 0 := rfl
theorem isum_cons {α : Type} (x : α) (xs : List α) (f : α → Int) : isum (x :: xs) f = f x + isum xs f := List.sum_cons ..
theorem isum_app {α : Type} (f : α → Int) : ∀ (xs ys : List α), isum (xs ++ ys) f = isum xs f + isum ys f
  | [], ys => by rw [List.nil_append, isum_nil]; omega
  | x :: xs, ys => by rw [List.cons_append, isum_cons, isum_cons, isum_app f xs ys]; omega
theorem isum_one {α : Type} (x : α) (f : α → Int) : isum [x] f = f x := by rw [isum_cons, isum_nil]; omega
theorem isum_congr {α : Type} {f g : α → Int} : ∀ {xs : List α}, (∀ x ∈ xs, f x = g x) → isum xs f = isum xs g
  | [], _ => rfl
  | x :: xs, h => by rw [isum_cons, isum_cons, h x List.mem_cons_self, isum_congr fun y hy => h y (List.mem_cons_of_mem _ hy)]
theorem isum_add {α : Type} (f g : α → Int) : ∀ xs : List α, isum xs (fun x => f x + g x) = isum xs f + isum xs g
  | [] => rfl
  | x :: xs => by rw [isum_cons, isum_cons, isum_cons, isum_add f g xs]; omega
theorem isum_sub {α : Type} (f g : α → Int) : ∀ xs : List α, isum xs (fun x => f x - g x) = isum xs f - isum xs g
  | [] => rfl
  | x :: xs => by rw [isum_cons, isum_cons, isum_cons, isum_sub f g xs]; omega
theorem isum_zero {α : Type} {f : α → Int} {xs : List α} (h : ∀ x ∈ xs, f x = 0) : isum xs f = 0 := by
  rw [isum_congr h]
  induction xs with
  | nil => rfl
  | cons x xs ih => rw [isum_cons, ih fun y hy => h y (List.mem_cons_of_mem _ hy)]; rfl
theorem isum_nn {α : Type} {f : α → Int} : ∀ {xs : List α}, (∀ x ∈ xs, 0 ≤ f x) → 0 ≤ isum xs f
  | [], _ => Int.le_refl _
  | x :: xs, h => by
    rw [isum_cons]
    have h1 := h x List.mem_cons_self
    have h2 := isum_nn fun y hy => h y (List.mem_cons_of_mem _ hy)
    omega
theorem isum_le {α : Type} {f g : α → Int} : ∀ {xs : List α}, (∀ x ∈ xs, f x ≤ g x) → isum xs f ≤ isum xs g
  | [], _ => Int.le_refl _
  | x :: xs, h => by
    rw [isum_cons, isum_cons]
    have h1 := h x List.mem_cons_self
    have h2 := isum_le fun y hy => h y (List.mem_cons_of_mem _ hy)
    omega
theorem isum_mem_le {α : Type} {f : α → Int} : ∀ {xs : List α}, (∀ x ∈ xs, 0 ≤ f x) → ∀ x ∈ xs, f x ≤ isum xs f
  | [], _, x, h => nomatch h
  | y :: xs, h, x, hx => by
    rw [isum_cons]
    have h1 := h y List.mem_cons_self
    have h2 : ∀ z ∈ xs, 0 ≤ f z := fun z hz => h z (List.mem_cons_of_mem _ hz)
    rcases List.mem_cons.mp hx with e | e
    · subst e
      have := isum_nn h2
      omega
    · have := isum_mem_le h2 x e
      omega
theorem isum_eq_of_le {α : Type} {f g : α → Int} : ∀ {xs : List α}, (∀ x ∈ xs, f x ≤ g x) → isum xs f = isum xs g → ∀ x ∈ xs, f x = g x
  | [], _, _, x, h => nomatch h
  | y :: xs, h, e, x, hx => by
    rw [isum_cons, isum_cons] at e
    have h1 := h y List.mem_cons_self
    have h2 : ∀ z ∈ xs, f z ≤ g z := fun z hz => h z (List.mem_cons_of_mem _ hz)
    have h3 := isum_le h2
    rcases List.mem_cons.mp hx with z | z
    · subst z; omega
    · exact isum_eq_of_le h2 (by omega) x z
def ind (p : Prop) [Decidable p] : Int := if p then 1 else 0
theorem ind_t {p : Prop} [Decidable p] (h : p) : ind p = 1 := if_pos h
theorem ind_f {p : Prop} [Decidable p] (h : ¬ p) : ind p = 0 := if_neg h
theorem ind_nn (p : Prop) [Decidable p] : 0 ≤ ind p := by unfold ind; split <;> omega
/-- how many spans burn in a tick -/
def cnt (sp : List Spn) (k : Int) : Int := isum sp fun s => ind (s.lo ≤ k ∧ k < s.hi)
def vAt (sp : List Spn) (k : Int) : Int := isum sp fun s => ind (s.lo = k) - ind (s.hi = k)
theorem vAt_snoc (sp : List Spn) (s : Spn) (k : Int) : vAt (sp ++ [s]) k = vAt sp k + (ind (s.lo = k) - ind (s.hi = k)) := by
  unfold vAt
  rw [isum_app, isum_one]
theorem turns_lk (n : Int) (sp : List Spn) : ∀ i, i ≤ sp.length → ∀ k, (lkG (turnsTo n sp i) k).getD 0 = vAt (sp.take i) k
  | 0, _, k => by
    rw [List.take_zero]
    unfold turnsTo
    rw [lkG_put, lkG_put, lkG_nil]
    show _ = 0
    split
    · rfl
    · split <;> rfl
  | i + 1, hi, k => by
    have hx := get_bang (xs := sp) (j := i) (by omega)
    rw [take_snoc hx, vAt_snoc]
    have ih := turns_lk n sp i (by omega)
    unfold turnsTo
    have h1 := ih k
    have h2 := ih sp[i]!.lo
    have h3 := ih sp[i]!.hi
    have e1 : (lkG (putG (turnsTo n sp i) sp[i]!.lo ((lkG (turnsTo n sp i) sp[i]!.lo).getD 0 + 1)) sp[i]!.hi).getD 0 = vAt (sp.take i) sp[i]!.hi + ind (sp[i]!.lo = sp[i]!.hi) := by
      rw [lkG_put]
      by_cases h : sp[i]!.hi = sp[i]!.lo
      · rw [if_pos h, ind_t h.symm, h, ← h2]; rfl
      · rw [if_neg h, ind_f (fun z => h z.symm), h3]; omega
    rw [e1, h2, lkG_put, lkG_put]
    by_cases h : k = sp[i]!.hi
    · rw [if_pos h, ind_t (p := sp[i]!.hi = k) h.symm, h]
      show _ + _ - 1 = _
      omega
    · rw [if_neg h, ind_f (p := sp[i]!.hi = k) (fun z => h z.symm)]
      by_cases g : k = sp[i]!.lo
      · rw [if_pos g, ind_t (p := sp[i]!.lo = k) g.symm, g]
        show _ + 1 = _
        omega
      · rw [if_neg g, ind_f (p := sp[i]!.lo = k) (fun z => g z.symm), h1]
        omega
theorem turns_key (n : Int) (sp : List Spn) : ∀ i, i ≤ sp.length → ∀ k, k ∈ (turnsTo n sp i).map (·.1) ↔ k = 0 ∨ k = n ∨ ∃ s ∈ sp.take i, k = s.lo ∨ k = s.hi
  | 0, _, k => by
    rw [← lkG_key]
    unfold turnsTo
    rw [lkG_put, lkG_put, lkG_nil, List.take_zero]
    by_cases h1 : k = n
    · rw [if_pos h1]; exact ⟨fun _ => .inr (.inl h1), fun _ => rfl⟩
    · rw [if_neg h1]
      by_cases h2 : k = 0
      · rw [if_pos h2]; exact ⟨fun _ => .inl h2, fun _ => rfl⟩
      · rw [if_neg h2]
        exact ⟨(fun z => nomatch z), fun z => by
          rcases z with z | z | ⟨s, hs, _⟩
          · exact absurd z h2
          · exact absurd z h1
          · cases hs⟩
  | i + 1, hi, k => by
    have hx := get_bang (xs := sp) (j := i) (by omega)
    have ih := turns_key n sp i (by omega) k
    rw [← lkG_key] at ih
    rw [take_snoc hx, ← lkG_key]
    unfold turnsTo
    rw [lkG_put _ _ k, lkG_put _ _ k]
    by_cases h1 : k = sp[i]!.hi
    · rw [if_pos h1]
      exact ⟨fun _ => .inr (.inr ⟨_, List.mem_append_right _ List.mem_cons_self, .inr h1⟩), fun _ => rfl⟩
    · rw [if_neg h1]
      by_cases h2 : k = sp[i]!.lo
      · rw [if_pos h2]
        exact ⟨fun _ => .inr (.inr ⟨_, List.mem_append_right _ List.mem_cons_self, .inl h2⟩), fun _ => rfl⟩
      · rw [if_neg h2, ih]
        constructor
        · rintro (z | z | ⟨s, hs, z⟩)
          · exact .inl z
          · exact .inr (.inl z)
          · exact .inr (.inr ⟨s, List.mem_append_left _ hs, z⟩)
        · rintro (z | z | ⟨s, hs, z⟩)
          · exact .inl z
          · exact .inr (.inl z)
          · rcases List.mem_append.mp hs with hs | hs
            · exact .inr (.inr ⟨s, hs, z⟩)
            · rw [List.mem_singleton.mp hs] at z
              rcases z with z | z
              · exact absurd z h2
              · exact absurd z h1
theorem putG_nd {κ α : Type} [DecidableEq κ] {kvs : List (κ × α)} (h : (kvs.map (·.1)).Nodup) (k : κ) (v : α) : ((putG kvs k v).map (·.1)).Nodup := by
  rw [putG_keys]
  split
  · exact h
  · rename_i hn
    refine List.nodup_append.mpr ⟨h, List.nodup_cons.mpr ⟨List.not_mem_nil, List.nodup_nil⟩, fun a ha b hb z => ?_⟩
    rw [List.mem_singleton.mp hb] at z
    subst z
    exact hn (lkG_key.mpr ha)
theorem turns_nd (n : Int) (sp : List Spn) : ∀ i, ((turnsTo n sp i).map (·.1)).Nodup
  | 0 => putG_nd (putG_nd (kvs := []) List.nodup_nil _ _) _ _
  | i + 1 => putG_nd (putG_nd (turns_nd n sp i) _ _) _ _
/-- strictly rising, from the list sorted and without a double -/
theorem rising {ks : List Int} (h : ks.Pairwise (· ≤ ·)) (nd : ks.Nodup) : ks.Pairwise (· < ·) := (h.and nd).imp fun ⟨a, b⟩ => by omega
theorem rise_at {ks : List Int} (h : ks.Pairwise (· < ·)) {i j : Nat} (hij : i < j) (hj : j < ks.length) : ks[i]! < ks[j]! := by
  have := List.pairwise_iff_getElem.mp h i j (by omega) hj hij
  simpa [show i < ks.length by omega, hj] using this
def gAt (sp : List Spn) (k : Int) : Int := isum sp fun s => ind (s.lo ≤ k) - ind (s.hi ≤ k)
theorem lit_at (f : IIs) (sp : List Spn) {ks : List Int} (hr : ks.Pairwise (· < ·)) (hv : ∀ k ∈ ks, (lkG f k).getD 0 = vAt sp k) (hm : ∀ s ∈ sp, s.lo ∈ ks ∧ s.hi ∈ ks) : ∀ i, i < ks.length → litTo f ks (i + 1) = gAt sp ks[i]!
  | 0, hi => by
    unfold litTo litTo
    rw [hv _ (List.mem_of_getElem? (get_bang hi))]
    unfold vAt gAt
    rw [Int.zero_add]
    refine isum_congr fun s hs => ?_
    have key : ∀ x ∈ ks, ind (x = ks[0]!) = ind (x ≤ ks[0]!) := fun x hx => by
      obtain ⟨j, hj⟩ := List.getElem?_of_mem hx
      have hjl := (List.getElem?_eq_some_iff.mp hj).1
      have ej : ks[j]! = x := by simp [hj]
      by_cases h0 : j = 0
      · subst h0; rw [ej, ind_t rfl, ind_t (Int.le_refl _)]
      · have := rise_at hr (show 0 < j by omega) hjl
        rw [ej] at this
        rw [ind_f (by omega), ind_f (by omega)]
    rw [key _ (hm s hs).1, key _ (hm s hs).2]
  | i + 1, hi => by
    have ih := lit_at f sp hr hv hm i (by omega)
    show litTo f ks (i + 1) + (lkG f ks[i + 1]!).getD 0 = _
    rw [ih, hv _ (List.mem_of_getElem? (get_bang hi))]
    unfold vAt gAt
    rw [← isum_add]
    refine isum_congr fun s hs => ?_
    have key : ∀ x ∈ ks, ind (x ≤ ks[i]!) + ind (x = ks[i + 1]!) = ind (x ≤ ks[i + 1]!) := fun x hx => by
      obtain ⟨j, hj⟩ := List.getElem?_of_mem hx
      have hjl := (List.getElem?_eq_some_iff.mp hj).1
      have ej : ks[j]! = x := by simp [hj]
      have hs : ks[i]! < ks[i + 1]! := rise_at hr (Nat.lt_succ_self i) hi
      by_cases h0 : j ≤ i
      · have h1 : x ≤ ks[i]! := by
          by_cases h2 : j = i
          · subst h2; rw [ej]; exact Int.le_refl _
          · have := rise_at hr (show j < i by omega) (by omega)
            rw [ej] at this
            omega
        rw [ind_t h1, ind_f (by omega), ind_t (by omega)]
        rfl
      · by_cases h1 : j = i + 1
        · subst h1
          rw [ej] at hs ⊢
          rw [ind_f (by omega), ind_t rfl, ind_t (Int.le_refl _)]
          rfl
        · have := rise_at hr (show i + 1 < j by omega) hjl
          rw [ej] at this
          rw [ind_f (by omega), ind_f (by omega), ind_f (by omega)]
          rfl
    have h1 := key _ (hm s hs).1
    have h2 := key _ (hm s hs).2
    omega
theorem gAt_cnt {sp : List Spn} (h : ∀ s ∈ sp, s.lo < s.hi) (k : Int) : gAt sp k = cnt sp k := isum_congr fun s hs => by
  have := h s hs
  unfold ind
  split <;> split <;> split <;> omega
theorem dark_iff {n w : Int} {sp : List Spn} (h : ∀ s ∈ sp, s.lo < s.hi) : darkF n w sp = false ↔ ∀ k, (k = 0 ∨ k = n ∨ ∃ s ∈ sp, k = s.lo ∨ k = s.hi) → k < n → cnt sp k = w := by
  have hk := turns_key n sp sp.length (Nat.le_refl _)
  rw [List.take_length] at hk
  have hs := sortI_ok ((turns n sp).map (·.1))
  have hr := rising hs.2 (hs.1.nodup_iff.mp (turns_nd n sp sp.length))
  have hm : ∀ k, k ∈ sortI ((turns n sp).map (·.1)) ↔ (k = 0 ∨ k = n ∨ ∃ s ∈ sp, k = s.lo ∨ k = s.hi) := fun k => (hs.1.mem_iff.symm).trans (hk k)
  have hl := lit_at (turns n sp) sp hr (fun k _ => by have := turns_lk n sp sp.length (Nat.le_refl _) k; rw [List.take_length] at this; exact this) (fun s hs => ⟨(hm _).mpr (.inr (.inr ⟨s, hs, .inl rfl⟩)), (hm _).mpr (.inr (.inr ⟨s, hs, .inr rfl⟩))⟩)
  unfold darkF
  generalize sortI ((turns n sp).map (·.1)) = ks at hr hm hl
  constructor
  · intro hd k hk hkn
    obtain ⟨j, hj⟩ := List.getElem?_of_mem ((hm k).mpr hk)
    have hjl := (List.getElem?_eq_some_iff.mp hj).1
    have ej : ks[j]! = k := by simp [hj]
    have := any_false_at hd hjl
    rw [hl j hjl, gAt_cnt h, ej, decide_eq_true hkn, Bool.true_and] at this
    by_cases q : cnt sp k = w
    · exact q
    · rw [decide_eq_false q] at this; cases this
  · intro hc
    refine any_range_false fun j hj => ?_
    rw [hl j hj, gAt_cnt h]
    by_cases hkn : ks[j]! < n
    · rw [hc _ ((hm _).mp (List.mem_of_getElem? (get_bang hj))) hkn, decide_eq_true rfl, Bool.not_true, Bool.and_false]
    · rw [decide_eq_false hkn, Bool.false_and]
/-! ### spans in order -/
def SpR (x y : Spn) : Prop := x.lamp < y.lamp ∨ (x.lamp = y.lamp ∧ x.lo < y.lo ∧ x.hi ≤ y.lo)
theorem spanFault_of {n : Int} {m : Nat} {sp : List Spn} (h : ∀ s ∈ sp, 0 ≤ s.lamp ∧ s.lamp < m ∧ 0 ≤ s.lo ∧ s.lo < s.hi ∧ s.hi ≤ n) (hp : sp.Pairwise SpR) : spanFault n m sp = false := by
  unfold spanFault
  refine any_range_false fun i hi => ?_
  have h1 := h _ (List.mem_of_getElem? (get_bang hi))
  rw [Bool.or_eq_false_iff]
  constructor
  · unfold spBad1
    simp only [Bool.or_eq_false_iff, decide_eq_false_iff_not]
    omega
  · cases i with
    | zero => rfl
    | succ i =>
      have hr : SpR sp[i]! sp[i + 1]! := by
        have := List.pairwise_iff_getElem.mp hp i (i + 1) (by omega) hi (Nat.lt_succ_self i)
        simpa [show i < sp.length by omega, hi] using this
      show (leSpn sp[i + 1]! sp[i]! || (decide (sp[i + 1]!.lamp = sp[i]!.lamp) && decide (sp[i + 1]!.lo < sp[i]!.hi))) = false
      unfold leSpn le3
      rcases hr with hr | ⟨e1, e2, e3⟩
      · rw [if_neg (by omega), decide_eq_false (by omega), decide_eq_false (show ¬ sp[i + 1]!.lamp = sp[i]!.lamp by omega)]
        rfl
      · rw [if_pos e1.symm, if_neg (by omega), decide_eq_false (by omega), decide_eq_false (show ¬ sp[i + 1]!.lo < sp[i]!.hi by omega), Bool.and_false]
        rfl
/-! ### what a lamp burns in all -/
def burnt (sp : List Spn) (i : Nat) : Int := isum sp fun s => if s.lamp = (i : Int) then s.hi - s.lo else 0
theorem ticks_at (m : Nat) (sp : List Spn) (h : ∀ s ∈ sp, 0 ≤ s.lamp ∧ s.lamp < m) : ∀ k, k ≤ sp.length → ∀ i, i < m → (ticksTo m sp k)[i]! = burnt (sp.take k) i
  | 0, _, i, hi => by
    show (List.replicate m (0 : Int))[i]! = 0
    simp [hi]
  | k + 1, hk, i, hi => by
    have hx := get_bang (xs := sp) (j := k) (by omega)
    have hs := h _ (List.mem_of_getElem? hx)
    have ih := ticks_at m sp h k (by omega) i hi
    have hl := ticksTo_len m sp k
    rw [take_snoc hx]
    unfold burnt
    rw [isum_app, isum_one]
    show (addAt (ticksTo m sp k) sp[k]!.lamp.toNat (sp[k]!.hi - sp[k]!.lo))[i]! = burnt (sp.take k) i + _
    unfold addAt
    by_cases e : sp[k]!.lamp = (i : Int)
    · rw [if_pos e, show sp[k]!.lamp.toNat = i by omega, set_eq! (by omega), ih]
    · rw [if_neg e, set_ne! (by omega), ih]
      omega
theorem ticksF_at {m : Nat} {sp : List Spn} (h : ∀ s ∈ sp, 0 ≤ s.lamp ∧ s.lamp < m) {i : Nat} (hi : i < m) : (ticksF m sp)[i]! = burnt sp i := by
  have := ticks_at m sp h sp.length (Nat.le_refl _) i hi
  rw [List.take_length] at this
  exact this
/-! ## plain laws: a night laid out -/
theorem next_at {n a t : Int} (ha : 0 ≤ a ∧ a < n) (ht : 0 ≤ t ∧ t ≤ n) : (a + t) % n = if a + t < n then a + t else a + t - n := by
  split
  · exact Int.emod_eq_of_lt (by omega) (by omega)
  · have e : a + t = (a + t - n) + n := by omega
    rw [e, Int.add_emod_right, Int.emod_eq_of_lt (by omega) (by omega)]
    omega
theorem laidAt_in {n : Int} (hn : 0 < n) (ts : List Int) : ∀ i, 0 ≤ laidAt n ts i ∧ laidAt n ts i < n
  | 0 => ⟨Int.le_refl _, hn⟩
  | i + 1 => ⟨Int.emod_nonneg _ (by omega), Int.emod_lt_of_pos _ hn⟩
theorem step_in {n a t : Int} {k : Nat} (ha : 0 ≤ a ∧ a < n) (ht : 0 ≤ t ∧ t ≤ n) : ∀ s ∈ laidStep n k a t, s.lamp = (k : Int) ∧ 0 ≤ s.lo ∧ s.lo < s.hi ∧ s.hi ≤ n ∧ 0 < t := fun s hs => by
  unfold laidStep at hs
  split at hs
  · cases List.mem_singleton.mp hs
    exact ⟨rfl, by show (0:Int) ≤ 0; omega, by show (0:Int) < n; omega, by show n ≤ n; omega, by omega⟩
  · split at hs
    · rcases List.mem_cons.mp hs with e | e
      · cases e
        exact ⟨rfl, by show (0:Int) ≤ 0; omega, by show (0:Int) < a + t - n; omega, by show a + t - n ≤ n; omega, by omega⟩
      · cases List.mem_singleton.mp e
        exact ⟨rfl, by show (0:Int) ≤ a; omega, by show a < n; omega, by show n ≤ n; omega, by omega⟩
    · split at hs
      · cases List.mem_singleton.mp hs
        exact ⟨rfl, by show (0:Int) ≤ a; omega, by show a < a + t; omega, by show a + t ≤ n; omega, by omega⟩
      · cases hs
theorem step_pair {n a t : Int} {k : Nat} (ht : 0 ≤ t ∧ t ≤ n) : (laidStep n k a t).Pairwise SpR := by
  unfold laidStep
  split
  · exact List.pairwise_singleton _ _
  · split
    · refine List.pairwise_cons.mpr ⟨fun s hs => ?_, List.pairwise_singleton _ _⟩
      rw [List.mem_singleton.mp hs]
      refine .inr ⟨rfl, ?_, ?_⟩ <;> simp only <;> omega
    · split
      · exact List.pairwise_singleton _ _
      · exact List.Pairwise.nil
theorem step_eq {n a t : Int} {i : Nat} (ht : 0 ≤ t ∧ t ≤ n) : (t = n ∧ laidStep n i a t = [⟨i, 0, n⟩]) ∨ (¬ t = n ∧ n < a + t ∧ laidStep n i a t = [⟨i, 0, a + t - n⟩, ⟨i, a, n⟩]) ∨ (¬ t = n ∧ ¬ n < a + t ∧ 0 < t ∧ laidStep n i a t = [⟨i, a, a + t⟩]) ∨ (¬ t = n ∧ ¬ n < a + t ∧ t = 0 ∧ laidStep n i a t = []) := by
  unfold laidStep
  by_cases c1 : t = n
  · exact .inl ⟨c1, if_pos c1⟩
  · by_cases c2 : n < a + t
    · exact .inr (.inl ⟨c1, c2, by rw [if_neg c1, if_pos c2]⟩)
    · by_cases c3 : 0 < t
      · exact .inr (.inr (.inl ⟨c1, c2, c3, by rw [if_neg c1, if_neg c2, if_pos c3]⟩))
      · exact .inr (.inr (.inr ⟨c1, c2, by omega, by rw [if_neg c1, if_neg c2, if_neg c3]⟩))
theorem step_cnt {n a t : Int} {i : Nat} (ha : 0 ≤ a ∧ a < n) (ht : 0 ≤ t ∧ t ≤ n) {k : Int} (hk : 0 ≤ k ∧ k < n) : cnt (laidStep n i a t) k + ind (k < a) = ind (k < (a + t) % n) + (if a + t < n then 0 else 1) := by
  have hx : (a + t < n ∧ (a + t) % n = a + t) ∨ (¬ a + t < n ∧ (a + t) % n = a + t - n) := by
    rw [next_at ha ht]
    by_cases h : a + t < n
    · exact .inl ⟨h, if_pos h⟩
    · exact .inr ⟨h, if_neg h⟩
  rcases hx with ⟨c, e⟩ | ⟨c, e⟩ <;> rw [e]
  · rw [if_pos c]
    rcases step_eq (n := n) (a := a) (t := t) (i := i) ht with ⟨_, e⟩ | ⟨_, _, e⟩ | ⟨_, _, _, e⟩ | ⟨_, _, _, e⟩ <;> rw [e] <;> unfold cnt
    · omega
    · omega
    · rw [isum_one]
      unfold ind
      simp only
      split <;> split <;> split <;> omega
    · rw [isum_nil]
      unfold ind
      split <;> split <;> omega
  · rw [if_neg c]
    rcases step_eq (n := n) (a := a) (t := t) (i := i) ht with ⟨_, e⟩ | ⟨_, _, e⟩ | ⟨_, _, _, e⟩ | ⟨_, _, _, e⟩ <;> rw [e] <;> unfold cnt
    · rw [isum_one]
      unfold ind
      simp only
      split <;> split <;> split <;> omega
    · rw [isum_cons, isum_one]
      unfold ind
      simp only
      split <;> split <;> split <;> split <;> omega
    · rw [isum_one]
      unfold ind
      simp only
      split <;> split <;> split <;> omega
    · omega
theorem step_burnt {n a t : Int} {i : Nat} (ha : 0 ≤ a ∧ a < n) (ht : 0 ≤ t ∧ t ≤ n) (j : Nat) : burnt (laidStep n i a t) j = if i = j then t else 0 := by
  have hij : ((i : Int) = (j : Int)) ↔ i = j := Int.ofNat_inj
  unfold burnt laidStep
  split
  · rw [isum_one]
    simp only [hij]
    split <;> omega
  · split
    · rw [isum_cons, isum_one]
      simp only [hij]
      split <;> omega
    · split
      · rw [isum_one]
        simp only [hij]
        split <;> omega
      · rw [isum_nil]
        split <;> omega
theorem cnt_app (xs ys : List Spn) (k : Int) : cnt (xs ++ ys) k = cnt xs k + cnt ys k := isum_app _ _ _
theorem burnt_app (xs ys : List Spn) (k : Nat) : burnt (xs ++ ys) k = burnt xs k + burnt ys k := isum_app _ _ _
section
variable {n : Int} {ts : List Int} (hn : 0 < n) (h : ∀ t ∈ ts, 0 ≤ t ∧ t ≤ n)
include hn h
theorem laid_in : ∀ i, i ≤ ts.length → ∀ s ∈ laidTo n ts i, 0 ≤ s.lamp ∧ s.lamp < i ∧ 0 ≤ s.lo ∧ s.lo < s.hi ∧ s.hi ≤ n ∧ 0 < ts[s.lamp.toNat]!
  | 0, _, s, hs => nomatch hs
  | i + 1, hi, s, hs => by
    rcases List.mem_append.mp hs with hs | hs
    · have := laid_in i (by omega) s hs
      omega
    · have h1 := step_in (laidAt_in hn ts i) (h _ (List.mem_of_getElem? (get_bang (show i < ts.length by omega)))) s hs
      have e : s.lamp.toNat = i := by omega
      rw [e]
      omega
theorem laid_pair : ∀ i, i ≤ ts.length → (laidTo n ts i).Pairwise SpR
  | 0, _ => List.Pairwise.nil
  | i + 1, hi => List.pairwise_append.mpr ⟨laid_pair i (by omega), step_pair (h _ (List.mem_of_getElem? (get_bang (show i < ts.length by omega)))), fun x hx y hy => by
    have h1 := laid_in hn h i (by omega) x hx
    have h2 := step_in (laidAt_in hn ts i) (h _ (List.mem_of_getElem? (get_bang (show i < ts.length by omega)))) y hy
    exact .inl (by omega)⟩
theorem laid_cnt : ∀ i, i ≤ ts.length → ∃ q : Int, (ts.take i).sum = q * n + laidAt n ts i ∧ ∀ k, 0 ≤ k → k < n → cnt (laidTo n ts i) k = q + ind (k < laidAt n ts i)
  | 0, _ => ⟨0, by rw [Int.zero_mul]; rfl, fun k h1 h2 => by
    show isum [] _ = 0 + ind (k < 0)
    rw [isum_nil, ind_f (by omega)]; rfl⟩
  | i + 1, hi => by
    obtain ⟨q, h1, h2⟩ := laid_cnt i (by omega)
    have ha := laidAt_in hn ts i
    have hx := get_bang (show i < ts.length by omega)
    have ht := h _ (List.mem_of_getElem? hx)
    have hnx : laidAt n ts (i + 1) = (laidAt n ts i + ts[i]!) % n := rfl
    refine ⟨q + (if laidAt n ts i + ts[i]! < n then 0 else 1), ?_, fun k k1 k2 => ?_⟩
    · rw [take_snoc hx, List.sum_append, h1, hnx, next_at ha ht]
      have e1 : [ts[i]!].sum = ts[i]! := by simp
      rw [e1]
      split
      · rw [Int.add_zero]; omega
      · rw [Int.add_mul]; omega
    · show cnt (laidTo n ts i ++ laidStep n i (laidAt n ts i) ts[i]!) k = _
      rw [cnt_app, h2 k k1 k2, hnx]
      have := step_cnt (i := i) ha ht ⟨k1, k2⟩
      omega
theorem laid_burnt : ∀ i, i ≤ ts.length → ∀ j, burnt (laidTo n ts i) j = if j < i then ts[j]! else 0
  | 0, _, j => by rw [if_neg (by omega)]; rfl
  | i + 1, hi, j => by
    have ha := laidAt_in hn ts i
    have ht := h _ (List.mem_of_getElem? (get_bang (show i < ts.length by omega)))
    show burnt (laidTo n ts i ++ laidStep n i (laidAt n ts i) ts[i]!) j = _
    rw [burnt_app, laid_burnt i (by omega) j, step_burnt ha ht]
    by_cases e : i = j
    · subst e
      rw [if_neg (by omega), if_pos rfl, if_pos (by omega)]; omega
    · rw [if_neg e]
      by_cases g : j < i
      · rw [if_pos g, if_pos (by omega)]; omega
      · rw [if_neg g, if_neg (by omega)]; omega
theorem laid_ok {w : Int} (hs : ts.sum = w * n) : spanFault n ts.length (laidF n ts) = false ∧ (∀ k, 0 ≤ k → k < n → cnt (laidF n ts) k = w) ∧ (∀ i, i < ts.length → burnt (laidF n ts) i = ts[i]!) ∧
    (∀ s ∈ laidF n ts, 0 ≤ s.lamp ∧ s.lamp < ts.length ∧ 0 ≤ s.lo ∧ s.lo < s.hi ∧ s.hi ≤ n ∧ 0 < ts[s.lamp.toNat]!) := by
  have hin := laid_in hn h ts.length (Nat.le_refl _)
  refine ⟨spanFault_of (fun s hs => ?_) (laid_pair hn h ts.length (Nat.le_refl _)), fun k h1 h2 => ?_, fun i hi => ?_, hin⟩
  · have := hin s hs
    omega
  · obtain ⟨q, e1, e2⟩ := laid_cnt hn h ts.length (Nat.le_refl _)
    rw [List.take_length, hs] at e1
    have ha := laidAt_in hn ts ts.length
    have e3 : laidAt n ts ts.length = 0 := by
      have g : (w * n) % n = 0 := Int.mul_emod_left ..
      rw [e1, Int.add_comm, Int.add_mul_emod_self_right, Int.emod_eq_of_lt ha.1 ha.2] at g
      exact g
    have e4 : w = q := by
      rw [e3, Int.add_zero] at e1
      exact Int.eq_of_mul_eq_mul_right (by omega) e1
    show cnt (laidTo n ts ts.length) k = w
    rw [e2 k h1 h2, e3, ind_f (by omega)]
    omega
  · show burnt (laidTo n ts ts.length) i = _
    rw [laid_burnt hn h ts.length (Nat.le_refl _), if_pos hi]
end
/-- dark_iff, where each tick has its count -/
theorem not_dark {n w : Int} {sp : List Spn} (h : ∀ s ∈ sp, 0 ≤ s.lo ∧ s.lo < s.hi) (hc : ∀ k, 0 ≤ k → k < n → cnt sp k = w) (hn : 0 < n) : darkF n w sp = false := (dark_iff fun s hs => (h s hs).2).mpr fun k hk hkn => hc k (by
  rcases hk with e | e | ⟨s, hs, e | e⟩
  · omega
  · omega
  · have := h s hs; omega
  · have := h s hs; omega) hkn
/-! ## plain laws: what flows in the web of a book -/
inductive Cap where
  | need | oil | store | loil (i : Nat) | tank (i : Nat) | burn (i j : Nat) | boat (j : Nat) | most (j : Nat) | night (j : Nat)
deriving DecidableEq
def Bk.capV (b : Bk) : Cap → Int
  | .need => b.need
  | .oil => b.oil
  | .store => b.store
  | .loil i => b.lamps[i]!.oil
  | .tank i => b.lamps[i]!.tank
  | .burn i j => b.lamps[i]!.burns j b.days[j]!
  | .boat j => b.days[j]!.boat
  | .most j => b.days[j]!.most
  | .night j => b.days[j]!.length * b.days[j]!.wanted
def Bk.capP (b : Bk) : Cap → Int
  | .most j => b.days[j]!.price
  | _ => 0
abbrev Sk := Nat × Nat × Cap
def kS (n j : Nat) : Nat := 2 + j * (2 * n + 2)
def kT (n i j : Nat) : Nat := kS n j + 1 + 2 * i
def kF (n i j : Nat) : Nat := kS n j + 2 + 2 * i
def kN (n j : Nat) : Nat := kS n j + 2 * n + 1
def skLamp (n d i j : Nat) : List Sk := [(kS n j, kT n i j, .need), (kT n i j, kF n i j, .tank i), (kF n i j, kN n j, .burn i j)] ++ if j + 1 < d then [(kF n i j, kT n i (j + 1), .need)] else []
def skDay (n d j : Nat) : List Sk := [(0, kS n j, .boat j), (0, kS n j, .most j), (kN n j, 1, .night j)] ++ if j + 1 < d then [(kS n j, kS n (j + 1), .store)] else []
def skel (n d : Nat) : List Sk := ((0, kS n 0, .oil) :: (List.range n).map fun i => (0, kT n i 0, .loil i)) ++ (List.range d).flatMap fun j => skDay n d j ++ (List.range n).flatMap fun i => skLamp n d i j
def Bk.deco (b : Bk) (e : Sk) : Tie := ⟨e.1, e.2.1, b.capV e.2.2, b.capP e.2.2⟩
theorem flatMap_map_ {α β γ : Type} (f : β → γ) (g : α → List β) : ∀ xs : List α, (xs.flatMap g).map f = xs.flatMap fun x => (g x).map f
  | [] => rfl
  | x :: xs => by rw [List.flatMap_cons, List.map_append, flatMap_map_ f g xs, List.flatMap_cons]
theorem skLamp_deco (b : Bk) (i j : Nat) : b.lampTies i j = (skLamp b.lamps.length b.days.length i j).map b.deco := by
  unfold Bk.lampTies skLamp
  split <;> rfl
theorem skDay_deco (b : Bk) (j : Nat) : b.dayTies0 j = (skDay b.lamps.length b.days.length j).map b.deco := by
  unfold Bk.dayTies0 skDay
  split <;> rfl
theorem skel_deco (b : Bk) : b.tieL = (skel b.lamps.length b.days.length).map b.deco := by
  unfold Bk.tieL Bk.ties0 skel
  rw [List.map_append, flatMap_map_, List.map_cons, List.map_map]
  congr 2
  funext j
  unfold Bk.dayTies
  rw [List.map_append, flatMap_map_, skDay_deco]
  congr 2
  funext i
  exact skLamp_deco b i j
/-- a sum over the ties of what flows, weighed by their ends -/
def wsum : List Tie → List Int → (Nat → Nat → Int) → Int
  | t :: ts, x :: xs, g => g t.a t.c * x + wsum ts xs g
  | _, _, _ => 0
theorem wsum_congr {g h : Nat → Nat → Int} : ∀ {ts : List Tie} {fl : List Int}, (∀ t ∈ ts, g t.a t.c = h t.a t.c) → wsum ts fl g = wsum ts fl h
  | [], _, _ => rfl
  | _ :: _, [], _ => rfl
  | t :: ts, x :: xs, k => by
    show g t.a t.c * x + wsum ts xs g = h t.a t.c * x + wsum ts xs h
    rw [k t List.mem_cons_self, wsum_congr fun u hu => k u (List.mem_cons_of_mem _ hu)]
theorem wsum_add (g h : Nat → Nat → Int) : ∀ (ts : List Tie) (fl : List Int), wsum ts fl (fun a c => g a c + h a c) = wsum ts fl g + wsum ts fl h
  | [], _ => rfl
  | _ :: _, [] => rfl
  | t :: ts, x :: xs => by
    show (g t.a t.c + h t.a t.c) * x + wsum ts xs (fun a c => g a c + h a c) = g t.a t.c * x + wsum ts xs g + (h t.a t.c * x + wsum ts xs h)
    rw [wsum_add g h ts xs, Int.add_mul]
    omega
theorem wsum_zero : ∀ (ts : List Tie) (fl : List Int), wsum ts fl (fun _ _ => 0) = 0
  | [], _ => rfl
  | _ :: _, [] => rfl
  | t :: ts, x :: xs => by
    show 0 * x + wsum ts xs (fun _ _ => 0) = 0
    rw [wsum_zero ts xs, Int.zero_mul]; rfl
theorem wsum_isum {α : Type} (g : α → Nat → Nat → Int) (ts : List Tie) (fl : List Int) : ∀ is : List α, wsum ts fl (fun a c => isum is fun i => g i a c) = isum is fun i => wsum ts fl (g i)
  | [] => by
    rw [isum_nil]
    exact wsum_zero ts fl
  | i :: is => by
    rw [isum_cons, ← wsum_isum g ts fl is, ← wsum_add]
    exact wsum_congr fun t _ => isum_cons _ _ _
theorem ind_mul (p : Prop) [Decidable p] (x : Int) : ind p * x = if p then x else 0 := by
  unfold ind
  split
  · rw [Int.one_mul]
  · rw [Int.zero_mul]
theorem net_wsum (v : Nat) : ∀ (ts : List Tie) (fl : List Int), netL ts fl v + wsum ts fl (fun a _ => ind (a = v)) = wsum ts fl (fun _ c => ind (c = v))
  | [], _ => rfl
  | _ :: _, [] => rfl
  | t :: ts, x :: xs => by
    have ih := net_wsum v ts xs
    show (if t.c = v then x else 0) - (if t.a = v then x else 0) + netL ts xs v + (ind (t.a = v) * x + wsum ts xs (fun a _ => ind (a = v))) = ind (t.c = v) * x + wsum ts xs (fun _ c => ind (c = v))
    rw [ind_mul, ind_mul]
    omega
def csum (ts : List Tie) (g : Nat → Nat → Int) : Int := isum ts fun t => g t.a t.c * t.most
theorem wsum_le {g : Nat → Nat → Int} (hg : ∀ a c, 0 ≤ g a c) : ∀ (ts : List Tie) (fl : List Int), fl.length = ts.length → (∀ p, p < ts.length → 0 ≤ fl[p]! ∧ fl[p]! ≤ ts[p]!.most) → 0 ≤ wsum ts fl g ∧ wsum ts fl g ≤ csum ts g
  | [], [], _, _ => ⟨Int.le_refl _, Int.le_refl _⟩
  | [], _ :: _, h, _ => by cases h
  | t :: ts, [], h, _ => by cases h
  | t :: ts, x :: fl, h, k => by
    have ih := wsum_le hg ts fl (Nat.succ.inj h) fun p hp => k (p + 1) (Nat.succ_lt_succ hp)
    have h0 := k 0 (Nat.succ_pos _)
    have h1 : 0 ≤ x ∧ x ≤ t.most := h0
    have h2 := Int.mul_nonneg (hg t.a t.c) h1.1
    have h3 := Int.mul_le_mul_of_nonneg_left h1.2 (hg t.a t.c)
    unfold csum at ih ⊢
    rw [isum_cons]
    show 0 ≤ g t.a t.c * x + wsum ts fl g ∧ g t.a t.c * x + wsum ts fl g ≤ _
    omega
theorem isum_perm {α : Type} {f : α → Int} {xs ys : List α} (h : xs.Perm ys) : isum xs f = isum ys f := by
  induction h with
  | nil => rfl
  | cons x _ ih => rw [isum_cons, isum_cons, ih]
  | swap x y l => rw [isum_cons, isum_cons, isum_cons, isum_cons]; omega
  | trans _ _ h1 h2 => rw [h1, h2]
theorem isum_map {α β : Type} (h : α → β) (f : β → Int) : ∀ xs : List α, isum (xs.map h) f = isum xs fun x => f (h x)
  | [] => rfl
  | x :: xs => by rw [List.map_cons, isum_cons, isum_cons, isum_map h f xs]
theorem isum_filter {α : Type} (p : α → Bool) (f : α → Int) : ∀ xs : List α, (isum xs fun x => if p x = true then f x else 0) = isum (xs.filter p) f
  | [] => rfl
  | x :: xs => by
    rw [isum_cons, isum_filter p f xs, List.filter_cons]
    split
    · rw [isum_cons]
    · omega
def pr (u v : Nat) : Nat → Nat → Int := fun a c => ind (a = u ∧ c = v)
theorem pr_nn (u v : Nat) : ∀ a c, 0 ≤ pr u v a c := fun a c => ind_nn _
def skAt (n d u v : Nat) : List Sk := (skel n d).filter fun e => decide (e.1 = u) && decide (e.2.1 = v)
theorem csum_pair (b : Bk) (u v : Nat) : csum b.web.ties (pr u v) = isum (skAt b.lamps.length b.days.length u v) fun e => b.capV e.2.2 := by
  unfold csum skAt
  rw [isum_perm (show b.web.ties.Perm b.tieL from List.mergeSort_perm b.tieL tieLe), skel_deco, isum_map, ← isum_filter]
  refine isum_congr fun e _ => ?_
  show ind (e.1 = u ∧ e.2.1 = v) * b.capV e.2.2 = _
  rw [ind_mul]
  by_cases h : e.1 = u ∧ e.2.1 = v
  · rw [if_pos h, if_pos (by simp [h])]
  · rw [if_neg h, if_neg (by simpa using h)]
/-! ### the dict of the flows -/
theorem wsum_snoc (g : Nat → Nat → Int) (t : Tie) (x : Int) : ∀ (ts : List Tie) (fl : List Int), fl.length = ts.length → wsum (ts ++ [t]) (fl ++ [x]) g = wsum ts fl g + g t.a t.c * x
  | [], [], _ => by show g t.a t.c * x + 0 = 0 + _; omega
  | [], _ :: _, h => by cases h
  | _ :: _, [], h => by cases h
  | u :: ts, y :: fl, h => by
    show g u.a u.c * y + wsum (ts ++ [t]) (fl ++ [x]) g = g u.a u.c * y + wsum ts fl g + _
    rw [wsum_snoc g t x ts fl (Nat.succ.inj h)]
    omega
theorem pair_eq {t : Tie} {u v : Nat} : ([(u : Int), (v : Int)] = pair t) ↔ (t.a = u ∧ t.c = v) := by
  unfold pair
  simp only [List.cons.injEq, and_true, Int.ofNat_inj]
  exact ⟨fun ⟨a, b⟩ => ⟨a.symm, b.symm⟩, fun ⟨a, b⟩ => ⟨a.symm, b.symm⟩⟩
theorem fb_lk {ts : List Tie} {fl : List Int} (hl : fl.length = ts.length) (u v : Nat) : ∀ i, i ≤ ts.length → (lkG (fbTo ts fl i) [(u : Int), (v : Int)]).getD 0 = wsum (ts.take i) (fl.take i) (pr u v) ∧ ((∃ t ∈ ts.take i, t.a = u ∧ t.c = v) → (lkG (fbTo ts fl i) [(u : Int), (v : Int)]).isSome = true)
  | 0, _ => ⟨rfl, fun ⟨t, h, _⟩ => nomatch h⟩
  | i + 1, hi => by
    obtain ⟨h1, h2⟩ := fb_lk hl u v i (by omega)
    have hx := get_bang (show i < ts.length by omega)
    have hy := get_bang (show i < fl.length by omega)
    rw [take_snoc hx, take_snoc hy, wsum_snoc _ _ _ _ _ (by simp; omega), ← h1]
    have hu : fbTo ts fl (i + 1) = putG (fbTo ts fl i) (pair ts[i]!) ((lkG (fbTo ts fl i) (pair ts[i]!)).getD 0 + fl[i]!) := rfl
    rw [hu, lkG_put _ _ [(u : Int), (v : Int)]]
    by_cases h : [(u : Int), (v : Int)] = pair ts[i]!
    · rw [if_pos h, ← h]
      refine ⟨?_, fun _ => rfl⟩
      show _ + _ = _
      rw [show pr u v ts[i]!.a ts[i]!.c = 1 from ind_t (pair_eq.mp h), Int.one_mul]
    · rw [if_neg h, show pr u v ts[i]!.a ts[i]!.c = 0 from ind_f (fun z => h (pair_eq.mpr z)), Int.zero_mul, Int.add_zero]
      refine ⟨rfl, fun ⟨t, ht, e⟩ => ?_⟩
      rcases List.mem_append.mp ht with ht | ht
      · exact h2 ⟨t, ht, e⟩
      · rw [List.mem_singleton.mp ht] at e
        exact absurd (pair_eq.mpr e) h
/-! ### the shape of the web, for each count of lamps and days -/
theorem sk_night : ∀ n ∈ [1, 2, 3], ∀ d ∈ [1, 2, 3, 4], ∀ j, j < d → ∀ e ∈ skel n d, ind (e.2.1 = kN n j) = (isum (List.range n) fun i => pr (kF n i j) (kN n j) e.1 e.2.1) ∧ ind (e.1 = kN n j) = pr (kN n j) 1 e.1 e.2.1 := by decide +kernel
theorem sk_light : ∀ n ∈ [1, 2, 3], ∀ d ∈ [1, 2, 3, 4], ∀ e ∈ skel n d, ind (e.2.1 = 1) = (isum (List.range d) fun j => pr (kN n j) 1 e.1 e.2.1) ∧ ind (e.1 = 1) = 0 := by decide +kernel
theorem sk_store : ∀ n ∈ [1, 2, 3], ∀ d ∈ [1, 2, 3, 4], ∀ e ∈ skel n d, ind (e.2.1 = kS n 0) = pr 0 (kS n 0) e.1 e.2.1 ∧ ind (e.1 = kS n 0) = (isum (List.range n) fun i => pr (kS n 0) (kT n i 0) e.1 e.2.1) + pr (kS n 0) (kS n 1) e.1 e.2.1 := by decide +kernel
theorem sk_tank : ∀ n ∈ [1, 2, 3], ∀ d ∈ [1, 2, 3, 4], ∀ i, i < n → ∀ e ∈ skel n d, ind (e.2.1 = kT n i 0) = pr 0 (kT n i 0) e.1 e.2.1 + pr (kS n 0) (kT n i 0) e.1 e.2.1 ∧ ind (e.1 = kT n i 0) = pr (kT n i 0) (kF n i 0) e.1 e.2.1 := by decide +kernel
theorem sk_flame : ∀ n ∈ [1, 2, 3], ∀ d ∈ [1, 2, 3, 4], ∀ i, i < n → ∀ e ∈ skel n d, ind (e.2.1 = kF n i 0) = pr (kT n i 0) (kF n i 0) e.1 e.2.1 ∧ ind (e.1 = kF n i 0) = pr (kF n i 0) (kN n 0) e.1 e.2.1 + pr (kF n i 0) (kT n i 1) e.1 e.2.1 := by decide +kernel
theorem sk_capN : ∀ n ∈ [1, 2, 3], ∀ d ∈ [1, 2, 3, 4], ∀ j, j < d → skAt n d (kN n j) 1 = [(kN n j, 1, .night j)] := by decide +kernel
theorem sk_capB : ∀ n ∈ [1, 2, 3], ∀ d ∈ [1, 2, 3, 4], ∀ j, j < d → ∀ i, i < n → skAt n d (kF n i j) (kN n j) = [(kF n i j, kN n j, .burn i j)] := by decide +kernel
theorem sk_cap0 : ∀ n ∈ [1, 2, 3], ∀ d ∈ [1, 2, 3, 4], ∀ i, i < n → skAt n d 0 (kT n i 0) = [(0, kT n i 0, .loil i)] ∧ skAt n d (kT n i 0) (kF n i 0) = [(kT n i 0, kF n i 0, .tank i)] := by decide +kernel
theorem sk_capS : ∀ n ∈ [1, 2, 3], ∀ d ∈ [1, 2, 3, 4], skAt n d 0 (kS n 0) = [(0, kS n 0, .oil), (0, kS n 0, .boat 0), (0, kS n 0, .most 0)] := by decide +kernel
theorem sk_has : ∀ n ∈ [1, 2, 3], ∀ d ∈ [1, 2, 3, 4], ∀ j, j < d → skAt n d 0 (kS n j) ≠ [] ∧ ∀ i, i < n → skAt n d (kS n j) (kT n i j) ≠ [] ∧ skAt n d (kF n i j) (kN n j) ≠ [] := by decide +kernel
section
variable {b : Bk} (o : b.Ok) {fl : List Int} (inv : FlowInv b.web 0 1 fl b.need)
def Bk.phi (b : Bk) (fl : List Int) (u v : Nat) : Int := wsum b.web.ties fl (pr u v)
theorem Bk.Ok.ln (o : b.Ok) : b.lamps.length ∈ [1, 2, 3] := by
  have h1 := o.l1
  have h3 := o.l3
  simp only [List.mem_cons, List.not_mem_nil, or_false]
  omega
theorem Bk.Ok.dn (o : b.Ok) : b.days.length ∈ [1, 2, 3, 4] := by
  have h1 := o.d1
  have h3 := o.d4
  simp only [List.mem_cons, List.not_mem_nil, or_false]
  omega
theorem mem_skel {t : Tie} (h : t ∈ b.web.ties) : ∃ e ∈ skel b.lamps.length b.days.length, t = b.deco e := by
  have h1 := mem_web h
  rw [skel_deco] at h1
  obtain ⟨e, he, q⟩ := List.mem_map.mp h1
  exact ⟨e, he, q.symm⟩
theorem wcongr {g h : Nat → Nat → Int} (k : ∀ e ∈ skel b.lamps.length b.days.length, g e.1 e.2.1 = h e.1 e.2.1) : wsum b.web.ties fl g = wsum b.web.ties fl h := wsum_congr fun t ht => by
  obtain ⟨e, he, rfl⟩ := mem_skel ht
  exact k e he
include inv in
theorem phi_nn (u v : Nat) : 0 ≤ b.phi fl u v := (wsum_le (pr_nn u v) _ _ inv.fb.len fun p hp => ⟨inv.fb.lo p hp, inv.fb.hi p hp⟩).1
include inv in
theorem phi_le (u v : Nat) : b.phi fl u v ≤ isum (skAt b.lamps.length b.days.length u v) fun e => b.capV e.2.2 := by
  rw [← csum_pair]
  exact (wsum_le (pr_nn u v) _ _ inv.fb.len fun p hp => ⟨inv.fb.lo p hp, inv.fb.hi p hp⟩).2
include inv in
theorem node_bal {v : Nat} (h : 2 ≤ v) : wsum b.web.ties fl (fun a _ => ind (a = v)) = wsum b.web.ties fl (fun _ c => ind (c = v)) := by
  have := net_wsum v b.web.ties fl
  rw [inv.net v, if_neg (by omega), if_neg (by omega)] at this
  omega
include o inv in
theorem night_flow {j : Nat} (hj : j < b.days.length) : (isum (List.range b.lamps.length) fun i => b.phi fl (b.fN i j) (b.nN j)) = b.phi fl (b.nN j) 1 := by
  have h := node_bal inv (v := b.nN j) (by unfold Bk.nN Bk.sN; omega)
  have k := sk_night _ o.ln _ o.dn j hj
  rw [wcongr (h := pr (b.nN j) 1) fun e he => (k e he).2, wcongr (g := fun _ c => ind (c = b.nN j)) (h := fun a c => isum (List.range b.lamps.length) fun i => pr (b.fN i j) (b.nN j) a c) fun e he => (k e he).1, wsum_isum] at h
  exact h.symm
include o inv in
theorem light_flow : (isum (List.range b.days.length) fun j => b.phi fl (b.nN j) 1) = b.need := by
  have h := net_wsum 1 b.web.ties fl
  have k := sk_light _ o.ln _ o.dn
  rw [inv.net 1, if_pos rfl, if_neg (by omega), wcongr (g := fun a _ => ind (a = 1)) (h := fun _ _ => 0) fun e he => (k e he).2, wsum_zero, wcongr (g := fun _ c => ind (c = 1)) (h := fun a c => isum (List.range b.days.length) fun j => pr (b.nN j) 1 a c) fun e he => (k e he).1, wsum_isum] at h
  show (isum (List.range b.days.length) fun j => wsum b.web.ties fl (pr (b.nN j) 1)) = _
  rw [← h]
  omega
theorem need_isum (b : Bk) : b.need = isum (List.range b.days.length) fun j => b.days[j]!.length * b.days[j]!.wanted := by
  unfold Bk.need isum
  rw [map_range (fun d : Dy => d.length * d.wanted)]
include o inv in
theorem night_full {j : Nat} (hj : j < b.days.length) : b.phi fl (b.nN j) 1 = b.days[j]!.length * b.days[j]!.wanted := by
  have h := light_flow o inv
  rw [need_isum] at h
  refine isum_eq_of_le (fun j hj => ?_) h j (List.mem_range.mpr hj)
  have := phi_le inv (b.nN j) 1
  rw [show skAt b.lamps.length b.days.length (b.nN j) 1 = _ from sk_capN _ o.ln _ o.dn j (List.mem_range.mp hj), isum_one] at this
  exact this
include o inv in
theorem store_flow : (isum (List.range b.lamps.length) fun i => b.phi fl (b.sN 0) (b.tN i 0)) ≤ b.phi fl 0 (b.sN 0) := by
  have h := node_bal inv (v := b.sN 0) (by unfold Bk.sN; omega)
  have k := sk_store _ o.ln _ o.dn
  rw [wcongr (h := fun a c => (isum (List.range b.lamps.length) fun i => pr (b.sN 0) (b.tN i 0) a c) + pr (b.sN 0) (b.sN 1) a c) fun e he => (k e he).2, wsum_add, wsum_isum, wcongr (g := fun _ c => ind (c = b.sN 0)) (h := pr 0 (b.sN 0)) fun e he => (k e he).1] at h
  have h2 := phi_nn inv (b.sN 0) (b.sN 1)
  unfold Bk.phi at h2 ⊢
  omega
include o inv in
theorem tank_flow {i : Nat} (hi : i < b.lamps.length) : b.phi fl (b.tN i 0) (b.fN i 0) = b.phi fl 0 (b.tN i 0) + b.phi fl (b.sN 0) (b.tN i 0) := by
  have h := node_bal inv (v := b.tN i 0) (by unfold Bk.tN Bk.sN; omega)
  have k := sk_tank _ o.ln _ o.dn i hi
  rw [wcongr (h := pr (b.tN i 0) (b.fN i 0)) fun e he => (k e he).2, wcongr (g := fun _ c => ind (c = b.tN i 0)) (h := fun a c => pr 0 (b.tN i 0) a c + pr (b.sN 0) (b.tN i 0) a c) fun e he => (k e he).1, wsum_add] at h
  exact h
include o inv in
theorem flame_flow {i : Nat} (hi : i < b.lamps.length) : b.phi fl (b.fN i 0) (b.nN 0) ≤ b.phi fl (b.tN i 0) (b.fN i 0) := by
  have h := node_bal inv (v := b.fN i 0) (by unfold Bk.fN Bk.sN; omega)
  have k := sk_flame _ o.ln _ o.dn i hi
  rw [wcongr (h := fun a c => pr (b.fN i 0) (b.nN 0) a c + pr (b.fN i 0) (b.tN i 1) a c) fun e he => (k e he).2, wsum_add, wcongr (g := fun _ c => ind (c = b.fN i 0)) (h := pr (b.tN i 0) (b.fN i 0)) fun e he => (k e he).1] at h
  have h2 := phi_nn inv (b.fN i 0) (b.tN i 1)
  unfold Bk.phi at h2 ⊢
  omega
include inv in
theorem flow_at (u v : Nat) : (lkG (b.flows fl) [(u : Int), (v : Int)]).getD 0 = b.phi fl u v := by
  have := (fb_lk inv.fb.len u v b.web.ties.length (Nat.le_refl _)).1
  rw [List.take_length, ← inv.fb.len, List.take_length, inv.fb.len] at this
  exact this
include inv in
theorem flow_has {u v : Nat} (h : skAt b.lamps.length b.days.length u v ≠ []) : lkG (b.flows fl) [(u : Int), (v : Int)] = some (b.phi fl u v) := by
  have h1 := flow_at inv u v
  have h2 := (fb_lk inv.fb.len u v b.web.ties.length (Nat.le_refl _)).2
  rw [List.take_length] at h2
  obtain ⟨e, he⟩ := List.exists_mem_of_ne_nil _ h
  have h3 := List.mem_filter.mp he
  have h4 : e.1 = u ∧ e.2.1 = v := by simpa using h3.2
  have h5 : b.deco e ∈ b.web.ties := (List.mergeSort_perm _ _).mem_iff.mpr (by rw [skel_deco]; exact List.mem_map.mpr ⟨e, h3.1, rfl⟩)
  obtain ⟨x, hx⟩ := Option.isSome_iff_exists.mp (h2 ⟨_, h5, h4⟩)
  have hx' : lkG (b.flows fl) [(u : Int), (v : Int)] = some x := hx
  rw [hx'] at h1 ⊢
  rw [← h1]
  rfl
include o inv in
theorem flG_of : FlG b (b.flows fl) (b.seaF fl) (b.pourF fl) (b.burnF fl) where
  hsea := fun j hj => by
    have h := sk_has _ o.ln _ o.dn j hj
    unfold Bk.seaF
    rw [show (0 : Int) = ((0 : Nat) : Int) from rfl, flow_has inv (u := 0) (v := b.sN j) h.1]
    rfl
  hpour := fun i j hi hj => by
    have h := ((sk_has _ o.ln _ o.dn j hj).2 i hi).1
    unfold Bk.pourF
    rw [flow_has inv (u := b.sN j) (v := b.tN i j) h]
    rfl
  hburn := fun i j hi hj => by
    have h := ((sk_has _ o.ln _ o.dn j hj).2 i hi).2
    unfold Bk.burnF
    rw [flow_has inv (u := b.fN i j) (v := b.nN j) h]
    rfl
  nn := fun i j hi hj => by
    unfold Bk.burnF
    rw [flow_at inv]
    have h1 := phi_nn inv (b.fN i j) (b.nN j)
    have h2 := phi_le inv (b.fN i j) (b.nN j)
    rw [show skAt b.lamps.length b.days.length (b.fN i j) (b.nN j) = _ from sk_capB _ o.ln _ o.dn j hj i hi, isum_one] at h2
    have h3 : b.lamps[i]!.burns j b.days[j]! ≤ b.days[j]!.length := by
      have := (o.day _ (List.mem_of_getElem? (get_bang hj))).2.2.1
      unfold Lmp.burns
      split <;> omega
    refine ⟨h1, Int.le_trans h2 h3⟩
  all := fun j hj => by
    have h1 := night_flow o inv hj
    rw [night_full o inv hj] at h1
    rw [Int.mul_comm, ← h1]
    show isum _ _ = _
    refine isum_congr fun i _ => ?_
    unfold Bk.burnF
    rw [flow_at inv]
/-- what a flow of the need says of the first day -/
structure Day0 (b : Bk) (fl : List Int) : Prop where
  sea : b.seaF fl 0 ≤ b.oil + b.days[0]!.boat + b.days[0]!.most
  pnn : ∀ i, i < b.lamps.length → 0 ≤ b.pourF fl i 0
  psum : (isum (List.range b.lamps.length) fun i => b.pourF fl i 0) ≤ b.seaF fl 0
  tank : ∀ i, i < b.lamps.length → b.burnF fl i 0 ≤ b.lamps[i]!.tank
  oil : ∀ i, i < b.lamps.length → b.burnF fl i 0 ≤ b.lamps[i]!.oil + b.pourF fl i 0
  away : ∀ i, i < b.lamps.length → (0 : Int) ∈ b.lamps[i]!.away → b.burnF fl i 0 ≤ 0
include o inv in
theorem day0_of : Day0 b fl := by
  have e1 : b.seaF fl 0 = b.phi fl 0 (b.sN 0) := flow_at inv 0 (b.sN 0)
  have e2 : ∀ i, b.pourF fl i 0 = b.phi fl (b.sN 0) (b.tN i 0) := fun i => flow_at inv (b.sN 0) (b.tN i 0)
  have e3 : ∀ i, b.burnF fl i 0 = b.phi fl (b.fN i 0) (b.nN 0) := fun i => flow_at inv (b.fN i 0) (b.nN 0)
  have hd := o.d1
  refine ⟨?_, fun i hi => ?_, ?_, fun i hi => ?_, fun i hi => ?_, fun i hi ha => ?_⟩
  · have h := phi_le inv 0 (b.sN 0)
    rw [show skAt b.lamps.length b.days.length 0 (b.sN 0) = _ from sk_capS _ o.ln _ o.dn, isum_cons, isum_cons, isum_one] at h
    rw [e1]
    have h' : b.phi fl 0 (b.sN 0) ≤ b.oil + (b.days[0]!.boat + b.days[0]!.most) := h
    omega
  · rw [e2]; exact phi_nn inv _ _
  · rw [e1, isum_congr fun i _ => e2 i]
    exact store_flow o inv
  · rw [e3]
    have h1 := flame_flow o inv hi
    have h2 := phi_le inv (b.tN i 0) (b.fN i 0)
    rw [show skAt b.lamps.length b.days.length (b.tN i 0) (b.fN i 0) = _ from (sk_cap0 _ o.ln _ o.dn i hi).2, isum_one] at h2
    exact Int.le_trans h1 h2
  · rw [e3, e2]
    have h1 := flame_flow o inv hi
    have h2 := tank_flow o inv hi
    have h3 := phi_le inv 0 (b.tN i 0)
    rw [show skAt b.lamps.length b.days.length 0 (b.tN i 0) = _ from (sk_cap0 _ o.ln _ o.dn i hi).1, isum_one] at h3
    have h3' : b.phi fl 0 (b.tN i 0) ≤ b.lamps[i]!.oil := h3
    omega
  · rw [e3]
    have h2 := phi_le inv (b.fN i 0) (b.nN 0)
    rw [show skAt b.lamps.length b.days.length (b.fN i 0) (b.nN 0) = _ from sk_capB _ o.ln _ o.dn 0 (by omega) i hi, isum_one] at h2
    have h3 : b.lamps[i]!.burns 0 b.days[0]! = 0 := by
      unfold Lmp.burns
      exact if_pos ha
    have h2' : b.phi fl (b.fN i 0) (b.nN 0) ≤ b.lamps[i]!.burns 0 b.days[0]! := h2
    omega
end
theorem best_inv {b : Bk} (o : b.Ok) (h : (mostF b.web 0 1).2 = b.need) : FlowInv b.web 0 1 b.best b.need := by
  have hn : 0 < b.web.n := by
    show 0 < b.sN b.days.length
    unfold Bk.sN
    omega
  have := augN_inv (web_ok o) (first := 0) (last := 1) hn (by omega) (web_nn o) (capL b.web.ties 1).toNat
  rw [← h]
  exact this
theorem flOk {b : Bk} (o : b.Ok) : b.FlOk := fun h => flG_of o (best_inv o h)
/-! ## plain laws: a day without a fault -/
structure Kept (b : Bk) (x : Part) : Prop where
  boat : 0 ≤ x.taken ∧ x.taken ≤ b.days[0]!.boat
  most : 0 ≤ x.bought ∧ x.bought ≤ b.days[0]!.most
  pnn : ∀ p ∈ x.poured, 0 ≤ p
  psum : x.poured.sum ≤ b.oil + x.taken + x.bought
  tank : ∀ i, i < b.lamps.length → b.lamps[i]!.oil + x.poured[i]! ≤ b.lamps[i]!.tank
  span : spanFault b.days[0]!.length b.lamps.length x.spans = false
  away : ∀ s ∈ x.spans, (0 : Int) ∉ b.lamps[s.lamp.toNat]!.away
  oil : ∀ i, i < b.lamps.length → (ticksF b.lamps.length x.spans)[i]! ≤ b.lamps[i]!.oil + x.poured[i]!
  dark : darkF b.days[0]!.length b.days[0]!.wanted x.spans = false
theorem bang_of {α : Type} [Inhabited α] {xs : List α} {i : Nat} {x : α} (h : xs[i]? = some x) : xs[i]! = x := by simp [h]
theorem rmap_at {n : Nat} (f : Nat → Int) {i : Nat} (hi : i < n) : ((List.range n).map f)[i]! = f i := by simp [hi]
theorem map_at {α β : Type} [Inhabited α] [Inhabited β] (f : α → β) {xs : List α} {i : Nat} (hi : i < xs.length) : (xs.map f)[i]! = f xs[i]! := by simp [hi]
theorem ite_str {p : Prop} [Decidable p] {a r : Str} (ha : ¬ a = "") : ((if p then a else r) = "") ↔ (¬ p ∧ r = "") := by
  by_cases h : p
  · rw [if_pos h]; exact ⟨fun z => absurd z ha, fun z => absurd h z.1⟩
  · rw [if_neg h]; exact ⟨fun z => ⟨h, z⟩, fun z => z.2⟩
theorem buy_iff {d : Dy} {store : Int} {x : Part} (hp : x.poured ≠ []) : buyF d store x = "" ↔ (0 ≤ x.taken ∧ x.taken ≤ d.boat) ∧ (0 ≤ x.bought ∧ x.bought ≤ d.most) ∧ (∀ p ∈ x.poured, 0 ≤ p) ∧ x.poured.sum ≤ store + x.taken + x.bought := by
  unfold buyF
  rw [ite_str (by decide), ite_str (by decide), ite_str (by decide)]
  have hm := lmin_is hp
  constructor
  · rintro ⟨h1, h2, h3, _⟩
    refine ⟨by omega, by omega, fun p hpm => ?_, by omega⟩
    have := hm.2 p hpm
    omega
  · rintro ⟨h1, h2, h3, h4⟩
    have := h3 _ hm.1
    exact ⟨by omega, by omega, by omega, rfl⟩
theorem any_iff {n : Nat} {f : Nat → Bool} : (¬ (List.range n).any f = true) ↔ ∀ i, i < n → f i = false := by
  constructor
  · intro h i hi
    have : (List.range n).any f = false := by simpa using h
    exact any_false_at this hi
  · intro h
    rw [any_range_false h]
    exact Bool.false_ne_true
theorem kept_iff {b : Bk} (o : b.Ok) {x : Part} (hx : x.poured.length = b.lamps.length) : oneF (b.cut 1) x = "" ↔ Kept b x := by
  have hl1 := o.l1
  have hd1 := o.d1
  have hne : x.poured ≠ [] := fun z => by rw [z] at hx; simp at hx; omega
  have hday : (b.cut 1).days[0]! = b.days[0]! := by
    show (b.days.take 1)[0]! = _
    cases hb : b.days with
    | nil => rw [hb] at hd1; simp at hd1
    | cons d ds => rfl
  have hlen : (b.cut 1).lamps.length = b.lamps.length := List.length_map ..
  have hlm : ∀ i, i < b.lamps.length → (b.cut 1).lamps[i]! = cutL 1 b.lamps[i]! := fun i hi => map_at (cutL 1) hi
  have e1 : (b.cut 1).lamps.map (·.oil) = b.lamps.map (·.oil) := by
    show (b.lamps.map (cutL 1)).map (·.oil) = _
    rw [List.map_map]; rfl
  have pl : (pouredIn (b.lamps.map (·.oil)) x).length = b.lamps.length := by rw [poured_len, List.length_map]
  have pa : ∀ i, i < b.lamps.length → (pouredIn (b.lamps.map (·.oil)) x)[i]! = b.lamps[i]!.oil + x.poured[i]! := fun i hi => by
    unfold pouredIn
    rw [rmap_at _ (by rw [List.length_map]; exact hi), map_at (fun l : Lmp => l.oil) hi]
  have hat : ∀ i, i < b.lamps.length → ((0 : Int) ∈ (b.cut 1).lamps[i]!.away ↔ (0 : Int) ∈ b.lamps[i]!.away) := fun i hi => by
    rw [hlm i hi]
    unfold cutL
    simp
  unfold oneF dayF
  rw [e1]
  have e2 : (b.cut 1).oil = b.oil := rfl
  rw [e2, hday]
  constructor
  · intro h
    split at h
    · rename_i hb
      obtain ⟨b1, b2, b3, b4⟩ := (buy_iff hne).mp hb
      unfold burnF at h
      rw [ite_str (by decide), ite_str (by decide), ite_str (by decide), ite_str (by decide), ite_str (by decide), pl, hday, any_iff, any_iff, any_iff] at h
      obtain ⟨h1, h2, h3, h4, h5, _⟩ := h
      have h2' : spanFault b.days[0]!.length b.lamps.length x.spans = false := by simpa using h2
      refine ⟨b1, b2, b3, b4, fun i hi => ?_, h2', fun s hs ha => ?_, fun i hi => ?_, by simpa using h5⟩
      · have := of_decide_eq_false (h1 i hi)
        rw [hlm i hi, pa i hi] at this
        have : ¬ b.lamps[i]!.tank < b.lamps[i]!.oil + x.poured[i]! := this
        omega
      · obtain ⟨i, hi⟩ := List.getElem?_of_mem hs
        have hil := (List.getElem?_eq_some_iff.mp hi).1
        have ei : x.spans[i]! = s := by simp [hi]
        have := of_decide_eq_false (h3 i hil)
        rw [ei] at this
        have hin := spanFault_in h2' s hs
        exact this ((hat _ (by omega)).mpr ha)
      · have := of_decide_eq_false (h4 i hi)
        rw [pa i hi] at this
        omega
    · exact absurd h (by assumption)
  · intro k
    rw [if_pos ((buy_iff hne).mpr ⟨k.boat, k.most, k.pnn, k.psum⟩)]
    unfold burnF
    rw [ite_str (by decide), ite_str (by decide), ite_str (by decide), ite_str (by decide), ite_str (by decide), pl, hday, any_iff, any_iff, any_iff]
    refine ⟨fun i hi => decide_eq_false ?_, by rw [k.span]; exact Bool.false_ne_true, fun i hi => decide_eq_false ?_, fun i hi => decide_eq_false ?_, by rw [k.dark]; exact Bool.false_ne_true, rfl⟩
    · rw [hlm i hi, pa i hi]
      have := k.tank i hi
      show ¬ b.lamps[i]!.tank < b.lamps[i]!.oil + x.poured[i]!
      omega
    · have hs := List.mem_of_getElem? (get_bang hi)
      have hin := spanFault_in k.span _ hs
      intro z
      exact k.away _ hs ((hat _ (by omega)).mp z)
    · rw [pa i hi]
      have := k.oil i hi
      omega
/-! ### the first day of the rota that is told -/
theorem rota_kept {b : Bk} (o : b.Ok) (h : (mostF b.web 0 1).2 = b.need) : b.rota[0]!.poured.length = b.lamps.length ∧ b.rota[0]!.spans.length ≤ 20 ∧ Kept b b.rota[0]! := by
  have g := flOk o h
  have z := day0_of o (best_inv o h)
  have hd1 := o.d1
  have hl3 := o.l3
  have e : b.rota[0]! = dayBy b (b.seaF b.best) (b.pourF b.best) (b.burnF b.best) 0 (b.lamps.map (·.oil)) := by
    unfold Bk.rota rotaBy
    have : (0 : Nat) < (List.range b.days.length).length := by rw [List.length_range]; omega
    rw [map_at _ this]
    have : (List.range b.days.length)[0]! = 0 := by simp [show 0 < b.days.length by omega]
    rw [this]
    rfl
  rw [e]
  have hday := o.day _ (List.mem_of_getElem? (get_bang (show 0 < b.days.length by omega)))
  have hta : ∀ i, i < b.lamps.length → (b.lamps.map (·.oil))[i]! = b.lamps[i]!.oil := fun i hi => map_at (fun l : Lmp => l.oil) hi
  have hlm : ∀ i, i < b.lamps.length → 0 ≤ b.lamps[i]!.oil ∧ b.lamps[i]!.oil ≤ b.lamps[i]!.tank := fun i hi => ⟨(o.lamp _ (List.mem_of_getElem? (get_bang hi))).1, (o.lamp _ (List.mem_of_getElem? (get_bang hi))).2.1⟩
  generalize hts : ((List.range b.lamps.length).map fun i => b.burnF b.best i 0) = ts
  have tl : ts.length = b.lamps.length := by rw [← hts, List.length_map, List.length_range]
  have ta : ∀ i, i < b.lamps.length → ts[i]! = b.burnF b.best i 0 := fun i hi => by rw [← hts, rmap_at _ hi]
  have tin : ∀ t ∈ ts, 0 ≤ t ∧ t ≤ b.days[0]!.length := fun t ht => by
    rw [← hts] at ht
    obtain ⟨i, hi, rfl⟩ := List.mem_map.mp ht
    exact g.nn i 0 (List.mem_range.mp hi) (by omega)
  have tsum : ts.sum = b.days[0]!.wanted * b.days[0]!.length := by rw [← hts]; exact g.all 0 (by omega)
  obtain ⟨l1, l2, l3, l4⟩ := laid_ok (show 0 < b.days[0]!.length by omega) tin tsum
  have es : (dayBy b (b.seaF b.best) (b.pourF b.best) (b.burnF b.best) 0 (b.lamps.map (·.oil))).spans = laidF b.days[0]!.length ts := by rw [← hts]; rfl
  have ep : (dayBy b (b.seaF b.best) (b.pourF b.best) (b.burnF b.best) 0 (b.lamps.map (·.oil))).poured = (List.range b.lamps.length).map fun i => min (b.pourF b.best i 0) (b.lamps[i]!.tank - (b.lamps.map (·.oil))[i]!) := rfl
  have pat : ∀ i, i < b.lamps.length → (dayBy b (b.seaF b.best) (b.pourF b.best) (b.burnF b.best) 0 (b.lamps.map (·.oil))).poured[i]! = min (b.pourF b.best i 0) (b.lamps[i]!.tank - b.lamps[i]!.oil) := fun i hi => by rw [ep, rmap_at _ hi, hta i hi]
  rw [tl] at l1 l3 l4
  have sea := z.sea
  have hca : comeSea b (b.seaF b.best) 0 = b.seaF b.best 0 - b.oil := if_pos rfl
  refine ⟨by rw [ep, List.length_map, List.length_range], ?_, ?_⟩
  · rw [es]
    have := laidTo_len b.days[0]!.length ts ts.length
    unfold laidF
    omega
  · have pn : ∀ p ∈ (dayBy b (b.seaF b.best) (b.pourF b.best) (b.burnF b.best) 0 (b.lamps.map (·.oil))).poured, 0 ≤ p := fun p hp => by
      rw [ep] at hp
      obtain ⟨i, hi, rfl⟩ := List.mem_map.mp hp
      have hi' := List.mem_range.mp hi
      rw [hta i hi']
      have h1 := z.pnn i hi'
      have h2 := hlm i hi'
      omega
    refine ⟨?_, ?_, pn, ?_, fun i hi => ?_, by rw [es]; exact l1, fun s hs ha => ?_, fun i hi => ?_, ?_⟩
    · show 0 ≤ min b.days[0]!.boat (max (0 : Int) (comeSea b (b.seaF b.best) 0)) ∧ _ ≤ b.days[0]!.boat
      show 0 ≤ min b.days[0]!.boat (max (0 : Int) (comeSea b (b.seaF b.best) 0)) ∧ min b.days[0]!.boat (max (0 : Int) (comeSea b (b.seaF b.best) 0)) ≤ b.days[0]!.boat
      omega
    · show 0 ≤ max (0 : Int) (comeSea b (b.seaF b.best) 0 - min b.days[0]!.boat (max (0 : Int) (comeSea b (b.seaF b.best) 0))) ∧ max (0 : Int) (comeSea b (b.seaF b.best) 0 - min b.days[0]!.boat (max (0 : Int) (comeSea b (b.seaF b.best) 0))) ≤ b.days[0]!.most
      rw [hca]
      omega
    · have h1 : ((List.range b.lamps.length).map fun i => min (b.pourF b.best i 0) (b.lamps[i]!.tank - (b.lamps.map (·.oil))[i]!)).sum ≤ isum (List.range b.lamps.length) fun i => b.pourF b.best i 0 := isum_le (f := fun i => min (b.pourF b.best i 0) (b.lamps[i]!.tank - (b.lamps.map (·.oil))[i]!)) fun i hi => by show min _ _ ≤ _; omega
      rw [ep]
      have h2 := z.psum
      show _ ≤ b.oil + min b.days[0]!.boat (max (0 : Int) (comeSea b (b.seaF b.best) 0)) + max (0 : Int) (comeSea b (b.seaF b.best) 0 - min b.days[0]!.boat (max (0 : Int) (comeSea b (b.seaF b.best) 0)))
      rw [hca]
      omega
    · rw [pat i hi]
      have h2 := hlm i hi
      omega
    · rw [es] at hs
      have h1 := l4 s hs
      have hi : s.lamp.toNat < b.lamps.length := by omega
      rw [ta _ hi] at h1
      have := z.away _ hi ha
      omega
    · rw [es, pat i hi, ticksF_at (fun s hs => ⟨(l4 s hs).1, (l4 s hs).2.1⟩) hi, l3 i hi, ta i hi]
      have h1 := z.tank i hi
      have h2 := z.oil i hi
      omega
    · rw [es]
      exact not_dark (fun s hs => ⟨(l4 s hs).2.2.1, (l4 s hs).2.2.2.1⟩) l2 (by omega)
/-! ### lamps that burn all night -/
structure Chs (b : Bk) (ch : List Int) : Prop where
  rise : ch.Pairwise (· < ·)
  mem : ∀ c ∈ ch, ∃ k : Nat, c = k ∧ k < b.lamps.length
theorem whole_span {b : Bk} {n : Int} (hn : 0 < n) {ch : List Int} (c : Chs b ch) : spanFault n b.lamps.length (wholeS n ch) = false := spanFault_of (fun s hs => by
  obtain ⟨x, hx, rfl⟩ := List.mem_map.mp hs
  obtain ⟨k, rfl, hk⟩ := c.mem x hx
  exact ⟨by show (0 : Int) ≤ k; omega, by show (k : Int) < _; omega, Int.le_refl _, hn, Int.le_refl _⟩) (List.pairwise_map.mpr (c.rise.imp fun h => .inl h))
theorem whole_cnt {n : Int} {k : Int} (hk : 0 ≤ k ∧ k < n) : ∀ ch : List Int, cnt (wholeS n ch) k = ch.length
  | [] => rfl
  | c :: ch => by
    show isum (⟨c, 0, n⟩ :: wholeS n ch) _ = _
    rw [isum_cons]
    have h : (isum (wholeS n ch) fun s => ind (s.lo ≤ k ∧ k < s.hi)) = ch.length := whole_cnt hk ch
    rw [h]
    show ind (0 ≤ k ∧ k < n) + _ = ((ch.length + 1 : Nat) : Int)
    rw [ind_t hk]
    omega
theorem whole_burnt (n : Int) (i : Nat) : ∀ ch : List Int, ch.Nodup → burnt (wholeS n ch) i = if (i : Int) ∈ ch then n else 0
  | [], _ => rfl
  | c :: ch, h => by
    obtain ⟨h1, h2⟩ := List.nodup_cons.mp h
    show isum (⟨c, 0, n⟩ :: wholeS n ch) _ = _
    rw [isum_cons]
    have ih : (isum (wholeS n ch) fun s => if s.lamp = (i : Int) then s.hi - s.lo else 0) = _ := whole_burnt n i ch h2
    rw [ih]
    show (if c = (i : Int) then n - 0 else 0) + _ = _
    by_cases e : c = (i : Int)
    · rw [if_pos e, if_neg (by rw [← e]; exact h1), if_pos (by rw [e]; exact List.mem_cons_self)]; omega
    · rw [if_neg e]
      by_cases g : (i : Int) ∈ ch
      · rw [if_pos g, if_pos (List.mem_cons_of_mem _ g)]; omega
      · rw [if_neg g, if_neg (fun z => by
          rcases List.mem_cons.mp z with z | z
          · exact e z.symm
          · exact g z)]
        rfl
theorem pour_at {b : Bk} (n : Int) {ch : List Int} (hm : ∀ c ∈ ch, ∃ k : Nat, c = k ∧ k < b.lamps.length) : ∀ t, t ≤ ch.length → ∀ i, i < b.lamps.length → (pourTo b n ch t)[i]! = if (i : Int) ∈ ch.take t then max 0 (n - b.lamps[i]!.oil) else 0
  | 0, _, i, hi => by
    show (List.replicate b.lamps.length (0 : Int))[i]! = _
    simp [hi]
  | t + 1, ht, i, hi => by
    have hx := get_bang (show t < ch.length by omega)
    obtain ⟨k, hk, hk2⟩ := hm _ (List.mem_of_getElem? hx)
    have ih := pour_at n hm t (by omega) i hi
    have hl := pourTo_len b n ch t
    rw [take_snoc hx]
    show ((pourTo b n ch t).set ch[t]!.toNat (max 0 (n - b.lamps[ch[t]!.toNat]!.oil)))[i]! = _
    rw [hk, Int.toNat_natCast]
    by_cases e : k = i
    · subst e
      rw [set_eq! (by omega), if_pos (List.mem_append_right _ List.mem_cons_self)]
    · rw [set_ne! e, ih]
      by_cases g : (i : Int) ∈ ch.take t
      · rw [if_pos g, if_pos (List.mem_append_left _ g)]
      · rw [if_neg g, if_neg (fun z => by
          rcases List.mem_append.mp z with z | z
          · exact g z
          · have := List.mem_singleton.mp z
            omega)]
theorem pourF_at {b : Bk} (n : Int) {ch : List Int} (c : Chs b ch) {i : Nat} (hi : i < b.lamps.length) : (pourF b n ch)[i]! = if (i : Int) ∈ ch then max 0 (n - b.lamps[i]!.oil) else 0 := by
  have := pour_at n c.mem ch.length (Nat.le_refl _) i hi
  rw [List.take_length] at this
  exact this
theorem pourF_len (b : Bk) (n : Int) (ch : List Int) : (pourF b n ch).length = b.lamps.length := pourTo_len b n ch ch.length
theorem pick_nd {fr : List Nat} (nd : fr.Nodup) (turn : Int) {n : Nat} (hn : n ≤ fr.length) : (pickF fr turn n).Nodup := by
  unfold pickF
  refine List.pairwise_map.mpr (List.Pairwise.imp_of_mem (fun {i j} hi hj hij => ?_) List.pairwise_lt_range)
  intro e
  have hj' := List.mem_range.mp hj
  have hp : (0 : Int) < fr.length := by omega
  have a1 := Int.emod_nonneg ((i : Int) + turn) (show (fr.length : Int) ≠ 0 by omega)
  have a2 := Int.emod_lt_of_pos ((i : Int) + turn) hp
  have b1 := Int.emod_nonneg ((j : Int) + turn) (show (fr.length : Int) ≠ 0 by omega)
  have b2 := Int.emod_lt_of_pos ((j : Int) + turn) hp
  have e1 : fr[(((i : Int) + turn) % (fr.length : Int)).toNat]! = fr[(((j : Int) + turn) % (fr.length : Int)).toNat]! := by exact Int.ofNat_inj.mp e
  have g1 := get_bang (xs := fr) (j := (((i : Int) + turn) % (fr.length : Int)).toNat) (by omega)
  have g2 := get_bang (xs := fr) (j := (((j : Int) + turn) % (fr.length : Int)).toNat) (by omega)
  rw [← e1] at g2
  have e2 := nd_ix nd g1 g2
  have e3 : ((j : Int) + turn) % fr.length - ((i : Int) + turn) % fr.length = 0 := by omega
  have e4 : (((j : Int) + turn) - ((i : Int) + turn)) % fr.length = 0 := by
    rw [Int.sub_emod, e3, Int.zero_emod]
  rw [show ((j : Int) + turn) - ((i : Int) + turn) = (j : Int) - i by omega, Int.emod_eq_of_lt (by omega) (by omega)] at e4
  omega
theorem free_nd (b : Bk) : (freeL b).Nodup := List.nodup_range.filter _
theorem chosen_chs {b : Bk} {turn : Int} (o : b.Ok) (h : b.days[0]!.wanted ≤ ((freeL b).length : Int)) : Chs b (chosenF b turn) where
  rise := by
    have hs := sortI_ok (pickF (freeL b) turn b.days[0]!.wanted.toNat)
    exact rising hs.2 (hs.1.nodup_iff.mp (pick_nd (free_nd b) turn (by omega)))
  mem := fun c hc => by
    obtain ⟨k, e, hk⟩ := chosen_mem h hc
    exact ⟨k, e, (free_mem hk).1⟩
theorem free_is {b : Bk} {k : Nat} (h : k ∈ freeL b) : (0 : Int) ∉ b.lamps[k]!.away ∧ b.days[0]!.length ≤ b.lamps[k]!.tank := by
  have := (free_mem h).2
  unfold freeP at this
  simpa using this
theorem plain_kept {b : Bk} (o : b.Ok) {turn : Int} {x : Part} (h : plainF b turn = some x) : Kept b x := by
  obtain ⟨rfl, hw, hlk⟩ := plain_eq h
  have hd1 := o.d1
  have hday := o.day _ (List.mem_of_getElem? (get_bang (show 0 < b.days.length by omega)))
  have hlm : ∀ i, i < b.lamps.length → 0 ≤ b.lamps[i]!.oil ∧ b.lamps[i]!.oil ≤ b.lamps[i]!.tank := fun i hi => ⟨(o.lamp _ (List.mem_of_getElem? (get_bang hi))).1, (o.lamp _ (List.mem_of_getElem? (get_bang hi))).2.1⟩
  have c := chosen_chs (turn := turn) o hw
  have hfree : ∀ i : Nat, (i : Int) ∈ chosenF b turn → (0 : Int) ∉ b.lamps[i]!.away ∧ b.days[0]!.length ≤ b.lamps[i]!.tank := fun i hi => by
    obtain ⟨k, e, hk⟩ := chosen_mem hw hi
    obtain rfl : i = k := by omega
    exact free_is hk
  have hcl := chosen_len b turn
  have hnn : ∀ p ∈ (plainP b turn).poured, 0 ≤ p := fun p hp => by
    obtain ⟨i, hi⟩ := List.getElem?_of_mem hp
    have hil : i < b.lamps.length := by
      have := (List.getElem?_eq_some_iff.mp hi).1
      rw [show (plainP b turn).poured = pourF b b.days[0]!.length (chosenF b turn) from rfl, pourF_len] at this
      exact this
    have ei : (pourF b b.days[0]!.length (chosenF b turn))[i]! = p := by
      exact bang_of hi
    rw [← ei, pourF_at _ c hil]
    split <;> omega
  have hlack : lackF b (chosenF b turn) = max 0 ((plainP b turn).poured.sum - b.oil) := rfl
  generalize hL : lackF b (chosenF b turn) = lack at hlack hlk
  have htk : (plainP b turn).taken = takenF b turn lack := by rw [← hL]; rfl
  have hbt : (plainP b turn).bought = boughtF b turn lack := by rw [← hL]; rfl
  have ht : takenF b turn lack = b.days[0]!.boat ∨ takenF b turn lack = min b.days[0]!.boat lack := by unfold takenF; split <;> simp
  have hb : boughtF b turn lack = b.days[0]!.most ∨ boughtF b turn lack = max 0 (lack - takenF b turn lack) := by unfold boughtF; split <;> simp
  have h1 := hday.1
  have h2 := hday.2.1
  refine ⟨by rw [htk]; omega, by rw [hbt]; omega, hnn, by rw [htk, hbt]; omega, fun i hi => ?_, whole_span (by omega) c, fun s hs => ?_, fun i hi => ?_, ?_⟩
  · show b.lamps[i]!.oil + (pourF b b.days[0]!.length (chosenF b turn))[i]! ≤ b.lamps[i]!.tank
    rw [pourF_at _ c hi]
    have := hlm i hi
    split
    · rename_i hm
      have := (hfree i hm).2
      omega
    · omega
  · obtain ⟨y, hy, rfl⟩ := List.mem_map.mp hs
    obtain ⟨k, rfl, hk⟩ := c.mem y hy
    exact (hfree k hy).1
  · show (ticksF b.lamps.length (wholeS b.days[0]!.length (chosenF b turn)))[i]! ≤ b.lamps[i]!.oil + (pourF b b.days[0]!.length (chosenF b turn))[i]!
    rw [ticksF_at (fun s hs => by have := spanFault_in (whole_span (show 0 < b.days[0]!.length by omega) c) s hs; omega) hi, whole_burnt _ _ _ (c.rise.imp fun h => by omega), pourF_at _ c hi]
    have := hlm i hi
    split <;> omega
  · refine not_dark (fun s hs => ?_) (fun k k1 k2 => ?_) (by omega)
    · have := spanFault_in (whole_span (show 0 < b.days[0]!.length by omega) c) s hs
      omega
    · show cnt (wholeS b.days[0]!.length (chosenF b turn)) k = _
      rw [whole_cnt ⟨k1, k2⟩, hcl]
      omega
theorem law_good (b : Bk) (turn : Int) (x : Part) (o : b.Ok) (ht : 0 ≤ turn) (h : dayByF b turn = some x) : x.poured.length = b.lamps.length ∧ x.spans.length ≤ 20 ∧ oneF (b.cut 1) x = "" := by
  have hx : x.poured.length = b.lamps.length ∧ x.spans.length ≤ 20 ∧ Kept b x := by
    unfold dayByF at h
    split at h
    · cases h
    · split at h
      · have hp := plain_spans o h
        exact ⟨hp.1, by omega, plain_kept o h⟩
      · split at h
        · rename_i hm
          cases h
          exact rota_kept o hm
        · cases h
  exact ⟨hx.1, hx.2.1, (kept_iff o hx.1).mpr hx.2.2⟩
/-! ### behind the night -/
theorem law_behind (b b' : Bk) (x : Part) (o : b.Ok) (hx : x.poured.length = b.lamps.length) (h : oneF (b.cut 1) x = "") (hb : b.behind (goneStore (b.cut 1) b.oil x) (goneTanks (b.lamps.map (·.oil)) x) = some b') : b'.Ok := by
  have k := (kept_iff o hx).mp h
  unfold Bk.behind at hb
  split at hb
  · cases hb
  · rename_i hd
    cases hb
    have hd1 := o.d1
    have hd4 := o.d4
    have ll : (b.nextLs (goneTanks (b.lamps.map (·.oil)) x) b.lamps.length).length = b.lamps.length := by unfold Bk.nextLs; rw [List.length_map, List.length_range]
    refine ⟨by show 1 ≤ (b.nextLs _ _).length; rw [ll]; exact o.l1, by show (b.nextLs _ _).length ≤ 3; rw [ll]; exact o.l3, by show 1 ≤ (b.days.drop 1).length; rw [List.length_drop]; omega, by show (b.days.drop 1).length ≤ 4; rw [List.length_drop]; omega, fun l hl => ?_, fun d hdm => ?_, o.st.1, ?_⟩
    · obtain ⟨i, hi, rfl⟩ := List.mem_map.mp hl
      have hi' := List.mem_range.mp hi
      have hl0 := o.lamp _ (List.mem_of_getElem? (get_bang hi'))
      have e : (goneTanks (b.lamps.map (·.oil)) x)[i]! = b.lamps[i]!.oil + x.poured[i]! - (ticksF b.lamps.length x.spans)[i]! := by
        unfold goneTanks
        rw [rmap_at _ (by rw [List.length_map]; exact hi'), List.length_map]
        unfold pouredIn
        rw [rmap_at _ (by rw [List.length_map]; exact hi'), map_at (fun l : Lmp => l.oil) hi']
      have k1 := k.oil i hi'
      have k2 := k.tank i hi'
      have hin := spanFault_in k.span
      have k3 : 0 ≤ (ticksF b.lamps.length x.spans)[i]! := by
        rw [ticksF_at (fun s hs => ⟨(hin s hs).1, (hin s hs).2.1⟩) hi']
        exact isum_nn fun s hs => by
          have := hin s hs
          show 0 ≤ if s.lamp = (i : Int) then s.hi - s.lo else 0
          split <;> omega
      refine ⟨?_, ?_, ?_⟩
      · show 0 ≤ (goneTanks (b.lamps.map (·.oil)) x)[i]!
        rw [e]; omega
      · show (goneTanks (b.lamps.map (·.oil)) x)[i]! ≤ b.lamps[i]!.tank
        rw [e]; omega
      · show ((b.lamps[i]!.away.filter fun x => decide (0 < x)).map fun x => x - 1).length ≤ 4
        rw [List.length_map]
        exact Nat.le_trans (List.length_filter_le _ _) hl0.2.2
    · have := o.day d (List.mem_of_mem_drop hdm)
      show 0 ≤ d.boat ∧ 0 ≤ d.most ∧ 1 ≤ d.length ∧ 0 ≤ d.wanted ∧ d.wanted ≤ ((b.nextLs _ _).length : Int)
      rw [ll]
      exact this
    · show 0 ≤ goneStore (b.cut 1) b.oil x
      unfold goneStore
      have h1 := k.psum
      have h2 : (b.cut 1).store = b.store := rfl
      rw [h2]
      have := o.st.1
      omega
/-! ## plain laws: days with a fault -/
structure Bad (b : Bk) (x : Part) : Prop where
  len : x.poured.length = b.lamps.length
  few : x.spans.length ≤ 20
  no : ¬ Kept b x
theorem adj_bad {n : Int} {m : Nat} {pre post : List Spn} {s t : Spn} (h : spanFault n m (pre ++ s :: t :: post) = false) : leSpn t s = false ∧ ¬ (t.lamp = s.lamp ∧ t.lo < s.hi) := by
  unfold spanFault at h
  have := any_false_at h (i := pre.length + 1) (by simp)
  rw [Bool.or_eq_false_iff] at this
  have h2 : (leSpn (pre ++ s :: t :: post)[pre.length + 1]! (pre ++ s :: t :: post)[pre.length]! || (decide ((pre ++ s :: t :: post)[pre.length + 1]!.lamp = (pre ++ s :: t :: post)[pre.length]!.lamp) && decide ((pre ++ s :: t :: post)[pre.length + 1]!.lo < (pre ++ s :: t :: post)[pre.length]!.hi))) = false := this.2
  have e1 : (pre ++ s :: t :: post)[pre.length]! = s := bang_of (by rw [List.getElem?_append_right (Nat.le_refl _), Nat.sub_self]; rfl)
  have e2 : (pre ++ s :: t :: post)[pre.length + 1]! = t := bang_of (by rw [List.getElem?_append_right (by omega), show pre.length + 1 - pre.length = 1 by omega]; rfl)
  rw [e1, e2, Bool.or_eq_false_iff] at h2
  refine ⟨h2.1, fun z => ?_⟩
  have := h2.2
  rw [decide_eq_true z.1, decide_eq_true z.2] at this
  cases this
theorem zeros_len (b : Bk) : (zerosL b).length = b.lamps.length := List.length_replicate
theorem badB_bad {b : Bk} (o : b.Ok) {turn : Int} (ht : 0 ≤ turn) : ∀ x ∈ badL b turn, Bad b x := fun x hx => by
  have hd1 := o.d1
  have hl1 := o.l1
  have hday := o.day _ (List.mem_of_getElem? (get_bang (show 0 < b.days.length by omega)))
  have hz := zeros_len b
  unfold badL badB at hx
  simp only [List.mem_append, List.mem_cons, List.not_mem_nil, or_false] at hx
  rcases hx with (rfl | rfl | rfl | rfl | rfl | rfl | rfl | rfl | rfl | rfl) | hx
  · exact ⟨hz, Nat.zero_le _, fun k => by have : b.days[0]!.boat + 1 ≤ b.days[0]!.boat := k.boat.2; omega⟩
  · exact ⟨hz, Nat.zero_le _, fun k => by have : (0 : Int) ≤ -1 := k.boat.1; omega⟩
  · exact ⟨hz, Nat.zero_le _, fun k => by have : b.days[0]!.most + 1 ≤ b.days[0]!.most := k.most.2; omega⟩
  · exact ⟨hz, Nat.zero_le _, fun k => by have : (0 : Int) ≤ -1 := k.most.1; omega⟩
  · have p1 := Int.emod_nonneg (turn / 10) (show (b.lamps.length : Int) ≠ 0 by omega)
    have p2 := Int.emod_lt_of_pos (turn / 10) (show (0 : Int) < (b.lamps.length : Int) by omega)
    have hmem : muchB b ∈ pouredB b turn := by
      unfold pouredB
      generalize hj : (turn / 10 % (b.lamps.length : Int)).toNat = j
      have hjl : j < b.lamps.length := by omega
      refine List.mem_of_getElem? (i := j) ?_
      rw [List.getElem?_take_of_lt hjl, List.append_assoc, List.getElem?_append_right (by rw [List.length_replicate]; exact Nat.le_refl _), List.length_replicate, Nat.sub_self]
      rfl
    refine ⟨?_, Nat.zero_le _, fun k => ?_⟩
    · show (pouredB b turn).length = _
      unfold pouredB
      rw [List.length_take, List.length_append, List.length_append, hz]
      omega
    · have h1 := isum_mem_le (f := fun p : Int => p) (fun p hp => k.pnn p hp) _ hmem
      have h2 : (pouredB b turn).sum ≤ b.oil + b.days[0]!.boat + b.days[0]!.most := k.psum
      have h3 : isum (pouredB b turn) (fun p : Int => p) = (pouredB b turn).sum := by unfold isum; rw [List.map_id']
      have h4 : muchB b = b.days[0]!.boat + b.days[0]!.most + b.oil + 1 := rfl
      have h1' : muchB b ≤ isum (pouredB b turn) (fun p : Int => p) := h1
      omega
  · refine ⟨hz, by show 2 ≤ 20; decide, fun k => ?_⟩
    have h1 := spanFault_in k.span ⟨b.lamps.length, 0, 1⟩ (List.mem_cons_of_mem _ List.mem_cons_self)
    have h2 : (b.lamps.length : Int) < b.lamps.length := h1.2.1
    omega
  · refine ⟨hz, by show 1 ≤ 20; decide, fun k => ?_⟩
    have h1 := spanFault_in k.span ⟨0, 0, b.days[0]!.length + 1⟩ List.mem_cons_self
    have h2 : b.days[0]!.length + 1 ≤ b.days[0]!.length := h1.2.2.2.2
    omega
  · refine ⟨hz, by show 1 ≤ 20; decide, fun k => ?_⟩
    have h1 := spanFault_in k.span ⟨0, 1, 1⟩ List.mem_cons_self
    have h2 : (1 : Int) < 1 := h1.2.2.2.1
    omega
  · refine ⟨?_, Nat.zero_le _, fun k => ?_⟩
    · show (-1 :: (zerosL b).drop 1).length = _
      rw [List.length_cons, List.length_drop, hz]
      omega
    · have : (0 : Int) ≤ -1 := k.pnn (-1) List.mem_cons_self
      omega
  · refine ⟨hz, by show 1 ≤ 20; decide, fun k => ?_⟩
    have h1 := spanFault_in k.span ⟨-1, 0, 1⟩ List.mem_cons_self
    have h2 : (0 : Int) ≤ -1 := h1.1
    omega
  · split at hx
    · rename_i hw
      rw [List.mem_singleton.mp hx]
      refine ⟨hz, Nat.zero_le _, fun k => ?_⟩
      have h1 := (dark_iff (n := b.days[0]!.length) (w := b.days[0]!.wanted) (sp := []) (fun s hs => nomatch hs)).mp k.dark 0 (.inl rfl) (by omega)
      have h2 : (0 : Int) = b.days[0]!.wanted := h1
      omega
    · cases hx
theorem badE_bad {b : Bk} (o : b.Ok) {turn : Int} (ht : 0 ≤ turn) : Bad b (badE b turn) := by
  have h10 := badL_len b turn
  have p1 := Int.emod_nonneg turn (show ((badL b turn).length : Int) ≠ 0 by omega)
  have p2 := Int.emod_lt_of_pos turn (show (0 : Int) < ((badL b turn).length : Int) by omega)
  exact badB_bad o ht _ (List.mem_of_getElem? (get_bang (by omega)))
theorem away_bad {b : Bk} (o : b.Ok) {turn : Int} (ht : 0 ≤ turn) {x : Part} (h : awayF b turn = some x) : Bad b x := by
  unfold awayF at h
  split at h
  · cases h
  · rename_i hc
    cases h
    have hout : outL b ≠ [] := fun z => hc (.inr (.inl z))
    have hol : 0 < (outL b).length := List.length_pos_iff.mpr hout
    have p1 := Int.emod_nonneg turn (show ((outL b).length : Int) ≠ 0 by omega)
    have p2 := Int.emod_lt_of_pos turn (show (0 : Int) < ((outL b).length : Int) by omega)
    have hk : outK b turn ∈ outL b := List.mem_of_getElem? (get_bang (by omega))
    have hd1 := o.d1
    have hl3 := o.l3
    have hday := o.day _ (List.mem_of_getElem? (get_bang (show 0 < b.days.length by omega)))
    have hs := sortI_ok ((outK b turn :: (freeL b ++ (outL b).filter fun (k : Nat) => !decide ((k : Int) = (outK b turn : Int))).take (b.days[0]!.wanted.toNat - 1)).map fun (k : Nat) => (k : Int))
    have hm : (outK b turn : Int) ∈ awayC b turn := hs.1.mem_iff.mp (by rw [List.map_cons]; exact List.mem_cons_self)
    have hl : (awayC b turn).length ≤ 20 := by
      have := hs.1.length_eq
      rw [List.length_map, List.length_cons, List.length_take] at this
      unfold awayC
      omega
    refine ⟨pourF_len _ _ _, by show ((awayC b turn).map _).length ≤ 20; rw [List.length_map]; exact hl, fun k => ?_⟩
    have hp := (out_mem hk).2
    unfold outP at hp
    simp only [Bool.and_eq_true, decide_eq_true_iff] at hp
    exact k.away ⟨outK b turn, 0, b.days[0]!.length⟩ (List.mem_map.mpr ⟨_, hm, rfl⟩) (by show (0 : Int) ∈ b.lamps[(outK b turn : Int).toNat]!.away; rw [Int.toNat_natCast]; exact hp.1)
/-- the spans put in disorder -/
theorem off_bad {b : Bk} (o : b.Ok) {ch : List Int} (c : Chs b ch) (hcl : (ch.length : Int) = b.days[0]!.wanted) {pre : List Int} {k : Int} (e : ch = pre ++ [k]) (turn : Int) :
    (spanFault b.days[0]!.length b.lamps.length (offF (wholeS b.days[0]!.length pre) ⟨k, 0, b.days[0]!.length⟩ turn) = false → darkF b.days[0]!.length b.days[0]!.wanted (offF (wholeS b.days[0]!.length pre) ⟨k, 0, b.days[0]!.length⟩ turn) = false → False) ∧ (offF (wholeS b.days[0]!.length pre) ⟨k, 0, b.days[0]!.length⟩ turn).length ≤ pre.length + 2 := by
  have hd1 := o.d1
  have hday := o.day _ (List.mem_of_getElem? (get_bang (show 0 < b.days.length by omega)))
  have hL : 1 ≤ b.days[0]!.length := hday.2.2.1
  generalize b.days[0]!.length = L at hL ⊢
  generalize b.days[0]!.wanted = w at hcl ⊢
  have wl : (wholeS L pre).length = pre.length := List.length_map ..
  have hpl : (pre.length : Int) + 1 = w := by rw [← hcl, e, List.length_append, List.length_singleton]; omega
  unfold offF
  rw [wl]
  split
  · rename_i hc
    have hne : pre ≠ [] := fun z => by rw [z] at hc; simp at hc
    obtain ⟨pre', y, rfl⟩ : ∃ pre' y, pre = pre' ++ [y] := ⟨pre.dropLast, pre.getLast hne, (List.dropLast_concat_getLast hne).symm⟩
    have hyk : y < k := by
      have := c.rise
      rw [e, List.pairwise_append] at this
      exact this.2.2 y (List.mem_append_right _ List.mem_cons_self) k List.mem_cons_self
    have er : (wholeS L (pre' ++ [y]) ++ [(⟨k, 0, L⟩ : Spn)]).reverse = [] ++ (⟨k, 0, L⟩ : Spn) :: (⟨y, 0, L⟩ : Spn) :: (wholeS L pre').reverse := by
      unfold wholeS
      rw [List.map_append, List.reverse_append, List.reverse_append]
      rfl
    refine ⟨fun h _ => ?_, by rw [List.length_reverse, List.length_append, wl, List.length_singleton]; omega⟩
    rw [er] at h
    have h1 := (adj_bad h).1
    unfold leSpn le3 at h1
    simp only at h1
    rw [if_neg (by omega), decide_eq_true (by omega)] at h1
    cases h1
  · split
    · rename_i hc
      have hL2 : 1 < L := hc.2
      refine ⟨fun h _ => ?_, by rw [List.length_append, wl]; exact Nat.le_refl _⟩
      have h1 := (adj_bad h).1
      unfold leSpn le3 at h1
      simp only at h1
      rw [if_pos trivial, if_neg (by omega), decide_eq_true (by omega)] at h1
      cases h1
    · split
      · rename_i hc
        have hL2 : 1 < L := hc.2
        exact ⟨fun h _ => (adj_bad h).2 ⟨rfl, hL2⟩, by rw [List.length_append, wl]; exact Nat.le_refl _⟩
      · split
        · rename_i hc
          have hL2 : 1 < L := hc
          refine ⟨fun h hdk => ?_, by rw [List.length_append, wl, List.length_singleton]; omega⟩
          have hin := spanFault_in h
          have h1 := (dark_iff fun s hs => (hin s hs).2.2.2.1).mp hdk (L - 1) (.inr (.inr ⟨⟨k, 0, L - 1⟩, List.mem_append_right _ List.mem_cons_self, .inr rfl⟩)) (by omega)
          rw [cnt_app, whole_cnt ⟨by omega, by omega⟩] at h1
          have h2 : cnt [(⟨k, 0, L - 1⟩ : Spn)] (L - 1) = 0 := by
            unfold cnt
            rw [isum_one]
            exact ind_f (fun z => by have : L - 1 < L - 1 := z.2; omega)
          rw [h2] at h1
          omega
        · refine ⟨fun h _ => ?_, by rw [List.length_append, wl, List.length_singleton]; omega⟩
          have h1 := spanFault_in h ⟨k, 0, L + 1⟩ (List.mem_append_right _ List.mem_cons_self)
          have h2 : L + 1 ≤ L := h1.2.2.2.2
          omega
theorem spoil_bad {b : Bk} (o : b.Ok) {t : Int} (ht : 0 ≤ t) {turn : Int} (htu : 0 ≤ turn) {x0 x : Part} (h0 : plainF b t = some x0) (h : spoilX b turn x0 = some x) : Bad b x := by
  have hk := plain_kept o h0
  have hps := plain_spans o h0
  obtain ⟨rfl, hw, hlk⟩ := plain_eq h0
  have c := chosen_chs (turn := t) o hw
  have hcl := chosen_len b t
  have hd1 := o.d1
  have hl3 := o.l3
  have hday := o.day _ (List.mem_of_getElem? (get_bang (show 0 < b.days.length by omega)))
  have hsp : (plainP b t).spans = wholeS b.days[0]!.length (chosenF b t) := rfl
  have hpo : (plainP b t).poured = pourF b b.days[0]!.length (chosenF b t) := rfl
  unfold spoilX at h
  split at h
  · cases h
  · rename_i hne
    have hlen : 0 < (plainP b t).spans.length := List.length_pos_iff.mpr hne
    have p1 := Int.emod_nonneg (turn / 64) (show ((plainP b t).spans.length : Int) ≠ 0 by omega)
    have p2 := Int.emod_lt_of_pos (turn / 64) (show (0 : Int) < ((plainP b t).spans.length : Int) by omega)
    have hmem := List.mem_of_getElem? (get_bang (xs := (plainP b t).spans) (j := (turn / 64 % ((plainP b t).spans.length : Int)).toNat) (by omega))
    have hin := spanFault_in hk.span _ hmem
    have hlb : spoilL (plainP b t) turn < b.lamps.length := by unfold spoilL; omega
    have hlc : (spoilL (plainP b t) turn : Int) ∈ chosenF b t := by
      rw [hsp] at hmem
      obtain ⟨y, hy, e⟩ := List.mem_map.mp hmem
      have e2 : (plainP b t).spans[(turn / 64 % ((plainP b t).spans.length : Int)).toNat]!.lamp = y := by
        rw [hsp, ← e]
      unfold spoilL
      rw [e2]
      obtain ⟨k, rfl, _⟩ := c.mem y hy
      rw [Int.toNat_natCast]
      exact hy
    generalize spoilL (plainP b t) turn = l at h hlb hlc
    split at h
    · cases h
      refine ⟨by show (List.set _ _ _).length = _; rw [List.length_set]; exact hps.1, by have := hps.2.1; show (plainP b t).spans.length ≤ 20; omega, fun k => ?_⟩
      have h1 : b.lamps[l]!.oil + ((plainP b t).poured.set l (b.lamps[l]!.tank - b.lamps[l]!.oil + 1))[l]! ≤ b.lamps[l]!.tank := k.tank l hlb
      rw [set_eq! (by rw [hps.1]; exact hlb)] at h1
      omega
    · split at h
      · rename_i hc
        cases h
        refine ⟨by show (List.set _ _ _).length = _; rw [List.length_set]; exact hps.1, by have := hps.2.1; show (plainP b t).spans.length ≤ 20; omega, fun k => ?_⟩
        have h1 : (ticksF b.lamps.length (plainP b t).spans)[l]! ≤ b.lamps[l]!.oil + ((plainP b t).poured.set l ((plainP b t).poured[l]! - 1))[l]! := k.oil l hlb
        rw [set_eq! (by rw [hps.1]; exact hlb), ticksF_at (fun s hs => by have := spanFault_in hk.span s hs; omega) hlb, hsp, whole_burnt _ _ _ (c.rise.imp fun h => by omega), if_pos hlc] at h1
        have h2 := hc.2
        rw [hpo, pourF_at _ c hlb, if_pos hlc] at h1 h2
        omega
      · cases h
        have hcne : chosenF b t ≠ [] := fun z => hne (by rw [hsp, z]; rfl)
        have e := (List.dropLast_concat_getLast hcne).symm
        generalize (chosenF b t).dropLast = pre at e
        generalize (chosenF b t).getLast hcne = k at e
        have e1 : (plainP b t).spans.dropLast = wholeS b.days[0]!.length pre := by
          rw [hsp, e]
          unfold wholeS
          rw [List.map_append]
          exact List.dropLast_concat ..
        have e2 : (plainP b t).spans.getLast! = ⟨k, 0, b.days[0]!.length⟩ := by
          rw [hsp, e]
          unfold wholeS
          rw [List.map_append]
          simp
        have h1 := off_bad o c (by omega) e (turn / 4)
        refine ⟨hps.1, ?_, fun kk => ?_⟩
        · show (offF (plainP b t).spans.dropLast (plainP b t).spans.getLast! (turn / 4)).length ≤ 20
          rw [e1, e2]
          have h2 := h1.2
          have h3 : (chosenF b t).length = pre.length + 1 := by rw [e, List.length_append, List.length_singleton]
          omega
        · have k1 : spanFault b.days[0]!.length b.lamps.length (offF (plainP b t).spans.dropLast (plainP b t).spans.getLast! (turn / 4)) = false := kk.span
          have k2 : darkF b.days[0]!.length b.days[0]!.wanted (offF (plainP b t).spans.dropLast (plainP b t).spans.getLast! (turn / 4)) = false := kk.dark
          rw [e1, e2] at k1 k2
          exact h1.1 k1 k2
theorem badF_bad {b : Bk} (o : b.Ok) {turn : Int} (ht : 0 ≤ turn) : Bad b (badF b turn) := by
  unfold badF
  split
  · cases hs : spoilF b (turn / 2) with
    | none => exact badE_bad o (by omega)
    | some x =>
      show Bad b x
      unfold spoilF at hs
      split at hs
      · exact away_bad o (by omega) hs
      · cases hp : plainF b (turn / 2 / 8) with
        | none => rw [hp] at hs; cases hs
        | some x0 =>
          rw [hp] at hs
          exact spoil_bad o (show 0 ≤ turn / 2 / 8 by omega) (show 0 ≤ turn / 2 by omega) hp hs
  · exact badE_bad o (by omega)
theorem laws : Laws where
  fl := fun b o => flOk o
  good := law_good
  bad := fun b turn o ht => by
    have h := badF_bad o ht
    exact ⟨h.len, h.few, fun z => h.no ((kept_iff o h.len).mp z)⟩
  behind := law_behind
/-! ## Watch.__init__ -/
structure IsInit (K : PySem.W.Frag) (st : Stmt) : Prop where
  ex : ∃ f fd, FunD K "__init__" "Watch.__init__" (defArgs st) (defBody st) (defScope st) [] [] f fd ∧ Mk K (wC K) f
theorem c_init {P : Program} {wd : World} {K : PySem.W.Frag} {mg : Str → Option Value} {base : Heap} (FD : IsInit K wInit) (cw : Cls K (wC K)) (nA : NoAttr K (wC K) "states") : ICalls P wd K mg base 1 := by
  obtain ⟨f, fd, FD, hm⟩ := FD.ex
  have nd : (["self", "book"] : List Str).Nodup := by decide +kernel
  refine ⟨f, fd, ["self", "book"], hm, FD.bindsN (fun _ _ _ _ _ _ us h => by match us, h with | [a0, a1], _ => rfl), FD.ok (N := ["self", "book"]) ⟨rfl, rfl, rfl, by decide +kernel, rfl, by decide +kernel, by decide +kernel⟩ (fun vs H Q E h => ?_) (fun cdv A outer s H vs Q E hr h => ⟨_, PSs.nox (pss_one (ps_fld (pe_var (i := 0) rfl (.inl rfl)) (pe_lst (pa_cons (pe_tup (pa_cons pe_int (pa_cons (pe_var (i := 1) rfl (.inl rfl)) pa_nil rfl) rfl)) pa_nil rfl)) rfl)), ?_⟩)⟩
  · obtain ⟨x, dx, vb, rfl, _⟩ := h
    rfl
  · obtain ⟨x, dx, vb, rfl, h1, h2⟩ := h
    refine ⟨vb, rfl, (by decide : 2 ≤ sizeLine), fun T hT => ⟨(by decide : 1 ≤ sizeLine), fun l hl => ⟨.ref x, rfl, x, wC K, dx, [], rfl, ?_, cw, nA, (by decide : 0 < 1000), ?_⟩⟩⟩
    · rw [upd_ne (fun z => by rw [← z, upd_ne (fun y => by rw [← y, h1] at hT; cases hT), h1] at hl; cases hl), upd_ne (fun y => by rw [← y, h1] at hT; cases hT)]
      exact h1
    · exact h2 T l hT hl
/-! ## the end -/
section
variable {K : PySem.W.Frag} {h : Heap} {mg : Str → Option Value}
abbrev SaysX (K : PySem.W.Frag) : Prop := He.SaysD faL fnL K ∧ excB K = true
theorem isDef {n : Str} {st : Stmt} (X : K.In h) (G : h.Ns mainGlobals mg) (c : He.SaysD faL fnL K) (i j : Nat) (hi : fnL[i]? = some (mkD n st)) (hj : faL[j]? = some (.glo n)) : IsDef K mg n st := by
  obtain ⟨fd, F⟩ := c.def_ i hi
  exact ⟨_, fd, F, He.glo_ok X G (c.fact j hj)⟩
theorem isMeth {n q : Str} {st : Stmt} (c : He.SaysD faL fnL K) (i j : Nat) (hi : fnL[i]? = some (mkM n q st)) (hj : faL[j]? = some (.meth "Watch" n)) : IsMeth K n q st := by
  obtain ⟨fd, F⟩ := c.def_ i hi
  exact ⟨_, fd, F, He.meth_ok (c.fact j hj)⟩
theorem isInit {st : Stmt} (c : He.SaysD faL fnL K) (i j : Nat) (hi : fnL[i]? = some (mkM "__init__" "Watch.__init__" st)) (hj : faL[j]? = some (.mkr "Watch")) : IsInit K st := by
  obtain ⟨fd, F⟩ := c.def_ i hi
  exact ⟨_, fd, F, He.mkr_ok (c.fact j hj)⟩
theorem exc_all (c : excB K = true) : ExcC K (He.ga K "NoDeed") ∧ (PySem.W.kitOne K (.ref (He.ga K "NoDeed")) (.ref (He.ga K "NoDeed")) = some true ∧ PySem.W.kitOne K (.ref (He.ga K "NoDeed")) (.type "ValueError") = some true ∧ PySem.W.kitOne K (.ref (He.ga K "NoDeed")) (.ref (He.ga K "BadBook")) = some false ∧
    PySem.W.kitOne K (.ref (He.ga K "NoDeed")) (.ref (He.ga K "BadRow")) = some false ∧ PySem.W.kitOne K (.ref (He.ga K "NoDeed")) (.ref (He.ga K "BadTicks")) = some false ∧ PySem.W.kitOne K (.ref (He.ga K "NoDeed")) (.ref (He.ga K "NoRest")) = some false) ∧ He.ga K "told_telling" = He.ga K "told" := by
  unfold excB at c
  dsimp only at c
  obtain ⟨c1, c⟩ := He.ba c
  obtain ⟨c2, c⟩ := He.ba c
  obtain ⟨c3, c⟩ := He.ba c
  obtain ⟨c4, c⟩ := He.ba c
  obtain ⟨c5, c⟩ := He.ba c
  obtain ⟨c6, c⟩ := He.ba c
  obtain ⟨c7, c⟩ := He.ba c
  obtain ⟨c8, c⟩ := He.ba c
  obtain ⟨c9, c⟩ := He.ba c
  obtain ⟨c10, c⟩ := He.ba c
  obtain ⟨c11, c⟩ := He.ba c
  obtain ⟨c12, c⟩ := He.ba c
  obtain ⟨c13, c⟩ := He.ba c
  obtain ⟨c14, c15⟩ := He.ba c
  exact ⟨⟨He.eqO_ok c1, He.eqO_ok c2, of_decide_eq_true c3, c4, He.eqO_ok c5, He.eqO_ok c6, of_decide_eq_true c7, of_decide_eq_true c8⟩, ⟨of_decide_eq_true c9, of_decide_eq_true c10, of_decide_eq_true c11, of_decide_eq_true c12, of_decide_eq_true c13, of_decide_eq_true c14⟩, of_decide_eq_true c15⟩
theorem told_alias {P : Program} {wd : World} {base : Heap} {k : Nat} (X : K.In h) (G : h.Ns mainGlobals mg) (c : SaysX K) (C : Calls P wd K mg base k "told" (PF FTold)) : Calls P wd K mg base k "told_telling" (PF FTold) := by
  obtain ⟨f, fd, ps, hm, r⟩ := C
  have h1 := He.glo_ok X G (c.1.fact 27 (f := .glo "told") rfl)
  have h2 := He.glo_ok X G (c.1.fact 60 (f := .glo "told_telling") rfl)
  rw [(exc_all c.2).2.2, ← h1] at h2
  exact ⟨f, fd, ps, h2.trans hm, r⟩
theorem tops_of (X : K.In h) (G : h.Ns mainGlobals mg) (c : He.SaysD faL fnL K) : Tops K mg where
  len := He.free_ok X G (c.fact 68 (f := .free "len") rfl)
  range := He.free_ok X G (c.fact 69 (f := .free "range") rfl)
  min := He.free_ok X G (c.fact 70 (f := .free "min") rfl)
  max := He.free_ok X G (c.fact 71 (f := .free "max") rfl)
  sum := He.free_ok X G (c.fact 72 (f := .free "sum") rfl)
  sorted := He.free_ok X G (c.fact 73 (f := .free "sorted") rfl)
  tuple := He.free_ok X G (c.fact 74 (f := .free "tuple") rfl)
  list := He.free_ok X G (c.fact 75 (f := .free "list") rfl)
  zip := He.free_ok X G (c.fact 76 (f := .free "zip") rfl)
  enumerate := He.free_ok X G (c.fact 77 (f := .free "enumerate") rfl)
  isinstance := He.free_ok X G (c.fact 78 (f := .free "isinstance") rfl)
  valueError := He.free_ok X G (c.fact 79 (f := .free "ValueError") rfl)
  sea := He.int_ok X G (c.fact 80 (f := .int "SEA" 0) rfl)
  light := He.int_ok X G (c.fact 81 (f := .int "LIGHT" 1) rfl)
  mostOil := He.int_ok X G (c.fact 82 (f := .int "MOST_OIL" 1000000000000000000000000000000) rfl)
  noFault := He.str_ok X G (c.fact 83 (f := .str "NO_FAULT" "") rfl)
theorem xf_of (X : K.In h) (G : h.Ns mainGlobals mg) (c : He.SaysD faL fnL K) : XF K mg := by
  obtain ⟨h1, h2, h3, h4⟩ := He.exc_ok (c.fact 99 (f := .exc "NoDeed") rfl)
  exact ⟨⟨"ValueError", _, _, _, PySem.F.excBase_ValueError, h1⟩, He.glo_ok X G (c.fact 65 (f := .glo "NoDeed") rfl), h2, h3, h4⟩
theorem xl_of (X : K.In h) (G : h.Ns mainGlobals mg) (c : He.SaysD faL fnL K) : XL K mg := ⟨He.glo_ok X G (c.fact 62 (f := .glo "LampError") rfl), He.exm_ok (c.fact 100 (f := .exm "NoDeed" "LampError" true) rfl)⟩
theorem xk_of (X : K.In h) (G : h.Ns mainGlobals mg) (c : SaysX K) : XK2 K mg := by
  obtain ⟨e, ⟨k0, kv, k1, k2, k3, k4⟩, _⟩ := exc_all c.2
  exact ⟨e, He.glo_ok X G (c.1.fact 65 (f := .glo "NoDeed") rfl), He.glo_ok X G (c.1.fact 63 (f := .glo "BadBook") rfl), He.glo_ok X G (c.1.fact 67 (f := .glo "BadRow") rfl), He.glo_ok X G (c.1.fact 64 (f := .glo "BadTicks") rfl), He.glo_ok X G (c.1.fact 66 (f := .glo "NoRest") rfl), He.glo_ok X G (c.1.fact 61 (f := .glo "Watch") rfl), k0, kv, k1, k2, k3, k4⟩
theorem law_okay {P : Program} {wd : World} {base : Heap} (X : K.In h) (G : h.Ns mainGlobals mg) (c : SaysX K) {f : Addr} {fd : FuncData} (F : FunD K "law" "law" (defArgs sLaw) (defBody sLaw) (defScope sLaw) [] [] f fd) : FnOk P wd K mg base CX0 11 f fd ["script"] (pSp K (PF FLaw)) := by
  have T := tops_of X G c.1
  have xf := xf_of X G c.1
  have xl := xl_of X G c.1
  have xk := xk_of X G c
  have cw : Cls K (wC K) := He.cls_ok (c.1.fact 84 (f := .cls "Watch") rfl)
  have nA : NoAttr K (wC K) "states" := He.noat_ok (c.1.fact 85 (f := .noat "Watch" "states") rfl)
  have C_init := c_init (P := P) (wd := wd) (K := K) (mg := mg) (base := base) (isInit c.1 60 86 rfl rfl) cw nA
  have C__law_stir := c__law_stir (P := P) (wd := wd) (K := K) (mg := mg) (base := base) T (isDef X G c.1 42 42 rfl rfl)
  have C__law_cell := c__law_cell (P := P) (wd := wd) (K := K) (mg := mg) (base := base) T (isDef X G c.1 41 41 rfl rfl)
  have C__law_lamp := c__law_lamp (P := P) (wd := wd) (K := K) (mg := mg) (base := base) T (isDef X G c.1 43 43 rfl rfl) C__law_stir
  have C__law_day := c__law_day (P := P) (wd := wd) (K := K) (mg := mg) (base := base) T (isDef X G c.1 44 44 rfl rfl) C__law_stir
  have C__law_book := c__law_book (P := P) (wd := wd) (K := K) (mg := mg) (base := base) T (isDef X G c.1 45 45 rfl rfl) C__law_stir C__law_cell C__law_lamp C__law_day
  have C__law_plain_day := c__law_plain_day (P := P) (wd := wd) (K := K) (mg := mg) (base := base) T (isDef X G c.1 49 49 rfl rfl)
  have C__law_away_day := c__law_away_day (P := P) (wd := wd) (K := K) (mg := mg) (base := base) T (isDef X G c.1 52 52 rfl rfl)
  have C__law_spans_off := c__law_spans_off (P := P) (wd := wd) (K := K) (mg := mg) (base := base) T (isDef X G c.1 53 53 rfl rfl)
  have C__law_spoilt_day := c__law_spoilt_day (P := P) (wd := wd) (K := K) (mg := mg) (base := base) T (isDef X G c.1 54 54 rfl rfl) C__law_plain_day C__law_away_day C__law_spans_off
  have C__law_bad_day := c__law_bad_day (P := P) (wd := wd) (K := K) (mg := mg) (base := base) T (isDef X G c.1 55 55 rfl rfl) C__law_spoilt_day
  have C_open_rest := c_w_open_rest (P := P) (wd := wd) (K := K) (mg := mg) (base := base) T (isMeth c.1 64 91 rfl rfl) cw nA xf
  have C_cut_to := c_cut_to (P := P) (wd := wd) (K := K) (mg := mg) (base := base) T (isDef X G c.1 3 3 rfl rfl)
  have C_begun := c_begun (P := P) (wd := wd) (K := K) (mg := mg) (base := base) T (isDef X G c.1 33 33 rfl rfl)
  have C_buying_fault := c_buying_fault (P := P) (wd := wd) (K := K) (mg := mg) (base := base) T (isDef X G c.1 31 31 rfl rfl)
  have C_span_fault := c_span_fault (P := P) (wd := wd) (K := K) (mg := mg) (base := base) T (isDef X G c.1 28 28 rfl rfl)
  have C_ticks_by := c_ticks_by (P := P) (wd := wd) (K := K) (mg := mg) (base := base) T (isDef X G c.1 30 30 rfl rfl)
  have C_dark_fault := c_dark_fault (P := P) (wd := wd) (K := K) (mg := mg) (base := base) T (isDef X G c.1 29 29 rfl rfl)
  have C_burning_fault := c_burning_fault (P := P) (wd := wd) (K := K) (mg := mg) (base := base) T (isDef X G c.1 32 32 rfl rfl) C_span_fault C_ticks_by C_dark_fault
  have C_poured_in := c_poured_in (P := P) (wd := wd) (K := K) (mg := mg) (base := base) T (isDef X G c.1 34 34 rfl rfl)
  have C_day_fault := c_day_fault (P := P) (wd := wd) (K := K) (mg := mg) (base := base) T (isDef X G c.1 35 35 rfl rfl) C_buying_fault C_burning_fault C_poured_in
  have C_day_gone := c_day_gone (P := P) (wd := wd) (K := K) (mg := mg) (base := base) T (isDef X G c.1 36 36 rfl rfl) C_poured_in C_ticks_by
  have C_fault := c_fault (P := P) (wd := wd) (K := K) (mg := mg) (base := base) T (isDef X G c.1 37 37 rfl rfl) C_begun C_day_fault C_day_gone
  have C_evenings := c_evenings (P := P) (wd := wd) (K := K) (mg := mg) (base := base) T (isDef X G c.1 38 38 rfl rfl) C_begun C_day_gone
  have C_today := c_w_today (P := P) (wd := wd) (K := K) (mg := mg) (base := base) T (isMeth c.1 61 88 rfl rfl) cw nA xf
  have C_behind_night := c_behind_night (P := P) (wd := wd) (K := K) (mg := mg) (base := base) T (isDef X G c.1 39 39 rfl rfl)
  have C_night := c_w_night (P := P) (wd := wd) (K := K) (mg := mg) (base := base) T (isMeth c.1 66 93 rfl rfl) cw nA xf C_open_rest C_cut_to C_fault C_evenings C_today C_behind_night
  have C_left_out := c_left_out (P := P) (wd := wd) (K := K) (mg := mg) (base := base) T (isDef X G c.1 4 4 rfl rfl)
  have C_fails := c_w_fails (P := P) (wd := wd) (K := K) (mg := mg) (base := base) T (isMeth c.1 67 94 rfl rfl) cw nA xf C_open_rest C_today C_left_out
  have C_place_of := c_w_place_of (P := P) (wd := wd) (K := K) (mg := mg) (base := base) T (isMeth c.1 65 92 rfl rfl) cw nA xf C_today
  have C_with_day := c_with_day (P := P) (wd := wd) (K := K) (mg := mg) (base := base) T (isDef X G c.1 40 40 rfl rfl)
  have C_with_boat := c_with_boat (P := P) (wd := wd) (K := K) (mg := mg) (base := base) T (isDef X G c.1 5 5 rfl rfl)
  have C_boat := c_w_boat (P := P) (wd := wd) (K := K) (mg := mg) (base := base) T (isMeth c.1 68 95 rfl rfl) cw nA xf C_open_rest C_place_of C_today C_with_day C_with_boat
  have C_wants := c_w_wants (P := P) (wd := wd) (K := K) (mg := mg) (base := base) T (isMeth c.1 69 96 rfl rfl) cw nA xf C_open_rest C_place_of C_today C_with_day
  have C__law_try := c__law_try (P := P) (wd := wd) (K := K) (mg := mg) (base := base) T laws cw nA xl (isDef X G c.1 56 56 rfl rfl) C__law_stir C__law_bad_day C_night C_fails C_boat C_wants
  have C__law_try_behind := c__law_try_behind (P := P) (wd := wd) (K := K) (mg := mg) (base := base) T laws cw nA xl (isDef X G c.1 57 57 rfl rfl) C__law_stir C_night C_fails C_boat C_wants
  have C__law_refused := c__law_refused (P := P) (wd := wd) (K := K) (mg := mg) (base := base) T xk (isDef X G c.1 58 58 rfl rfl)
  have C_store_node := c_store_node (P := P) (wd := wd) (K := K) (mg := mg) (base := base) T (isDef X G c.1 9 9 rfl rfl)
  have C_tank_node := c_tank_node (P := P) (wd := wd) (K := K) (mg := mg) (base := base) T (isDef X G c.1 10 10 rfl rfl) C_store_node
  have C_night_node := c_night_node (P := P) (wd := wd) (K := K) (mg := mg) (base := base) T (isDef X G c.1 12 12 rfl rfl) C_store_node
  have C_night_need := c_night_need (P := P) (wd := wd) (K := K) (mg := mg) (base := base) T (isDef X G c.1 0 0 rfl rfl)
  have C_flame_node := c_flame_node (P := P) (wd := wd) (K := K) (mg := mg) (base := base) T (isDef X G c.1 11 11 rfl rfl) C_store_node
  have C_can_burn := c_can_burn (P := P) (wd := wd) (K := K) (mg := mg) (base := base) T (isDef X G c.1 2 2 rfl rfl)
  have C_need := c_need (P := P) (wd := wd) (K := K) (mg := mg) (base := base) T (isDef X G c.1 1 1 rfl rfl) C_night_need
  have C_lamp_ties := c_lamp_ties (P := P) (wd := wd) (K := K) (mg := mg) (base := base) T (isDef X G c.1 13 13 rfl rfl) C_tank_node C_flame_node C_can_burn C_store_node C_need C_night_node
  have C_day_ties := c_day_ties (P := P) (wd := wd) (K := K) (mg := mg) (base := base) T (isDef X G c.1 14 14 rfl rfl) C_store_node C_night_node C_night_need C_lamp_ties
  have C_web_of := c_web_of (P := P) (wd := wd) (K := K) (mg := mg) (base := base) T (isDef X G c.1 15 15 rfl rfl) C_store_node C_tank_node C_day_ties
  have C_ties_at := c_ties_at (P := P) (wd := wd) (K := K) (mg := mg) (base := base) T (isDef X G c.1 19 19 rfl rfl)
  have C_steps_from := c_steps_from (P := P) (wd := wd) (K := K) (mg := mg) (base := base) T (isDef X G c.1 20 20 rfl rfl)
  have C_come_to := c_come_to (P := P) (wd := wd) (K := K) (mg := mg) (base := base) T (isDef X G c.1 21 21 rfl rfl) C_steps_from
  have C_room_on := c_room_on (P := P) (wd := wd) (K := K) (mg := mg) (base := base) T (isDef X G c.1 23 23 rfl rfl)
  have C_sent := c_sent (P := P) (wd := wd) (K := K) (mg := mg) (base := base) T (isDef X G c.1 24 24 rfl rfl) C_room_on
  have C_way_back := c_way_back (P := P) (wd := wd) (K := K) (mg := mg) (base := base) T (isDef X G c.1 22 22 rfl rfl)
  have C_most_flow := c_most_flow (P := P) (wd := wd) (K := K) (mg := mg) (base := base) T (isDef X G c.1 25 25 rfl rfl) C_ties_at C_come_to C_sent C_way_back
  have C_flows_between := c_flows_between (P := P) (wd := wd) (K := K) (mg := mg) (base := base) T (isDef X G c.1 16 16 rfl rfl) C_web_of
  have C_checked_ticks := c_checked_ticks (P := P) (wd := wd) (K := K) (mg := mg) (base := base) T (isDef X G c.1 6 6 rfl rfl)
  have C_laid := c_laid (P := P) (wd := wd) (K := K) (mg := mg) (base := base) T (isDef X G c.1 7 7 rfl rfl) C_checked_ticks
  have C_day_by := c_day_by (P := P) (wd := wd) (K := K) (mg := mg) (base := base) T (isDef X G c.1 17 17 rfl rfl) C_store_node C_tank_node C_flame_node C_night_node C_laid
  have C_ticks_in := c_ticks_in (P := P) (wd := wd) (K := K) (mg := mg) (base := base) T (isDef X G c.1 8 8 rfl rfl)
  have C_rota_by := c_rota_by (P := P) (wd := wd) (K := K) (mg := mg) (base := base) T (isDef X G c.1 18 18 rfl rfl) C_flows_between C_day_by C_ticks_in
  have C_least_side := c_least_side (P := P) (wd := wd) (K := K) (mg := mg) (base := base) T (isDef X G c.1 26 26 rfl rfl) C_most_flow C_ties_at C_come_to
  have C_told := c_told (P := P) (wd := wd) (K := K) (mg := mg) (base := base) T (isDef X G c.1 27 27 rfl rfl) C_web_of C_most_flow C_need C_rota_by C_least_side
  have C__law_day_by := c__law_day_by (P := P) (wd := wd) (K := K) (mg := mg) (base := base) T (isDef X G c.1 50 50 rfl rfl) C__law_plain_day (told_alias X G c C_told)
  have C__law_after := c__law_after (P := P) (wd := wd) (K := K) (mg := mg) (base := base) T (isDef X G c.1 46 46 rfl rfl)
  have C__law_failed := c__law_failed (P := P) (wd := wd) (K := K) (mg := mg) (base := base) T (isDef X G c.1 47 47 rfl rfl)
  have C__law_day_put := c__law_day_put (P := P) (wd := wd) (K := K) (mg := mg) (base := base) T (isDef X G c.1 48 48 rfl rfl)
  have C__law_deed := c__law_deed (P := P) (wd := wd) (K := K) (mg := mg) (base := base) T laws cw nA (isDef X G c.1 51 51 rfl rfl) C__law_stir C__law_day_by C__law_after C__law_failed C__law_day_put C_night C_fails C_boat C_wants
  have C_rest := c_w_rest (P := P) (wd := wd) (K := K) (mg := mg) (base := base) T (isMeth c.1 62 89 rfl rfl) cw nA xf
  have C_left := c_w_left (P := P) (wd := wd) (K := K) (mg := mg) (base := base) T (isMeth c.1 71 98 rfl rfl) cw nA xf
  have C_law := c_law (P := P) (wd := wd) (K := K) (mg := mg) (base := base) T laws cw nA xk C_init F C__law_book C__law_try C__law_try_behind C__law_refused C__law_deed C_today C_rest C_left
  exact C_law
/-- what the law's own call gives -/
def spLaw (K : PySem.W.Frag) : Sp := pSp K (PF FLaw)
theorem facts {P : Program} {w : World} {f : Addr} (X : K.In h) (G : h.Ns mainGlobals mg) (hfa : mg ("law" : Str) = some (.ref f)) (c : SaysX K) :
    ∃ fd : FuncData, (∀ (s : Shared) (v : Value), BindsTo s fd ⟨[v], []⟩ [("script", v)]) ∧ ∀ base : Heap, K.In base → base.Ns mainGlobals mg → FnOk P w K mg base CX0 11 f fd ["script"] (spLaw K) := by
  obtain ⟨fd, F⟩ := c.1.def_ 59 (d := mkD "law" sLaw) rfl
  have e := hfa.symm.trans (He.glo_ok X G (c.1.fact 59 (f := .glo "law") rfl))
  cases e
  have b := FunD.bindsA (ps := ["script"]) F fun _ _ _ _ _ _ us hl => match us, hl with | [_], _ => rfl
  exact ⟨fd, fun s v => b s [v] rfl, fun base _ _ => law_okay X G c F⟩
theorem sp_law {H : Hp} {a : Addr} {ns : List Int} (hO : Only H) (hS : SqL K H a (ns.map V.int)) : spLaw K [.ref a] H (fun v _ => v = .bl true) fun _ _ _ => False := by
  refine ⟨fun _ => False, [.scr ns], fun d => d = .bl true, fun a h => h.elim, .cons ?_ .nil, ⟨_, .mk ns, rfl⟩, fun v d H' _ r e => ?_⟩
  · rcases hS with (h | ⟨o, h⟩) | h
    · rcases hO a with h2 | ⟨o, xs, h2⟩
      · rw [h2] at h; cases h
      · rw [h2] at h; cases h
    · exact .scrF (o := o) ⟨fun z => z, List.not_mem_nil, h⟩
    · exact .scrK h
  · subst e
    cases r
    rfl
end
end Lp
open PySem PySem.W PySem.Calls PyProof.Rows
theorem PySem.Challenge.cw_lamprota_k54_deeds_refused_holds : PySem.Challenge.rw_lamprota_k54_deeds_refused.Holds := by
  w_on; o_law
  refine HandSHeadRun.head_any (r := OpenLaw.row PySem.Challenge.rw_lamprota_k54_deeds_refused) (q := view (OpenLaw.row PySem.Challenge.rw_lamprota_k54_deeds_refused).prog [80]) (H := Lp.hookX) (ob := Lp.ob) (M := 4000) (loose := Lp.loose) (d := HandSHeadRun.topDef (OpenLaw.row PySem.Challenge.rw_lamprota_k54_deeds_refused).prog 80) (kwd := []) Lp.ob_eq
    (by kernel_rfl) (fun s => by kernel_rfl) Lp.run (by kernel_rfl) (by kernel_rfl) (by kernel_rfl) (by rfl) (by first | assumption | decide +kernel) (by decide +kernel) ⟨rfl, rfl, rfl, rfl, rfl, by decide +kernel⟩ ?hw ?hc
  case hw => w_witness2
  case hc =>
    refine L2.walk_ofE (l := PySem.Challenge.rw_lamprota_k54_deeds_refused) (n := 63) (k := 11) (x := "script") (CX := L2.CX0) rfl (by decide) (by kernel_rfl) ⟨rfl, by decide, by decide⟩ ?F (fun _ _ _ _ z => z)
    intro w mg fa h Y G hmg0
    obtain ⟨K, KX, c⟩ := Y
    have hmg : mg ("law" : PySem.Str) = some (.ref fa) := by
      have e : (HandSHeadRun.topDef (OpenLaw.row PySem.Challenge.rw_lamprota_k54_deeds_refused).prog 80).name = ("law" : PySem.Str) := by kernel_rfl
      rw [← e]
      exact hmg0
    obtain ⟨fd, hb, hF⟩ := Lp.facts (P := (PySem.Challenge.rw_lamprota_k54_deeds_refused).prog) (w := w) KX G hmg ⟨congrArg Prod.fst c, congrArg Prod.snd c⟩
    exact ⟨K, fd, Lp.spLaw K, KX, hb, fun H a ns _ hO hS => Lp.sp_law hO hS, hF⟩
