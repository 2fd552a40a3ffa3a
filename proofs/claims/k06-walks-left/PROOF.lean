import PyProof.Rows.All
import HandS.ForMost
import HandS.ForExc
import HandS.Lambda
import HandS.ExcCtx
import HandS.HotCalls
import HandS.TupAny
import HandS.Deep
import HandS.Text
import KE.DataEq
import HandS.IsInst
import HandS.RaiseMore
import HandS.Conv
import HandS.Dict
import HandS.Flow
import HandS.Style
import HandS.FStr
import HandS.WordsDict
import HandS.More
import PyProof.ReprReads
import HandS.Codes
import HandS.StrMore
import HandS.WordsExc
import HandS.CallSlots
import HandS.Walk
import HandS.NoneIn
import KE.GoesEnum
import HandS.ClsMeth
import HandS.SlotsOwn
import HandS.Property
import HandS.MakeKw
import KE.KCallOwn
import KE.KFmtOwn
import HandS.Small
import HandS.MakeKwOnly
import OpenK.KOps
import HandS.HeadHook4
import HandS.Head0
import HandS.Head1
import HandS.Head2
import HandS.HeadEnd
import HandS.EndBits
import HandS.ExcInit
import KE.KTryMore
import HandS.ExcField
import KE.KExcIs
import HandS.SetFor
import PyProof.ListStr
import PyProof.ExcBaseAll.ArithmeticError
import OpenK.KOwn
import PySem.Challenge.RW_cablecourses_k06_walks_and_what_they_lea
set_option Elab.async false
set_option linter.all false
set_option maxRecDepth 100000
set_option maxHeartbeats 2000000
/-! CC1: data as trees, a small store for what is changed, and how they lie in the layer's heap. -/
namespace CC
open PySem PySem.Spec PyProof.Rows L2

/-- keys of dicts -/
inductive DKey where
  | non | int (i : Int) | str (s : List Nat) | tnil | tcons (a t : DKey)
  deriving DecidableEq
/-- data; a thing that is changed stands in the store, by its number -/
inductive Val where
  | non | bl (b : Bool) | int (i : Int) | str (s : List Nat)
  | tup (xs : List Val) | lst (xs : List Val)
  | dct (kvs : List (DKey × Val))
  | obj (C : Nat) (fs : List (Nat × Val))
  | ref (r : Nat) | cls (C : Nat) | ty (n : String) | scr (ns : List Int)
  | vw (v : V)
inductive Cell where
  | lst (xs : List Val) | dct (kvs : List (DKey × Val)) | obj (C : Nat) (fs : List (Nat × Val))
abbrev Store := List Cell
abbrev Env1 := List (Option Val)

/-- what an expression comes to -/
inductive R (α : Type) where
  | ok (a : α) (mu : Store) | exc (C : Nat) (fs : List (Nat × Val)) (mu : Store) | bad
abbrev M (α : Type) := Env1 → Store → R α
/-- what a statement comes to -/
inductive SR where
  | nx (r : Env1) (mu : Store) | rt (v : Val) (mu : Store) | bk (r : Env1) (mu : Store) | ct (r : Env1) (mu : Store)
  | exc (C : Nat) (fs : List (Nat × Val)) (r : Env1) (mu : Store) | bad
abbrev MS := Env1 → Store → SR

def R.bind {α β : Type} (x : R α) (k : α → Store → R β) : R β := match x with
  | .ok a mu => k a mu
  | .exc C fs mu => .exc C fs mu
  | .bad => .bad

/-- a text as the layer has it -/
abbrev S (l : List Nat) : Str := ⟨l.toArray⟩
/-- the names of attributes -/
def attrN : List String := ["given", "index", "shown", "chambers", "gates", "starts", "goals", "rows", "at", "wording", "body", "place", "entries", "blocks", "numbers", "hollow", "arrows", "begins", "ends", "net", "behind", "one", "other", "word", "told", "known", "begun", "nodes", "signs", "into", "least", "ahead", "ways", "waiting", "nothings", "layers", "now", "past", "outer", "desk", "frame", "plains", "final", "places", "leaps"]
def attrL : List Str := attrN.map Str.ofString
def aN (n : Nat) : Str := attrL.getD n ⟨#[]⟩
theorem aN_inj : ∀ n m : _root_.Fin 45, aN n = aN m → n = m := by decide +kernel
theorem aN_ne {n m : Nat} (hn : n < 45) (hm : m < 45) (h : n ≠ m) : aN n ≠ aN m := fun e => h (congrArg _root_.Fin.val (aN_inj ⟨n, hn⟩ ⟨m, hm⟩ e))

/-- where the classes lie; tables of code objects; dicts of exceptions that are known -/
structure CI where
  c : Nat → Addr
  T : List (Addr × Str)
  x : List (Addr × List (Str × V))
instance : CoeFun CI fun _ => Nat → Addr := ⟨CI.c⟩
/-- what stands for good; what is hidden: it stands as it is told -/
structure Fz where
  f : Hp
  g : Hp
section
variable (K : PySem.W.Frag) (cA : CI)
def keyR : DKey → Key → Prop
  | .int i, k => k = .inl i
  | .str s, k => k = .inr (S s)
  | _, _ => False
mutual
/-- F: what stands for good; pi: where the store's cells lie -/
inductive VR (F : Fz) (pi : List Addr) : Val → V → Prop where
  | non : VR F pi .non .non
  | bl (b : Bool) : VR F pi (.bl b) (.bl b)
  | int (i : Int) : VR F pi (.int i) (.int i)
  | str (s : List Nat) : VR F pi (.str s) (.str (S s))
  | tup {a : Addr} {xs : List Val} {vs : List V} : SqT K F.f a vs → VRs F pi xs vs → VR F pi (.tup xs) (.ref a)
  | lst {a : Addr} {xs : List Val} {vs : List V} : F.f a = some (.lst vs) → VRs F pi xs vs → VR F pi (.lst xs) (.ref a)
  | dct {a : Addr} {kvs : List (DKey × Val)} {ks : List (Key × V)} : F.f a = some (.dK ks) → KVR F pi kvs ks → VR F pi (.dct kvs) (.ref a)
  | obj {a dx : Addr} {C : Nat} {fs : List (Nat × Val)} {gs : List (Str × V)} : F.f a = some (.ins (cA C) dx gs) → FVR F pi fs gs → VR F pi (.obj C fs) (.ref a)
  | ref {r : Nat} {a : Addr} : pi[r]? = some a → VR F pi (.ref r) (.ref a)
  | cls (C : Nat) : VR F pi (.cls C) (.ref (cA C))
  | ty (n : String) : VR F pi (.ty n) (.ty n)
  | scr {a : Addr} {ns : List Int} : SqL K F.f a (ns.map V.int) → VR F pi (.scr ns) (.ref a)
  | vw (v : V) : VR F pi (.vw v) v
inductive VRs (F : Fz) (pi : List Addr) : List Val → List V → Prop where
  | nil : VRs F pi [] []
  | cons {x : Val} {xs : List Val} {v : V} {vs : List V} : VR F pi x v → VRs F pi xs vs → VRs F pi (x :: xs) (v :: vs)
inductive KVR (F : Fz) (pi : List Addr) : List (DKey × Val) → List (Key × V) → Prop where
  | nil : KVR F pi [] []
  | cons {k : DKey} {k' : Key} {x : Val} {xs : List (DKey × Val)} {v : V} {vs : List (Key × V)} : keyR k k' → VR F pi x v → KVR F pi xs vs → KVR F pi ((k, x) :: xs) ((k', v) :: vs)
inductive FVR (F : Fz) (pi : List Addr) : List (Nat × Val) → List (Str × V) → Prop where
  | nil : FVR F pi [] []
  | cons {n : Nat} {x : Val} {xs : List (Nat × Val)} {v : V} {vs : List (Str × V)} : n < 45 → VR F pi x v → FVR F pi xs vs → FVR F pi ((n, x) :: xs) ((aN n, v) :: vs)
end
end
def SubH (F F' : Hp) : Prop := ∀ a o, F a = some o → F' a = some o
theorem SubH.refl (F : Hp) : SubH F F := fun _ _ h => h
theorem SubH.trans {F G H : Hp} (a : SubH F G) (b : SubH G H) : SubH F H := fun x o h => b x o (a x o h)
theorem SubH.new {F : Hp} {p : Addr} {o : HO} (h : F p = none) : SubH F (upd F p o) := fun a u e => by
  rw [upd_ne (ne_of_none e h)]
  exact e
/-- more stands for good; what is hidden is the same -/
def Sub (F F' : Fz) : Prop := SubH F.f F'.f ∧ F.g = F'.g
theorem Sub.refl (F : Fz) : Sub F F := ⟨SubH.refl _, rfl⟩
theorem Sub.trans {F G H : Fz} (a : Sub F G) (b : Sub G H) : Sub F H := ⟨a.1.trans b.1, a.2.trans b.2⟩
def Fz.new (F : Fz) (p : Addr) (o : HO) : Fz := ⟨upd F.f p o, F.g⟩
theorem Sub.new {F : Fz} {p : Addr} {o : HO} (h : F.f p = none) : Sub F (F.new p o) := ⟨SubH.new h, rfl⟩
theorem sub_t {K : PySem.W.Frag} {F F' : Hp} {a : Addr} {xs : List V} (e : SubH F F') (h : SqT K F a xs) : SqT K F' a xs := by
  rcases h with (h | ⟨o, h⟩) | h
  · exact .inl (.inl (e _ _ h))
  · exact .inl (.inr ⟨o, e _ _ h⟩)
  · exact .inr h
theorem sub_l {K : PySem.W.Frag} {F F' : Hp} {a : Addr} {xs : List V} (e : SubH F F') (h : SqL K F a xs) : SqL K F' a xs := by
  rcases h with (h | ⟨o, h⟩) | h
  · exact .inl (.inl (e _ _ h))
  · exact .inl (.inr ⟨o, e _ _ h⟩)
  · exact .inr h
theorem pre_get {p q : List Addr} {r : Nat} {a : Addr} (h : p <+: q) (e : p[r]? = some a) : q[r]? = some a := by
  obtain ⟨t, rfl⟩ := h
  have hl := (List.getElem?_eq_some_iff.mp e).1
  rw [List.getElem?_append_left hl]
  exact e
section
variable {K : PySem.W.Frag} {cA : CI} {F F' : Fz} {p q : List Addr}
mutual
theorem VR.mono (s : Sub F F') (h : p <+: q) : ∀ {x : Val} {v : V}, VR K cA F p x v → VR K cA F' q x v
  | _, _, .non => .non
  | _, _, .bl b => .bl b
  | _, _, .int i => .int i
  | _, _, .str i => .str i
  | _, _, .tup a b => .tup (sub_t s.1 a) (VRs.mono s h b)
  | _, _, .lst a b => .lst (s.1 _ _ a) (VRs.mono s h b)
  | _, _, .dct a b => .dct (s.1 _ _ a) (KVR.mono s h b)
  | _, _, .obj a b => .obj (s.1 _ _ a) (FVR.mono s h b)
  | _, _, .ref e => .ref (pre_get h e)
  | _, _, .cls C => .cls C
  | _, _, .ty n => .ty n
  | _, _, .scr a => .scr (sub_l s.1 a)
  | _, _, .vw a => .vw a
theorem VRs.mono (s : Sub F F') (h : p <+: q) : ∀ {x : List Val} {v : List V}, VRs K cA F p x v → VRs K cA F' q x v
  | _, _, .nil => .nil
  | _, _, .cons a b => .cons (VR.mono s h a) (VRs.mono s h b)
theorem KVR.mono (s : Sub F F') (h : p <+: q) : ∀ {x : List (DKey × Val)} {v : List (Key × V)}, KVR K cA F p x v → KVR K cA F' q x v
  | _, _, .nil => .nil
  | _, _, .cons k a b => .cons k (VR.mono s h a) (KVR.mono s h b)
theorem FVR.mono (s : Sub F F') (h : p <+: q) : ∀ {x : List (Nat × Val)} {v : List (Str × V)}, FVR K cA F p x v → FVR K cA F' q x v
  | _, _, .nil => .nil
  | _, _, .cons k a b => .cons k (VR.mono s h a) (FVR.mono s h b)
end
theorem VRs.length : ∀ {x : List Val} {v : List V}, VRs K cA F p x v → x.length = v.length
  | _, _, .nil => rfl
  | _, _, .cons _ b => congrArg Nat.succ (VRs.length b)
theorem VRs.get : ∀ {xs : List Val} {vs : List V} {i : Nat} {x : Val}, VRs K cA F p xs vs → xs[i]? = some x → ∃ v, vs[i]? = some v ∧ VR K cA F p x v
  | _, _, _, _, .nil, e => by simp at e
  | _, _, 0, _, .cons a _, e => by simp at e; subst e; exact ⟨_, rfl, a⟩
  | _, _, i + 1, x, .cons _ b, e => by
    obtain ⟨v, h1, h2⟩ := VRs.get (i := i) b (by simpa using e)
    exact ⟨v, by simpa using h1, h2⟩
theorem VRs.get' : ∀ {xs : List Val} {vs : List V} {i : Nat} {v : V}, VRs K cA F p xs vs → vs[i]? = some v → ∃ x, xs[i]? = some x ∧ VR K cA F p x v
  | _, _, _, _, .nil, e => by simp at e
  | _, _, 0, _, .cons a _, e => by simp at e; subst e; exact ⟨_, rfl, a⟩
  | _, _, i + 1, x, .cons _ b, e => by
    obtain ⟨v, h1, h2⟩ := VRs.get' (i := i) b (by simpa using e)
    exact ⟨v, by simpa using h1, h2⟩
theorem VRs.append : ∀ {xs ys : List Val} {vs ws : List V}, VRs K cA F p xs vs → VRs K cA F p ys ws → VRs K cA F p (xs ++ ys) (vs ++ ws)
  | _, _, _, _, .nil, s => s
  | _, _, _, _, .cons r t, s => .cons r (VRs.append t s)
theorem VRs.take : ∀ {xs : List Val} {vs : List V} (n : Nat), VRs K cA F p xs vs → VRs K cA F p (xs.take n) (vs.take n)
  | _, _, 0, _ => .nil
  | _, _, _ + 1, .nil => .nil
  | _, _, n + 1, .cons r t => .cons r (VRs.take n t)
theorem VRs.drop : ∀ {xs : List Val} {vs : List V} (n : Nat), VRs K cA F p xs vs → VRs K cA F p (xs.drop n) (vs.drop n)
  | _, _, 0, r => r
  | _, _, _ + 1, .nil => .nil
  | _, _, n + 1, .cons _ t => VRs.drop n t
theorem VRs.set {x : Val} {v : V} (r : VR K cA F p x v) : ∀ {xs : List Val} {vs : List V} (i : Nat), VRs K cA F p xs vs → VRs K cA F p (xs.set i x) (vs.set i v)
  | _, _, _, .nil => .nil
  | _, _, 0, .cons _ t => .cons r t
  | _, _, i + 1, .cons q t => .cons q (VRs.set r i t)
theorem VRs.reverse : ∀ {xs : List Val} {vs : List V}, VRs K cA F p xs vs → VRs K cA F p xs.reverse vs.reverse
  | _, _, .nil => .nil
  | _, _, .cons r t => by
    rw [List.reverse_cons, List.reverse_cons]
    exact VRs.append (VRs.reverse t) (.cons r .nil)
theorem VRs.map_int : ∀ (ns : List Int), VRs K cA F p (ns.map Val.int) (ns.map V.int)
  | [] => .nil
  | n :: r => .cons (.int n) (VRs.map_int r)
theorem VRs.map_str : ∀ (ns : List (List Nat)), VRs K cA F p (ns.map Val.str) ((ns.map S).map V.str)
  | [] => .nil
  | n :: r => .cons (.str n) (VRs.map_str r)
theorem KVR.length : ∀ {x : List (DKey × Val)} {v : List (Key × V)}, KVR K cA F p x v → x.length = v.length
  | _, _, .nil => rfl
  | _, _, .cons _ _ b => congrArg Nat.succ (KVR.length b)
theorem FVR.length : ∀ {x : List (Nat × Val)} {v : List (Str × V)}, FVR K cA F p x v → x.length = v.length
  | _, _, .nil => rfl
  | _, _, .cons _ _ b => congrArg Nat.succ (FVR.length b)
/-- an attribute that is there -/
theorem FVR.look : ∀ {fs : List (Nat × Val)} {gs : List (Str × V)} {n : Nat} {x : Val}, n < 45 → FVR K cA F p fs gs → fs.lookup n = some x → ∃ v, gs.lookup (aN n) = some v ∧ VR K cA F p x v
  | _, _, _, _, _, .nil, e => by simp at e
  | _, _, n, x, hn, .cons (n := m) hm a b, e => by
    by_cases h : n = m
    · subst h
      simp only [List.lookup, beq_self_eq_true, Option.some.injEq] at e ⊢
      subst e
      exact ⟨_, rfl, a⟩
    · have h1 : (n == m) = false := beq_eq_false_iff_ne.mpr h
      have h2 : (aN n == aN m) = false := beq_eq_false_iff_ne.mpr (aN_ne hn hm h)
      simp only [List.lookup, h1, h2] at e ⊢
      exact FVR.look hn b e
theorem FVR.none_of : ∀ {fs : List (Nat × Val)} {gs : List (Str × V)} {f : Str}, FVR K cA F p fs gs → (∀ n : Nat, n < 45 → f ≠ aN n) → gs.lookup f = none
  | _, _, _, .nil, _ => rfl
  | _, _, f, .cons (n := m) hm a b, e => by
    have h2 : (f == aN m) = false := beq_eq_false_iff_ne.mpr (e m hm)
    simp only [List.lookup, h2]
    exact FVR.none_of b e
end
/-- a field is set -/
def setF (n : Nat) (x : Val) : List (Nat × Val) → List (Nat × Val)
  | [] => [(n, x)]
  | (m, y) :: r => if m = n then (m, x) :: r else (m, y) :: setF n x r
theorem FVR.put {K : PySem.W.Frag} {cA : CI} {F : Fz} {p : List Addr} {n : Nat} {x : Val} {v : V} (hn : n < 45) (r : VR K cA F p x v) : ∀ {fs : List (Nat × Val)} {gs : List (Str × V)}, FVR K cA F p fs gs → FVR K cA F p (setF n x fs) (putF (aN n) v gs)
  | _, _, .nil => .cons hn r .nil
  | _, _, .cons (n := m) hm a b => by
    unfold setF putF
    by_cases h : m = n
    · subst h
      rw [if_pos rfl, if_pos rfl]
      exact .cons hm r b
    · rw [if_neg h, if_neg (aN_ne hm hn h)]
      exact .cons hm a (FVR.put hn r b)

theorem nodup_inj {α : Type} : ∀ {l : List α} {i j : Nat}, l.Nodup → ∀ (h1 : i < l.length) (h2 : j < l.length), l[i] = l[j] → i = j
  | [], i, j, _, h1, _, _ => absurd h1 (Nat.not_lt_zero _)
  | x :: r, 0, 0, _, _, _, _ => rfl
  | x :: r, 0, j + 1, nd, _, h2, e => by
    have hx := (List.nodup_cons.mp nd).1
    have e' : x = r[j]'(by simpa using h2) := by simpa using e
    exact absurd (e' ▸ List.getElem_mem _) hx
  | x :: r, i + 1, 0, nd, h1, _, e => by
    have hx := (List.nodup_cons.mp nd).1
    have e' : x = r[i]'(by simpa using h1) := by simpa using e.symm
    exact absurd (e' ▸ List.getElem_mem _) hx
  | x :: r, i + 1, j + 1, nd, h1, h2, e => by
    have := nodup_inj (List.nodup_cons.mp nd).2 (by simpa using h1) (by simpa using h2) (by simpa using e)
    omega
/-! ### the store -/
section
variable (K : PySem.W.Frag) (cA : CI)
def CR (F : Fz) (pi : List Addr) (H : Hp) (a : Addr) : Cell → Prop
  | .lst xs => ∃ vs, H a = some (.lst vs) ∧ VRs K cA F pi xs vs
  | .dct kvs => ∃ ks, H a = some (.dK ks) ∧ KVR K cA F pi kvs ks
  | .obj C fs => ∃ dx gs, H a = some (.ins (cA C) dx gs) ∧ FVR K cA F pi fs gs
structure Rel (F : Fz) (pi : List Addr) (mu : Store) (H : Hp) : Prop where
  sub : SubH F.f H
  len : pi.length = mu.length
  nd : pi.Nodup
  off : ∀ a ∈ pi, F.f a = none
  cell : ∀ (r : Nat) (a : Addr) (c : Cell), pi[r]? = some a → mu[r]? = some c → CR K cA F pi H a c
  hid : ∀ a o, F.g a = some o → H a = some o ∧ F.f a = none ∧ a ∉ pi
  tab : LamX.Tabs cA.T H
  xds : ∀ q ∈ cA.x, F.f q.1 = some (.xd q.2)
  nf : ∀ a ps, F.f a ≠ some (.tbl ps)
  ng : ∀ a ps, F.g a ≠ some (.tbl ps)
def EnvR (F : Fz) (pi : List Addr) (r : Env1) (s : L2.St) : Prop := r.length = s.length ∧ ∀ (i : Nat) (x : Val), r[i]? = some (some x) → ∃ v, s[i]? = some (some v) ∧ VR K cA F pi x v
end
section
variable {K : PySem.W.Frag} {cA : CI} {F F' : Fz} {p q : List Addr} {mu mu' : Store} {H H' : Hp}
/-- what is hidden plays no part -/
def Sub0 (F F' : Fz) : Prop := SubH F.f F'.f
mutual
theorem VR.up (s : Sub0 F F') : ∀ {x : Val} {v : V}, VR K cA F p x v → VR K cA F' p x v
  | _, _, .non => .non
  | _, _, .bl b => .bl b
  | _, _, .int i => .int i
  | _, _, .str i => .str i
  | _, _, .tup a b => .tup (sub_t s a) (VRs.up s b)
  | _, _, .lst a b => .lst (s _ _ a) (VRs.up s b)
  | _, _, .dct a b => .dct (s _ _ a) (KVR.up s b)
  | _, _, .obj a b => .obj (s _ _ a) (FVR.up s b)
  | _, _, .ref e => .ref e
  | _, _, .cls C => .cls C
  | _, _, .ty n => .ty n
  | _, _, .scr a => .scr (sub_l s a)
  | _, _, .vw a => .vw a
theorem VRs.up (s : Sub0 F F') : ∀ {x : List Val} {v : List V}, VRs K cA F p x v → VRs K cA F' p x v
  | _, _, .nil => .nil
  | _, _, .cons a b => .cons (VR.up s a) (VRs.up s b)
theorem KVR.up (s : Sub0 F F') : ∀ {x : List (DKey × Val)} {v : List (Key × V)}, KVR K cA F p x v → KVR K cA F' p x v
  | _, _, .nil => .nil
  | _, _, .cons k a b => .cons k (VR.up s a) (KVR.up s b)
theorem FVR.up (s : Sub0 F F') : ∀ {x : List (Nat × Val)} {v : List (Str × V)}, FVR K cA F p x v → FVR K cA F' p x v
  | _, _, .nil => .nil
  | _, _, .cons k a b => .cons k (VR.up s a) (FVR.up s b)
end
theorem sub0 (F : Fz) (g : Hp) : Sub0 F ⟨F.f, g⟩ := SubH.refl _
theorem CR.hid {F : Fz} {g : Hp} {a : Addr} {c : Cell} (e : H' a = H a) (x : CR K cA F p H a c) : CR K cA ⟨F.f, g⟩ p H' a c := by
  cases c with
  | lst xs => obtain ⟨vs, h1, h2⟩ := x; exact ⟨vs, by rw [e]; exact h1, h2.up (sub0 F g)⟩
  | dct xs => obtain ⟨vs, h1, h2⟩ := x; exact ⟨vs, by rw [e]; exact h1, h2.up (sub0 F g)⟩
  | obj C xs => obtain ⟨dx, vs, h1, h2⟩ := x; exact ⟨dx, vs, by rw [e]; exact h1, h2.up (sub0 F g)⟩
theorem CR.mono {a : Addr} {c : Cell} (s : Sub F F') (h : p <+: q) (e : H' a = H a) (x : CR K cA F p H a c) : CR K cA F' q H' a c := by
  cases c with
  | lst xs => obtain ⟨vs, h1, h2⟩ := x; exact ⟨vs, by rw [e]; exact h1, h2.mono s h⟩
  | dct xs => obtain ⟨vs, h1, h2⟩ := x; exact ⟨vs, by rw [e]; exact h1, h2.mono s h⟩
  | obj C xs => obtain ⟨dx, vs, h1, h2⟩ := x; exact ⟨dx, vs, by rw [e]; exact h1, h2.mono s h⟩
theorem EnvR.mono {r : Env1} {s : L2.St} (a : Sub F F') (h : p <+: q) (e : EnvR K cA F p r s) : EnvR K cA F' q r s :=
  ⟨e.1, fun i x hx => let ⟨v, h1, h2⟩ := e.2 i x hx; ⟨v, h1, h2.mono a h⟩⟩
theorem upd_nt {G : Hp} {a : Addr} {o : HO} (h : ∀ b ps, G b ≠ some (.tbl ps)) (n : ∀ ps, o ≠ .tbl ps) : ∀ b ps, upd G a o b ≠ some (.tbl ps) := fun b ps e => by
  by_cases hb : b = a
  · rw [hb, upd_same] at e
    exact n ps (Option.some.inj e)
  · rw [upd_ne hb] at e
    exact h b ps e
/-- tables stay where what is changed is no table's part -/
theorem tabs_keep {T : List (Addr × Str)} {H H' : Hp} (t : LamX.Tabs T H) (e : ∀ b o, H b = some o → ((∃ ps, o = .tbl ps) ∨ ∃ φ, o = .ext φ) → H' b = some o) : LamX.Tabs T H' := fun p hp => by
  obtain ⟨ps, h1, h2, h3⟩ := t p hp
  refine ⟨ps, e _ _ h1 (.inl ⟨_, rfl⟩), h2, fun pos cv hc => ?_⟩
  obtain ⟨c, e1, e2⟩ := h3 pos cv hc
  exact ⟨c, e1, e _ _ e2 (.inr ⟨_, rfl⟩)⟩
/-- no part of a table -/
def NoT (o : HO) : Prop := (∀ ps, o ≠ .tbl ps) ∧ ∀ φ, o ≠ .ext φ
theorem tabs_upd {T : List (Addr × Str)} {H : Hp} {a : Addr} {o o' : HO} (t : LamX.Tabs T H) (h : H a = some o) (n : NoT o) : LamX.Tabs T (upd H a o') := tabs_keep t fun b u e k => by
  have hb : b ≠ a := fun z => by
    subst z
    rw [h] at e
    cases e
    rcases k with ⟨ps, k⟩ | ⟨φ, k⟩
    · exact n.1 _ k
    · exact n.2 _ k
  rw [upd_ne hb]
  exact e
theorem CR.noT {F : Fz} {a : Addr} {c : Cell} (x : CR K cA F p H a c) : ∃ o, H a = some o ∧ NoT o := by
  cases c with
  | lst xs => obtain ⟨vs, h1, _⟩ := x; exact ⟨_, h1, fun _ z => (by cases z), fun _ z => (by cases z)⟩
  | dct xs => obtain ⟨vs, h1, _⟩ := x; exact ⟨_, h1, fun _ z => (by cases z), fun _ z => (by cases z)⟩
  | obj C xs => obtain ⟨dx, vs, h1, _⟩ := x; exact ⟨_, h1, fun _ z => (by cases z), fun _ z => (by cases z)⟩
theorem Rel.at_some {r : Nat} {a : Addr} (x : Rel K cA F p mu H) (e : p[r]? = some a) : ∃ c, mu[r]? = some c ∧ CR K cA F p H a c := by
  have hl := (List.getElem?_eq_some_iff.mp e).1
  have hm : r < mu.length := by rw [← x.len]; exact hl
  exact ⟨mu[r], List.getElem?_eq_getElem hm, x.cell r a _ e (List.getElem?_eq_getElem hm)⟩
theorem Rel.addr {r : Nat} {c : Cell} (x : Rel K cA F p mu H) (e : mu[r]? = some c) : ∃ a, p[r]? = some a ∧ CR K cA F p H a c := by
  have hl := (List.getElem?_eq_some_iff.mp e).1
  have hm : r < p.length := by rw [x.len]; exact hl
  exact ⟨p[r], List.getElem?_eq_getElem hm, x.cell r _ c (List.getElem?_eq_getElem hm) e⟩
theorem Rel.tracked {a : Addr} (x : Rel K cA F p mu H) (h : a ∈ p) : ∃ o, H a = some o := by
  obtain ⟨r, hr⟩ := List.mem_iff_getElem?.mp h
  obtain ⟨c, _, hc⟩ := x.at_some hr
  cases c with
  | lst xs => obtain ⟨vs, h1, _⟩ := hc; exact ⟨_, h1⟩
  | dct xs => obtain ⟨vs, h1, _⟩ := hc; exact ⟨_, h1⟩
  | obj C xs => obtain ⟨dx, vs, h1, _⟩ := hc; exact ⟨_, h1⟩
theorem Rel.fresh {a : Addr} (x : Rel K cA F p mu H) (h : H a = none) : F.f a = none ∧ a ∉ p := by
  refine ⟨?_, fun z => ?_⟩
  · cases e : F.f a with
    | none => rfl
    | some o => rw [x.sub a o e] at h; cases h
  · obtain ⟨o, e⟩ := x.tracked z
    rw [e] at h; cases h
/-- the heap grows by what nobody knows -/
theorem Rel.grow (x : Rel K cA F p mu H) (e : SubH H H') : Rel K cA F p mu H' := by
  refine ⟨x.sub.trans e, x.len, x.nd, x.off, fun r a c h1 h2 => ?_, fun a o h => ⟨e _ _ (x.hid a o h).1, (x.hid a o h).2⟩, x.tab.ext e, x.xds, x.nf, x.ng⟩
  have hc := x.cell r a c h1 h2
  cases c with
  | lst xs => obtain ⟨vs, h1, h2⟩ := hc; exact ⟨vs, e _ _ h1, h2⟩
  | dct xs => obtain ⟨vs, h1, h2⟩ := hc; exact ⟨vs, e _ _ h1, h2⟩
  | obj C xs => obtain ⟨dx, vs, h1, h2⟩ := hc; exact ⟨dx, vs, e _ _ h1, h2⟩
/-- a new thing that stands for good -/
theorem Rel.frz {a : Addr} {o : HO} (x : Rel K cA F p mu H) (h : H a = none) (n : ∀ ps, o ≠ .tbl ps := by intro ps z; cases z) : Rel K cA (F.new a o) p mu (upd H a o) := by
  obtain ⟨hF, hp⟩ := x.fresh h
  refine ⟨fun b u e => ?_, x.len, x.nd, fun b hb => ?_, fun r b c h1 h2 => ?_, fun b u e => ?_, x.tab.ext (SubH.new h), fun q hq => (SubH.new (o := o) hF) _ _ (x.xds q hq), upd_nt x.nf n, x.ng⟩
  · have e' : upd F.f a o b = some u := e
    by_cases hb : b = a
    · subst hb; rw [upd_same] at e' ⊢; exact e'
    · rw [upd_ne hb] at e' ⊢; exact x.sub b u e'
  · have hb' : b ≠ a := fun z => hp (z ▸ hb)
    show upd F.f a o b = none
    rw [upd_ne hb']; exact x.off b hb
  · have hb' : b ≠ a := fun z => hp (z ▸ List.mem_of_getElem? h1)
    exact (x.cell r b c h1 h2).mono (Sub.new hF) (List.prefix_refl p) (upd_ne hb')
  · obtain ⟨h1, h2, h3⟩ := x.hid b u e
    have hb' : b ≠ a := fun z => by rw [z, h] at h1; cases h1
    refine ⟨by rw [upd_ne hb']; exact h1, ?_, h3⟩
    show upd F.f a o b = none
    rw [upd_ne hb']; exact h2
/-- a new cell -/
theorem Rel.alloc {a : Addr} {c : Cell} (x : Rel K cA F p mu H) (h : H a = none) (s : SubH H H') (hc : CR K cA F (p ++ [a]) H' a c) : Rel K cA F (p ++ [a]) (mu ++ [c]) H' := by
  obtain ⟨hF, hp⟩ := x.fresh h
  have x' := x.grow s
  refine ⟨x'.sub, by simp [x.len], ?_, fun b hb => ?_, fun r b d h1 h2 => ?_, fun b u e => ?_, x'.tab, x'.xds, x'.nf, x'.ng⟩
  · rw [List.nodup_append]
    exact ⟨x.nd, by simp, fun b hb d hd => by simp at hd; subst hd; exact fun z => hp (z ▸ hb)⟩
  · rcases List.mem_append.mp hb with hb | hb
    · exact x.off b hb
    · simp at hb; subst hb; exact hF
  · by_cases hr : r < p.length
    · rw [List.getElem?_append_left hr] at h1
      rw [List.getElem?_append_left (by rw [← x.len]; exact hr)] at h2
      exact (x'.cell r b d h1 h2).mono (Sub.refl F) (List.prefix_append p [a]) rfl
    · have hr' : r = p.length := by
        have := (List.getElem?_eq_some_iff.mp h1).1
        simp at this; omega
      subst hr'
      rw [List.getElem?_append_right (Nat.le_refl _)] at h1
      rw [x.len, List.getElem?_append_right (Nat.le_refl _)] at h2
      simp at h1 h2
      subst h1; subst h2
      exact hc
  · obtain ⟨h1, h2, h3⟩ := x'.hid b u e
    refine ⟨h1, h2, fun z => ?_⟩
    rcases List.mem_append.mp z with z | z
    · exact h3 z
    · simp at z
      have := (x.hid b u e).1
      rw [z, h] at this; cases this
/-- a cell is changed -/
theorem Rel.write {a : Addr} {o : HO} {r : Nat} {c : Cell} (x : Rel K cA F p mu H) (hr : p[r]? = some a) (hc : CR K cA F p (upd H a o) a c) : Rel K cA F p (mu.set r c) (upd H a o) := by
  have ha : a ∈ p := List.mem_of_getElem? hr
  have hF := x.off a ha
  refine ⟨fun b u e => ?_, by simp [x.len], x.nd, x.off, fun i b d h1 h2 => ?_, fun b u e => ?_, (let ⟨_, _, hc'⟩ := x.at_some hr; let ⟨_, e1, n1⟩ := hc'.noT; tabs_upd x.tab e1 n1), x.xds, x.nf, x.ng⟩
  · rw [upd_ne (ne_of_none e hF)]; exact x.sub b u e
  · by_cases hi : i = r
    · subst hi
      rw [hr] at h1; cases h1
      have hl : i < mu.length := by rw [← x.len]; exact (List.getElem?_eq_some_iff.mp hr).1
      rw [List.getElem?_set_self hl] at h2
      cases h2
      exact hc
    · have hb : b ≠ a := fun z => by
        subst z
        have i1 := (List.getElem?_eq_some_iff.mp h1)
        have i2 := (List.getElem?_eq_some_iff.mp hr)
        obtain ⟨l1, e1⟩ := i1
        obtain ⟨l2, e2⟩ := i2
        exact hi (nodup_inj x.nd l1 l2 (e1.trans e2.symm))
      rw [List.getElem?_set_ne (Ne.symm hi)] at h2
      exact (x.cell i b d h1 h2).mono (Sub.refl F) (List.prefix_refl p) (upd_ne hb)
  · obtain ⟨h1, h2, h3⟩ := x.hid b u e
    have hb' : b ≠ a := fun z => h3 (z ▸ ha)
    exact ⟨by rw [upd_ne hb']; exact h1, h2, h3⟩
/-- what is hidden begins -/
theorem Rel.hide {a : Addr} {o : HO} (x : Rel K cA F p mu H) (h : H a = none) (n : ∀ ps, o ≠ .tbl ps := by intro ps z; cases z) : Rel K cA ⟨F.f, upd F.g a o⟩ p mu (upd H a o) := by
  obtain ⟨hF, hp⟩ := x.fresh h
  refine ⟨fun b u e => ?_, x.len, x.nd, x.off, fun r b c h1 h2 => ?_, fun b u e => ?_, x.tab.ext (SubH.new h), x.xds, x.nf, upd_nt x.ng n⟩
  · rw [upd_ne (ne_of_none e hF)]; exact x.sub b u e
  · have hb' : b ≠ a := fun z => hp (z ▸ List.mem_of_getElem? h1)
    have hc := x.cell r b c h1 h2
    exact hc.hid (upd_ne hb')
  · have e' : upd F.g a o b = some u := e
    by_cases hb : b = a
    · subst hb
      rw [upd_same] at e' ⊢
      exact ⟨e', hF, hp⟩
    · rw [upd_ne hb] at e' ⊢
      exact x.hid b u e'
/-- what is hidden is changed -/
theorem Rel.hset {a : Addr} {o o' : HO} (x : Rel K cA F p mu H) (h : F.g a = some o) (n : NoT o) (n' : ∀ ps, o' ≠ .tbl ps := by intro ps z; cases z) : Rel K cA ⟨F.f, upd F.g a o'⟩ p mu (upd H a o') := by
  obtain ⟨h0, hF, hp⟩ := x.hid a o h
  refine ⟨fun b u e => ?_, x.len, x.nd, x.off, fun r b c h1 h2 => ?_, fun b u e => ?_, tabs_upd x.tab h0 n, x.xds, x.nf, upd_nt x.ng n'⟩
  · rw [upd_ne (ne_of_none e hF)]; exact x.sub b u e
  · have hb' : b ≠ a := fun z => hp (z ▸ List.mem_of_getElem? h1)
    exact (x.cell r b c h1 h2).hid (upd_ne hb')
  · have e' : upd F.g a o' b = some u := e
    by_cases hb : b = a
    · subst hb
      rw [upd_same] at e' ⊢
      exact ⟨e', hF, hp⟩
    · rw [upd_ne hb] at e' ⊢
      exact x.hid b u e'
/-- what was hidden stands for good -/
theorem Rel.show {a : Addr} {o : HO} {g : Hp} (x : Rel K cA F p mu H) (h : F.g a = some o) (hg : ∀ b u, g b = some u → b ≠ a ∧ F.g b = some u) : Rel K cA ⟨upd F.f a o, g⟩ p mu H := by
  obtain ⟨h0, hF, hp⟩ := x.hid a o h
  refine ⟨fun b u e => ?_, x.len, x.nd, fun b hb => ?_, fun r b c h1 h2 => ?_, fun b u e => ?_, x.tab, fun q hq => (SubH.new (o := o) hF) _ _ (x.xds q hq), upd_nt x.nf (fun ps z => x.ng a ps (z ▸ h)), fun b ps z => x.ng b ps (hg b _ z).2⟩
  · have e' : upd F.f a o b = some u := e
    by_cases hb : b = a
    · subst hb; rw [upd_same] at e'; cases e'; exact h0
    · rw [upd_ne hb] at e'; exact x.sub b u e'
  · have hb' : b ≠ a := fun z => hp (z ▸ hb)
    show upd F.f a o b = none
    rw [upd_ne hb']; exact x.off b hb
  · exact ((x.cell r b c h1 h2).mono (Sub.new (o := o) hF) (List.prefix_refl p) rfl).hid rfl
  · obtain ⟨n, e'⟩ := hg b u e
    obtain ⟨h1, h2, h3⟩ := x.hid b u e'
    refine ⟨h1, ?_, h3⟩
    show upd F.f a o b = none
    rw [upd_ne n]; exact h2
end
end CC

set_option Elab.async false
set_option linter.all false
set_option maxRecDepth 100000
set_option maxHeartbeats 2000000
/-! CC2: what an expression's rule says in terms of data and store; putting rules together. -/
namespace CC
open PySem PySem.Spec PyProof.Rows L2

section
variable (K : PySem.W.Frag) (cA : CI)
def ExR (F : Fz) (pi : List Addr) (C : Nat) (fs : List (Nat × Val)) (cls : Value) (d : Option Addr) : Prop :=
  cls = .ref (cA C) ∧ ((fs = [] ∧ d = none) ∨ ∃ dx gs, d = some dx ∧ F.f dx = some (.xd gs) ∧ FVR K cA F pi fs gs)
def Post {α β : Type} (rel : Fz → List Addr → α → β → Prop) (W : WX) (s : L2.St) (F : Fz) (pi : List Addr) (Q : β → Hp → Prop) : R α → Prop
  | .ok v mu => ∀ F' p' H' x, Sub F F' → pi <+: p' → Rel K cA F' p' mu H' → rel F' p' v x → Q x H'
  | .exc C fs mu => ∀ F' p' H' cls d, Sub F F' → pi <+: p' → Rel K cA F' p' mu H' → ExR K cA F' p' C fs cls d → W cls d s H'
  | .bad => False
def Den {α β : Type} (rel : Fz → List Addr → α → β → Prop) (W : WX) (m : M α) : L2.St → Hp → (β → Hp → Prop) → Prop :=
  fun s H Q => ∃ F pi r mu, Rel K cA F pi mu H ∧ EnvR K cA F pi r s ∧ Post K cA rel W s F pi Q (m r mu)
end
section
variable {K : PySem.W.Frag} {cA : CI} {F F' : Fz} {p q : List Addr} {mu mu' : Store} {H H' : Hp} {W : WX} {s : L2.St}
theorem Post.mono {α β : Type} {rel : Fz → List Addr → α → β → Prop} {Q : β → Hp → Prop} {x : R α} (a : Sub F F') (h : p <+: q) (e : Post K cA rel W s F p Q x) : Post K cA rel W s F' q Q x := by
  cases x with
  | ok v mu => exact fun G r H' y s1 s2 => e G r H' y (a.trans s1) (h.trans s2)
  | exc C fs mu => exact fun G r H' y d s1 s2 => e G r H' y d (a.trans s1) (h.trans s2)
  | bad => exact e
theorem Post.imp {α β : Type} {rel : Fz → List Addr → α → β → Prop} {Q Q' : β → Hp → Prop} {x : R α} (a : ∀ y H, Q y H → Q' y H) (e : Post K cA rel W s F p Q x) : Post K cA rel W s F p Q' x := by
  cases x with
  | ok v mu => exact fun G r H' y s1 s2 s3 s4 => a _ _ (e G r H' y s1 s2 s3 s4)
  | exc C fs mu => exact e
  | bad => exact e
/-- one after the other -/
theorem bindAt {α β γ δ : Type} {r1 : Fz → List Addr → α → β → Prop} {r2 : Fz → List Addr → γ → δ → Prop} {Q : δ → Hp → Prop} {m : M α} {k : α → Store → R γ} {T : β → Hp → Prop} {r : Env1}
    (h1 : Rel K cA F p mu H) (h2 : EnvR K cA F p r s) (h3 : Post K cA r2 W s F p Q ((m r mu).bind k))
    (t : ∀ F' p' mu' x y H', Sub F F' → p <+: p' → Rel K cA F' p' mu' H' → EnvR K cA F' p' r s → r1 F' p' x y → Post K cA r2 W s F' p' Q (k x mu') → T y H') : Den K cA r1 W m s H T := by
  refine ⟨F, p, r, mu, h1, h2, ?_⟩
  cases e : m r mu with
  | ok v mu1 =>
    rw [e] at h3
    intro F' p' H' y a b c d
    exact t F' p' mu1 v y H' a b c (h2.mono a b) d (Post.mono a b h3)
  | exc C fs mu1 =>
    rw [e] at h3
    exact h3
  | bad =>
    rw [e] at h3
    exact h3
end
abbrev DE (K : PySem.W.Frag) (cA : CI) (W : WX) (m : M Val) : TE := Den K cA (VR K cA) W m
abbrev DT (K : PySem.W.Frag) (cA : CI) (W : WX) (m : M Bool) : TT := Den K cA (fun _ _ (a b : Bool) => a = b) W m
abbrev DA (K : PySem.W.Frag) (cA : CI) (W : WX) (m : M (List Val)) : TA := Den K cA (VRs K cA) W m
def PEM (X : Cx) (cA : CI) (W : WX) (e : Expr) (m : M Val) : Prop := PE X e (DE X.K cA W m)
def PTM (X : Cx) (cA : CI) (W : WX) (e : Expr) (m : M Bool) : Prop := PT X e (DT X.K cA W m)
def PWM (X : Cx) (cA : CI) (W : WX) (e : Expr) (m : M Bool) : Prop := PW X e (DT X.K cA W m)
def PAM (X : Cx) (cA : CI) (W : WX) (es : List Expr) (m : M (List Val)) : Prop := PA X es (DA X.K cA W m)
theorem pe_weak {X : Cx} {e : Expr} {t t' : TE} (h : PE X e t) (w : ∀ s H Q, t' s H Q → t s H Q) : PE X e t' := ⟨fun pins s σ H Q I q => h.run pins s σ H Q I (w _ _ _ q)⟩
theorem pt_weak {X : Cx} {e : Expr} {t t' : TT} (h : PT X e t) (w : ∀ s H Q, t' s H Q → t s H Q) : PT X e t' := ⟨fun pins s σ H Q I q => h.run pins s σ H Q I (w _ _ _ q)⟩
theorem pw_weak {X : Cx} {e : Expr} {t t' : TT} (h : PW X e t) (w : ∀ s H Q, t' s H Q → t s H Q) : PW X e t' := ⟨fun wh pins s σ H Q I q => h.run wh pins s σ H Q I (w _ _ _ q)⟩
theorem pa_weak {X : Cx} {e : List Expr} {t t' : TA} (h : PA X e t) (w : ∀ s H Q, t' s H Q → t s H Q) : PA X e t' := ⟨fun pos pins s σ H Q I q => h.run pos pins s σ H Q I (w _ _ _ q)⟩
theorem ps_weak {X : Cx} {e : Stmt} {t t' : TS} (h : PS X e t) (w : ∀ D s H, t' D s H → t D s H) : PS X e t' := ⟨fun pins s σ H Q I q => h.run pins s σ H Q I (w _ _ _ q)⟩
theorem pss_weak {X : Cx} {e : List Stmt} {t t' : TS} (h : PSs X e t) (w : ∀ D s H, t' D s H → t D s H) : PSs X e t' := ⟨fun pins s σ H Q I q => h.run pins s σ H Q I (w _ _ _ q)⟩

/-! ### the forms -/
def optR {α : Type} (o : Option α) (mu : Store) : R α := match o with
  | some z => .ok z mu
  | none => .bad
def vM (i : Nat) : M Val := fun r mu => match r[i]? with
  | some (some v) => .ok v mu
  | _ => .bad
def cM (v : Val) : M Val := fun _ mu => .ok v mu
def u1 (g : Store → Val → Option Val) (ma : M Val) : M Val := fun r mu => (ma r mu).bind fun x mu1 => optR (g mu1 x) mu1
def b2 (g : Store → Val → Val → Option Val) (ma mb : M Val) : M Val := fun r mu => (ma r mu).bind fun x mu1 => (mb r mu1).bind fun y mu2 => optR (g mu2 x y) mu2
def tB2 (g : Store → Val → Val → Option Bool) (ma mb : M Val) : M Bool := fun r mu => (ma r mu).bind fun x mu1 => (mb r mu1).bind fun y mu2 => optR (g mu2 x y) mu2
def nilM : M (List Val) := fun _ mu => .ok [] mu
def consM (ma : M Val) (mb : M (List Val)) : M (List Val) := fun r mu => (ma r mu).bind fun x mu1 => (mb r mu1).bind fun y mu2 => .ok (x :: y) mu2
def fA (g : Store → List Val → Option Val) (ma : M (List Val)) : M Val := fun r mu => (ma r mu).bind fun x mu1 => optR (g mu1 x) mu1
-- on values: what is asked of an operation that makes at most new things that stand for good
section
variable (K : PySem.W.Frag) (cA : CI)
def GQ (F : Fz) (pi : List Addr) (mu : Store) (z : Val) (Q : VK) : Prop := ∀ F' H' v, Sub F F' → Rel K cA F' pi mu H' → VR K cA F' pi z v → Q v H'
def G1 (g : Store → Val → Option Val) : V → Hp → VK → Prop := fun x H Q => ∃ F pi mu a z, Rel K cA F pi mu H ∧ VR K cA F pi a x ∧ g mu a = some z ∧ GQ K cA F pi mu z Q
def G2 (g : Store → Val → Val → Option Val) : R2 := fun x y H Q => ∃ F pi mu a b z, Rel K cA F pi mu H ∧ VR K cA F pi a x ∧ VR K cA F pi b y ∧ g mu a b = some z ∧ GQ K cA F pi mu z Q
def GA (g : Store → List Val → Option Val) : List V → Hp → VK → Prop := fun xs H Q => ∃ F pi mu as z, Rel K cA F pi mu H ∧ VRs K cA F pi as xs ∧ g mu as = some z ∧ GQ K cA F pi mu z Q
end
section
variable {X : Cx} {cA : CI} {W : WX} {a b c e : Expr} {es : List Expr} {ma mb mc : M Val} {ms : M (List Val)} {pos : Pos}
theorem post_opt {K : PySem.W.Frag} {cA : CI} {F : Fz} {p : List Addr} {s : L2.St} {Q : VK} {o : Option Val} {mu : Store} (h : Post K cA (VR K cA) W s F p Q (optR o mu)) : ∃ z, o = some z ∧ GQ K cA F p mu z Q := by
  cases o with
  | none => exact h.elim
  | some z => exact ⟨z, rfl, fun F' H' v a r q => h F' p H' v a (List.prefix_refl p) r q⟩
theorem GQ.now {K : PySem.W.Frag} {F : Fz} {p : List Addr} {mu : Store} {z : Val} {Q : VK} (h : GQ K cA F p mu z Q) {H : Hp} {v : V} (r : Rel K cA F p mu H) (q : VR K cA F p z v) : Q v H := h F H v (Sub.refl F) r q
theorem GQ.mono {K : PySem.W.Frag} {F F' : Fz} {p : List Addr} {mu : Store} {z : Val} {Q : VK} (h : GQ K cA F p mu z Q) (a : Sub F F') : GQ K cA F' p mu z Q := fun G H v b r q => h G H v (a.trans b) r q
/-- a new tuple -/
theorem GQ.tup {K : PySem.W.Frag} {F : Fz} {p : List Addr} {mu : Store} {zs : List Val} {Q : VK} (h : GQ K cA F p mu (.tup zs) Q) {H : Hp} {vs : List V} {a : Addr} (r : Rel K cA F p mu H) (q : VRs K cA F p zs vs) (hn : H a = none) : Q (.ref a) (upd H a (.tup vs)) :=
  h _ _ _ (Sub.new (r.fresh hn).1) (r.frz hn) (.tup (SqT.of upd_same) (q.mono (Sub.new (r.fresh hn).1) (List.prefix_refl p)))
/-- a new list that stands for good -/
theorem GQ.lst {K : PySem.W.Frag} {F : Fz} {p : List Addr} {mu : Store} {zs : List Val} {Q : VK} (h : GQ K cA F p mu (.lst zs) Q) {H : Hp} {vs : List V} {a : Addr} (r : Rel K cA F p mu H) (q : VRs K cA F p zs vs) (hn : H a = none) : Q (.ref a) (upd H a (.lst vs)) :=
  h _ _ _ (Sub.new (r.fresh hn).1) (r.frz hn) (.lst upd_same (q.mono (Sub.new (r.fresh hn).1) (List.prefix_refl p)))

theorem c_var {x : Str} (i : Nat) (hN : X.N[i]? = some x := by rfl) (hv : Vis X.env.scope x := by first | exact Or.inl rfl | exact Or.inr (Or.inl rfl) | exact Or.inr (Or.inr rfl)) (hd : (x == ("__debug__" : Str)) = false := by decide)
    (hcd : (x == ("__classdict__" : Str)) = false := by decide) : PEM X cA W (.Name x pos) (vM i) := by
  refine pe_weak (pe_var (i := i) hN hv hd hcd) fun s H Q h => ?_
  obtain ⟨F, p, r, mu, h1, h2, h3⟩ := h
  unfold vM at h3
  split at h3
  · rename_i v e
    obtain ⟨w, e1, e2⟩ := h2.2 i v e
    exact ⟨w, e1, h3 F p H w (Sub.refl F) (List.prefix_refl p) h1 e2⟩
  · exact h3.elim
/-- a value that is written -/
theorem c_of {v : Val} {w : V} (h : PE X e (tC w)) (hv : ∀ F p, VR X.K cA F p v w) : PEM X cA W e (cM v) := by
  refine pe_weak h fun s H Q h => ?_
  obtain ⟨F, p, r, mu, h1, h2, h3⟩ := h
  exact h3 F p H w (Sub.refl F) (List.prefix_refl p) h1 (hv F p)
theorem c_int {i : Int} {j} : PEM X cA W (.Constant (.int i) j pos) (cM (.int i)) := c_of pe_int fun _ _ => .int i
theorem c_bl {i : Bool} {j} : PEM X cA W (.Constant (.bool i) j pos) (cM (.bl i)) := c_of pe_bl fun _ _ => .bl i
theorem c_non {j} : PEM X cA W (.Constant .none j pos) (cM .non) := c_of pe_non fun _ _ => .non
theorem c_str {x : Str} {j} : PEM X cA W (.Constant (.str x) j pos) (cM (.str x.cps.toList)) := c_of pe_str fun _ _ => by
  have h : x = S x.cps.toList := by simp [S]
  conv => rhs; rw [h]
  exact .str _
theorem c_un {op : UnaryOp} {g : Store → Val → Option Val} (ho : UnR X (unaryOp op) (G1 X.K cA g)) (ha : PEM X cA W a ma) : PEM X cA W (.UnaryOp op a pos) (u1 g ma) :=
  pe_weak (pe_un ho ha) fun s H Q ⟨F, p, r, mu, h1, h2, h3⟩ => bindAt h1 h2 h3 fun F1 p1 mu1 x v H1 a1 b1 c1 d1 e1 f1 => by
    obtain ⟨z, e, q⟩ := post_opt f1
    exact ⟨F1, p1, mu1, x, z, c1, e1, e, q⟩
theorem den2 {K : PySem.W.Frag} {s : L2.St} {H : Hp} {Q : VK} {g : Store → Val → Val → Option Val} (h : DE K cA W (b2 g ma mb) s H Q) : tOp (G2 K cA g) (DE K cA W ma) (DE K cA W mb) s H Q := by
  obtain ⟨F, p, r, mu, h1, h2, h3⟩ := h
  refine bindAt h1 h2 h3 fun F1 p1 mu1 x v H1 a1 b1 c1 d1 e1 f1 => ?_
  refine bindAt c1 d1 f1 fun F2 p2 mu2 y w H2 a2 b2 c2 d2 e2 f2 => ?_
  obtain ⟨z, e, q⟩ := post_opt f2
  exact ⟨F2, p2, mu2, x, y, z, c2, e1.mono a2 b2, e2, e, q⟩
theorem c_bin {op : Operator} {g : Store → Val → Val → Option Val} (ho : OpR X (binaryOp op) (G2 X.K cA g)) (ha : PEM X cA W a ma) (hb : PEM X cA W b mb) : PEM X cA W (.BinOp a op b pos) (b2 g ma mb) :=
  pe_weak (pe_op ho ha hb) fun s H Q h => den2 h
theorem c_cmp {op : CmpOp} {g : Store → Val → Val → Option Val} (ho : OpR X (compareOp op) (G2 X.K cA g)) (ha : PEM X cA W a ma) (hb : PEM X cA W b mb) (hm : behindInMarks op b = false := by first | exact nobehind _ (by decide) (by decide) | rfl) : PEM X cA W (.Compare a [op] [b] pos) (b2 g ma mb) :=
  pe_weak (pe_cmpR ho ha hb hm) fun s H Q h => den2 h
theorem c_nil : PAM X cA W [] nilM := pa_weak pa_nil fun s H Q ⟨F, p, r, mu, h1, h2, h3⟩ => h3 F p H [] (Sub.refl F) (List.prefix_refl p) h1 .nil
theorem denc {K : PySem.W.Frag} {s : L2.St} {H : Hp} {Q : List V → Hp → Prop} (h : DA K cA W (consM ma ms) s H Q) : tCons (DE K cA W ma) (DA K cA W ms) s H Q := by
  obtain ⟨F, p, r, mu, h1, h2, h3⟩ := h
  refine bindAt h1 h2 h3 fun F1 p1 mu1 x v H1 a1 b1 c1 d1 e1 f1 => ?_
  refine bindAt c1 d1 f1 fun F2 p2 mu2 y w H2 a2 b2 c2 d2 e2 f2 => ?_
  exact f2 F2 p2 H2 (v :: w) (Sub.refl F2) (List.prefix_refl p2) c2 (.cons (e1.mono a2 b2) e2)
theorem c_cons (ha : PEM X cA W e ma) (hr : PAM X cA W es ms) (hs : starEach (e :: es) X.env = (false, eval e X.env) :: starEach es X.env := by rfl) : PAM X cA W (e :: es) (consM ma ms) :=
  pa_weak (pa_cons ha hr hs) fun s H Q h => denc h
/-- (a, b, ..) -/
def tupM (ms : M (List Val)) : M Val := fun r mu => (ms r mu).bind fun xs mu1 => if xs.length ≤ 100000 then .ok (.tup xs) mu1 else .bad
def lstM (ms : M (List Val)) : M Val := fun r mu => (ms r mu).bind fun xs mu1 => if xs.length ≤ 100000 then .ok (.lst xs) mu1 else .bad
/-- a list that will be changed -/
def newM (ms : M (List Val)) : M Val := fun r mu => (ms r mu).bind fun xs mu1 => if xs.length ≤ 100000 then .ok (.ref mu1.length) (mu1 ++ [.lst xs]) else .bad
theorem post_if {K : PySem.W.Frag} {F : Fz} {p : List Addr} {s : L2.St} {Q : VK} {c : Prop} [Decidable c] {z : Val} {mu : Store} (h : Post K cA (VR K cA) W s F p Q (if c then .ok z mu else .bad)) : c ∧ Post K cA (VR K cA) W s F p Q (.ok z mu) := by
  by_cases hc : c
  · rw [if_pos hc] at h
    exact ⟨hc, h⟩
  · rw [if_neg hc] at h
    exact h.elim
theorem post_gq {K : PySem.W.Frag} {F : Fz} {p : List Addr} {s : L2.St} {Q : VK} {z : Val} {mu : Store} (h : Post K cA (VR K cA) W s F p Q (.ok z mu)) : GQ K cA F p mu z Q := fun F' H' v a r q => h F' p H' v a (List.prefix_refl p) r q
theorem line5 {n : Nat} (h : n ≤ 100000) : n ≤ sizeLine := Nat.le_trans h (by decide)
theorem c_tup {x1} (h : PAM X cA W es ms) : PEM X cA W (.Tuple es x1 pos) (tupM ms) :=
  pe_weak (pe_tup h) fun s H Q ⟨F, p, r, mu, h1, h2, h3⟩ => bindAt h1 h2 h3 fun F1 p1 mu1 x v H1 a1 b1 c1 d1 e1 f1 => by
    obtain ⟨hl, q⟩ := post_if f1
    exact ⟨line5 (by rw [← e1.length]; exact hl), fun a ha => (post_gq q).tup c1 e1 ha⟩
theorem c_lst (h : PAM X cA W es ms) : PEM X cA W (.List es pos) (lstM ms) :=
  pe_weak (pe_lst h) fun s H Q ⟨F, p, r, mu, h1, h2, h3⟩ => bindAt h1 h2 h3 fun F1 p1 mu1 x v H1 a1 b1 c1 d1 e1 f1 => by
    obtain ⟨hl, q⟩ := post_if f1
    exact ⟨line5 (by rw [← e1.length]; exact hl), fun a ha => (post_gq q).lst c1 e1 ha⟩
theorem c_new (h : PAM X cA W es ms) : PEM X cA W (.List es pos) (newM ms) :=
  pe_weak (pe_lst h) fun s H Q ⟨F, p, r, mu, h1, h2, h3⟩ => bindAt h1 h2 h3 fun F1 p1 mu1 x v H1 a1 b1 c1 d1 e1 f1 => by
    obtain ⟨hl, q⟩ := post_if f1
    refine ⟨line5 (by rw [← e1.length]; exact hl), fun a ha => q F1 (p1 ++ [a]) _ _ (Sub.refl F1) (List.prefix_append p1 [a]) (c1.alloc ha (fun b u hb => ?_) ⟨v, upd_same, e1.mono (Sub.refl F1) (List.prefix_append p1 [a])⟩) (.ref ?_)⟩
    · rw [upd_ne (ne_of_none hb ha)]
      exact hb
    · rw [← c1.len, List.getElem?_append_right (Nat.le_refl _)]
      simp
end
end CC

set_option Elab.async false
set_option linter.all false
set_option maxRecDepth 100000
set_option maxHeartbeats 2000000
/-! CC3: operations on values. -/
namespace CC
open PySem PySem.Spec PyProof.Rows L2

def seqL (mu : Store) : Val → Option (List Val)
  | .lst xs => some xs
  | .ref r => match mu[r]? with
    | some (.lst xs) => some xs
    | _ => none
  | _ => none
section
variable {K : PySem.W.Frag} {cA : CI} {F : Fz} {p : List Addr} {mu : Store} {H : Hp}
theorem seqL_ok {a : Val} {v : V} {xs : List Val} (R : Rel K cA F p mu H) (r : VR K cA F p a v) (e : seqL mu a = some xs) : ∃ l vs, v = .ref l ∧ H l = some (.lst vs) ∧ VRs K cA F p xs vs := by
  cases r with
  | lst h1 h2 => cases e; exact ⟨_, _, rfl, R.sub _ _ h1, h2⟩
  | ref h1 =>
    obtain ⟨c, h2, h3⟩ := R.at_some h1
    simp only [seqL, h2] at e
    cases c with
    | lst ys => cases e; obtain ⟨vs, q1, q2⟩ := h3; exact ⟨_, _, rfl, q1, q2⟩
    | dct ys => cases e
    | obj C ys => cases e
  | _ => cases e
end
theorem S_len (s : List Nat) : (S s).length = s.length := by simp [S, Str.length]
theorem S_app (s t : List Nat) : S s ++ S t = S (s ++ t) := by
  show (⟨s.toArray ++ t.toArray⟩ : Str) = ⟨(s ++ t).toArray⟩
  simp
theorem S_inj {s t : List Nat} : S s = S t ↔ s = t := by
  constructor
  · intro h
    have := congrArg (fun x : Str => x.cps.toList) h
    simpa [S] using this
  · intro h; rw [h]
theorem line5' {n : Nat} (h : n ≤ 100000) : n ≤ sizeLine := Nat.le_trans h (by decide)

def addV (mu : Store) (a b : Val) : Option Val := match a with
  | .int i => (match b with
    | .int j => some (.int (i + j))
    | _ => none)
  | .str s => (match b with
    | .str t => if s.length + t.length ≤ 100000 then some (.str (s ++ t)) else none
    | _ => none)
  | .tup xs => (match b with
    | .tup ys => if xs.length + ys.length ≤ 100000 then some (.tup (xs ++ ys)) else none
    | _ => none)
  | a => (match seqL mu a with
    | some xs => (match seqL mu b with
      | some ys => if xs.length + ys.length ≤ 100000 then some (.lst (xs ++ ys)) else none
      | none => none)
    | none => none)
theorem vrs_nil {K : PySem.W.Frag} {cA : CI} {F : Fz} {p : List Addr} {vs : List V} {xs : List Val} (h : VRs K cA F p xs vs) : vs = [] ↔ xs = [] := by cases h <;> simp
section
variable {X : Cx} {cA : CI}
theorem op_addV : OpR X (binaryOp .Add) (G2 X.K cA addV) := by
  intro pins s σ H x y v u Q I rv ru h
  obtain ⟨F, p, mu, a, b, z, R, ra, rb, e, q⟩ := h
  have lists : ∀ {a : Val}, VR X.K cA F p a x → (match seqL mu a with
    | some xs => (match seqL mu b with
      | some ys => if xs.length + ys.length ≤ 100000 then some (.lst (xs ++ ys)) else none
      | none => none)
    | none => none) = some z → wpAny (model X.prog X.w) X.A (binaryOp .Add v u) (EP X pins σ Q) X.xe s := by
    intro a ra e
    cases e1 : seqL mu a with
    | none => rw [e1] at e; cases e
    | some xs =>
      rw [e1] at e
      cases e2 : seqL mu b with
      | none => rw [e2] at e; cases e
      | some ys =>
        rw [e2] at e
        simp only at e
        by_cases hc : xs.length + ys.length ≤ 100000
        · rw [if_pos hc] at e
          cases e
          obtain ⟨l, vs, rfl, h1, h2⟩ := seqL_ok R ra e1
          obtain ⟨l', ws, rfl, h3, h4⟩ := seqL_ok R rb e2
          exact op_cat pins s σ H _ _ v u Q I rv ru ⟨l, l', vs, ws, rfl, rfl, h1, h3, line5' (by rw [← h2.length, ← h4.length]; exact hc), fun a ha => q.lst R (h2.append h4) ha⟩
        · rw [if_neg hc] at e; cases e
  cases ra with
  | int i =>
    cases rb with
    | int j => cases e; exact op_add pins s σ H _ _ v u Q I rv ru ⟨i, j, rfl, rfl, q.now R (.int _)⟩
    | _ => cases e
  | str i =>
    cases rb with
    | str j =>
      simp only [addV] at e
      by_cases hc : i.length + j.length ≤ 100000
      · rw [if_pos hc] at e; cases e
        refine op_add_str pins s σ H _ _ v u Q I rv ru ⟨S i, S j, rfl, rfl, line5' (by rw [S_len, S_len]; exact hc), ?_⟩
        rw [S_app]
        exact q.now R (.str _)
      · rw [if_neg hc] at e; cases e
    | _ => cases e
  | tup h1 h2 =>
    cases rb with
    | tup h3 h4 =>
      rename_i xs vs b ys ws
      simp only [addV] at e
      by_cases hc : xs.length + ys.length ≤ 100000
      · rw [if_pos hc] at e; cases e
        refine op_catA pins s σ H _ _ v u Q I rv ru ⟨_, _, _, _, rfl, rfl, sub_t R.sub h1, sub_t R.sub h3, line5' (by rw [← h2.length, ← h4.length]; exact hc), fun e1 => ?_, fun e1 e2 => ?_, fun e1 e2 a ha => q.tup R (h2.append h4) ha⟩
        · rw [vrs_nil h2] at e1
          rw [e1] at q
          exact q.now R (.tup h3 h4)
        · rw [vrs_nil h4] at e2
          rw [e2, List.append_nil] at q
          exact q.now R (.tup h1 h2)
      · rw [if_neg hc] at e; cases e
    | _ => cases e
  | lst h1 h2 => exact lists (.lst h1 h2) e
  | ref h1 => exact lists (.ref h1) e
  | non => cases e
  | bl _ => cases e
  | dct _ _ => cases e
  | obj _ _ => cases e
  | cls _ => cases e
  | ty _ => cases e
  | scr _ => cases e
  | vw _ => cases e
def subV (_ : Store) (a b : Val) : Option Val := match a with
  | .int i => (match b with
    | .int j => some (.int (i - j))
    | _ => none)
  | _ => none
theorem op_subV : OpR X (binaryOp .Sub) (G2 X.K cA subV) := by
  intro pins s σ H x y v u Q I rv ru h
  obtain ⟨F, p, mu, a, b, z, R, ra, rb, e, q⟩ := h
  cases ra with
  | int i =>
    cases rb with
    | int j => cases e; exact op_sub pins s σ H _ _ v u Q I rv ru ⟨i, j, rfl, rfl, q.now R (.int _)⟩
    | _ => cases e
  | _ => cases e
def mulV (mu : Store) (a b : Val) : Option Val := match b with
  | .int j => (match a with
    | .int i => if i.natAbs < 2 ^ 64 ∨ j.natAbs < 2 ^ 64 then some (.int (i * j)) else none
    | a => (match seqL mu a with
      | some xs => if xs.length ≤ 1000 ∧ 0 ≤ j ∧ j ≤ 1000 then some (.lst (List.replicate j.toNat xs).flatten) else none
      | none => none))
  | _ => none
theorem nat64 {i : Int} (h : i.natAbs < 2 ^ 64) : -(2 ^ 64) < i ∧ i < 2 ^ 64 := by omega
theorem vrs_rep {K : PySem.W.Frag} {F : Fz} {p : List Addr} {vs : List V} {xs : List Val} (h : VRs K cA F p xs vs) : ∀ n : Nat, VRs K cA F p (List.replicate n xs).flatten (List.replicate n vs).flatten
  | 0 => .nil
  | n + 1 => by
    rw [List.replicate_succ, List.replicate_succ, List.flatten_cons, List.flatten_cons]
    exact h.append (vrs_rep h n)
theorem op_mulV : OpR X (binaryOp .Mult) (G2 X.K cA mulV) := by
  intro pins s σ H x y v u Q I rv ru h
  obtain ⟨F, p, mu, a, b, z, R, ra, rb, e, q⟩ := h
  cases rb with
  | int j =>
    have lists : ∀ {a : Val}, VR X.K cA F p a x → (match seqL mu a with
      | some xs => if xs.length ≤ 1000 ∧ 0 ≤ j ∧ j ≤ 1000 then some (.lst (List.replicate j.toNat xs).flatten) else none
      | none => none) = some z → wpAny (model X.prog X.w) X.A (binaryOp .Mult v u) (EP X pins σ Q) X.xe s := by
      intro a ra e
      cases e1 : seqL mu a with
      | none => rw [e1] at e; cases e
      | some xs =>
        rw [e1] at e
        simp only at e
        by_cases hc : xs.length ≤ 1000 ∧ 0 ≤ j ∧ j ≤ 1000
        · rw [if_pos hc] at e
          cases e
          obtain ⟨l, vs, rfl, h1, h2⟩ := seqL_ok R ra e1
          refine op_rep pins s σ H _ _ v u Q I rv ru ⟨l, j, vs, rfl, rfl, h1, by omega, by omega, ?_, fun a ha => q.lst R (vrs_rep h2 _) ha⟩
          rw [← h2.length]
          have : xs.length * j.toNat ≤ 1000 * 1000 := Nat.mul_le_mul hc.1 (by omega)
          exact Nat.le_trans this (by decide)
        · rw [if_neg hc] at e; cases e
    cases ra with
    | int i =>
      simp only [mulV] at e
      by_cases hc : i.natAbs < 2 ^ 64 ∨ j.natAbs < 2 ^ 64
      · rw [if_pos hc] at e
        cases e
        exact op_mul pins s σ H _ _ v u Q I rv ru ⟨i, j, rfl, rfl, hc.elim (fun h => .inl (nat64 h)) (fun h => .inr (nat64 h)), q.now R (.int _)⟩
      · rw [if_neg hc] at e; cases e
    | lst h1 h2 => exact lists (.lst h1 h2) e
    | ref h1 => exact lists (.ref h1) e
    | _ => cases e
  | _ => cases e
def modV (_ : Store) (a b : Val) : Option Val := match a with
  | .int i => (match b with
    | .int j => if 0 < j then some (.int (i % j)) else none
    | _ => none)
  | _ => none
theorem op_modV : OpR X (binaryOp .Mod) (G2 X.K cA modV) := by
  intro pins s σ H x y v u Q I rv ru h
  obtain ⟨F, p, mu, a, b, z, R, ra, rb, e, q⟩ := h
  cases ra with
  | int i =>
    cases rb with
    | int j =>
      simp only [modV] at e
      by_cases hc : 0 < j
      · rw [if_pos hc] at e; cases e
        exact op_mod pins s σ H _ _ v u Q I rv ru ⟨i, j, rfl, rfl, hc, q.now R (.int _)⟩
      · rw [if_neg hc] at e; cases e
    | _ => cases e
  | _ => cases e
def fdivV (_ : Store) (a b : Val) : Option Val := match a with
  | .int i => (match b with
    | .int j => if 0 < j ∧ j < 1073741824 then some (.int (i / j)) else none
    | _ => none)
  | _ => none
theorem op_fdivV : OpR X (binaryOp .FloorDiv) (G2 X.K cA fdivV) := by
  intro pins s σ H x y v u Q I rv ru h
  obtain ⟨F, p, mu, a, b, z, R, ra, rb, e, q⟩ := h
  cases ra with
  | int i =>
    cases rb with
    | int j =>
      simp only [fdivV] at e
      by_cases hc : 0 < j ∧ j < 1073741824
      · rw [if_pos hc] at e; cases e
        exact op_fdiv pins s σ H _ _ v u Q I rv ru ⟨i, j, rfl, rfl, hc, q.now R (.int _)⟩
      · rw [if_neg hc] at e; cases e
    | _ => cases e
  | _ => cases e
def powV (_ : Store) (a b : Val) : Option Val := match a with
  | .int i => (match b with
    | .int j => if 0 ≤ j ∧ j ≤ 1000 ∧ i.natAbs < 1000 then some (.int (i ^ j.toNat)) else none
    | _ => none)
  | _ => none
theorem op_powV : OpR X (binaryOp .Pow) (G2 X.K cA powV) := by
  intro pins s σ H x y v u Q I rv ru h
  obtain ⟨F, p, mu, a, b, z, R, ra, rb, e, q⟩ := h
  cases ra with
  | int i =>
    cases rb with
    | int j =>
      simp only [powV] at e
      by_cases hc : 0 ≤ j ∧ j ≤ 1000 ∧ i.natAbs < 1000
      · rw [if_pos hc] at e; cases e
        exact op_pow pins s σ H _ _ v u Q I rv ru ⟨i, j, rfl, rfl, ⟨hc.1, by omega, by omega⟩, q.now R (.int _)⟩
      · rw [if_neg hc] at e; cases e
    | _ => cases e
  | _ => cases e
def negV (_ : Store) (a : Val) : Option Val := match a with
  | .int i => some (.int (-i))
  | _ => none
theorem un_negV : UnR X (unaryOp .USub) (G1 X.K cA negV) := by
  intro pins s σ H x v Q I rv h
  obtain ⟨F, p, mu, a, z, R, ra, e, q⟩ := h
  cases ra with
  | int i => cases e; exact un_neg pins s σ H _ v Q I rv ⟨i, rfl, q.now R (.int _)⟩
  | _ => cases e
/-! comparisons of numbers and of texts -/
def ordV (f : Int → Int → Bool) (g : List Nat → List Nat → Bool) (_ : Store) (a b : Val) : Option Val := match a with
  | .int i => (match b with
    | .int j => some (.bl (f i j))
    | _ => none)
  | .str s => (match b with
    | .str t => some (.bl (g s t))
    | _ => none)
  | _ => none
def ltV : Store → Val → Val → Option Val := ordV (fun i j => decide (i < j)) (fun s t => decide (s < t))
def leV : Store → Val → Val → Option Val := ordV (fun i j => decide (i ≤ j)) (fun s t => !decide (t < s))
def gtV : Store → Val → Val → Option Val := ordV (fun i j => decide (j < i)) (fun s t => decide (t < s))
def geV : Store → Val → Val → Option Val := ordV (fun i j => decide (j ≤ i)) (fun s t => !decide (s < t))
theorem op_ordV {op : CmpOp} {f : Int → Int → Bool} {g : List Nat → List Nat → Bool} (h1 : OpR X (compareOp op) (rI0 fun i j => .bl (f i j))) (h2 : OpR X (compareOp op) (fun x y H Q => ∃ i j : Str, x = .str i ∧ y = .str j ∧ Q (.bl (g i.cps.toList j.cps.toList)) H)) :
    OpR X (compareOp op) (G2 X.K cA (ordV f g)) := by
  intro pins s σ H x y v u Q I rv ru h
  obtain ⟨F, p, mu, a, b, z, R, ra, rb, e, q⟩ := h
  cases ra with
  | int i =>
    cases rb with
    | int j => cases e; exact h1 pins s σ H _ _ v u Q I rv ru ⟨i, j, rfl, rfl, q.now R (.bl _)⟩
    | _ => cases e
  | str i =>
    cases rb with
    | str j => cases e; exact h2 pins s σ H _ _ v u Q I rv ru ⟨S i, S j, rfl, rfl, q.now R (.bl _)⟩
    | _ => cases e
  | _ => cases e
theorem op_ltV : OpR X (compareOp .Lt) (G2 X.K cA ltV) := op_ordV op_lt op_lt_str
theorem op_leV : OpR X (compareOp .LtE) (G2 X.K cA leV) := op_ordV op_le op_le_str
theorem op_gtV : OpR X (compareOp .Gt) (G2 X.K cA gtV) := op_ordV op_gt op_gt_str
theorem op_geV : OpR X (compareOp .GtE) (G2 X.K cA geV) := op_ordV op_ge op_ge_str
end
end CC

set_option Elab.async false
set_option linter.all false
set_option maxRecDepth 100000
set_option maxHeartbeats 2000000
/-! CC4: equality, membership, truth, built-in functions, by values. -/
namespace CC
open PySem PySem.Spec PyProof.Rows L2

/-! ### data -/
def mapO {α β : Type} (f : α → Option β) : List α → Option (List β)
  | [] => some []
  | x :: xs => match f x with
    | some y => (match mapO f xs with
      | some ys => some (y :: ys)
      | none => none)
    | none => none
theorem mapO_cons {α β : Type} {f : α → Option β} {x : α} {xs : List α} {zs : List β} (h : mapO f (x :: xs) = some zs) : ∃ y ys, f x = some y ∧ mapO f xs = some ys ∧ zs = y :: ys := by
  unfold mapO at h
  cases e : f x with
  | none => rw [e] at h; cases h
  | some y =>
    rw [e] at h
    simp only at h
    cases e2 : mapO f xs with
    | none => rw [e2] at h; cases h
    | some ys => rw [e2] at h; cases h; exact ⟨y, ys, rfl, rfl, rfl⟩
def toD : Nat → Val → Option PyData
  | _, .non => some .none
  | _, .bl b => some (.bool b)
  | _, .int i => some (.int i)
  | _, .str s => some (.str (S s))
  | n + 1, .tup xs => (mapO (toD n) xs).map .tuple
  | n + 1, .lst xs => (mapO (toD n) xs).map .list
  | _, _ => none
def toD1 (mu : Store) (v : Val) : Option PyData := match v with
  | .ref r => (match mu[r]? with
    | some (.lst xs) => (mapO (toD 30) xs).map .list
    | _ => none)
  | v => toD 31 v
theorem toD_plain : ∀ (n : Nat) (v : Val) (d : PyData), toD n v = some d → d.plain = true ∧ d.depth ≤ n := by
  intro n
  induction n with
  | zero =>
    intro v d h
    cases v <;> simp only [toD] at h <;> cases h <;> exact ⟨rfl, Nat.zero_le _⟩
  | succ n ih =>
    have all : ∀ (xs : List Val) (ds : List PyData), mapO (toD n) xs = some ds → PyData.plainAll ds = true ∧ PyData.depthAll ds ≤ n := by
      intro xs
      induction xs with
      | nil => intro ds h; cases h; exact ⟨rfl, Nat.zero_le _⟩
      | cons x xs ih2 =>
        intro ds h
        obtain ⟨y, ys, h1, h2, rfl⟩ := mapO_cons h
        obtain ⟨a1, a2⟩ := ih _ _ h1
        obtain ⟨b1, b2⟩ := ih2 _ h2
        refine ⟨?_, ?_⟩
        · simp only [PyData.plainAll, a1, b1, Bool.and_self]
        · simp only [PyData.depthAll]
          exact Nat.max_le.mpr ⟨a2, b2⟩
    intro v d h
    cases v with
    | tup xs =>
      simp only [toD] at h
      obtain ⟨ds, h1, rfl⟩ := Option.map_eq_some_iff.mp h
      obtain ⟨a, b⟩ := all _ _ h1
      exact ⟨by simp only [PyData.plain]; exact a, by simp only [PyData.depth]; omega⟩
    | lst xs =>
      simp only [toD] at h
      obtain ⟨ds, h1, rfl⟩ := Option.map_eq_some_iff.mp h
      obtain ⟨a, b⟩ := all _ _ h1
      exact ⟨by simp only [PyData.plain]; exact a, by simp only [PyData.depth]; omega⟩
    | _ => (simp only [toD] at h) <;> first | (cases h; done) | (cases h; exact ⟨rfl, Nat.zero_le _⟩)
section
variable {K : PySem.W.Frag} {cA : CI} {F : Fz} {H : Hp} {p : List Addr} {mu : Store}
theorem toD_dp (R : SubH F.f H) : ∀ (n : Nat) (v : Val) (d : PyData) (x : V), toD n v = some d → VR K cA F p v x → Dp K H x d := by
  intro n
  induction n with
  | zero =>
    intro v d x h r
    cases r <;> simp only [toD] at h <;> cases h <;> constructor
  | succ n ih =>
    have all : ∀ (xs : List Val) (ds : List PyData) (vs : List V), mapO (toD n) xs = some ds → VRs K cA F p xs vs → DpAll K H vs ds := by
      intro xs
      induction xs with
      | nil => intro ds vs h r; cases h; cases r; exact .nil
      | cons x xs ih2 =>
        intro ds vs h r
        obtain ⟨y, ys, h1, h2, rfl⟩ := mapO_cons h
        cases r with
        | cons r1 r2 => exact .cons (ih _ _ _ h1 r1) (ih2 _ _ h2 r2)
    intro v d x h r
    cases r with
    | tup h1 h2 =>
      simp only [toD] at h
      obtain ⟨ds, h3, rfl⟩ := Option.map_eq_some_iff.mp h
      exact .tup (sub_t R h1) (all _ _ _ h3 h2)
    | lst h1 h2 =>
      simp only [toD] at h
      obtain ⟨ds, h3, rfl⟩ := Option.map_eq_some_iff.mp h
      exact .lst (SqL.of (R _ _ h1)) (all _ _ _ h3 h2)
    | _ => (simp only [toD] at h) <;> first | (cases h; done) | (cases h; constructor)
theorem mapO_dp (R : SubH F.f H) (n : Nat) : ∀ (xs : List Val) (ds : List PyData) (vs : List V), mapO (toD n) xs = some ds → VRs K cA F p xs vs → DpAll K H vs ds := by
  intro xs
  induction xs with
  | nil => intro ds vs h r; cases h; cases r; exact .nil
  | cons x xs ih2 =>
    intro ds vs h r
    obtain ⟨y, ys, h1, h2, rfl⟩ := mapO_cons h
    cases r with
    | cons r1 r2 => exact .cons (toD_dp R _ _ _ _ h1 r1) (ih2 _ _ h2 r2)
theorem mapO_plain (n : Nat) : ∀ (xs : List Val) (ds : List PyData), mapO (toD n) xs = some ds → PyData.plainAll ds = true ∧ PyData.depthAll ds ≤ n := by
  intro xs
  induction xs with
  | nil => intro ds h; cases h; exact ⟨rfl, Nat.zero_le _⟩
  | cons x xs ih2 =>
    intro ds h
    obtain ⟨y, ys, h1, h2, rfl⟩ := mapO_cons h
    obtain ⟨a1, a2⟩ := toD_plain _ _ _ h1
    obtain ⟨b1, b2⟩ := ih2 _ h2
    refine ⟨?_, ?_⟩
    · simp only [PyData.plainAll, a1, b1, Bool.and_self]
    · simp only [PyData.depthAll]
      exact Nat.max_le.mpr ⟨a2, b2⟩
theorem toD1_ok (R : Rel K cA F p mu H) {v : Val} {d : PyData} {x : V} (h : toD1 mu v = some d) (r : VR K cA F p v x) : Dp K H x d ∧ d.plain = true ∧ d.depth ≤ 31 := by
  cases r with
  | ref h1 =>
    obtain ⟨c, h2, h3⟩ := R.at_some h1
    simp only [toD1, h2] at h
    cases c with
    | lst xs =>
      obtain ⟨ds, h4, rfl⟩ := Option.map_eq_some_iff.mp h
      obtain ⟨vs, q1, q2⟩ := h3
      obtain ⟨a, b⟩ := mapO_plain _ _ _ h4
      exact ⟨.lst (SqL.of q1) (mapO_dp R.sub _ _ _ _ h4 q2), by simp only [PyData.plain]; exact a, by simp only [PyData.depth]; omega⟩
    | dct _ => cases h
    | obj _ _ => cases h
  | tup h1 h2 => exact ⟨toD_dp (cA := cA) (p := p) R.sub _ _ _ _ h (.tup h1 h2), (toD_plain _ _ _ h).1, (toD_plain _ _ _ h).2⟩
  | lst h1 h2 => exact ⟨toD_dp (cA := cA) (p := p) R.sub _ _ _ _ h (.lst h1 h2), (toD_plain _ _ _ h).1, (toD_plain _ _ _ h).2⟩
  | non => exact ⟨toD_dp (cA := cA) (p := p) R.sub _ _ _ _ h .non, (toD_plain _ _ _ h).1, (toD_plain _ _ _ h).2⟩
  | bl b => exact ⟨toD_dp (cA := cA) (p := p) R.sub _ _ _ _ h (.bl b), (toD_plain _ _ _ h).1, (toD_plain _ _ _ h).2⟩
  | int b => exact ⟨toD_dp (cA := cA) (p := p) R.sub _ _ _ _ h (.int b), (toD_plain _ _ _ h).1, (toD_plain _ _ _ h).2⟩
  | str b => exact ⟨toD_dp (cA := cA) (p := p) R.sub _ _ _ _ h (.str b), (toD_plain _ _ _ h).1, (toD_plain _ _ _ h).2⟩
  | _ => cases h
end
def eqV (mu : Store) (a b : Val) : Option Val := match toD1 mu a with
  | some d => (match toD1 mu b with
    | some e => some (.bl (PyData.eqv d e))
    | none => none)
  | none => none
def neV (mu : Store) (a b : Val) : Option Val := match toD1 mu a with
  | some d => (match toD1 mu b with
    | some e => some (.bl (!PyData.eqv d e))
    | none => none)
  | none => none
theorem eqV_cases {f : PyData → PyData → Val} {mu : Store} {a b z : Val} (h : (match toD1 mu a with
  | some d => (match toD1 mu b with
    | some e => some (f d e)
    | none => none)
  | none => none) = some z) : ∃ d e, toD1 mu a = some d ∧ toD1 mu b = some e ∧ z = f d e := by
  cases h1 : toD1 mu a with
  | none => rw [h1] at h; cases h
  | some d =>
    rw [h1] at h
    simp only at h
    cases h2 : toD1 mu b with
    | none => rw [h2] at h; cases h
    | some e => rw [h2] at h; cases h; exact ⟨d, e, rfl, rfl, rfl⟩
section
variable {X : Cx} {cA : CI}
theorem op_eqV (hu : X.A.units + 64 < cLine) : OpR X (compareOp .Eq) (G2 X.K cA eqV) := by
  intro pins s σ H x y v u Q I rv ru h
  obtain ⟨F, p, mu, a, b, z, R, ra, rb, e, q⟩ := h
  obtain ⟨d, d', h1, h2, rfl⟩ := eqV_cases e
  obtain ⟨a1, a2, a3⟩ := toD1_ok R h1 ra
  obtain ⟨b1, b2, b3⟩ := toD1_ok R h2 rb
  obtain ⟨as, r1⟩ := Dp.reads I _ _ _ a1 rv
  obtain ⟨bs, r2⟩ := Dp.reads I _ _ _ b1 ru
  exact SeqAt.eq_plain r1 r2 a2 b2 (by omega) ⟨.bl _, H, I, rfl, q.now R (.bl _)⟩
theorem op_neV (hu : X.A.units + 64 < cLine) : OpR X (compareOp .NotEq) (G2 X.K cA neV) := by
  intro pins s σ H x y v u Q I rv ru h
  obtain ⟨F, p, mu, a, b, z, R, ra, rb, e, q⟩ := h
  obtain ⟨d, d', h1, h2, rfl⟩ := eqV_cases e
  obtain ⟨a1, a2, a3⟩ := toD1_ok R h1 ra
  obtain ⟨b1, b2, b3⟩ := toD1_ok R h2 rb
  obtain ⟨as, r1⟩ := Dp.reads I _ _ _ a1 rv
  obtain ⟨bs, r2⟩ := Dp.reads I _ _ _ b1 ru
  exact SeqAt.ne_plain r1 r2 a2 b2 (by omega) ⟨.bl _, H, I, rfl, q.now R (.bl _)⟩
/-! ### membership -/
def keyOf : Val → Option DKey
  | .int i => some (.int i)
  | .str s => some (.str s)
  | _ => none
def look (k : DKey) (kvs : List (DKey × Val)) : Option Val := kvs.lookup k
def dctV (mu : Store) : Val → Option (List (DKey × Val))
  | .dct kvs => some kvs
  | .ref r => match mu[r]? with
    | some (.dct kvs) => some kvs
    | _ => none
  | _ => none
theorem dctV_ok {K : PySem.W.Frag} {F : Fz} {H : Hp} {p : List Addr} {mu : Store} {a : Val} {v : V} {kvs : List (DKey × Val)} (R : Rel K cA F p mu H) (r : VR K cA F p a v) (e : dctV mu a = some kvs) : ∃ l ks, v = .ref l ∧ H l = some (.dK ks) ∧ KVR K cA F p kvs ks := by
  cases r with
  | dct h1 h2 => cases e; exact ⟨_, _, rfl, R.sub _ _ h1, h2⟩
  | ref h1 =>
    obtain ⟨c, h2, h3⟩ := R.at_some h1
    simp only [dctV, h2] at e
    cases c with
    | dct ys => cases e; obtain ⟨vs, q1, q2⟩ := h3; exact ⟨_, _, rfl, q1, q2⟩
    | lst ys => cases e
    | obj C ys => cases e
  | _ => cases e
theorem keyR_inj {k k' : DKey} {l l' : L2.Key} (h : keyR k l) (h' : keyR k' l') : (k = k') ↔ (l = l') := by
  cases k with
  | int i =>
    cases k' with
    | int j =>
      cases (show l = .inl i from h); cases (show l' = .inl j from h')
      exact ⟨fun e => (by cases e; rfl), fun e => (by cases e; rfl)⟩
    | str j =>
      cases (show l = .inl i from h); cases (show l' = .inr (S j) from h')
      exact ⟨fun e => (by cases e), fun e => (by cases e)⟩
    | _ => exact (show False from h').elim
  | str i =>
    cases k' with
    | int j =>
      cases (show l = .inr (S i) from h); cases (show l' = .inl j from h')
      exact ⟨fun e => (by cases e), fun e => (by cases e)⟩
    | str j =>
      cases (show l = .inr (S i) from h); cases (show l' = .inr (S j) from h')
      refine ⟨fun e => (by cases e; rfl), fun e => ?_⟩
      have := S_inj.mp (Sum.inr.inj e)
      rw [this]
    | _ => exact (show False from h').elim
  | _ => exact (show False from h).elim
theorem KVR.look {K : PySem.W.Frag} {F : Fz} {p : List Addr} {k : DKey} {l : L2.Key} (hk : keyR k l) : ∀ {kvs : List (DKey × Val)} {ks : List (L2.Key × V)}, KVR K cA F p kvs ks →
    (∀ x, kvs.lookup k = some x → ∃ v, valV ks l = some v ∧ VR K cA F p x v) ∧ (kvs.lookup k = none → valV ks l = none)
  | _, _, .nil => ⟨fun x h => by simp at h, fun _ => rfl⟩
  | _, _, .cons (k := k1) (k' := l1) h1 h2 h3 => by
    obtain ⟨i1, i2⟩ := KVR.look hk h3
    by_cases e : k = k1
    · have e' : l1 = l := ((keyR_inj hk h1).mp e).symm
      have eb : (k == k1) = true := beq_iff_eq.mpr e
      refine ⟨fun x h => ?_, fun h => ?_⟩
      · simp only [List.lookup, eb, Option.some.injEq] at h
        subst h
        exact ⟨_, by unfold valV; rw [List.find?_cons_of_pos (by simpa using e')]; rfl, h2⟩
      · simp only [List.lookup, eb] at h
        cases h
    · have e' : ¬ l1 = l := fun z => e ((keyR_inj hk h1).mpr z.symm)
      have eb : (k == k1) = false := beq_eq_false_iff_ne.mpr e
      have ev : ∀ {w : V} {r : List (L2.Key × V)}, valV ((l1, w) :: r) l = valV r l := fun {w r} => by
        unfold valV
        rw [List.find?_cons_of_neg (by simpa using e')]
      refine ⟨fun x h => ?_, fun h => ?_⟩
      · simp only [List.lookup, eb] at h
        rw [ev]; exact i1 x h
      · simp only [List.lookup, eb] at h
        rw [ev]; exact i2 h
theorem keyOf_ok {K : PySem.W.Frag} {F : Fz} {p : List Addr} {a : Val} {v : V} {k : DKey} (r : VR K cA F p a v) (e : keyOf a = some k) : ∃ l, v = kV l ∧ keyR k l := by
  cases r with
  | int i => cases e; exact ⟨.inl i, rfl, rfl⟩
  | str i => cases e; exact ⟨.inr (S i), rfl, rfl⟩
  | _ => cases e
end
end CC

set_option Elab.async false
set_option linter.all false
set_option maxRecDepth 100000
set_option maxHeartbeats 2000000
/-! CC5: membership, truth, places, slices, tests. -/
namespace CC
open PySem PySem.Spec PyProof.Rows L2
def inB (mu : Store) (a b : Val) : Option Bool := match b with
  | .str t => (match a with
    | .str [c] => some (decide (c ∈ t))
    | _ => none)
  | .tup ys => (match toD 30 a with
    | some d => (match mapO (toD 30) ys with
      | some ds => some (ds.any fun z => PyData.eqv z d)
      | none => none)
    | none => none)
  | b => (match seqL mu b with
    | some ys => (match toD 30 a with
      | some d => (match mapO (toD 30) ys with
        | some ds => some (ds.any fun z => PyData.eqv z d)
        | none => none)
      | none => none)
    | none => (match dctV mu b with
      | some kvs => (match keyOf a with
        | some k => some (kvs.lookup k).isSome
        | none => none)
      | none => none))
def inV2 (mu : Store) (a b : Val) : Option Val := (inB mu a b).map .bl
def ninV2 (mu : Store) (a b : Val) : Option Val := (inB mu a b).map fun c => .bl (!c)
section
variable {X : Cx} {cA : CI}
/-- both answers at once -/
theorem in_any {op : CmpOp} {f : Bool → Bool} (hu : X.A.units + 200 < cLine)
    (h1 : OpR X (compareOp op) (fun x y H Q => ∃ (c : Nat) (z : Str), x = .str ⟨#[c]⟩ ∧ y = .str z ∧ Q (.bl (f (decide (c ∈ z.cps.toList)))) H))
    (h2 : ∀ {E : Value → Shared → Prop} {s : Shared} {c x : Value} {xs : List PyData} {d : PyData} {as bs : List Addr} {Q : Value → Shared → Prop}, Reads s.heap c (.list xs) as → Reads s.heap x d bs → PyData.plainAll xs = true → d.plain = true →
      X.A.units + 1 + min (PyData.depthAll xs) d.depth < cLine → Q (.bool (f (xs.any fun y => PyData.eqv y d))) s → wpAny (model X.prog X.w) X.A (compareOp op x c) Q E s)
    (h3 : ∀ {E : Value → Shared → Prop} {s : Shared} {c x : Value} {xs : List PyData} {d : PyData} {as bs : List Addr} {Q : Value → Shared → Prop}, Reads s.heap c (.tuple xs) as → Reads s.heap x d bs → PyData.plainAll xs = true → d.plain = true →
      X.A.units + 1 + min (PyData.depthAll xs) d.depth < cLine → Q (.bool (f (xs.any fun y => PyData.eqv y d))) s → wpAny (model X.prog X.w) X.A (compareOp op x c) Q E s)
    (h4 : ∀ {pins : List (Addr × Obj)} {σ : L2.St} {H : Hp} {s : Shared} {a : Addr} {y : V} {u : Value} {o : Option V} {E : Value → Shared → Prop} {Q : Value → Shared → Prop}, Inv X pins σ H s → DGet H a y o → RelV y u → (∀ s', Inv X pins σ H s' → Q (.bool (f o.isSome)) s') → wpAny (model X.prog X.w) X.A (compareOp op u (.ref a)) Q E s) :
    OpR X (compareOp op) (G2 X.K cA fun mu a b => (inB mu a b).map fun c => .bl (f c)) := by
  intro pins s σ H x y v u Q I rv ru h
  obtain ⟨F, p, mu, a, b, z, R, ra, rb, e0, q⟩ := h
  obtain ⟨c, e, rfl⟩ := Option.map_eq_some_iff.mp e0
  clear e0
  have seqs : ∀ {ys : List Val} {vs : List V}, VRs X.K cA F p ys vs → (∃ l, y = .ref l ∧ ((SqL X.K H l vs) ∨ SqT X.K H l vs)) → (match toD 30 a with
      | some d => (match mapO (toD 30) ys with
        | some ds => some (ds.any fun z => PyData.eqv z d)
        | none => none)
      | none => none) = some c → wpAny (model X.prog X.w) X.A (compareOp op v u) (EP X pins σ Q) X.xe s := by
    intro ys vs rs ⟨l, el, hl⟩ e
    cases e1 : toD 30 a with
    | none => rw [e1] at e; cases e
    | some d =>
      rw [e1] at e
      simp only at e
      cases e2 : mapO (toD 30) ys with
      | none => rw [e2] at e; cases e
      | some ds =>
        rw [e2] at e
        cases e
        obtain ⟨a2, a3⟩ := toD_plain _ _ _ e1
        obtain ⟨b2, b3⟩ := mapO_plain _ _ _ e2
        obtain ⟨bs, r2⟩ := Dp.reads I _ _ _ (toD_dp R.sub _ _ _ _ e1 ra) rv
        have hds := mapO_dp R.sub _ _ _ _ e2 rs
        have fin : EP X pins σ Q (.bool (f (ds.any fun z => PyData.eqv z d))) s := ⟨.bl _, H, I, rfl, q.now R (.bl _)⟩
        rcases hl with hl | hl
        · obtain ⟨as, r1⟩ := Dp.reads I _ _ _ (Dp.lst (ds := ds) hl hds) (el ▸ ru)
          exact h2 r1 r2 b2 a2 (by omega) fin
        · obtain ⟨as, r1⟩ := Dp.reads I _ _ _ (Dp.tup (ds := ds) hl hds) (el ▸ ru)
          exact h3 r1 r2 b2 a2 (by omega) fin
  have others : ∀ {b : Val}, VR X.K cA F p b y → (match seqL mu b with
    | some ys => (match toD 30 a with
      | some d => (match mapO (toD 30) ys with
        | some ds => some (ds.any fun z => PyData.eqv z d)
        | none => none)
      | none => none)
    | none => (match dctV mu b with
      | some kvs => (match keyOf a with
        | some k => some (kvs.lookup k).isSome
        | none => none)
      | none => none)) = some c → wpAny (model X.prog X.w) X.A (compareOp op v u) (EP X pins σ Q) X.xe s := by
    intro b rb e
    cases e1 : seqL mu b with
    | some ys =>
      rw [e1] at e
      obtain ⟨l, vs, ey, g1, g2⟩ := seqL_ok R rb e1
      exact seqs g2 ⟨l, ey, .inl (SqL.of g1)⟩ e
    | none =>
      rw [e1] at e
      simp only at e
      cases e2 : dctV mu b with
      | none => rw [e2] at e; cases e
      | some kvs =>
        rw [e2] at e
        simp only at e
        cases e3 : keyOf a with
        | none => rw [e3] at e; cases e
        | some k =>
          rw [e3] at e
          cases e
          obtain ⟨l, ks, rfl, g1, g2⟩ := dctV_ok R rb e2
          obtain ⟨k', rfl, hk⟩ := keyOf_ok ra e3
          obtain ⟨i1, i2⟩ := KVR.look hk g2
          obtain rfl : u = Value.ref l := ru
          refine h4 I (DGet.k g1) rv fun s' I' => ⟨.bl _, H, I', rfl, ?_⟩
          have : (valV ks k').isSome = (kvs.lookup k).isSome := by
            cases e4 : kvs.lookup k with
            | none => rw [i2 e4]; rfl
            | some x => obtain ⟨w, e5, _⟩ := i1 x e4; rw [e5]; rfl
          rw [this]
          exact q.now R (.bl _)
  cases rb with
  | str t =>
    cases ra with
    | str i =>
      simp only [inB] at e
      split at e
      · rename_i heq
        cases heq
        cases e
        exact h1 pins s σ H _ _ v u Q I rv ru ⟨_, S t, rfl, rfl, q.now R (.bl _)⟩
      · cases e
    | _ => cases e
  | tup g1 g2 => exact seqs g2 ⟨_, rfl, .inr (sub_t R.sub g1)⟩ e
  | lst g1 g2 => exact others (.lst g1 g2) e
  | ref g1 => exact others (.ref g1) e
  | dct g1 g2 => exact others (.dct g1 g2) e
  | _ => cases e
theorem op_inV (hu : X.A.units + 200 < cLine) : OpR X (compareOp .In) (G2 X.K cA inV2) :=
  in_any (f := fun c => c) hu op_in_sign (fun a b c d e f => SeqAt.in_list_data a b c d e f) (fun a b c d e f => SeqAt.in_tuple_data a b c d e f) (fun I g r h => d_in (by omega) I g r h)
theorem op_ninV (hu : X.A.units + 200 < cLine) : OpR X (compareOp .NotIn) (G2 X.K cA ninV2) :=
  in_any (f := fun c => !c) hu op_notIn_sign (fun a b c d e f => SeqAt.notIn_list_data a b c d e f) (fun a b c d e f => SeqAt.notIn_tuple_data a b c d e f) (fun I g r h => d_notIn (by omega) I g r h)
/-! is None -/
def isNil : Val → Option Bool
  | .non => some true
  | .vw _ => none
  | _ => some false
def isNV (_ : Store) (a b : Val) : Option Val := match b with
  | .non => (isNil a).map .bl
  | _ => none
def notNV (_ : Store) (a b : Val) : Option Val := match b with
  | .non => (isNil a).map fun k => .bl (!k)
  | _ => none
theorem isNil_ok {K : PySem.W.Frag} {F : Fz} {p : List Addr} {a : Val} {v : V} {k : Bool} (r : VR K cA F p a v) (e : isNil a = some k) : decide (v = .non) = k := by cases r <;> simp [isNil] at e ⊢ <;> exact e
theorem op_isNV : OpR X (compareOp .Is) (G2 X.K cA isNV) := by
  intro pins s σ H x y v u Q I rv ru h
  obtain ⟨F, p, mu, a, b, z, R, ra, rb, e, q⟩ := h
  cases rb with
  | non =>
    obtain ⟨k, e1, e2⟩ := Option.map_eq_some_iff.mp (show (isNil a).map Val.bl = some z from e)
    subst e2
    exact op_isN pins s σ H _ _ v u Q I rv ru ⟨rfl, by rw [isNil_ok ra e1]; exact q.now R (.bl _)⟩
  | _ => cases e
theorem op_notNV : OpR X (compareOp .IsNot) (G2 X.K cA notNV) := by
  intro pins s σ H x y v u Q I rv ru h
  obtain ⟨F, p, mu, a, b, z, R, ra, rb, e, q⟩ := h
  cases rb with
  | non =>
    obtain ⟨k, e1, e2⟩ := Option.map_eq_some_iff.mp (show (isNil a).map (fun k => Val.bl (!k)) = some z from e)
    subst e2
    exact op_notN pins s σ H _ _ v u Q I rv ru ⟨rfl, by rw [isNil_ok ra e1]; exact q.now R (.bl _)⟩
  | _ => cases e
/-! truth -/
def truV (mu : Store) : Val → Option Bool
  | .non => some false
  | .bl b => some b
  | .int i => some (i != 0)
  | .str s => if s.length ≤ 100000 then some (!s.isEmpty) else none
  | .tup xs => some (!xs.isEmpty)
  | .lst xs => some (!xs.isEmpty)
  | .dct xs => some (!xs.isEmpty)
  | .ref r => (match mu[r]? with
    | some (.lst xs) => some (!xs.isEmpty)
    | some (.dct xs) => some (!xs.isEmpty)
    | _ => none)
  | _ => none
theorem vrs_emp {K : PySem.W.Frag} {F : Fz} {p : List Addr} {vs : List V} {xs : List Val} (h : VRs K cA F p xs vs) : (!xs.isEmpty) = !vs.isEmpty := by cases h <;> rfl
theorem kvr_emp {K : PySem.W.Frag} {F : Fz} {p : List Addr} {vs : List (L2.Key × V)} {xs : List (DKey × Val)} (h : KVR K cA F p xs vs) : (!xs.isEmpty) = !vs.isEmpty := by cases h <;> rfl
theorem truV_ok {K : PySem.W.Frag} {F : Fz} {H : Hp} {p : List Addr} {mu : Store} {a : Val} {v : V} {k : Bool} (R : Rel K cA F p mu H) (r : VR K cA F p a v) (e : truV mu a = some k) : TruV K v H k := by
  cases r with
  | non => cases e; rfl
  | bl b => cases e; rfl
  | int i => cases e; rfl
  | str s =>
    simp only [truV] at e
    by_cases hc : s.length ≤ 100000
    · rw [if_pos hc] at e
      cases e
      refine ⟨line5' (by rw [S_len]; exact hc), ?_⟩
      rw [S_len]
      cases s <;> simp
      omega
    · rw [if_neg hc] at e; cases e
  | tup h1 h2 => cases e; exact .inr (.inl ⟨_, sub_t R.sub h1, vrs_emp h2⟩)
  | lst h1 h2 => cases e; exact .inl ⟨_, SqL.of (R.sub _ _ h1), vrs_emp h2⟩
  | dct h1 h2 => cases e; exact .inr (.inr ⟨_, R.sub _ _ h1, kvr_emp h2⟩)
  | ref h1 =>
    obtain ⟨c, h2, h3⟩ := R.at_some h1
    simp only [truV, h2] at e
    cases c with
    | lst xs => cases e; obtain ⟨vs, q1, q2⟩ := h3; exact .inl ⟨_, SqL.of q1, vrs_emp q2⟩
    | dct xs => cases e; obtain ⟨vs, q1, q2⟩ := h3; exact .inr (.inr ⟨_, q1, kvr_emp q2⟩)
    | obj C xs => cases e
  | _ => cases e
def tstM (m : M Val) : M Bool := fun r mu => (m r mu).bind fun v mu1 => optR (truV mu1 v) mu1
def tB (m : M Val) : M Bool := fun r mu => (m r mu).bind fun v mu1 => match v with
  | .bl b => .ok b mu1
  | _ => .bad
variable {W : WX} {a b c e : Expr} {es : List Expr} {ma mb mc : M Val} {ms : M (List Val)} {mt mu' : M Bool} {pos : Pos}
theorem post_optB {K : PySem.W.Frag} {F : Fz} {p : List Addr} {s : L2.St} {Q : Bool → Hp → Prop} {o : Option Bool} {mu : Store} {H : Hp} (R : Rel K cA F p mu H) (h : Post K cA (fun _ _ (a b : Bool) => a = b) W s F p Q (optR o mu)) : ∃ z, o = some z ∧ Q z H := by
  cases o with
  | none => exact h.elim
  | some z => exact ⟨z, rfl, h F p H z (Sub.refl F) (List.prefix_refl p) R rfl⟩
/-- a value's truth -/
theorem c_test (ha : PEM X cA W a ma) (he : ∀ whole, isTrue a X.env whole = (do let v ← whole; standAt a.pos; holding [v] (truthy v)) := by intro _; rfl) : PTM X cA W a (tstM ma) :=
  pt_weak (pt_truth ha he) fun s H Q ⟨F, p, r, mu, h1, h2, h3⟩ => bindAt h1 h2 h3 fun F1 p1 mu1 x v H1 a1 b1 c1 d1 e1 f1 => by
    obtain ⟨z, e, q⟩ := post_optB c1 f1
    exact ⟨z, truV_ok c1 e1 e, q⟩
theorem denB {K : PySem.W.Frag} {s : L2.St} {H : Hp} {Q : Bool → Hp → Prop} {m : M Val} (h : DT K cA W (tB m) s H Q) : DE K cA W m s H (fun x H' => ∃ k, x = .bl k ∧ Q k H') := by
  obtain ⟨F, p, r, mu, h1, h2, h3⟩ := h
  refine bindAt h1 h2 h3 fun F1 p1 mu1 x v H1 a1 b1 c1 d1 e1 f1 => ?_
  cases e1 with
  | bl b => exact ⟨b, rfl, f1 F1 p1 H1 b (Sub.refl F1) (List.prefix_refl p1) c1 rfl⟩
  | _ => exact f1.elim
theorem c_tcmp {op : CmpOp} {g : Store → Val → Val → Option Val} (ho : OpR X (compareOp op) (G2 X.K cA g)) (ha : PEM X cA W a ma) (hb : PEM X cA W b mb) (hm : behindInMarks op b = false := by first | exact nobehind _ (by decide) (by decide) | rfl) : PTM X cA W (.Compare a [op] [b] pos) (tB (b2 g ma mb)) :=
  pt_weak (pt_cmpR ho ha hb hm) fun s H Q h => den2 (denB h)
/-! and, or, not, the conditional expression -/
def andT (ma mb : M Bool) : M Bool := fun r mu => (ma r mu).bind fun c mu1 => if c = true then mb r mu1 else .ok false mu1
def orT (ma mb : M Bool) : M Bool := fun r mu => (ma r mu).bind fun c mu1 => if c = true then .ok true mu1 else mb r mu1
def notT (ma : M Bool) : M Bool := fun r mu => (ma r mu).bind fun c mu1 => .ok (!c) mu1
def ifM {α : Type} (mt : M Bool) (ma mb : M α) : M α := fun r mu => (mt r mu).bind fun c mu1 => if c = true then ma r mu1 else mb r mu1
theorem c_pt (h : PWM X cA W e mt) : PTM X cA W e mt := PW.pt h
theorem c_tand1 (ha : PTM X cA W a mt) : PWM X cA W (.BoolOp .And [a] pos) mt := pw_and1 ha
theorem c_tor1 (ha : PTM X cA W a mt) : PWM X cA W (.BoolOp .Or [a] pos) mt := pw_or1 ha
theorem c_tand {rest : List Expr} (ha : PTM X cA W a mt) (hb : PWM X cA W (.BoolOp .And (b :: rest) pos) mu') : PWM X cA W (.BoolOp .And (a :: b :: rest) pos) (andT mt mu') :=
  pw_weak (pw_and ha hb) fun s H Q ⟨F, p, r, mu, h1, h2, h3⟩ => bindAt h1 h2 h3 fun F1 p1 mu1 x v H1 a1 b1 c1 d1 e1 f1 => by
    subst e1
    cases x with
    | true => exact ⟨F1, p1, r, mu1, c1, d1, f1⟩
    | false => exact f1 F1 p1 H1 false (Sub.refl F1) (List.prefix_refl p1) c1 rfl
theorem c_tor {rest : List Expr} (ha : PTM X cA W a mt) (hb : PWM X cA W (.BoolOp .Or (b :: rest) pos) mu') : PWM X cA W (.BoolOp .Or (a :: b :: rest) pos) (orT mt mu') :=
  pw_weak (pw_or ha hb) fun s H Q ⟨F, p, r, mu, h1, h2, h3⟩ => bindAt h1 h2 h3 fun F1 p1 mu1 x v H1 a1 b1 c1 d1 e1 f1 => by
    subst e1
    cases x with
    | false => exact ⟨F1, p1, r, mu1, c1, d1, f1⟩
    | true => exact f1 F1 p1 H1 true (Sub.refl F1) (List.prefix_refl p1) c1 rfl
theorem c_tnot (ha : PTM X cA W a mt) : PTM X cA W (.UnaryOp .Not a pos) (notT mt) :=
  pt_weak (pt_not ha) fun s H Q ⟨F, p, r, mu, h1, h2, h3⟩ => bindAt h1 h2 h3 fun F1 p1 mu1 x v H1 a1 b1 c1 d1 e1 f1 => by
    subst e1
    exact f1 F1 p1 H1 _ (Sub.refl F1) (List.prefix_refl p1) c1 rfl
theorem c_if (hc : PTM X cA W c mt) (ha : PEM X cA W a ma) (hb : PEM X cA W b mb) : PEM X cA W (.IfExp c a b pos) (ifM mt ma mb) :=
  pe_weak (pe_ifExp hc ha hb) fun s H Q ⟨F, p, r, mu, h1, h2, h3⟩ => bindAt h1 h2 h3 fun F1 p1 mu1 x v H1 a1 b1 c1 d1 e1 f1 => by
    subst e1
    cases x with
    | true => exact ⟨F1, p1, r, mu1, c1, d1, f1⟩
    | false => exact ⟨F1, p1, r, mu1, c1, d1, f1⟩
/-- .. as values: truth values alone -/
def blM (m : M Bool) : M Val := fun r mu => (m r mu).bind fun c mu1 => .ok (.bl c) mu1
theorem denV {K : PySem.W.Frag} {s : L2.St} {H : Hp} {Q : VK} {m : M Bool} (h : DE K cA W (blM m) s H Q) : DT K cA W m s H (fun k H' => Q (.bl k) H') := by
  obtain ⟨F, p, r, mu, h1, h2, h3⟩ := h
  refine bindAt h1 h2 h3 fun F1 p1 mu1 x v H1 a1 b1 c1 d1 e1 f1 => ?_
  subst e1
  exact f1 F1 p1 H1 _ (Sub.refl F1) (List.prefix_refl p1) c1 (.bl _)
def andM (ma mb : M Val) : M Val := fun r mu => (ma r mu).bind fun x mu1 => match x with
  | .bl c => if c = true then mb r mu1 else .ok (.bl false) mu1
  | _ => .bad
def orM (ma mb : M Val) : M Val := fun r mu => (ma r mu).bind fun x mu1 => match x with
  | .bl c => if c = true then .ok (.bl true) mu1 else mb r mu1
  | _ => .bad
def notM (ma : M Val) : M Val := fun r mu => (ma r mu).bind fun x mu1 => match x with
  | .bl c => .ok (.bl (!c)) mu1
  | _ => .bad
theorem c_one {op} (ha : PEM X cA W a ma) : PEM X cA W (.BoolOp op [a] pos) ma := pe_one ha
theorem c_and {rest : List Expr} (ha : PEM X cA W a ma) (hb : PEM X cA W (.BoolOp .And (b :: rest) pos) mb) : PEM X cA W (.BoolOp .And (a :: b :: rest) pos) (andM ma mb) :=
  pe_weak (pe_and ha hb) fun s H Q ⟨F, p, r, mu, h1, h2, h3⟩ => bindAt h1 h2 h3 fun F1 p1 mu1 x v H1 a1 b1 c1 d1 e1 f1 => by
    cases e1 with
    | bl k =>
      refine ⟨k, rfl, ?_⟩
      cases k with
      | true => exact ⟨F1, p1, r, mu1, c1, d1, f1⟩
      | false => exact f1 F1 p1 H1 _ (Sub.refl F1) (List.prefix_refl p1) c1 (.bl _)
    | _ => exact f1.elim
theorem c_or {rest : List Expr} (ha : PEM X cA W a ma) (hb : PEM X cA W (.BoolOp .Or (b :: rest) pos) mb) : PEM X cA W (.BoolOp .Or (a :: b :: rest) pos) (orM ma mb) :=
  pe_weak (pe_or ha hb) fun s H Q ⟨F, p, r, mu, h1, h2, h3⟩ => bindAt h1 h2 h3 fun F1 p1 mu1 x v H1 a1 b1 c1 d1 e1 f1 => by
    cases e1 with
    | bl k =>
      refine ⟨k, rfl, ?_⟩
      cases k with
      | false => exact ⟨F1, p1, r, mu1, c1, d1, f1⟩
      | true => exact f1 F1 p1 H1 _ (Sub.refl F1) (List.prefix_refl p1) c1 (.bl _)
    | _ => exact f1.elim
theorem c_not (ha : PEM X cA W a ma) : PEM X cA W (.UnaryOp .Not a pos) (notM ma) :=
  pe_weak (pe_not ha) fun s H Q ⟨F, p, r, mu, h1, h2, h3⟩ => bindAt h1 h2 h3 fun F1 p1 mu1 x v H1 a1 b1 c1 d1 e1 f1 => by
    cases e1 with
    | bl k => exact ⟨k, rfl, f1 F1 p1 H1 _ (Sub.refl F1) (List.prefix_refl p1) c1 (.bl _)⟩
    | _ => exact f1.elim
end
end CC

set_option Elab.async false
set_option linter.all false
set_option maxRecDepth 100000
set_option maxHeartbeats 2000000
/-! CC6: places, slices, chains, calls of built-ins and their methods. -/
namespace CC
open PySem PySem.Spec PyProof.Rows L2
/-! ### a[b] -/
def ixV (mu : Store) (a b : Val) : Option Val := match dctV mu a with
  | some kvs => (match keyOf b with
    | some k => kvs.lookup k
    | none => none)
  | none => (match b with
    | .int i => (match a with
      | .tup xs => atI xs i
      | .str s => if s.length ≤ 100000 then (atI s i).map fun c => Val.str [c] else none
      | .scr ns => (atI ns i).map Val.int
      | a => (match seqL mu a with
        | some xs => atI xs i
        | none => none))
    | _ => none)
theorem atI_map {α β : Type} {f : α → β} {xs : List α} {i : Int} {z : α} (h : atI xs i = some z) : atI (xs.map f) i = some (f z) := by
  unfold atI at h ⊢
  rw [List.length_map]
  cases e : ixN xs.length i with
  | none => rw [e] at h; cases h
  | some j =>
    rw [e] at h
    show (xs.map f)[j]? = some (f z)
    rw [List.getElem?_map]
    have h' : xs[j]? = some z := h
    rw [h']
    rfl
theorem VRs.at {K : PySem.W.Frag} {cA : CI} {F : Fz} {p : List Addr} {xs : List Val} {vs : List V} {i : Int} {z : Val} (r : VRs K cA F p xs vs) (h : atI xs i = some z) : ∃ v, atI vs i = some v ∧ VR K cA F p z v := by
  unfold atI at h ⊢
  rw [← r.length]
  cases e : ixN xs.length i with
  | none => rw [e] at h; cases h
  | some j =>
    rw [e] at h
    exact r.get h
section
variable {X : Cx} {cA : CI} {W : WX} {a b c e : Expr} {es : List Expr} {ma mb mc : M Val} {ms : M (List Val)} {mt mt' : M Bool} {pos : Pos}
theorem ix_any (hu : X.A.units + 200 < cLine) : IxR X (G2 X.K cA ixV) := by
  intro value slice pins s σ H x y v u Q I rv ru h hs
  obtain ⟨F, p, mu, a, b, z, R, ra, rb, e, q⟩ := h
  unfold ixV at e
  cases e1 : dctV mu a with
  | some kvs =>
    rw [e1] at e
    simp only at e
    cases e2 : keyOf b with
    | none => rw [e2] at e; cases e
    | some k =>
      rw [e2] at e
      obtain ⟨l, ks, rfl, g1, g2⟩ := dctV_ok R ra e1
      obtain ⟨k', rfl, hk⟩ := keyOf_ok rb e2
      obtain ⟨w, ew, rw'⟩ := (KVR.look hk g2).1 z e
      obtain rfl : v = Value.ref l := rv
      have g : DGet H l (kV k') (some w) := by rw [← ew]; exact DGet.k g1
      exact tail_any (dict_typeIs I g) PySem.F.slot_dict_getitem.lookup (d_getItem (by omega) I g ru fun w' s' I' r' => ⟨w, H, I', r', q.now R rw'⟩) hs
  | none =>
    rw [e1] at e
    simp only at e
    cases rb with
    | int i =>
      have seqs : ∀ {a : Val}, VR X.K cA F p a x → (match seqL mu a with
        | some xs => atI xs i
        | none => none) = some z → wpAny (model X.prog X.w) X.A (subscriptTail value slice v u) (EP X pins σ Q) X.xe s := by
        intro a ra e
        cases e2 : seqL mu a with
        | none => rw [e2] at e; cases e
        | some xs =>
          rw [e2] at e
          obtain ⟨l, vs, rfl, g1, g2⟩ := seqL_ok R ra e2
          obtain ⟨w, ew, rw'⟩ := g2.at e
          exact ix_list value slice pins s σ H _ _ v u Q I rv ru ⟨l, vs, i, w, rfl, rfl, SqL.of g1, ew, q.now R rw'⟩ hs
      cases ra with
      | tup g1 g2 =>
        obtain ⟨w, ew, rw'⟩ := g2.at e
        exact ix_tup value slice pins s σ H _ _ v u Q I rv ru ⟨_, _, i, w, rfl, rfl, sub_t R.sub g1, ew, q.now R rw'⟩ hs
      | str t =>
        simp only at e
        by_cases hc : t.length ≤ 100000
        · rw [if_pos hc] at e
          obtain ⟨d, e2, rfl⟩ := Option.map_eq_some_iff.mp e
          exact ix_str value slice pins s σ H _ _ v u Q I rv ru ⟨S t, i, d, rfl, rfl, line5' (by rw [S_len]; exact hc), by simpa [S] using e2, q.now R (.str [d])⟩ hs
        · rw [if_neg hc] at e; cases e
      | scr g =>
        obtain ⟨d, e2, rfl⟩ := Option.map_eq_some_iff.mp e
        exact ix_list value slice pins s σ H _ _ v u Q I rv ru ⟨_, _, i, .int d, rfl, rfl, sub_l R.sub g, atI_map e2, q.now R (.int d)⟩ hs
      | lst g1 g2 => exact seqs (.lst g1 g2) e
      | ref g1 => exact seqs (.ref g1) e
      | _ => cases e
    | _ => cases e
theorem c_ix (hu : X.A.units + 200 < cLine) (ha : PEM X cA W a ma) (hb : PEM X cA W b mb) (hs : PlainIx b := by intro _ _; rfl) : PEM X cA W (.Subscript a b pos) (b2 ixV ma mb) :=
  pe_weak (pe_ix (ix_any hu) ha hb hs) fun s H Q h => den2 h
/-! ### a[lo:hi] -/
def cutL {α : Type} (xs : List α) (lo hi : Option Int) : List α := (xs.drop (HT.sIx xs.length 0 lo)).take (HT.sIx xs.length xs.length hi - HT.sIx xs.length 0 lo)
def slV (mu : Store) (a : Val) (lo hi : Option Int) : Option Val := match a with
  | .str s => if s.length ≤ 100000 then some (.str (cutL s lo hi)) else none
  | .tup xs => some (.tup (cutL xs lo hi))
  | .scr ns => some (.lst ((cutL ns lo hi).map Val.int))
  | a => (match seqL mu a with
    | some xs => some (.lst (cutL xs lo hi))
    | none => none)
theorem VRs.cut {K : PySem.W.Frag} {cA : CI} {F : Fz} {p : List Addr} {xs : List Val} {vs : List V} (r : VRs K cA F p xs vs) (lo hi : Option Int) : VRs K cA F p (cutL xs lo hi) (cutV vs lo hi) := by
  unfold cutL cutV
  rw [r.length]
  exact (r.drop _).take _
theorem cutL_all {α : Type} {xs : List α} {lo hi : Option Int} (h : HT.sIx xs.length 0 lo = 0 ∧ HT.sIx xs.length xs.length hi = xs.length) : cutL xs lo hi = xs := by
  unfold cutL
  rw [h.1, h.2, List.drop_zero, Nat.sub_zero, List.take_length]
theorem cutV_map {ns : List Int} {lo hi : Option Int} : cutV (ns.map V.int) lo hi = (cutL ns lo hi).map V.int := by
  unfold cutL cutV
  rw [List.length_map, List.map_take, List.map_drop]
def GSl (K : PySem.W.Frag) (cA : CI) (g : Store → Val → Option Int → Option Int → Option Val) : V → Option Int → Option Int → Hp → VK → Prop := fun x lo hi H Q => ∃ F p mu a z, Rel K cA F p mu H ∧ VR K cA F p a x ∧ g mu a lo hi = some z ∧ GQ K cA F p mu z Q
theorem sl_any : SlR X (GSl X.K cA slV) := by
  intro pins s σ H x v vl vu lo hi sl Q I rx hs pl pu h
  obtain ⟨F, p, mu, a, z, R, ra, e, q⟩ := h
  have seqs : ∀ {a : Val}, VR X.K cA F p a x → (match seqL mu a with
    | some xs => some (Val.lst (cutL xs lo hi))
    | none => none) = some z → ∃ T id, typeLookup (.type T) "__getitem__" = pure (some (.builtin id)) ∧ s.TypeIs v T ∧ wpAny (model X.prog X.w) X.A (getItem v (.ref sl)) (EP X pins σ Q) X.xe s := by
    intro a ra e
    cases e2 : seqL mu a with
    | none => rw [e2] at e; cases e
    | some xs =>
      rw [e2] at e
      cases e
      obtain ⟨l, vs, rfl, g1, g2⟩ := seqL_ok R ra e2
      exact sl_list pins s σ H _ v vl vu lo hi sl Q I rx hs pl pu ⟨l, vs, rfl, SqL.of g1, fun a ha => q.lst R (g2.cut lo hi) ha⟩
  cases ra with
  | str t =>
    simp only [slV] at e
    by_cases hc : t.length ≤ 100000
    · rw [if_pos hc] at e
      cases e
      refine sl_str pins s σ H _ v vl vu lo hi sl Q I rx hs pl pu ⟨S t, rfl, line5' (by rw [S_len]; exact hc), ?_⟩
      have : cutS (S t) lo hi = S (cutL t lo hi) := by
        unfold cutS cutL
        rw [S_len]
      rw [this]
      exact q.now R (.str _)
    · rw [if_neg hc] at e; cases e
  | tup g1 g2 =>
    cases e
    refine sl_tupA pins s σ H _ v vl vu lo hi sl Q I rx hs pl pu ⟨_, _, rfl, sub_t R.sub g1, fun hw => ?_, fun hw p hp => q.tup R (g2.cut lo hi) hp⟩
    rw [← g2.length] at hw
    rw [cutL_all hw] at q
    exact q.now R (.tup g1 g2)
  | scr g =>
    cases e
    refine sl_list pins s σ H _ v vl vu lo hi sl Q I rx hs pl pu ⟨_, _, rfl, sub_l R.sub g, fun a ha => ?_⟩
    rw [cutV_map]
    exact q.lst R (.map_int _) ha
  | lst g1 g2 => exact seqs (.lst g1 g2) e
  | ref g1 => exact seqs (.ref g1) e
  | _ => cases e
/-- a part of a slice -/
def POM (X : Cx) (cA : CI) (W : WX) (o : Option Expr) (m : M (Option Int)) : Prop := PO X o (Den X.K cA (fun _ _ (a b : Option Int) => a = b) W m)
def noP : M (Option Int) := fun _ mu => .ok none mu
def inP (m : M Val) : M (Option Int) := fun r mu => (m r mu).bind fun v mu1 => match v with
  | .int i => .ok (some i) mu1
  | _ => .bad
def slM (g : Store → Val → Option Int → Option Int → Option Val) (ma : M Val) (ml mh : M (Option Int)) : M Val := fun r mu => (ma r mu).bind fun x mu1 => (ml r mu1).bind fun l mu2 => (mh r mu2).bind fun h mu3 => optR (g mu3 x l h) mu3
theorem po_weak {o : Option Expr} {t t' : TO} (h : PO X o t) (w : ∀ s H Q, t' s H Q → t s H Q) : PO X o t' := ⟨fun pins s σ H Q I q => h.run pins s σ H Q I (w _ _ _ q)⟩
theorem c_noP : POM X cA W none noP := po_weak po_none fun s H Q ⟨F, p, r, mu, h1, h2, h3⟩ => h3 F p H none (Sub.refl F) (List.prefix_refl p) h1 rfl
theorem c_inP (ha : PEM X cA W a ma) : POM X cA W (some a) (inP ma) := po_weak (po_some ha) fun s H Q ⟨F, p, r, mu, h1, h2, h3⟩ => bindAt h1 h2 h3 fun F1 p1 mu1 x v H1 a1 b1 c1 d1 e1 f1 => by
  cases e1 with
  | int i => exact ⟨i, rfl, f1 F1 p1 H1 _ (Sub.refl F1) (List.prefix_refl p1) c1 rfl⟩
  | _ => exact f1.elim
theorem c_sl {lo hi : Option Expr} {ml mh : M (Option Int)} {p2 : Pos} (ha : PEM X cA W a ma) (hl : POM X cA W lo ml) (hh : POM X cA W hi mh) : PEM X cA W (.Subscript a (.Slice lo hi none p2) pos) (slM slV ma ml mh) :=
  pe_weak (pe_slice sl_any ha hl hh) fun s H Q ⟨F, p, r, mu, h1, h2, h3⟩ => by
    refine bindAt h1 h2 h3 fun F1 p1 mu1 x v H1 a1 b1 c1 d1 e1 f1 => ?_
    refine bindAt c1 d1 f1 fun F2 p2 mu2 y w H2 a2 b2 c2 d2 e2 f2 => ?_
    refine bindAt c2 d2 f2 fun F3 p3 mu3 y3 w3 H3 a3 b3 c3 d3 e3 f3 => ?_
    subst e2
    subst e3
    obtain ⟨z, e, q⟩ := post_opt f3
    exact ⟨F3, p3, mu3, x, z, c3, e1.mono (a2.trans a3) (b2.trans b3), e, q⟩
/-! ### a op b op c -/
def chM (g g' : Store → Val → Val → Option Val) (ma mb mc : M Val) : M Val := fun r mu => (ma r mu).bind fun x mu1 => (mb r mu1).bind fun y mu2 => match g mu2 x y with
  | some (.bl k) => if k = true then (mc r mu2).bind fun w mu3 => optR (g' mu3 y w) mu3 else .ok (.bl false) mu2
  | _ => .bad
theorem denCh {K : PySem.W.Frag} {s : L2.St} {H : Hp} {Q : VK} {g g' : Store → Val → Val → Option Val} (hg : ∀ mu x y z, g mu x y = some z → ∃ k, z = .bl k) (h : DE K cA W (chM g g' ma mb mc) s H Q) : tChain (G2 K cA g) (G2 K cA g') (DE K cA W ma) (DE K cA W mb) (DE K cA W mc) s H Q := by
  obtain ⟨F, p, r, mu, h1, h2, h3⟩ := h
  refine bindAt h1 h2 h3 fun F1 p1 mu1 x v H1 a1 b1 c1 d1 e1 f1 => ?_
  refine bindAt c1 d1 f1 fun F2 p2 mu2 y w H2 a2 b2 c2 d2 e2 f2 => ?_
  cases eg : g mu2 x y with
  | none => rw [eg] at f2; exact f2.elim
  | some z =>
    obtain ⟨k, rfl⟩ := hg _ _ _ _ eg
    rw [eg] at f2
    refine ⟨F2, p2, mu2, x, y, _, c2, e1.mono a2 b2, e2, eg, fun F' H' v' s' R' r' => ?_⟩
    cases r'
    refine ⟨k, rfl, ?_⟩
    cases k with
    | true =>
      simp only [if_true] at f2 ⊢
      have f2' := Post.mono s' (List.prefix_refl p2) f2
      refine bindAt R' (d2.mono s' (List.prefix_refl p2)) f2' fun F3 p3 mu3 y3 w3 H3 a3 b3 c3 d3 e3 f3 => ?_
      obtain ⟨z, e, q⟩ := post_opt f3
      exact ⟨F3, p3, mu3, y, y3, z, c3, (e2.mono s' (List.prefix_refl p2)).mono a3 b3, e3, e, q⟩
    | false =>
      simp only [Bool.false_eq_true, if_false] at f2 ⊢
      exact f2 F' p2 H' _ s' (List.prefix_refl p2) R' (.bl _)
theorem ordV_bl {f : Int → Int → Bool} {g : List Nat → List Nat → Bool} : ∀ mu x y z, ordV f g mu x y = some z → ∃ k, z = .bl k := by
  intro mu x y z h
  unfold ordV at h
  cases x <;> cases y <;> simp at h <;> exact ⟨_, h.symm⟩
theorem eqV_bl : ∀ mu x y z, eqV mu x y = some z → ∃ k, z = .bl k := fun mu x y z h => by
  obtain ⟨d, e, _, _, rfl⟩ := eqV_cases h
  exact ⟨_, rfl⟩
theorem c_chain {op op' : CmpOp} {g g' : Store → Val → Val → Option Val} (ho : OpR X (compareOp op) (G2 X.K cA g)) (ho' : OpR X (compareOp op') (G2 X.K cA g')) (hg : ∀ mu x y z, g mu x y = some z → ∃ k, z = .bl k) (ha : PEM X cA W a ma) (hb : PEM X cA W b mb) (hc : PEM X cA W c mc)
    (hm : lastMarks [op, op'] [b, c] = false := by with_unfolding_all rfl) : PEM X cA W (.Compare a [op, op'] [b, c] pos) (chM g g' ma mb mc) :=
  pe_weak (pe_chain ho ho' ha hb hc hm) fun s H Q h => denCh hg h
theorem c_tchain {op op' : CmpOp} {g g' : Store → Val → Val → Option Val} (ho : OpR X (compareOp op) (G2 X.K cA g)) (ho' : OpR X (compareOp op') (G2 X.K cA g')) (hg : ∀ mu x y z, g mu x y = some z → ∃ k, z = .bl k) (ha : PEM X cA W a ma) (hb : PEM X cA W b mb) (hc : PEM X cA W c mc)
    (hm : lastMarks [op, op'] [b, c] = false := by with_unfolding_all rfl) : PTM X cA W (.Compare a [op, op'] [b, c] pos) (tB (chM g g' ma mb mc)) :=
  pt_weak (pt_chain ho ho' ha hb hc hm) fun s H Q h => denCh hg (denB h)
end
end CC

set_option Elab.async false
set_option linter.all false
set_option maxRecDepth 100000
set_option maxHeartbeats 2000000
/-! CC7: calls of built-ins, their methods, f-strings, dicts. -/
namespace CC
open PySem PySem.Spec PyProof.Rows L2
section
variable {X : Cx} {cA : CI} {W : WX} {a b c e : Expr} {es : List Expr} {ma mb mc : M Val} {ms : M (List Val)} {pos : Pos}
theorem denA {K : PySem.W.Frag} {s : L2.St} {H : Hp} {Q : VK} {g : Store → List Val → Option Val} (h : DE K cA W (fA g ms) s H Q) : DA K cA W ms s H (fun vs H1 => GA K cA g vs H1 Q) := by
  obtain ⟨F, p, r, mu, h1, h2, h3⟩ := h
  refine bindAt h1 h2 h3 fun F1 p1 mu1 x v H1 a1 b1 c1 d1 e1 f1 => ?_
  obtain ⟨z, e, q⟩ := post_opt f1
  exact ⟨F1, p1, mu1, x, z, c1, e1, e, q⟩
theorem c_callB {id : String} {x : Str} {p : Pos} {g : Store → List Val → Option Val} (hc : CallR X (.builtin id) (GA X.K cA g)) (hm : X.mg x = none) (ha : PAM X cA W (e :: es) ms) (hg : Gl X x := by rfl) (hv : bootBuiltins x = some (.builtin id) := by rfl) (hn : x ≠ "__name__" := by decide) (hdb : (x == ("__debug__" : Str)) = false := by decide)
    (he : starEach (e :: es) X.env = (false, eval e X.env) :: starEach es X.env := by rfl) (hpl : (backTo pos (starEach es X.env)).any (·.1) = false := by rfl) : PEM X cA W (.Call (.Name x p) (e :: es) [] pos) (fA g ms) :=
  pe_weak (pe_callB hc hg hm hv ha hn hdb he hpl) fun s H Q h => denA h
theorem c_callTy {T : String} {x : Str} {p : Pos} {g : Store → List Val → Option Val} (hc : CallR X (.type T) (GA X.K cA g)) (hm : X.mg x = none) (ha : PAM X cA W (e :: es) ms) (hg : Gl X x := by rfl) (hv : bootBuiltins x = some (.type T) := by rfl) (hn : x ≠ "__name__" := by decide) (hdb : (x == ("__debug__" : Str)) = false := by decide)
    (he : starEach (e :: es) X.env = (false, eval e X.env) :: starEach es X.env := by rfl) (hpl : (backTo pos (starEach es X.env)).any (·.1) = false := by rfl) : PEM X cA W (.Call (.Name x p) (e :: es) [] pos) (fA g ms) :=
  pe_weak (pe_callTy hc hg hm hv ha hn hdb he hpl) fun s H Q h => denA h
end
section
variable {K : PySem.W.Frag} {cA : CI} {F : Fz} {H : Hp} {p : List Addr} {mu : Store}
theorem vrs1 {x : Val} {vs : List V} (r : VRs K cA F p [x] vs) : ∃ v, vs = [v] ∧ VR K cA F p x v := by
  cases r with
  | cons a b => cases b; exact ⟨_, rfl, a⟩
theorem vrs2 {x y : Val} {vs : List V} (r : VRs K cA F p [x, y] vs) : ∃ v w, vs = [v, w] ∧ VR K cA F p x v ∧ VR K cA F p y w := by
  cases r with
  | cons a b =>
    obtain ⟨w, rfl, h⟩ := vrs1 b
    exact ⟨_, _, rfl, a, h⟩
/-- a list of one kind -/
def intO : Val → Option Int
  | .int i => some i
  | _ => none
def blO : Val → Option Bool
  | .bl i => some i
  | _ => none
def strO : Val → Option (List Nat)
  | .str i => some i
  | _ => none
theorem mapO_ok {α : Type} {f : Val → Option α} {g : α → V} (h : ∀ x z v, f x = some z → VR K cA F p x v → v = g z) : ∀ {xs : List Val} {zs : List α} {vs : List V}, mapO f xs = some zs → VRs K cA F p xs vs → vs = zs.map g
  | [], zs, vs, e, r => by cases e; cases r; rfl
  | x :: xs, zs, vs, e, r => by
    obtain ⟨y, ys, h1, h2, rfl⟩ := mapO_cons e
    cases r with
    | cons r1 r2 => rw [h _ _ _ h1 r1, mapO_ok h h2 r2]; rfl
theorem intsO_ok {xs : List Val} {zs : List Int} {vs : List V} (e : mapO intO xs = some zs) (r : VRs K cA F p xs vs) : vs = zs.map V.int := mapO_ok (fun x z v h1 h2 => by cases h2 <;> cases h1; rfl) e r
theorem blsO_ok {xs : List Val} {zs : List Bool} {vs : List V} (e : mapO blO xs = some zs) (r : VRs K cA F p xs vs) : vs = zs.map V.bl := mapO_ok (fun x z v h1 h2 => by cases h2 <;> cases h1; rfl) e r
theorem strsO_ok {xs : List Val} {zs : List (List Nat)} {vs : List V} (e : mapO strO xs = some zs) (r : VRs K cA F p xs vs) : vs = (zs.map S).map V.str := by
  rw [List.map_map]
  exact mapO_ok (g := V.str ∘ S) (fun x z v h1 h2 => by cases h2 <;> cases h1; rfl) e r
/-- a list or the script -/
def seqL2 (mu : Store) : Val → Option (List Val)
  | .scr ns => some (ns.map Val.int)
  | a => seqL mu a
theorem seqL2_ok {a : Val} {v : V} {xs : List Val} (R : Rel K cA F p mu H) (r : VR K cA F p a v) (e : seqL2 mu a = some xs) : ∃ l vs, v = .ref l ∧ SqL K H l vs ∧ VRs K cA F p xs vs := by
  have gen : ∀ {a : Val}, VR K cA F p a v → seqL mu a = some xs → ∃ l vs, v = .ref l ∧ SqL K H l vs ∧ VRs K cA F p xs vs := fun r e => by
    obtain ⟨l, vs, rfl, h1, h2⟩ := seqL_ok R r e
    exact ⟨l, vs, rfl, SqL.of h1, h2⟩
  cases r with
  | scr g => cases e; exact ⟨_, _, rfl, sub_l R.sub g, .map_int _⟩
  | lst h1 h2 => exact gen (.lst h1 h2) e
  | ref h1 => exact gen (.ref h1) e
  | _ => cases e
end
/-! ### len -/
def lenV (mu : Store) : List Val → Option Val
  | [.str s] => if s.length ≤ 100000 then some (.int s.length) else none
  | [.tup xs] => some (.int xs.length)
  | [a] => (match seqL2 mu a with
    | some xs => some (.int xs.length)
    | none => (match dctV mu a with
      | some kvs => some (.int kvs.length)
      | none => none))
  | _ => none
section
variable {X : Cx} {cA : CI}
theorem b_len : CallR X (.builtin "len") (GA X.K cA lenV) := by
  intro pins s σ H xs us Q I r h
  obtain ⟨F, p, mu, as, z, R, ra, e, q⟩ := h
  have gen : ∀ (a : Val) (v : V), xs = [v] → VR X.K cA F p a v → (match seqL2 mu a with
    | some xs => some (Val.int xs.length)
    | none => (match dctV mu a with
      | some kvs => some (.int kvs.length)
      | none => none)) = some z → wpAny (model X.prog X.w) X.A (call (.builtin "len") us) (EP X pins σ Q) X.xe s := by
    intro a v ev rv e
    subst ev
    cases e1 : seqL2 mu a with
    | some ys =>
      rw [e1] at e
      cases e
      obtain ⟨l, vs, rfl, h1, h2⟩ := seqL2_ok R rv e1
      refine call_len pins s σ H _ us Q I r ⟨_, _, rfl, .inl ⟨vs, h1, rfl⟩, ?_⟩
      rw [← h2.length]
      exact q.now R (.int _)
    | none =>
      rw [e1] at e
      simp only at e
      cases e2 : dctV mu a with
      | none => rw [e2] at e; cases e
      | some kvs =>
        rw [e2] at e
        cases e
        obtain ⟨l, ks, rfl, h1, h2⟩ := dctV_ok R rv e2
        refine call_lenD pins s σ H _ us Q I r ⟨_, _, rfl, h1, ?_⟩
        rw [← h2.length]
        exact q.now R (.int _)
  cases ra with
  | nil => cases e
  | cons rv rn =>
    cases rn with
    | cons _ _ => simp [lenV] at e
    | nil =>
      cases rv with
      | str t =>
        simp only [lenV] at e
        by_cases hc : t.length ≤ 100000
        · rw [if_pos hc] at e
          cases e
          refine call_len pins s σ H _ us Q I r ⟨_, _, rfl, ⟨line5' (by rw [S_len]; exact hc), rfl⟩, ?_⟩
          rw [S_len]
          exact q.now R (.int _)
        · rw [if_neg hc] at e; cases e
      | tup h1 h2 =>
        cases e
        refine call_len pins s σ H _ us Q I r ⟨_, _, rfl, .inr ⟨_, sub_t R.sub h1, rfl⟩, ?_⟩
        rw [← h2.length]
        exact q.now R (.int _)
      | lst h1 h2 => exact gen _ _ rfl (.lst h1 h2) e
      | ref h1 => exact gen _ _ rfl (.ref h1) e
      | dct h1 h2 => exact gen _ _ rfl (.dct h1 h2) e
      | scr h1 => exact gen _ _ rfl (.scr h1) e
      | _ => cases e
/-! ### of numbers -/
def absV (_ : Store) : List Val → Option Val
  | [.int i] => some (.int (if i < 0 then -i else i))
  | _ => none
theorem b_abs : CallR X (.builtin "abs") (GA X.K cA absV) := by
  intro pins s σ H xs us Q I r h
  obtain ⟨F, p, mu, as, z, R, ra, e, q⟩ := h
  unfold absV at e
  split at e
  · cases e
    obtain ⟨v, rfl, rv⟩ := vrs1 ra
    cases rv
    exact call_abs pins s σ H _ us Q I r ⟨_, rfl, q.now R (.int _)⟩
  · cases e
def intV (_ : Store) : List Val → Option Val
  | [.int i] => some (.int i)
  | [.bl i] => some (.int (if i then 1 else 0))
  | _ => none
theorem b_int : CallR X (.type "int") (GA X.K cA intV) := by
  intro pins s σ H xs us Q I r h
  obtain ⟨F, p, mu, as, z, R, ra, e, q⟩ := h
  unfold intV at e
  split at e
  · cases e
    obtain ⟨v, rfl, rv⟩ := vrs1 ra
    cases rv
    exact call_int1 pins s σ H _ us Q I r (.inl ⟨_, rfl, q.now R (.int _)⟩)
  · cases e
    obtain ⟨v, rfl, rv⟩ := vrs1 ra
    cases rv
    exact call_int1 pins s σ H _ us Q I r (.inr ⟨_, rfl, q.now R (.int _)⟩)
  · cases e
def maxI : List Int → Option Int
  | [] => none
  | x :: xs => some (xs.foldl max x)
def minI : List Int → Option Int
  | [] => none
  | x :: xs => some (xs.foldl min x)
theorem foldl_max : ∀ (xs : List Int) (x : Int), (xs.foldl max x) ∈ x :: xs ∧ ∀ y ∈ x :: xs, y ≤ xs.foldl max x
  | [], x => ⟨by simp, by simp⟩
  | y :: ys, x => by
    obtain ⟨h1, h2⟩ := foldl_max ys (max x y)
    refine ⟨?_, fun z hz => ?_⟩
    · rcases List.mem_cons.mp h1 with h | h
      · rw [List.foldl_cons, h]
        rcases Int.le_total x y with g | g
        · rw [Int.max_eq_right g]; simp
        · rw [Int.max_eq_left g]; simp
      · rw [List.foldl_cons]; simp [h]
    · rw [List.foldl_cons]
      have h0 := h2 _ List.mem_cons_self
      rcases List.mem_cons.mp hz with e | h
      · subst e; exact Int.le_trans (Int.le_max_left _ _) h0
      · rcases List.mem_cons.mp h with e | h
        · subst e; exact Int.le_trans (Int.le_max_right _ _) h0
        · exact h2 _ (List.mem_cons_of_mem _ h)
theorem foldl_min : ∀ (xs : List Int) (x : Int), (xs.foldl min x) ∈ x :: xs ∧ ∀ y ∈ x :: xs, xs.foldl min x ≤ y
  | [], x => ⟨by simp, by simp⟩
  | y :: ys, x => by
    obtain ⟨h1, h2⟩ := foldl_min ys (min x y)
    refine ⟨?_, fun z hz => ?_⟩
    · rcases List.mem_cons.mp h1 with h | h
      · rw [List.foldl_cons, h]
        rcases Int.le_total x y with g | g
        · rw [Int.min_eq_left g]; simp
        · rw [Int.min_eq_right g]; simp
      · rw [List.foldl_cons]; simp [h]
    · rw [List.foldl_cons]
      have h0 := h2 _ List.mem_cons_self
      rcases List.mem_cons.mp hz with e | h
      · subst e; exact Int.le_trans h0 (Int.min_le_left _ _)
      · rcases List.mem_cons.mp h with e | h
        · subst e; exact Int.le_trans h0 (Int.min_le_right _ _)
        · exact h2 _ (List.mem_cons_of_mem _ h)
def maxV (mu : Store) : List Val → Option Val
  | [.int i, .int j] => some (.int (if j > i then j else i))
  | [a] => (match seqL2 mu a with
    | some xs => (match mapO intO xs with
      | some ns => (maxI ns).map Val.int
      | none => none)
    | none => none)
  | _ => none
theorem b_max (hc : X.calm = true) : CallR X (.builtin "max") (GA X.K cA maxV) := by
  intro pins s σ H xs us Q I r h
  obtain ⟨F, p, mu, as, z, R, ra, e, q⟩ := h
  unfold maxV at e
  split at e
  · cases e
    obtain ⟨v, w, rfl, rv, rw'⟩ := vrs2 ra
    cases rv
    cases rw'
    exact call_max2 hc pins s σ H _ us Q I r ⟨_, _, rfl, q.now R (.int _)⟩
  · obtain ⟨v, rfl, rv⟩ := vrs1 ra
    split at e
    · rename_i e1
      split at e
      · rename_i ns e2
        obtain ⟨m, e3, rfl⟩ := Option.map_eq_some_iff.mp e
        obtain ⟨l, vs, rfl, h1, h2⟩ := seqL2_ok R rv e1
        rw [intsO_ok e2 h2] at h1
        cases ns with
        | nil => cases e3
        | cons n ns =>
          cases e3
          obtain ⟨g1, g2⟩ := foldl_max ns n
          refine cr_max hc pins s σ H _ us Q I r ⟨l, _, rfl, h1, by simp, fun m hm hle => ?_⟩
          have : m = ns.foldl max n := Int.le_antisymm (g2 m hm) (hle _ g1)
          rw [this]
          exact q.now R (.int _)
      · cases e
    · cases e
  · cases e
def minV (mu : Store) : List Val → Option Val
  | [.int i, .int j] => some (.int (if j < i then j else i))
  | [a] => (match seqL2 mu a with
    | some xs => (match mapO intO xs with
      | some ns => (minI ns).map Val.int
      | none => none)
    | none => none)
  | _ => none
theorem b_min (hc : X.calm = true) : CallR X (.builtin "min") (GA X.K cA minV) := by
  intro pins s σ H xs us Q I r h
  obtain ⟨F, p, mu, as, z, R, ra, e, q⟩ := h
  unfold minV at e
  split at e
  · cases e
    obtain ⟨v, w, rfl, rv, rw'⟩ := vrs2 ra
    cases rv
    cases rw'
    exact call_min2 hc pins s σ H _ us Q I r ⟨_, _, rfl, q.now R (.int _)⟩
  · obtain ⟨v, rfl, rv⟩ := vrs1 ra
    split at e
    · rename_i e1
      split at e
      · rename_i ns e2
        obtain ⟨m, e3, rfl⟩ := Option.map_eq_some_iff.mp e
        obtain ⟨l, vs, rfl, h1, h2⟩ := seqL2_ok R rv e1
        rw [intsO_ok e2 h2] at h1
        cases ns with
        | nil => cases e3
        | cons n ns =>
          cases e3
          obtain ⟨g1, g2⟩ := foldl_min ns n
          refine cr_min hc pins s σ H _ us Q I r ⟨l, _, rfl, h1, by simp, fun m hm hle => ?_⟩
          have : m = ns.foldl min n := Int.le_antisymm (hle _ g1) (g2 m hm)
          rw [this]
          exact q.now R (.int _)
      · cases e
    · cases e
  · cases e
def sumV (mu : Store) : List Val → Option Val
  | [a] => (match seqL2 mu a with
    | some xs => (mapO intO xs).map fun ns => Val.int ns.sum
    | none => none)
  | _ => none
theorem b_sum (hc : X.calm = true) : CallR X (.builtin "sum") (GA X.K cA sumV) := by
  intro pins s σ H xs us Q I r h
  obtain ⟨F, p, mu, as, z, R, ra, e, q⟩ := h
  unfold sumV at e
  split at e
  · obtain ⟨v, rfl, rv⟩ := vrs1 ra
    split at e
    · rename_i e1
      obtain ⟨ns, e2, rfl⟩ := Option.map_eq_some_iff.mp e
      obtain ⟨l, vs, rfl, h1, h2⟩ := seqL2_ok R rv e1
      rw [intsO_ok e2 h2] at h1
      exact cr_sum hc pins s σ H _ us Q I r ⟨l, _, rfl, h1, q.now R (.int _)⟩
    · cases e
  · cases e
def allV (mu : Store) : List Val → Option Val
  | [a] => (match seqL2 mu a with
    | some xs => (mapO blO xs).map fun ns => Val.bl (ns.all id)
    | none => none)
  | _ => none
theorem b_all (hc : X.calm = true) : CallR X (.builtin "all") (GA X.K cA allV) := by
  intro pins s σ H xs us Q I r h
  obtain ⟨F, p, mu, as, z, R, ra, e, q⟩ := h
  unfold allV at e
  split at e
  · obtain ⟨v, rfl, rv⟩ := vrs1 ra
    split at e
    · rename_i e1
      obtain ⟨ns, e2, rfl⟩ := Option.map_eq_some_iff.mp e
      obtain ⟨l, vs, rfl, h1, h2⟩ := seqL2_ok R rv e1
      rw [blsO_ok e2 h2] at h1
      exact cr_all hc pins s σ H _ us Q I r ⟨l, _, rfl, h1, q.now R (.bl _)⟩
    · cases e
  · cases e
def anyV (mu : Store) : List Val → Option Val
  | [a] => (match seqL2 mu a with
    | some xs => (mapO blO xs).map fun ns => Val.bl (ns.any id)
    | none => none)
  | _ => none
theorem b_any (hc : X.calm = true) : CallR X (.builtin "any") (GA X.K cA anyV) := by
  intro pins s σ H xs us Q I r h
  obtain ⟨F, p, mu, as, z, R, ra, e, q⟩ := h
  unfold anyV at e
  split at e
  · obtain ⟨v, rfl, rv⟩ := vrs1 ra
    split at e
    · rename_i e1
      obtain ⟨ns, e2, rfl⟩ := Option.map_eq_some_iff.mp e
      obtain ⟨l, vs, rfl, h1, h2⟩ := seqL2_ok R rv e1
      rw [blsO_ok e2 h2] at h1
      exact cr_any hc pins s σ H _ us Q I r ⟨l, _, rfl, h1, q.now R (.bl _)⟩
    · cases e
  · cases e
/-! ### tuple(xs), list(xs) -/
def tupleV (mu : Store) : List Val → Option Val
  | [.tup xs] => some (.tup xs)
  | [a] => (seqL2 mu a).map Val.tup
  | _ => none
theorem b_tuple : CallR X (.type "tuple") (GA X.K cA tupleV) := by
  intro pins s σ H xs us Q I r h
  obtain ⟨F, p, mu, as, z, R, ra, e, q⟩ := h
  unfold tupleV at e
  split at e
  · cases e
    obtain ⟨v, rfl, rv⟩ := vrs1 ra
    cases rv with
    | tup h1 h2 => exact call_tuple_of pins s σ H _ us Q I r ⟨_, _, rfl, .inr ⟨sub_t R.sub h1, q.now R (.tup h1 h2)⟩⟩
  · obtain ⟨v, rfl, rv⟩ := vrs1 ra
    obtain ⟨ys, e1, rfl⟩ := Option.map_eq_some_iff.mp e
    obtain ⟨l, vs, rfl, h1, h2⟩ := seqL2_ok R rv e1
    exact call_tuple_of pins s σ H _ us Q I r ⟨_, _, rfl, .inl ⟨h1, fun a ha => q.tup R h2 ha⟩⟩
  · cases e
def listV (mu : Store) : List Val → Option Val
  | [.tup xs] => some (.lst xs)
  | [a] => (seqL2 mu a).map Val.lst
  | _ => none
theorem b_list : CallR X (.type "list") (GA X.K cA listV) := by
  intro pins s σ H xs us Q I r h
  obtain ⟨F, p, mu, as, z, R, ra, e, q⟩ := h
  unfold listV at e
  split at e
  · cases e
    obtain ⟨v, rfl, rv⟩ := vrs1 ra
    cases rv with
    | tup h1 h2 => exact call_list_of pins s σ H _ us Q I r ⟨_, _, rfl, .inr (sub_t R.sub h1), fun a ha => q.lst R h2 ha⟩
  · obtain ⟨v, rfl, rv⟩ := vrs1 ra
    obtain ⟨ys, e1, rfl⟩ := Option.map_eq_some_iff.mp e
    obtain ⟨l, vs, rfl, h1, h2⟩ := seqL2_ok R rv e1
    exact call_list_of pins s σ H _ us Q I r ⟨_, _, rfl, .inl h1, fun a ha => q.lst R h2 ha⟩
  · cases e
/-! ### sorted: texts -/
def insS (x : List Nat) : List (List Nat) → List (List Nat)
  | [] => [x]
  | y :: ys => if ltCps y x = true then y :: insS x ys else x :: y :: ys
def sortS (xs : List (List Nat)) : List (List Nat) := xs.foldr insS []
theorem lt_irr : ∀ a : List Nat, ltCps a a = false
  | [] => rfl
  | a :: r => by simp [ltCps, lt_irr r]
theorem lt_tr : ∀ {a b c : List Nat}, ltCps a b = true → ltCps b c = true → ltCps a c = true
  | [], [], _, h, _ => by simp [ltCps] at h
  | [], b :: bs, [], _, h => by simp [ltCps] at h
  | [], _ :: _, _ :: _, _, _ => rfl
  | _ :: _, [], _, h, _ => by simp [ltCps] at h
  | _ :: _, _ :: _, [], _, h => by simp [ltCps] at h
  | a :: r, b :: t, c :: u, h, h' => by
    simp only [ltCps, Bool.or_eq_true, decide_eq_true_eq, Bool.and_eq_true, beq_iff_eq] at h h' ⊢
    rcases h with h | ⟨h, g⟩
    · rcases h' with h' | ⟨h', g'⟩
      · exact .inl (Nat.lt_trans h h')
      · exact .inl (h' ▸ h)
    · rcases h' with h' | ⟨h', g'⟩
      · exact .inl (h ▸ h')
      · exact .inr ⟨h.trans h', lt_tr g g'⟩
theorem lt_anti : ∀ {a b : List Nat}, ltCps a b = false → ltCps b a = false → a = b
  | [], [], _, _ => rfl
  | [], _ :: _, h, _ => by simp [ltCps] at h
  | _ :: _, [], _, h => by simp [ltCps] at h
  | a :: r, b :: t, h, h' => by
    simp only [ltCps, Bool.or_eq_false_iff, decide_eq_false_iff_not, Bool.and_eq_false_iff, beq_eq_false_iff_ne] at h h'
    have e : a = b := by omega
    subst e
    have h1 : ltCps r t = false := h.2.resolve_left (by simp)
    have h2 : ltCps t r = false := h'.2.resolve_left (by simp)
    rw [lt_anti h1 h2]
/-- none is less than one before it -/
def Asc (xs : List (List Nat)) : Prop := xs.Pairwise fun a b => ltCps b a = false
theorem le_tr {a b c : List Nat} (h : ltCps b a = false) (h' : ltCps c b = false) : ltCps c a = false := by
  cases e : ltCps c a with
  | false => rfl
  | true =>
    cases e2 : ltCps a b with
    | true => rw [lt_tr e e2] at h'; cases h'
    | false => rw [lt_anti h e2] at h'; rw [e] at h'; cases h'
theorem asc_of : ∀ (l : List Str) (p : Str), risingS p l = true → Asc (p.cps.toList :: l.map (·.cps.toList))
  | [], p, _ => List.pairwise_singleton _ _
  | x :: r, p, h => by
    simp only [risingS, Bool.and_eq_true, Bool.not_eq_true'] at h
    have ih := asc_of r x h.2
    refine List.pairwise_cons.mpr ⟨fun y hy => ?_, ih⟩
    rcases List.mem_cons.mp hy with e | hy
    · rw [e]; exact h.1
    · exact le_tr h.1 ((List.pairwise_cons.mp ih).1 y hy)
theorem insS_perm (x : List Nat) : ∀ l, (insS x l).Perm (x :: l)
  | [] => .refl _
  | y :: ys => by
    unfold insS
    split
    · exact ((insS_perm x ys).cons y).trans (.swap x y ys)
    · exact .refl _
theorem sortS_perm : ∀ l, (sortS l).Perm l
  | [] => .refl _
  | x :: l => (insS_perm x (sortS l)).trans ((sortS_perm l).cons x)
theorem insS_asc (x : List Nat) : ∀ l, Asc l → Asc (insS x l)
  | [], _ => List.pairwise_singleton _ _
  | y :: ys, h => by
    unfold insS
    have hc := List.pairwise_cons.mp h
    split
    · rename_i hlt
      refine List.pairwise_cons.mpr ⟨fun z hz => ?_, insS_asc x ys hc.2⟩
      rcases List.mem_cons.mp ((insS_perm x ys).mem_iff.mp hz) with e | hz
      · subst e
        cases e2 : ltCps z y with
        | false => rfl
        | true => have := lt_tr hlt e2; rw [lt_irr] at this; cases this
      · exact hc.1 z hz
    · rename_i hlt
      have hlt' : ltCps y x = false := by simpa using hlt
      refine List.pairwise_cons.mpr ⟨fun z hz => ?_, h⟩
      rcases List.mem_cons.mp hz with e | hz
      · rw [e]; exact hlt'
      · exact le_tr hlt' (hc.1 z hz)
theorem sortS_asc : ∀ l, Asc (sortS l)
  | [] => List.Pairwise.nil
  | x :: l => insS_asc x _ (sortS_asc l)
theorem asc_uniq : ∀ {l m : List (List Nat)}, Asc l → Asc m → l.Perm m → l = m
  | [], m, _, _, h => (List.Perm.nil_eq h)
  | x :: l, [], _, _, h => by have := h.length_eq; simp at this
  | x :: l, y :: m, hl, hm, h => by
    have cl := List.pairwise_cons.mp hl
    have cm := List.pairwise_cons.mp hm
    have e : x = y := by
      rcases List.mem_cons.mp (h.mem_iff.mp (List.mem_cons_self (a := x) (l := l))) with e | e
      · exact e
      · rcases List.mem_cons.mp (h.mem_iff.mpr (List.mem_cons_self (a := y) (l := m))) with e' | e'
        · exact e'.symm
        · exact lt_anti (cm.1 x e) (cl.1 y e') |>.symm ▸ rfl
    subst e
    rw [asc_uniq cl.2 cm.2 (List.Perm.cons_inv h)]
theorem sorted_is {ys : List Str} {xs : List (List Nat)} (h : ys.Perm (xs.map S)) (hs : sortedS ys = true) : ys = (sortS xs).map S := by
  have key : ys.map (·.cps.toList) = sortS xs := by
    refine asc_uniq ?_ (sortS_asc xs) ?_
    · cases ys with
      | nil => exact List.Pairwise.nil
      | cons y ys => exact asc_of ys y hs
    · have h1 := h.map (·.cps.toList)
      have h2 : (xs.map S).map (·.cps.toList) = xs := by
        rw [List.map_map]
        have : ((fun x : Str => x.cps.toList) ∘ S) = id := by funext l; simp [S]
        rw [this, List.map_id]
      rw [h2] at h1
      exact h1.trans (sortS_perm xs).symm
  rw [← key, List.map_map]
  have : (S ∘ fun x : Str => x.cps.toList) = id := by funext l; simp [S]
  rw [this, List.map_id]
def keyS : DKey × Val → Option (List Nat)
  | (.str s, _) => some s
  | _ => none
def sortedV (mu : Store) : List Val → Option Val
  | [a] => (match seqL mu a with
    | some xs => (match mapO strO xs with
      | some ss => if ss.length < 64 then some (.lst ((sortS ss).map Val.str)) else none
      | none => none)
    | none => (match dctV mu a with
      | some kvs => (match mapO keyS kvs with
        | some ss => if ss.length < 64 then some (.lst ((sortS ss).map Val.str)) else none
        | none => none)
      | none => none))
  | _ => none
theorem keysS_ok {K : PySem.W.Frag} {F : Fz} {p : List Addr} : ∀ {kvs : List (DKey × Val)} {ks : List (L2.Key × V)} {ss : List (List Nat)}, KVR K cA F p kvs ks → mapO keyS kvs = some ss → ks.map (·.1) = (ss.map S).map Sum.inr
  | [], _, ss, .nil, e => by cases e; rfl
  | (k, x) :: r, _, ss, .cons h1 h2 h3, e => by
    obtain ⟨y, ys, e1, e2, rfl⟩ := mapO_cons e
    cases k with
    | str t =>
      have h1' := (show _ = Sum.inr (S t) from h1)
      cases e1
      cases h1'
      simp only [List.map_cons, keysS_ok h3 e2]
    | _ => cases e1
theorem b_sorted (hc : X.calm = true) : CallR X (.builtin "sorted") (GA X.K cA sortedV) := by
  intro pins s σ H xs us Q I r h
  obtain ⟨F, p, mu, as, z, R, ra, e, q⟩ := h
  unfold sortedV at e
  split at e
  · obtain ⟨v, rfl, rv⟩ := vrs1 ra
    split at e
    · rename_i ys e1
      split at e
      · rename_i ss e2
        by_cases hl : ss.length < 64
        · rw [if_pos hl] at e
          cases e
          obtain ⟨l, vs, rfl, h1, h2⟩ := seqL_ok R rv e1
          rw [strsO_ok e2 h2] at h1
          refine cr_sortedS pins s σ H _ us Q I r ⟨l, ss.map S, rfl, SqL.of h1, by rw [List.length_map]; exact hl, fun ys a hp hs ha => ?_⟩
          rw [sorted_is hp hs]
          exact q.lst R (.map_str _) ha
        · rw [if_neg hl] at e; cases e
      · cases e
    · split at e
      · rename_i kvs e1
        split at e
        · rename_i ss e2
          by_cases hl : ss.length < 64
          · rw [if_pos hl] at e
            cases e
            obtain ⟨l, ks, rfl, h1, h2⟩ := dctV_ok R rv e1
            refine call_sortedD hc pins s σ H _ us Q I r ⟨l, ks, ss.map S, rfl, .inl h1, keysS_ok h2 e2, by rw [List.length_map]; exact hl, fun ys a hp hs ha => ?_⟩
            rw [sorted_is hp hs]
            exact q.lst R (.map_str _) ha
          · rw [if_neg hl] at e; cases e
        · cases e
      · cases e
  · cases e
/-! ### str(x), bool(x), repr(x) -/
def istr (i : Int) : List Nat := (Str.ofString (toString i)).cps.toList
theorem istr_S (i : Int) : Str.ofString (toString i) = S (istr i) := by simp [S, istr]
def strV (_ : Store) : List Val → Option Val
  | [.int i] => if i.natAbs < 2 ^ 1900 then some (.str (istr i)) else none
  | [.str s] => some (.str s)
  | _ => none
theorem log_lt {i : Int} (h : i.natAbs < 2 ^ 1900) : i.natAbs.log2 < 1920 := by
  by_cases h0 : i.natAbs = 0
  · rw [h0]; decide
  · exact (Nat.log2_lt h0).mpr (Nat.lt_of_lt_of_le h (Nat.pow_le_pow_right (by decide) (by decide)))
theorem b_str : CallR X (.type "str") (GA X.K cA strV) := by
  intro pins s σ H xs us Q I r h
  obtain ⟨F, p, mu, as, z, R, ra, e, q⟩ := h
  unfold strV at e
  split at e
  · obtain ⟨v, rfl, rv⟩ := vrs1 ra
    cases rv
    rename_i i
    by_cases hc : i.natAbs < 2 ^ 1900
    · rw [if_pos hc] at e
      cases e
      refine call_str_int pins s σ H _ us Q I r ⟨_, rfl, log_lt hc, ?_⟩
      have e1 := istr_S i
      rw [show ((toString i : String) : Str) = S (istr i) from e1]
      exact q.now R (.str _)
    · rw [if_neg hc] at e; cases e
  · cases e
    obtain ⟨v, rfl, rv⟩ := vrs1 ra
    cases rv
    exact SkE.call_str_str pins s σ H _ us Q I r ⟨_, rfl, q.now R (.str _)⟩
  · cases e
def shownL (d : PyData) : List Nat := d.shown.cps.toList
def reprV (mu : Store) : List Val → Option Val
  | [a] => (match toD1 mu a with
    | some d => if d.showable = true ∧ d.shown.length ≤ sizeLine then some (.str (shownL d)) else none
    | none => none)
  | _ => none
end
end CC

set_option Elab.async false
set_option linter.all false
set_option maxRecDepth 100000
set_option maxHeartbeats 2000000
/-! CC8: repr, isinstance, methods of texts and of changed lists, f-strings, dicts. -/
namespace CC
open PySem PySem.Spec PyProof.Rows L2
/-! ### repr -/
theorem nodict : ∀ (n : Nat) (v : Val) (d : PyData), toD n v = some d → d.hasDict = false := by
  intro n
  induction n with
  | zero => intro v d h; cases v <;> simp only [toD] at h <;> cases h <;> rfl
  | succ n ih =>
    have all : ∀ (xs : List Val) (ds : List PyData), mapO (toD n) xs = some ds → PyData.hasDictAll ds = false := by
      intro xs
      induction xs with
      | nil => intro ds h; cases h; rfl
      | cons x xs ih2 =>
        intro ds h
        obtain ⟨y, ys, h1, h2, rfl⟩ := mapO_cons h
        simp only [PyData.hasDictAll, ih _ _ h1, ih2 _ h2, Bool.or_self]
    intro v d h
    cases v with
    | tup xs =>
      simp only [toD] at h
      obtain ⟨ds, h1, rfl⟩ := Option.map_eq_some_iff.mp h
      simpa only [PyData.hasDict] using all _ _ h1
    | lst xs =>
      simp only [toD] at h
      obtain ⟨ds, h1, rfl⟩ := Option.map_eq_some_iff.mp h
      simpa only [PyData.hasDict] using all _ _ h1
    | _ => (simp only [toD] at h) <;> first | (cases h; done) | (cases h; rfl)
theorem nodictAll (n : Nat) : ∀ (xs : List Val) (ds : List PyData), mapO (toD n) xs = some ds → PyData.hasDictAll ds = false := by
  intro xs
  induction xs with
  | nil => intro ds h; cases h; rfl
  | cons x xs ih2 =>
    intro ds h
    obtain ⟨y, ys, h1, h2, rfl⟩ := mapO_cons h
    simp only [PyData.hasDictAll, nodict _ _ _ h1, ih2 _ h2, Bool.or_self]
theorem nodict1 {mu : Store} {v : Val} {d : PyData} (h : toD1 mu v = some d) : d.hasDict = false := by
  cases v with
  | ref r =>
    simp only [toD1] at h
    split at h
    · obtain ⟨ds, h1, rfl⟩ := Option.map_eq_some_iff.mp h
      simpa only [PyData.hasDict] using nodictAll _ _ _ h1
    · cases h
  | _ => exact nodict _ _ _ h
theorem shownL_S (d : PyData) : d.shown = S (shownL d) := by simp [S, shownL]
section
variable {X : Cx} {cA : CI}
theorem b_repr (hg : X.A.guards = some []) (hu : X.A.units + 64 < cLine) : CallR X (.builtin "repr") (GA X.K cA reprV) := by
  intro pins s σ H xs us Q I r h
  obtain ⟨F, p, mu, as, z, R, ra, e, q⟩ := h
  unfold reprV at e
  split at e
  · obtain ⟨v, rfl, rv⟩ := vrs1 ra
    split at e
    · rename_i d e1
      by_cases hc : d.showable = true ∧ d.shown.length ≤ sizeLine
      · rw [if_pos hc] at e
        cases e
        obtain ⟨a1, a2, a3⟩ := toD1_ok R e1 rv
        obtain ⟨u, rfl, ru⟩ := vals1 r
        obtain ⟨bs, r1⟩ := Dp.reads I _ _ _ a1 ru
        have nd := nodict1 e1
        have fin : ∀ (k : Nat) (t : Tok), EP X pins σ Q (.str d.shown t) { s with toks := k } := fun k t => ⟨.str d.shown, H, I.tok k, ⟨t, rfl⟩, by rw [shownL_S d]; exact q.now R (.str _)⟩
        have kin := I.ok
        cases r1 with
        | none => exact PySem.P.repr_of_none (by simpa only [PyData.shown] using fin _ _)
        | bool b => exact PySem.P.repr_of_bool (by simpa only [PyData.shown] using fin _ _)
        | int i t => exact PySem.P.repr_of_int (by simpa [PyData.showable] using hc.1) (by simpa only [PyData.shown] using fin _ _)
        | str x t => exact PySem.P.repr_of_str (by simpa only [PyData.shown] using fin _ _) (by simpa only [PyData.shown] using hc.2)
        | list h1 h2 h3 h4 =>
          exact PySem.repr_of_reads' (.list h1 h2 h3 h4) hc.1 (PyData.noDict_hsm nd) hg (by omega) (fun _ _ e => e) (fun h' u tk hk => ⟨.str _, H, I.kept hk, ⟨u, rfl⟩, by rw [shownL_S]; exact q.now R (.str _)⟩) hc.2
        | tuple h1 h2 h3 h4 =>
          exact PySem.repr_of_reads' (.tuple h1 h2 h3 h4) hc.1 (PyData.noDict_hsm nd) hg (by omega) (fun _ _ e => e) (fun h' u tk hk => ⟨.str _, H, I.kept hk, ⟨u, rfl⟩, by rw [shownL_S]; exact q.now R (.str _)⟩) hc.2
        | dict _ _ _ _ _ => cases nd
      · rw [if_neg hc] at e; cases e
    · cases e
  · cases e
end
/-! ### isinstance -/
abbrev Tg := String ⊕ Nat
def tagV (cA : CI) : Tg → Value
  | .inl n => .type n
  | .inr C => .ref (cA C)
def V.cls1 (cA : CI) : Tg → V
  | .inl n => .ty n
  | .inr C => .ref (cA C)
/-- what is known of the classes: kt, the answers; ic, those whose objects stand here -/
structure KI (K : PySem.W.Frag) (cA : CI) (kt : Tg → Tg → Option Bool) (ic : Nat → Bool) : Prop where
  ok : ∀ a b r, kt a b = some r → PySem.W.kitOne K (tagV cA a) (tagV cA b) = some r
  cl : ∀ C, ic C = true → Cls K (cA C)
  c1 : ∀ C, ic C = true → PySem.W.findIn K (.ref (cA C)) "__class__" = some (some (.builtin "object.__class__"))
  c4 : ∀ C, ic C = true → PySem.W.mroIn K (cA C) (.type "object") = some true
  c2 : PySem.W.specialIn K (.builtin "object.__class__") "__get__" = some (some (.builtin "getset_descriptor.__get__"))
  c3 : PySem.W.takesIn K (.builtin "object.__class__") = some true
def tagOf (ic : Nat → Bool) (mu : Store) : Val → Option Tg
  | .non => some (.inl "NoneType")
  | .bl _ => some (.inl "bool")
  | .int _ => some (.inl "int")
  | .str _ => some (.inl "str")
  | .tup _ => some (.inl "tuple")
  | .lst _ => some (.inl "list")
  | .dct _ => some (.inl "dict")
  | .obj C _ => if ic C = true then some (.inr C) else none
  | .ref r => (match mu[r]? with
    | some (.lst _) => some (.inl "list")
    | some (.dct _) => some (.inl "dict")
    | some (.obj C _) => if ic C = true then some (.inr C) else none
    | none => none)
  | _ => none
def isiV (kt : Tg → Tg → Option Bool) (ic : Nat → Bool) (mu : Store) : List Val → Option Val
  | [a, .ty n] => (tagOf ic mu a).bind fun t => (kt t (.inl n)).map Val.bl
  | [a, .cls C] => (tagOf ic mu a).bind fun t => (kt t (.inr C)).map Val.bl
  | _ => none
section
variable {K : PySem.W.Frag} {cA : CI} {kt : Tg → Tg → Option Bool} {ic : Nat → Bool}
theorem sqt_ty {H : Hp} {a : Addr} {xs : List V} (h : SqT K H a xs) : TyX K H (.ref a) (.type "tuple") := by
  rcases h with (h | ⟨o, h⟩) | ⟨o, its, n, h1, h2, _⟩
  · exact .base (.tup h)
  · exact .fTuple h
  · exact .kTuple h1 h2
theorem tagOf_ok (T : KI K cA kt ic) {F : Fz} {H : Hp} {p : List Addr} {mu : Store} {a : Val} {v : V} {t : Tg} (R : Rel K cA F p mu H) (r : VR K cA F p a v) (e : tagOf ic mu a = some t) : TyX K H v (tagV cA t) := by
  have ins : ∀ {x dx : Addr} {C : Nat} {gs : List (Str × V)}, H x = some (.ins (cA C) dx gs) → (if ic C = true then some (Sum.inr C : Tg) else none) = some t → TyX K H (.ref x) (tagV cA t) := by
    intro x dx C gs h e
    by_cases hc : ic C = true
    · rw [if_pos hc] at e
      cases e
      exact .base (.ins h (T.cl C hc) (T.c1 C hc) T.c2 T.c3 (T.c4 C hc))
    · rw [if_neg hc] at e; cases e
  cases r with
  | non => cases e; exact .base .non
  | bl b => cases e; exact .base (.bl b)
  | int b => cases e; exact .base (.int b)
  | str b => cases e; exact .base (.str _)
  | tup h1 h2 => cases e; exact sqt_ty (sub_t R.sub h1)
  | lst h1 h2 => cases e; exact .base (.lst (R.sub _ _ h1))
  | dct h1 h2 => cases e; exact .base (.dK (R.sub _ _ h1))
  | obj h1 h2 => exact ins (R.sub _ _ h1) e
  | ref h1 =>
    obtain ⟨c, h2, h3⟩ := R.at_some h1
    simp only [tagOf, h2] at e
    cases c with
    | lst xs => cases e; obtain ⟨vs, q1, _⟩ := h3; exact .base (.lst q1)
    | dct xs => cases e; obtain ⟨vs, q1, _⟩ := h3; exact .base (.dK q1)
    | obj C xs => obtain ⟨dx, vs, q1, _⟩ := h3; exact ins q1 e
  | _ => cases e
end
section
variable {X : Cx} {cA : CI} {kt : Tg → Tg → Option Bool} {ic : Nat → Bool}
theorem b_isi (T : KI X.K cA kt ic) : CallR X (.builtin "isinstance") (GA X.K cA (isiV kt ic)) := by
  intro pins s σ H xs us Q I r h
  obtain ⟨F, p, mu, as, z, R, ra, e, q⟩ := h
  unfold isiV at e
  split at e
  · obtain ⟨v, w, rfl, rv, rw'⟩ := vrs2 ra
    cases rw'
    obtain ⟨t, e1, e2⟩ := Option.bind_eq_some_iff.mp e
    obtain ⟨b, e3, rfl⟩ := Option.map_eq_some_iff.mp e2
    exact call_isi pins s σ H _ us Q I r ⟨v, _, _, _, b, rfl, .ty _, tagOf_ok T R rv e1, T.ok _ _ _ e3, q.now R (.bl b)⟩
  · obtain ⟨v, w, rfl, rv, rw'⟩ := vrs2 ra
    cases rw'
    obtain ⟨t, e1, e2⟩ := Option.bind_eq_some_iff.mp e
    obtain ⟨b, e3, rfl⟩ := Option.map_eq_some_iff.mp e2
    exact call_isi pins s σ H _ us Q I r ⟨v, _, _, _, b, rfl, .own _, tagOf_ok T R rv e1, T.ok _ _ _ e3, q.now R (.bl b)⟩
  · cases e
end
/-! ### methods of texts -/
def sm0 (g : List Nat → Option Val) (mo : M Val) : M Val := fun r mu => (mo r mu).bind fun x mu1 => match x with
  | .str s => optR (g s) mu1
  | _ => .bad
def sm1 (g : Store → List Nat → Val → Option Val) (mo ma : M Val) : M Val := fun r mu => (mo r mu).bind fun x mu1 => match x with
  | .str s => (ma r mu1).bind fun y mu2 => optR (g mu2 s y) mu2
  | _ => .bad
def GM0 (K : PySem.W.Frag) (cA : CI) (g : List Nat → Option Val) : V → List V → Hp → VK → Prop := fun x xs H Q => xs = [] ∧ ∃ s z F p mu, x = .str (S s) ∧ g s = some z ∧ Rel K cA F p mu H ∧ GQ K cA F p mu z Q
def GM1 (K : PySem.W.Frag) (cA : CI) (g : Store → List Nat → Val → Option Val) : V → List V → Hp → VK → Prop := fun x xs H Q => ∃ s b v z F p mu, x = .str (S s) ∧ xs = [v] ∧ VR K cA F p b v ∧ g mu s b = some z ∧ Rel K cA F p mu H ∧ GQ K cA F p mu z Q
section
variable {X : Cx} {cA : CI} {W : WX} {a b c e o : Expr} {es : List Expr} {ma mb mc mo : M Val} {ms : M (List Val)} {pos apos : Pos}
theorem c_sm0 {id : String} {name : Str} {g : List Nat → Option Val} (slot : Slot "str" name id) (ty : typeOf (.builtin id) = pure (.type "method_descriptor")) (rule : MtR X id (GM0 X.K cA g)) (ho : PEM X cA W o mo)
    (hbase : attributeBase o name X.env (eval o X.env) = eval o X.env := by rfl) (hline : (apos.endLine == pos.line) = true := by rfl) : PEM X cA W (.Call (.Attribute o name apos) [] [] pos) (sm0 g mo) :=
  pe_weak (pe_m0 slot ty rule ho hbase hline) fun s H Q ⟨F, p, r, mu, h1, h2, h3⟩ => bindAt h1 h2 h3 fun F1 p1 mu1 x v H1 a1 b1 c1 d1 e1 f1 => by
    cases e1 with
    | str t =>
      obtain ⟨z, e, q⟩ := post_opt f1
      exact ⟨⟨_, rfl⟩, rfl, t, z, F1, p1, mu1, rfl, e, c1, q⟩
    | _ => exact f1.elim
theorem c_sm1 {id : String} {name : Str} {g : Store → List Nat → Val → Option Val} (slot : Slot "str" name id) (ty : typeOf (.builtin id) = pure (.type "method_descriptor")) (rule : MtR X id (GM1 X.K cA g)) (ho : PEM X cA W o mo) (ha : PEM X cA W a ma)
    (hs : starEach [a] X.env = [(false, eval a X.env)] := by rfl) (hbase : attributeBase o name X.env (eval o X.env) = eval o X.env := by rfl) (hline : (apos.endLine == pos.line) = true := by rfl) : PEM X cA W (.Call (.Attribute o name apos) [a] [] pos) (sm1 g mo ma) :=
  pe_weak (pe_m1 slot ty rule ho ha hs hbase hline) fun s H Q ⟨F, p, r, mu, h1, h2, h3⟩ => bindAt h1 h2 h3 fun F1 p1 mu1 x v H1 a1 b1 c1 d1 e1 f1 => by
    cases e1 with
    | str t =>
      refine ⟨⟨_, rfl⟩, bindAt c1 d1 f1 fun F2 p2 mu2 y w H2 a2 b2 c2 d2 e2 f2 => ?_⟩
      obtain ⟨z, e, q⟩ := post_opt f2
      exact ⟨t, y, w, z, F2, p2, mu2, rfl, rfl, e2, e, c2, q⟩
    | _ => exact f1.elim
def isAscii (s : List Nat) : Bool := s.all (· < 128)
def upperG (s : List Nat) : Option Val := if isAscii s = true ∧ s.length ≤ 100000 then some (.str (s.map up1)) else none
theorem mt_upperG : MtR X "str.upper" (GM0 X.K cA upperG) := by
  intro pins s σ H x xs v us Q I rx rs ⟨e0, t, z, F, p, mu, e1, e2, R, q⟩
  unfold upperG at e2
  by_cases hc : isAscii t = true ∧ t.length ≤ 100000
  · rw [if_pos hc] at e2
    cases e2
    refine mt_upper pins s σ H x xs v us Q I rx rs ⟨S t, e1, e0, by rw [S_len]; omega, ?_⟩
    rw [SX.upper_S hc.1]
    exact q.now R (.str _)
  · rw [if_neg hc] at e2; cases e2
def splitG (_ : Store) (s : List Nat) (b : Val) : Option Val := match b with
  | .str d => if d ≠ [] ∧ d.all (· < 256) = true ∧ s.length ≤ 100000 then some (.lst ((TL.spl d 0 [] s).map Val.str)) else none
  | _ => none
theorem mt_splitG : MtR X "str.split" (GM1 X.K cA splitG) := by
  intro pins s σ H x xs v us Q I rx rs ⟨t, b, w, z, F, p, mu, e1, e0, rb, e2, R, q⟩
  cases rb with
  | str d =>
    simp only [splitG] at e2
    by_cases hc : d ≠ [] ∧ d.all (· < 256) = true ∧ t.length ≤ 100000
    · rw [if_pos hc] at e2
      cases e2
      refine mt_split pins s σ H x xs v us Q I rx rs ⟨S t, S d, e1, e0, ?_, ?_, ?_⟩
      · rw [S_len]
        cases d with
        | nil => exact absurd rfl hc.1
        | cons _ _ => rfl
      · rw [S_len]
        have : (100002 : Nat) ≤ sizeLine := by decide
        omega
      · intro a ha
        rw [SX.split_S hc.1 hc.2.1]
        exact q.lst R (.map_str _) ha
    · rw [if_neg hc] at e2; cases e2
  | _ => cases e2
def joinG (mu : Store) (s : List Nat) (b : Val) : Option Val := match b with
  | .tup xs => (mapO strO xs).bind fun ys => if (ys.map List.length).sum + ys.length * s.length ≤ 1000000 then some (.str (TL.joinL s ys)) else none
  | b => (match seqL mu b with
    | some xs => (mapO strO xs).bind fun ys => if (ys.map List.length).sum + ys.length * s.length ≤ 1000000 then some (.str (TL.joinL s ys)) else none
    | none => none)
theorem mt_joinG : MtR X "str.join" (GM1 X.K cA joinG) := by
  intro pins s σ H x xs v us Q I rx rs ⟨t, b, w, z, F, p, mu, e1, e0, rb, e2, R, q⟩
  have gen : ∀ {vs : List V} {ys : List Val} {l : Addr}, VRs X.K cA F p ys vs → w = .ref l → (SqL X.K H l vs ∨ SqT X.K H l vs) → ((mapO strO ys).bind fun ys => if (ys.map List.length).sum + ys.length * t.length ≤ 1000000 then some (Val.str (TL.joinL t ys)) else none) = some z →
      wpAny (model X.prog X.w) X.A (call (.builtin "str.join") (v :: us)) (EP X pins σ Q) X.xe s := by
    intro vs ys l hv ew hl e
    obtain ⟨zs, e3, e4⟩ := Option.bind_eq_some_iff.mp e
    by_cases hc : (zs.map List.length).sum + zs.length * t.length ≤ 1000000
    · rw [if_pos hc] at e4
      cases e4
      rw [strsO_ok e3 hv] at hl
      refine mt_join pins s σ H x xs v us Q I rx rs ⟨S t, l, zs.map S, e1, by rw [e0, ew], hl, ?_, ?_⟩
      · rw [SX.lens, List.length_map, S_len]
        exact Nat.le_trans hc (by decide)
      · rw [SX.join_S]
        exact q.now R (.str _)
    · rw [if_neg hc] at e4; cases e4
  have others : ∀ {b : Val}, VR X.K cA F p b w → (match seqL mu b with
    | some xs => (mapO strO xs).bind fun ys => if (ys.map List.length).sum + ys.length * t.length ≤ 1000000 then some (Val.str (TL.joinL t ys)) else none
    | none => none) = some z → wpAny (model X.prog X.w) X.A (call (.builtin "str.join") (v :: us)) (EP X pins σ Q) X.xe s := by
    intro b rb e
    cases e5 : seqL mu b with
    | none => rw [e5] at e; cases e
    | some ys =>
      rw [e5] at e
      obtain ⟨l, vs, ew, g1, g2⟩ := seqL_ok R rb e5
      exact gen g2 ew (.inl (SqL.of g1)) e
  cases rb with
  | tup h1 h2 => exact gen h2 rfl (.inr (sub_t R.sub h1)) e2
  | lst h1 h2 => exact others (.lst h1 h2) e2
  | ref h1 => exact others (.ref h1) e2
  | _ => cases e2
theorem c_upper (ho : PEM X cA W o mo) (hbase : attributeBase o "upper" X.env (eval o X.env) = eval o X.env := by rfl) (hline : (apos.endLine == pos.line) = true := by rfl) : PEM X cA W (.Call (.Attribute o "upper" apos) [] [] pos) (sm0 upperG mo) :=
  c_sm0 F.slot_str_upper F.type_str_upper mt_upperG ho hbase hline
theorem c_split (ho : PEM X cA W o mo) (ha : PEM X cA W a ma) (hs : starEach [a] X.env = [(false, eval a X.env)] := by rfl) (hbase : attributeBase o "split" X.env (eval o X.env) = eval o X.env := by rfl) (hline : (apos.endLine == pos.line) = true := by rfl) : PEM X cA W (.Call (.Attribute o "split" apos) [a] [] pos) (sm1 splitG mo ma) :=
  c_sm1 F.slot_str_split F.type_str_split mt_splitG ho ha hs hbase hline
theorem c_join (ho : PEM X cA W o mo) (ha : PEM X cA W a ma) (hs : starEach [a] X.env = [(false, eval a X.env)] := by rfl) (hbase : attributeBase o "join" X.env (eval o X.env) = eval o X.env := by rfl) (hline : (apos.endLine == pos.line) = true := by rfl) : PEM X cA W (.Call (.Attribute o "join" apos) [a] [] pos) (sm1 joinG mo ma) :=
  c_sm1 F.slot_str_join F.type_str_join mt_joinG ho ha hs hbase hline
/-! ### methods of lists that are changed -/
def GMut (K : PySem.W.Frag) (cA : CI) (g : Store → Nat → List Val → List Val → Option (Val × List Val)) : V → List V → Hp → VK → Prop := fun x xs H Q => ∃ F p mu k a l as z l', Rel K cA F p mu H ∧ p[k]? = some a ∧ x = .ref a ∧ mu[k]? = some (.lst l) ∧ VRs K cA F p as xs ∧ g mu k l as = some (z, l') ∧
  ∀ F' p' H' v, Sub F F' → p <+: p' → Rel K cA F' p' (mu.set k (.lst l')) H' → VR K cA F' p' z v → Q v H'
def lmM (g : Store → Nat → List Val → List Val → Option (Val × List Val)) (mo : M Val) (ms : M (List Val)) : M Val := fun r mu => (mo r mu).bind fun x mu1 => match x with
  | .ref k => (match mu1[k]? with
    | some (.lst _) => (ms r mu1).bind fun as mu2 => (match mu2[k]? with
      | some (.lst l) => (match g mu2 k l as with
        | some (z, l') => .ok z (mu2.set k (.lst l'))
        | none => .bad)
      | _ => .bad)
    | _ => .bad)
  | _ => .bad
theorem pre_at {p q : List Addr} {k : Nat} {a : Addr} (h : p <+: q) (e : p[k]? = some a) : q[k]? = some a := pre_get h e
theorem c_lm {id : String} {name : Str} {g : Store → Nat → List Val → List Val → Option (Val × List Val)} (slot : Slot "list" name id) (hty : typeOf (.builtin id) = pure (.type "method_descriptor")) (hm : MtR X id (GMut X.K cA g)) (ho : PEM X cA W o mo) (ha : PAM X cA W (e :: es) ms)
    (hbase : attributeBase o name X.env (eval o X.env) = eval o X.env := by rfl)
    (hfew : ((backTo pos (starEach (e :: es) X.env)).all (fun x => !x.1) && (backToKw pos (keywordEach [] X.env)).all (fun x => x.1.isSome)
      && decide ((e :: es).length + ([] : List Keyword).length + (if ([] : List Keyword).isEmpty then 0 else 1) < 30)) = true := by rfl)
    (hline : (apos.endLine == pos.line) = true := by rfl) (hs : starEach (e :: es) X.env = (false, eval e X.env) :: starEach es X.env := by rfl) (hplain : (backTo pos (starEach es X.env)).any (·.1) = false := by rfl) :
    PEM X cA W (.Call (.Attribute o name apos) (e :: es) [] pos) (lmM g mo ms) :=
  pe_weak (pe_bm PySem.F.plainAttrs_list slot hty hm ho ha hbase hfew hline hs hplain) fun s H Q ⟨F, p, r, mu, h1, h2, h3⟩ => bindAt h1 h2 h3 fun F1 p1 mu1 x v H1 a1 b1 c1 d1 e1 f1 => by
    cases e1 with
    | @ref k a hk =>
      obtain ⟨c, hc1, hc2⟩ := c1.at_some hk
      simp only [hc1] at f1
      cases c with
      | lst l0 =>
        obtain ⟨vs, g1, g2⟩ := hc2
        refine ⟨.inl ⟨rfl, vs, SqL.of g1⟩, bindAt c1 d1 f1 fun F2 p2 mu2 ys ws H2 a2 b2 c2 d2 e2 f2 => ?_⟩
        obtain ⟨c', hd1, hd2⟩ := c2.at_some (pre_at b2 hk)
        simp only [hd1] at f2
        cases c' with
        | lst l =>
          simp only at f2
          cases eg : g mu2 k l ys with
          | none => rw [eg] at f2; exact f2.elim
          | some zl =>
            obtain ⟨z, l'⟩ := zl
            rw [eg] at f2
            exact ⟨F2, p2, mu2, k, a, l, ys, z, l', c2, pre_at b2 hk, rfl, hd1, e2, eg, f2⟩
        | dct _ => exact f2.elim
        | obj _ _ => exact f2.elim
      | dct _ => exact f1.elim
      | obj _ _ => exact f1.elim
    | _ => exact f1.elim
theorem c_lm0 {id : String} {name : Str} {g : Store → Nat → List Val → List Val → Option (Val × List Val)} (slot : Slot "list" name id) (hty : typeOf (.builtin id) = pure (.type "method_descriptor")) (hm : MtR X id (GMut X.K cA g)) (ho : PEM X cA W o mo)
    (hbase : attributeBase o name X.env (eval o X.env) = eval o X.env := by rfl) (hline : (apos.endLine == pos.line) = true := by rfl) :
    PEM X cA W (.Call (.Attribute o name apos) [] [] pos) (lmM g mo nilM) :=
  pe_weak (pe_bm0 PySem.F.plainAttrs_list slot hty hm ho hbase hline) fun s H Q ⟨F, p, r, mu, h1, h2, h3⟩ => bindAt h1 h2 h3 fun F1 p1 mu1 x v H1 a1 b1 c1 d1 e1 f1 => by
    cases e1 with
    | @ref k a hk =>
      obtain ⟨c, hc1, hc2⟩ := c1.at_some hk
      simp only [hc1] at f1
      cases c with
      | lst l0 =>
        obtain ⟨vs, g1, g2⟩ := hc2
        refine ⟨.inl ⟨rfl, vs, SqL.of g1⟩, ?_⟩
        simp only [nilM, R.bind, hc1] at f1
        cases eg : g mu1 k l0 [] with
        | none => rw [eg] at f1; exact f1.elim
        | some zl =>
          obtain ⟨z, l'⟩ := zl
          rw [eg] at f1
          exact ⟨F1, p1, mu1, k, a, l0, [], z, l', c1, hk, rfl, hc1, .nil, eg, f1⟩
      | dct _ => exact f1.elim
      | obj _ _ => exact f1.elim
    | _ => exact f1.elim
def appendG (_ : Store) (_ : Nat) (l : List Val) (as : List Val) : Option (Val × List Val) := match as with
  | [y] => if l.length < 100000 then some (.non, l ++ [y]) else none
  | _ => none
theorem mt_appendG : MtR X "list.append" (GMut X.K cA appendG) := by
  intro pins s σ H x xs v us Q I rx rs ⟨F, p, mu, k, a, l, as, z, l', R, hk, ex, hl, ras, eg, q⟩
  unfold appendG at eg
  split at eg
  · rename_i y
    by_cases hc : l.length < 100000
    · rw [if_pos hc] at eg
      cases eg
      obtain ⟨w, rfl, rw'⟩ := vrs1 ras
      obtain ⟨vs, g1, g2⟩ := R.cell k a _ hk hl
      refine mt_append pins s σ H x _ v us Q I rx rs ⟨a, vs, w, ex, rfl, g1, ?_, ?_⟩
      · rw [← g2.length]
        exact Nat.lt_of_lt_of_le hc (by decide)
      · exact q F p _ _ (Sub.refl F) (List.prefix_refl p) (R.write hk ⟨_, upd_same, g2.append (.cons rw' .nil)⟩) .non
    · rw [if_neg hc] at eg; cases eg
  · cases eg
def popG (_ : Store) (_ : Nat) (l : List Val) (as : List Val) : Option (Val × List Val) := match as with
  | [] => (l[l.length - 1]?).map fun y => (y, l.dropLast)
  | _ => none
theorem mt_popG : MtR X "list.pop" (GMut X.K cA popG) := by
  intro pins s σ H x xs v us Q I rx rs ⟨F, p, mu, k, a, l, as, z, l', R, hk, ex, hl, ras, eg, q⟩
  unfold popG at eg
  split at eg
  · obtain ⟨y, e1, e2⟩ := Option.map_eq_some_iff.mp eg
    cases e2
    obtain ⟨vs, g1, g2⟩ := R.cell k a _ hk hl
    cases ras
    obtain ⟨w, ew, rw'⟩ := g2.get e1
    refine mt_pop pins s σ H x _ v us Q I rx rs ⟨a, vs, w, ex, rfl, g1, by rw [← g2.length]; exact ew, ?_⟩
    refine q F p _ _ (Sub.refl F) (List.prefix_refl p) (R.write hk ⟨_, upd_same, ?_⟩) rw'
    rw [List.dropLast_eq_take, List.dropLast_eq_take, g2.length]
    exact g2.take _
  · cases eg
theorem c_append (ho : PEM X cA W o mo) (ha : PAM X cA W [a] ms) (hbase : attributeBase o "append" X.env (eval o X.env) = eval o X.env := by rfl)
    (hfew : ((backTo pos (starEach [a] X.env)).all (fun x => !x.1) && (backToKw pos (keywordEach [] X.env)).all (fun x => x.1.isSome)
      && decide (([a]).length + ([] : List Keyword).length + (if ([] : List Keyword).isEmpty then 0 else 1) < 30)) = true := by rfl)
    (hline : (apos.endLine == pos.line) = true := by rfl) (hs : starEach [a] X.env = (false, eval a X.env) :: starEach [] X.env := by rfl) (hplain : (backTo pos (starEach [] X.env)).any (·.1) = false := by rfl) : PEM X cA W (.Call (.Attribute o "append" apos) [a] [] pos) (lmM appendG mo ms) :=
  c_lm PySem.F.slot_list_append PySem.F.type_list_append mt_appendG ho ha hbase hfew hline hs hplain
theorem c_pop (ho : PEM X cA W o mo) (hbase : attributeBase o "pop" X.env (eval o X.env) = eval o X.env := by rfl) (hline : (apos.endLine == pos.line) = true := by rfl) : PEM X cA W (.Call (.Attribute o "pop" apos) [] [] pos) (lmM popG mo nilM) :=
  c_lm0 PySem.F.slot_list_pop PySem.F.type_list_pop mt_popG ho hbase hline
/-! ### f-strings -/
def fmtM (m : M Val) : M Val := u1 (fun _ x => match x with
  | .str s => if s.length ≤ 100000 then some (.str s) else none
  | .int i => if i.natAbs < 2 ^ 1900 then some (.str (istr i)) else none
  | _ => none) m
theorem c_fmt (ha : PEM X cA W a ma) : PEM X cA W (.FormattedValue a (-1) none pos) (fmtM ma) :=
  pe_weak (pe_fmt ha) fun s H Q ⟨F, p, r, mu, h1, h2, h3⟩ => bindAt h1 h2 h3 fun F1 p1 mu1 x v H1 a1 b1 c1 d1 e1 f1 => by
    obtain ⟨z, e, q⟩ := post_opt f1
    cases e1 with
    | str t =>
      simp only at e
      by_cases hc : t.length ≤ 100000
      · rw [if_pos hc] at e
        cases e
        exact .inl ⟨S t, rfl, line5' (by rw [S_len]; exact hc), q.now c1 (.str _)⟩
      · rw [if_neg hc] at e; cases e
    | int i =>
      simp only at e
      by_cases hc : i.natAbs < 2 ^ 1900
      · rw [if_pos hc] at e
        cases e
        refine .inr ⟨i, rfl, log_lt hc, ?_⟩
        rw [show ((toString i : String) : Str) = S (istr i) from istr_S i]
        exact q.now c1 (.str _)
      · rw [if_neg hc] at e; cases e
    | _ => cases e
def jsM : List (M Val) → List Nat → M Val
  | [], acc => fun _ mu => .ok (.str acc) mu
  | m :: ms, acc => fun r mu => (m r mu).bind fun x mu1 => match x with
    | .str y => if acc.length + y.length ≤ 100000 then jsM ms (acc ++ y) r mu1 else .bad
    | _ => .bad
theorem den_js {K : PySem.W.Frag} {s : L2.St} {Q : VK} : ∀ (ms : List (M Val)) (acc : List Nat) (H : Hp), DE K cA W (jsM ms acc) s H Q → tJs (ms.map (DE K cA W)) (S acc) s H (fun out H1 => Q (.str out) H1)
  | [], acc, H, ⟨F, p, r, mu, h1, h2, h3⟩ => h3 F p H _ (Sub.refl F) (List.prefix_refl p) h1 (.str acc)
  | m :: ms, acc, H, ⟨F, p, r, mu, h1, h2, h3⟩ => bindAt h1 h2 h3 fun F1 p1 mu1 x v H1 a1 b1 c1 d1 e1 f1 => by
    cases e1 with
    | str y =>
      simp only at f1
      by_cases hc : acc.length + y.length ≤ 100000
      · rw [if_pos hc] at f1
        refine ⟨S y, rfl, ?_, ?_⟩
        · rw [S_app, S_len, List.length_append]
          exact line5 hc
        · rw [S_app]
          exact den_js ms (acc ++ y) H1 ⟨F1, p1, r, mu1, c1, d1, f1⟩
      · rw [if_neg hc] at f1; exact f1.elim
    | _ => exact f1.elim
def PJM (X : Cx) (cA : CI) (W : WX) (es : List Expr) (ms : List (M Val)) : Prop := PJ X es (ms.map (DE X.K cA W))
theorem j_nil : PJM X cA W [] [] := .nil
theorem j_cons {es : List Expr} {ms : List (M Val)} (h : PEM X cA W e ma) (r : PJM X cA W es ms) : PJM X cA W (e :: es) (ma :: ms) := .cons h r
theorem c_js {v1 v2 : Expr} {rest : List Expr} {ms : List (M Val)} (h : PJM X cA W (v1 :: v2 :: rest) ms) : PEM X cA W (.JoinedStr (v1 :: v2 :: rest) pos) (jsM ms []) :=
  pe_weak (pe_joined h) fun s H Q q => den_js ms [] H q
theorem c_js1 (h : PEM X cA W e ma) : PEM X cA W (.JoinedStr [e] pos) ma := pe_joined1 h
/-! ### dicts -/
def dnewM : M Val := fun _ mu => .ok (.ref mu.length) (mu ++ [.dct []])
theorem c_dnew : PEM X cA W (.Dict [] [] pos) dnewM :=
  pe_weak pe_dnewK fun s H Q ⟨F, p, r, mu, h1, h2, h3⟩ a ha => by
    refine h3 F (p ++ [a]) _ _ (Sub.refl F) (List.prefix_append p [a]) (h1.alloc ha (fun b u hb => ?_) ⟨[], upd_same, .nil⟩) (.ref ?_)
    · rw [upd_ne (ne_of_none hb ha)]
      exact hb
    · rw [← h1.len, List.getElem?_append_right (Nat.le_refl _)]
      simp
def getM1 (mo ma : M Val) : M Val := fun r mu => (mo r mu).bind fun x mu1 => match dctV mu1 x with
  | some _ => (ma r mu1).bind fun y mu2 => (match dctV mu2 x with
    | some kvs => (match keyOf y with
      | some k => .ok ((kvs.lookup k).getD .non) mu2
      | none => .bad)
    | none => .bad)
  | none => .bad
theorem c_get1 (hu : X.A.units + 200 < cLine) (ho : PEM X cA W o mo) (ha : PEM X cA W a ma) (m : M1 X o "get" apos a pos := by exact ⟨rfl, rfl, rfl, rfl⟩) : PEM X cA W (.Call (.Attribute o "get" apos) [a] [] pos) (getM1 mo ma) :=
  pe_weak (pe_dget1 (by omega) ho ha m) fun s H Q ⟨F, p, r, mu, h1, h2, h3⟩ => bindAt h1 h2 h3 fun F1 p1 mu1 x v H1 a1 b1 c1 d1 e1 f1 => by
    cases e3 : dctV mu1 x with
    | none => rw [e3] at f1; exact f1.elim
    | some kvs0 =>
      rw [e3] at f1
      obtain ⟨l, ks0, rfl, g1, g2⟩ := dctV_ok c1 e1 e3
      refine ⟨l, rfl, .inl ⟨ks0, .inl g1⟩, bindAt c1 d1 f1 fun F2 p2 mu2 y w H2 a2 b2 c2 d2 e2 f2 => ?_⟩
      cases e4 : dctV mu2 x with
      | none => rw [e4] at f2; exact f2.elim
      | some kvs =>
        rw [e4] at f2
        cases e5 : keyOf y with
        | none => rw [e5] at f2; exact f2.elim
        | some k =>
          rw [e5] at f2
          obtain ⟨l', ks, el, g3, g4⟩ := dctV_ok c2 (e1.mono a2 b2) e4
          cases el
          obtain ⟨k', rfl, hk⟩ := keyOf_ok e2 e5
          obtain ⟨i1, i2⟩ := KVR.look hk g4
          refine ⟨valV ks k', DGet.k g3, ?_⟩
          cases e6 : kvs.lookup k with
          | none => rw [i2 e6]; simp only [e6] at f2; exact f2 F2 p2 H2 _ (Sub.refl F2) (List.prefix_refl p2) c2 .non
          | some z =>
            obtain ⟨w, e7, rw'⟩ := i1 z e6
            rw [e7]
            simp only [e6] at f2
            exact f2 F2 p2 H2 _ (Sub.refl F2) (List.prefix_refl p2) c2 rw'
end
end CC

set_option Elab.async false
set_option linter.all false
set_option maxRecDepth 100000
set_option maxHeartbeats 2000000
/-! CC9: statements. -/
namespace CC
open PySem PySem.Spec PyProof.Rows L2
def PostS (K : PySem.W.Frag) (cA : CI) (W : WX) (F : Fz) (p : List Addr) (D : Ends) : SR → Prop
  | .nx r mu => ∀ F' p' H' s', Sub F F' → p <+: p' → Rel K cA F' p' mu H' → EnvR K cA F' p' r s' → D.nx s' H'
  | .rt v mu => ∀ F' p' H' x, Sub F F' → p <+: p' → Rel K cA F' p' mu H' → VR K cA F' p' v x → D.rt x H'
  | .bk r mu => ∀ F' p' H' s', Sub F F' → p <+: p' → Rel K cA F' p' mu H' → EnvR K cA F' p' r s' → D.bk s' H'
  | .ct r mu => ∀ F' p' H' s', Sub F F' → p <+: p' → Rel K cA F' p' mu H' → EnvR K cA F' p' r s' → D.ct s' H'
  | .exc C fs r mu => ∀ F' p' H' s' cls d, Sub F F' → p <+: p' → Rel K cA F' p' mu H' → EnvR K cA F' p' r s' → ExR K cA F' p' C fs cls d → W cls d s' H'
  | .bad => False
def DS (K : PySem.W.Frag) (cA : CI) (W : WX) (m : MS) : TS := fun D s H => ∃ F p r mu, Rel K cA F p mu H ∧ EnvR K cA F p r s ∧ PostS K cA W F p D (m r mu)
def PSM (X : Cx) (cA : CI) (W : WX) (st : Stmt) (m : MS) : Prop := PS X st (DS X.K cA W m)
def PSSM (X : Cx) (cA : CI) (W : WX) (st : List Stmt) (m : MS) : Prop := PSs X st (DS X.K cA W m)
def bindS {α : Type} (m : M α) (k : α → Env1 → Store → SR) : MS := fun r mu => match m r mu with
  | .ok a mu1 => k a r mu1
  | .exc C fs mu1 => .exc C fs r mu1
  | .bad => .bad
theorem PostS.mono {K : PySem.W.Frag} {cA : CI} {W : WX} {F F' : Fz} {p q : List Addr} {D : Ends} {x : SR} (a : Sub F F') (h : p <+: q) (e : PostS K cA W F p D x) : PostS K cA W F' q D x := by
  cases x with
  | nx r mu => exact fun G r H' y s1 s2 => e G r H' y (a.trans s1) (h.trans s2)
  | rt r mu => exact fun G r H' y s1 s2 => e G r H' y (a.trans s1) (h.trans s2)
  | bk r mu => exact fun G r H' y s1 s2 => e G r H' y (a.trans s1) (h.trans s2)
  | ct r mu => exact fun G r H' y s1 s2 => e G r H' y (a.trans s1) (h.trans s2)
  | exc C fs r mu => exact fun G r H' y c d s1 s2 => e G r H' y c d (a.trans s1) (h.trans s2)
  | bad => exact e
theorem PostS.imp {K : PySem.W.Frag} {cA : CI} {W : WX} {F : Fz} {p : List Addr} {D D' : Ends} {x : SR} (h1 : ∀ s H, D.nx s H → D'.nx s H) (h2 : ∀ s H, D.rt s H → D'.rt s H) (h3 : ∀ s H, D.bk s H → D'.bk s H) (h4 : ∀ s H, D.ct s H → D'.ct s H) (e : PostS K cA W F p D x) : PostS K cA W F p D' x := by
  cases x with
  | nx r mu => exact fun G r H' y s1 s2 s3 s4 => h1 _ _ (e G r H' y s1 s2 s3 s4)
  | rt r mu => exact fun G r H' y s1 s2 s3 s4 => h2 _ _ (e G r H' y s1 s2 s3 s4)
  | bk r mu => exact fun G r H' y s1 s2 s3 s4 => h3 _ _ (e G r H' y s1 s2 s3 s4)
  | ct r mu => exact fun G r H' y s1 s2 s3 s4 => h4 _ _ (e G r H' y s1 s2 s3 s4)
  | exc C fs r mu => exact e
  | bad => exact e
section
variable {K : PySem.W.Frag} {cA : CI} {W : WX} {F : Fz} {p : List Addr} {mu : Store} {H : Hp} {s : L2.St} {D : Ends} {r : Env1}
theorem bindAtS {α β : Type} {rel : Fz → List Addr → α → β → Prop} {m : M α} {k : α → Env1 → Store → SR} {T : β → Hp → Prop} (h1 : Rel K cA F p mu H) (h2 : EnvR K cA F p r s) (h3 : PostS K cA W F p D (bindS m k r mu))
    (t : ∀ F' p' mu' x y H', Sub F F' → p <+: p' → Rel K cA F' p' mu' H' → EnvR K cA F' p' r s → rel F' p' x y → PostS K cA W F' p' D (k x r mu') → T y H') : Den K cA rel W m s H T := by
  refine ⟨F, p, r, mu, h1, h2, ?_⟩
  unfold bindS at h3
  cases e : m r mu with
  | ok v mu1 =>
    rw [e] at h3
    intro F' p' H' y a b c d
    exact t F' p' mu1 v y H' a b c (h2.mono a b) d (PostS.mono a b h3)
  | exc C fs mu1 =>
    rw [e] at h3
    exact fun F' p' H' cls d a b c x => h3 F' p' H' s cls d a b c (h2.mono a b) x
  | bad => rw [e] at h3; exact h3
end
/-! ### targets -/
abbrev TM := Val → Env1 → Store → Option (Env1 × Store)
def PostG (K : PySem.W.Frag) (cA : CI) (F : Fz) (p : List Addr) (Q : L2.St → Hp → Prop) : Option (Env1 × Store) → Prop
  | some (r, mu) => ∀ F' p' H' s', Sub F F' → p <+: p' → Rel K cA F' p' mu H' → EnvR K cA F' p' r s' → Q s' H'
  | none => False
def DG (K : PySem.W.Frag) (cA : CI) (g : TM) : TG := fun v s H Q => ∃ F p r mu x, Rel K cA F p mu H ∧ EnvR K cA F p r s ∧ VR K cA F p x v ∧ PostG K cA F p Q (g x r mu)
def PGM (X : Cx) (cA : CI) (tg : Expr) (g : TM) : Prop := PG X tg (DG X.K cA g)
def optX {α : Type} : R α → Option (α × Store)
  | .ok a mu => some (a, mu)
  | _ => none
theorem pg_weak {X : Cx} {tg : Expr} {t t' : TG} (h : PG X tg t) (w : ∀ v s H Q, t' v s H Q → t v s H Q) : PG X tg t' := ⟨fun pins s σ H v u Q I r q => h.run pins s σ H v u Q I r (w _ _ _ _ q)⟩
theorem PostG.mono {K : PySem.W.Frag} {cA : CI} {F F' : Fz} {p q : List Addr} {Q : L2.St → Hp → Prop} {x : Option (Env1 × Store)} (a : Sub F F') (h : p <+: q) (e : PostG K cA F p Q x) : PostG K cA F' q Q x := by
  cases x with
  | none => exact e
  | some x => obtain ⟨r, mu⟩ := x; exact fun G r H' y s1 s2 => e G r H' y (a.trans s1) (h.trans s2)
section
variable {K : PySem.W.Frag} {cA : CI} {W : WX} {F : Fz} {p : List Addr} {mu : Store} {H : Hp} {s : L2.St} {r : Env1} {Q : L2.St → Hp → Prop}
theorem bindAtG {α β : Type} {rel : Fz → List Addr → α → β → Prop} {m : M α} {k : α × Store → Option (Env1 × Store)} {T : β → Hp → Prop} (h1 : Rel K cA F p mu H) (h2 : EnvR K cA F p r s) (h3 : PostG K cA F p Q ((optX (m r mu)).bind k))
    (t : ∀ F' p' mu' x y H', Sub F F' → p <+: p' → Rel K cA F' p' mu' H' → EnvR K cA F' p' r s → rel F' p' x y → PostG K cA F' p' Q (k (x, mu')) → T y H') : Den K cA rel W m s H T := by
  refine ⟨F, p, r, mu, h1, h2, ?_⟩
  cases e : m r mu with
  | ok v mu1 =>
    rw [e] at h3
    intro F' p' H' y a b c d
    exact t F' p' mu1 v y H' a b c (h2.mono a b) d (PostG.mono a b h3)
  | exc C fs mu1 => rw [e] at h3; exact h3.elim
  | bad => rw [e] at h3; exact h3.elim
theorem EnvR.set {i : Nat} {x : Val} {v : V} (h : EnvR K cA F p r s) (q : VR K cA F p x v) : EnvR K cA F p (r.set i (some x)) (s.set i (some v)) := by
  refine ⟨by simp [h.1], fun j y e => ?_⟩
  by_cases hj : i = j
  · subst hj
    have hl : i < r.length := by
      have := (List.getElem?_eq_some_iff.mp e).1
      simpa using this
    rw [List.getElem?_set_self hl] at e
    cases e
    exact ⟨v, List.getElem?_set_self (by rw [← h.1]; exact hl), q⟩
  · rw [List.getElem?_set_ne hj] at e
    obtain ⟨w, h1, h2⟩ := h.2 j y e
    exact ⟨w, by rw [List.getElem?_set_ne hj]; exact h1, h2⟩
end
def gNameM (i : Nat) : TM := fun v r mu => some (r.set i (some v), mu)
def gListM : List TM → List Val → Env1 → Store → Option (Env1 × Store)
  | [], [], r, mu => some (r, mu)
  | g :: gs, x :: xs, r, mu => (g x r mu).bind fun q => gListM gs xs q.1 q.2
  | _, _, _, _ => none
def gTupM (gs : List TM) : TM := fun v r mu => match v with
  | .tup xs => gListM gs xs r mu
  | _ => none
inductive PGsM (X : Cx) (cA : CI) : List Expr → List TM → Prop where
  | nil : PGsM X cA [] []
  | cons {e : Expr} {es : List Expr} {g : TM} {gs : List TM} (h : PGM X cA e g) (r : PGsM X cA es gs) (hs : (assignEach (e :: es) X.env).map (·.2) = assign e X.env :: (assignEach es X.env).map (·.2) := by rfl) : PGsM X cA (e :: es) (g :: gs)
/-- what o[i] = v does -/
def putD (k : DKey) (v : Val) (kvs : List (DKey × Val)) : List (DKey × Val) :=
  if (kvs.any fun q => decide (q.1 = k)) = true then kvs.map (fun q => if q.1 = k then (q.1, v) else q) else kvs ++ [(k, v)]
def storeV (mu : Store) (o i v : Val) : Option Store := match o with
  | .ref k => (match mu[k]? with
    | some (.lst xs) => (match i with
      | .int j => (ixN xs.length j).map fun n => mu.set k (.lst (xs.set n v))
      | _ => none)
    | some (.dct kvs) => (match keyOf i with
      | some y => if kvs.length < 100000 then some (mu.set k (.dct (putD y v kvs))) else none
      | none => none)
    | _ => none)
  | _ => none
def gSubM (mo mi : M Val) : TM := fun v r mu => (optX (mo r mu)).bind fun o => (optX (mi r o.2)).bind fun i => (storeV i.2 o.1 i.1 v).map fun mu' => (r, mu')
theorem KVR.any {K : PySem.W.Frag} {cA : CI} {F : Fz} {p : List Addr} {k : DKey} {l : L2.Key} (hk : keyR k l) : ∀ {kvs : List (DKey × Val)} {ks : List (L2.Key × V)}, KVR K cA F p kvs ks → (kvs.any fun q => decide (q.1 = k)) = ks.any fun q => decide (q.1 = l)
  | _, _, .nil => rfl
  | _, _, .cons h1 h2 h3 => by
    rw [List.any_cons, List.any_cons, KVR.any hk h3]
    congr 1
    exact decide_eq_decide.mpr (keyR_inj h1 hk)
theorem KVR.re {K : PySem.W.Frag} {cA : CI} {F : Fz} {p : List Addr} {k : DKey} {l : L2.Key} {x : Val} {v : V} (hk : keyR k l) (hv : VR K cA F p x v) : ∀ {kvs : List (DKey × Val)} {ks : List (L2.Key × V)}, KVR K cA F p kvs ks →
    KVR K cA F p (kvs.map (fun q => if q.1 = k then (q.1, x) else q)) (ks.map (fun q => if q.1 = l then (q.1, v) else q))
  | _, _, .nil => .nil
  | _, _, .cons (k := k1) (k' := l1) h1 h2 h3 => by
    rw [List.map_cons, List.map_cons]
    by_cases e : k1 = k
    · rw [if_pos e, if_pos (show l1 = l from (keyR_inj h1 hk).mp e)]
      exact .cons h1 hv (KVR.re hk hv h3)
    · rw [if_neg e, if_neg (show ¬ l1 = l from fun z => e ((keyR_inj h1 hk).mpr z))]
      exact .cons h1 h2 (KVR.re hk hv h3)
theorem KVR.snoc {K : PySem.W.Frag} {cA : CI} {F : Fz} {p : List Addr} {k : DKey} {l : L2.Key} {x : Val} {v : V} (hk : keyR k l) (hv : VR K cA F p x v) : ∀ {kvs : List (DKey × Val)} {ks : List (L2.Key × V)}, KVR K cA F p kvs ks → KVR K cA F p (kvs ++ [(k, x)]) (ks ++ [(l, v)])
  | _, _, .nil => .cons hk hv .nil
  | _, _, .cons h1 h2 h3 => .cons h1 h2 (KVR.snoc hk hv h3)
theorem KVR.put {K : PySem.W.Frag} {cA : CI} {F : Fz} {p : List Addr} {k : DKey} {l : L2.Key} {x : Val} {v : V} {kvs : List (DKey × Val)} {ks : List (L2.Key × V)} (hk : keyR k l) (hv : VR K cA F p x v) (h : KVR K cA F p kvs ks) : KVR K cA F p (putD k x kvs) (putK ks l v) := by
  unfold putD putK
  rw [KVR.any hk h]
  split
  · exact h.re hk hv
  · exact h.snoc hk hv
section
variable {X : Cx} {cA : CI} {W : WX}
def GSt (K : PySem.W.Frag) (cA : CI) : TSet := fun o i v H Q => ∃ F p mu a b c mu', Rel K cA F p mu H ∧ VR K cA F p a o ∧ VR K cA F p b i ∧ VR K cA F p c v ∧ storeV mu a b c = some mu' ∧ ∀ F' p' H', Sub F F' → p <+: p' → Rel K cA F' p' mu' H' → Q H'
theorem set_any (hu : X.A.units + 200 < cLine) : PSet X (GSt X.K cA) := by
  intro pins s σ H o i v ov iv u Q I ro ri rv ⟨F, p, mu, a, b, c, mu', R, ra, rb, rc, e, q⟩
  cases ra with
  | @ref k ad hk =>
    obtain ⟨cl, h2, h3⟩ := R.at_some hk
    simp only [storeV, h2] at e
    cases cl with
    | lst xs =>
      obtain ⟨vs, g1, g2⟩ := h3
      cases rb with
      | int j =>
        simp only at e
        obtain ⟨n, e1, rfl⟩ := Option.map_eq_some_iff.mp e
        refine set_list pins s σ H _ _ _ ov iv u Q I ro ri rv ⟨ad, vs, j, n, rfl, rfl, g1, by rw [← g2.length]; exact e1, ?_⟩
        exact q F p _ (Sub.refl F) (List.prefix_refl p) (R.write hk ⟨_, upd_same, g2.set rc n⟩)
      | _ => cases e
    | dct kvs =>
      obtain ⟨ks, g1, g2⟩ := h3
      simp only at e
      cases e1 : keyOf b with
      | none => rw [e1] at e; cases e
      | some y =>
        rw [e1] at e
        simp only at e
        by_cases hc : kvs.length < 100000
        · rw [if_pos hc] at e
          cases e
          obtain ⟨l, rfl, hl⟩ := keyOf_ok rb e1
          obtain rfl : ov = Value.ref ad := ro
          refine d_setItem (by omega) I (DPut.k g1 (by rw [← g2.length]; exact Nat.lt_of_lt_of_le hc (by decide))) ri rv fun s' I' => ⟨_, I', ?_⟩
          exact q F p _ (Sub.refl F) (List.prefix_refl p) (R.write hk ⟨_, upd_same, g2.put hl rc⟩)
        · rw [if_neg hc] at e; cases e
    | obj C fs => cases e
  | _ => cases e
variable {a b c e o : Expr} {ma mb mc mo mi : M Val} {g : TM} {gs : List TM} {pos pos' : Pos}
theorem g_name {i : Nat} {x : Str} (hN : X.N.Nodup) (hi : X.N[i]? = some x := by rfl) (hx : Loc X.env.scope x := by first | exact Or.inl rfl | exact Or.inr rfl) (hf : X.fn x = true ∨ X.env.scope.names.lookup x = some .local := by first | exact .inl rfl | exact .inr rfl) : PGM X cA (.Name x pos) (gNameM i) :=
  pg_weak (pg_name hN hi hx hf) fun v s H Q ⟨F, p, r, mu, x, h1, h2, h3, h4⟩ => h4 F p H _ (Sub.refl F) (List.prefix_refl p) h1 (h2.set h3)
theorem gs_run : ∀ {es : List Expr} {gs : List TM}, PGsM X cA es gs → PGs X es (fun vs s H Q => ∃ F p r mu xs, Rel X.K cA F p mu H ∧ EnvR X.K cA F p r s ∧ VRs X.K cA F p xs vs ∧ PostG X.K cA F p Q (gListM gs xs r mu))
  | _, _, .nil => ⟨fun pins s σ H vs us Q I rv ⟨F, p, r, mu, xs, h1, h2, h3, h4⟩ => by
    cases h3 with
    | nil => exact pgs_nil.run pins s σ H _ us Q I rv ⟨rfl, h4 F p H _ (Sub.refl F) (List.prefix_refl p) h1 h2⟩
    | cons _ _ => exact h4.elim⟩
  | _, _, .cons (g := g) (gs := gs) h hr hs => ⟨fun pins s σ H vs us Q I rv ⟨F, p, r, mu, xs, h1, h2, h3, h4⟩ => by
    cases h3 with
    | nil => exact h4.elim
    | @cons x xs v vs ra rb =>
      refine (pgs_cons h (gs_run hr) hs).run pins s σ H _ us Q I rv ⟨v, vs, rfl, ?_⟩
      refine ⟨F, p, r, mu, x, h1, h2, ra, ?_⟩
      have h4' : PostG X.K cA F p Q ((g x r mu).bind fun q => gListM gs xs q.1 q.2) := h4
      cases e1 : g x r mu with
      | none => rw [e1] at h4'; exact h4'.elim
      | some q =>
        obtain ⟨r1, mu1⟩ := q
        rw [e1] at h4'
        intro F' p' H' s' c1 c2 c3 c4
        exact ⟨F', p', r1, mu1, xs, c3, c4, rb.mono c1 c2, PostG.mono c1 c2 h4'⟩⟩
theorem g_tup {es : List Expr} {k : Nat} (hc : X.calm = true) (h : PGsM X cA es gs) (hst : (assignEach es X.env).findIdx? (·.1) = none := by rfl) (hn : (assignEach es X.env).length = gs.length := by rfl) : PGM X cA (.Tuple es k pos) (gTupM gs) :=
  pg_weak (pg_tup hc (gs_run h) hn hst) fun v s H Q ⟨F, p, r, mu, x, h1, h2, h3, h4⟩ => by
    cases h3 with
    | @tup a xs vs g1 g2 =>
      have hl : xs.length = gs.length := by
        have key : ∀ (gs : List TM) (xs : List Val) (r : Env1) (mu : Store), PostG X.K cA F p Q (gListM gs xs r mu) → xs.length = gs.length := by
          intro gs xs r mu hp
          cases e : gListM gs xs r mu with
          | none => rw [e] at hp; exact hp.elim
          | some z =>
            clear hp
            induction gs generalizing xs r mu with
            | nil => cases xs with
              | nil => rfl
              | cons _ _ => cases e
            | cons g gs ih => cases xs with
              | nil => cases e
              | cons x xs =>
                obtain ⟨w, e1, e2⟩ := Option.bind_eq_some_iff.mp (show ((g x r mu).bind fun q => gListM gs xs q.1 q.2) = some z from e)
                simp only [List.length_cons, ih _ _ _ e2]
        exact key gs xs r mu h4
      exact ⟨a, vs, rfl, sub_t h1.sub g1, by rw [← g2.length]; exact hl, F, p, r, mu, xs, h1, h2, g2, h4⟩
    | _ => exact h4.elim
theorem g_sub (hu : X.A.units + 200 < cLine) (ho : PEM X cA W o mo) (hi : PEM X cA W a mi) (ha : ∀ v, assign (.Subscript o a pos) X.env v = (do
      let ov ← holding [v] (eval o X.env)
      let iv ← holding [v, ov] (eval a X.env)
      standAt pos
      holding [v, ov, iv] (setItem ov iv v)
      release [v, ov, iv] []) := by intro _; rfl) : PGM X cA (.Subscript o a pos) (gSubM mo mi) :=
  pg_weak (pg_sub ho hi (set_any hu) ha) fun v s H Q ⟨F, p, r, mu, x, h1, h2, h3, h4⟩ => by
    refine bindAtG h1 h2 h4 fun F1 p1 mu1 y w H1 a1 b1 c1 d1 e1 f1 => ?_
    refine bindAtG c1 d1 f1 fun F2 p2 mu2 y2 w2 H2 a2 b2 c2 d2 e2 f2 => ?_
    cases e3 : storeV mu2 y y2 x with
    | none => rw [e3] at f2; exact f2.elim
    | some mu3 =>
      rw [e3] at f2
      exact ⟨F2, p2, mu2, y, y2, x, mu3, c2, e1.mono a2 b2, e2, h3.mono (a1.trans a2) (b1.trans b2), e3, fun F' p' H' q1 q2 q3 => f2 F' p' H' s q1 q2 q3 (d2.mono q1 q2)⟩
end
end CC

set_option Elab.async false
set_option linter.all false
set_option maxRecDepth 100000
set_option maxHeartbeats 2000000
/-! CC10: statements, loops. -/
namespace CC
open PySem PySem.Spec PyProof.Rows L2
/-! ### the forms of statements -/
def nextS : MS := fun r mu => .nx r mu
def seqS (a b : MS) : MS := fun r mu => match a r mu with
  | .nx r1 mu1 => b r1 mu1
  | x => x
def retS (m : M Val) : MS := bindS m fun v _ mu => .rt v mu
def retNS : MS := fun _ mu => .rt .non mu
def exprS (m : M Val) : MS := bindS m fun _ r mu => .nx r mu
def asgS (m : M Val) (g : TM) : MS := bindS m fun v r mu => match g v r mu with
  | some (r', mu') => .nx r' mu'
  | none => .bad
def ifS (c : M Bool) (a b : MS) : MS := bindS c fun k r mu => if k = true then a r mu else b r mu
def brkS : MS := fun r mu => .bk r mu
def ctnS : MS := fun r mu => .ct r mu
section
variable {X : Cx} {cA : CI} {W : WX} {a b c e o tg : Expr} {ma mb mc mo mi : M Val} {mt : M Bool} {g : TM} {m1 m2 : MS} {pos pos' : Pos} {st : Stmt} {rest body orelse : List Stmt}
theorem denSeq {K : PySem.W.Frag} {D : Ends} {s : L2.St} {H : Hp} (h : DS K cA W (seqS m1 m2) D s H) : tSeq (DS K cA W m1) (DS K cA W m2) D s H := by
  obtain ⟨F, p, r, mu, h1, h2, h3⟩ := h
  refine ⟨F, p, r, mu, h1, h2, ?_⟩
  unfold seqS at h3
  cases e : m1 r mu with
  | nx r1 mu1 =>
    rw [e] at h3
    exact fun F' p' H' s' a b c d => ⟨F', p', r1, mu1, c, d, PostS.mono a b h3⟩
  | rt v mu1 => rw [e] at h3; exact h3
  | bk r1 mu1 => rw [e] at h3; exact h3
  | ct r1 mu1 => rw [e] at h3; exact h3
  | exc C fs r1 mu1 => rw [e] at h3; exact h3
  | bad => rw [e] at h3; exact h3
theorem s_nil : PSSM X cA W [] nextS := pss_weak pss_nil fun D s H ⟨F, p, r, mu, h1, h2, h3⟩ => h3 F p H s (Sub.refl F) (List.prefix_refl p) h1 h2
theorem s_cons (h1 : PSM X cA W st m1) (h2 : PSSM X cA W rest m2) : PSSM X cA W (st :: rest) (seqS m1 m2) := pss_weak (pss_cons h1 h2) fun D s H h => denSeq h
theorem s_one (h1 : PSM X cA W st m1) : PSSM X cA W [st] m1 := pss_one h1
theorem s_pass : PSM X cA W (.Pass pos) nextS := ps_weak ps_pass fun D s H ⟨F, p, r, mu, h1, h2, h3⟩ => h3 F p H s (Sub.refl F) (List.prefix_refl p) h1 h2
theorem s_brk : PSM X cA W (.Break pos) brkS := ps_weak ps_break fun D s H ⟨F, p, r, mu, h1, h2, h3⟩ => h3 F p H s (Sub.refl F) (List.prefix_refl p) h1 h2
theorem s_ctn : PSM X cA W (.Continue pos) ctnS := ps_weak ps_continue fun D s H ⟨F, p, r, mu, h1, h2, h3⟩ => h3 F p H s (Sub.refl F) (List.prefix_refl p) h1 h2
theorem s_ret (ha : PEM X cA W a ma) : PSM X cA W (.Return (some a) pos) (retS ma) := ps_weak (ps_ret ha) fun D s H ⟨F, p, r, mu, h1, h2, h3⟩ => bindAtS h1 h2 h3 fun F1 p1 mu1 x v H1 a1 b1 c1 d1 e1 f1 => f1 F1 p1 H1 v (Sub.refl F1) (List.prefix_refl p1) c1 e1
theorem s_retN : PSM X cA W (.Return none pos) retNS := ps_weak ps_retN fun D s H ⟨F, p, r, mu, h1, h2, h3⟩ => h3 F p H _ (Sub.refl F) (List.prefix_refl p) h1 .non
theorem s_expr (ha : PEM X cA W a ma) (hs : swapsWith a none pos.line X.env = pure false := by rfl) : PSM X cA W (.Expr a pos) (exprS ma) := ps_weak (ps_expr ha hs) fun D s H ⟨F, p, r, mu, h1, h2, h3⟩ => bindAtS h1 h2 h3 fun F1 p1 mu1 x v H1 a1 b1 c1 d1 e1 f1 => f1 F1 p1 H1 s (Sub.refl F1) (List.prefix_refl p1) c1 d1
theorem denAsg {K : PySem.W.Frag} {D : Ends} {s : L2.St} {H : Hp} (h : DS K cA W (asgS ma g) D s H) : tAsg (DE K cA W ma) (DG K cA g) D s H := by
  obtain ⟨F, p, r, mu, h1, h2, h3⟩ := h
  refine bindAtS h1 h2 h3 fun F1 p1 mu1 x v H1 a1 b1 c1 d1 e1 f1 => ?_
  refine ⟨F1, p1, r, mu1, x, c1, d1, e1, ?_⟩
  cases e2 : g x r mu1 with
  | none => rw [e2] at f1; exact f1.elim
  | some q => rw [e2] at f1; exact f1
theorem s_asg (ha : PEM X cA W a ma) (hg : PGM X cA tg g) (hs : swapsWithSole [tg] a pos.line X.env = pure false := by rfl) (hw : swappedStores [tg] a X.env = pure none := by rfl) (h1 : (assignEach [tg] X.env).map (·.2) = [assign tg X.env] := by rfl) : PSM X cA W (.Assign [tg] a pos) (asgS ma g) :=
  ps_weak (ps_asg ha hg hs hw h1) fun D s H h => denAsg h
theorem s_set {i : Nat} {x : Str} (hN : X.N.Nodup) (ha : PEM X cA W a ma) (hi : X.N[i]? = some x := by rfl) (hx : Loc X.env.scope x := by first | exact Or.inl rfl | exact Or.inr rfl) (hs : swapsWith a (some (.Name x pos')) pos.line X.env = pure false := by rfl) (hf : X.fn x = true ∨ X.env.scope.names.lookup x = some .local := by first | exact .inl rfl | exact .inr rfl) : PSM X cA W (.Assign [.Name x pos'] a pos) (asgS ma (gNameM i)) :=
  ps_weak (ps_set hN hi hx ha hs hf) fun D s H h => by
    obtain ⟨F, p, r, mu, h1, h2, h3⟩ := h
    refine bindAtS h1 h2 h3 fun F1 p1 mu1 x v H1 a1 b1 c1 d1 e1 f1 => ?_
    exact f1 F1 p1 H1 _ (Sub.refl F1) (List.prefix_refl p1) c1 (d1.set e1)
/-- a, b = x, y: two names -/
def parS (i j : Nat) (ms : M (List Val)) : MS := bindS ms fun vs r mu => match vs with
  | [v, w] => .nx ((r.set i (some v)).set j (some w)) mu
  | _ => .bad
theorem s_par {i j : Nat} {x y : Str} {ms : M (List Val)} {px py pt : Pos} {kt k2 pt2} (hc : X.calm = true) (hN : X.N.Nodup) (ha : PAM X cA W [a, b] ms) (hi : X.N[i]? = some x := by rfl) (hj : X.N[j]? = some y := by rfl) (hij : i ≠ j := by decide)
    (hx : X.env.scope.names.lookup x = some .local := by rfl) (hy : X.env.scope.names.lookup y = some .local := by rfl)
    (hw : swappedStores [.Tuple [.Name x px, .Name y py] kt pt] (.Tuple [a, b] k2 pt2) X.env = pure (some [x, y]) := by rfl)
    (hs : swapsWithSole [.Tuple [.Name x px, .Name y py] kt pt] (.Tuple [a, b] k2 pt2) pos.line X.env = pure false := by rfl) : PSM X cA W (.Assign [.Tuple [.Name x px, .Name y py] kt pt] (.Tuple [a, b] k2 pt2) pos) (parS i j ms) :=
  ps_weak (ps_par hc hN hi hj hij hx hy ha hw hs) fun D s H ⟨F, p, r, mu, h1, h2, h3⟩ => bindAtS h1 h2 h3 fun F1 p1 mu1 xs vs H1 a1 b1 c1 d1 e1 f1 => by
    match xs, f1 with
    | [x, y], f1 =>
      obtain ⟨v, w, rfl, g1, g2⟩ := vrs2 e1
      exact ⟨v, w, rfl, f1 F1 p1 H1 _ (Sub.refl F1) (List.prefix_refl p1) c1 ((d1.set g1).set g2)⟩
theorem s_if (hc : PTM X cA W c mt) (h1 : PSSM X cA W body m1) (h2 : PSSM X cA W orelse m2) : PSM X cA W (.If c body orelse pos) (ifS mt m1 m2) :=
  ps_weak (ps_if hc h1 h2) fun D s H ⟨F, p, r, mu, h1, h2, h3⟩ => bindAtS h1 h2 h3 fun F1 p1 mu1 x v H1 a1 b1 c1 d1 e1 f1 => by
    subst e1
    cases x with
    | true => exact ⟨F1, p1, r, mu1, c1, d1, f1⟩
    | false => exact ⟨F1, p1, r, mu1, c1, d1, f1⟩
end
/-! ### attributes -/
/-- na: the fields that a class's objects have, no attribute of the class -/
structure KF (K : PySem.W.Frag) (cA : CI) (na : Nat → Nat → Bool) : Prop where
  cl : ∀ C n, na C n = true → Cls K (cA C)
  no : ∀ C n, na C n = true → NoAttr K (cA C) (aN n)
def objV (mu : Store) : Val → Option (Nat × List (Nat × Val))
  | .obj C fs => some (C, fs)
  | .ref r => (match mu[r]? with
    | some (.obj C fs) => some (C, fs)
    | _ => none)
  | _ => none
theorem objV_ok {K : PySem.W.Frag} {cA : CI} {F : Fz} {H : Hp} {p : List Addr} {mu : Store} {a : Val} {v : V} {C : Nat} {fs : List (Nat × Val)} (R : Rel K cA F p mu H) (r : VR K cA F p a v) (e : objV mu a = some (C, fs)) : ∃ l dx gs, v = .ref l ∧ H l = some (.ins (cA C) dx gs) ∧ FVR K cA F p fs gs := by
  cases r with
  | obj h1 h2 => cases e; exact ⟨_, _, _, rfl, R.sub _ _ h1, h2⟩
  | ref h1 =>
    obtain ⟨c, h2, h3⟩ := R.at_some h1
    simp only [objV, h2] at e
    cases c with
    | obj C' fs' => cases e; obtain ⟨dx, gs, g1, g2⟩ := h3; exact ⟨_, dx, gs, rfl, g1, g2⟩
    | lst _ => cases e
    | dct _ => cases e
  | _ => cases e
def fldV (na : Nat → Nat → Bool) (n : Nat) (mu : Store) (a : Val) : Option Val := (objV mu a).bind fun q => if na q.1 n = true then q.2.lookup n else none
def setV (na : Nat → Nat → Bool) (n : Nat) (mu : Store) (o v : Val) : Option Store := match o with
  | .ref k => (match mu[k]? with
    | some (.obj C fs) => if na C n = true ∧ fs.length < 1000 then some (mu.set k (.obj C (setF n v fs))) else none
    | _ => none)
  | _ => none
def gFldM (na : Nat → Nat → Bool) (n : Nat) (mo : M Val) : TM := fun v r mu => (optX (mo r mu)).bind fun o => (setV na n o.2 o.1 v).map fun mu' => (r, mu')
section
variable {X : Cx} {cA : CI} {W : WX} {na : Nat → Nat → Bool} {a b c e o tg : Expr} {ma mb mc mo mi : M Val} {pos pos' : Pos}
theorem c_fld {n : Nat} {f : Str} (T : KF X.K cA na) (ha : PEM X cA W a ma) (hf : f = aN n := by decide +kernel) (hn : n < 45 := by decide) (hb : attributeBase a f X.env (eval a X.env) = eval a X.env := by rfl) : PEM X cA W (.Attribute a f pos) (u1 (fldV na n) ma) :=
  pe_weak (pe_fld ha hb) fun s H Q ⟨F, p, r, mu, h1, h2, h3⟩ => bindAt h1 h2 h3 fun F1 p1 mu1 x v H1 a1 b1 c1 d1 e1 f1 => by
    obtain ⟨z, e, q⟩ := post_opt f1
    obtain ⟨⟨C, fs⟩, g1, g2⟩ := Option.bind_eq_some_iff.mp e
    simp only at g2
    by_cases hc : na C n = true
    · rw [if_pos hc] at g2
      obtain ⟨l, dx, gs, rfl, g3, g4⟩ := objV_ok c1 e1 g1
      obtain ⟨w, g5, g6⟩ := g4.look hn g2
      exact ⟨l, cA C, dx, gs, w, rfl, g3, T.cl C n hc, hf ▸ T.no C n hc, hf ▸ g5, q.now c1 g6⟩
    · rw [if_neg hc] at g2; cases g2
theorem setV_ok {pins : List (Addr × Obj)} {s : Shared} {σ : L2.St} {H : Hp} {F : Fz} {p : List Addr} {mu mu' : Store} {y : Val} {x : Val} {v w : V} {ov u : Value} {n : Nat} {f : Str} {A : Around} {E : Value → Shared → Prop} {Q : Unit → Shared → Prop} (T : KF X.K cA na) (I : Inv X pins σ H s) (R : Rel X.K cA F p mu H) (ra : VR X.K cA F p y w) (rx : VR X.K cA F p x v) (ro : RelV w ov) (rv : RelV v u) (hf : f = aN n) (hn : n < 45)
    (e : setV na n mu y x = some mu') (h : ∀ H' s', Inv X pins σ H' s' → Rel X.K cA F p mu' H' → Q () s') : wpAny (model X.prog X.w) A (setAttr ov f u) Q E s := by
  cases ra with
  | @ref k ad hk =>
    obtain ⟨cl, h2, h3⟩ := R.at_some hk
    simp only [setV, h2] at e
    cases cl with
    | obj C fs =>
      simp only at e
      by_cases hc : na C n = true ∧ fs.length < 1000
      · rw [if_pos hc] at e
        cases e
        obtain ⟨dx, gs, g1, g2⟩ := h3
        obtain rfl : ov = Value.ref ad := ro
        refine setattr_ok I g1 (T.cl C n hc.1) (hf ▸ T.no C n hc.1) (by rw [← g2.length]; exact hc.2) rv fun s' I' => h _ s' I' (R.write hk ⟨dx, _, upd_same, ?_⟩)
        rw [hf]
        exact g2.put hn rx
      · rw [if_neg hc] at e; cases e
    | lst _ => cases e
    | dct _ => cases e
  | _ => cases e
theorem g_fld {n : Nat} {f : Str} (T : KF X.K cA na) (ho : PEM X cA W o mo) (hf : f = aN n := by decide +kernel) (hn : n < 45 := by decide) : PGM X cA (.Attribute o f pos) (gFldM na n mo) := by
  refine ⟨fun pins s σ H v u Q I rv ⟨F, p, r, mu, x, h1, h2, h3, h4⟩ => ?_⟩
  have hd : DE X.K cA W mo σ H fun w H' => ∃ F1 p1 mu1 y, Rel X.K cA F1 p1 mu1 H' ∧ EnvR X.K cA F1 p1 r σ ∧ VR X.K cA F1 p1 y w ∧ VR X.K cA F1 p1 x v ∧ PostG X.K cA F1 p1 Q ((setV na n mu1 y x).map fun mu' => (r, mu')) :=
    bindAtG h1 h2 h4 fun F1 p1 mu1 y w H1 a1 b1 c1 d1 e1 f1 => ⟨F1, p1, mu1, y, c1, d1, e1, h3.mono a1 b1, f1⟩
  show wpAny _ _ (do
    let ov ← holding [u] (eval o X.env)
    standAt pos.atName
    holding [u, ov] (setAttr ov f u)
    release [u, ov] []) _ _ s
  refine wpAny_bind (wpAny_holding (thn (ho.run pins s σ H _ I hd) fun ov s1 ⟨w, H1, I1, ro, F1, p1, mu1, y, c1, d1, e1, e2, f1⟩ => ?_))
  cases e3 : setV na n mu1 y x with
  | none => rw [e3] at f1; exact f1.elim
  | some mu2 =>
    rw [e3] at f1
    refine wpAny_bind (wpAny_standAt (wpAny_bind (wpAny_holding (setV_ok T I1 c1 e1 e2 ro rv hf hn e3 fun H2 s2 I2 R2 => ?_))))
    exact wpAny_release ⟨σ, H2, I2, f1 F1 p1 H2 σ (Sub.refl F1) (List.prefix_refl p1) R2 d1⟩
theorem s_fld {n : Nat} {f : Str} (T : KF X.K cA na) (ho : PEM X cA W o mo) (ha : PEM X cA W a ma) (hf : f = aN n := by decide +kernel) (hn : n < 45 := by decide) (hs : swapsWithSole [.Attribute o f pos'] a pos.line X.env = pure false := by rfl) (hw : swappedStores [.Attribute o f pos'] a X.env = pure none := by rfl) (h1 : (assignEach [.Attribute o f pos'] X.env).map (·.2) = [assign (.Attribute o f pos') X.env] := by rfl) :
    PSM X cA W (.Assign [.Attribute o f pos'] a pos) (asgS ma (gFldM na n mo)) := s_asg ha (g_fld T ho hf hn) hs hw h1
end
/-! ### what is gone through -/
abbrev Ok := Store → Prop
structure ItR (K : PySem.W.Frag) (cA : CI) (F : Fz) (p : List Addr) (q : List Val × Ok) (J : It) : Prop where
  go : ∀ i F' p' mu' H', i < q.1.length → Sub0 F F' → p <+: p' → Rel K cA F' p' mu' H' → q.2 mu' → J.go i H'
  yld : ∀ i F' p' mu' H' x H'', i < q.1.length → Sub0 F F' → p <+: p' → Rel K cA F' p' mu' H' → q.2 mu' → J.yld i H' x H'' → ∃ F'' y, q.1[i]? = some y ∧ Sub F' F'' ∧ Rel K cA F'' p' mu' H'' ∧ VR K cA F'' p' y x
  stop : ∀ F' p' mu' H', Sub0 F F' → p <+: p' → Rel K cA F' p' mu' H' → q.2 mu' → J.stop q.1.length H'
def PIM (X : Cx) (cA : CI) (W : WX) (tg it : Expr) (m : M (List Val × Ok)) : Prop := PI X tg it (Den X.K cA (ItR X.K cA) W m)
theorem pi_weak {X : Cx} {tg it : Expr} {t t' : TI} (h : PI X tg it t) (w : ∀ s H Q, t' s H Q → t s H Q) : PI X tg it t' := ⟨fun pins s σ H Q I q => h.run pins s σ H Q I (w _ _ _ q)⟩
def allOk : Ok := fun _ => True
/-- of a list, a tuple, the script, a text -/
def itV (mu : Store) : Val → Option (List Val × Ok)
  | .tup xs => some (xs, allOk)
  | .lst xs => some (xs, allOk)
  | .scr ns => some (ns.map Val.int, allOk)
  | .str s => some (s.map fun c => Val.str [c], allOk)
  | .ref k => (match mu[k]? with
    | some (.lst xs) => some (xs, fun mu' => mu'[k]? = some (.lst xs))
    | _ => none)
  | _ => none
theorem VRs.at_nat {K : PySem.W.Frag} {cA : CI} {F : Fz} {p : List Addr} {xs : List Val} {vs : List V} {i : Nat} (r : VRs K cA F p xs vs) (h : i < xs.length) : ∃ y v, xs[i]? = some y ∧ vs[i]? = some v ∧ VR K cA F p y v := by
  obtain ⟨v, h1, h2⟩ := r.get (List.getElem?_eq_getElem h)
  exact ⟨_, v, List.getElem?_eq_getElem h, h1, h2⟩
section
variable {K : PySem.W.Frag} {cA : CI} {F : Fz} {p : List Addr} {mu : Store} {H : Hp}
theorem itr_tup {a : Addr} {xs : List Val} {vs : List V} (h1 : SqT K F.f a vs) (h2 : VRs K cA F p xs vs) : ItR K cA F p (xs, allOk) (Itt K a) where
  go := fun i F' p' mu' H' hi s b R _ => by
    obtain ⟨y, v, e1, e2, _⟩ := h2.at_nat hi
    exact ⟨vs, v, sub_t R.sub (sub_t s h1), e2⟩
  yld := fun i F' p' mu' H' x H'' hi s b R _ ⟨hH, hx⟩ => by
    subst hH
    obtain ⟨y, v, e1, e2, e3⟩ := h2.at_nat hi
    have := hx vs (sub_t R.sub (sub_t s h1))
    rw [e2] at this
    cases this
    exact ⟨F', y, e1, Sub.refl F', R, (e3.up s).mono (Sub.refl F') b⟩
  stop := fun F' p' mu' H' s b R _ => ⟨vs, sub_t R.sub (sub_t s h1), by rw [h2.length]; exact Nat.le_refl _⟩
theorem itr_lst {a : Addr} {xs : List Val} {vs : List V} (h1 : SqL K F.f a vs) (h2 : VRs K cA F p xs vs) : ItR K cA F p (xs, allOk) (Itl K a) where
  go := fun i F' p' mu' H' hi s b R _ => by
    obtain ⟨y, v, e1, e2, _⟩ := h2.at_nat hi
    exact ⟨vs, v, sub_l R.sub (sub_l s h1), e2⟩
  yld := fun i F' p' mu' H' x H'' hi s b R _ ⟨hH, hx⟩ => by
    subst hH
    obtain ⟨y, v, e1, e2, e3⟩ := h2.at_nat hi
    have := hx vs (sub_l R.sub (sub_l s h1))
    rw [e2] at this
    cases this
    exact ⟨F', y, e1, Sub.refl F', R, (e3.up s).mono (Sub.refl F') b⟩
  stop := fun F' p' mu' H' s b R _ => ⟨vs, sub_l R.sub (sub_l s h1), by rw [h2.length]; exact Nat.le_refl _⟩
theorem itr_cell {k : Nat} {a : Addr} {xs : List Val} (h1 : p[k]? = some a) : ItR K cA F p (xs, fun mu' => mu'[k]? = some (.lst xs)) (Itl K a) where
  go := fun i F' p' mu' H' hi s b R ok => by
    obtain ⟨vs, g1, g2⟩ := R.cell k a _ (pre_get b h1) ok
    obtain ⟨y, v, e1, e2, _⟩ := g2.at_nat hi
    exact ⟨vs, v, SqL.of g1, e2⟩
  yld := fun i F' p' mu' H' x H'' hi s b R ok ⟨hH, hx⟩ => by
    subst hH
    obtain ⟨vs, g1, g2⟩ := R.cell k a _ (pre_get b h1) ok
    obtain ⟨y, v, e1, e2, e3⟩ := g2.at_nat hi
    have := hx vs (SqL.of g1)
    rw [e2] at this
    cases this
    exact ⟨F', y, e1, Sub.refl F', R, e3⟩
  stop := fun F' p' mu' H' s b R ok => by
    obtain ⟨vs, g1, g2⟩ := R.cell k a _ (pre_get b h1) ok
    exact ⟨vs, SqL.of g1, by rw [g2.length]; exact Nat.le_refl _⟩
theorem itr_str {s : List Nat} : ItR K cA F p (s.map fun c => Val.str [c], allOk) (Its (S s)) where
  go := fun i F' p' mu' H' hi _ b R _ => by
    rw [List.length_map] at hi
    show i < (S s).cps.size
    simpa [S] using hi
  yld := fun i F' p' mu' H' x H'' hi _ b R _ ⟨hH, c, hc, hx⟩ => by
    subst hH
    subst hx
    refine ⟨F', .str [c], ?_, Sub.refl F', R, .str [c]⟩
    rw [List.getElem?_map]
    have : s[i]? = some c := by simpa [S] using hc
    rw [this]
    rfl
  stop := fun F' p' mu' H' _ b R _ => by
    show (S s).cps.size ≤ _
    simp [S]
end
/-- range(n), range(lo, hi) -/
def rngL (lo : Int) (n : Nat) : List Val := (List.range n).map fun (i : Nat) => Val.int (lo + i)
def itL (ma : M Val) : M (List Val × Ok) := fun r mu => (ma r mu).bind fun x mu1 => match x with
  | .lst xs => .ok (xs, allOk) mu1
  | .scr ns => .ok (ns.map Val.int, allOk) mu1
  | .ref k => (match mu1[k]? with
    | some (.lst xs) => .ok (xs, fun mu' => mu'[k]? = some (.lst xs)) mu1
    | _ => .bad)
  | _ => .bad
def itT (ma : M Val) : M (List Val × Ok) := fun r mu => (ma r mu).bind fun x mu1 => match x with
  | .tup xs => .ok (xs, allOk) mu1
  | _ => .bad
def itS (ma : M Val) : M (List Val × Ok) := fun r mu => (ma r mu).bind fun x mu1 => match x with
  | .str s => .ok (s.map fun c => Val.str [c], allOk) mu1
  | _ => .bad
def itR1 (ms : M (List Val)) : M (List Val × Ok) := fun r mu => (ms r mu).bind fun xs mu1 => match xs with
  | [.int j] => if j.natAbs < 1000000000 then .ok (rngL 0 j.toNat, allOk) mu1 else .bad
  | _ => .bad
def itR2 (ms : M (List Val)) : M (List Val × Ok) := fun r mu => (ms r mu).bind fun xs mu1 => match xs with
  | [.int i, .int j] => if i.natAbs < 1000000000 ∧ j.natAbs < 1000000000 then .ok (rngL i (j - i).toNat, allOk) mu1 else .bad
  | _ => .bad
def seqIt (m : M Val) : M (List Val × Ok) := fun r mu => (m r mu).bind fun x mu1 => optR (itV mu1 x) mu1
section
variable {X : Cx} {cA : CI} {W : WX} {a b c e o tg it : Expr} {ma mb mc mo mi : M Val} {pos pos' : Pos}
theorem post_optI {K : PySem.W.Frag} {F : Fz} {p : List Addr} {s : L2.St} {Q : It → Hp → Prop} {o : Option (List Val × Ok)} {mu : Store} {H : Hp} (R : Rel K cA F p mu H) (h : Post K cA (ItR K cA) W s F p Q (optR o mu)) : ∃ q, o = some q ∧ ∀ J, ItR K cA F p q J → Q J H := by
  cases o with
  | none => exact h.elim
  | some z => exact ⟨z, rfl, fun J hJ => h F p H J (Sub.refl F) (List.prefix_refl p) R hJ⟩
/-- a list, the script -/
theorem i_list (ha : PEM X cA W a ma) : PIM X cA W tg a (itL ma) :=
  pi_weak (pi_list ha) fun s H Q ⟨F, p, r, mu, h1, h2, h3⟩ => by
   unfold itL at h3
   exact bindAt h1 h2 h3 fun F1 p1 mu1 x v H1 a1 b1 c1 d1 e1 f1 => by
    cases e1 with
    | lst g1 g2 => exact ⟨_, rfl, ⟨_, SqL.of (c1.sub _ _ g1)⟩, f1 F1 p1 H1 _ (Sub.refl F1) (List.prefix_refl p1) c1 (itr_lst (SqL.of g1) g2)⟩
    | scr g1 => exact ⟨_, rfl, ⟨_, sub_l c1.sub g1⟩, f1 F1 p1 H1 _ (Sub.refl F1) (List.prefix_refl p1) c1 (itr_lst g1 (.map_int _))⟩
    | @ref k ad hk =>
      obtain ⟨cl, g1, g2⟩ := c1.at_some hk
      simp only [g1] at f1
      cases cl with
      | lst xs =>
        obtain ⟨vs, g3, g4⟩ := g2
        exact ⟨ad, rfl, ⟨vs, SqL.of g3⟩, f1 F1 p1 H1 _ (Sub.refl F1) (List.prefix_refl p1) c1 (itr_cell hk)⟩
      | dct _ => exact f1.elim
      | obj _ _ => exact f1.elim
    | _ => exact f1.elim
theorem i_tup (ha : PEM X cA W a ma) : PIM X cA W tg a (itT ma) :=
  pi_weak (pi_tup ha) fun s H Q ⟨F, p, r, mu, h1, h2, h3⟩ => by
   unfold itT at h3
   exact bindAt h1 h2 h3 fun F1 p1 mu1 x v H1 a1 b1 c1 d1 e1 f1 => by
    cases e1 with
    | tup g1 g2 => exact ⟨_, rfl, ⟨_, sub_t c1.sub g1⟩, f1 F1 p1 H1 _ (Sub.refl F1) (List.prefix_refl p1) c1 (itr_tup g1 g2)⟩
    | _ => exact f1.elim
theorem i_str (ha : PEM X cA W a ma) : PIM X cA W tg a (itS ma) :=
  pi_weak (pi_str ha) fun s H Q ⟨F, p, r, mu, h1, h2, h3⟩ => by
   unfold itS at h3
   exact bindAt h1 h2 h3 fun F1 p1 mu1 x v H1 a1 b1 c1 d1 e1 f1 => by
    cases e1 with
    | str t => exact ⟨S t, rfl, f1 F1 p1 H1 _ (Sub.refl F1) (List.prefix_refl p1) c1 itr_str⟩
    | _ => exact f1.elim
theorem itr_rng {K : PySem.W.Frag} {F : Fz} {p : List Addr} {lo : Int} {n : Nat} : ItR K cA F p (rngL lo n, allOk) (Itr lo n) where
  go := fun i F' p' mu' H' hi _ b R _ => by
    show i < n
    simpa [rngL] using hi
  yld := fun i F' p' mu' H' x H'' hi _ b R _ ⟨hH, hx⟩ => by
    subst hH
    subst hx
    have hi' : i < n := by simpa [rngL] using hi
    exact ⟨F', _, by simp [rngL, hi'], Sub.refl F', R, .int _⟩
  stop := fun F' p' mu' H' _ b R _ => by
    show n ≤ _
    simp [rngL]
theorem i_rng1 {p : Pos} {ms : M (List Val)} (hm : X.mg "range" = none) (ha : PAM X cA W [a] ms) (hg : Gl X "range" := by rfl) (hs : starEach [a] X.env = [(false, eval a X.env)] := by rfl) : PIM X cA W tg (.Call (.Name "range" p) [a] [] pos) (itR1 ms) :=
  pi_weak (pi_range1 hg hm ha hs) fun s H Q ⟨F, p, r, mu, h1, h2, h3⟩ => by
   unfold itR1 at h3
   exact bindAt h1 h2 h3 fun F1 p1 mu1 x v H1 a1 b1 c1 d1 e1 f1 => by
    match x, f1, e1 with
    | [.int j], f1, e1 =>
      obtain ⟨v, rfl, rv⟩ := vrs1 e1
      cases rv
      by_cases hc : j.natAbs < 1000000000
      · simp only [if_pos hc] at f1
        exact ⟨j, rfl, by omega, by omega, f1 F1 p1 H1 _ (Sub.refl F1) (List.prefix_refl p1) c1 itr_rng⟩
      · simp only [if_neg hc] at f1; exact f1.elim
theorem i_rng2 {p : Pos} {ms : M (List Val)} (hm : X.mg "range" = none) (ha : PAM X cA W [a, b] ms) (hg : Gl X "range" := by rfl) (hs : starEach [a, b] X.env = [(false, eval a X.env), (false, eval b X.env)] := by rfl) (hs2 : starEach [b] X.env = [(false, eval b X.env)] := by rfl) : PIM X cA W tg (.Call (.Name "range" p) [a, b] [] pos) (itR2 ms) :=
  pi_weak (pi_range2 hg hm ha hs hs2) fun s H Q ⟨F, p, r, mu, h1, h2, h3⟩ => by
   unfold itR2 at h3
   exact bindAt h1 h2 h3 fun F1 p1 mu1 x v H1 a1 b1 c1 d1 e1 f1 => by
    match x, f1, e1 with
    | [.int i, .int j], f1, e1 =>
      obtain ⟨v, w, rfl, rv, rw'⟩ := vrs2 e1
      cases rv
      cases rw'
      by_cases hc : i.natAbs < 1000000000 ∧ j.natAbs < 1000000000
      · simp only [if_pos hc] at f1
        exact ⟨i, j, rfl, by omega, f1 F1 p1 H1 _ (Sub.refl F1) (List.prefix_refl p1) c1 itr_rng⟩
      · simp only [if_neg hc] at f1; exact f1.elim
end
/-! ### for -/
open Classical in
noncomputable def forL (ok : Ok) (g : TM) (body : MS) : List Val → MS
  | [] => fun r mu => if ok mu then .nx r mu else .bad
  | x :: xs => fun r mu => if ok mu then (match g x r mu with
    | some (r1, mu1) => (match body r1 mu1 with
      | .nx r2 mu2 => forL ok g body xs r2 mu2
      | .ct r2 mu2 => forL ok g body xs r2 mu2
      | .bk r2 mu2 => .nx r2 mu2
      | .rt v mu2 => .rt v mu2
      | .exc C fs r2 mu2 => .exc C fs r2 mu2
      | .bad => .bad)
    | none => .bad) else .bad
noncomputable def forS (mi : M (List Val × Ok)) (g : TM) (body : MS) : MS := bindS mi fun q r mu => forL q.2 g body q.1 r mu
theorem getElem?_drop0 {α : Type} {l : List α} {i : Nat} (h : i < l.length) : l.drop i = l[i] :: l.drop (i + 1) := List.drop_eq_getElem_cons h
section
variable {X : Cx} {cA : CI} {W : WX} {it tg : Expr} {mi : M (List Val × Ok)} {g : TM} {m1 : MS} {body : List Stmt} {pos : Pos}
theorem denFor {K : PySem.W.Frag} {D : Ends} {s : L2.St} {H : Hp} (h : DS K cA W (forS mi g m1) D s H) : tFor (Den K cA (ItR K cA) W mi) (DG K cA g) (DS K cA W m1) D s H := by
  obtain ⟨F, p, r, mu, h1, h2, h3⟩ := h
  refine bindAtS h1 h2 h3 fun F1 p1 mu1 q J H1 a1 b1 c1 d1 e1 f1 => ?_
  refine ⟨fun i m s' H' => m = q.1.length - i ∧ i ≤ q.1.length ∧ ∃ F' p' r' mu', Sub0 F1 F' ∧ p1 <+: p' ∧ Rel K cA F' p' mu' H' ∧ EnvR K cA F' p' r' s' ∧ PostS K cA W F' p' D (forL q.2 g m1 (q.1.drop i) r' mu'), ⟨_, rfl, Nat.zero_le _, F1, p1, r, mu1, SubH.refl _, List.prefix_refl p1, c1, d1, f1⟩, ?_⟩
  rintro i m s' H' ⟨rfl, hi, F', p', r', mu', s1, s2, s3, s4, s5⟩
  by_cases hlt : i < q.1.length
  · rw [getElem?_drop0 hlt] at s5
    unfold forL at s5
    by_cases hok : q.2 mu'
    · rw [if_pos hok] at s5
      refine .inr ⟨e1.go i F' p' mu' H' hlt s1 s2 s3 hok, fun s'' H'' => i + 1 ≤ q.1.length ∧ ∃ F'' p'' r'' mu'', Sub0 F1 F'' ∧ p1 <+: p'' ∧ Rel K cA F'' p'' mu'' H'' ∧ EnvR K cA F'' p'' r'' s'' ∧ PostS K cA W F'' p'' D (forL q.2 g m1 (q.1.drop (i + 1)) r'' mu''), fun s'' H'' hN => ⟨_, by omega, rfl, hN.1, hN.2⟩, fun x H'' hy => ?_⟩
      obtain ⟨F2, y, g1, g2, g3, g4⟩ := e1.yld i F' p' mu' H' x H'' hlt s1 s2 s3 hok hy
      rw [List.getElem?_eq_getElem hlt] at g1
      cases g1
      refine ⟨F2, p', r', mu', _, g3, s4.mono g2 (List.prefix_refl p'), g4, ?_⟩
      cases e2 : g q.1[i] r' mu' with
      | none => rw [e2] at s5; exact s5.elim
      | some w =>
        obtain ⟨r2, mu2⟩ := w
        rw [e2] at s5
        simp only at s5
        intro F3 p3 H3 s6 k1 k2 k3 k4
        have s7 : Sub0 F1 F3 := SubH.trans s1 (SubH.trans g2.1 k1.1)
        refine ⟨F3, p3, r2, mu2, k3, k4, ?_⟩
        have go : ∀ {r5 : Env1} {mu5 : Store}, PostS K cA W F' p' D (forL q.2 g m1 (q.1.drop (i + 1)) r5 mu5) → ∀ F4 p4 H4 s8, Sub F3 F4 → p3 <+: p4 → Rel K cA F4 p4 mu5 H4 → EnvR K cA F4 p4 r5 s8 → i + 1 ≤ q.1.length ∧ ∃ F'' p'' r'' mu'', Sub0 F1 F'' ∧ p1 <+: p'' ∧ Rel K cA F'' p'' mu'' H4 ∧ EnvR K cA F'' p'' r'' s8 ∧ PostS K cA W F'' p'' D (forL q.2 g m1 (q.1.drop (i + 1)) r'' mu'') :=
          fun hp F4 p4 H4 s8 l1 l2 l3 l4 => ⟨hlt, F4, p4, _, _, SubH.trans s7 l1.1, s2.trans (k2.trans l2), l3, l4, PostS.mono (g2.trans (k1.trans l1)) (k2.trans l2) hp⟩
        have up : ∀ {x : SR}, PostS K cA W F' p' D x → PostS K cA W F3 p3 D x := fun hp => PostS.mono (g2.trans k1) k2 hp
        cases e3 : m1 r2 mu2 with
        | nx r5 mu5 => rw [e3] at s5; exact go s5
        | ct r5 mu5 => rw [e3] at s5; exact go s5
        | bk r5 mu5 => rw [e3] at s5; exact up s5
        | rt v mu5 => rw [e3] at s5; exact up s5
        | exc C fs r5 mu5 => rw [e3] at s5; exact up s5
        | bad => rw [e3] at s5; exact s5.elim
    · rw [if_neg hok] at s5; exact s5.elim
  · have hi' : i = q.1.length := by omega
    subst hi'
    rw [List.drop_length] at s5
    unfold forL at s5
    by_cases hok : q.2 mu'
    · rw [if_pos hok] at s5
      exact .inl ⟨e1.stop F' p' mu' H' s1 s2 s3 hok, s5 F' p' H' s' (Sub.refl F') (List.prefix_refl p') s3 s4⟩
    · rw [if_neg hok] at s5; exact s5.elim
theorem s_for (hp : PassesOwn (model X.prog X.w) X.A X.env X.xe) (hc : X.calm = true) (hi : PIM X cA W tg it mi) (hg : PGM X cA tg g) (hb : PSSM X cA W body m1) (hs : ∀ x, foldedSetIterable it X.env x = pure x := by intro _; rfl) : PSM X cA W (.For tg it body [] pos) (forS mi g m1) :=
  ps_weak (ps_for hp hc hi hg hb hs) fun D s H h => denFor h
/-! ### while -/
def whileN (c : M Bool) (body : MS) : Nat → MS
  | 0 => fun _ _ => .bad
  | n + 1 => bindS c fun k r mu => if k = true then (match body r mu with
    | .nx r2 mu2 => whileN c body n r2 mu2
    | .ct r2 mu2 => whileN c body n r2 mu2
    | .bk r2 mu2 => .nx r2 mu2
    | .rt v mu2 => .rt v mu2
    | .exc C fs r2 mu2 => .exc C fs r2 mu2
    | .bad => .bad) else .nx r mu
theorem denWhile {K : PySem.W.Frag} {D : Ends} {s : L2.St} {H : Hp} {c : M Bool} {n : Nat} (h : DS K cA W (whileN c m1 n) D s H) : tWhile (DT K cA W c) (DS K cA W m1) D s H := by
  refine ⟨fun m s' H' => DS K cA W (whileN c m1 m) D s' H', ⟨n, h⟩, ?_⟩
  rintro m s' H' ⟨F, p, r, mu, h1, h2, h3⟩
  cases m with
  | zero => exact h3.elim
  | succ m =>
    refine bindAtS h1 h2 h3 fun F1 p1 mu1 x v H1 a1 b1 c1 d1 e1 f1 => ?_
    subst e1
    cases x with
    | false =>
      simp only [Bool.false_eq_true, if_false] at f1 ⊢
      exact f1 F1 p1 H1 s' (Sub.refl F1) (List.prefix_refl p1) c1 d1
    | true =>
      simp only [if_true] at f1 ⊢
      refine ⟨fun s'' H'' => DS K cA W (whileN c m1 m) D s'' H'', fun s'' H'' hN => ⟨m, Nat.lt_succ_self m, hN⟩, F1, p1, r, mu1, c1, d1, ?_⟩
      cases e3 : m1 r mu1 with
      | nx r5 mu5 => rw [e3] at f1; exact fun F4 p4 H4 s8 l1 l2 l3 l4 => ⟨F4, p4, r5, mu5, l3, l4, PostS.mono l1 l2 f1⟩
      | ct r5 mu5 => rw [e3] at f1; exact fun F4 p4 H4 s8 l1 l2 l3 l4 => ⟨F4, p4, r5, mu5, l3, l4, PostS.mono l1 l2 f1⟩
      | bk r5 mu5 => rw [e3] at f1; exact f1
      | rt v mu5 => rw [e3] at f1; exact f1
      | exc C fs r5 mu5 => rw [e3] at f1; exact f1
      | bad => rw [e3] at f1; exact f1.elim
theorem s_while {c : Expr} {mc : M Bool} (n : Nat) (hp : PassesOwn (model X.prog X.w) X.A X.env X.xe) (hc : PTM X cA W c mc) (hb : PSSM X cA W body m1) : PSM X cA W (.While c body [] pos) (whileN mc m1 n) :=
  ps_weak (ps_while hp hc hb) fun D s H h => denWhile h
end
end CC

set_option Elab.async false
set_option linter.all false
set_option maxRecDepth 100000
set_option maxHeartbeats 2000000
/-! CC11: comprehensions, enumerate. -/
namespace CC
open PySem PySem.Spec PyProof.Rows L2
/-! ### slots -/
def wipeE (r : Env1) : List Nat → Env1
  | [] => r
  | v :: vs => (wipeE r vs).set v none
def setAll {α : Type} (s : List (Option α)) : List Nat → List α → List (Option α)
  | i :: is, v :: vs => setAll (s.set i (some v)) is vs
  | _, _ => s
theorem wipe_at (s : L2.St) : ∀ (vs : List Nat) (j : Nat), (wipe s vs)[j]? = if j ∈ vs then (if j < s.length then some none else none) else s[j]?
  | [], j => by simp [wipe]
  | v :: vs, j => by
    unfold wipe
    by_cases h : v = j
    · subst h
      simp only [List.mem_cons, true_or, if_true]
      by_cases hl : v < s.length
      · rw [if_pos hl, List.getElem?_set_self (by rw [wipe_length]; exact hl)]
      · rw [if_neg hl, List.getElem?_eq_none (by rw [List.length_set, wipe_length]; omega)]
    · rw [List.getElem?_set_ne h, wipe_at s vs j]
      by_cases hm : j ∈ vs
      · rw [if_pos hm, if_pos (List.mem_cons_of_mem _ hm)]
      · rw [if_neg hm, if_neg (by simp only [List.mem_cons, not_or]; exact ⟨Ne.symm h, hm⟩)]
theorem setAll_length {α : Type} : ∀ (is : List Nat) (vs : List α) (s : List (Option α)), (setAll s is vs).length = s.length
  | [], _, _ => rfl
  | _ :: _, [], _ => rfl
  | i :: is, v :: vs, s => by
    show (setAll (s.set i (some v)) is vs).length = _
    rw [setAll_length is vs, List.length_set]
theorem setAll_out {α : Type} : ∀ (is : List Nat) (vs : List α) (s : List (Option α)) (j : Nat), j ∉ is → (setAll s is vs)[j]? = s[j]?
  | [], _, _, _, _ => rfl
  | _ :: _, [], _, _, _ => rfl
  | i :: is, v :: vs, s, j, h => by
    simp only [List.mem_cons, not_or] at h
    show (setAll (s.set i (some v)) is vs)[j]? = _
    rw [setAll_out is vs _ j h.2, List.getElem?_set_ne (Ne.symm h.1)]
theorem wipe_setAll {s : L2.St} {is : List Nat} {vs : List V} {js : List Nat} (h : ∀ i ∈ is, i ∈ js) : wipe (setAll s is vs) js = wipe s js := by
  refine List.ext_getElem? fun j => ?_
  rw [wipe_at, wipe_at, setAll_length]
  by_cases hj : j ∈ js
  · rw [if_pos hj, if_pos hj]
  · rw [if_neg hj, if_neg hj]
    exact setAll_out _ _ _ _ fun z => hj (h _ z)
theorem wipe_wipe {s : L2.St} {js : List Nat} : wipe (wipe s js) js = wipe s js := by
  refine List.ext_getElem? fun j => ?_
  rw [wipe_at, wipe_at, wipe_length]
  by_cases hj : j ∈ js
  · rw [if_pos hj, if_pos hj]
  · rw [if_neg hj, if_neg hj]
section
variable {K : PySem.W.Frag} {cA : CI} {F : Fz} {p : List Addr} {r : Env1} {s : L2.St}
theorem EnvR.none {i : Nat} (h : EnvR K cA F p r s) : EnvR K cA F p (r.set i none) (s.set i none) := by
  refine ⟨by simp [h.1], fun j y e => ?_⟩
  by_cases hj : i = j
  · subst hj
    have hl : i < r.length := by
      have := (List.getElem?_eq_some_iff.mp e).1
      simpa using this
    rw [List.getElem?_set_self hl] at e
    cases e
  · rw [List.getElem?_set_ne hj] at e
    obtain ⟨w, h1, h2⟩ := h.2 j y e
    exact ⟨w, by rw [List.getElem?_set_ne hj]; exact h1, h2⟩
theorem EnvR.wipe (h : EnvR K cA F p r s) : ∀ vs : List Nat, EnvR K cA F p (wipeE r vs) (L2.wipe s vs)
  | [] => h
  | v :: vs => (EnvR.wipe h vs).none
theorem EnvR.all : ∀ {is : List Nat} {xs : List Val} {vs : List V} {r : Env1} {s : L2.St}, EnvR K cA F p r s → VRs K cA F p xs vs → EnvR K cA F p (setAll r is xs) (setAll s is vs)
  | [], _, _, _, _, h, _ => h
  | _ :: _, _, _, _, _, h, .nil => h
  | i :: is, _ :: xs, _ :: vs, _, _, h, .cons a b => EnvR.all (is := is) (xs := xs) (vs := vs) (h.set (i := i) a) b
end
/-! ### targets of comprehensions: a name, a tuple of names -/
def DC (K : PySem.W.Frag) (cA : CI) (is : List Nat) (f : Val → Option (List Val)) : TG := fun v s H Q => ∃ F p mu x as, Rel K cA F p mu H ∧ VR K cA F p x v ∧ f x = some as ∧ ∀ vs, VRs K cA F p as vs → Q (setAll s is vs) H
/-- f: what is stored, is: where -/
def PCM (X : Cx) (cA : CI) (tg : Expr) (is : List Nat) (f : Val → Option (List Val)) : Prop :=
  PG X tg (DC X.K cA is f)
def oneC : Val → Option (List Val) := fun v => some [v]
def tupC (n : Nat) : Val → Option (List Val)
  | .tup xs => if xs.length = n then some xs else none
  | _ => none
section
variable {X : Cx} {cA : CI} {pos : Pos}
theorem pc_name {i : Nat} {x : Str} (hN : X.N.Nodup) (hi : X.N[i]? = some x := by rfl) (hx : Loc X.env.scope x := by first | exact Or.inl rfl | exact Or.inr rfl) (hf : X.fn x = true ∨ X.env.scope.names.lookup x = some .local := by first | exact .inl rfl | exact .inr rfl) : PCM X cA (.Name x pos) [i] oneC :=
  pg_weak (pg_name hN hi hx hf) fun v s H Q ⟨F, p, mu, x, as, h1, h2, h3, h4⟩ => by
    cases h3
    exact h4 [v] (.cons h2 .nil)
/-- names one behind the other -/
inductive PNs (X : Cx) : List Expr → List Nat → Prop where
  | nil : PNs X [] []
  | cons {x : Str} {p : Pos} {i : Nat} {es : List Expr} {is : List Nat} (r : PNs X es is) (hi : X.N[i]? = some x := by rfl) (hx : Loc X.env.scope x := by first | exact Or.inl rfl | exact Or.inr rfl) (hf : X.fn x = true ∨ X.env.scope.names.lookup x = some .local := by first | exact .inl rfl | exact .inr rfl)
      (hs : (assignEach (.Name x p :: es) X.env).map (·.2) = assign (.Name x p) X.env :: (assignEach es X.env).map (·.2) := by rfl) : PNs X (.Name x p :: es) (i :: is)
theorem pns_run (hN : X.N.Nodup) : ∀ {es : List Expr} {is : List Nat}, PNs X es is → PGs X es (fun vs s H Q => vs.length = is.length ∧ Q (setAll s is vs) H)
  | _, _, .nil => ⟨fun pins s σ H vs us Q I rv ⟨h1, h2⟩ => by
    cases vs with
    | nil => exact pgs_nil.run pins s σ H _ us Q I rv ⟨rfl, h2⟩
    | cons _ _ => cases h1⟩
  | _, _, .cons r hi hx hf hs => ⟨fun pins s σ H vs us Q I rv ⟨h1, h2⟩ => by
    cases vs with
    | nil => cases h1
    | cons v vs => exact (pgs_cons (pg_name hN hi hx hf) (pns_run hN r) hs).run pins s σ H _ us Q I rv ⟨v, vs, rfl, Nat.succ.inj h1, h2⟩⟩
theorem pc_tup {es : List Expr} {is : List Nat} {k : Nat} (hN : X.N.Nodup) (hc : X.calm = true) (h : PNs X es is) (hst : (assignEach es X.env).findIdx? (·.1) = none := by rfl) (hn : (assignEach es X.env).length = is.length := by rfl) : PCM X cA (.Tuple es k pos) is (tupC is.length) :=
  pg_weak (pg_tup hc (pns_run hN h) hn hst) fun v s H Q ⟨F, p, mu, x, as, h1, h2, h3, h4⟩ => by
    cases h2 with
    | @tup a xs vs g1 g2 =>
      simp only [tupC] at h3
      by_cases hl : xs.length = is.length
      · rw [if_pos hl] at h3
        cases h3
        exact ⟨a, vs, rfl, sub_t h1.sub g1, by rw [← g2.length]; exact hl, by rw [← g2.length]; exact hl, h4 vs g2⟩
      · rw [if_neg hl] at h3; cases h3
    | _ => cases h3
/-- the same over a list -/
def lstC (n : Nat) : Val → Option (List Val)
  | .lst xs => if xs.length = n then some xs else none
  | _ => none
theorem pc_lst {es : List Expr} {is : List Nat} {k : Nat} (hN : X.N.Nodup) (hc : X.calm = true) (h : PNs X es is) (hst : (assignEach es X.env).findIdx? (·.1) = none := by rfl) (hn : (assignEach es X.env).length = is.length := by rfl) : PCM X cA (.Tuple es k pos) is (lstC is.length) :=
  pg_weak (pg_unl hc (pns_run hN h) hn hst) fun v s H Q ⟨F, p, mu, x, as, h1, h2, h3, h4⟩ => by
    cases h2 with
    | @lst a xs vs g1 g2 =>
      simp only [lstC] at h3
      by_cases hl : xs.length = is.length
      · rw [if_pos hl] at h3
        cases h3
        exact ⟨a, vs, rfl, SqL.of (h1.sub _ _ g1), by rw [← g2.length]; exact hl, by rw [← g2.length]; exact hl, h4 vs g2⟩
      · rw [if_neg hl] at h3; cases h3
    | _ => cases h3
/-- as a target of for -/
def gPc (is : List Nat) (f : Val → Option (List Val)) : TM := fun v r mu => (f v).map fun as => (setAll r is as, mu)
theorem g_of_pc {tg : Expr} {is : List Nat} {f : Val → Option (List Val)} (h : PCM X cA tg is f) : PGM X cA tg (gPc is f) :=
  pg_weak h fun v s H Q ⟨F, p, r, mu, x, h1, h2, h3, h4⟩ => by
    cases e : f x with
    | none => simp only [gPc, e] at h4; exact h4.elim
    | some as =>
      simp only [gPc, e] at h4
      exact ⟨F, p, mu, x, as, h1, h3, e, fun vs hv => h4 F p H _ (Sub.refl F) (List.prefix_refl p) h1 (h2.all hv)⟩
end
/-! ### [e for x in xs if t] -/
def Wf (E : XK) : WX := fun cls d _ H => E cls d H
abbrev EF : XK := fun _ _ _ => False
abbrev WF : WX := Wf EF
def PTsM (X : Cx) (cA : CI) (ifs : List Expr) (m : M Bool) : Prop := PTs X ifs (DT X.K cA WF m)
def yesT : M Bool := fun _ mu => .ok true mu
section
variable {X : Cx} {cA : CI} {c : Expr} {mt : M Bool}
theorem pts_weak {ifs : List Expr} {t t' : TT} (h : PTs X ifs t) (w : ∀ s H Q, t' s H Q → t s H Q) : PTs X ifs t' := ⟨fun pins s σ H Q I q => h.run pins s σ H Q I (w _ _ _ q)⟩
theorem t_nil : PTsM X cA [] yesT := pts_weak pts_nil fun s H Q ⟨F, p, r, mu, h1, h2, h3⟩ => h3 F p H true (Sub.refl F) (List.prefix_refl p) h1 rfl
theorem t_one (h : PTM X cA WF c mt) : PTsM X cA [c] mt := pts_one h
end
open Classical in
noncomputable def lcL (ok : Ok) (is : List Nat) (f : Val → Option (List Val)) (t : M Bool) (e : M Val) (vs : List Nat) : List Val → M (List Val)
  | [] => fun _ mu => if ok mu then .ok [] mu else .bad
  | x :: xs => fun r mu => if ok mu then (match f x with
    | some as => (match t (setAll (wipeE r vs) is as) mu with
      | .ok b mu2 => if b = true then (match e (setAll (wipeE r vs) is as) mu2 with
          | .ok y mu3 => (match lcL ok is f t e vs xs r mu3 with
            | .ok ys mu4 => .ok (y :: ys) mu4
            | _ => .bad)
          | _ => .bad) else lcL ok is f t e vs xs r mu2
      | _ => .bad)
    | none => .bad) else .bad
/-- the list, ahead of it what there is -/
noncomputable def lcA (ok : Ok) (is : List Nat) (f : Val → Option (List Val)) (t : M Bool) (e : M Val) (vs : List Nat) (acc : List Val) (xs : List Val) : M Val := fun r mu => match lcL ok is f t e vs xs r mu with
  | .ok ys mu2 => .ok (.lst (acc ++ ys)) mu2
  | _ => .bad
noncomputable def lcM (mi : M (List Val × Ok)) (is : List Nat) (f : Val → Option (List Val)) (t : M Bool) (e : M Val) (vs : List Nat) : M Val := fun r mu => (mi r mu).bind fun q mu1 => if q.1.length ≤ 100000 then lcA q.2 is f t e vs [] q.1 r mu1 else .bad
section
variable {K : PySem.W.Frag} {cA : CI} {W : WX} {F : Fz} {p : List Addr} {mu : Store} {H : Hp} {s : L2.St} {r : Env1} {Q : VK}
theorem lcA_cons {ok : Ok} {is : List Nat} {f : Val → Option (List Val)} {t : M Bool} {e : M Val} {vs : List Nat} {acc xs : List Val} {x : Val} (h : Post K cA (VR K cA) W s F p Q (lcA ok is f t e vs acc (x :: xs) r mu)) :
    ok mu ∧ ∃ as, f x = some as ∧ ∃ b mu2, t (setAll (wipeE r vs) is as) mu = .ok b mu2 ∧ (b = true → ∃ y mu3, e (setAll (wipeE r vs) is as) mu2 = .ok y mu3 ∧ Post K cA (VR K cA) W s F p Q (lcA ok is f t e vs (acc ++ [y]) xs r mu3)) ∧
      (b = false → Post K cA (VR K cA) W s F p Q (lcA ok is f t e vs acc xs r mu2)) := by
  unfold lcA lcL at h
  by_cases hok : ok mu
  · simp only [if_pos hok] at h
    refine ⟨hok, ?_⟩
    cases e1 : f x with
    | none => simp only [e1] at h; exact h.elim
    | some as =>
      simp only [e1] at h
      refine ⟨as, rfl, ?_⟩
      cases e2 : t (setAll (wipeE r vs) is as) mu with
      | bad => simp only [e2] at h; exact h.elim
      | exc C fs mu2 => simp only [e2] at h; exact h.elim
      | ok b mu2 =>
        simp only [e2] at h
        refine ⟨b, mu2, rfl, fun hb => ?_, fun hb => ?_⟩
        · subst hb
          simp only [if_true] at h
          cases e3 : e (setAll (wipeE r vs) is as) mu2 with
          | bad => simp only [e3] at h; exact h.elim
          | exc C fs mu2 => simp only [e3] at h; exact h.elim
          | ok y mu3 =>
            simp only [e3] at h
            refine ⟨y, mu3, rfl, ?_⟩
            unfold lcA
            cases e4 : lcL ok is f t e vs xs r mu3 with
            | ok ys mu4 =>
              simp only [e4] at h ⊢
              rw [List.append_assoc]
              exact h
            | bad => simp only [e4] at h; exact h.elim
            | exc C fs mu2 => simp only [e4] at h; exact h.elim
        · subst hb
          simp only [Bool.false_eq_true, if_false] at h
          exact h
  · simp only [if_neg hok] at h; exact h.elim
theorem den_lc {mi : M (List Val × Ok)} {is : List Nat} {f : Val → Option (List Val)} {t : M Bool} {e : M Val} {vs : List Nat} (his : ∀ i ∈ is, i ∈ vs) (h : DE K cA W (lcM mi is f t e vs) s H Q) :
    tLc (Den K cA (ItR K cA) W mi) (DC K cA is f) (DT K cA WF t) (DE K cA WF e) vs s H Q := by
  obtain ⟨F, p, r, mu, h1, h2, h3⟩ := h
  refine bindAt h1 h2 h3 fun F1 p1 mu1 q J H1 a1 b1 c1 d1 e1 f1 => ?_
  by_cases hlen : q.1.length ≤ 100000
  case neg => rw [if_neg hlen] at f1; exact f1.elim
  rw [if_pos hlen] at f1
  intro D hD
  have hg0 : F1.g D = none := by
    cases eg : F1.g D with
    | none => rfl
    | some o => have := (c1.hid D o eg).1; rw [hD] at this; cases this
  refine ⟨fun i m H' => m = q.1.length - i ∧ i ≤ q.1.length ∧ ∃ F' p' mu' acc accV, acc.length ≤ i ∧ F'.g = upd F1.g D (.lst accV) ∧ VRs K cA F' p' acc accV ∧ SubH F1.f F'.f ∧ p1 <+: p' ∧ Rel K cA F' p' mu' H' ∧ EnvR K cA F' p' r s ∧
    Post K cA (VR K cA) W s ⟨F'.f, F1.g⟩ p' Q (lcA q.2 is f t e vs acc (q.1.drop i) r mu'), ⟨_, rfl, Nat.zero_le _, ⟨F1.f, upd F1.g D (.lst [])⟩, p1, mu1, [], [], Nat.le_refl _, rfl, .nil, SubH.refl _, List.prefix_refl p1, c1.hide hD, ⟨d1.1, fun i x hx => ?_⟩, f1⟩, ?_⟩
  · obtain ⟨v, k1, k2⟩ := d1.2 i x hx
    exact ⟨v, k1, k2.up (sub0 F1 _)⟩
  rintro i m H' ⟨rfl, hi, F', p', mu', acc, accV, hacc, hg, hv, s1, s2, s3, s4, s5⟩
  have hHD : ∀ {F4 : Fz} {p4 : List Addr} {mu4 : Store} {H4 : Hp}, F4.g = upd F1.g D (.lst accV) → Rel K cA F4 p4 mu4 H4 → H4 D = some (.lst accV) := fun hg4 R4 => (R4.hid D _ (by rw [hg4, upd_same])).1
  by_cases hlt : i < q.1.length
  · rw [getElem?_drop0 hlt] at s5
    obtain ⟨hok, as, ef, b, mu2, et, hb1, hb2⟩ := lcA_cons s5
    refine .inr ⟨e1.go i F' p' mu' H' hlt s1 s2 s3 hok, fun H'' => i + 1 ≤ q.1.length ∧ ∃ F' p' mu' acc accV, acc.length ≤ i + 1 ∧ F'.g = upd F1.g D (.lst accV) ∧ VRs K cA F' p' acc accV ∧ SubH F1.f F'.f ∧ p1 <+: p' ∧ Rel K cA F' p' mu' H'' ∧ EnvR K cA F' p' r s ∧
      Post K cA (VR K cA) W s ⟨F'.f, F1.g⟩ p' Q (lcA q.2 is f t e vs acc (q.1.drop (i + 1)) r mu'), fun H'' hN => ⟨_, by omega, rfl, hN.1, hN.2⟩, fun x H'' hy => ?_⟩
    obtain ⟨F2, y, g1, g2, g3, g4⟩ := e1.yld i F' p' mu' H' x H'' hlt s1 s2 s3 hok hy
    rw [List.getElem?_eq_getElem hlt] at g1
    cases g1
    refine ⟨F2, p', mu', _, as, g3, g4, ef, fun ws hw => ⟨?_, ?_⟩⟩
    · rw [wipe_setAll his, wipe_wipe]
    · have env2 : EnvR K cA F2 p' (setAll (wipeE r vs) is as) (setAll (wipe s vs) is ws) := ((s4.mono g2 (List.prefix_refl p')).wipe vs).all hw
      refine ⟨F2, p', _, mu', g3, env2, ?_⟩
      rw [et]
      intro F3 p3 H3 k l1 l2 l3 l4
      subst l4
      have up3 : Sub ⟨F'.f, F1.g⟩ ⟨F3.f, F1.g⟩ := ⟨SubH.trans g2.1 l1.1, rfl⟩
      have hg3 : F3.g = upd F1.g D (.lst accV) := by rw [← l1.2, ← g2.2, hg]
      cases b with
      | false =>
        simp only [Bool.false_eq_true, if_false]
        exact ⟨hlt, F3, p3, mu2, acc, accV, by omega, hg3, (hv.mono g2 (List.prefix_refl p')).mono l1 l2, SubH.trans s1 (SubH.trans g2.1 l1.1), s2.trans l2, l3, (s4.mono g2 (List.prefix_refl p')).mono l1 l2, Post.mono up3 l2 (hb2 rfl)⟩
      | true =>
        simp only [if_true]
        obtain ⟨yv, mu3, ee, hp⟩ := hb1 rfl
        refine ⟨F3, p3, _, mu2, l3, env2.mono l1 l2, ?_⟩
        rw [ee]
        intro F4 p4 H4 w m1 m2 m3 m4
        have hg4 : F4.g = upd F1.g D (.lst accV) := by rw [← m1.2, hg3]
        have hD4 := hHD hg4 m3
        have v4 : VRs K cA F4 p4 acc accV := ((hv.mono g2 (List.prefix_refl p')).mono l1 l2).mono m1 m2
        have lacc : accV.length = acc.length := hv.length.symm
        refine ⟨accV, hD4, ?_, hlt, ⟨F4.f, upd F1.g D (.lst (accV ++ [w]))⟩, p4, mu3, acc ++ [yv], accV ++ [w], by simp; omega, rfl, ?_, SubH.trans s1 (SubH.trans g2.1 (SubH.trans l1.1 m1.1)), s2.trans (l2.trans m2), ?_, ?_, ?_⟩
        · have : (100001 : Nat) ≤ sizeLine := by decide
          omega
        · exact (v4.append (.cons m4 .nil)).up (sub0 F4 _)
        · have := m3.hset (o := .lst accV) (o' := .lst (accV ++ [w])) (a := D) (by rw [hg4, upd_same]) ⟨fun _ z => (by cases z), fun _ z => (by cases z)⟩
          have eg : upd F4.g D (.lst (accV ++ [w])) = upd F1.g D (.lst (accV ++ [w])) := by
            rw [hg4]
            funext z
            by_cases hz : z = D
            · subst hz; rw [upd_same, upd_same]
            · rw [upd_ne hz, upd_ne hz, upd_ne hz]
          rw [eg] at this
          exact this
        · have e4 := ((s4.mono g2 (List.prefix_refl p')).mono l1 l2).mono m1 m2
          exact ⟨e4.1, fun j x hx => by obtain ⟨v, k1, k2⟩ := e4.2 j x hx; exact ⟨v, k1, k2.up (sub0 F4 _)⟩⟩
        · exact Post.mono (F := ⟨F'.f, F1.g⟩) (F' := ⟨F4.f, F1.g⟩) ⟨SubH.trans g2.1 (SubH.trans l1.1 m1.1), rfl⟩ (l2.trans m2) hp
  · have hi' : i = q.1.length := by omega
    subst hi'
    rw [List.drop_length] at s5
    unfold lcA lcL at s5
    by_cases hok : q.2 mu'
    · simp only [if_pos hok, List.append_nil] at s5
      refine .inl ⟨e1.stop F' p' mu' H' s1 s2 s3 hok, ?_⟩
      have hgD : F'.g D = some (.lst accV) := by rw [hg, upd_same]
      have hfD := (s3.hid D _ hgD).2.1
      have R' := s3.show (g := F1.g) hgD fun b u hb => by
        have hne : b ≠ D := fun z => by rw [z, hg0] at hb; cases hb
        exact ⟨hne, by rw [hg, upd_ne hne]; exact hb⟩
      refine s5 ⟨upd F'.f D (.lst accV), F1.g⟩ p' H' _ ⟨SubH.new hfD, rfl⟩ (List.prefix_refl p') R' (.lst upd_same ?_)
      exact hv.up (show Sub0 F' ⟨upd F'.f D (.lst accV), F1.g⟩ from SubH.new hfD)
    · simp only [if_neg hok] at s5; exact s5.elim
end
section
variable {X : Cx} {cA : CI} {W : WX} {elt tg iter : Expr} {ifs : List Expr} {scope : Scope} {own : List (Str × Nat)} {pos spos py : Pos} {mi : M (List Val × Ok)} {is : List Nat} {f : Val → Option (List Val)} {t : M Bool} {e : M Val}
theorem c_lc (own : List (Str × Nat)) (hc : X.calm = true) (hN : X.N.Nodup) (hi : PIM X cA W tg iter mi)
    (hg : ∀ (s : Shared) (H : Hp) (C : Addr) (cl : List (Str × Addr)) (fp : List Addr), PCM (X.blk s H scope (compEnvC scope cl C X.env) fp) cA tg is f) (ht : ∀ (s : Shared) (H : Hp) (C : Addr) (cl : List (Str × Addr)) (fp : List Addr), PTsM (X.blk s H scope (compEnvC scope cl C X.env) fp) cA ifs t)
    (he : ∀ (s : Shared) (H : Hp) (C : Addr) (cl : List (Str × Addr)) (fp : List Addr), PEM (X.blk s H scope (compEnvC scope cl C X.env) fp) cA WF elt e) (ok : BlkOk X.N X.env.scope scope own) (his : ∀ i ∈ is, i ∈ own.map (·.2) := by decide) (hs : ∀ x, foldedSetIterable iter X.env x = pure x := by intro _; rfl) :
    PEM X cA W (.ListComp elt [⟨tg, iter, ifs, 0⟩] scope pos) (lcM mi is f t e (own.map (·.2))) :=
  pe_weak (pe_lc (g := DC X.K cA is f) (tt := DT X.K cA WF t) (te := DE X.K cA WF e) hc hN hi ok hg ht he hs) fun s H Q h => den_lc his h
theorem s_setLc {i : Nat} {y : Str} (own : List (Str × Nat)) (hc : X.calm = true) (hN : X.N.Nodup) (hi : PIM X cA W tg iter mi)
    (hg : ∀ (s : Shared) (H : Hp) (C : Addr) (cl : List (Str × Addr)) (fp : List Addr), PCM (X.blk s H scope (compEnvC scope cl C X.env) fp) cA tg is f) (ht : ∀ (s : Shared) (H : Hp) (C : Addr) (cl : List (Str × Addr)) (fp : List Addr), PTsM (X.blk s H scope (compEnvC scope cl C X.env) fp) cA ifs t)
    (he : ∀ (s : Shared) (H : Hp) (C : Addr) (cl : List (Str × Addr)) (fp : List Addr), PEM (X.blk s H scope (compEnvC scope cl C X.env) fp) cA WF elt e) (ok : BlkOk X.N X.env.scope scope own)
    (hsw : swapsWith (.ListComp elt [⟨tg, iter, ifs, 0⟩] scope pos) (some (.Name y py)) spos.line X.env = pure true) (hy : X.N[i]? = some y := by rfl) (hyl : X.env.scope.names.lookup y = some .local := by rfl) (his : ∀ i ∈ is, i ∈ own.map (·.2) := by decide) (hs : ∀ x, foldedSetIterable iter X.env x = pure x := by intro _; rfl) :
    PSM X cA W (.Assign [.Name y py] (.ListComp elt [⟨tg, iter, ifs, 0⟩] scope pos) spos) (asgS (lcM mi is f t e (own.map (·.2))) (gNameM i)) :=
  ps_weak (ps_setLc (g := DC X.K cA is f) (tt := DT X.K cA WF t) (te := DE X.K cA WF e) hc hN hy hyl hsw hi ok hg ht he hs) fun D s H ⟨F, p, r, mu, h1, h2, h3⟩ => by
    refine den_lc (W := W) his ?_
    refine bindAtS h1 h2 h3 fun F1 p1 mu1 x v H1 a1 b1 c1 d1 e1 f1 => ?_
    exact f1 F1 p1 H1 _ (Sub.refl F1) (List.prefix_refl p1) c1 (d1.set e1)
end

/-! ### enumerate -/
open PySem PySem.Spec PyProof.Rows L2
def IttE (K : PySem.W.Frag) (a : Addr) : It :=
  ⟨fun i H => ∃ (xs : List V) (x : V), SqT K H a xs ∧ xs[i]? = some x, fun i H v H' => ∃ T x, v = .ref T ∧ H T = none ∧ H' = upd H T (.tup [.int (i : Nat), x]) ∧ ∀ xs, SqT K H a xs → xs[i]? = some x, fun i H => ∃ xs : List V, SqT K H a xs ∧ xs.length ≤ i⟩
theorem enum_tuple_new {t : Addr} {items : Array Value} :
    Meets (Builtin.«enumerate.__new__» ⟨[.type "enumerate", .ref t], []⟩) (fun _ R s => s.heap.IsTuple t items ∧
      R (.ok (.ret (.ref (s.heap.push { cls := .type "tuple_iterator", data := .fields #[.ref t, .int 0 0] }).objs.size)))
        { s with heap := (s.heap.push { cls := .type "tuple_iterator", data := .fields #[.ref t, .int 0 0] }).push { cls := .type "enumerate", data := .fields #[.none, .bool false, .ref s.heap.objs.size, rawInt 0, .none, .none] } }) :=
  .of_wp fun prog w A R s h => by
    obtain ⟨hp, g, d, tk, os⟩ := s
    obtain ⟨h1, h⟩ := h
    have sub := sub_enumerate
    have it : ∀ {A' : Around} {E : Value → Shared → Prop} {Q : Value → Shared → Prop}, Q (.ref hp.objs.size) ⟨hp.push { cls := .type "tuple_iterator", data := .fields #[.ref t, .int 0 0] }, g, d, tk, os⟩ → wpAny (model prog w) A' (pyIter (.ref t)) Q E ⟨hp, g, d, tk, os⟩ :=
      fun q => wpAny_pyIter_tuple h1 q
    obtain ⟨⟨c, dct, dt, sl⟩, ho, hc, n, hd⟩ := id h1
    wp_walk using AutoSeq1.wpAny_loadPart' ho, it
    refine wpAny_stack_any fun st => wpAny_pure ?_
    split
    · rename_i c _ _ _ _ _
      cases (c == Value.type "enumerate") <;> (wp_walk using AutoSeq1.wpAny_loadPart' ho, it) <;> exact ⟨_, rfl, h⟩
    · wp_walk using AutoSeq1.wpAny_loadPart' ho, it
      exact ⟨_, rfl, h⟩

theorem tup_turns {P : Program} {w : World} {K : PySem.W.Frag} {elts : List Expr} {kk : Nat} {tpos : Pos} (a e it : Addr) (hai : a ≠ it) (hei : e ≠ it) (hea : e ≠ a) :
    Turn P w K (.Tuple elts kk tpos) (IttE K a) [e, it] e (fun i h => (∃ old, IsEnum h e it ((i : Nat) : Int) old) ∧ h.IsTupleIter it a i) where
  mem := List.mem_cons_self
  obj := fun i h st b hb => by
    obtain ⟨⟨old, he⟩, ⟨o, ho, hc, hd⟩⟩ := st
    rcases List.mem_cons.mp hb with z | z
    · subst z
      exact ⟨_, he, fun v q => nomatch q⟩
    · rw [List.mem_singleton.mp z]
      exact ⟨o, ho, fun v q => by rw [hd] at q; cases q⟩
  keep := fun i h h' st k => by
    obtain ⟨⟨old, he⟩, hi⟩ := st
    exact ⟨⟨old, k e (by simp) _ he⟩, hi.at fun o q => k it (by simp) o q⟩
  item := by
    intro X hP hw hK hc i pins s σ H E I hf ⟨⟨old, he⟩, hit⟩ ⟨xs, x, hq, hx⟩
    subst hP hw hK
    obtain ⟨its, rv, p, hz⟩ := I.tuple hq
    have hpt : s.heap.IsTuple a its.toArray := p
    obtain ⟨u, hu, ru⟩ := rv.get hx
    have el : e < s.heap.objs.size := Heap.lt_size he
    have il : it < s.heap.objs.size := by obtain ⟨_, q, _⟩ := hit; exact Heap.lt_size q
    have hlt : i < its.toArray.size := by
      have := (List.getElem?_eq_some_iff.mp hu).1
      simpa using this
    refine wpAny_pyNext_enum_itemD (Draws.tuple (A := X.A.in1) (I.ok.hd hc) it a hai its.toArray) he ⟨hit, hpt⟩ hlt hei (by simp [hei, hea]) fun y h' tk hP ho hst hT hsz hk => ?_
    have ey : y = u := by
      have h1 : its.toArray[i]? = some y := hP
      have h2 : its.toArray[i]? = some u := by simpa using hu
      rw [h1] at h2
      exact Option.some.inj h2
    subst ey
    refine ⟨_, rfl, wpAny_letOwnedTupleGo_enum (s := { s with heap := h', toks := tk + 1 }) ho fun h2 he2 sb => ?_⟩
    have hT2 : h2.get? s.heap.objs.size = some { cls := .type "tuple", data := .seq #[.int i tk, y] } := (sb.2 _ (Nat.ne_of_gt el)).trans hT
    have fresh : ObjOk X.prog X.w (upd H s.heap.objs.size (.tup [.int (i : Nat), x])) h2 s.heap.objs.size (.tup [.int (i : Nat), x]) :=
      ⟨by show 2 ≤ sizeLine; decide, [.int i tk, y], .cons ⟨tk, rfl⟩ (.cons ru .nil), ⟨_, hT2, rfl, _, rfl⟩⟩
    have J : Inv X pins σ (upd H s.heap.objs.size (.tup [.int (i : Nat), x])) { s with heap := h2, toks := tk + 1 } :=
      I.turnedNew (ch := [e, it]) (fun b ob hb q => by
        simp only [List.mem_cons, List.not_mem_nil, or_false, not_or] at hb
        exact (sb.2 b hb.1).trans (hk b ob hb.1 hb.2 q)) hf (Nat.le_refl _) fresh
    refine ⟨.ref s.heap.objs.size, _, J, rfl, ⟨_, x, rfl, I.hok.fresh (Nat.le_refl _), rfl, fun ys hy => by rw [I.tuple_inj hy hq]; exact hx⟩, ⟨⟨y, ?_⟩, hst.1.at fun o q => (sb.2 it (Ne.symm hei)).trans q⟩, fun b hb => ?_⟩
    · rw [show ((i + 1 : Nat) : Int) = (i : Int) + 1 from by omega]
      exact he2
    · have hb' : b < s.heap.objs.size := by
        rcases List.mem_cons.mp hb with z | z
        · rw [z]; exact el
        · rw [List.mem_singleton.mp z]; exact il
      rw [upd_ne (Nat.ne_of_lt hb')]
      exact (hf b hb).1
  done := by
    intro X hP hw hK hc i pins s σ H E I hf ⟨⟨old, he⟩, hit⟩ ⟨xs, hq, hx⟩
    subst hP hw hK
    obtain ⟨its, rv, p, hz⟩ := I.tuple hq
    have hpt : s.heap.IsTuple a its.toArray := p
    obtain ⟨f0, f1, f2, f3, f4, f5⟩ := hf it (by simp)
    have hl := rv.length
    have T : s.TypeIs (.ref e) "enumerate" := ⟨_, he, rfl⟩
    have hend : (its.toArray)[i]? = none := by simp; omega
    unfold pyNext
    refine wpAny_bind (wpAny_attempt (wpAny_callSpecial?_slot (name := Str.ofString "__next__") T PySem.F.slot_enumerate_next
      (wpAny_call_entry PySem.F.slot_enumerate_next T PySem.F.entry_enumerate_next ?_ (PySem.F.args_enumerate_next_1 _))))
    show wpAny _ _ (field (.ref e) 2 >>= _) _ _ _
    refine wpAny_bind (wpAny_field he rfl (x := .ref it) rfl ?_)
    refine wpAny_bind (wpAny_nextOf_tuple_end (I.ok.hd hc) hit hpt hend fun h' x' he' hx' => ?_)
    obtain ⟨o, ho, hcl⟩ := hx'
    refine wpAny_bind (wpAny_isInstance (T := "StopIteration") (b := true) ⟨o, ho, hcl⟩ isSubtype_stop ?_)
    exact wpAny_pure ⟨rfl, I.turned (t' := s.toks) (fun b o hb q => he' b o hb q) f0 f1 f3 f4 f5⟩
  self := fun A i s Q E st h => by
    obtain ⟨⟨_, he⟩, _⟩ := st
    exact wpAny_pyIter_enum he h
def iEnT (K : PySem.W.Frag) (ta : TA) : TI := fun σ H R => ta σ H fun vs H1 => ∃ a xs, vs = [.ref a] ∧ SqT K H1 a xs ∧ R (IttE K a) H1
theorem pi_enT {X : Cx} {e : Expr} {ta : TA} {p pos tpos : Pos} {elts : List Expr} {kk : Nat} (hg : Gl X "enumerate") (hm : X.mg "enumerate" = none) (ha : PA X [e] ta) (hs : starEach [e] X.env = [(false, eval e X.env)] := by rfl) :
    PI X (.Tuple elts kk tpos) (.Call (.Name "enumerate" p) [e] [] pos) (iEnT X.K ta) := by
  refine ⟨fun pins s σ H R I h => Call_ (ld_blt I hg hm boot_enumerate (PyProof.Rows.callWith_type1 (thn (ha.run pos pins s σ H _ I h) fun us s1 ⟨vs, H1, I1, r1, a, xs, ex, hq, q⟩ => ?_) hs rfl))⟩
  subst ex
  obtain ⟨u, rfl, ru⟩ := vals1 r1
  obtain rfl : u = Value.ref a := ru
  obtain ⟨its, rv, p', hz⟩ := I1.tuple hq
  have hpt : s1.heap.IsTuple a its.toArray := p'
  have al : a < s1.heap.objs.size := by obtain ⟨o, ho, _⟩ := hpt; exact Heap.lt_size ho
  have hz1 : (s1.heap.push { cls := .type "tuple_iterator", data := .fields #[.ref a, .int 0 0] }).objs.size = s1.heap.objs.size + 1 := Heap.size_push ..
  refine callType_new PySem.F.called_enumerate (by decide) (PySem.F.typeCall_enumerate_1 _) (PySem.F.newCall_enumerate_1 _) (fun obj => PySem.F.args_object_init_2 obj _) PySem.F.entry_enumerate_new enum_tuple_new ⟨hpt, ?_⟩
  show _ ∧ _
  rw [hz1]
  have he : IsEnum ((s1.heap.push { cls := .type "tuple_iterator", data := .fields #[.ref a, .int 0 0] }).push { cls := .type "enumerate", data := .fields #[.none, .bool false, .ref s1.heap.objs.size, rawInt 0, .none, .none] }) (s1.heap.objs.size + 1) s1.heap.objs.size 0 .none := by
    have q2 := Heap.get?_push_size (s1.heap.push { cls := .type "tuple_iterator", data := .fields #[.ref a, .int 0 0] }) (o := { cls := .type "enumerate", data := .fields #[.none, .bool false, .ref s1.heap.objs.size, rawInt 0, .none, .none] }) rfl
    rwa [hz1] at q2
  have hk : ∀ b o, s1.heap.get? b = some o → ((s1.heap.push { cls := .type "tuple_iterator", data := .fields #[.ref a, .int 0 0] }).push { cls := .type "enumerate", data := .fields #[.none, .bool false, .ref s1.heap.objs.size, rawInt 0, .none, .none] }).get? b = some o :=
    fun b o x => Heap.get?_push_of_some _ (Heap.get?_push_of_some _ x)
  refine ⟨⟨_, he, rfl⟩, wpAny_pyIter_enum he ?_⟩
  have I2 := I1.kept (t' := s1.toks) hk
  refine ⟨s1.heap.objs.size + 1, [s1.heap.objs.size + 1, s1.heap.objs.size], _, _, H1, rfl, I2, tup_turns a (s1.heap.objs.size + 1) s1.heap.objs.size (Nat.ne_of_lt al) (Nat.succ_ne_self _) (Nat.ne_of_gt (Nat.lt_succ_of_lt al)), ⟨⟨.none, he⟩, ⟨_, Heap.get?_push_of_some _ (Heap.get?_push_size _ rfl), rfl, rfl⟩⟩, fun b hb => ?_, q⟩
  have hle : s1.heap.objs.size ≤ b := by
    rcases List.mem_cons.mp hb with z | z
    · rw [z]; exact Nat.le_succ _
    · rw [List.mem_singleton.mp z]; exact Nat.le_refl _
  exact I1.fpOk hle (I1.hok.fresh hle)
/-- the items with their numbers -/
def numL (xs : List Val) : List Val := xs.zipIdx.map fun q => Val.tup [.int q.2, q.1]
theorem numL_at {xs : List Val} {i : Nat} {y : Val} (h : xs[i]? = some y) : (numL xs)[i]? = some (.tup [.int i, y]) := by
  simp [numL, List.getElem?_map, List.getElem?_zipIdx, h]
theorem numL_len (xs : List Val) : (numL xs).length = xs.length := by simp [numL]
section
variable {K : PySem.W.Frag} {cA : CI} {F : Fz} {p : List Addr}
theorem pair_new {F' : Fz} {p' : List Addr} {mu' : Store} {H' : Hp} {T : Addr} {i : Nat} {y : Val} {v : V} (R : Rel K cA F' p' mu' H') (hT : H' T = none) (e3 : VR K cA F' p' y v) :
    Sub F' (F'.new T (.tup [.int i, v])) ∧ Rel K cA (F'.new T (.tup [.int i, v])) p' mu' (upd H' T (.tup [.int i, v])) ∧ VR K cA (F'.new T (.tup [.int i, v])) p' (.tup [.int i, y]) (.ref T) := by
  have sb : Sub F' (F'.new T (.tup [.int i, v])) := Sub.new (R.fresh hT).1
  refine ⟨sb, R.frz hT, .tup (SqT.of (show upd F'.f T _ T = _ from upd_same)) (.cons (.int _) (.cons (e3.mono sb (List.prefix_refl p')) .nil))⟩
theorem itr_enT {a : Addr} {xs : List Val} {vs : List V} (h1 : SqT K F.f a vs) (h2 : VRs K cA F p xs vs) : ItR K cA F p (numL xs, allOk) (IttE K a) where
  go := fun i F' p' mu' H' hi s b R _ => by
    rw [numL_len] at hi
    obtain ⟨y, v, e1, e2, _⟩ := h2.at_nat hi
    exact ⟨vs, v, sub_t R.sub (sub_t s h1), e2⟩
  yld := fun i F' p' mu' H' x H'' hi s b R _ ⟨T, w, ev, hT, hH, hx⟩ => by
    rw [numL_len] at hi
    subst ev
    subst hH
    obtain ⟨y, v, e1, e2, e3⟩ := h2.at_nat hi
    have := hx vs (sub_t R.sub (sub_t s h1))
    rw [e2] at this
    cases this
    obtain ⟨k1, k2, k3⟩ := pair_new (i := i) R hT ((e3.up s).mono (Sub.refl F') b)
    exact ⟨_, _, numL_at e1, k1, k2, k3⟩
  stop := fun F' p' mu' H' s b R _ => ⟨vs, sub_t R.sub (sub_t s h1), by simp only [numL_len]; rw [h2.length]; exact Nat.le_refl _⟩
theorem itr_en {a : Addr} {xs : List Val} {vs : List V} (h1 : SqL K F.f a vs) (h2 : VRs K cA F p xs vs) : ItR K cA F p (numL xs, allOk) (Ite K a) where
  go := fun i F' p' mu' H' hi s b R _ => by
    rw [numL_len] at hi
    obtain ⟨y, v, e1, e2, _⟩ := h2.at_nat hi
    exact ⟨vs, v, sub_l R.sub (sub_l s h1), e2⟩
  yld := fun i F' p' mu' H' x H'' hi s b R _ ⟨T, w, ev, hT, hH, hx⟩ => by
    rw [numL_len] at hi
    subst ev
    subst hH
    obtain ⟨y, v, e1, e2, e3⟩ := h2.at_nat hi
    have := hx vs (sub_l R.sub (sub_l s h1))
    rw [e2] at this
    cases this
    obtain ⟨k1, k2, k3⟩ := pair_new (i := i) R hT ((e3.up s).mono (Sub.refl F') b)
    exact ⟨_, _, numL_at e1, k1, k2, k3⟩
  stop := fun F' p' mu' H' s b R _ => ⟨vs, sub_l R.sub (sub_l s h1), by simp only [numL_len]; rw [h2.length]; exact Nat.le_refl _⟩
end
section
variable {X : Cx} {cA : CI} {W : WX} {a : Expr} {ms : M (List Val)} {pos p tpos : Pos} {elts : List Expr} {kk : Nat}
def itEnT (ms : M (List Val)) : M (List Val × Ok) := fun r mu => (ms r mu).bind fun xs mu1 => match xs with
  | [.tup xs] => .ok (numL xs, allOk) mu1
  | _ => .bad
def itEn (ms : M (List Val)) : M (List Val × Ok) := fun r mu => (ms r mu).bind fun xs mu1 => match xs with
  | [.lst xs] => .ok (numL xs, allOk) mu1
  | _ => .bad
theorem i_enT (hm : X.mg "enumerate" = none) (ha : PAM X cA W [a] ms) (hg : Gl X "enumerate" := by rfl) (hs : starEach [a] X.env = [(false, eval a X.env)] := by rfl) : PIM X cA W (.Tuple elts kk tpos) (.Call (.Name "enumerate" p) [a] [] pos) (itEnT ms) :=
  pi_weak (pi_enT hg hm ha hs) fun s H Q ⟨F, p, r, mu, h1, h2, h3⟩ => by
   unfold itEnT at h3
   exact bindAt h1 h2 h3 fun F1 p1 mu1 x v H1 a1 b1 c1 d1 e1 f1 => by
    match x, f1, e1 with
    | [.tup xs], f1, e1 =>
      obtain ⟨v, rfl, rv⟩ := vrs1 e1
      cases rv with
      | tup g1 g2 => exact ⟨_, _, rfl, sub_t c1.sub g1, f1 F1 p1 H1 _ (Sub.refl F1) (List.prefix_refl p1) c1 (itr_enT g1 g2)⟩
theorem i_en (hm : X.mg "enumerate" = none) (ha : PAM X cA W [a] ms) (hg : Gl X "enumerate" := by rfl) (hs : starEach [a] X.env = [(false, eval a X.env)] := by rfl) : PIM X cA W (.Tuple elts kk tpos) (.Call (.Name "enumerate" p) [a] [] pos) (itEn ms) :=
  pi_weak (pi_enum hg hm ha hs) fun s H Q ⟨F, p, r, mu, h1, h2, h3⟩ => by
   unfold itEn at h3
   exact bindAt h1 h2 h3 fun F1 p1 mu1 x v H1 a1 b1 c1 d1 e1 f1 => by
    match x, f1, e1 with
    | [.lst xs], f1, e1 =>
      obtain ⟨v, rfl, rv⟩ := vrs1 e1
      cases rv with
      | lst g1 g2 => exact ⟨_, _, rfl, SqL.of (c1.sub _ _ g1), f1 F1 p1 H1 _ (Sub.refl F1) (List.prefix_refl p1) c1 (itr_en (SqL.of g1) g2)⟩
end
end CC

set_option Elab.async false
set_option linter.all false
set_option maxRecDepth 100000
set_option maxHeartbeats 2000000
/-! CC12: defs, what they leave, calls. -/
namespace CC
open PySem PySem.Spec PyProof.Rows L2
/-- a def's promise from its mirror -/
def SpM (K : PySem.W.Frag) (cA : CI) (m : List Val → Store → R Val) : Sp := fun vs H Q E => ∃ F p mu as, Rel K cA F p mu H ∧ VRs K cA F p as vs ∧ Post K cA (VR K cA) (Wf E) [] F p Q (m as mu)
def FnM (P : Program) (w : World) (K : PySem.W.Frag) (mg : Str → Option Value) (base : Heap) (cA : CI) (k : Nat) (f : Addr) (m : List Val → Store → R Val) : Prop := FnR P w K mg base (L2N.CX P w) k f (SpM K cA m)
theorem Post.slots {K : PySem.W.Frag} {cA : CI} {E : XK} {s s' : L2.St} {F : Fz} {p : List Addr} {α β : Type} {rel : Fz → List Addr → α → β → Prop} {Q : β → Hp → Prop} {x : R α} (h : Post K cA rel (Wf E) s F p Q x) : Post K cA rel (Wf E) s' F p Q x := by
  cases x with
  | ok v mu => exact h
  | exc C fs mu => exact h
  | bad => exact h
/-- the mirror of a def: np parameters, nn names -/
def defK (np nn : Nat) (mb : MS) : List Val → Store → R Val := fun as mu => if as.length = np then (match mb (as.map some ++ List.replicate (nn - np) none) mu with
  | .nx _ mu' => .ok .non mu'
  | .rt v mu' => .ok v mu'
  | .exc C fs _ mu' => .exc C fs mu'
  | _ => .bad) else .bad
theorem envR_start {K : PySem.W.Frag} {cA : CI} {F : Fz} {p : List Addr} {N : List Str} {as : List Val} {vs : List V} (h : VRs K cA F p as vs) : EnvR K cA F p (as.map some ++ List.replicate (N.length - as.length) none) (L2.start N vs) := by
  unfold L2.start
  refine ⟨by simp [h.length], fun i x e => ?_⟩
  by_cases hi : i < as.length
  · rw [List.getElem?_append_left (by simpa using hi), List.getElem?_map] at e
    obtain ⟨y, e1, e2⟩ := Option.map_eq_some_iff.mp e
    cases e2
    obtain ⟨v, e3, e4⟩ := h.get e1
    refine ⟨v, ?_, e4⟩
    rw [List.getElem?_append_left (by rw [List.length_map, ← h.length]; exact hi), List.getElem?_map, e3]
    rfl
  · rw [List.getElem?_append_right (by simpa using Nat.le_of_not_lt hi)] at e
    have := List.mem_of_getElem? e
    have := List.eq_of_mem_replicate this
    cases this
theorem def_okO {P : Program} {w : World} {K : PySem.W.Frag} {mg : Str → Option Value} {base : Heap} {cA : CI} {x qual : Str} {params : Arguments} {body : List Stmt} {scope : Scope} {kws : List (Str × V)} {f : Addr} {fd : FuncData} {N ps : List Str} {k np nn : Nat} {mb : MS}
    (F : FunD K x qual params body scope [] kws f fd) (S : FnScope N ps scope) (hp : ps.length = np) (hn : N.length = nn)
    (h : ∀ (cdv : Value) (A : Around) (outer : List Env) (s : Shared) (H : Hp) (E : XK), Room k (A.deeper (envOfC qual scope s.heap.objs.size f cdv)) → L2N.Takes (cxOf (L2N.CX P w) P w K mg base N qual scope f cdv A outer s H E) (Wf E) →
      PSSM (cxOf (L2N.CX P w) P w K mg base N qual scope f cdv A outer s H E) cA (Wf E) body mb) : FnOk P w K mg base (L2N.CX P w) (k + 1) f fd ps (SpM K cA (defK np nn mb)) := by
    subst hp
    subst hn
    refine F.ok S (fun vs H Q E ⟨F, p, mu, as, h1, h2, h3⟩ => ?_) fun cdv A outer s H vs Q E hr ⟨F, p, mu, as, h1, h2, h3⟩ => ⟨_, h cdv A outer s H E hr (L2N.takes_of rfl rfl rfl rfl), ?_⟩
    · unfold defK at h3
      by_cases hl : as.length = ps.length
      · rw [← h2.length]; exact hl
      · rw [if_neg hl] at h3; exact h3.elim
    · unfold defK at h3
      by_cases hl : as.length = ps.length
      · rw [if_pos hl] at h3
        refine ⟨F, p, _, mu, h1, envR_start h2, ?_⟩
        rw [hl]
        cases e : mb (as.map some ++ List.replicate (N.length - ps.length) none) mu with
        | nx r mu' => rw [e] at h3; exact fun F' p' H' s' a b c d => h3 F' p' H' _ a b c .non
        | rt v mu' => rw [e] at h3; exact h3
        | exc C fs r mu' => rw [e] at h3; exact fun F' p' H' s' cls d a b c _ x => h3 F' p' H' cls d a b c x
        | bk r mu' => rw [e] at h3; exact h3.elim
        | ct r mu' => rw [e] at h3; exact h3.elim
        | bad => rw [e] at h3; exact h3.elim
      · rw [if_neg hl] at h3; exact h3.elim
theorem FnM.of {P : Program} {w : World} {K : PySem.W.Frag} {mg : Str → Option Value} {base : Heap} {cA : CI} {f : Addr} {fd : FuncData} {ps : List Str} {k : Nat} {m : List Val → Store → R Val} (G : FnOk P w K mg base (L2N.CX P w) k f fd ps (SpM K cA m)) (hb : Binds K fd ps []) : FnM P w K mg base cA k f m := by
  refine (G.raw hb .nil).imp fun vs H Q E hs => ?_
  rw [List.append_nil]
  exact hs
/-! ### what is left behind: new things stand for good -/
def frz (mu : Store) (n : Nat) : Nat → Val → Option Val
  | 0, _ => none
  | k + 1, v => match v with
    | .tup xs => (mapO (frz mu n k) xs).map .tup
    | .lst xs => (mapO (frz mu n k) xs).map .lst
    | .dct kvs => (mapO (fun q => (frz mu n k q.2).map fun y => (q.1, y)) kvs).map .dct
    | .obj C fs => (mapO (fun q => (frz mu n k q.2).map fun y => (q.1, y)) fs).map (.obj C)
    | .ref r => if r < n then some (.ref r) else (match mu[r]? with
      | some (.lst xs) => (mapO (frz mu n k) xs).map .lst
      | some (.dct kvs) => (mapO (fun q => (frz mu n k q.2).map fun y => (q.1, y)) kvs).map .dct
      | some (.obj C fs) => (mapO (fun q => (frz mu n k q.2).map fun y => (q.1, y)) fs).map (.obj C)
      | none => none)
    | v => some v
/-- every reference is below n -/
def rl (n : Nat) : Nat → Val → Bool
  | 0, _ => false
  | k + 1, v => match v with
    | .tup xs => xs.all (rl n k)
    | .lst xs => xs.all (rl n k)
    | .dct kvs => kvs.all fun q => rl n k q.2
    | .obj _ fs => fs.all fun q => rl n k q.2
    | .ref r => decide (r < n)
    | _ => true
def rlC (n : Nat) : Cell → Bool
  | .lst xs => xs.all (rl n 40)
  | .dct kvs => kvs.all fun q => rl n 40 q.2
  | .obj _ fs => fs.all fun q => rl n 40 q.2
def okS (mu0 mu : Store) : Prop := mu0.length ≤ mu.length ∧ ∀ r c, r < mu0.length → mu[r]? = some c → mu0[r]? = some c ∨ rlC mu0.length c = true
open Classical in
noncomputable def finR (mu0 : Store) : R Val → R Val
  | .ok v mu => if okS mu0 mu then (match frz mu mu0.length 40 v with
    | some w => .ok w (mu.take mu0.length)
    | none => .bad) else .bad
  | .exc C fs mu => if okS mu0 mu then (match mapO (fun q => (frz mu mu0.length 40 q.2).map fun y => (q.1, y)) fs with
    | some gs => .exc C gs (mu.take mu0.length)
    | none => .bad) else .bad
  | .bad => .bad
def frzF (F : Fz) (p : List Addr) (H : Hp) (n : Nat) : Fz := ⟨fun a => if a ∈ p.drop n then H a else F.f a, F.g⟩
section
variable {K : PySem.W.Frag} {cA : CI} {F F' : Fz} {p q : List Addr} {mu mu' : Store} {H H' : Hp}
theorem frzF_sub (R : Rel K cA F p mu H) (n : Nat) : Sub0 F (frzF F p H n) := fun a o e => by
  show (if a ∈ p.drop n then H a else F.f a) = some o
  by_cases h : a ∈ p.drop n
  · have := R.off a (List.mem_of_mem_drop h)
    rw [this] at e; cases e
  · rw [if_neg h]; exact e
theorem frzF_at {n r : Nat} {a : Addr} (h : p[r]? = some a) (hr : n ≤ r) : (frzF F p H n).f a = H a := by
  show (if a ∈ p.drop n then H a else F.f a) = _
  rw [if_pos]
  obtain ⟨i, hi⟩ := Nat.le.dest hr
  refine List.mem_iff_getElem?.mpr ⟨i, ?_⟩
  rw [List.getElem?_drop, hi]
  exact h
mutual
theorem VR.cutp (s : p <+: q) : ∀ {x : Val} {v w : V}, VR K cA F p x v → VR K cA F' q x w → VR K cA F' p x w
  | _, _, _, .non, .non => .non
  | _, _, _, .bl _, .bl b => .bl b
  | _, _, _, .int _, .int i => .int i
  | _, _, _, .str _, .str i => .str i
  | _, _, _, .tup _ b, .tup c d => .tup c (VRs.cutp s b d)
  | _, _, _, .lst _ b, .lst c d => .lst c (VRs.cutp s b d)
  | _, _, _, .dct _ b, .dct c d => .dct c (KVR.cutp s b d)
  | _, _, _, .obj _ b, .obj c d => .obj c (FVR.cutp s b d)
  | _, _, _, .ref e, .ref e' => .ref (by rw [pre_get s e] at e'; cases e'; exact e)
  | _, _, _, .cls _, .cls C => .cls C
  | _, _, _, .ty _, .ty n => .ty n
  | _, _, _, .scr _, .scr a => .scr a
  | _, _, _, .vw _, .vw a => .vw a
theorem VRs.cutp (s : p <+: q) : ∀ {x : List Val} {v w : List V}, VRs K cA F p x v → VRs K cA F' q x w → VRs K cA F' p x w
  | _, _, _, .nil, .nil => .nil
  | _, _, _, .cons a b, .cons c d => .cons (VR.cutp s a c) (VRs.cutp s b d)
theorem KVR.cutp (s : p <+: q) : ∀ {x : List (DKey × Val)} {v w : List (L2.Key × V)}, KVR K cA F p x v → KVR K cA F' q x w → KVR K cA F' p x w
  | _, _, _, .nil, .nil => .nil
  | _, _, _, .cons _ a b, .cons k c d => .cons k (VR.cutp s a c) (KVR.cutp s b d)
theorem FVR.cutp (s : p <+: q) : ∀ {x : List (Nat × Val)} {v w : List (Str × V)}, FVR K cA F p x v → FVR K cA F' q x w → FVR K cA F' p x w
  | _, _, _, .nil, .nil => .nil
  | _, _, _, .cons _ a b, .cons k c d => .cons k (VR.cutp s a c) (FVR.cutp s b d)
end
theorem CR.cutp {a : Addr} {c : Cell} (s : p <+: q) (h : CR K cA F p H a c) (h' : CR K cA F' q H' a c) : CR K cA F' p H' a c := by
  cases c with
  | lst xs => obtain ⟨_, _, g⟩ := h; obtain ⟨vs, h1, h2⟩ := h'; exact ⟨vs, h1, g.cutp s h2⟩
  | dct xs => obtain ⟨_, _, g⟩ := h; obtain ⟨vs, h1, h2⟩ := h'; exact ⟨vs, h1, g.cutp s h2⟩
  | obj C xs => obtain ⟨_, _, _, g⟩ := h; obtain ⟨dx, vs, h1, h2⟩ := h'; exact ⟨dx, vs, h1, g.cutp s h2⟩
theorem CR.up {a : Addr} {c : Cell} (s : Sub0 F F') (h : CR K cA F p H a c) : CR K cA F' p H a c := by
  cases c with
  | lst xs => obtain ⟨vs, h1, h2⟩ := h; exact ⟨vs, h1, h2.up s⟩
  | dct xs => obtain ⟨vs, h1, h2⟩ := h; exact ⟨vs, h1, h2.up s⟩
  | obj C xs => obtain ⟨dx, vs, h1, h2⟩ := h; exact ⟨dx, vs, h1, h2.up s⟩
theorem pre_low {n r : Nat} {a : Addr} (h : p[r]? = some a) (hr : r < n) : (p.take n)[r]? = some a := by
  rw [List.getElem?_take, if_pos hr]; exact h
/-- lists of them, for one that is known -/
theorem frz_all (n k : Nat) (G : Fz) (hk : ∀ x v y, VR K cA F p x v → frz mu n k x = some y → VR K cA G (p.take n) y v) : ∀ (xs ys : List Val) (vs : List V), VRs K cA F p xs vs → mapO (frz mu n k) xs = some ys → VRs K cA G (p.take n) ys vs
  | [], ys, vs, h, e => by cases h; cases e; exact .nil
  | x :: xs, ys, vs, h, e => by
    obtain ⟨z, zs, e1, e2, rfl⟩ := mapO_cons e
    cases h with
    | cons a b => exact .cons (hk _ _ _ a e1) (frz_all n k G hk xs zs _ b e2)
theorem frz_allK (n k : Nat) (G : Fz) (hk : ∀ x v y, VR K cA F p x v → frz mu n k x = some y → VR K cA G (p.take n) y v) : ∀ (xs ys : List (DKey × Val)) (vs : List (L2.Key × V)), KVR K cA F p xs vs → mapO (fun q => (frz mu n k q.2).map fun y => (q.1, y)) xs = some ys → KVR K cA G (p.take n) ys vs
  | [], ys, vs, h, e => by cases h; cases e; exact .nil
  | x :: xs, ys, vs, h, e => by
    obtain ⟨z, zs, e1, e2, rfl⟩ := mapO_cons e
    obtain ⟨y, e3, e4⟩ := Option.map_eq_some_iff.mp e1
    cases e4
    cases h with
    | cons kk a b => exact .cons kk (hk _ _ _ a e3) (frz_allK n k G hk xs zs _ b e2)
theorem frz_allF (n k : Nat) (G : Fz) (hk : ∀ x v y, VR K cA F p x v → frz mu n k x = some y → VR K cA G (p.take n) y v) : ∀ (xs ys : List (Nat × Val)) (vs : List (Str × V)), FVR K cA F p xs vs → mapO (fun q => (frz mu n k q.2).map fun y => (q.1, y)) xs = some ys → FVR K cA G (p.take n) ys vs
  | [], ys, vs, h, e => by cases h; cases e; exact .nil
  | x :: xs, ys, vs, h, e => by
    obtain ⟨z, zs, e1, e2, rfl⟩ := mapO_cons e
    obtain ⟨y, e3, e4⟩ := Option.map_eq_some_iff.mp e1
    cases e4
    cases h with
    | cons kk a b => exact .cons kk (hk _ _ _ a e3) (frz_allF n k G hk xs zs _ b e2)
theorem frz_ok (R : Rel K cA F p mu H) (n : Nat) : ∀ (k : Nat) (x : Val) (v : V) (y : Val), VR K cA F p x v → frz mu n k x = some y → VR K cA (frzF F p H n) (p.take n) y v := by
  intro k
  induction k with
  | zero => intro x v y h e; cases e
  | succ k ih =>
    have sb := frzF_sub R n
    have L := frz_all (mu := mu) n k (frzF F p H n) ih
    have LK := frz_allK (mu := mu) n k (frzF F p H n) ih
    have LF := frz_allF (mu := mu) n k (frzF F p H n) ih
    intro x v y h e
    cases h with
    | non => cases e; exact .non
    | bl b => cases e; exact .bl b
    | int b => cases e; exact .int b
    | str b => cases e; exact .str b
    | cls b => cases e; exact .cls b
    | ty b => cases e; exact .ty b
    | scr b => cases e; exact .scr (sub_l sb b)
    | vw _ => cases e; exact .vw _
    | tup a b =>
      simp only [frz] at e
      obtain ⟨ys, e1, rfl⟩ := Option.map_eq_some_iff.mp e
      exact .tup (sub_t sb a) (L _ _ _ b e1)
    | lst a b =>
      simp only [frz] at e
      obtain ⟨ys, e1, rfl⟩ := Option.map_eq_some_iff.mp e
      exact .lst (sb _ _ a) (L _ _ _ b e1)
    | dct a b =>
      simp only [frz] at e
      obtain ⟨ys, e1, rfl⟩ := Option.map_eq_some_iff.mp e
      exact .dct (sb _ _ a) (LK _ _ _ b e1)
    | obj a b =>
      simp only [frz] at e
      obtain ⟨ys, e1, rfl⟩ := Option.map_eq_some_iff.mp e
      exact .obj (sb _ _ a) (LF _ _ _ b e1)
    | @ref r a hr =>
      simp only [frz] at e
      by_cases hn : r < n
      · rw [if_pos hn] at e
        cases e
        exact .ref (pre_low hr hn)
      · rw [if_neg hn] at e
        obtain ⟨c, h2, h3⟩ := R.at_some hr
        have hat := frzF_at (F := F) (H := H) hr (Nat.le_of_not_lt hn)
        rw [h2] at e
        cases c with
        | lst xs =>
          obtain ⟨ys, e1, rfl⟩ := Option.map_eq_some_iff.mp e
          obtain ⟨vs, g1, g2⟩ := h3
          exact .lst (by rw [hat]; exact g1) (L _ _ _ g2 e1)
        | dct xs =>
          obtain ⟨ys, e1, rfl⟩ := Option.map_eq_some_iff.mp e
          obtain ⟨vs, g1, g2⟩ := h3
          exact .dct (by rw [hat]; exact g1) (LK _ _ _ g2 e1)
        | obj C xs =>
          obtain ⟨ys, e1, rfl⟩ := Option.map_eq_some_iff.mp e
          obtain ⟨dx, vs, g1, g2⟩ := h3
          exact .obj (by rw [hat]; exact g1) (LF _ _ _ g2 e1)
theorem rl_all (n k : Nat) (hk : ∀ x v, VR K cA F p x v → rl n k x = true → VR K cA F (p.take n) x v) : ∀ (xs : List Val) (vs : List V), VRs K cA F p xs vs → xs.all (rl n k) = true → VRs K cA F (p.take n) xs vs
  | [], vs, h, e => by cases h; exact .nil
  | x :: xs, vs, h, e => by
    rw [List.all_cons, Bool.and_eq_true] at e
    cases h with
    | cons a b => exact .cons (hk _ _ a e.1) (rl_all n k hk xs _ b e.2)
theorem rl_allK (n k : Nat) (hk : ∀ x v, VR K cA F p x v → rl n k x = true → VR K cA F (p.take n) x v) : ∀ (xs : List (DKey × Val)) (vs : List (L2.Key × V)), KVR K cA F p xs vs → (xs.all fun q => rl n k q.2) = true → KVR K cA F (p.take n) xs vs
  | [], vs, h, e => by cases h; exact .nil
  | x :: xs, vs, h, e => by
    rw [List.all_cons, Bool.and_eq_true] at e
    cases h with
    | cons kk a b => exact .cons kk (hk _ _ a e.1) (rl_allK n k hk xs _ b e.2)
theorem rl_allF (n k : Nat) (hk : ∀ x v, VR K cA F p x v → rl n k x = true → VR K cA F (p.take n) x v) : ∀ (xs : List (Nat × Val)) (vs : List (Str × V)), FVR K cA F p xs vs → (xs.all fun q => rl n k q.2) = true → FVR K cA F (p.take n) xs vs
  | [], vs, h, e => by cases h; exact .nil
  | x :: xs, vs, h, e => by
    rw [List.all_cons, Bool.and_eq_true] at e
    cases h with
    | cons kk a b => exact .cons kk (hk _ _ a e.1) (rl_allF n k hk xs _ b e.2)
theorem rl_ok (n : Nat) : ∀ (k : Nat) (x : Val) (v : V), VR K cA F p x v → rl n k x = true → VR K cA F (p.take n) x v := by
  intro k
  induction k with
  | zero => intro x v h e; cases e
  | succ k ih =>
    intro x v h e
    cases h with
    | non => exact .non
    | bl b => exact .bl b
    | int b => exact .int b
    | str b => exact .str b
    | cls b => exact .cls b
    | ty b => exact .ty b
    | scr b => exact .scr b
    | vw _ => exact .vw _
    | tup a b => exact .tup a (rl_all n k ih _ _ b e)
    | lst a b => exact .lst a (rl_all n k ih _ _ b e)
    | dct a b => exact .dct a (rl_allK n k ih _ _ b e)
    | obj a b => exact .obj a (rl_allF n k ih _ _ b e)
    | ref hr => exact .ref (pre_low hr (of_decide_eq_true e))
theorem rlC_ok {n : Nat} {a : Addr} {c : Cell} (h : CR K cA F p H a c) (e : rlC n c = true) : CR K cA F (p.take n) H a c := by
  cases c with
  | lst xs => obtain ⟨vs, h1, h2⟩ := h; exact ⟨vs, h1, rl_all n 40 (rl_ok n 40) _ _ h2 e⟩
  | dct xs => obtain ⟨vs, h1, h2⟩ := h; exact ⟨vs, h1, rl_allK n 40 (rl_ok n 40) _ _ h2 e⟩
  | obj C xs => obtain ⟨dx, vs, h1, h2⟩ := h; exact ⟨dx, vs, h1, rl_allF n 40 (rl_ok n 40) _ _ h2 e⟩
/-- back to the store as it was, new things stand for good -/
theorem Rel.fin {H0 : Hp} {F0 : Fz} {p0 : List Addr} {mu0 : Store} (R0 : Rel K cA F0 p0 mu0 H0) (R : Rel K cA F p mu H) (s : p0 <+: p) (ok : okS mu0 mu) : Rel K cA (frzF F p H mu0.length) p0 (mu.take mu0.length) H ∧ p.take mu0.length = p0 := by
  have ep : p.take mu0.length = p0 := by
    obtain ⟨t, rfl⟩ := s
    rw [← R0.len, List.take_left]
  have sb := frzF_sub R mu0.length
  have nodr : ∀ a ∈ p0, a ∉ p.drop mu0.length := fun a ha hd => by
    obtain ⟨t, rfl⟩ := s
    rw [← R0.len, List.drop_left] at hd
    exact (List.nodup_append.mp R.nd).2.2 a ha a hd rfl
  refine ⟨⟨fun a o e => ?_, by rw [List.length_take, R0.len]; exact (Nat.min_eq_left ok.1).symm, R0.nd, fun a ha => ?_, fun r a c h1 h2 => ?_, fun a o e => ?_, R.tab, fun q hq => sb _ _ (R.xds q hq), fun a ps e => ?_, R.ng⟩, ep⟩
  · have e' : (if a ∈ p.drop mu0.length then H a else F.f a) = some o := e
    by_cases hd : a ∈ p.drop mu0.length
    · rw [if_pos hd] at e'; exact e'
    · rw [if_neg hd] at e'; exact R.sub _ _ e'
  · show (if a ∈ p.drop mu0.length then H a else F.f a) = none
    rw [if_neg (nodr a ha)]
    exact R.off a (s.subset ha)
  · have hr : r < mu0.length := by rw [← R0.len]; exact (List.getElem?_eq_some_iff.mp h1).1
    rw [List.getElem?_take, if_pos hr] at h2
    have hc := R.cell r a c (pre_get s h1) h2
    rcases ok.2 r c hr h2 with h | h
    · exact ((R0.cell r a c h1 h).cutp s hc).up sb
    · have := rlC_ok hc h
      rw [ep] at this
      exact this.up sb
  · obtain ⟨h1, h2, h3⟩ := R.hid a o e
    refine ⟨h1, ?_, fun z => h3 (s.subset z)⟩
    show (if a ∈ p.drop mu0.length then H a else F.f a) = none
    rw [if_neg fun z => h3 (List.mem_of_mem_drop z)]
    exact h2
  · have e' : (if a ∈ p.drop mu0.length then H a else F.f a) = some (.tbl ps) := e
    by_cases hd : a ∈ p.drop mu0.length
    · rw [if_pos hd] at e'
      obtain ⟨r, hr⟩ := List.mem_iff_getElem?.mp (List.mem_of_mem_drop hd)
      obtain ⟨c, _, hc⟩ := R.at_some hr
      obtain ⟨o, e1, n1⟩ := hc.noT
      rw [e1] at e'
      exact n1.1 ps (Option.some.inj e')
    · rw [if_neg hd] at e'
      exact R.nf a ps e'
theorem post_fin {W : WX} {s : L2.St} {Q : VK} {x : R Val} (R0 : Rel K cA F p mu H) (h : Post K cA (VR K cA) W s F p Q (finR mu x)) : Post K cA (VR K cA) W s F p Q x := by
  cases x with
  | bad => exact h
  | ok v mu1 =>
    simp only [finR] at h
    by_cases ok : okS mu mu1
    · rw [if_pos ok] at h
      cases e : frz mu1 mu.length 40 v with
      | none => rw [e] at h; exact h.elim
      | some w =>
        rw [e] at h
        intro F' p' H' x a b c d
        obtain ⟨R', ep⟩ := Rel.fin R0 c b ok
        have hv := frz_ok c mu.length 40 v x w d e
        rw [ep] at hv
        exact h _ p H' x ⟨SubH.trans a.1 (frzF_sub c _), a.2⟩ (List.prefix_refl p) R' hv
    · rw [if_neg ok] at h; exact h.elim
  | exc C fs mu1 =>
    simp only [finR] at h
    by_cases ok : okS mu mu1
    · rw [if_pos ok] at h
      cases e : mapO (fun q => (frz mu1 mu.length 40 q.2).map fun y => (q.1, y)) fs with
      | none => rw [e] at h; exact h.elim
      | some gs =>
        rw [e] at h
        intro F' p' H' cls d a b c x
        obtain ⟨R', ep⟩ := Rel.fin R0 c b ok
        refine h _ p H' cls d ⟨SubH.trans a.1 (frzF_sub c _), a.2⟩ (List.prefix_refl p) R' ⟨x.1, ?_⟩
        rcases x.2 with ⟨h1, h2⟩ | ⟨dx, ds, h1, h2, h3⟩
        · subst h1
          cases e
          exact .inl ⟨rfl, h2⟩
        · have hv := frz_allF (mu := mu1) mu.length 40 (frzF F' p' H' mu.length) (frz_ok c mu.length 40) _ _ _ h3 e
          rw [ep] at hv
          exact .inr ⟨dx, ds, h1, frzF_sub c _ _ _ h2, hv⟩
    · rw [if_neg ok] at h; exact h.elim
end
/-- a def that leaves nothing behind that is changed -/
noncomputable def finM (m : List Val → Store → R Val) : List Val → Store → R Val := fun as mu => finR mu (m as mu)
theorem FnM.fin {P : Program} {w : World} {K : PySem.W.Frag} {mg : Str → Option Value} {base : Heap} {cA : CI} {k : Nat} {f : Addr} {m : List Val → Store → R Val} (h : FnM P w K mg base cA k f m) : FnM P w K mg base cA k f (finM m) :=
  h.imp fun vs H Q E ⟨F, p, mu, as, h1, h2, h3⟩ => ⟨F, p, mu, as, h1, h2, post_fin h1 h3⟩
theorem FnM.eq {P : Program} {w : World} {K : PySem.W.Frag} {mg : Str → Option Value} {base : Heap} {cA : CI} {k : Nat} {f : Addr} {m m' : List Val → Store → R Val} (h : FnM P w K mg base cA k f m) (e : ∀ as mu, m' as mu = .bad ∨ m' as mu = m as mu) : FnM P w K mg base cA k f m' :=
  h.imp fun vs H Q E ⟨F, p, mu, as, h1, h2, h3⟩ => ⟨F, p, mu, as, h1, h2, by
    rcases e as mu with z | z
    · rw [z] at h3; exact h3.elim
    · rw [z] at h3; exact h3⟩
end CC

set_option Elab.async false
set_option linter.all false
set_option maxRecDepth 100000
set_option maxHeartbeats 2000000
/-! CC13: calls of defs, methods, classes; own operations. -/
namespace CC
open PySem PySem.Spec PyProof.Rows L2
theorem c_bad {X : Cx} {cA : CI} {W : WX} {e : Expr} : PEM X cA W e (fun _ _ => .bad) := ⟨fun pins s σ H Q I ⟨_, _, _, _, _, _, h⟩ => h.elim⟩
theorem s_bad {X : Cx} {cA : CI} {W : WX} {st : Stmt} : PSM X cA W st (fun _ _ => .bad) := ⟨fun pins s σ H Q I ⟨_, _, _, _, _, _, h⟩ => h.elim⟩
theorem t_bad {X : Cx} {cA : CI} {W : WX} {e : Expr} : PTM X cA W e (fun _ _ => .bad) := ⟨fun pins s σ H Q I ⟨_, _, _, _, _, _, h⟩ => h.elim⟩
/-- a value of the module -/
theorem c_glob {X : Cx} {cA : CI} {W : WX} {x : Str} {v : Val} {w : V} {u : Value} {pos : Pos} (hm : X.mg x = some u) (r : RelV w u) (hv : ∀ F p, VR X.K cA F p v w) (hg : Gl X x := by rfl) (hd : (x == ("__debug__" : Str)) = false := by decide) : PEM X cA W (.Name x pos) (cM v) := c_of (pe_glob hg hm r hd) hv
theorem c_gint {X : Cx} {cA : CI} {W : WX} {x : Str} {i : Int} {pos : Pos} (hm : ∃ t, X.mg x = some (.int i t)) (hg : Gl X x := by rfl) (hd : (x == ("__debug__" : Str)) = false := by decide) : PEM X cA W (.Name x pos) (cM (.int i)) := by
  obtain ⟨t, ht⟩ := hm
  exact c_glob (w := .int i) ht ⟨t, rfl⟩ (fun _ _ => .int i) hg hd
theorem c_gstr {X : Cx} {cA : CI} {W : WX} {x z : Str} {pos : Pos} (hm : ∃ t, X.mg x = some (.str z t)) (hg : Gl X x := by rfl) (hd : (x == ("__debug__" : Str)) = false := by decide) : PEM X cA W (.Name x pos) (cM (.str z.cps.toList)) := by
  obtain ⟨t, ht⟩ := hm
  refine c_glob (w := .str z) ht ⟨t, rfl⟩ (fun _ _ => ?_) hg hd
  have h : z = S z.cps.toList := by simp [S]
  conv => rhs; rw [h]
  exact .str _
theorem c_gcls {X : Cx} {cA : CI} {W : WX} {x : Str} {C : Nat} {pos : Pos} (hm : X.mg x = some (.ref (cA C))) (hg : Gl X x := by rfl) (hd : (x == ("__debug__" : Str)) = false := by decide) : PEM X cA W (.Name x pos) (cM (.cls C)) := c_glob (w := .ref (cA C)) hm rfl (fun _ _ => .cls C) hg hd
/-- a built-in type -/
theorem c_bty {X : Cx} {cA : CI} {W : WX} {x : Str} {n : String} {pos : Pos} (hm : X.mg x = none) (hv : bootBuiltins x = some (.type n) := by rfl) (hg : Gl X x := by rfl) (hn : x ≠ "__name__" := by decide) (hd : (x == ("__debug__" : Str)) = false := by decide) : PEM X cA W (.Name x pos) (cM (.ty n)) := c_of (w := .ty n) (pe_bltn (v := .ty n) hg hm hv rfl hn hd) fun _ _ => .ty n
def callM (m : List Val → Store → R Val) (ms : M (List Val)) : M Val := fun r mu => (ms r mu).bind m
section
variable {X : Cx} {cA : CI} {E : XK} {x : Str} {p pos apos : Pos} {e o : Expr} {es : List Expr} {f : Addr} {k : Nat} {m : List Val → Store → R Val} {ms : M (List Val)} {mo : M Val}
theorem sp_of {K : PySem.W.Frag} {F : Fz} {q : List Addr} {mu : Store} {H : Hp} {as : List Val} {vs : List V} {s : L2.St} {Q : VK} (h1 : Rel K cA F q mu H) (h2 : VRs K cA F q as vs) (h3 : Post K cA (VR K cA) (Wf E) s F q Q (m as mu)) : SpM K cA m vs H Q E := ⟨F, q, mu, as, h1, h2, h3.slots⟩
theorem pass_of (tk : L2N.Takes X (Wf E)) : Passes (L2N.CX X.prog X.w) X E := L2N.passes_call tk fun _ _ _ _ h => h
/-- f(e, ..) -/
theorem c_call (F : FnM X.prog X.w X.K X.mg X.base cA k f m) (hm : X.mg x = some (.ref f)) (hk : PySem.W.keepIn X.K (.ref f) = true) (hr : Room k X.A) (tk : L2N.Takes X (Wf E)) (ha : PAM X cA (Wf E) (e :: es) ms) (hg : Gl X x := by rfl)
    (hdb : (x == ("__debug__" : Str)) = false := by decide) (he : starEach (e :: es) X.env = (false, eval e X.env) :: starEach es X.env := by rfl) (hpl : (backTo pos (starEach es X.env)).any (·.1) = false := by rfl) : PEM X cA (Wf E) (.Call (.Name x p) (e :: es) [] pos) (callM m ms) := by
  refine ⟨fun pins s σ H Q I ⟨F1, p1, r, mu, h1, h2, h3⟩ => wpAny_Call_Name_kw (ld_glob I hg hm ?_ hdb)⟩
  have hd : DA X.K cA (Wf E) ms σ H fun vs H1 => SpM X.K cA m vs H1 Q E := bindAt h1 h2 h3 fun F2 p2 mu2 as vs H1 _ _ c1 _ e1 f1 => sp_of c1 e1 f1
  refine PySem.W.callWith_K (h₀ := X.base) I.ok.mod.kin hk (thn (ha.run pos pins s σ H _ I hd) fun us s1 ⟨vs, H1, I1, r1, q⟩ => ⟨I1.kIn, ?_⟩) he hpl
  exact wpAny_call (run_fnR F hr (pass_of tk) I1 r1 q)
theorem c_call0 (F : FnM X.prog X.w X.K X.mg X.base cA k f m) (hm : X.mg x = some (.ref f)) (hk : PySem.W.keepIn X.K (.ref f) = true) (hr : Room k X.A) (tk : L2N.Takes X (Wf E)) (hg : Gl X x := by rfl) (hdb : (x == ("__debug__" : Str)) = false := by decide) : PEM X cA (Wf E) (.Call (.Name x p) [] [] pos) (callM m nilM) := by
  refine ⟨fun pins s σ H Q I ⟨F1, p1, r, mu, h1, h2, h3⟩ => wpAny_Call_Name_kw (ld_glob I hg hm ?_ hdb)⟩
  exact PySem.W.callWith_K0 I.kIn hk (wpAny_call (run_fnR (us := []) F hr (pass_of tk) I .nil (sp_of h1 .nil h3)))
/-- o.m(e, ..), o an object of the class C -/
def methM (C : Nat) (m : List Val → Store → R Val) (mo : M Val) (ms : M (List Val)) : M Val := fun r mu => (mo r mu).bind fun x mu1 => match objV mu1 x with
  | some (C', _) => if C' = C then (ms r mu1).bind fun as mu2 => m (x :: as) mu2 else .bad
  | none => .bad
theorem meth_at {K : PySem.W.Frag} {F : Fz} {q : List Addr} {mu : Store} {H : Hp} {y : Val} {v : V} {C : Nat} {W : WX} {s : L2.St} {Q : VK} {β : Type} {R' : R Val} (h1 : Rel K cA F q mu H) (h2 : VR K cA F q y v) (h3 : Post K cA (VR K cA) W s F q Q (match objV mu y with
  | some (C', _) => if C' = C then R' else .bad
  | none => .bad)) (nm : Str) (hn : ∀ n : Nat, n < 45 → nm ≠ aN n) : ∃ a dx gs, v = .ref a ∧ H a = some (.ins (cA C) dx gs) ∧ gs.lookup nm = none ∧ Post K cA (VR K cA) W s F q Q R' := by
  cases e : objV mu y with
  | none => rw [e] at h3; exact h3.elim
  | some z =>
    obtain ⟨C', fs⟩ := z
    rw [e] at h3
    simp only at h3
    by_cases hc : C' = C
    · rw [if_pos hc] at h3
      subst hc
      obtain ⟨l, dx, gs, rfl, g1, g2⟩ := objV_ok h1 h2 e
      exact ⟨l, dx, gs, rfl, g1, g2.none_of hn, h3⟩
    · rw [if_neg hc] at h3; exact h3.elim
theorem c_meth {C : Nat} {nm : Str} {pl : Sem Bool} (F : FnM X.prog X.w X.K X.mg X.base cA k f m) (c : Cls X.K (cA C)) (hm : Meth X.K (cA C) nm f) (hn : ∀ n : Nat, n < 45 → nm ≠ aN n) (hr : Room k X.A) (tk : L2N.Takes X (Wf E)) (ho : PEM X cA (Wf E) o mo) (ha : PAM X cA (Wf E) (e :: es) ms)
    (hst : starEach (e :: es) X.env = (false, eval e X.env) :: starEach es X.env := by rfl) (hpl : (backTo pos (starEach es X.env)).any (·.1) = false := by rfl)
    (ht : eval (.Call (.Attribute o nm apos) (e :: es) [] pos) X.env = (do
      let ov ← eval o X.env
      standAt apos.atName
      let (f, first) ← holding [ov] (getMethod ov nm pl)
      callWith pos f first (backTo pos (starEach (e :: es) X.env)) (backToKw pos (keywordEach [] X.env))) := by rfl) :
    PEM X cA (Wf E) (.Call (.Attribute o nm apos) (e :: es) [] pos) (methM C m mo ms) := by
  refine ⟨fun pins s σ H Q I ⟨F1, p1, r, mu, h1, h2, h3⟩ => ?_⟩
  have hd : DE X.K cA (Wf E) mo σ H fun v H1 => ∃ a dx gs, v = .ref a ∧ H1 a = some (.ins (cA C) dx gs) ∧ gs.lookup nm = none ∧ DA X.K cA (Wf E) ms σ H1 fun vs H2 => SpM X.K cA m (v :: vs) H2 Q E :=
    bindAt h1 h2 h3 fun F2 p2 mu2 y v H1 _ _ c1 d1 e1 f1 => by
      obtain ⟨a, dx, gs, rfl, g1, g2, g3⟩ := meth_at (β := Unit) c1 e1 f1 nm hn
      refine ⟨a, dx, gs, rfl, g1, g2, bindAt c1 d1 g3 fun F3 p3 mu3 as vs H2 a3 b3 c3 _ e3 f3 => sp_of c3 (.cons (e1.mono a3 b3) e3) f3⟩
  refine PySem.W.methodCall_KW (pl := pl) (thn (ho.run pins s σ H _ I hd) fun u s1 ⟨v, H1, I1, rx, a, dx, gs, ev, ea, l, q⟩ => ?_) ht
  subst ev
  obtain rfl : u = Value.ref a := rx
  refine getmeth_ok I1 ea c hm l ?_
  refine PySem.W.callWith_K (first := [.ref a]) (h₀ := X.base) I.ok.mod.kin hm.kp (thn (ha.run pos pins s1 σ H1 _ I1 q) fun us s2 ⟨vs, H2, I2, r2, q2⟩ => ⟨I2.kIn, ?_⟩) hst hpl
  exact wpAny_call (run_fnR (us := .ref a :: us) (vs := .ref a :: vs) F hr (pass_of tk) I2 (.cons rfl r2) q2)
theorem c_meth0 {C : Nat} {nm : Str} {pl : Sem Bool} (F : FnM X.prog X.w X.K X.mg X.base cA k f m) (c : Cls X.K (cA C)) (hm : Meth X.K (cA C) nm f) (hn : ∀ n : Nat, n < 45 → nm ≠ aN n) (hr : Room k X.A) (tk : L2N.Takes X (Wf E)) (ho : PEM X cA (Wf E) o mo)
    (ht : eval (.Call (.Attribute o nm apos) [] [] pos) X.env = (do
      let ov ← eval o X.env
      standAt apos.atName
      let (f, first) ← holding [ov] (getMethod ov nm pl)
      callWith pos f first (backTo pos (starEach [] X.env)) (backToKw pos (keywordEach [] X.env))) := by rfl) :
    PEM X cA (Wf E) (.Call (.Attribute o nm apos) [] [] pos) (methM C m mo nilM) := by
  refine ⟨fun pins s σ H Q I ⟨F1, p1, r, mu, h1, h2, h3⟩ => ?_⟩
  have hd : DE X.K cA (Wf E) mo σ H fun v H1 => ∃ a dx gs, v = .ref a ∧ H1 a = some (.ins (cA C) dx gs) ∧ gs.lookup nm = none ∧ SpM X.K cA m [v] H1 Q E :=
    bindAt h1 h2 h3 fun F2 p2 mu2 y v H1 _ _ c1 d1 e1 f1 => by
      obtain ⟨a, dx, gs, rfl, g1, g2, g3⟩ := meth_at (β := Unit) c1 e1 f1 nm hn
      exact ⟨a, dx, gs, rfl, g1, g2, sp_of c1 (.cons e1 .nil) g3⟩
  refine PySem.W.methodCall_KW (pl := pl) (thn (ho.run pins s σ H _ I hd) fun u s1 ⟨v, H1, I1, rx, a, dx, gs, ev, ea, l, q⟩ => ?_) ht
  subst ev
  obtain rfl : u = Value.ref a := rx
  refine getmeth_ok I1 ea c hm l ?_
  exact PySem.W.callWith_K0 (first := [.ref a]) I1.kIn hm.kp (wpAny_call (run_fnR (us := [.ref a]) (vs := [.ref a]) F hr (pass_of tk) I1 (.cons rfl .nil) q))
/-! ### C(e, ..) -/
def mkR (C : Nat) (m : List Val → Store → R Val) (as : List Val) (mu : Store) : R Val := match m (.ref mu.length :: as) (mu ++ [.obj C []]) with
  | .ok .non mu2 => .ok (.ref mu.length) mu2
  | .exc C' fs mu2 => .exc C' fs mu2
  | _ => .bad
noncomputable def mkF (C : Nat) (m : List Val → Store → R Val) (as : List Val) (mu : Store) : R Val := finR mu (mkR C m as mu)
theorem mk_sp {K : PySem.W.Frag} {C : Nat} {H : Hp} {Q : VK} {vs : List V} {F1 : Fz} {p1 : List Addr} {mu : Store} {as : List Val} {a dx : Addr} (h1 : Rel K cA F1 p1 mu H) (h2 : VRs K cA F1 p1 as vs) (h3 : Post K cA (VR K cA) (Wf E) [] F1 p1 Q (mkR C m as mu)) (f1 : H a = none) (f0 : H dx = none) (ne : dx ≠ a) :
    SpM K cA m (V.ref a :: vs) (upd (upd H dx (.own a)) a (.ins (cA C) dx [])) (fun v H2 => v = .non ∧ Q (.ref a) H2) E := by
  have f2 : upd H dx (.own a) a = none := by rw [upd_ne (Ne.symm ne)]; exact f1
  have sb : SubH H (upd (upd H dx (.own a)) a (.ins (cA C) dx [])) := (SubH.new f0).trans (SubH.new f2)
  have R2 : Rel K cA F1 (p1 ++ [a]) (mu ++ [.obj C []]) _ := h1.alloc f1 sb ⟨dx, [], upd_same, .nil⟩
  have at_ : (p1 ++ [a])[mu.length]? = some a := by
    rw [← h1.len, List.getElem?_append_right (Nat.le_refl _)]
    simp
  refine ⟨F1, _, _, .ref mu.length :: as, R2, .cons (.ref at_) (h2.mono (Sub.refl F1) (List.prefix_append _ _)), ?_⟩
  unfold mkR at h3
  cases e : m (.ref mu.length :: as) (mu ++ [.obj C []]) with
  | bad => rw [e] at h3; exact h3.elim
  | exc C' fs mu2 =>
    rw [e] at h3
    exact fun F' p' H' cls d a b => h3 F' p' H' cls d a ((List.prefix_append _ _).trans b)
  | ok z mu2 =>
    rw [e] at h3
    cases z with
    | non =>
      intro F' p' H' v a b c d
      cases d
      exact ⟨rfl, h3 F' p' H' _ a ((List.prefix_append _ _).trans b) c (.ref (pre_get b at_))⟩
    | _ => exact h3.elim
theorem run_mk {C : Nat} {pins : List (Addr × Obj)} {σ : L2.St} {H : Hp} {s : Shared} {Q : VK} {us : List Value} {vs : List V} {F1 : Fz} {p1 : List Addr} {mu : Store} {as : List Val} (M : Mk X.K (cA C) f) (F : FnM X.prog X.w X.K X.mg X.base cA k f m) (hr : Room (k + 1) X.A) (tk : L2N.Takes X (Wf E))
    (I : Inv X pins σ H s) (r : Vals vs us) (h1 : Rel X.K cA F1 p1 mu H) (h2 : VRs X.K cA F1 p1 as vs) (h3 : Post X.K cA (VR X.K cA) (Wf E) [] F1 p1 Q (mkR C m as mu)) : wpAny (model X.prog X.w) X.A (call (.ref (cA C)) us) (EP X pins σ Q) X.xe s := by
  have I2 := Inv.made (C := cA C) I
  have hq := mk_sp h1 h2 h3 (I.hok.fresh (Nat.le_succ s.heap.objs.size)) (I.hok.fresh (Nat.le_refl s.heap.objs.size)) (Nat.ne_of_lt (Nat.lt_succ_self s.heap.objs.size))
  refine wpAny_call (make_map (f := f) I.kIn M.makes M.init (beq_iff_eq.mp M.fn) (codeAny_mono (F _ X.stack _ _ (Value.ref (s.heap.objs.size + 1) :: us) (V.ref (s.heap.objs.size + 1) :: vs) _ E (hr.make (cA C) us []) (I2.env0.make (cA C) us []) (.cons rfl r) hq) fun res s' hq' => ?_))
  cases res with
  | error er => exact pass_of tk pins σ _ _ er s' I2 hq'
  | ok fl =>
    cases fl with
    | ret u =>
      obtain ⟨v, H', I3, rv, ev, q3⟩ := I2.after hq'
      subst ev
      exact ⟨rv, ⟨V.ref (s.heap.objs.size + 1), H', I3, rfl, q3⟩⟩
    | next => exact False.elim hq'
    | brk => exact False.elim hq'
    | cont => exact False.elim hq'
def Leaves (K : PySem.W.Frag) (cA : CI) (E : XK) (g g' : List Val → Store → R Val) : Prop := ∀ (F : Fz) (q : List Addr) (mu : Store) (H : Hp) (as : List Val) (s : L2.St) (Q : VK), Rel K cA F q mu H → Post K cA (VR K cA) (Wf E) s F q Q (g' as mu) → Post K cA (VR K cA) (Wf E) s F q Q (g as mu)
theorem leaves {K : PySem.W.Frag} {g : List Val → Store → R Val} : Leaves K cA E g g := fun _ _ _ _ _ _ _ _ h => h
theorem leavesF {K : PySem.W.Frag} {g : List Val → Store → R Val} : Leaves K cA E g (finM g) := fun _ _ _ _ _ _ _ h1 h => post_fin h1 h
theorem c_make {C : Nat} {g : List Val → Store → R Val} (L : Leaves X.K cA E (mkR C m) g) (M : Mk X.K (cA C) f) (F : FnM X.prog X.w X.K X.mg X.base cA k f m) (hm : X.mg x = some (.ref (cA C))) (hr : Room (k + 1) X.A) (tk : L2N.Takes X (Wf E)) (ha : PAM X cA (Wf E) (e :: es) ms) (hg : Gl X x := by rfl)
    (hdb : (x == ("__debug__" : Str)) = false := by decide) (he : starEach (e :: es) X.env = (false, eval e X.env) :: starEach es X.env := by rfl) (hpl : (backTo pos (starEach es X.env)).any (·.1) = false := by rfl) : PEM X cA (Wf E) (.Call (.Name x p) (e :: es) [] pos) (callM g ms) := by
  refine ⟨fun pins s σ H Q I ⟨F1, p1, r, mu, h1, h2, h3⟩ => wpAny_Call_Name_kw (ld_glob I hg hm ?_ hdb)⟩
  have hd : DA X.K cA (Wf E) ms σ H fun vs H1 => ∃ F2 p2 mu2 as, Rel X.K cA F2 p2 mu2 H1 ∧ VRs X.K cA F2 p2 as vs ∧ Post X.K cA (VR X.K cA) (Wf E) [] F2 p2 Q (mkR C m as mu2) := bindAt h1 h2 h3 fun F2 p2 mu2 as vs H1 _ _ c1 _ e1 f1 => ⟨F2, p2, mu2, as, c1, e1, (L _ _ _ _ _ _ _ c1 f1).slots⟩
  refine PySem.W.callWith_K (h₀ := X.base) I.ok.mod.kin M.kp (thn (ha.run pos pins s σ H _ I hd) fun us s1 ⟨vs, H1, I1, r1, F2, p2, mu2, as, g1, g2, g3⟩ => ⟨I1.kIn, ?_⟩) he hpl
  exact run_mk M F hr tk I1 r1 g1 g2 g3
def mkVM (C : Nat) (g : List Val → Store → R Val) (mo : M Val) (ms : M (List Val)) : M Val := fun r mu => (mo r mu).bind fun c mu1 => match c with
  | .cls C' => if C' = C then callM g ms r mu1 else .bad
  | _ => .bad
/-- C a local name that holds the class -/
theorem c_makeV {C : Nat} {g : List Val → Store → R Val} (L : Leaves X.K cA E (mkR C m) g) (M : Mk X.K (cA C) f) (F : FnM X.prog X.w X.K X.mg X.base cA k f m) (hx : PEM X cA (Wf E) (.Name x p) mo) (hr : Room (k + 1) X.A) (tk : L2N.Takes X (Wf E)) (ha : PAM X cA (Wf E) (e :: es) ms)
    (he : starEach (e :: es) X.env = (false, eval e X.env) :: starEach es X.env := by rfl) (hpl : (backTo pos (starEach es X.env)).any (·.1) = false := by rfl) : PEM X cA (Wf E) (.Call (.Name x p) (e :: es) [] pos) (mkVM C g mo ms) := by
  refine ⟨fun pins s σ H Q I ⟨F1, p1, r, mu, h1, h2, h3⟩ => ?_⟩
  unfold mkVM at h3
  have hd0 : DE X.K cA (Wf E) mo σ H fun v H1 => v = .ref (cA C) ∧ DA X.K cA (Wf E) ms σ H1 fun vs H2 => ∃ F2 p2 mu2 as, Rel X.K cA F2 p2 mu2 H2 ∧ VRs X.K cA F2 p2 as vs ∧ Post X.K cA (VR X.K cA) (Wf E) [] F2 p2 Q (mkR C m as mu2) :=
    bindAt h1 h2 h3 fun F2 p2 mu2 y v H1 _ _ c1 d1 e1 f1 => by
      cases e1 with
      | cls C' =>
        simp only at f1
        by_cases hc : C' = C
        · rw [if_pos hc] at f1
          subst hc
          exact ⟨rfl, bindAt c1 d1 f1 fun F3 p3 mu3 as vs H2 _ _ c3 _ e3 f3 => ⟨F3, p3, mu3, as, c3, e3, (L _ _ _ _ _ _ _ c3 f3).slots⟩⟩
        · rw [if_neg hc] at f1; exact f1.elim
      | _ => exact f1.elim
  refine wpAny_Call_Name_kw (thn (hx.run pins s σ H _ I hd0) fun u s1 ⟨v, H1, I1, rv, ev, q⟩ => ?_)
  subst ev
  obtain rfl : u = Value.ref (cA C) := rv
  refine PySem.W.callWith_K (h₀ := X.base) I.ok.mod.kin M.kp (thn (ha.run pos pins s1 σ H1 _ I1 q) fun us s2 ⟨vs, H2, I2, r1, F2, p2, mu2, as, g1, g2, g3⟩ => ⟨I2.kIn, ?_⟩) he hpl
  exact run_mk M F hr tk I2 r1 g1 g2 g3
/-! ### C(k = v, ..) -/
theorem kbn_of {K : PySem.W.Frag} {y qual : Str} {params : Arguments} {body : List Stmt} {scope : Scope} {kws : List (Str × V)} {f : Addr} {fd : FuncData} {ps ks : List Str} {n : Nat} {g : List Value → List Value → List Value} {gV : List V → List V → List V} (F : FunD K y qual params body scope [] kws f fd)
    (h : ∀ (kV doc pm : Value) (an : Option Addr) (cdv ct : Value) (us ws : List Value), us.length = n → ws.length = ks.length → bindArgs (PySem.W.fnOf y qual params body scope .none kV doc pm an cdv ct) ⟨us, ks.zip ws⟩ = pure (ps.zip (g us ws)))
    (rel : ∀ {vs : List V} {us : List Value} {zs : List V} {ws : List Value}, Vals vs us → Vals zs ws → Vals (gV vs zs) (g us ws)) : KBn K fd ps n ks g gV := by
  obtain ⟨oc, od, dV, kV, doc, pm, an, cdv, ct, osl, rfl, lk, hcd, hD, hK⟩ := F.ex
  rcases hD with ⟨_, rfl⟩ | ⟨e, _⟩
  · exact ⟨fun s us ws _ l1 l2 => BindsTo.of_eq (h kV doc pm an cdv ct us ws l1 l2), rel⟩
  · exact absurd rfl e
def PKM (X : Cx) (cA : CI) (W : WX) (ks : List Keyword) (ms : M (List Val)) : Prop := PK X ks (DA X.K cA W ms)
theorem k_nil {W : WX} : PKM X cA W [] nilM := ⟨fun pos pins s σ H Q I ⟨F, p, r, mu, h1, h2, h3⟩ => pk_nil.run pos pins s σ H Q I (h3 F p H [] (Sub.refl F) (List.prefix_refl p) h1 .nil)⟩
theorem k_cons {W : WX} {nm : Option Str} {kpos : Pos} {kws : List Keyword} (ha : PEM X cA W e mo) (hr : PKM X cA W kws ms) : PKM X cA W (⟨nm, e, kpos⟩ :: kws) (consM mo ms) := ⟨fun pos pins s σ H Q I h => (pk_cons ha hr).run pos pins s σ H Q I (denc h)⟩
def mkKM (n : Nat) (g : List Val → Store → R Val) (ms : M (List Val)) : M Val := fun r mu => (ms r mu).bind fun as mu1 => if as.length = n then g as mu1 else .bad
theorem c_makeK {C : Nat} {fd : FuncData} {ps ks : List Str} {kws : List Keyword} {g : List Val → Store → R Val} {gp : {α : Type} → List α → List α} (L : Leaves X.K cA E (fun as => mkR C m (gp as)) g) (M : Mk X.K (cA C) f) (F : FnOk X.prog X.w X.K X.mg X.base (L2N.CX X.prog X.w) k f fd ps (SpM X.K cA m)) (hm : X.mg x = some (.ref (cA C))) (hr : Room (k + 1) X.A) (tk : L2N.Takes X (Wf E))
    (hb : KBn X.K fd ps 1 ks (fun us ws => us ++ gp ws) (fun vs zs => vs ++ gp zs)) (hp : ∀ {F : Fz} {q : List Addr} {as : List Val} {vs : List V}, VRs X.K cA F q as vs → VRs X.K cA F q (gp as) (gp vs)) (hkw : PKM X cA (Wf E) kws ms) (hg : Gl X x := by rfl)
    (hall : (backToKw pos (keywordEach kws X.env)).all (·.1.isSome) = true := by rfl) (hks : (backToKw pos (keywordEach kws X.env)).filterMap (·.1) = ks := by rfl) (hdb : (x == ("__debug__" : Str)) = false := by decide)
    (hpl : ((backTo pos (starEach [] X.env)).any (·.1) || (backToKw pos (keywordEach kws X.env)).any (·.1.isNone)) = false := by rfl) : PEM X cA (Wf E) (.Call (.Name x p) [] kws pos) (mkKM ks.length g ms) :=
  pe_weak (pe_makeK0 M F hr hg hm hb (pass_of tk) hkw hall hks hdb hpl) fun s H Q ⟨F1, p1, r, mu, h1, h2, h3⟩ => by
    show tMakeK _ _ _ _ _ _ _ _ _ _ _
    unfold mkKM at h3
    refine bindAt h1 h2 h3 fun F2 p2 mu2 as vs H1 _ _ c1 _ e1 f1 => ?_
    by_cases hl : as.length = ks.length
    · rw [if_pos hl] at f1
      exact ⟨rfl, by rw [← e1.length]; exact hl, fun a dx f1' f0 ne => mk_sp c1 (hp e1) (L _ _ _ _ _ _ _ c1 f1).slots f1' f0 ne⟩
    · rw [if_neg hl] at f1; exact f1.elim
/-! ### properties -/
/-- exceptions are not looked at -/
def noX {α : Type} : R α → R α
  | .ok a mu => .ok a mu
  | _ => .bad
def propM (C : Nat) (m : List Val → Store → R Val) (mo : M Val) : M Val := fun r mu => (mo r mu).bind fun x mu1 => match objV mu1 x with
  | some (C', _) => if C' = C then noX (m [x] mu1) else .bad
  | none => .bad
theorem post_noX {K : PySem.W.Frag} {W : WX} {F : Fz} {q : List Addr} {s s' : L2.St} {Q : VK} {y : R Val} (h : Post K cA (VR K cA) W s F q Q (noX y)) : Post K cA (VR K cA) (Wf fun _ _ _ => False) s' F q Q y := by
  cases y with
  | ok v mu => exact h
  | exc C fs mu => exact h.elim
  | bad => exact h
theorem c_prop {C : Nat} {nm : Str} {W : WX} {pp : Addr} (F : FnM X.prog X.w X.K X.mg X.base cA k f m) (c : Cls X.K (cA C)) (hp : PropOf X.K (cA C) nm pp f) (hr : Room (k + 1) X.A) (ho : PEM X cA W o mo) (hab : attributeBase o nm X.env (eval o X.env) = eval o X.env := by rfl) : PEM X cA W (.Attribute o nm pos) (propM C m mo) := by
  refine ⟨fun pins s σ H Q I ⟨F1, p1, r, mu, h1, h2, h3⟩ => ?_⟩
  have hd : DE X.K cA W mo σ H fun v H1 => ∃ a dx gs, v = .ref a ∧ H1 a = some (.ins (cA C) dx gs) ∧ SpM X.K cA m [v] H1 Q (fun _ _ _ => False) :=
    bindAt h1 h2 h3 fun F2 p2 mu2 y v H1 _ _ c1 d1 e1 f1 => by
      cases e : objV mu2 y with
      | none => rw [e] at f1; exact f1.elim
      | some z =>
        obtain ⟨C', fs⟩ := z
        rw [e] at f1
        simp only at f1
        by_cases hc : C' = C
        · rw [if_pos hc] at f1
          subst hc
          obtain ⟨l, dx, gs, rfl, g1, g2⟩ := objV_ok c1 e1 e
          exact ⟨l, dx, gs, rfl, g1, F2, p2, mu2, [y], c1, .cons e1 .nil, post_noX f1⟩
        · rw [if_neg hc] at f1; exact f1.elim
  refine attr_of hab (thn (ho.run pins s σ H _ I hd) fun u s1 ⟨v, H1, I1, rx, a, dx, gs, ev, ea, q⟩ => ?_)
  subst ev
  obtain rfl : u = Value.ref a := rx
  obtain ⟨mA, O, _, _, _, _⟩ := ins_get I1.hok ea
  obtain ⟨od, J, _⟩ := O.look
  obtain ⟨rest, hrec⟩ := hp.rec_
  have I2 := I1.tok (s1.toks + 1)
  have hc : (PySem.W.clsIn X.K (cA C)).isSome = true := by
    obtain ⟨cd, hc, _⟩ := PySem.W.any_some c.hd
    rw [hc]
    rfl
  refine PySem.W.get_bind I1.kIn J (PySem.W.plainGet_of (c.get nm)).1 (PySem.W.findObj_data hc hp.at_ hp.get hp.tak) (PySem.W.plainGet_of (c.get nm)).2 (wpAny_call (PySem.W.prop_get (s := { s1 with toks := s1.toks + 1 }) I1.kIn hrec ?_))
  refine codeAny_mono (F X.A.in1 X.stack { s1 with toks := s1.toks + 1 } H1 [.ref a] [.ref a] Q _ hr.in1 I2.env0.in1 (.cons rfl .nil) q) fun res s' hq => ?_
  cases res with
  | error er => obtain ⟨_, _, _, _, _, _, _, _, _, _, _, _, z⟩ := hq; exact z.elim
  | ok fl =>
    cases fl with
    | ret u =>
      obtain ⟨v, H', I3, rv, q3⟩ := I2.after hq
      show wpAny _ _ (handedOut u) _ _ _
      rw [PySem.W.handedOut_of (handed_of rv)]
      exact wpAny_pure ⟨v, H', I3, rv, q3⟩
    | next => exact False.elim hq
    | brk => exact False.elim hq
    | cont => exact False.elim hq
/-! ### C.m(e, ..), m a classmethod -/
def clsM (C : Nat) (m : List Val → Store → R Val) (mo : M Val) (ms : M (List Val)) : M Val := fun r mu => (mo r mu).bind fun x mu1 => match x with
  | .cls C' => if C' = C then (ms r mu1).bind fun as mu2 => m (.cls C :: as) mu2 else .bad
  | _ => .bad
theorem c_cmeth {C : Nat} {nm : Str} {pp : Addr} {mc : Value} {pl : Sem Bool} (F : FnM X.prog X.w X.K X.mg X.base cA k f m) (rd : ClX.CRead X.K (cA C) mc) (cm : ClX.CMet X.K (cA C) mc nm pp f) (hr : Room k X.A) (tk : L2N.Takes X (Wf E)) (ho : PEM X cA (Wf E) o mo) (ha : PAM X cA (Wf E) (e :: es) ms)
    (hst : starEach (e :: es) X.env = (false, eval e X.env) :: starEach es X.env := by rfl) (hpl : (backTo pos (starEach es X.env)).any (·.1) = false := by rfl)
    (ht : eval (.Call (.Attribute o nm apos) (e :: es) [] pos) X.env = (do
      let ov ← eval o X.env
      standAt apos.atName
      let (f, first) ← holding [ov] (getMethod ov nm pl)
      callWith pos f first (backTo pos (starEach (e :: es) X.env)) (backToKw pos (keywordEach [] X.env))) := by rfl) :
    PEM X cA (Wf E) (.Call (.Attribute o nm apos) (e :: es) [] pos) (clsM C m mo ms) :=
  pe_weak (ClX.pe_cmeth (pl := pl) ho rd cm F hr (pass_of tk) ha hst hpl ht) fun s H Q ⟨F1, p1, r, mu, h1, h2, h3⟩ => bindAt h1 h2 h3 fun F2 p2 mu2 y v H1 _ _ c1 d1 e1 f1 => by
    cases e1 with
    | cls C' =>
      simp only at f1
      by_cases hc : C' = C
      · rw [if_pos hc] at f1
        subst hc
        exact ⟨rfl, bindAt c1 d1 f1 fun F3 p3 mu3 as vs H2 _ _ c3 _ e3 f3 => sp_of c3 (.cons (.cls _) e3) f3⟩
      · rw [if_neg hc] at f1; exact f1.elim
    | _ => exact f1.elim
end
end CC

set_option Elab.async false
set_option linter.all false
set_option maxRecDepth 100000
set_option maxHeartbeats 2000000
/-! CC14: ==, !=, str, repr, bool of own objects; defs that ask for guards. -/
namespace CC
open PySem PySem.Spec PyProof.Rows L2
theorem looks_at {M : Model} {h : Heap} {a : Addr} {o : Obj} {t : Value} (e : h.get? a = some o) (c : o.cls = t) : PySem.W.Looks M h (typeOf (.ref a)) t := fun A Q E s k q => wpAny_typeOf_ref (k _ _ e) (by rw [c]; exact q)
section
variable {X : Cx} {pins : List (Addr × Obj)} {σ : L2.St} {H : Hp} {s : Shared} {M : Model}
theorem looks_ty {x : V} {u t : Value} (I : Inv X pins σ H s) (rx : RelV x u) (ty : TyX X.K H x t) : PySem.W.Looks M s.heap (typeOf u) t := by
  cases ty with
  | base h =>
    cases h with
    | non => cases (show u = Value.none from rx); exact .of_pure rfl
    | bl b => cases (show u = Value.bool b from rx); exact .of_pure rfl
    | int i => obtain ⟨t, e⟩ := (show ∃ t, u = Value.int i t from rx); cases e; exact .of_pure rfl
    | str i => obtain ⟨t, e⟩ := (show ∃ t, u = Value.str i t from rx); cases e; exact .of_pure rfl
    | flt i => obtain ⟨t, e⟩ := (show ∃ t, u = Value.float i t from rx); cases e; exact .of_pure rfl
    | @lst a xs ea =>
      cases (show u = Value.ref a from rx)
      obtain ⟨_, _, n, _, h1⟩ := (show ObjOk X.prog X.w H s.heap a (.lst xs) from I.hok a _ ea)
      exact looks_at h1 rfl
    | @frz a ob xs ea =>
      cases (show u = Value.ref a from rx)
      obtain ⟨_, _, _, n, _, h1⟩ := (show ObjOk X.prog X.w H s.heap a (.frz ob (.lst xs)) from I.hok a _ ea)
      exact looks_at h1 rfl
    | @tup a xs ea =>
      cases (show u = Value.ref a from rx)
      obtain ⟨_, _, _, o, h1, h2, _⟩ := (show ObjOk X.prog X.w H s.heap a (.tup xs) from I.hok a _ ea)
      exact looks_at h1 h2
    | @dK a kvs ea =>
      cases (show u = Value.ref a from rx)
      obtain ⟨_, _, vs, _, o, es, ep, h1, h2, _⟩ := (show ObjOk X.prog X.w H s.heap a (.dK kvs) from I.hok a _ ea)
      exact looks_at h1 h2.1
    | @dT a kvs ea =>
      cases (show u = Value.ref a from rx)
      obtain ⟨_, _, xs, _, o, es, ep, h1, h2, _⟩ := (show ObjOk X.prog X.w H s.heap a (.dT kvs) from I.hok a _ ea)
      exact looks_at h1 h2.1
    | @ins a C dx fs ea cl ha hn htk hm =>
      cases (show u = Value.ref a from rx)
      obtain ⟨mA, O, _⟩ := ins_get I.hok ea
      obtain ⟨od, J, _⟩ := O.look
      exact J.type
  | byt y => obtain ⟨t, q⟩ := (show ∃ t, u = Value.bytes y t from rx); cases q; exact .of_pure rfl
  | @set a S n ea =>
    cases (show u = Value.ref a from rx)
    obtain ⟨o, _, _, _, e, ex, _⟩ := I.hok a _ ea
    exact looks_at e ex.1
  | @kList a o e c => cases (show u = Value.ref a from rx); exact looks_at (I.kIn a o e) c
  | @kTuple a o e c => cases (show u = Value.ref a from rx); exact looks_at (I.kIn a o e) c
  | @kDict a o e c => cases (show u = Value.ref a from rx); exact looks_at (I.kIn a o e) c
  | @fTuple a ob xs ea =>
    cases (show u = Value.ref a from rx)
    obtain ⟨_, _, _, _, o, h1, h2, _⟩ := (show ObjOk X.prog X.w H s.heap a (.frz ob (.tup xs)) from I.hok a _ ea)
    exact looks_at h1 h2
  | @fDict a ob kvs ea =>
    cases (show u = Value.ref a from rx)
    obtain ⟨_, _, _, vs, _, o, es, ep, h1, h2, _⟩ := (show ObjOk X.prog X.w H s.heap a (.frz ob (.dK kvs)) from I.hok a _ ea)
    exact looks_at h1 h2.1
/-- an instance as it stands -/
theorem inst_of (I : Inv X pins σ H s) {a dx C : Addr} {gs : List (Str × V)} (e : H a = some (.ins C dx gs)) : ∃ od, PySem.W.InstAt s.heap a (PySem.W.instObj C dx) C (some od) := by
  obtain ⟨mA, O, _, _, _, _⟩ := ins_get I.hok e
  obtain ⟨od, J, _⟩ := O.look
  exact ⟨od, J⟩
end
open Classical in
noncomputable def pureR (mu : Store) : R Val → Option Val
  | .ok v mu' => if mu' = mu then some v else none
  | _ => none
section
variable {K : PySem.W.Frag} {cA : CI} {F : Fz} {p : List Addr} {mu : Store} {H : Hp}
theorem pure_post {m : R Val} {z : Val} {Q : VK} {s : L2.St} (R0 : Rel K cA F p mu H) (e : pureR mu m = some z) (q : GQ K cA F p mu z Q) : Post K cA (VR K cA) (Wf fun _ _ _ => False) s F p Q m := by
  cases m with
  | ok v mu' =>
    simp only [pureR] at e
    by_cases h : mu' = mu
    · rw [if_pos h] at e
      cases e
      subst h
      intro F' p' H' x a b c d
      have : p' = p := by
        obtain ⟨t, rfl⟩ := b
        have h1 := c.len
        have h2 := R0.len
        rw [List.length_append] at h1
        have : t = [] := List.eq_nil_of_length_eq_zero (by omega)
        rw [this, List.append_nil]
      subst this
      exact q F' H' x a c d
    · rw [if_neg h] at e; cases e
  | exc C fs mu' => cases e
  | bad => cases e
end
/-- what is known of a class with an own def nm at f; nf: with these at the right it is asked first -/
structure OwnC (K : PySem.W.Frag) (cA : CI) (C : Nat) (nm : Str) (f : Addr) : Prop where
  at_ : PySem.W.findIn K (.ref (cA C)) nm = some (some (.ref f))
  fn : PySem.W.isFn K (.ref f) = true
structure NF (K : PySem.W.Frag) (cA : CI) (C : Nat) (nf : Tg → Bool) : Prop where
  ok : ∀ t, nf t = true → PySem.W.notFirst K (cA C) (tagV cA t) = true
noncomputable def eqO (ic : Nat → Bool) (nf : Tg → Bool) (C : Nat) (m : List Val → Store → R Val) (mu : Store) (a b : Val) : Option Val := match objV mu a with
  | some (C', _) => if C' = C then (match tagOf ic mu b with
    | some t => if nf t = true then pureR mu (m [a, b] mu) else none
    | none => none) else none
  | none => none
def notBl : Val → Option Val
  | .bl b => some (.bl (!b))
  | _ => none
noncomputable def neO (ic : Nat → Bool) (nf : Tg → Bool) (C : Nat) (m : List Val → Store → R Val) (mu : Store) (a b : Val) : Option Val := (eqO ic nf C m mu a b).bind notBl
section
variable {X : Cx} {cA : CI} {ic : Nat → Bool} {kt : Tg → Tg → Option Bool} {nf : Tg → Bool} {C k : Nat} {f : Addr} {m : List Val → Store → R Val}
theorem eqO_at {F : Fz} {p : List Addr} {mu : Store} {H : Hp} {a b : Val} {x y : V} {z : Val} {Q : VK} (T : KI X.K cA kt ic) (R0 : Rel X.K cA F p mu H) (ra : VR X.K cA F p a x) (rb : VR X.K cA F p b y) (e : eqO ic nf C m mu a b = some z) :
    ∃ l dx gs t, x = .ref l ∧ H l = some (.ins (cA C) dx gs) ∧ TyX X.K H y (tagV cA t) ∧ nf t = true ∧ ∀ Q, GQ X.K cA F p mu z Q → SpM X.K cA m [x, y] H Q (fun _ _ _ => False) := by
  unfold eqO at e
  cases e1 : objV mu a with
  | none => rw [e1] at e; cases e
  | some w =>
    obtain ⟨C', fs⟩ := w
    rw [e1] at e
    simp only at e
    by_cases hc : C' = C
    · rw [if_pos hc] at e
      subst hc
      cases e2 : tagOf ic mu b with
      | none => rw [e2] at e; cases e
      | some t =>
        rw [e2] at e
        simp only at e
        by_cases hn : nf t = true
        · rw [if_pos hn] at e
          obtain ⟨l, dx, gs, rfl, g1, g2⟩ := objV_ok R0 ra e1
          exact ⟨l, dx, gs, t, rfl, g1, tagOf_ok T R0 rb e2, hn, fun Q q => ⟨F, p, mu, [a, b], R0, .cons ra (.cons rb .nil), pure_post R0 e q⟩⟩
        · rw [if_neg hn] at e; cases e
    · rw [if_neg hc] at e; cases e
theorem pass_no {E : XK} (hE : ∀ c d H, ¬ E c d H) : Passes (L2N.CX X.prog X.w) X E := fun pins σ H s e s' I hq => by
  obtain ⟨_, _, _, _, _, _, _, _, _, _, _, _, z⟩ := hq
  exact (hE _ _ _ z).elim
theorem op_eqO (T : KI X.K cA kt ic) (N : NF X.K cA C nf) (O : OwnC X.K cA C "__eq__" f) (F : FnM X.prog X.w X.K X.mg X.base cA k f m) (hr : Room k X.A) : OpR X (compareOp .Eq) (G2 X.K cA (eqO ic nf C m)) := by
  intro pins s σ H x y v u Q I rx ry ⟨F0, p, mu, a, b, z, R0, ra, rb, e, q⟩
  obtain ⟨l, dx, gs, t, rfl, g1, g2, g3, g4⟩ := eqO_at (Q := Q) T R0 ra rb e
  obtain rfl : v = Value.ref l := rx
  obtain ⟨od, J⟩ := inst_of I g1
  obtain ⟨fm, fr⟩ := I.fr
  show wpAny _ _ (richCompare .Eq (.ref l) u) _ _ _
  refine PySem.W.cmp_K (op := .Eq) (tb := tagV cA t) hr.units0 fr I.ok.mod.kin J (looks_ty I ry g2) (N.ok t g3) O.at_ O.fn ?_
  refine wpAny_mono (wpAny_call (run_fnR (us := [.ref l, u]) (vs := [.ref l, y]) F hr (pass_no fun _ _ _ z => z) I (.cons rfl (.cons ry .nil)) (g4 Q q))) (fun w s' z => ?_) fun _ _ x => x
  obtain ⟨z', H', I', rz, qz⟩ := z
  exact SlX.cmpback rz ⟨z', H', I', rz, qz⟩
/-- != where the class has none of its own -/
theorem op_neO (T : KI X.K cA kt ic) (N : NF X.K cA C nf) (O : OwnC X.K cA C "__eq__" f) (hne : PySem.W.findIn X.K (.ref (cA C)) "__ne__" = some (some (.builtin "object.__ne__"))) (hm : PySem.W.mroIn X.K (cA C) (.type "object") = some true)
    (F : FnM X.prog X.w X.K X.mg X.base cA k f m) (hr : Room (k + 1) X.A) : OpR X (compareOp .NotEq) (G2 X.K cA (neO ic nf C m)) := by
  intro pins s σ H x y v u Q I rx ry ⟨F0, p, mu, a, b, z, R0, ra, rb, e, q⟩
  obtain ⟨w0, e1, e2⟩ := Option.bind_eq_some_iff.mp e
  obtain ⟨l, dx, gs, t, rfl, g1, g2, g3, g4⟩ := eqO_at (Q := Q) T R0 ra rb e1
  cases w0 with
  | bl k0 =>
    cases e2
    obtain rfl : v = Value.ref l := rx
    obtain ⟨od, J⟩ := inst_of I g1
    have kin := I.kIn
    have hu : X.A.in1.units < cLine := by
      have := hr.un
      show X.A.units + 1 < cLine
      omega
    have LB := looks_ty (M := model X.prog X.w) I ry g2
    have hsp := g4 (fun r H' => r = .bl k0 ∧ Q (.bl (!k0)) H') fun F' H' v' sb R' r' => by
      cases r'
      exact ⟨rfl, q F' H' _ sb R' (.bl _)⟩
    have inner : wpAny (model X.prog X.w) X.A.in1 (call (.ref f) [.ref l, u]) (fun r s' => r = .bool k0 ∧ ∃ H', Inv X pins σ H' s' ∧ Q (.bl (!k0)) H') X.xe s :=
      wpAny_mono (wpAny_call (SlX.run_at (us := [.ref l, u]) (ws := [.ref l, y]) (A := X.A.in1) (F) hr.in1 I.env0.in1 (pass_no fun _ _ _ z => z) I (.cons rfl (.cons ry .nil)) hsp)) (fun w s' z => by
        obtain ⟨z', H', I', rz, ez, qz⟩ := z
        subst ez
        exact ⟨rz, H', I', qz⟩) fun _ _ x => x
    have one : wpAny (model X.prog X.w) X.A (tryCompare (.ref l) "__ne__" u) (fun r s' => ∃ w, r = some w ∧ EP X pins σ Q w s') X.xe s := by
      unfold tryCompare
      have callNe : wpAny (model X.prog X.w) X.A (call (.builtin "object.__ne__") [.ref l, u]) (fun w s' => w = .bool (!k0) ∧ ∃ H', Inv X pins σ H' s' ∧ Q (.bl (!k0)) H') X.xe s := by
        have he : entryFor table "object.__ne__" = some Builtin.«object.__ne__» := entryFor_of_tree (by kernel_rfl)
        refine wpAny_call (codeAny_call_builtin (by decide +kernel) he (PySem.W.check_slot (i := "object.__ne__") (owner := "object") (n := "__ne__") (by decide +kernel) (by decide +kernel) (J.type.andThen (PySem.W.looks_mroIn kin hm)) (by with_unfolding_all rfl) ?_))
        unfold Builtin.«object.__ne__»
        refine wpAny_bind (m := slotArgs "__ne__" 1 _) (wpAny_pure ?_)
        refine wpAny_bind (m := cRoomFor _ _) (wpAny_cRoomFor hu ?_)
        refine wpAny_bind (m := callSpecialIfBound? (.ref l) (Str.ofString "__eq__") _) (PySem.W.ifBound_K kin J O.at_ O.fn (wpAny_mono inner (fun r s' hr' => ?_) fun _ _ y => y))
        obtain ⟨rfl, hq⟩ := hr'
        exact wpAny_bind (wpAny_truthy_bool (wpAny_pure ⟨rfl, hq⟩))
      have bound : wpAny (model X.prog X.w) X.A (callSpecialIfBound? (.ref l) "__ne__" [u]) (fun r s' => ∃ w, r = some w ∧ w = .bool (!k0) ∧ ∃ H', Inv X pins σ H' s' ∧ Q (.bl (!k0)) H') X.xe s := by
        simp only [callSpecialIfBound?, bindSpecialIfBound?]
        refine wpAny_holding (wpAny_bind (wpAny_bind (wpAny_bind (J.type.here ((PySem.W.looks_findIn kin hne).here ?_)))))
        refine wpAny_bind (wpAny_askSetting (wpAny_ite ?_))
        have fin : wpAny (model X.prog X.w) X.A (call (.builtin "object.__ne__") ([.ref l] ++ [u]) >>= fun v => pure (some v)) (fun r s' => ∃ w, r = some w ∧ w = .bool (!k0) ∧ ∃ H', Inv X pins σ H' s' ∧ Q (.bl (!k0)) H') X.xe s := wpAny_bind (wpAny_mono callNe (fun v s' h' => wpAny_pure ⟨v, rfl, h'⟩) fun _ _ h' => h')
        have bs : PySem.W.Looks (model X.prog X.w) s.heap (bindSpecial (.builtin "object.__ne__") (.ref l)) (.builtin "object.__ne__", [.ref l]) := .of_pure (by kernel_rfl)
        split
        · exact wpAny_bind (bs.here (wpAny_pure (by exact fin)))
        · exact wpAny_tryCatch (wpAny_bind (bs.here (wpAny_pure (by exact fin))))
      refine wpAny_bind (wpAny_mono bound (fun r s' ⟨w, e1, e2, H', I', q'⟩ => ?_) fun _ _ x => x)
      subst e1
      subst e2
      exact wpAny_pure ⟨_, rfl, .bl _, H', I', rfl, q'⟩
    show wpAny _ _ (richCompare .NotEq (.ref l) u) _ _ _
    unfold richCompare
    simp only [oneThing_ref]
    refine wpAny_holding (wpAny_bind (wpAny_cRoomFor hr.units0 ?_))
    refine wpAny_bind (J.type.here (wpAny_bind (LB.here ?_)))
    split
    · rename_i q2
      have e : PySem.W.subIn X.K (tagV cA t) (.ref (cA C)) = some false := by
        rcases Bool.or_eq_true_iff.mp (N.ok t g3) with e | e
        · rw [beq_iff_eq.mp e] at q2; simp at q2
        · exact beq_iff_eq.mp e
      refine wpAny_bind ((PySem.W.looks_subIn kin e).here ?_)
      simp only [Bool.false_eq_true, if_false]
      refine wpAny_bind (wpAny_mono one (fun r s' z => ?_) fun _ _ e => e)
      obtain ⟨v, rfl, hq⟩ := z
      exact wpAny_pure hq
    · refine wpAny_bind (wpAny_pure ?_)
      simp only [Bool.false_eq_true, if_false]
      refine wpAny_bind (wpAny_mono one (fun r s' z => ?_) fun _ _ e => e)
      obtain ⟨v, rfl, hq⟩ := z
      exact wpAny_pure hq
  | _ => cases e2
/-! ### str(x), repr(x), bool(x) of own objects -/
noncomputable def ownV (C : Nat) (m : List Val → Store → R Val) (mu : Store) : List Val → Option Val
  | [a] => (match objV mu a with
    | some (C', _) => if C' = C then (pureR mu (m [a] mu)).bind fun z => (match z with
      | .str s => some (.str s)
      | _ => none) else none
    | none => none)
  | _ => none
theorem ownV_at {F0 : Fz} {p : List Addr} {mu : Store} {H : Hp} {as : List Val} {xs : List V} {z : Val} (R0 : Rel X.K cA F0 p mu H) (ra : VRs X.K cA F0 p as xs) (e : ownV C m mu as = some z) :
    ∃ l dx gs s, xs = [.ref l] ∧ H l = some (.ins (cA C) dx gs) ∧ z = .str s ∧ ∀ Q, GQ X.K cA F0 p mu z Q → SpM X.K cA m xs H Q (fun _ _ _ => False) := by
  unfold ownV at e
  split at e
  · rename_i a
    obtain ⟨x, rfl, rx⟩ := vrs1 ra
    cases e1 : objV mu a with
    | none => rw [e1] at e; cases e
    | some w =>
      obtain ⟨C', fs⟩ := w
      rw [e1] at e
      simp only at e
      by_cases hc : C' = C
      · rw [if_pos hc] at e
        subst hc
        obtain ⟨z0, e2, e3⟩ := Option.bind_eq_some_iff.mp e
        obtain ⟨l, dx, gs, rfl, g1, g2⟩ := objV_ok R0 rx e1
        cases z0 with
        | str s =>
          cases e3
          exact ⟨l, dx, gs, s, rfl, g1, rfl, fun Q q => ⟨F0, p, mu, [a], R0, .cons rx .nil, pure_post R0 e2 q⟩⟩
        | _ => cases e3
      · rw [if_neg hc] at e; cases e
  · cases e
theorem b_strO (O : OwnC X.K cA C "__str__" f) (F : FnM X.prog X.w X.K X.mg X.base cA k f m) (hr : Room (k + 2) X.A) : CallR X (.type "str") (GA X.K cA (ownV C m)) := by
  intro pins s σ H xs us Q I r ⟨F0, p, mu, as, z, R0, ra, e, q⟩
  obtain ⟨l, dx, gs, t, rfl, g1, rfl, g2⟩ := ownV_at R0 ra e
  obtain ⟨u, rfl, ru⟩ := vals1 r
  obtain rfl : u = Value.ref l := ru
  obtain ⟨od, J⟩ := inst_of I g1
  have hr1 : Room (k + 1) X.A.in1 := Room.in1 hr
  have hu : X.A.in1.in1.units < cLine := by
    have := hr.un
    show X.A.units + 1 + 1 < cLine
    omega
  have hsp := g2 (fun w H' => w = .str (S t) ∧ Q w H') fun F' H' v' sb R' r' => by
    cases r'
    exact ⟨rfl, q F' H' _ sb R' (.str _)⟩
  refine PySem.W.kso_call hu I.kIn J O.at_ O.fn (wpAny_mono (wpAny_call (SlX.run_at (us := [.ref l]) (ws := [.ref l]) (A := X.A.in1.in1) F hr1.in1 I.env0.in1.in1 (pass_no fun _ _ _ z => z) I (.cons rfl .nil) hsp)) (fun w s' z => ?_) fun _ _ x => x)
  obtain ⟨z', H', I', rz, ez, qz⟩ := z
  subst ez
  obtain ⟨tk, rfl⟩ := rz
  exact ⟨.str (S t), H', I', ⟨tk, rfl⟩, qz⟩
theorem b_reprO (O : OwnC X.K cA C "__repr__" f) (F : FnM X.prog X.w X.K X.mg X.base cA k f m) (hr : Room (k + 1) X.A) : CallR X (.builtin "repr") (GA X.K cA (ownV C m)) := by
  intro pins s σ H xs us Q I r ⟨F0, p, mu, as, z, R0, ra, e, q⟩
  obtain ⟨l, dx, gs, t, rfl, g1, rfl, g2⟩ := ownV_at R0 ra e
  obtain ⟨u, rfl, ru⟩ := vals1 r
  obtain rfl : u = Value.ref l := ru
  obtain ⟨od, J⟩ := inst_of I g1
  obtain ⟨fm, fr⟩ := I.fr
  have hu : X.A.in1.units < cLine := by
    have := hr.un
    show X.A.units + 1 < cLine
    omega
  have hsp := g2 (fun w H' => w = .str (S t) ∧ Q w H') fun F' H' v' sb R' r' => by
    cases r'
    exact ⟨rfl, q F' H' _ sb R' (.str _)⟩
  refine PySem.W.repr_K hu fr I.ok.mod.kin J O.at_ O.fn (wpAny_mono (wpAny_call (SlX.run_at (us := [.ref l]) (ws := [.ref l]) (A := X.A.in1) F hr.in1 I.env0.in1 (pass_no fun _ _ _ z => z) I (.cons rfl .nil) hsp)) (fun w s' z => ?_) fun _ _ x => x)
  obtain ⟨z', H', I', rz, ez, qz⟩ := z
  subst ez
  obtain ⟨tk, rfl⟩ := rz
  exact ⟨.str (S t), H', I', ⟨tk, rfl⟩, qz⟩
/-- bool(x), a class with neither __bool__ nor __len__ -/
def boolO (C : Nat) (mu : Store) : List Val → Option Val
  | [a] => (match objV mu a with
    | some (C', _) => if C' = C then some (.bl true) else none
    | none => none)
  | _ => none
theorem b_boolO (h1 : PySem.W.findIn X.K (.ref (cA C)) "__bool__" = some none) (h2 : PySem.W.findIn X.K (.ref (cA C)) "__len__" = some none) : CallR X (.type "bool") (GA X.K cA (boolO C)) := by
  intro pins s σ H xs us Q I r ⟨F0, p, mu, as, z, R0, ra, e, q⟩
  unfold boolO at e
  split at e
  · rename_i a
    obtain ⟨x, rfl, rx⟩ := vrs1 ra
    cases e1 : objV mu a with
    | none => rw [e1] at e; cases e
    | some w =>
      obtain ⟨C', fs⟩ := w
      rw [e1] at e
      simp only at e
      by_cases hc : C' = C
      · rw [if_pos hc] at e
        cases e
        subst hc
        obtain ⟨l, dx, gs, rfl, g1, g2⟩ := objV_ok R0 rx e1
        obtain ⟨u, rfl, ru⟩ := vals1 r
        obtain rfl : u = Value.ref l := ru
        obtain ⟨od, J⟩ := inst_of I g1
        obtain ⟨fm, fr⟩ := I.fr
        have tr : ∀ {A : Around} {E : Value → Shared → Prop} {Q' : Bool → Shared → Prop}, Q' true s → wpAny (model X.prog X.w) A (truthy (.ref l)) Q' E s := fun {A E Q'} q' => PySem.W.truthy_K0 fr I.ok.mod.kin J h1 h2 q'
        have M1 : Meets (Builtin.«bool.__new__» ⟨[.type "bool", .ref l], []⟩) (fun _ R s' => (s'.heap = s.heap ∧ X.K.In s'.heap ∧ ∃ L m, Fr X.base L s'.heap m ∧ PySem.W.InstAt s'.heap l (PySem.W.instObj (cA C') dx) (cA C') (some od)) ∧ X.K.In X.base ∧ R (.ok (.ret (.bool true))) s') :=
          Meets.of_wp fun prog w A R s0 hs => by
            obtain ⟨⟨hh, hk, L, m, fr', J'⟩, kin0, hs⟩ := hs
            obtain ⟨hp, g, d, tk, os⟩ := s0
            have f1 := PySem.F.conv_sub_bool
            have tr' : ∀ {A : Around} {E : Value → Shared → Prop} {Q' : Bool → Shared → Prop}, Q' true ⟨hp, g, d, tk, os⟩ → wpAny (model prog w) A (truthy (.ref l)) Q' E ⟨hp, g, d, tk, os⟩ := fun q' => PySem.W.truthy_K0 fr' kin0 J' h1 h2 q'
            repeat (any_goals (first | assumption | (with_reducible refine tr' ?_) | wp_step))
            all_goals first | exact ⟨_, rfl, hs⟩ | exact hs | skip
        exact call_bool_1 M1 ⟨⟨rfl, I.kIn, _, fm, fr, J⟩, I.ok.mod.kin, rfl, .bl true, H, I, rfl, q.now R0 (.bl true)⟩
      · rw [if_neg hc] at e; cases e
  · cases e
end
/-! ### defs that ask for guards (repr of lists) -/
def FnG (P : Program) (w : World) (K : PySem.W.Frag) (mg : Str → Option Value) (base : Heap) (cA : CI) (k : Nat) (f : Addr) (m : List Val → Store → R Val) : Prop :=
  ∀ (A : Around) (outer : List Env) (s : Shared) (H : Hp) (us : List Value) (vs : List V) (Q : VK) (E : XK), Room k A → A.guards = some [] → Env0 P w K mg base A outer s H → Vals vs us → SpM K cA m vs H Q E →
    codeAny (model P w) A (.call (.ref f) ⟨us, []⟩) (L2.CR (L2N.CX P w) outer P w H s Q E) s
theorem FnM.g {P : Program} {w : World} {K : PySem.W.Frag} {mg : Str → Option Value} {base : Heap} {cA : CI} {k : Nat} {f : Addr} {m : List Val → Store → R Val} (h : FnM P w K mg base cA k f m) : FnG P w K mg base cA k f m := fun A outer s H us vs Q E hr _ e0 r hs => h A outer s H us vs Q E hr e0 r hs
theorem FnG.fin {P : Program} {w : World} {K : PySem.W.Frag} {mg : Str → Option Value} {base : Heap} {cA : CI} {k : Nat} {f : Addr} {m : List Val → Store → R Val} (h : FnG P w K mg base cA k f m) : FnG P w K mg base cA k f (finM m) := fun A outer s H us vs Q E hr hg e0 r ⟨F, p, mu, as, h1, h2, h3⟩ => h A outer s H us vs Q E hr hg e0 r ⟨F, p, mu, as, h1, h2, post_fin h1 h3⟩
section
variable {X : Cx} {cA : CI} {E : XK} {x : Str} {p pos : Pos} {e : Expr} {es : List Expr} {f : Addr} {k : Nat} {m : List Val → Store → R Val} {ms : M (List Val)}
theorem c_callG (F : FnG X.prog X.w X.K X.mg X.base cA k f m) (hgd : X.A.guards = some []) (hm : X.mg x = some (.ref f)) (hk : PySem.W.keepIn X.K (.ref f) = true) (hr : Room k X.A) (tk : L2N.Takes X (Wf E)) (ha : PAM X cA (Wf E) (e :: es) ms) (hg : Gl X x := by rfl)
    (hdb : (x == ("__debug__" : Str)) = false := by decide) (he : starEach (e :: es) X.env = (false, eval e X.env) :: starEach es X.env := by rfl) (hpl : (backTo pos (starEach es X.env)).any (·.1) = false := by rfl) : PEM X cA (Wf E) (.Call (.Name x p) (e :: es) [] pos) (callM m ms) := by
  refine ⟨fun pins s σ H Q I ⟨F1, p1, r, mu, h1, h2, h3⟩ => wpAny_Call_Name_kw (ld_glob I hg hm ?_ hdb)⟩
  have hd : DA X.K cA (Wf E) ms σ H fun vs H1 => SpM X.K cA m vs H1 Q E := bindAt h1 h2 h3 fun F2 p2 mu2 as vs H1 _ _ c1 _ e1 f1 => sp_of c1 e1 f1
  refine PySem.W.callWith_K (h₀ := X.base) I.ok.mod.kin hk (thn (ha.run pos pins s σ H _ I hd) fun us s1 ⟨vs, H1, I1, r1, q⟩ => ⟨I1.kIn, ?_⟩) he hpl
  refine wpAny_call (codeAny_mono (F X.A X.stack s1 H1 us vs Q E hr hgd I1.env0 r1 q) fun res s' hq => ?_)
  cases res with
  | error er => exact pass_of tk pins σ H1 s1 er s' I1 hq
  | ok fl =>
    cases fl with
    | ret u => exact I1.after hq
    | next => exact False.elim hq
    | brk => exact False.elim hq
    | cont => exact False.elim hq
end
theorem def_okG {P : Program} {w : World} {K : PySem.W.Frag} {mg : Str → Option Value} {base : Heap} {cA : CI} {x qual : Str} {params : Arguments} {body : List Stmt} {scope : Scope} {kws : List (Str × V)} {f : Addr} {fd : FuncData} {N ps : List Str} {k np nn : Nat} {mb : MS}
    (F : FunD K x qual params body scope [] kws f fd) (S : FnScope N ps scope) (hb : Binds K fd ps []) (hp : ps.length = np) (hn : N.length = nn)
    (h : ∀ (cdv : Value) (hcdv : fd.code = cdv) (A : Around) (outer : List Env) (s : Shared) (H : Hp) (E : XK), Room k (A.deeper (envOfC qual scope s.heap.objs.size f cdv)) → A.guards = some [] → L2N.Takes (cxOf (L2N.CX P w) P w K mg base N qual scope f cdv A outer s H E) (Wf E) →
      PSSM (cxOf (L2N.CX P w) P w K mg base N qual scope f cdv A outer s H E) cA (Wf E) body mb) : FnG P w K mg base cA (k + 1) f (defK np nn mb) := by
  subst hp
  subst hn
  obtain ⟨oc, od, dV, kV, doc, pm, an, cdv, ct, osl, rfl, lk, hcd, hD, hK⟩ := F.ex
  intro A outer s H us vs Q E hr hgd e0 rv ⟨F0, p, mu, as, h1, h2, h3⟩
  unfold defK at h3
  by_cases hl : as.length = ps.length
  · rw [if_pos hl] at h3
    have lv : vs.length = ps.length := by rw [← h2.length]; exact hl
    have lu : us.length = ps.length := by rw [← rv.length]; exact lv
    have kin : K.In s.heap := e0.mod.kin.keeps fun b o e => (e0.bs b o e).1
    have lim : s.heap.NoLimit := e0.mod.nolimit.keeps fun b o e => (e0.bs b o e).1
    have kinds : ∀ y ∈ ps.zip us, scope.names.lookup y.1 = some .local ∨ (scope.names.lookup y.1 = some .cell ∧ ((cellsFrom (s.heap.objs.size + 1) scope.names []).lookup y.1).isSome = true) := fun y hy => by
      obtain ⟨n, v⟩ := y
      rcases S.par n (List.of_mem_zip hy).1 with q | q
      · exact .inl q
      · exact .inr ⟨q, PySem.W.cellsFrom_some _ _ _ (.inl q)⟩
    have bt := hb s us kin (by rw [List.append_nil]; exact lu)
    rw [List.append_nil] at bt
    refine codeAny_call_function hr.depth (kin _ _ lk) rfl S.co S.gen rfl (PySem.W.codeRec_of kin hcd) (bt _ _ _ _ ?_)
    refine wpAny_newFunctionEnv_cells S.kind kinds fun env he s1 ic => ?_
    subst he
    refine ⟨lim.keeps ic.toInCall.keep, codeAny_func ?_⟩
    have ht := h cdv rfl A outer s H E (hr.deeper _) hgd (L2N.takes_of rfl rfl rfl rfl)
    have I : Inv (cxOf (L2N.CX P w) P w K mg base N qual scope f cdv A outer s H E) [] (L2.start N vs) H s1 := inv_start S hr.hd e0 lv rv ic
    have hq : DS K cA (Wf E) mb { nx := fun _ H' => Q .non H', rt := Q } (L2.start N vs) H := by
      refine ⟨F0, p, _, mu, h1, envR_start h2, ?_⟩
      rw [hl]
      cases e : mb (as.map some ++ List.replicate (N.length - ps.length) none) mu with
      | nx r mu' => rw [e] at h3; exact fun F' p' H' s' a b c d => h3 F' p' H' _ a b c .non
      | rt v mu' => rw [e] at h3; exact h3
      | exc C fs r mu' => rw [e] at h3; exact fun F' p' H' s' cls d a b c _ x => h3 F' p' H' cls d a b c x
      | bk r mu' => rw [e] at h3; exact h3.elim
      | ct r mu' => rw [e] at h3; exact h3.elim
      | bad => rw [e] at h3; exact h3.elim
    refine wpAny_mono (ht.run [] s1 (L2.start N vs) H _ I hq) (fun fl s' hs => ?_) fun e s' hs => hs
    cases fl with
    | ret u => obtain ⟨v, σ', H', J, rv, q⟩ := hs; exact ⟨v, H', J.os, J.bare, J.base, J.hok, rv, q⟩
    | next => obtain ⟨σ', H', J, q⟩ := hs; exact ⟨.non, H', J.os, J.bare, J.base, J.hok, rfl, q⟩
    | brk => obtain ⟨_, _, _, q⟩ := hs; exact False.elim q
    | cont => obtain ⟨_, _, _, q⟩ := hs; exact False.elim q
  · rw [if_neg hl] at h3; exact h3.elim
end CC

set_option Elab.async false
set_option linter.all false
set_option maxRecDepth 100000
set_option maxHeartbeats 2000000
/-! CC15: a[::-1]. -/
namespace CC
open PySem PySem.Spec PyProof.Rows L2
theorem fm_congr {α β : Type} {f g : α → Option β} : ∀ {l : List α}, (∀ x ∈ l, f x = g x) → l.filterMap f = l.filterMap g
  | [], _ => rfl
  | x :: l, h => by
    rw [List.filterMap_cons, List.filterMap_cons, h x List.mem_cons_self, fm_congr fun y hy => h y (List.mem_cons_of_mem _ hy)]
theorem back_pick (items : List Value) : ((List.range items.length).filterMap fun (k : Nat) => items.toArray[(((items.length : Int) - 1) + (k : Int) * (-1)).toNat]?).toArray = items.reverse.toArray := by
  have h : ((List.range items.length).filterMap fun (k : Nat) => items.toArray[(((items.length : Int) - 1) + (k : Int) * (-1)).toNat]?) = items.reverse := by
    have e1 : ((List.range items.length).filterMap fun (k : Nat) => items.toArray[(((items.length : Int) - 1) + (k : Int) * (-1)).toNat]?) = ((List.range items.length).map fun k => items.length - 1 - k).filterMap (fun i => items.toArray[i]?) := by
      rw [List.filterMap_map]
      refine fm_congr fun k hk => ?_
      have := List.mem_range.mp hk
      have e : (((items.length : Int) - 1) + (k : Int) * (-1)).toNat = items.length - 1 - k := by omega
      show items.toArray[_]? = items.toArray[items.length - 1 - k]?
      rw [e]
    have e2 := PySem.W.krv_range items.length
    have e3 := PySem.W.krv_all items.toArray
    rw [e1, e2, List.filterMap_reverse]
    congr 1
  rw [h]
section
variable {prog : Program} {w : World} {A : Around} {E : Value → Shared → Prop} {s : Shared}
theorem slice_back {sl : Addr} {vl vu vs : Value} {n : Nat} {Q : Int × Int × Nat → Shared → Prop} (hs : s.heap.IsSliceOf sl vl vu vs) (pl : IsPart vl none) (pu : IsPart vu none) (ps : IsPart vs (some (-1)))
    (h : Q ((n : Int) - 1, -1, n) s) : wpAny (model prog w) A (Builtin.Slice.sliceApplied (.ref sl) (pure (n : Int))) Q E s := by
  obtain ⟨os, hos, hcs, hds⟩ := id hs
  unfold Builtin.Slice.sliceApplied Builtin.Slice.sliceFields
  refine wpAny_bind (wpAny_bind (wpAny_field hos hds (x := vl) rfl (wpAny_bind (wpAny_field hos hds (x := vu) rfl (wpAny_bind (wpAny_field hos hds (x := vs) rfl (wpAny_pure ?_)))))))
  refine wpAny_bind (HT.slicePart_ ps ?_)
  show wpAny _ _ (if ((-1 : Int) == 0) = true then _ else _) _ _ s
  rw [if_neg (by decide)]
  refine wpAny_bind (HT.slicePart_ pl (wpAny_bind (HT.slicePart_ pu (wpAny_bind (wpAny_pure (wpAny_pure ?_))))))
  have e : Builtin.Slice.slicePlaces ((n : Int) - 1) (-1) (-1) = n := by
    unfold Builtin.Slice.slicePlaces
    have h1 : ¬ ((-1 : Int) > 0) := by decide
    rw [if_neg h1]
    by_cases h2 : (n : Int) - 1 > -1
    · rw [if_pos h2]
      have : ((n : Int) - 1 - -1 - 1) / (- -1) = (n : Int) - 1 := by
        rw [show (- -1 : Int) = 1 by decide, Int.ediv_one]
        omega
      rw [this]
      omega
    · rw [if_neg h2]
      omega
  show Q ((n : Int) - 1, -1, Builtin.Slice.slicePlaces ((n : Int) - 1) (-1) (-1)) s
  rw [e]
  exact h
theorem tuple_back {t sl : Addr} {items : List Value} {vl vu vs : Value} {Q : Value → Shared → Prop} (ht : IsTup s.heap t items.toArray) (hs : s.heap.IsSliceOf sl vl vu vs) (pl : IsPart vl none) (pu : IsPart vu none) (ps : IsPart vs (some (-1)))
    (h : Q (.ref s.heap.objs.size) { s with heap := s.heap.push { cls := .type "tuple", data := .seq items.reverse.toArray } }) (hz : items.length ≤ sizeLine) : wpAny (model prog w) A (getItem (.ref t) (.ref sl)) Q E s := by
  have fits : sizeOk (.seq items.reverse.toArray) := by
    show items.reverse.toArray.size ≤ sizeLine
    simpa using hz
  obtain ⟨os, hos, hcs, hds⟩ := id hs
  have hT : s.TypeIs (.ref sl) "slice" := ⟨os, hos, hcs⟩
  unfold getItem
  try with_reducible refine wpAny_holding ?_
  first | refine wpAny_bind (wpAny_pure ?_) | skip
  refine wpAny_bind (wpAny_sequenceKey ht.typeIs (by decide) ?_)
  refine wpAny_bind (wpAny_callSpecial?_slot (name := Str.ofString "__getitem__") ht.typeIs PyProof.Rows.slot_tuple_getitem
    (wpAny_call_entry PyProof.Rows.slot_tuple_getitem ht.typeIs entry_tuple_getitem ?_ (args_tuple_getitem _ _)))
  show wpAny _ _ (Builtin.Tuple.tupleItemsOf (.ref t) >>= _) _ _ s
  refine wpAny_bind (tupleItemsOf_ ht (wpAny_bind (wpAny_typeOf hT ?_)))
  rw [if_pos (by decide)]
  refine wpAny_bind (slice_back (n := items.toArray.size) hs pl pu ps ?_)
  show wpAny _ _ (if (((items.toArray.size : Int) - 1) == 0 && (-1 : Int) == 1 && items.toArray.size == items.toArray.size) = true then _ else _) _ _ s
  rw [if_neg (by simp)]
  rw [List.size_toArray, back_pick]
  first
    | exact wpAny_bind (m := Builtin.Tuple.tupleExact _) (wpAny_newObj_type (wpAny_pure ⟨_, rfl, wpAny_pure h⟩) fits)
    | exact wpAny_bind (m := Builtin.Tuple.tupleExact _) (wpAny_newObj_type (wpAny_bind (wpAny_pure (wpAny_pure ⟨_, rfl, wpAny_pure h⟩))) fits)
    | exact wpAny_bind (wpAny_bind (m := Builtin.Tuple.tupleExact _) (wpAny_newObj_type (wpAny_pure (wpAny_pure ⟨_, rfl, wpAny_pure h⟩)) fits))
    | exact wpAny_bind (wpAny_bind (m := Builtin.Tuple.tupleExact _) (wpAny_newObj_type (wpAny_pure ⟨_, rfl, wpAny_pure h⟩) fits))
end
def backV : Store → Val → Option Val := fun _ a => match a with
  | .tup xs => some (.tup xs.reverse)
  | _ => none
def backLV : Store → Val → Option Val := fun mu a => (seqL mu a).map fun xs => .lst xs.reverse
section
variable {X : Cx} {cA : CI} {W : WX} {e : Expr} {k : Nat} {p1 p2 p3 pos : Pos} {ma : M Val}
theorem c_backL (ha : PEM X cA W e ma) : PEM X cA W (.Subscript e (.Slice none none (some (.UnaryOp .USub (.Constant (.int 1) k p1) p2)) p3) pos) (u1 backLV ma) :=
  pe_weak (pe_revL ha) fun s H Q ⟨F, p, r, mu, h1, h2, h3⟩ => bindAt h1 h2 h3 fun F1 p1 mu1 x v H1 a1 b1 c1 d1 e1 f1 => by
    obtain ⟨z, e2, q⟩ := post_opt f1
    obtain ⟨xs, e3, rfl⟩ := Option.map_eq_some_iff.mp e2
    obtain ⟨l, vs, rfl, g1, g2⟩ := seqL_ok c1 e1 e3
    exact ⟨l, vs, rfl, SqL.of g1, fun a ha => q.lst c1 g2.reverse ha⟩
theorem c_back (he : PEM X cA W e ma) : PEM X cA W (.Subscript e (.Slice none none (some (.UnaryOp .USub (.Constant (.int 1) k p1) p2)) p3) pos) (u1 backV ma) := by
  refine ⟨fun pins s σ H Q I ⟨F, p, r, mu, h1, h2, h3⟩ => ?_⟩
  have hd : DE X.K cA W ma σ H fun v H1 => ∃ F1 p1 mu1 xs vs a, v = .ref a ∧ Rel X.K cA F1 p1 mu1 H1 ∧ SqT X.K H1 a vs ∧ VRs X.K cA F1 p1 xs vs ∧ GQ X.K cA F1 p1 mu1 (.tup xs.reverse) Q :=
    bindAt h1 h2 h3 fun F1 p1 mu1 x v H1 a1 b1 c1 d1 e1 f1 => by
      obtain ⟨z, e2, q⟩ := post_opt f1
      cases e1 with
      | @tup a xs vs g1 g2 =>
        cases e2
        exact ⟨F1, p1, mu1, xs, vs, a, rfl, c1, sub_t c1.sub g1, g2, q⟩
      | _ => cases e2
  refine Subscript_ (thn (he.run pins s σ H _ I hd) fun v s1 ⟨x, H1, I1, r1, F1, q1, mu1, xs, vs, a, ex, R1, hx, hv, q⟩ => ?_)
  subst ex
  obtain rfl : v = Value.ref a := r1
  have step : PO X (some (.UnaryOp .USub (.Constant (.int 1) k p1) p2)) (tPart (tUn (rU fun i => .int (-i)) (tC (.int 1)))) := po_some (pe_un un_neg pe_int)
  refine wpAny_Slice (thn (po_none.run pins s1 σ H1 (fun o H2 => o = none ∧ H2 = H1) I1 ⟨rfl, rfl⟩) fun vl s2 ⟨l, H2, I2, pl, el, e2⟩ => ?_)
  subst el e2
  refine thn (po_none.run pins s2 σ H2 (fun o H3 => o = none ∧ H3 = H2) I2 ⟨rfl, rfl⟩) fun vu s3 ⟨u, H3, I3, pu, eu, e3⟩ => ?_
  subst eu e3
  refine thn (step.run pins s3 σ H3 (fun o H4 => o = some (-1) ∧ H4 = H3) I3 ⟨1, rfl, -1, rfl, rfl, rfl⟩) fun vs' s4 ⟨o, H4, I4, ps, eo, e4⟩ => ?_
  subst eo e4
  have I5 : Inv X pins σ H4 { s4 with heap := s4.heap.push { cls := .type "slice", data := .fields #[vl, vu, vs'] } } := I4.kept (t' := s4.toks) fun b ob q => Heap.get?_push_of_some _ q
  obtain ⟨its, rv, ht, hz⟩ := I5.tuple hx
  have hlen := rv.length
  show wpAny (model X.prog X.w) X.A (subscriptTail e (.Slice none none (some (.UnaryOp .USub (.Constant (.int 1) k p1) p2)) p3) (.ref a) (.ref s4.heap.objs.size)) (EP X pins σ Q) X.xe _
  refine tail_any (ops := [.ref a, .ref s4.heap.objs.size]) ht.typeIs PyProof.Rows.slot_tuple_getitem.lookup ?_ (by with_unfolding_all rfl)
  refine tuple_back ht (Heap.IsSliceOf.new _ vl vu vs') pl pu ps ?_ (by rw [← hlen]; exact hz)
  have hn : H4 (s4.heap.push { cls := .type "slice", data := .fields #[vl, vu, vs'] }).objs.size = none := I5.hok.fresh (Nat.le_refl _)
  refine ⟨.ref _, _, I5.laid (t' := s4.toks) (o := .tup vs.reverse) (fun b ob q => Heap.get?_push_of_some _ q) (Nat.le_refl _) ?_, rfl, q.tup R1 hv.reverse hn⟩
  exact ⟨by rw [List.length_reverse]; exact hz, its.reverse, rv.reverse, ⟨_, Heap.get?_push_size _ rfl, rfl, _, rfl⟩⟩
end
end CC

set_option Elab.async false
set_option linter.all false
set_option maxRecDepth 100000
set_option maxHeartbeats 2000000
/-! CC16: facts of the top, the end. -/
namespace CC
open PySem PySem.Spec PyProof.Rows L2
abbrev strL (x : Str) : Val := .str x.cps.toList
def EFx : XK := EF
theorem hu200 {k : Nat} {A : Around} (hr : Room k A) : A.units + 200 < cLine := Nat.lt_of_le_of_lt (by omega) hr.un
theorem hu64 {k : Nat} {A : Around} (hr : Room k A) : A.units + 64 < cLine := Nat.lt_of_le_of_lt (by omega) hr.un
/-! ### addresses -/
def propP (K : PySem.W.Frag) (C f : Str) : Addr := match PySem.W.findIn K (.ref (He.ga K C)) f with
  | some (some (.ref p)) => p
  | _ => 0
def recA (K : PySem.W.Frag) (p : Addr) (n : String) : Addr := match PySem.W.recIn K p n with
  | some (.ref g :: _) => g
  | _ => 0
def propA (K : PySem.W.Frag) (C f : Str) : Addr := recA K (propP K C f) "property"
def cmA (K : PySem.W.Frag) (C f : Str) : Addr := recA K (propP K C f) "classmethod"
theorem recA_ok {K : PySem.W.Frag} {p : Addr} {n : String} (h : (match PySem.W.recIn K p n with
  | some (.ref _ :: _) => true
  | _ => false) = true) : ∃ rest, PySem.W.recIn K p n = some (.ref (recA K p n) :: rest) := by
  unfold recA
  cases e : PySem.W.recIn K p n with
  | none => rw [e] at h; cases h
  | some l =>
    rw [e] at h
    cases l with
    | nil => cases h
    | cons a l =>
      cases a with
      | ref g => exact ⟨l, rfl⟩
      | _ => cases h
/-! ### a def, by its address -/
structure DD where
  ad : PySem.W.Frag → Addr
  name : Str
  qual : Str
  params : Arguments
  body : List Stmt
  scope : Scope
def fnC (K : PySem.W.Frag) (a : Addr) : He.FnW := match K.lookup a with
  | some ⟨_, _, .func fd, _⟩ => some (fd.name, fd.qualname, fd.params, fd.body, fd.scope, fd.globals, fd.closure, fd.builtins)
  | _ => none
def DD.val (d : DD) : He.FnW := some (d.name, d.qual, d.params, .stmts d.body, d.scope, mainGlobals, [], builtinsNs)
def DD.ok (K : PySem.W.Frag) (d : DD) : Bool := PySem.W.keepIn K (.ref (d.ad K)) && (match K.lookup (d.ad K) with
  | some ⟨_, _, .func fd, _⟩ => PySem.W.codeIn K fd.code d.qual && (He.dflB K fd.defaults [] && He.kwdB K fd.kwdefaults [])
  | _ => false)
theorem DD.funD {K : PySem.W.Frag} {d : DD} (e : fnC K (d.ad K) = d.val) (c : d.ok K = true) : ∃ fd, FunD K d.name d.qual d.params d.body d.scope [] [] (d.ad K) fd := by
  obtain ⟨kp, c2⟩ := He.ba c
  unfold fnC at e
  cases q : K.lookup (d.ad K) with
  | none => rw [q] at c2; cases c2
  | some o =>
    obtain ⟨oc, od, dt, osl⟩ := o
    rw [q] at c2 e
    cases dt with
    | func fd =>
      obtain ⟨n1, n2, n3, n4, n5, n6, n7, n8, n9, n10, n11, n12, n13, n14, n15⟩ := fd
      have e2 : (some (n1, n2, n3, n4, n5, n6, n7, n15) : He.FnW) = some (d.name, d.qual, d.params, .stmts d.body, d.scope, mainGlobals, [], builtinsNs) := e
      simp only [Option.some.injEq, Prod.mk.injEq] at e2
      obtain ⟨h1, h2, h3, h4, h5, h6, h7, h8⟩ := e2
      subst h1 h2 h3 h4 h5 h6 h7 h8
      obtain ⟨k1, k2⟩ := He.ba (show (PySem.W.codeIn K n13 d.qual && (He.dflB K n8 [] && He.kwdB K n9 [])) = true from c2)
      obtain ⟨k3, k4⟩ := He.ba k2
      exact ⟨_, ⟨oc, od, n8, n9, n10, n11, n12, n13, n14, osl, rfl, q, k1, He.dflB_ok k3, He.kwdB_ok k4⟩, kp⟩
    | _ => cases c2
/-! ### the hook: facts, defs -/
abbrev AlC : Type := Bool × List He.FnW
def obsC (ex : List (PySem.W.Frag → Bool)) (fn : List DD) (K : PySem.W.Frag) : AlC := ((ex.all fun f => f K) && fn.all fun d => d.ok K, fn.map fun d => fnC K (d.ad K))
def valC (fn : List DD) : AlC := (true, fn.map DD.val)
def SaysC (ex : List (PySem.W.Frag → Bool)) (fn : List DD) (K : PySem.W.Frag) : Prop := obsC ex fn K = valC fn
def obsCG (n : Nat) (ex : List (PySem.W.Frag → Bool)) (fn : List DD) (g : Addr → Option Obj) : AlC := obsC ex fn (He.frG g (He.asD g n ++ [cStatics]))
def hookC (n : Nat) (ex : List (PySem.W.Frag → Bool)) (fn : List DD) : PySem.W.Hook where
  α := AlC
  obs := fun s => obsCG n ex fn s.heap.get?
  val := fun _ => valC fn
  says := fun _ h => ∃ K : PySem.W.Frag, K.In h ∧ SaysC ex fn K
  of := fun _ _ e => ⟨_, He.frG_in, e⟩
  keeps := fun _ _ _ ⟨K, hK, c⟩ k => ⟨K, PySem.W.Frag.In.keeps hK k, c⟩
theorem obsCG_eq {n : Nat} {ex : List (PySem.W.Frag → Bool)} {fn : List DD} {g : Addr → Option Obj} {s : Shared} (h : ∀ a, g a = s.heap.get? a) : obsCG n ex fn g = (hookC n ex fn).obs s := by
  have e : g = s.heap.get? := funext h
  rw [e]
  rfl
section
variable {ex : List (PySem.W.Frag → Bool)} {fn : List DD} {K : PySem.W.Frag}
theorem SaysC.fact (c : SaysC ex fn K) (i : Nat) {f : PySem.W.Frag → Bool} (h : ex[i]? = some f := by rfl) : f K = true := by
  have c1 := (He.ba (show ((ex.all fun f => f K) && fn.all fun d => d.ok K) = true from congrArg (fun z : AlC => z.1) c)).1
  exact List.all_eq_true.mp c1 f (List.mem_of_getElem? h)
theorem SaysC.def_ (c : SaysC ex fn K) (i : Nat) {d : DD} (h : fn[i]? = some d := by rfl) : ∃ fd, FunD K d.name d.qual d.params d.body d.scope [] [] (d.ad K) fd := by
  have c2 := (He.ba (show ((ex.all fun f => f K) && fn.all fun d => d.ok K) = true from congrArg (fun z : AlC => z.1) c)).2
  have e : fn.map (fun d => fnC K (d.ad K)) = fn.map DD.val := congrArg (fun z : AlC => z.2) c
  have e2 : (fn.map fun d => fnC K (d.ad K))[i]? = (fn.map DD.val)[i]? := by rw [e]
  rw [List.getElem?_map, List.getElem?_map, h] at e2
  exact DD.funD (Option.some.inj e2) (List.all_eq_true.mp c2 d (List.mem_of_getElem? h))
end
/-! ### facts of the built-in types -/
def baseT : List String := ["NoneType", "bool", "int", "str", "tuple", "list", "dict"]
def isB (a b : String) : Option Bool := if a ∈ baseT ∧ b ∈ baseT then some (a == b || (a == "bool" && b == "int")) else none
theorem isB_ok {K : PySem.W.Frag} {a b : String} {r : Bool} (h : isB a b = some r) : PySem.W.kitOne K (.type a) (.type b) = some r := by
  have key : ∀ a ∈ baseT, ∀ b ∈ baseT, kitB a b = some (a == b || (a == "bool" && b == "int")) := by decide +kernel
  unfold isB at h
  by_cases hc : a ∈ baseT ∧ b ∈ baseT
  · rw [if_pos hc] at h
    cases h
    exact kit_ty (key a hc.1 b hc.2)
  · rw [if_neg hc] at h; cases h
/-! ### tables of the classes -/
def ktOf (L : List ((Tg × Tg) × Bool)) : Tg → Tg → Option Bool
  | .inl a, .inl b => isB a b
  | a, b => (L.find? fun q => decide (q.1 = (a, b))).map (·.2)
def icOf (L : List Nat) (C : Nat) : Bool := L.contains C
def nfOf (L : List (Nat × Tg)) (C : Nat) (t : Tg) : Bool := L.any fun q => decide (q = (C, t))
def naOf (L : List (Nat × Nat)) (C n : Nat) : Bool := L.contains (C, n)
def clsB (K : PySem.W.Frag) (a : Addr) : Bool := PySem.W.plainGet K a Str.empty && (PySem.W.hasDictIn K a && (PySem.W.plainOver K a && He.eqO (PySem.W.findIn K (.ref a) "__setattr__") (some (some (.builtin "object.__setattr__")))))
theorem clsB_ok {K : PySem.W.Frag} {a : Addr} (h : clsB K a = true) : Cls K a := by
  obtain ⟨h1, h⟩ := He.ba h
  obtain ⟨h2, h⟩ := He.ba h
  obtain ⟨h3, h4⟩ := He.ba h
  exact ⟨h1, h2, h3, He.eqO_ok h4⟩
def kiB (cA : CI) (L : List ((Tg × Tg) × Bool)) (I : List Nat) (K : PySem.W.Frag) : Bool :=
  (L.all fun q => decide (PySem.W.kitOne K (tagV cA q.1.1) (tagV cA q.1.2) = some q.2)) && ((I.all fun C => clsB K (cA C) && (He.eqO (PySem.W.findIn K (.ref (cA C)) "__class__") (some (some (.builtin "object.__class__"))) && decide (PySem.W.mroIn K (cA C) (.type "object") = some true))) &&
    (He.eqO (PySem.W.specialIn K (.builtin "object.__class__") "__get__") (some (some (.builtin "getset_descriptor.__get__"))) && decide (PySem.W.takesIn K (.builtin "object.__class__") = some true)))
theorem ki_of {K : PySem.W.Frag} {cA : CI} {L : List ((Tg × Tg) × Bool)} {I : List Nat} (h : kiB cA L I K = true) : KI K cA (ktOf L) (icOf I) := by
  obtain ⟨h1, h⟩ := He.ba h
  obtain ⟨h2, h⟩ := He.ba h
  obtain ⟨h3, h4⟩ := He.ba h
  have each : ∀ C, icOf I C = true → Cls K (cA C) ∧ PySem.W.findIn K (.ref (cA C)) "__class__" = some (some (.builtin "object.__class__")) ∧ PySem.W.mroIn K (cA C) (.type "object") = some true := fun C hC => by
    obtain ⟨g1, g⟩ := He.ba (List.all_eq_true.mp h2 C (List.contains_iff_mem.mp hC))
    obtain ⟨g2, g3⟩ := He.ba g
    exact ⟨clsB_ok g1, He.eqO_ok g2, of_decide_eq_true g3⟩
  refine ⟨fun a b r e => ?_, fun C hC => (each C hC).1, fun C hC => (each C hC).2.1, fun C hC => (each C hC).2.2, He.eqO_ok h3, of_decide_eq_true h4⟩
  have tab : ∀ a b : Tg, (L.find? fun q => decide (q.1 = (a, b))).map (·.2) = some r → PySem.W.kitOne K (tagV cA a) (tagV cA b) = some r := fun a b e => by
    obtain ⟨q, e1, e2⟩ := Option.map_eq_some_iff.mp e
    have e3 : q.1 = (a, b) := of_decide_eq_true (by simpa using List.find?_some e1)
    have e4 := of_decide_eq_true (List.all_eq_true.mp h1 q (List.mem_of_find?_eq_some e1))
    rw [e3] at e4
    rw [← e2]
    exact e4
  cases a with
  | inl a =>
    cases b with
    | inl b => exact isB_ok e
    | inr b => exact tab _ _ e
  | inr a => exact tab _ _ e
def kfB (cA : CI) (L : List (Nat × Nat)) (K : PySem.W.Frag) : Bool := L.all fun q => clsB K (cA q.1) && He.eqO (PySem.W.findIn K (.ref (cA q.1)) (aN q.2)) (some none)
theorem kf_of {K : PySem.W.Frag} {cA : CI} {L : List (Nat × Nat)} (h : kfB cA L K = true) : KF K cA (naOf L) :=
  ⟨fun C n e => clsB_ok (He.ba (List.all_eq_true.mp h (C, n) (List.contains_iff_mem.mp e))).1, fun C n e => He.eqO_ok (He.ba (List.all_eq_true.mp h (C, n) (List.contains_iff_mem.mp e))).2⟩
def nfB (cA : CI) (L : List (Nat × Tg)) (K : PySem.W.Frag) : Bool := L.all fun q => PySem.W.notFirst K (cA q.1) (tagV cA q.2)
theorem nf_of {K : PySem.W.Frag} {cA : CI} {L : List (Nat × Tg)} {C : Nat} (h : nfB cA L K = true) : NF K cA C (nfOf L C) := ⟨fun t e => by
  obtain ⟨q, h1, h2⟩ := List.any_eq_true.mp e
  have := List.all_eq_true.mp h q h1
  rw [of_decide_eq_true h2] at this
  exact this⟩
def ownB (K : PySem.W.Frag) (C : Addr) (nm : Str) (f : Addr) : Bool := He.eqO (PySem.W.findIn K (.ref C) nm) (some (some (.ref f))) && PySem.W.isFn K (.ref f)
theorem own_of {K : PySem.W.Frag} {cA : CI} {C : Nat} {nm : Str} {f : Addr} (h : ownB K (cA C) nm f = true) : OwnC K cA C nm f := ⟨He.eqO_ok (He.ba h).1, (He.ba h).2⟩
def hasRec (K : PySem.W.Frag) (p : Addr) (n : String) : Bool := match PySem.W.recIn K p n with
  | some (.ref _ :: _) => true
  | _ => false
def propB (K : PySem.W.Frag) (C f : Str) : Bool := He.eqO (PySem.W.findIn K (.ref (He.ga K C)) f) (some (some (.ref (propP K C f)))) && (He.eqO (PySem.W.specialIn K (.ref (propP K C f)) "__get__") (some (some (.builtin "property.__get__"))) && (decide (PySem.W.takesIn K (.ref (propP K C f)) = some true) && hasRec K (propP K C f) "property"))
theorem prop_of {K : PySem.W.Frag} {C f : Str} (h : propB K C f = true) : PropOf K (He.ga K C) f (propP K C f) (propA K C f) := by
  obtain ⟨h1, h⟩ := He.ba h
  obtain ⟨h2, h⟩ := He.ba h
  obtain ⟨h3, h4⟩ := He.ba h
  exact ⟨He.eqO_ok h1, He.eqO_ok h2, of_decide_eq_true h3, recA_ok h4⟩
def readB (K : PySem.W.Frag) (C : Str) : Bool := PySem.W.readsIn K (He.ga K C) (.type "type") && He.eqO (PySem.W.specialIn K (.ref (He.ga K C)) "__getattribute__") (some (some (.builtin "type.__getattribute__")))
theorem read_of {K : PySem.W.Frag} {C : Str} (h : readB K C = true) : ClX.CRead K (He.ga K C) (.type "type") := ⟨(He.ba h).1, He.eqO_ok (He.ba h).2⟩
def cmB (K : PySem.W.Frag) (C m : Str) : Bool := (match PySem.W.findCls K (.ref (He.ga K C)) (.type "type") m with
  | some (.get (.builtin "classmethod.__get__") (.ref p) .none (.ref c)) => decide (p = propP K C m) && decide (c = He.ga K C)
  | _ => false) && (hasRec K (propP K C m) "classmethod" && PySem.W.fnIn K (cmA K C m))
theorem cm_of {K : PySem.W.Frag} {C m : Str} (h : cmB K C m = true) : ClX.CMet K (He.ga K C) (.type "type") m (propP K C m) (cmA K C m) := by
  obtain ⟨h1, h⟩ := He.ba h
  obtain ⟨h2, h3⟩ := He.ba h
  refine ⟨?_, recA_ok h2, h3⟩
  split at h1
  · rename_i e
    obtain ⟨a, b⟩ := He.ba h1
    rw [e, of_decide_eq_true a, of_decide_eq_true b]
  · cases h1
end CC

set_option Elab.async false
set_option linter.all false
set_option maxRecDepth 100000
set_option maxHeartbeats 2000000
/-! CC17: a law's end: its def, called with the script. -/
namespace CC
open PySem PySem.Spec PyProof.Rows L2
/-- the script's object, tracked where the written part does not have it -/
def scrH (K : PySem.W.Frag) (a : Addr) (vs : List Value) (ns : List Int) : Hp := fun b =>
  if b = a ∧ K.lookup a = none then some (.frz { cls := .type "list", data := .seq vs.toArray } (.lst (ns.map V.int))) else none
theorem scrH_at {K : PySem.W.Frag} {a b : Addr} {vs : List Value} {ns : List Int} {u : HO} (h : scrH K a vs ns b = some u) : b = a ∧ K.lookup a = none ∧ u = .frz { cls := .type "list", data := .seq vs.toArray } (.lst (ns.map V.int)) := by
  unfold scrH at h
  by_cases c : b = a ∧ K.lookup a = none
  · rw [if_pos c] at h
    cases h
    exact ⟨c.1, c.2, rfl⟩
  · rw [if_neg c] at h; cases h
theorem end_call {P : Program} {w : World} {K : PySem.W.Frag} {cA : CI} {mg mb : Str → Option Value} {k : Nat} {f a : Addr} {m : List Val → Store → R Val} {s : Shared} {vs : List Value} {ns : List Int}
    (kin : K.In s.heap) (glob : s.heap.Ns mainGlobals mg) (blt : s.heap.Ns builtinsNs mb) (bltB : ∀ y : Str, y ≠ "__name__" → mb y = bootBuiltins y) (lim : s.heap.NoLimit) (gens : s.gens = #[])
    (obj : s.heap.get? a = some { cls := .type "list", data := .seq vs.toArray }) (hints : IntsAre vs ns) (few : ns.length ≤ sizeLine) (room : Room k callerA) (hT : cA.T = []) (hx : cA.x = [])
    (F : ∀ base : Heap, K.In base → base.Ns mainGlobals mg → FnG P w K mg base cA k f m) (plain : ∃ mu, m [.scr ns] [] = .ok (.bl true) mu) :
    codeAny (model P w) callerA (.call (.ref f) ⟨[.ref a], []⟩) (fun r s' => r = .ok (.ret (.bool true)) ∧ OldK s.heap s'.heap ∧ s'.os = s.os ∧ AllBare s'.gens) s := by
  have rv := vals_ints hints
  have nHO : ∀ {b : Addr} {o : Obj}, s.heap.get? b = some o → (∀ v n, o.data ≠ .seq v n) → scrH K a vs ns b = none := fun {b o} e hn => by
    cases q : scrH K a vs ns b with
    | none => rfl
    | some u =>
      obtain ⟨eb, _, _⟩ := scrH_at q
      rw [eb, obj] at e
      cases e
      exact (hn _ _ rfl).elim
  have names : ∀ {b : Addr} {mm : Str → Option Value}, s.heap.Ns b mm → (hidT s.heap (scrH K a vs ns)).Ns b mm := fun {b mm} ⟨o, es, ep, e, d, r⟩ => ⟨o, es, ep, hidT_get e (nHO e fun v n z => by rw [d] at z; cases z), d, r⟩
  have part : K.In (hidT s.heap (scrH K a vs ns)) := fun b o e => hidT_get (kin b o e) (by
    cases q : scrH K a vs ns b with
    | none => rfl
    | some u =>
      obtain ⟨eb, en, _⟩ := scrH_at q
      rw [eb, en] at e
      cases e)
  have hok : HOk P w (scrH K a vs ns) s.heap := fun b u h => by
    obtain ⟨eb, _, eu⟩ := scrH_at h
    subst eb eu
    exact ⟨obj, by rw [List.length_map]; exact few, vs, _, rv, obj⟩
  have seq : SqL K (scrH K a vs ns) a (ns.map V.int) := by
    cases hk : K.lookup a with
    | none => exact .inl (.inr ⟨_, if_pos ⟨rfl, hk⟩⟩)
    | some o =>
      have e := kin a o hk
      rw [obj] at e
      cases e
      exact .inr ⟨_, vs.toArray, _, hk, rfl, rfl, rfl, by rw [List.size_toArray, hints.length]; exact few, by simpa using rv⟩
  have md : L2.Mod K mg (hidT s.heap (scrH K a vs ns)) := ⟨part, names glob, ⟨mb, names blt, bltB⟩, let ⟨c, l1, l2⟩ := lim; ⟨c, names l1, l2⟩⟩
  have env : Env0 P w K mg (hidT s.heap (scrH K a vs ns)) callerA [] s (scrH K a vs ns) := ⟨rfl, md, fun b o e => of_hidT e, Nat.le_of_eq (hidT_size _ _), trivial, fun b hb => (by cases hb), hok, .of_eq gens⟩
  obtain ⟨mu, hm⟩ := plain
  have hsp : SpM K cA m [.ref a] (scrH K a vs ns) (fun v _ => v = .bl true) (fun _ _ _ => False) := by
    refine ⟨⟨scrH K a vs ns, fun _ => none⟩, [], [], [.scr ns], ⟨SubH.refl _, rfl, List.nodup_nil, fun b hb => (by cases hb), fun r b c h => (by cases h), fun b o h => (by cases h), fun q hq => (by rw [hT] at hq; cases hq), fun q hq => (by rw [hx] at hq; cases hq), fun b ps e => (by obtain ⟨_, _, eu⟩ := scrH_at e; cases eu), fun b ps e => (by cases e)⟩, .cons (.scr seq) .nil, ?_⟩
    rw [hm]
    intro F' p' H' x _ _ _ d
    cases d
    rfl
  refine codeAny_mono (F _ part (names glob) callerA [] s (scrH K a vs ns) [.ref a] [.ref a] _ _ room rfl env (.cons rfl .nil) hsp) fun r s' h => ?_
  cases r with
  | error e => obtain ⟨_, _, _, _, _, _, _, _, _, _, _, _, z⟩ := h; exact z.elim
  | ok fl =>
    cases fl with
    | next => exact False.elim h
    | brk => exact False.elim h
    | cont => exact False.elim h
    | ret u =>
      obtain ⟨v, H', os, bare, un, hok', r', q⟩ := h
      obtain rfl : v = .bl true := q
      obtain rfl : u = Value.bool true := r'
      refine ⟨rfl, OldK.of_keep fun b o e => ?_, os, bare⟩
      cases q : scrH K a vs ns b with
      | none => exact un.keep b o e q (fun z => by cases z) (by simp)
      | some u =>
        obtain ⟨eb, _, eu⟩ := scrH_at q
        subst eu
        have z2 := un.frzs b _ _ q
        have e1 := (hok' b _ z2).1
        rw [eb] at e ⊢
        rw [eb] at e1
        rw [obj] at e
        cases e
        exact e1
/-- a law: K and its facts by the head, the promise over every base, the plain law -/
theorem walk_end {l : PySem.W.OpenLaw} {n k : Nat} {q : Program} {loose : List Str} {XP : (Str → Option Value) → Heap → Prop} {YP : World → Heap → Prop} {d : DefRec} {m : List Val → Store → R Val} (hn : l.most = some n) (hn2 : n ≤ sizeLine) (hdf : d.params.defaults = []) (room : Room k callerA)
    (F : ∀ (w : World) (mg : Str → Option Value) (fa : Addr) (h : Heap), YP w h → h.Ns mainGlobals mg → mg d.name = some (.ref fa) → ∃ (K : PySem.W.Frag) (cA : CI), K.In h ∧ cA.T = [] ∧ cA.x = [] ∧ ∀ base : Heap, K.In base → base.Ns mainGlobals mg → FnG l.prog w K mg base cA k fa m)
    (plain : ∀ ns : List Int, ns.length ≤ n → (∀ z ∈ ns, Builtin.Int.intBits z ≤ 1048576) → ∃ mu, m [.scr ns] [] = .ok (.bl true) mu) : PySem.W.WalkO q loose XP YP l.row.toRowW d [] (fun f vs => PySem.call f vs) := by
  refine Att.attach_callB hn hdf fun w s₀ s₁ mg mb fa o pm cd doc a vs ns G Y ho hd hcd hmg hobj hints hlen hbits hg => ?_
  obtain ⟨K, cA, kin, hT, hx, hF⟩ := F w mg fa _ Y G.T.g hmg
  exact end_call kin G.T.g G.T.b G.T.builtins G.T.nolimit hg hobj hints (Nat.le_trans hlen hn2) room hT hx hF (plain ns hlen hbits)
end CC

set_option Elab.async false
set_option linter.all false
set_option maxRecDepth 100000
set_option maxHeartbeats 2000000
/-! CC18: exceptions of the program's own, raised. -/
namespace CC
open PySem PySem.Spec PyProof.Rows L2
section
variable {X : Cx} {e : Expr} {es : List Expr} {ta : TA} {pos p : Pos}
/-- the made exception, its context is none -/
theorem pmkN {CX : CXT} {x : Str} {C fI : Addr} {k : Nat} {fd : FuncData} {ps : List Str} {sp : Sp} (T : OexC X.K C) (iC : PySem.W.findIn X.K (.ref C) "__init__" = some (some (.ref fI))) (tI : PySem.W.typeIn X.K (.ref fI) = some (.type "function"))
    (F1 : FnOk X.prog X.w X.K X.mg X.base CX k fI fd ps sp) (room : Room (k + 1) X.A) (bnd : Binds X.K fd ps []) (hx : Passes CX X (fun _ _ _ => False)) (hg : Gl X x) (hm : X.mg x = some (.ref C)) (ha : PA X (e :: es) ta)
    (hdb : (x == ("__debug__" : Str)) = false := by decide) (he : starEach (e :: es) X.env = (false, eval e X.env) :: starEach es X.env := by rfl) (hpl : (backTo pos (starEach es X.env)).any (·.1) = false := by rfl) : L2N.PMk X (.Call (.Name x p) (e :: es) [] pos) (tMkO C sp [] ta) := fun pins s σ H Q I h => by
  obtain ⟨nm, q, N, bs, bm, sn, sub, ab, col, dd, j0, j1, j2, j3, j5, cls, mro⟩ := T.cls
  refine wpAny_Call_Name_kw (ld_glob I hg hm (PySem.W.callWith_K (h₀ := X.base) I.ok.mod.kin T.kC (thn (ha.run pos pins s σ H _ I h) fun us s1 got => ?_) he hpl) hdb)
  obtain ⟨vs, H1, I1, rv, short, ask⟩ := got
  refine ⟨I1.kIn, ?_⟩
  rw [List.append_nil] at ask
  obtain ⟨hp, gs, dr, tk, os⟩ := s1
  generalize ea : hp.objs.size + 1 = a
  have above : hp.objs.size ≤ a := by omega
  have asked := ask a (I1.hok.fresh above)
  generalize eh : ((hp.push (PySem.W.kdv_tup us)).push (PySem.HandSPX.excO C hp.objs.size)) = hp2
  have keep : ∀ b o, hp.get? b = some o → hp2.get? b = some o := fun b o z => eh ▸ Heap.get?_push_of_some _ (Heap.get?_push_of_some _ z)
  have atA : hp2.get? a = some (PySem.HandSPX.excO C hp.objs.size) := by subst eh ea; heap_get
  have I2 : Inv X pins σ (upd H1 a (exo a C none)) ⟨hp2, gs, dr, tk, os⟩ := I1.laid (t' := tk) keep above (exo_ok atA)
  have rv2 : Vals (V.ref a :: vs) (Value.ref a :: us) := .cons rfl rv
  have many : us.length ≤ sizeLine := Nat.le_trans (Nat.le_of_eq rv.length.symm) (Nat.le_trans short (by decide))
  have fits : (Value.ref a :: us ++ []).length = ps.length := by rw [List.append_nil, ← rv2.length]; exact F1.len _ _ _ _ asked
  have bound := bnd ⟨hp2, gs, dr, tk, os⟩ (Value.ref a :: us) I2.kIn fits
  rw [List.append_nil] at bound
  have ran := F1.run _ X.stack _ _ ⟨Value.ref a :: us, []⟩ (Value.ref a :: us) _ _ (fun _ _ _ => False) (room.make C us []) (I2.env0.make C us []) bound rv2 asked
  subst ea eh
  show wpAny _ _ (call (.ref C) us) _ _ _
  refine wpAny_call (PySem.HandSPX.call_own F.excBase_ValueError (fun Y => PySem.HandSPX.refsVE_contains Y bm mro) (I1.kIn _ _ cls) (PySem.W.looks_findIn I1.kIn iC) (fun self => PySem.W.bind_fn I1.kIn self tI) many (codeAny_mono ran fun r s' fate => ?_))
  cases r with
  | error er => exact hx pins σ _ _ er s' I2 fate
  | ok fl =>
    cases fl with
    | next => exact fate.elim
    | brk => exact fate.elim
    | cont => exact fate.elim
    | ret u =>
      obtain ⟨v, H2, os2, bare2, un2, hok2, rz, ev, d, fs, w1, w2, w3, wq⟩ := fate
      subst ev
      obtain ⟨h2, g2, d2, t2, os'⟩ := s'
      refine ⟨rz, ?_⟩
      obtain ⟨t0, G, J, kG, ge, hoe, na⟩ := mk_end0 (d2 := d2) (t2 := t2) I1 above keep un2 hok2 os2 bare2 w1 w2 w3
      exact ⟨_, _, _, ⟨G, g2, d2, t2, os'⟩, _, .ref C, some d, rfl, J, kG, ge, hoe, ⟨rfl, rfl, fun vs z => by cases z; rfl⟩, rfl, rfl, na, rfl, bare2, raises_own T.exC T.tyC, wq⟩
end
/-! ### __init__(self, x): self.f = x -/
/-- what such a def promises -/
def SpI (K : PySem.W.Frag) (f : Str) : Sp := fun vs H Q _ => ∃ (a C : Addr) (y : V), vs = [.ref a, y] ∧ OexC K C ∧ PySem.W.findIn K (.ref C) f = some none ∧ H a = some (exo a C none) ∧ ∀ dx, H dx = none → dx ≠ a → Q .non (upd (upd H dx (exd dx [(f, y)])) a (exo a C (some dx)))
theorem excInit {P : Program} {w : World} {K : PySem.W.Frag} {mg : Str → Option Value} {base : Heap} {x qual n0 n1 f : Str} {params : Arguments} {scope : Scope} {g : Addr} {fd : FuncData} {p1 p2 p3 p4 : Pos}
    (F : FunD K x qual params [.Assign [.Attribute (.Name n0 p1) f p2] (.Name n1 p3) p4] scope [] [] g fd) (S : FnScope [n0, n1] [n0, n1] scope) (h0 : (n0 == ("__debug__" : Str)) = false := by decide) (h1 : (n1 == ("__debug__" : Str)) = false := by decide) (c0 : (n0 == ("__classdict__" : Str)) = false := by decide) (c1 : (n1 == ("__classdict__" : Str)) = false := by decide)
    (v0 : scope.names.lookup n0 = some .local := by rfl) (v1 : scope.names.lookup n1 = some .local := by rfl) :
    FnOk P w K mg base (L2N.CX P w) 1 g fd [n0, n1] (SpI K f) :=
  F.ok S (fun vs H Q E ⟨a, C, y, e, _⟩ => by rw [e]; rfl) fun cdv A outer s H vs Q E hr ⟨a, C, y, e, T, no, ha, q⟩ => by
    subst e
    refine ⟨_, pss_one (ps_ost (pe_var (i := 0) rfl (.inl v0) h0 c0) (pe_var (i := 1) rfl (.inl v1) h1 c1)), ?_⟩
    exact ⟨y, rfl, .ref a, rfl, a, C, rfl, T, no, .inl ⟨ha, fun dx h1 h2 => q dx h1 h2⟩⟩
/-- raise C(e), C's attribute n -/
def raiseS (C n : Nat) (ms : M (List Val)) : MS := bindS ms fun vs r mu => match vs with
  | [v] => .exc C [(n, v)] r mu
  | _ => .bad
/-- what is known of such a class -/
structure ExC (K : PySem.W.Frag) (mg : Str → Option Value) (C fI : Addr) (x f : Str) : Prop where
  ox : OexC K C
  ini : PySem.W.findIn K (.ref C) "__init__" = some (some (.ref fI))
  tyI : PySem.W.typeIn K (.ref fI) = some (.type "function")
  att : PySem.W.findIn K (.ref C) f = some none
  glo : mg x = some (.ref C)
section
variable {X : Cx} {cA : CI} {W : WX} {e : Expr} {m : M Val} {pos p pos' : Pos}
theorem s_raise {C n : Nat} {fI : Addr} {k : Nat} {fd : FuncData} {ps : List Str} {x : Str} (hc : X.calm = true) (tk : L2N.Takes X W) (hn : n < 45) (T : ExC X.K X.mg (cA C) fI x (aN n)) (F1 : FnOk X.prog X.w X.K X.mg X.base (L2N.CX X.prog X.w) k fI fd ps (SpI X.K (aN n))) (room : Room (k + 1) X.A) (bnd : Binds X.K fd ps [])
    (ha : PEM X cA W e m) (hg : Gl X x := by rfl) (hdb : (x == ("__debug__" : Str)) = false := by decide) (he : starEach [e] X.env = (false, eval e X.env) :: starEach [] X.env := by rfl) (hpl : (backTo pos (starEach [] X.env)).any (·.1) = false := by rfl) :
    PSM X cA W (.Raise (some (.Call (.Name x p) [e] [] pos)) none pos') (raiseS C n (consM m nilM)) :=
  ps_weak (L2N.ps_raise hc tk (pmkN (CX := L2N.CX X.prog X.w) T.ox T.ini T.tyI F1 room bnd (fun pins σ H s e' s' I hq => by obtain ⟨_, _, _, _, _, _, _, _, _, _, _, _, z⟩ := hq; exact z.elim) hg T.glo (c_cons ha c_nil he) hdb he hpl)) fun D s H ⟨F, p, r, mu, h1, h2, h3⟩ => bindAtS h1 h2 h3 fun F1 p1 mu1 xs vs H1 a1 b1 c1 d1 e1 f1 => by
    cases e1 with
    | nil => exact f1.elim
    | cons g1 g2 =>
      cases g2 with
      | cons _ _ => exact f1.elim
      | nil =>
        rename_i xv v
        refine ⟨by simp, fun a hA => ⟨a, cA C, v, rfl, T.ox, T.att, upd_same, fun dx hdx ne => ?_⟩⟩
        have hd1 : H1 dx = none := by rw [upd_ne ne] at hdx; exact hdx
        refine ⟨rfl, dx, [(aN n, v)], upd_same, by rw [upd_ne ne, upd_same], hd1, ?_⟩
        have eH : upd (del (upd (upd (upd H1 a (exo a (cA C) none)) dx (exd dx [(aN n, v)])) a (exo a (cA C) (some dx))) a) dx (.xd [(aN n, v)]) = upd H1 dx (.xd [(aN n, v)]) := by
          funext b
          by_cases hb : b = dx
          · rw [hb, upd_same, upd_same]
          · rw [upd_ne hb, upd_ne hb]
            by_cases hb2 : b = a
            · rw [hb2, del_same, hA]
            · rw [del_ne hb2, upd_ne hb2, upd_ne hb, upd_ne hb2]
        rw [eH]
        have sb := Sub.new (o := HO.xd [(aN n, v)]) (c1.fresh hd1).1
        exact f1 (F1.new dx (.xd [(aN n, v)])) p1 _ s (.ref (cA C)) (some dx) sb (List.prefix_refl p1) (c1.frz hd1) (d1.mono sb (List.prefix_refl p1)) ⟨rfl, .inr ⟨dx, _, rfl, upd_same, .cons hn (g1.mono sb (List.prefix_refl p1)) .nil⟩⟩
end
end CC

set_option Elab.async false
set_option linter.all false
set_option maxRecDepth 100000
set_option maxHeartbeats 2000000
/-! CC19: a lambda without parameters that may raise, handed to a def that catches. -/
namespace CC
open PySem PySem.Spec PyProof.Rows L2 LamX
/-- the lambda's context, its errors have no context -/
abbrev lamN (X : Cx) (A : Around) (outer : List Env) (s : Shared) (H : Hp) (E : XK) (scope : Scope) (f c' : Addr) : Cx :=
  (lamCx X A outer s H E scope f c').wish fun e s1 => wpAny (model X.prog X.w) (A.deeper (lamEnv X scope s.heap.objs.size f c')) (leaving (lamEnv X scope s.heap.objs.size f c') e) (fun _ s2 => L2N.CX X.prog X.w outer H s E e s2) (fun e2 s2 => L2N.CX X.prog X.w outer H s E e2 s2) s1
section
variable {X : Cx} {pins : List (Addr × Obj)} {σ : L2.St} {H HZ : Hp} {s s1 : Shared}
/-- what the lambda got comes to, called by the def that has it in slot i -/
theorem pe_actN {CXg : CXT} {Eg : XK} {Ng : List Str} {qg : Str} {sg : Scope} {g f c' : Addr} {cdg pm ctv : Value} {params : Arguments} {body : Expr} {scope : Scope} {k i : Nat} {a : Str} {pn : List (Addr × Obj)} {xe : Value → Shared → Prop} {W : WX} {tb : XK → TE} {p1 p2 : Pos}
    (I : Inv X pins σ H s) (L : LamS X.env.scope scope) (obj : s.heap.get? f = some (PySem.W.kla_obj "<lambda>" (X.env.qual ++ "<lambda>") params body scope (cloFrom X.env.cells scope.names []) pm c' ctv)) (fresh : H f = none) (off : f ∉ frs X.stack)
    (nobind : bindArgs (PySem.W.kla_fn "<lambda>" (X.env.qual ++ "<lambda>") params body scope (cloFrom X.env.cells scope.names []) pm (.ref c') ctv) ⟨[], []⟩ = pure [])
    (tk : L2N.Takes ((cxOf CXg X.prog X.w X.K X.mg X.base Ng qg sg g cdg X.A X.stack s H Eg).tr pn xe) W) (room : Room (k + 1) (X.A.deeper (envOfC qg sg s.heap.objs.size g cdg)))
    (hbody : ∀ (E : XK) (A : Around) (outer : List Env) (s : Shared) (H : Hp), Room k (A.deeper (lamEnv X scope s.heap.objs.size f c')) → PE (lamN X A outer s H E scope f c') body (tb E))
    (hN : Ng[i]? = some a) (hv : Vis sg a) (hd : (a == ("__debug__" : Str)) = false := by decide) (hcd : (a == ("__classdict__" : Str)) = false := by decide) :
    PE ((cxOf CXg X.prog X.w X.K X.mg X.base Ng qg sg g cdg X.A X.stack s H Eg).tr pn xe) (.Call (.Name a p1) [] [] p2) (fun τ G Q => ∃ E : XK, (∀ cls d G', E cls d G' → W cls d τ G') ∧ τ[i]? = some (some (.ref f)) ∧ G c' = some (CodeO c' (X.env.qual ++ "<lambda>")) ∧ tb E σ G Q) := by
  refine ⟨fun pinsZ sZ τ G Q IZ ⟨E, hW, slot, code, want⟩ => ?_⟩
  refine wpAny_Call_Name_kw (thn ((pe_var (pos := p1) (i := i) hN hv hd hcd).run pinsZ sZ τ G (fun v G1 => v = .ref f ∧ G1 = G) IZ ⟨.ref f, slot, rfl, rfl⟩) fun u sA ⟨v, G1, IA, ru, ev, eG⟩ => ?_)
  subst ev eG
  cases (show u = Value.ref f from ru)
  have objA := IA.base.keep f _ obj fresh off (fun z => nomatch (show f ∈ ([] : List Addr) from z))
  refine PySem.W.callWith_F0 ⟨_, _, _, _, objA⟩ ?_
  obtain ⟨⟨oc, vs, t, c1, c2, c3⟩, -, -⟩ := IA.hok c' _ code
  have ran : codeAny (model X.prog X.w) (X.A.deeper (envOfC qg sg s.heap.objs.size g cdg)) (.call (.ref f) ⟨[], []⟩) (L2.CR (L2N.CX X.prog X.w) (envOfC qg sg s.heap.objs.size g cdg :: X.stack) X.prog X.w G1 sA Q E) sA := by
    refine PySem.W.kla_callFunE room.depth objA rfl L.co L.gen rfl ⟨c', oc, vs, t, rfl, c1, c2, c3⟩ ?_
    rw [nobind]
    refine wpAny_pure (wpAny_newFunctionEnv (fun y hy => (L.own y hy).2) (fun y hy => (by cases hy)) (fun h1 names same => ⟨IA.nolimit.fresh _ same, ?_⟩) L.kind)
    have kept : ∀ b o, sA.heap.get? b = some o → h1.get? b = some o := fun b o z => same.extBut b o (Nat.ne_of_lt (Heap.lt_size z)) (Heap.get?_push_of_some _ z)
    have J := (lam_start2 (E := E) (f := f) (c' := c') (tk := sA.toks + ([] : List (Str × Value)).length) I L IA.env0 room.hd IA.base names kept).wish fun e sB => wpAny (model X.prog X.w) ((X.A.deeper (envOfC qg sg s.heap.objs.size g cdg)).deeper (lamEnv X scope sA.heap.objs.size f c')) (leaving (lamEnv X scope sA.heap.objs.size f c') e) (fun _ sC => L2N.CX X.prog X.w (envOfC qg sg s.heap.objs.size g cdg :: X.stack) G1 sA E e sC) (fun e2 sC => L2N.CX X.prog X.w (envOfC qg sg s.heap.objs.size g cdg :: X.stack) G1 sA E e2 sC) sB
    refine PySem.W.kla_codeExpr (wpAny_mono ((hbody E _ _ sA G1 (room.deeper _)).run [] _ _ G1 Q J want) (fun v sB hq => ?_) fun e sB hq => hq)
    obtain ⟨w', G2, J2, rv, q⟩ := hq
    exact ⟨w', G2, J2.os, J2.bare, J2.base, J2.hok, rv, q⟩
  refine wpAny_call (codeAny_mono ran fun r sB hq => ?_)
  cases r with
  | error e => exact tk e sB (L2N.XE.of_call IA hW hq)
  | ok fl =>
    cases fl with
    | next => exact hq.elim
    | brk => exact hq.elim
    | cont => exact hq.elim
    | ret u => exact IA.after hq
end
end CC

set_option Elab.async false
set_option linter.all false
set_option maxRecDepth 100000
set_option maxHeartbeats 2000000
/-! CC20: try: body, except (A, B, C) as e: suite; errors without a context. -/
namespace CC
open PySem PySem.Spec PyProof.Rows L2 LamX
theorem flies {B h h' : Heap} {l : List Env} {a : Addr} {Z : Obj → Prop} (x : HandSPX.FlyingZ B l a Z h) (k : ∀ b o, h.get? b = some o → h'.get? b = some o) : HandSPX.FlyingZ B l a Z h' := by
  obtain ⟨x1, x2, x3, oe, vs, T, oT, ts, y1, y2, y3, y4, y5, y6, y7, y8, y9⟩ := x
  exact ⟨fun b o q => k b o (x1 b o q), x2, x3.of_keeps fun b o q _ => ⟨o, k b o q, rfl⟩, oe, vs, T, oT, ts, k _ _ y1, y2, y3, y4, y5, y6, k _ _ y7, y8, y9⟩
/-- what an except clause's test comes to -/
def TestX (X : Cx) (t : Expr) (ok : Value → Option Bool) : Prop := ∀ (a : Addr) (pn : List (Addr × Obj)) (σ : L2.St) (H : Hp) (s : Shared) (cls : Value) (b : Bool) (Q : Bool → Shared → Prop) (E : Value → Shared → Prop), Inv (X.suite a pn) [] σ H s →
  PySem.W.Looks (model X.prog X.w) s.heap (typeOf (.ref a)) cls → ok cls = some b → (∀ h', (∀ c o, s.heap.get? c = some o → h'.get? c = some o) → Q b { s with heap := h' }) →
  wpAny (model X.prog X.w) (X.A.mark (some (.ref a))) (eval t X.env) (fun c s1 => wpAny (model X.prog X.w) (X.A.mark (some (.ref a))) (excMatches (.ref a) c) Q E s1) E s
theorem nameX {X : Cx} {x : Str} {c : Value} {np : Pos} (hc : Names X x c) {a : Addr} {pn : List (Addr × Obj)} {σ : L2.St} {H : Hp} {s : Shared} {Q : Value → Shared → Prop} {E : Value → Shared → Prop} (S : Inv (X.suite a pn) [] σ H s) (q : Q c s) :
    wpAny (model X.prog X.w) (X.A.mark (some (.ref a))) (eval (.Name x np) X.env) Q E s := by
  obtain ⟨hg, hd, hm | ⟨hm, hv, hn⟩⟩ := hc
  · exact ld_glob (X := X.suite a pn) S hg hm q hd
  · exact ld_blt (X := X.suite a pn) S hg hm hv q hn hd
theorem test3 {X : Cx} {x1 x2 x3 : Str} {c1 c2 c3 : Value} {p1 p2 p3 tp : Pos} {kk : Nat} (n1 : Names X x1 c1) (n2 : Names X x2 c2) (n3 : Names X x3 c3) : TestX X (.Tuple [.Name x1 p1, .Name x2 p2, .Name x3 p3] kk tp) (fun cls => PySem.W.exmAny X.K cls [c1, c2, c3]) := fun a pn σ H s cls b Q E S LT ok q => by
  refine wpAny_Tuple (wpAny_items_cons (nameX n1 S (wpAny_items_cons (nameX n2 S (wpAny_items_cons (nameX n3 S (wpAny_items_nil ⟨by size_fits, ?_⟩)))))))
  have keep : ∀ c o, s.heap.get? c = some o → (s.heap.push { cls := .type "tuple", data := .seq [c1, c2, c3].toArray }).get? c = some o := fun c o z => Heap.get?_push_of_some _ z
  exact (PySem.W.exm_tup3 (S.kIn.keeps keep) (LT.keeps keep) (Heap.get?_push_size s.heap rfl) ok).here (q _ keep)
def wAsT (ok : Value → Option Bool) (i : Nat) (ts : Addr → Value → Option Addr → TS) (Wout : WX) (D : Ends) : WX := fun cls d σ H =>
  ∃ b, ok cls = some b ∧ (b = true → ∀ a, H a = none → ts a cls d { nx := fun τ G => D.nx (τ.set i none) G, rt := D.rt, bk := fun τ G => D.bk (τ.set i none) G, ct := fun τ G => D.ct (τ.set i none) G } (σ.set i (some (.ref a))) H) ∧ (b = false → Wout cls d σ H)
section
variable {X : Cx} {n : Str} {i : Nat} {t : Expr} {ok : Value → Option Bool} {body suite : List Stmt} {b₀ : Stmt} {pos pos' : Pos} {tb : WX → TS} {ts : Addr → Value → Option Addr → TS} {Wout : WX}
theorem ps_tryT (stk : X.stack = X.env :: X.outer) (frm : X.env.frame = some X.env.locals) (hN : X.N.Nodup) (hi : X.N[i]? = some n) (loc : X.env.kindOf n = some .local) (test : TestX X t ok) (tk : L2N.Takes X Wout)
    (hb : ∀ (W : WX) (pn : List (Addr × Obj)) (xe : Value → Shared → Prop), L2N.Takes (X.tr pn xe) W → PassesOwn (model X.prog X.w) X.A X.env xe → PSs (X.tr pn xe) body (tb W))
    (hsu : ∀ (a : Addr) (oe : Obj) (cls : Value) (d : Option Addr) (pn : List (Addr × Obj)), L2N.Zn cls d oe → (∃ vs, oe.data = .fields vs) → PSs (X.suite a ((a, oe) :: pn)) (b₀ :: suite) (ts a cls d)) :
    PS X (.Try body [.ExceptHandler (some t) (some n) (b₀ :: suite) pos'] [] [] pos) (fun D σ H => tb (wAsT ok i ts Wout D) D σ H) := by
  refine ⟨fun pins s σ H D I start => ?_⟩
  have fine := I.ok
  have frames : X.A.frames = some (X.env :: X.outer) := by rw [fine.frames, stk]
  have here : Loc X.env.scope n := .inl loc
  have bodyRun := (hb (wAsT ok i ts Wout D) (X.pn ++ pins) (fun e s₁ => wpAny (model X.prog X.w) X.A (noteFrame e X.env) (fun _ s₂ => wpAny (model X.prog X.w) X.A (setFlight e none) (fun _ s₃ => wpAny (model X.prog X.w) X.A (handleBy e X.env [.ExceptHandler (some t) (some n) (b₀ :: suite) pos']) (SP X pins D) X.xe s₃) X.xe s₂) X.xe s₁) (fun u s1 caught => ?_) PassesOwn.looking).run [] s σ H D (I.toTry _) start
  · refine wpAny_Try_except (wpAny_mono bodyRun (fun f s1 out => ?_) fun e s1 he => he)
    cases f with
    | ret u => obtain ⟨v, σ1, H1, I1, rv, q⟩ := out; exact ⟨v, σ1, H1, I1.ofTry fine, rv, q⟩
    | next => obtain ⟨σ1, H1, I1, q⟩ := out; exact wpAny_execs_nil ⟨σ1, H1, I1.ofTry fine, q⟩
    | brk => obtain ⟨σ1, H1, I1, q⟩ := out; exact ⟨σ1, H1, I1.ofTry fine, q⟩
    | cont => obtain ⟨σ1, H1, I1, q⟩ := out; exact ⟨σ1, H1, I1.ofTry fine, q⟩
  · obtain ⟨a, B, s0, pins1, σ1, H1, cls, d, rfl, I1, ground, up1, sky, off, os1, bare1, b, isB, yes, no⟩ := caught
    have I2 : Inv X pins σ1 H1 s0 := I1.ofTry fine
    rw [stk] at sky
    show wpAny (model X.prog X.w) X.A (noteFrame (.ref a) X.env) _ _ _
    refine L2N.Sky.land L2N.Zn.steady frames frm sky fun h2 fl2 up2 => ?_
    have at2 : Inv X pins σ1 H1 { s1 with heap := h2 } := I2.landed ground fl2.1 (up1.trans up2) os1 bare1
    obtain ⟨oe2, vs2, e2, z2, d2⟩ := fl2.there
    have apart : a ∉ frs (X.env :: X.outer) := fun hm => by
      obtain ⟨_, o, e3, nf⟩ := fl2.2.2.1.mem hm
      rw [e2] at e3
      cases e3
      exact nf _ d2
    have nL : a ≠ X.env.locals := fun z => apart (List.mem_filterMap.mpr ⟨X.env, List.mem_cons_self, by rw [frm, z]⟩)
    have nF : a ∉ X.fs := fun hm => by
      obtain ⟨e, he, q⟩ := List.mem_filterMap.mp hm
      exact apart (List.mem_filterMap.mpr ⟨e, List.mem_cons_of_mem _ he, q⟩)
    have typ : PySem.W.Looks (model X.prog X.w) h2 (typeOf (.ref a)) cls := fun A Q E s k q => wpAny_typeOf_ref (k _ _ e2) (by rw [z2.1]; exact q)
    refine wpAny_handleBy_cons (codeAny_handlers_test (test a _ _ _ _ cls b _ _ (at2.suite e2 d2 off nL nF) typ isB fun h3 grown => ?_)) (by intro q; cases q)
    have fl3 := flies fl2 grown
    have up3 := (up1.trans up2).trans (Heap.UpToSlots.of_keeps grown)
    cases b with
    | true =>
      refine codeAny_handlers_suite_as (HandSPX.lands_againZ fl3 fun h4 fl4 up4 => ?_)
      obtain ⟨oe4, vs4, e4, z4, d4⟩ := fl4.there
      have at4 := (I2.landed (s' := { s1 with heap := h4 }) ground fl4.1 (up3.trans up4) os1 bare1).suite e4 d4 off nL nF
      refine store_ok (X := X.suite a ((a, oe4) :: (X.pn ++ pins))) (v := .ref a) at4 hN hi here rfl (fun s5 at5 => ?_) (.inr loc)
      refine wpAny_mono ((hsu a oe4 cls d (X.pn ++ pins) z4 ⟨_, d4⟩).run [] s5 _ H1 _ at5 (yes rfl a off)) (fun f s6 out => ?_) (fun _ _ z => z.elim)
      have gone : ∀ {σ6 : L2.St} {H6 : Hp} {Q : Shared → Prop}, Inv (X.suite a ((a, oe4) :: (X.pn ++ pins))) [] σ6 H6 s6 → (∀ s7, Inv X pins (σ6.set i none) H6 s7 → Q s7) →
          wpAny (model X.prog X.w) X.A (do bindName X.env n .none; unbindBehindTheSuite X.env n pos') (fun _ s7 => Q s7) X.xe s6 := fun J q => gone_ok (J.unsuite fine) hN hi loc q
      cases f with
      | ret u => obtain ⟨v6, σ6, H6, J, rv, q⟩ := out; exact gone J fun s7 J7 => ⟨_, _, _, J7, rv, q⟩
      | next => obtain ⟨σ6, H6, J, q⟩ := out; exact gone J fun s7 J7 => ⟨_, _, J7, q⟩
      | brk => obtain ⟨σ6, H6, J, q⟩ := out; exact gone J fun s7 J7 => ⟨_, _, J7, q⟩
      | cont => obtain ⟨σ6, H6, J, q⟩ := out; exact gone J fun s7 J7 => ⟨_, _, J7, q⟩
    | false =>
      show wpAny _ X.A (handleBy (.ref a) X.env []) _ _ _
      refine wpAny_handleBy_nil ?_
      obtain ⟨k1, k2, k3, oe, vs, T, oT, ts', he, hz, hd, h1, hr⟩ := id fl3
      unfold PySem.passOn
      refine wpAny_bind (wpAny_field he hd h1 ?_)
      rw [if_neg (show ¬ ((Value.ref T == Value.none) = true) from by simp)]
      have back : wpAny (model X.prog X.w) X.A (setFlight (.ref a) X.env.frame) (fun _ s4 => wpAny (model X.prog X.w) X.A (throw (.ref a) : Sem Flow) (SP X pins D) X.xe s4) X.xe { s1 with heap := h3 } := by
        rw [frm]
        refine HandSPX.setFlight_upZ fl3 fun h4 hh4 up4 => wpAny_throw (tk _ _ ?_)
        exact ⟨a, B, s0, pins, σ1, H1, cls, d, rfl, I2, ground, up3.trans up4, .inr (.inr (by rw [stk]; exact hh4)), off, os1, bare1, no rfl⟩
      first
        | exact wpAny_bind (wpAny_pure (wpAny_bind back))
        | exact wpAny_bind back
end
end CC

set_option Elab.async false
set_option linter.all false
set_option maxRecDepth 100000
set_option maxHeartbeats 2000000
/-! CC21: a list comprehension over a list while an error is handled. -/
namespace CC
open PySem PySem.Spec PyProof.Rows L2 LamX
section
variable {prog : Program} {w : World} {A : Around} {E : Value → Shared → Prop} {s : Shared}
/-- a list's iterator is through, an error is handled -/
theorem nextEndHot {it l x1 : Addr} {i : Nat} {items : Array Value} {Q : Option Value → Shared → Prop} (hot : HotX.HotAt A x1 s.heap) (hit : s.heap.IsListIter it l i) (hl : s.heap.IsList l items) (hx : items[i]? = none) (ne : x1 ≠ it)
    (hQ : ∀ h', Heap.ExtBut it s.heap h' → Q none { s with heap := h' }) : wpAny (model prog w) A (pyNext (.ref it)) Q E s := by
  obtain ⟨o, ho, -, hd⟩ := id hit
  obtain ⟨ol, hol, -, nl, hdl⟩ := hl
  obtain ⟨hh, o1, vs1, g1, g2, g3⟩ := hot
  unfold pyNext
  refine wpAny_bind (wpAny_attempt (wpAny_callSpecial?_slot (name := Str.ofString "__next__") hit.typeIs slot_listiter_next (wpAny_call_entry slot_listiter_next hit.typeIs entry_listiter_next ?_ (args_listiter_next _))))
  show wpAny _ _ (field (.ref it) 0 >>= _) _ _ s
  refine wpAny_bind (wpAny_field ho hd (x := Value.ref l) rfl ?_)
  show wpAny _ _ (if (Value.ref l == Value.none) = true then _ else _) _ _ s
  rw [if_neg (show ¬ ((Value.ref l == Value.none) = true) from fun z => Bool.false_ne_true z)]
  show wpAny _ _ (field (.ref it) 1 >>= _) _ _ s
  refine wpAny_bind (wpAny_field ho hd (x := Value.int i 0) rfl ?_)
  show wpAny _ _ (seqItems? (.ref l) >>= _) _ _ s
  refine wpAny_bind (wpAny_seqItems hol hdl ?_)
  simp only [Int.toNat_natCast, hx]
  refine wpAny_bind (wpAny_rule (wpAny_bind (wpAny_setField ho hd (by simp) ?_)))
  show wpAny _ _ (newExc (.type "StopIteration") [] >>= _) _ _ _
  refine wpAny_bind ?_
  simp only [newExc, newTuple]
  refine wpAny_bind (wpAny_newObj_type ?_ (by size_fits))
  refine wpAny_bind (m := firstArgMember _ _) (wpAny_of_eq (a := Value.none) (by first | rfl | (simp only [firstArgMember]; rfl)) (wpAny_newObj_type ?_ (by size_fits)))
  refine HotX.raiseNew_hot ⟨hh, o1, vs1, Heap.get?_push_of_some _ (Heap.get?_push_of_some _ ?_), g2, g3⟩ ?_ (Heap.get?_push_size _ rfl) rfl (by first | (simp; done) | (simp; omega) | (simp only [Array.size_append]; simp; omega)) ?_
  · rw [Heap.get?_update_other _ _ (Ne.symm ne)]
    exact g1
  · refine Nat.ne_of_lt (Heap.lt_size (o := o1) (Heap.get?_push_of_some _ ?_))
    rw [Heap.get?_update_other _ _ (Ne.symm ne)]
    exact g1
  · refine wpAny_bind (wpAny_isInstance (T := "StopIteration") (b := true) ⟨_, Heap.get?_update_self _ (Heap.get?_push_size _ rfl) rfl, rfl⟩ isSubtype_stop ?_)
    have ext := ((Heap.SameBut.update (h := s.heap) (a := it) (f := Obj.mapFields (·.setIfInBounds 0 .none))).extBut.push ({ cls := .type "tuple", data := .seq ([] : List Value).toArray } : Obj))
    refine wpAny_pure (hQ _ fun b o' hb e => ?_)
    have e1 := ext b o' hb e
    rw [Heap.get?_update_other _ _ (Nat.ne_of_gt (Heap.lt_size e1))]
    exact Heap.get?_push_of_some _ e1
end
/-- what a block's or a def's context has of the handled error -/
def HotB (X : Cx) : Prop := ∃ (x1 : Addr) (ob : Obj) (vs : Array Value), X.A.handled = some (.ref x1) ∧ X.s_0.heap.get? x1 = some ob ∧ X.H_0 x1 = none ∧ x1 ∉ frs X.outer ∧ x1 ∉ X.ex ∧ ob.data = .fields vs ∧ vs[2]? = some .none
theorem HotB.at {X : Cx} {pins : List (Addr × Obj)} {σ : L2.St} {H : Hp} {s : Shared} (h : HotB X) (I : Inv X pins σ H s) : ∃ x1, HotX.HotAt X.A x1 s.heap := by
  obtain ⟨x1, ob, vs, h1, h2, h3, h4, h5, h6, h7⟩ := h
  exact ⟨x1, h1, ob, vs, I.base.keep x1 ob h2 h3 h4 h5, h6, h7⟩
section
variable {prog : Program} {w : World} {A : Around} {E : Value → Shared → Prop} {s : Shared}
theorem unlHot {l x1 : Addr} {items : Array Value} {Q : List Value → Shared → Prop} (hot : HotX.HotAt A x1 s.heap) (hl : s.heap.IsList l items)
    (hQ : ∀ h', Heap.ExtBut s.heap.objs.size s.heap h' → Q items.toList { s with heap := h' }) : wpAny (model prog w) A (unpackItems (.ref l) items.size none) Q E s := by
  have old : ∀ {c : Addr} {o : Obj}, s.heap.get? c = some o → c ≠ s.heap.objs.size := fun h => Nat.ne_of_lt (Heap.lt_size h)
  have hlt : l ≠ s.heap.objs.size := by obtain ⟨o, ho, _⟩ := hl; exact old ho
  obtain ⟨hh, o1, v1, g1, g2, g3⟩ := hot
  unfold unpackItems
  refine wpAny_bind (?_ : wpAny _ _ (notIterableAtAll _) _ _ _)
  unfold notIterableAtAll
  refine wpAny_bind (wpAny_specialOf hl.typeIs slot_list_iter.lookup (wpAny_pure ?_))
  simp only [Bool.false_eq_true, if_false]
  refine wpAny_bind (wpAny_holding (wpAny_pyIter_list hl (wpAny_bind (wpAny_holding (PySem.W.kun_draw hlt items.size 0 _ _ ⟨_, Heap.get?_push_size _ rfl, rfl, rfl⟩ (hl.push _) (by omega) fun h2 it2 same => ?_)))))
  rw [List.drop_zero, List.take_of_length_le (by simp), if_neg (by simp)]
  refine wpAny_bind (wpAny_holding (nextEndHot ⟨hh, o1, v1, same.extBut x1 o1 (old g1) (Heap.get?_push_of_some _ g1), g2, g3⟩ it2 ((hl.push _).extBut same.extBut hlt) (by simp) (old g1) fun h3 e3 => ?_))
  simp only [Option.isSome_none, Bool.false_eq_true, if_false]
  exact wpAny_pure (hQ h3 fun b o hb e => e3 b o hb (same.extBut b o hb (Heap.get?_push_of_some _ e)))
end
theorem pg_unlN {X : Cx} {pos : Pos} {es : List Expr} {k : Nat} {t : TGs} {n : Nat} (hot : HotB X) (h : PGs X es t) (hn : (assignEach es X.env).length = n := by rfl) (hst : (assignEach es X.env).findIdx? (·.1) = none := by rfl) : PG X (.Tuple es k pos) (gUnl X.K n t) := by
  refine ⟨fun pins s σ H v u Q I r ⟨a, xs, e1, hq, hl, want⟩ => ?_⟩
  subst e1
  cases r
  obtain ⟨its, rv, p, -⟩ := I.list hq
  obtain ⟨x1, hx1⟩ := hot.at I
  have many : (assignEach es X.env).length = its.toArray.size := by simp [hn, ← hl, rv.length]
  rw [PyProof.Rows.assign_Tuple]
  refine wpAny_bind (wpAny_standAt (?_ : wpAny _ _ (unpack _ _) _ _ _))
  unfold unpack
  rw [many, hst]
  refine wpAny_bind (wpAny_holding (unlHot hx1 p.isList fun h1 ext => ?_))
  exact h.run pins _ σ H xs _ Q (I.kept (t' := s.toks) fun b o e => ext b o (Nat.ne_of_lt (Heap.lt_size e)) e) (by simpa using rv) want
/-- turns over a list, calm or not -/
structure TurnN (P : Program) (w : World) (K : PySem.W.Frag) (tg : Expr) (J : It) (fp : List Addr) (it : Addr) (tn : Nat → Heap → Prop) : Prop where
  obj : ∀ i h, tn i h → ∀ b ∈ fp, ∃ o, h.get? b = some o ∧ ∀ v, o.data ≠ .cell v
  keep : ∀ i h h', tn i h → (∀ b ∈ fp, ∀ o, h.get? b = some o → h'.get? b = some o) → tn i h'
  item : ∀ (X : Cx), X.prog = P → X.w = w → X.K = K → ∀ (i : Nat) (pins : List (Addr × Obj)) (s : Shared) (σ : L2.St) (H : Hp) (E : Value → Shared → Prop), Inv X pins σ H s → (∀ b ∈ fp, FpOk X pins H b) → tn i s.heap → J.go i H →
    wpAny (model P w) X.A (pyNext (.ref it)) (fun r s1 => ∃ u, r = some u ∧ wpAny (model P w) X.A (letOwnedTupleGo tg (.ref it) u) (fun _ s2 => ∃ x H', Inv X pins σ H' s2 ∧ L2.RelV x u ∧ J.yld i H x H' ∧ tn (i + 1) s2.heap ∧ ∀ b ∈ fp, H' b = none) E s1) E s
  done : ∀ (X : Cx), X.prog = P → X.w = w → X.K = K → ∀ (x1 : Addr) (i : Nat) (pins : List (Addr × Obj)) (s : Shared) (σ : L2.St) (H : Hp) (E : Value → Shared → Prop), HotX.HotAt X.A x1 s.heap → x1 ∉ fp → Inv X pins σ H s → (∀ b ∈ fp, FpOk X pins H b) → tn i s.heap → J.stop i H →
    wpAny (model P w) X.A (pyNext (.ref it)) (fun r s1 => r = none ∧ Inv X pins σ H s1) E s
  self : ∀ (A : Around) (i : Nat) (s : Shared) (Q : Value → Shared → Prop) (E : Value → Shared → Prop), tn i s.heap → Q (.ref it) s → wpAny (model P w) A (pyIter (.ref it)) Q E s
theorem turnN_list {P : Program} {w : World} {K : PySem.W.Frag} {tg : Expr} (a it : Addr) : TurnN P w K tg (Itl K a) [it] it (fun i h => h.IsListIter it a i) where
  obj := fun i h st b hb => by
    cases List.mem_singleton.mp hb
    obtain ⟨o, e, -, d⟩ := st
    exact ⟨o, e, fun v z => by rw [d] at z; cases z⟩
  keep := fun i h h' st k => st.at fun o e => k it List.mem_cons_self o e
  item := by
    rintro X rfl rfl rfl i pins s σ H E I hf st ⟨xs, x, hq, hx⟩
    obtain ⟨its, rv, p, -⟩ := I.list hq
    obtain ⟨u, hu, ru⟩ := rv.get hx
    obtain ⟨f0, f1, f2, f3, f4, f5⟩ := hf it List.mem_cons_self
    refine wpAny_pyNext_list_item st p.isList (x := u) (by simpa using hu) fun h1 st1 sb => ?_
    have I1 : Inv X pins σ H { s with heap := h1 } := I.turned (t' := s.toks) (fun b o hb z => (sb.2 b hb).trans z) f0 f1 f3 f4 f5
    obtain ⟨o, e, c, d⟩ := id st1
    refine ⟨u, rfl, go_of (s := { s with heap := h1 }) e c d (by decide) ⟨x, H, I1, ru, ⟨rfl, fun ys hy => ?_⟩, st1, fun b hb => (hf b hb).1⟩⟩
    rw [I.list_inj hy hq]
    exact hx
  done := by
    rintro X rfl rfl rfl x1 i pins s σ H E hot hne I hf st ⟨xs, hq, hx⟩
    obtain ⟨its, rv, p, -⟩ := I.list hq
    obtain ⟨f0, f1, f2, f3, f4, f5⟩ := hf it List.mem_cons_self
    have hl := rv.length
    exact nextEndHot hot st p.isList (by simp; omega) (fun z => hne (z ▸ List.mem_cons_self)) fun h1 eb => ⟨rfl, I.turned (t' := s.toks) (fun b o hb z => eb b o hb z) f0 f1 f3 f4 f5⟩
  self := fun _ _ _ _ _ st h => wpAny_pyIter_listiter st h
section
variable {X : Cx}
theorem lcN_core {pins : List (Addr × Obj)} {s : Shared} {σ : L2.St} {H : Hp} {Q : VK} {use : Option (Value → Sem Unit)} {Qf : Value → Shared → Prop} {l : Expr} {tl : TE} {elt tg : Expr} {ifs : List Expr} {scope : Scope} {own : List (Str × Nat)} {pos pos' : Pos} {g : TG} {tt : TT} {te : TE} (hot : L2H.HotC X) (hN : X.N.Nodup) (I : Inv X pins σ H s) (hl : PE X l tl) (ok : BlkOk X.N X.env.scope scope own)
    (hg : ∀ (s : Shared) (H : Hp) (C : Addr) (cl : List (Str × Addr)) (fp : List Addr), HotB (X.blk s H scope (compEnvC scope cl C X.env) fp) → PG (X.blk s H scope (compEnvC scope cl C X.env) fp) tg g) (ht : ∀ (s : Shared) (H : Hp) (C : Addr) (cl : List (Str × Addr)) (fp : List Addr), PTs (X.blk s H scope (compEnvC scope cl C X.env) fp) ifs tt)
    (he : ∀ (s : Shared) (H : Hp) (C : Addr) (cl : List (Str × Addr)) (fp : List Addr), PE (X.blk s H scope (compEnvC scope cl C X.env) fp) elt te) (hs : ∀ x, foldedSetIterable l X.env x = pure x)
    (want : tLc (iList X.K tl) g tt te (own.map (·.2)) σ H Q) (after : ∀ D C s1 m H1, Inv X pins σ H1 s1 → Q (.ref D) H1 → s1.heap.Ns C m → FpOk X pins H1 C → compPost (model X.prog X.w) X.A X.xe use Qf (.ref D) C (.ok .next) s1) :
    wpAny (model X.prog X.w) X.A (comprehension (.ListComp elt [⟨tg, l, ifs, 0⟩] scope pos) scope X.env pos' (newList []) false (eval l X.env) use) Qf X.xe s := by
  have free : ∀ y ∈ scope.names, y.2 = .free → ∃ c, X.env.cells.lookup y.1 = some c := fun y hy e => (ok.free y hy e).elim (fun k => I.ok.has _ (.inl k)) fun k => I.ok.has _ (.inr k)
  refine wpAny_comprehension_free (use := use) rfl hs (closure_ok free) ok.kind (fun y hy e => by rw [ok.uniq y hy, e]) (thn (hl.run pins s σ H _ I want) fun v s1 got => ?_)
  obtain ⟨x, H1, I1, r1, a, ex, ⟨xs, hq⟩, rest⟩ := got
  subst ex
  cases r1
  obtain ⟨its, rv, p, -⟩ := I1.list hq
  refine wpAny_pyIter_list p.isList ?_
  generalize ei : s1.heap.objs.size = it
  have H1it : H1 it = none := I1.hok.fresh (Nat.le_of_eq ei)
  have fp1 : FpOk X pins H1 it := I1.fpOk (Nat.le_of_eq ei) H1it
  generalize e2 : ({ s1 with heap := s1.heap.push { cls := .type "list_iterator", data := .fields #[.ref a, .int 0 0] } } : Shared) = s2
  have I2 : Inv X pins σ H1 s2 := by
    subst e2
    exact I1.kept (t' := s1.toks) fun b o e => Heap.get?_push_of_some _ e
  have st2 : s2.heap.IsListIter it a 0 := by
    subst e2 ei
    exact ⟨_, Heap.get?_push_size _ rfl, rfl, rfl⟩
  have T := turnN_list (P := X.prog) (w := X.w) (K := X.K) (tg := tg) a it
  refine wpAny_newObj_type (newEnv_comp ?_) (by show 0 ≤ sizeLine; decide)
  generalize eD : s2.heap.objs.size = D
  have H1D : H1 D = none := I2.hok.fresh (Nat.le_of_eq eD)
  obtain ⟨W, ⟨m0, w0⟩, turn⟩ := rest D H1D
  generalize e3 : ({ s2 with heap := s2.heap.push { cls := .type "list", data := .seq ([] : List Value).toArray } } : Shared) = s3
  have h3 : s3.heap = s2.heap.push { cls := .type "list", data := .seq ([] : List Value).toArray } := by rw [← e3]
  have I3 : Inv X pins σ (upd H1 D (.lst [])) s3 := by
    subst e3
    refine I2.laid (t' := s2.toks) (fun b o e => Heap.get?_push_of_some _ e) (Nat.le_of_eq eD) ⟨Nat.zero_le _, [], 0, .nil, ?_⟩
    subst eD
    exact Heap.get?_push_size _ rfl
  have itD : it < s2.heap.objs.size := by
    obtain ⟨o, e, -⟩ := st2
    exact Heap.lt_size e
  have ne : it ≠ D := by omega
  have f3 : ∀ b ∈ [it], FpOk X pins (upd H1 D (.lst [])) b ∧ b < s3.heap.objs.size := fun b hb => by
    cases List.mem_singleton.mp hb
    refine ⟨⟨?_, fp1.2⟩, by rw [h3, Heap.size_push]; exact Nat.lt_succ_of_lt itD⟩
    rw [upd_ne ne]
    exact H1it
  have st3 : s3.heap.IsListIter it a 0 := T.keep 0 _ _ st2 fun b _ o e => by rw [h3]; exact Heap.get?_push_of_some _ e
  obtain ⟨⟨x1, ob1⟩, ⟨hh, v1, d1, n1⟩, inpn⟩ := hot
  have P3 := I3.pin (x1, ob1) (List.mem_append_left _ inpn)
  have offIt : x1 ∉ [it] := fun z => fp1.2.2.2.2.2 (x1, ob1) (List.mem_append_left _ inpn) (List.mem_singleton.mp z)
  have I4 := block_start I3 ok hN f3
  have pg := hg s3 (upd H1 D (.lst [])) s3.heap.objs.size (cellsFrom (s3.heap.objs.size + 1) scope.names (cloFrom X.env.cells scope.names [])) [it] ⟨x1, ob1, v1, hh, P3.1, P3.2.1, fun hm => (List.mem_cons.mp (I3.stkSub x1 hm)).elim P3.2.2.1 P3.2.2.2.1, offIt, d1, n1⟩
  have pt := ht s3 (upd H1 D (.lst [])) s3.heap.objs.size (cellsFrom (s3.heap.objs.size + 1) scope.names (cloFrom X.env.cells scope.names [])) [it]
  have pe := he s3 (upd H1 D (.lst [])) s3.heap.objs.size (cellsFrom (s3.heap.objs.size + 1) scope.names (cloFrom X.env.cells scope.names [])) [it]
  refine (show codeAny _ _ (.compStart (.ListComp elt [⟨tg, l, ifs, 0⟩] scope pos) 0 (.ref it) (.ref D) (compEnvC scope (cellsFrom (s3.heap.objs.size + 1) scope.names (cloFrom X.env.cells scope.names [])) s3.heap.objs.size X.env)) (compPost (model X.prog X.w) X.A X.xe use Qf (.ref D) s3.heap.objs.size) { s3 with heap := pushCells (s3.heap.push { cls := .type "dict", data := .dict #[] }) scope.names } from ?_)
  have H3it : (upd H1 D (.lst [])) it = none := (f3 it List.mem_cons_self).1.1
  generalize ec : compEnvC scope (cellsFrom (s3.heap.objs.size + 1) scope.names (cloFrom X.env.cells scope.names [])) s3.heap.objs.size X.env = ce at I4 pg pt pe ⊢
  have cL : ce.locals = s3.heap.objs.size := by subst ec; rfl
  generalize eH : upd H1 D (.lst []) = H3 at I3 I4 pg pt pe w0 H3it f3 P3
  generalize e4 : ({ s3 with heap := pushCells (s3.heap.push { cls := .type "dict", data := .dict #[] }) scope.names } : Shared) = s4 at I4 ⊢
  have st4 : s4.heap.IsListIter it a 0 := T.keep 0 _ _ st3 fun b _ o e => by rw [← e4]; exact pushCells_keeps _ _ _ _ (Heap.get?_push_of_some _ e)
  have fpB : ∀ {σ' : L2.St} {H' : Hp} {s' : Shared}, Inv (X.blk s3 H3 scope ce [it]) [] σ' H' s' → H' it = none → ∀ b ∈ [it], FpOk (X.blk s3 H3 scope ce [it]) [] H' b := fun {σ' H' s'} I' hn b hb => by
    have z := I'.ok.exf b hb
    refine ⟨by rw [List.mem_singleton.mp hb]; exact hn, z.1, I'.ok.exfs b hb, .inl hb, fun x c e => z.2 x c e, fun p hp => (by cases (show p ∈ ([] : List (Addr × Obj)) from hp))⟩
  have loop : codeAny (model X.prog X.w) X.A (.compLoop (.ListComp elt [⟨tg, l, ifs, 0⟩] scope pos) 0 (.ref it) (.ref D) ce) (compPost (model X.prog X.w) X.A X.xe use Qf (.ref D) s3.heap.objs.size) s4 := by
    refine compLoop_any (fun n s' => ∃ i H', Inv (X.blk s3 H3 scope ce [it]) [] (wipe σ (own.map (·.2))) H' s' ∧ s'.heap.IsListIter it a i ∧ H' it = none ∧ W i n H') ?_ m0 ⟨0, H3, I4, st4, H3it, w0⟩
    rintro n s5 ⟨i, H5, I5, st5, n5, w5⟩
    rcases turn i n H5 w5 with ⟨stop, fin⟩ | ⟨go, Nx, hNx, step⟩
    · have kept : s5.heap.get? x1 = some ob1 := I5.base.keep x1 ob1 P3.1 P3.2.1 (fun hm => (List.mem_cons.mp (I3.stkSub x1 hm)).elim P3.2.2.1 P3.2.2.2.1) offIt
      refine thnF (T.done (X.blk s3 H3 scope ce [it]) rfl rfl rfl x1 i [] s5 _ H5 (fun _ _ => False) ⟨hh, ob1, v1, kept, d1, n1⟩ offIt I5 (fpB I5 n5) st5 stop) fun r s6 ⟨hr, I6⟩ => ?_
      subst hr
      have I7 : Inv X pins σ H5 s6 := I3.call' (ch := [it]) I6.os I6.base I6.hok I6.bare fun b hb => ⟨(f3 b hb).1.2.2.2.1, (f3 b hb).1.2.1, (f3 b hb).1.2.2.2.2.1, (f3 b hb).1.2.2.2.2.2⟩
      have nC : H5 s3.heap.objs.size = none := by
        have z : H5 ce.locals = none := I6.free
        rwa [cL] at z
      obtain ⟨m, names, -⟩ := I6.loc
      have names : s6.heap.Ns ce.locals m := names
      rw [cL] at names
      exact after D s3.heap.objs.size s6 m H5 I7 fin names (I3.fpOk (Nat.le_refl _) nC)
    · refine thnF (T.item (X.blk s3 H3 scope ce [it]) rfl rfl rfl i [] s5 _ H5 (fun _ _ => False) I5 (fpB I5 n5) st5 go) fun r s6 ⟨u, hr, h6⟩ => ?_
      subst hr
      refine thnF h6 fun _ s7 ⟨x, H7, I7, r7, y7, st7, n7⟩ => ?_
      have I7' := I7.pinned (fpB I7 (n7 it List.mem_cons_self)) (T.obj _ _ st7)
      refine thnF (pg.run _ s7 _ H7 x u _ I7' r7 (step x H7 y7)) fun _ s8 ⟨σ8, H8, I8, hw8, q8⟩ => thnF (pt.run _ s8 σ8 H8 _ I8 q8) fun b s9 ⟨H9, I9, q9⟩ => ?_
      have again : ∀ {s' : Shared} {H' : Hp}, Inv (X.blk s3 H3 scope ce [it]) ([] ++ pinsAt [it] s7.heap) σ8 H' s' → Nx H' → ∃ m, m < n ∧ ∃ i H', Inv (X.blk s3 H3 scope ce [it]) [] (wipe σ (own.map (·.2))) H' s' ∧ s'.heap.IsListIter it a i ∧ H' it = none ∧ W i m H' := fun {s' H'} I' nx => by
        obtain ⟨m1, less, w1⟩ := hNx H' nx
        have pinned : ∀ o, s7.heap.get? it = some o → s'.heap.get? it = some o ∧ H' it = none := fun o e => by
          have z := I'.pin (it, o) (List.mem_append_right _ (List.mem_append_right _ (mem_pinsAt List.mem_cons_self e)))
          exact ⟨z.1, z.2.1⟩
        obtain ⟨o, e, -⟩ := T.obj _ _ st7 it List.mem_cons_self
        refine ⟨m1, less, i + 1, H', (I'.unpinned (pins := [])).weak (by rw [← hw8, wipe_length]) (fun j v z => ?_), T.keep _ _ _ st7 fun b hb o e => ?_, (pinned o e).2, w1⟩
        · rw [← hw8] at z
          exact (wipe_some z).1
        · cases List.mem_singleton.mp hb
          exact (pinned o e).1
      cases b with
      | false =>
        simp only [Bool.false_eq_true, if_false] at q9 ⊢
        exact again I9 q9
      | true =>
        simp only [if_true] at q9 ⊢
        refine thnF (pe.run _ s9 σ8 H9 _ I9 q9) fun z s10 ⟨yv, H10, I10, r10, acc, hD10, hz10, nx⟩ => ?_
        exact app_ok (X := X.blk s3 H3 scope ce [it]) I10 hD10 hz10 r10 fun s11 I11 => again I11 nx
  exact codeAny_compStart_list loop (T.self X.A 0 _ _ _ st4 loop)
theorem pe_lcN {l : Expr} {tl : TE} {elt tg : Expr} {ifs : List Expr} {scope : Scope} {own : List (Str × Nat)} {pos : Pos} {g : TG} {tt : TT} {te : TE} (hot : L2H.HotC X) (hN : X.N.Nodup) (hl : PE X l tl) (ok : BlkOk X.N X.env.scope scope own)
    (hg : ∀ (s : Shared) (H : Hp) (C : Addr) (cl : List (Str × Addr)) (fp : List Addr), HotB (X.blk s H scope (compEnvC scope cl C X.env) fp) → PG (X.blk s H scope (compEnvC scope cl C X.env) fp) tg g) (ht : ∀ (s : Shared) (H : Hp) (C : Addr) (cl : List (Str × Addr)) (fp : List Addr), PTs (X.blk s H scope (compEnvC scope cl C X.env) fp) ifs tt)
    (he : ∀ (s : Shared) (H : Hp) (C : Addr) (cl : List (Str × Addr)) (fp : List Addr), PE (X.blk s H scope (compEnvC scope cl C X.env) fp) elt te) (hs : ∀ x, foldedSetIterable l X.env x = pure x := by intro _; rfl) :
    PE X (.ListComp elt [⟨tg, l, ifs, 0⟩] scope pos) (tLc (iList X.K tl) g tt te (own.map (·.2))) := ⟨fun pins s σ H Q I want => by
  rw [eval_ListComp]
  refine lcN_core hot hN I hl ok hg ht he hs want fun D C s1 m H1 I1 q names far => ⟨m, names, fun h2 sb => ?_⟩
  obtain ⟨f0, f1, f2, f3, f4, f5⟩ := far
  exact ⟨.ref D, H1, I1.turned (t' := s1.toks) (fun b o hb e => (sb.2 b hb).trans e) f0 f1 f3 f4 f5, rfl, q⟩⟩
theorem ps_setLcN {i : Nat} {y : Str} {py spos : Pos} {l : Expr} {tl : TE} {elt tg : Expr} {ifs : List Expr} {scope : Scope} {own : List (Str × Nat)} {pos : Pos} {g : TG} {tt : TT} {te : TE} (hot : L2H.HotC X) (hN : X.N.Nodup) (hy : X.N[i]? = some y) (loc : X.env.scope.names.lookup y = some .local)
    (sw : swapsWith (.ListComp elt [⟨tg, l, ifs, 0⟩] scope pos) (some (.Name y py)) spos.line X.env = pure true) (hl : PE X l tl) (ok : BlkOk X.N X.env.scope scope own)
    (hg : ∀ (s : Shared) (H : Hp) (C : Addr) (cl : List (Str × Addr)) (fp : List Addr), HotB (X.blk s H scope (compEnvC scope cl C X.env) fp) → PG (X.blk s H scope (compEnvC scope cl C X.env) fp) tg g) (ht : ∀ (s : Shared) (H : Hp) (C : Addr) (cl : List (Str × Addr)) (fp : List Addr), PTs (X.blk s H scope (compEnvC scope cl C X.env) fp) ifs tt)
    (he : ∀ (s : Shared) (H : Hp) (C : Addr) (cl : List (Str × Addr)) (fp : List Addr), PE (X.blk s H scope (compEnvC scope cl C X.env) fp) elt te) (hs : ∀ x, foldedSetIterable l X.env x = pure x := by intro _; rfl) :
    PS X (.Assign [.Name y py] (.ListComp elt [⟨tg, l, ifs, 0⟩] scope pos) spos) (tAsg (tLc (iList X.K tl) g tt te (own.map (·.2))) (gName i)) := ⟨fun pins s σ H D I want => by
  rw [exec_Assign_Name_used _ _ _ _ sw]
  refine wpAny_bind (wpAny_standAt (wpAny_bind (?_ : wpAny _ X.A (do let _ ← comprehension (.ListComp elt [⟨tg, l, ifs, 0⟩] scope pos) scope X.env (firstIterPos [⟨tg, l, ifs, 0⟩] pos) (newList []) false (eval l X.env) (some (assign (.Name y py) X.env))) _ _ s)))
  have want : tLc (iList X.K tl) g tt te (own.map (·.2)) σ H (fun x H1 => gName i x σ H1 D.nx) := want
  refine wpAny_bind (thn (lcN_core (Qf := fun _ s1 => SP X pins D .next s1) hot hN I hl ok hg ht he hs want fun L C s1 m H1 I1 q names far => ?_) fun _ s1 hq => wpAny_pure (wpAny_pure hq))
  refine (?_ : wpAny _ _ (assign (.Name y py) X.env (.ref L)) _ _ _)
  refine wpAny_assign_Name (store_ok2 (v := V.ref L) I1 hN hy (.inl loc) rfl (fun s2 I2 ⟨c, sb, hc⟩ => ?_) (.inr loc))
  obtain ⟨f0, f1, f2, f3, f4, f5⟩ := far
  have off : C ≠ c := hc.elim (fun z => z ▸ f1) fun z e => f4 y c z e.symm
  exact ⟨m, names.sameBut sb off, fun h3 sb3 => ⟨_, H1, I2.turned (t' := s2.toks) (fun b o hb e => (sb3.2 b hb).trans e) f0 f1 f3 f4 f5, q⟩⟩⟩
end
end CC

set_option Elab.async false
set_option linter.all false
set_option maxRecDepth 100000
set_option maxHeartbeats 2000000
/-! CC22: while an error is handled: what is known of it, defs called there. -/
namespace CC
open PySem PySem.Spec PyProof.Rows L2 LamX
def CI.withX (c : CI) (xs : List (Addr × List (Str × V))) : CI := ⟨c.c, c.T, xs⟩
section
variable {K : PySem.W.Frag} {cA cB : CI} {F : Fz} {p : List Addr}
mutual
theorem VR.ci (h : cA.c = cB.c) : ∀ {x : Val} {v : V}, VR K cA F p x v → VR K cB F p x v
  | _, _, .non => .non
  | _, _, .bl b => .bl b
  | _, _, .int i => .int i
  | _, _, .str i => .str i
  | _, _, .tup a b => .tup a (VRs.ci h b)
  | _, _, .lst a b => .lst a (VRs.ci h b)
  | _, _, .dct a b => .dct a (KVR.ci h b)
  | _, _, .obj (C := C) a b => .obj (C := C) (by rw [← h]; exact a) (FVR.ci h b)
  | _, _, .ref e => .ref e
  | _, _, .cls C => by
    have : cA.c C = cB.c C := by rw [h]
    show VR K cB F p (.cls C) (.ref (cA.c C))
    rw [this]
    exact .cls C
  | _, _, .ty n => .ty n
  | _, _, .scr a => .scr a
  | _, _, .vw a => .vw a
theorem VRs.ci (h : cA.c = cB.c) : ∀ {x : List Val} {v : List V}, VRs K cA F p x v → VRs K cB F p x v
  | _, _, .nil => .nil
  | _, _, .cons a b => .cons (VR.ci h a) (VRs.ci h b)
theorem KVR.ci (h : cA.c = cB.c) : ∀ {x : List (DKey × Val)} {v : List (L2.Key × V)}, KVR K cA F p x v → KVR K cB F p x v
  | _, _, .nil => .nil
  | _, _, .cons k a b => .cons k (VR.ci h a) (KVR.ci h b)
theorem FVR.ci (h : cA.c = cB.c) : ∀ {x : List (Nat × Val)} {v : List (Str × V)}, FVR K cA F p x v → FVR K cB F p x v
  | _, _, .nil => .nil
  | _, _, .cons k a b => .cons k (VR.ci h a) (FVR.ci h b)
end
theorem CR.ci {H : Hp} {a : Addr} {c : Cell} (h : cA.c = cB.c) (x : CR K cA F p H a c) : CR K cB F p H a c := by
  cases c with
  | lst xs => obtain ⟨vs, h1, h2⟩ := x; exact ⟨vs, h1, h2.ci h⟩
  | dct xs => obtain ⟨vs, h1, h2⟩ := x; exact ⟨vs, h1, h2.ci h⟩
  | obj C xs => obtain ⟨dx, vs, h1, h2⟩ := x; exact ⟨dx, vs, by rw [← h]; exact h1, h2.ci h⟩
theorem Rel.ci {mu : Store} {H : Hp} (h : cA.c = cB.c) (hT : cA.T = cB.T) (hx : ∀ q ∈ cB.x, F.f q.1 = some (.xd q.2)) (R : Rel K cA F p mu H) : Rel K cB F p mu H :=
  ⟨R.sub, R.len, R.nd, R.off, fun r a c h1 h2 => (R.cell r a c h1 h2).ci h, R.hid, hT ▸ R.tab, hx, R.nf, R.ng⟩
theorem EnvR.ci {r : Env1} {s : L2.St} (h : cA.c = cB.c) (e : EnvR K cA F p r s) : EnvR K cB F p r s := ⟨e.1, fun i x hx => let ⟨v, h1, h2⟩ := e.2 i x hx; ⟨v, h1, h2.ci h⟩⟩
end
/-- what is known of the handled error: its class, its dict -/
def HotP (X : Cx) (a : Addr) (cls : Value) (d : Option Addr) : Prop := ∃ (oe : Obj) (vs : Array Value), (a, oe) ∈ X.pn ∧ X.A.handled = some (.ref a) ∧ oe.cls = cls ∧ oe.dict = d ∧ oe.data = .fields vs ∧ vs[2]? = some .none
theorem HotP.hot {X : Cx} {a : Addr} {cls : Value} {d : Option Addr} (h : HotP X a cls d) : L2H.HotC X := by
  obtain ⟨oe, vs, h1, h2, -, -, h5, h6⟩ := h
  exact ⟨(a, oe), ⟨h2, vs, h5, h6⟩, h1⟩
def DX (d : Option Addr) (xs : List (Addr × List (Str × V))) : Prop := (d = none ∧ xs = []) ∨ ∃ dx gs, d = some dx ∧ xs = [(dx, gs)]
/-- what own error classes have, for isinstance and attributes -/
structure ExK (K : PySem.W.Frag) (C : Addr) : Prop where
  cl : (PySem.W.clsIn K C).isSome = true
  ga : PySem.W.findIn K (.ref C) "__getattribute__" = some (some (.builtin "BaseException.__getattribute__"))
  gg : PySem.W.findIn K (.ref C) "__getattr__" = some none
  sub : PySem.W.subIn K (.ref C) (.type "BaseException") = some true
  hd : PySem.W.hasDictIn K C = true
  ca : PySem.W.findIn K (.ref C) "__class__" = some (some (.builtin "object.__class__"))
  sn : PySem.W.specialIn K (.builtin "object.__class__") "__get__" = some (some (.builtin "getset_descriptor.__get__"))
  tk : PySem.W.takesIn K (.builtin "object.__class__") = some true
  mo : PySem.W.mroIn K C (.type "object") = some true
section
variable {X : Cx} {cA : CI} {a : Addr} {d : Option Addr} {D : Addr}
theorem hot_inst {pins : List (Addr × Obj)} {σ : L2.St} {H : Hp} {s : Shared} {F : Fz} {p : List Addr} {mu : Store} (hp : HotP X a (.ref D) d) (hd : DX d cA.x) (I : Inv X pins σ H s) (R : Rel X.K cA F p mu H) : ∃ oe od, PySem.W.InstAt s.heap a oe D od := by
  obtain ⟨oe, vs, h1, h2, h3, h4, h5, h6⟩ := hp
  have at_ := (I.pin (a, oe) (List.mem_append_left _ h1)).1
  have nc : PySem.W.notCls oe := by unfold PySem.W.notCls; rw [h5] <;> rfl
  rcases hd with ⟨rfl, hx⟩ | ⟨dx, gs, rfl, hx⟩
  · exact ⟨oe, none, at_, h3, nc, by rw [h4]; trivial⟩
  · have e := R.sub _ _ (R.xds (dx, gs) (by rw [hx]; exact List.mem_cons_self))
    obtain ⟨mA, hns, hr⟩ := (show ObjOk X.prog X.w H s.heap dx (.xd gs) from I.hok dx _ e)
    obtain ⟨od, ho, -⟩ := lookIn_ns hns
    exact ⟨oe, some od, at_, h3, nc, by rw [h4]; exact ho⟩
/-- isinstance(e, c), isinstance(e, (c, ..)) -/
def tgOf : Val → Option Tg
  | .cls n => some (.inr n)
  | .ty t => some (.inl t)
  | _ => none
def anyK (k : Tg → Option Bool) : List Tg → Option Bool
  | [] => some false
  | t :: ts => match k t with
    | some true => some true
    | some false => anyK k ts
    | none => none
def isxV (a : Addr) (C : Nat) (kt : Tg → Tg → Option Bool) (_ : Store) : List Val → Option Val
  | [.vw (.ref b), .tup cs] => if b = a then (mapO tgOf cs).bind fun ts => (anyK (kt (.inr C)) ts).map Val.bl else none
  | [.vw (.ref b), c] => if b = a then (tgOf c).bind fun t => (kt (.inr C) t).map Val.bl else none
  | _ => none
theorem tg_vals {K : PySem.W.Frag} {F : Fz} {p : List Addr} : ∀ {cs : List Val} {ts : List Tg} {vs : List V} {its : List Value}, mapO tgOf cs = some ts → VRs K cA F p cs vs → L2.Vals vs its → its = ts.map (tagV cA)
  | [], _, _, _, e, .nil, r => by
    cases e
    cases r
    rfl
  | c :: cs, _, _, _, e, .cons h t, r => by
    obtain ⟨y, ys, e1, e2, rfl⟩ := mapO_cons e
    cases r with
    | cons r1 r2 =>
      rw [tg_vals e2 t r2]
      cases c with
      | cls n => cases e1; cases h; cases r1; rfl
      | ty n => cases e1; cases h; cases r1; rfl
      | _ => cases e1
theorem anyK_ok {K : PySem.W.Frag} {kt : Tg → Tg → Option Bool} {ic : Nat → Bool} (T : KI K cA kt ic) {c : Tg} : ∀ {ts : List Tg} {b : Bool}, anyK (kt c) ts = some b → PySem.W.kitAny K (tagV cA c) (ts.map (tagV cA)) = some b
  | [], _, e => e
  | t :: ts, b, e => by
    unfold anyK at e
    show (match PySem.W.kitOne K (tagV cA c) (tagV cA t) with
      | some true => some true
      | some false => PySem.W.kitAny K (tagV cA c) (ts.map (tagV cA))
      | none => none) = some b
    cases h : kt c t with
    | none => rw [h] at e; cases e
    | some k =>
      rw [h] at e
      rw [T.ok _ _ _ h]
      cases k with
      | true => exact e
      | false => exact anyK_ok T e
theorem b_isx {C : Nat} {kt : Tg → Tg → Option Bool} {ic : Nat → Bool} (T : KI X.K cA kt ic) (hp : HotP X a (.ref (cA C)) d) (hd : DX d cA.x) (E : ExK X.K (cA C)) : CallR X (.builtin "isinstance") (GA X.K cA (isxV a C kt)) := by
  intro pins s σ H xs us Q I r h
  obtain ⟨F, p, mu, as, z, R, ra, e, q⟩ := h
  obtain ⟨oe, od, J⟩ := hot_inst hp hd I R
  have Z : PySem.W.KitX X.K (.ref a) (.ref (cA C)) (fun h => PySem.W.InstAt h a oe (cA C) od) := PySem.W.kitx_exc E.cl E.ga E.gg E.sub E.ca E.sn E.tk E.mo
  have fin : ∀ b : Bool, z = .bl b → ∀ tk, EP X pins σ Q (.bool b) { s with toks := tk } := fun b ez tk => by
    subst ez
    exact ⟨.bl b, H, I.tok tk, rfl, q.now R (.bl b)⟩
  unfold isxV at e
  split at e
  · rename_i b cs
    obtain ⟨v, w, rfl, rv, rw'⟩ := vrs2 ra
    by_cases hb : b = a
    · subst hb
      rw [if_pos rfl] at e
      obtain ⟨ts, e1, e2⟩ := Option.bind_eq_some_iff.mp e
      obtain ⟨k, e3, e4⟩ := Option.map_eq_some_iff.mp e2
      cases rv
      cases rw' with
      | tup g1 g2 =>
        obtain ⟨u1, u2, rfl, r1, r2⟩ := vals2 r
        cases r1
        cases r2
        obtain ⟨its, rits, ⟨o, at_, oc, n, od'⟩, -⟩ := I.tuple (sub_t R.sub g1)
        obtain ⟨oc', odd, oda, osl⟩ := o
        simp only at oc od'
        subst oc od'
        have ei := tg_vals e1 g2 rits
        subst ei
        exact PySem.W.kia_tup Z I.kIn J at_ (anyK_ok T (c := .inr C) e3) (fun z => nomatch z) (fin k e4.symm)
    · rw [if_neg hb] at e; cases e
  · rename_i b c _
    obtain ⟨v, w, rfl, rv, rw'⟩ := vrs2 ra
    by_cases hb : b = a
    · subst hb
      rw [if_pos rfl] at e
      obtain ⟨t, e1, e2⟩ := Option.bind_eq_some_iff.mp e
      obtain ⟨k, e3, e4⟩ := Option.map_eq_some_iff.mp e2
      cases rv
      obtain ⟨u1, u2, rfl, r1, r2⟩ := vals2 r
      cases r1
      have ev : u2 = tagV cA t := by
        cases c with
        | cls n => cases e1; cases rw'; cases r2; rfl
        | ty n => cases e1; cases rw'; cases r2; rfl
        | _ => cases e1
      subst ev
      exact PySem.W.kia_one Z I.kIn J (T.ok (.inr C) t k e3) (fun z => nomatch z) (fin k e4.symm)
    · rw [if_neg hb] at e; cases e
  · cases e
/-- e.f -/
def xatV (a : Addr) (xs : List (Addr × List (Str × V))) (n : Nat) (_ : Store) : Val → Option Val
  | .vw (.ref b) => if b = a then (match xs with
    | [(_, gs)] => (gs.lookup (aN n)).map .vw
    | _ => none) else none
  | _ => none
theorem c_xat {W : WX} {e : Expr} {m : M Val} {pos : Pos} {C n : Nat} {f : Str} (hp : HotP X a (.ref (cA C)) d) (hd : DX d cA.x) (E : ExK X.K (cA C)) (no : PySem.W.findIn X.K (.ref (cA C)) (aN n) = some none) (ha : PEM X cA W e m) (hf : f = aN n := by decide +kernel) (hb : attributeBase e f X.env (eval e X.env) = eval e X.env := by rfl) :
    PEM X cA W (.Attribute e f pos) (u1 (xatV a cA.x n) m) := by
  subst hf
  refine ⟨fun pins s σ H Q I ⟨F, p, r, mu, h1, h2, h3⟩ => ?_⟩
  have hd' : DE X.K cA W m σ H (fun x H1 => ∃ F1 p1 mu1 y z, Rel X.K cA F1 p1 mu1 H1 ∧ VR X.K cA F1 p1 y x ∧ xatV a cA.x n mu1 y = some z ∧ GQ X.K cA F1 p1 mu1 z Q) := bindAt h1 h2 h3 fun F1 p1 mu1 x v H1 a1 b1 c1 d1 e1 f1 => by
    obtain ⟨z, ez, q⟩ := post_opt f1
    exact ⟨F1, p1, mu1, x, z, c1, e1, ez, q⟩
  refine attr_of hb (thn (ha.run pins s σ H _ I hd') fun u s1 hh => ?_)
  obtain ⟨x, H1, I1, rx, F1, p1, mu1, y, z, R1, ry, ez, q⟩ := hh
  unfold xatV at ez
  split at ez
  · rename_i b
    by_cases hb' : b = a
    · subst hb'
      rw [if_pos rfl] at ez
      split at ez
      · rename_i dx gs hx
        obtain ⟨v, ev, rfl⟩ := Option.map_eq_some_iff.mp ez
        cases ry
        cases rx
        obtain ⟨oe, vs, g1, g2, g3, g4, g5, g6⟩ := hp
        have at_ := (I1.pin (b, oe) (List.mem_append_left _ g1)).1
        rcases hd with ⟨_, hx'⟩ | ⟨dx', gs', rfl, hx'⟩
        · rw [hx'] at hx; cases hx
        · rw [hx'] at hx
          cases hx
          have ed := R1.sub _ _ (R1.xds (dx, gs) (by rw [hx']; exact List.mem_cons_self))
          obtain ⟨mA, hns, hr⟩ := (show ObjOk X.prog X.w H1 s1.heap dx (.xd gs) from I1.hok dx _ ed)
          obtain ⟨od, ho, hl⟩ := lookIn_ns hns
          obtain ⟨u, hu, ru⟩ := RelO.some_of (v := v) (o := mA (aN n)) (by rw [← ev]; exact hr (aN n))
          have J : PySem.W.InstAt s1.heap b oe (cA C) (some od) := ⟨at_, g3, by unfold PySem.W.notCls; rw [g5] <;> rfl, by rw [g4]; exact ho⟩
          exact HandSPX.exc_get I1.kIn J E.ga E.gg E.sub (PySem.W.findObj_own E.hd no rfl (by rw [hl, hu])) (handed_of ru) ⟨v, H1, I1.tok _, ru, q.now R1 (.vw v)⟩
      · cases ez
    · rw [if_neg hb'] at ez; cases ez
  · cases ez
end
/-! ### a comprehension over a list there -/
theorem den_itL {K : PySem.W.Frag} {cA : CI} {W : WX} {m : M Val} {s : L2.St} {H : Hp} {Q : It → Hp → Prop} (h : Den K cA (ItR K cA) W (itL m) s H Q) : iList K (DE K cA W m) s H Q := by
  obtain ⟨F, p, r, mu, h1, h2, h3⟩ := h
  unfold itL at h3
  exact bindAt h1 h2 h3 fun F1 p1 mu1 x v H1 a1 b1 c1 d1 e1 f1 => by
    cases e1 with
    | lst g1 g2 => exact ⟨_, rfl, ⟨_, SqL.of (c1.sub _ _ g1)⟩, f1 F1 p1 H1 _ (Sub.refl F1) (List.prefix_refl p1) c1 (itr_lst (SqL.of g1) g2)⟩
    | scr g1 => exact ⟨_, rfl, ⟨_, sub_l c1.sub g1⟩, f1 F1 p1 H1 _ (Sub.refl F1) (List.prefix_refl p1) c1 (itr_lst g1 (.map_int _))⟩
    | @ref k ad hk =>
      obtain ⟨cl, g1, g2⟩ := c1.at_some hk
      simp only [g1] at f1
      cases cl with
      | lst xs =>
        obtain ⟨vs, g3, g4⟩ := g2
        exact ⟨ad, rfl, ⟨vs, SqL.of g3⟩, f1 F1 p1 H1 _ (Sub.refl F1) (List.prefix_refl p1) c1 (itr_cell hk)⟩
      | dct _ => exact f1.elim
      | obj _ _ => exact f1.elim
    | _ => exact f1.elim
section
variable {X : Cx} {cA : CI} {W : WX} {elt tg l : Expr} {ifs : List Expr} {scope : Scope} {pos spos py : Pos} {ml : M Val} {is : List Nat} {f : Val → Option (List Val)} {t : M Bool} {e : M Val}
theorem c_lcN (own : List (Str × Nat)) (hot : L2H.HotC X) (hN : X.N.Nodup) (hl : PEM X cA W l ml)
    (hg : ∀ (s : Shared) (H : Hp) (C : Addr) (cl : List (Str × Addr)) (fp : List Addr), HotB (X.blk s H scope (compEnvC scope cl C X.env) fp) → PCM (X.blk s H scope (compEnvC scope cl C X.env) fp) cA tg is f) (ht : ∀ (s : Shared) (H : Hp) (C : Addr) (cl : List (Str × Addr)) (fp : List Addr), PTsM (X.blk s H scope (compEnvC scope cl C X.env) fp) cA ifs t)
    (he : ∀ (s : Shared) (H : Hp) (C : Addr) (cl : List (Str × Addr)) (fp : List Addr), PEM (X.blk s H scope (compEnvC scope cl C X.env) fp) cA WF elt e) (ok : BlkOk X.N X.env.scope scope own) (his : ∀ i ∈ is, i ∈ own.map (·.2) := by decide) (hs : ∀ x, foldedSetIterable l X.env x = pure x := by intro _; rfl) :
    PEM X cA W (.ListComp elt [⟨tg, l, ifs, 0⟩] scope pos) (lcM (itL ml) is f t e (own.map (·.2))) :=
  pe_weak (pe_lcN (g := DC X.K cA is f) (tt := DT X.K cA WF t) (te := DE X.K cA WF e) hot hN hl ok hg ht he hs) fun s H Q h => den_itL (den_lc his h)
theorem s_setLcN {i : Nat} {y : Str} (own : List (Str × Nat)) (hot : L2H.HotC X) (hN : X.N.Nodup) (hl : PEM X cA W l ml)
    (hg : ∀ (s : Shared) (H : Hp) (C : Addr) (cl : List (Str × Addr)) (fp : List Addr), HotB (X.blk s H scope (compEnvC scope cl C X.env) fp) → PCM (X.blk s H scope (compEnvC scope cl C X.env) fp) cA tg is f) (ht : ∀ (s : Shared) (H : Hp) (C : Addr) (cl : List (Str × Addr)) (fp : List Addr), PTsM (X.blk s H scope (compEnvC scope cl C X.env) fp) cA ifs t)
    (he : ∀ (s : Shared) (H : Hp) (C : Addr) (cl : List (Str × Addr)) (fp : List Addr), PEM (X.blk s H scope (compEnvC scope cl C X.env) fp) cA WF elt e) (ok : BlkOk X.N X.env.scope scope own)
    (hsw : swapsWith (.ListComp elt [⟨tg, l, ifs, 0⟩] scope pos) (some (.Name y py)) spos.line X.env = pure true) (hy : X.N[i]? = some y := by rfl) (hyl : X.env.scope.names.lookup y = some .local := by rfl) (his : ∀ i ∈ is, i ∈ own.map (·.2) := by decide) (hs : ∀ x, foldedSetIterable l X.env x = pure x := by intro _; rfl) :
    PSM X cA W (.Assign [.Name y py] (.ListComp elt [⟨tg, l, ifs, 0⟩] scope pos) spos) (asgS (lcM (itL ml) is f t e (own.map (·.2))) (gNameM i)) :=
  ps_weak (ps_setLcN (g := DC X.K cA is f) (tt := DT X.K cA WF t) (te := DE X.K cA WF e) hot hN hy hyl hsw hl ok hg ht he hs) fun D s H ⟨F, p, r, mu, h1, h2, h3⟩ => by
    show tLc (iList X.K (DE X.K cA W ml)) (DC X.K cA is f) (DT X.K cA WF t) (DE X.K cA WF e) (own.map (·.2)) s H (fun x H1 => gName i x s H1 D.nx)
    have k : tLc (Den X.K cA (ItR X.K cA) W (itL ml)) (DC X.K cA is f) (DT X.K cA WF t) (DE X.K cA WF e) (own.map (·.2)) s H (fun x H1 => gName i x s H1 D.nx) := den_lc (W := W) his (bindAtS h1 h2 h3 fun F1 p1 mu1 x v H1 a1 b1 c1 d1 e1 f1 => f1 F1 p1 H1 _ (Sub.refl F1) (List.prefix_refl p1) c1 (d1.set e1))
    exact den_itL k
end
theorem pc_lstN {X : Cx} {cA : CI} {es : List Expr} {is : List Nat} {k : Nat} {pos : Pos} (hot : HotB X) (hN : X.N.Nodup) (h : PNs X es is) (hst : (assignEach es X.env).findIdx? (·.1) = none := by rfl) (hn : (assignEach es X.env).length = is.length := by rfl) : PCM X cA (.Tuple es k pos) is (lstC is.length) :=
  pg_weak (pg_unlN hot (pns_run hN h) hn hst) fun v s H Q ⟨F, p, mu, x, as, h1, h2, h3, h4⟩ => by
    cases h2 with
    | @lst a xs vs g1 g2 =>
      simp only [lstC] at h3
      by_cases hl : xs.length = is.length
      · rw [if_pos hl] at h3
        cases h3
        exact ⟨a, vs, rfl, SqL.of (h1.sub _ _ g1), by rw [← g2.length]; exact hl, by rw [← g2.length]; exact hl, h4 vs g2⟩
      · rw [if_neg hl] at h3; cases h3
    | _ => cases h3
end CC

set_option Elab.async false
set_option linter.all false
set_option maxRecDepth 100000
set_option maxHeartbeats 2000000
/-! CC23: defs called while an error is handled. -/
namespace CC
open PySem PySem.Spec PyProof.Rows L2 LamX
abbrev MH := Addr → Nat → List (Addr × List (Str × V)) → List Val → Store → R Val
def FnMH (P : Program) (w : World) (K : PySem.W.Frag) (mg : Str → Option Value) (base : Heap) (cA : CI) (k : Nat) (f : Addr) (L : Nat → Prop) (m : MH) : Prop :=
  ∀ (A : Around) (outer : List Env) (s : Shared) (H : Hp) (us : List Value) (vs : List V) (Q : VK) (E : XK) (p : Addr × Obj) (C : Nat) (d : Option Addr) (xs : List (Addr × List (Str × V))), L C → L2H.RoomH k A → L2H.Hot1 A p → L2H.PinOk outer H s p → p.2.cls = .ref (cA C) → p.2.dict = d → DX d xs →
    Env0 P w K mg base A outer s H → L2.Vals vs us → SpM K (cA.withX xs) (m p.1 C xs) vs H Q E → codeAny (model P w) A (.call (.ref f) ⟨us, []⟩) (L2.CR (L2N.CX P w) outer P w H s Q E) s
theorem def_okH {P : Program} {w : World} {K : PySem.W.Frag} {mg : Str → Option Value} {base : Heap} {cA : CI} {x qual : Str} {params : Arguments} {body : List Stmt} {scope : Scope} {kws : List (Str × V)} {f : Addr} {fd : FuncData} {N ps : List Str} {k np nn : Nat} {L : Nat → Prop} {mb : Addr → Nat → List (Addr × List (Str × V)) → MS}
    (F : FunD K x qual params body scope [] kws f fd) (S : FnScope N ps scope) (bnd : Binds K fd ps []) (hp : ps.length = np) (hn : N.length = nn)
    (h : ∀ (cdv : Value) (A : Around) (outer : List Env) (s : Shared) (H : Hp) (E : XK) (p : Addr × Obj) (C : Nat) (d : Option Addr) (xs : List (Addr × List (Str × V))), L C → L2H.RoomH k (A.deeper (envOfC qual scope s.heap.objs.size f cdv)) → HotP (L2H.cxH (L2N.CX P w) P w K mg base N qual scope f cdv A outer s H E p) p.1 (.ref (cA C)) d → DX d xs →
      L2N.Takes (L2H.cxH (L2N.CX P w) P w K mg base N qual scope f cdv A outer s H E p) (Wf E) → PSSM (L2H.cxH (L2N.CX P w) P w K mg base N qual scope f cdv A outer s H E p) (cA.withX xs) (Wf E) body (mb p.1 C xs)) :
    FnMH P w K mg base cA (k + 1) f L (fun a C xs => defK np nn (mb a C xs)) := by
  intro A outer s H us vs Q E p C d xs hL room hot pin ec ed dx e0 rv hsp
  subst hp hn
  obtain ⟨oc, od, dV, kV, doc, pm, an, cdv, ct, osl, rfl, lk, code, -, -⟩ := F.ex
  obtain ⟨F0, pi, mu, as, h1, h2, h3⟩ := hsp
  have h3 : Post K (cA.withX xs) (VR K (cA.withX xs)) (Wf E) [] F0 pi Q (defK ps.length N.length (mb p.1 C xs) as mu) := h3
  have al : as.length = ps.length := by
    unfold defK at h3
    by_cases hl : as.length = ps.length
    · exact hl
    · rw [if_neg hl] at h3; exact h3.elim
  have hl : vs.length = ps.length := by rw [← h2.length]; exact al
  have KX : K.In s.heap := e0.mod.kin.keeps fun b o e => (e0.bs b o e).1
  have lim : s.heap.NoLimit := e0.mod.nolimit.keeps fun b o e => (e0.bs b o e).1
  have bound := bnd s us KX (by rw [List.append_nil, ← rv.length, hl])
  rw [List.append_nil] at bound
  have kinds : ∀ y ∈ ps.zip us, scope.names.lookup y.1 = some .local ∨ (scope.names.lookup y.1 = some .cell ∧ ((cellsFrom (s.heap.objs.size + 1) scope.names []).lookup y.1).isSome = true) := fun ⟨n, v⟩ hy => (S.par n (List.of_mem_zip hy).1).imp id fun q => ⟨q, PySem.W.cellsFrom_some _ _ _ (.inl q)⟩
  refine codeAny_call_function room.depth (KX _ _ lk) rfl S.co S.gen rfl (PySem.W.codeRec_of KX code) (bound _ _ _ _ (wpAny_newFunctionEnv_cells S.kind kinds fun env he s1 x => ?_))
  subst he
  refine ⟨lim.keeps x.toInCall.keep, codeAny_func ?_⟩
  obtain ⟨hh, v1, hd1, hc1⟩ := hot
  have hp1 : HotP (L2H.cxH (L2N.CX P w) P w K mg base N qual scope f cdv A outer s H E p) p.1 (.ref (cA C)) d := ⟨p.2, v1, List.mem_singleton.mpr rfl, hh, ec, ed, hd1, hc1⟩
  have ht := h cdv A outer s H E p C d xs hL (room.deeper _) hp1 dx (L2N.takes_of rfl rfl rfl rfl)
  have I := L2H.inv_startH (cd := cdv) (CX := L2N.CX P w) (E := E) S pin e0 hl rv x
  have want : DS K (cA.withX xs) (Wf E) (mb p.1 C xs) { nx := fun _ H1 => Q .non H1, rt := Q } (L2.start N vs) H := by
    unfold defK at h3
    rw [if_pos al] at h3
    refine ⟨F0, pi, _, mu, h1, envR_start h2, ?_⟩
    rw [al]
    cases e : mb p.1 C xs (as.map some ++ List.replicate (N.length - ps.length) none) mu with
    | nx r mu1 => rw [e] at h3; exact fun F' p' H' s' a b c d => h3 F' p' H' _ a b c .non
    | rt v mu1 => rw [e] at h3; exact h3
    | exc C fs r mu1 => rw [e] at h3; exact fun F' p' H' s' cls d a b c _ x => h3 F' p' H' cls d a b c x
    | bk r mu1 => rw [e] at h3; exact h3.elim
    | ct r mu1 => rw [e] at h3; exact h3.elim
    | bad => rw [e] at h3; exact h3.elim
  refine wpAny_mono (ht.run [] s1 (L2.start N vs) H _ I want) (fun fl s2 out => ?_) fun e s2 out => out
  cases fl with
  | ret u =>
    obtain ⟨v, σ2, H2, J, ru, q⟩ := out
    exact ⟨v, H2, J.os, J.bare, J.base, J.hok, ru, q⟩
  | next =>
    obtain ⟨σ2, H2, J, q⟩ := out
    exact ⟨V.non, H2, J.os, J.bare, J.base, J.hok, (rfl : L2.RelV V.non Value.none), q⟩
  | brk => obtain ⟨_, _, _, q⟩ := out; exact q.elim
  | cont => obtain ⟨_, _, _, q⟩ := out; exact q.elim
section
variable {X : Cx} {cA : CI} {k : Nat} {f a : Addr} {d : Option Addr} {C : Nat} {xs : List (Addr × List (Str × V))} {E : XK} {x : Str} {p pos : Pos} {e : Expr} {es : List Expr} {ms : M (List Val)} {L : Nat → Prop} {m : MH}
theorem c_callH (F : FnMH X.prog X.w X.K X.mg X.base cA k f L m) (hL : L C) (room : L2H.RoomH k X.A) (hp : HotP X a (.ref (cA C)) d) (hd : DX d xs) (tk : L2N.Takes X (Wf E)) (hm : X.mg x = some (.ref f)) (hk : PySem.W.keepIn X.K (.ref f) = true)
    (ha : PAM X (cA.withX xs) (Wf E) (e :: es) ms) (hg : Gl X x := by rfl) (hdb : (x == ("__debug__" : Str)) = false := by decide) (he : starEach (e :: es) X.env = (false, eval e X.env) :: starEach es X.env := by rfl) (hpl : (backTo pos (starEach es X.env)).any (·.1) = false := by rfl) :
    PEM X (cA.withX xs) (Wf E) (.Call (.Name x p) (e :: es) [] pos) (callM (m a C xs) ms) := by
  refine ⟨fun pins s σ H Q I ⟨F1, p1, r, mu, h1, h2, h3⟩ => wpAny_Call_Name_kw (ld_glob I hg hm ?_ hdb)⟩
  have args : DA X.K (cA.withX xs) (Wf E) ms σ H fun vs H1 => SpM X.K (cA.withX xs) (m a C xs) vs H1 Q E := bindAt h1 h2 h3 fun F2 p2 mu2 as vs H1 _ _ c1 _ e1 f1 => sp_of c1 e1 f1
  refine PySem.W.callWith_K (h₀ := X.base) I.ok.mod.kin hk (thn (ha.run pos pins s σ H _ I args) fun us s1 ⟨vs, H1, I1, rv, q⟩ => ⟨I1.kIn, ?_⟩) he hpl
  obtain ⟨oe, v1, g1, g2, g3, g4, g5, g6⟩ := hp
  have P1 := I1.pin (a, oe) (List.mem_append_left _ g1)
  have pin : L2H.PinOk X.stack H1 s1 (a, oe) := ⟨P1.1, P1.2.1, fun hm => (List.mem_cons.mp (I1.stkSub a hm)).elim P1.2.2.1 P1.2.2.2.1, P1.2.2.2.2⟩
  refine wpAny_call (codeAny_mono (F X.A X.stack s1 H1 us vs Q E (a, oe) C d xs hL room ⟨g2, v1, g5, g6⟩ pin g3 g4 hd I1.env0 rv q) fun r s2 out => ?_)
  cases r with
  | error er => exact L2N.passes_call tk (fun _ _ _ _ h => h) pins σ H1 s1 er s2 I1 out
  | ok fl =>
    cases fl with
    | next => exact out.elim
    | brk => exact out.elim
    | cont => exact out.elim
    | ret u => exact I1.after out
end
end CC

set_option Elab.async false
set_option linter.all false
set_option maxRecDepth 100000
set_option maxHeartbeats 2000000
/-! CC24: f(lambda: body), f a def that calls what it got, and tells the error. -/
namespace CC
open PySem PySem.Spec PyProof.Rows L2 LamX
/-- what such a def hands back: told, or the error's word and what it has -/
def errM (word : Nat → Option (List Nat)) (att : Nat → Option Nat) (told : List Nat) : R Val → R Val
  | .ok v mu => .ok (.lst [.str told, v]) mu
  | .exc C fs mu => (match word C with
    | some w => (match att C with
      | none => .ok (.lst [.str w, .non]) mu
      | some n => (match fs with
        | [(m, x)] => if m = n then .ok (.lst [.str w, x]) mu else .bad
        | _ => .bad))
    | none => .bad)
  | .bad => .bad
/-- what the suite comes to, error by error -/
structure SuiteOk (word : Nat → Option (List Nat)) (att : Nat → Option Nat) (sm : Addr → Nat → List (Addr × List (Str × V)) → MS) (n : Nat) : Prop where
  one : ∀ C w m, word C = some w → att C = some m → ∀ (a dx : Addr) (v : V) (mu : Store) (r : Env1), r = (List.replicate n none).set 2 (some (.vw (.ref a))) → sm a C [(dx, [(aN m, v)])] r mu = .rt (.lst [.str w, .vw v]) mu
  non : ∀ C w, word C = some w → att C = none → ∀ (a : Addr) (xs : List (Addr × List (Str × V))) (mu : Store) (r : Env1), r = (List.replicate n none).set 2 (some (.vw (.ref a))) → sm a C xs r mu = .rt (.lst [.str w, .non]) mu
theorem Rel.extN {K : PySem.W.Frag} {cA : CI} {F : Fz} {p : List Addr} {mu : Store} {H H1 : Hp} (R : Rel K cA F p mu H) (e : ExtN H H1) (t : Tabs cA.T H1) : Rel K cA F p mu H1 :=
  ⟨fun a o h => e a o (R.sub a o h) fun ps z => R.nf a ps (z ▸ h), R.len, R.nd, R.off, fun r a c h1 h2 => by
    have hc := R.cell r a c h1 h2
    obtain ⟨o, e1, n1⟩ := hc.noT
    exact hc.mono (Sub.refl F) (List.prefix_refl p) (by rw [e1]; exact e a o e1 n1.1), fun a o h => ⟨e a o (R.hid a o h).1 fun ps z => R.ng a ps (z ▸ h), (R.hid a o h).2⟩, t, R.xds, R.nf, R.ng⟩
section
variable {X : Cx} {cA : CI} {W : WX}
theorem lam_takes {A : Around} {outer : List Env} {s : Shared} {H : Hp} {E : XK} {scope : Scope} {f c' : Addr} : L2N.Takes (lamN X A outer s H E scope f c') (Wf E) := L2N.takes_of rfl rfl rfl rfl
theorem takesN0 {X : Cx} : L2N.Takes X (fun _ _ _ _ => False) := fun _ _ x => by
  obtain ⟨_, _, _, _, _, _, _, _, _, _, _, _, _, _, _, _, z⟩ := x
  exact z.elim
theorem env_one {K : PySem.W.Frag} {F : Fz} {p : List Addr} {n i : Nat} {s : L2.St} {x : Val} {v : V} (hl : s.length = n) (h : VR K cA F p x v) : EnvR K cA F p ((List.replicate n none).set i (some x)) (s.set i (some v)) := by
  refine ⟨by simp [hl], fun j y e => ?_⟩
  by_cases hj : i = j
  · subst hj
    by_cases hi : i < n
    · rw [List.getElem?_set_self (by simpa using hi)] at e
      cases e
      exact ⟨v, List.getElem?_set_self (by rw [hl]; exact hi), h⟩
    · rw [List.getElem?_eq_none (by simp; omega)] at e
      cases e
  · rw [List.getElem?_set_ne hj, List.getElem?_replicate] at e
    split at e <;> cases e
/-- the context of the def that got the lambda -/
abbrev cxG (X : Cx) (Ng : List Str) (x : Str) (sg : Scope) (g : Addr) (cdv : Value) (s : Shared) (H : Hp) : Cx := cxOf C8.CX0 X.prog X.w X.K X.mg X.base Ng x sg g cdv X.A X.stack s H C8.E0
theorem c_lamErr {x act told en : Str} {g c P : Addr} {k n : Nat} {params gp : Arguments} {scope sg : Scope} {fd : FuncData} {Ng : List Str} {b₀ ret : Stmt} {suite : List Stmt} {t body : Expr} {ok : Value → Option Bool} {sm : Addr → Nat → List (Addr × List (Str × V)) → MS} {mret : MS} {word : Nat → Option (List Nat)} {att : Nat → Option Nat} {tw : List Nat} {mb : M Val} {q1 q2 q3 q4 q5 q6 p lpos pos : Pos}
    (F : FunD X.K x x gp [.Try [.Assign [.Name told q1] (.Call (.Name act q2) [] [] q3) q4] [.ExceptHandler (some t) (some en) (b₀ :: suite) q5] [] [] q6, ret] sg [] [] g fd) (Sg : FnScope Ng [act] sg) (bnd : Binds X.K fd [act] []) (hn : Ng.length = n)
    (n0 : Ng[0]? = some act) (n1 : Ng[1]? = some told) (n2 : Ng[2]? = some en) (va : Vis sg act) (lt : sg.names.lookup told = some .local) (le : sg.names.lookup en = some .local) (hm : X.mg x = some (.ref g))
    (TB : TabB X.base X.mg c P) (hcode : X.env.code = .ref c) (hT : (P, X.env.qual ++ "<lambda>") ∈ cA.T) (hu : ∀ p ∈ cA.T, p.1 = P → p.2 = X.env.qual ++ "<lambda>") (room : Room (k + 2) X.A) (L : LamS X.env.scope scope) (hdef : defaultsOf params X.env = ([], [])) (hx0 : cA.x = [])
    (nobind : ∀ (q : Str) (cl : List (Str × Addr)) (pm cv ctv : Value), bindArgs (PySem.W.kla_fn "<lambda>" q params body scope cl pm cv ctv) ⟨[], []⟩ = pure [])
    (hbody : ∀ (E : XK) (A : Around) (outer : List Env) (s : Shared) (H : Hp) (f c' : Addr), Room k (A.deeper (lamEnv X scope s.heap.objs.size f c')) → PEM (lamN X A outer s H E scope f c') cA (Wf E) body mb)
    (test : ∀ (cdv : Value) (s : Shared) (H : Hp), TestX (cxG X Ng x sg g cdv s H) t ok) (hok : ∀ C w, word C = some w → ok (.ref (cA C)) = some true) (hsu : ∀ (cdv : Value) (s : Shared) (H : Hp) (a : Addr) (pn : List (Addr × Obj)) (C : Nat) (d : Option Addr) (xs : List (Addr × List (Str × V))), (∃ w, word C = some w) → L2H.RoomH (k + 1) ((cxG X Ng x sg g cdv s H).suite a pn).A → HotP ((cxG X Ng x sg g cdv s H).suite a pn) a (.ref (cA C)) d → DX d xs → PSSM ((cxG X Ng x sg g cdv s H).suite a pn) (cA.withX xs) WF (b₀ :: suite) (sm a C xs))
    (hret : ∀ (cdv : Value) (s : Shared) (H : Hp), PSM (cxG X Ng x sg g cdv s H) cA WF ret mret) (sok : SuiteOk word att sm n) (rok : ∀ (v : Val) (mu : Store), mret ((List.replicate n none).set 1 (some v)) mu = .rt (.lst [.str tw, v]) mu)
    (hg : Gl X x := by rfl) (hdb : (x == ("__debug__" : Str)) = false := by decide) (hd : (act == ("__debug__" : Str)) = false := by decide) (hcd : (act == ("__classdict__" : Str)) = false := by decide) :
    PEM X cA W (.Call (.Name x p) [.Lambda params body scope lpos] [] pos) (fun r mu => errM word att tw (mb r mu)) := by
  refine ⟨fun pins s σ H Q I ⟨F0, p0, r, mu, h1, h2, h3⟩ => ?_⟩
  have h3 : Post X.K cA (VR X.K cA) W σ F0 p0 Q (errM word att tw (mb r mu)) := h3
  refine wpAny_Call_Name_kw (ld_glob I hg hm (PySem.W.callWith_K (h₀ := X.base) I.ok.mod.kin F.kp ?_ (by rfl) (by rfl)) hdb)
  refine (?_ : wpAny _ _ (spliced ((false, eval (.Lambda params body scope lpos) X.env) :: backTo pos (starEach [] X.env))) _ _ s)
  refine Calls.spliced_cons (lam_make2 I TB hcode hT hu h1.tab hdef (L.has I.ok) fun f c' pm' ctv H1 s1 I1 eN T1 obj fresh off code => Calls.spliced_nil ⟨I1.kIn, ?_⟩)
  have R1 := h1.extN eN T1
  obtain ⟨oc, od, dV, kV, doc, pm, an, cdv, ct, osl, rfl, lk, hcd', -, -⟩ := F.ex
  have bound := bnd s1 [.ref f] I1.kIn rfl
  rw [List.append_nil] at bound
  have start : L2.start Ng [V.ref f] = some (V.ref f) :: List.replicate (n - 1) none := by unfold L2.start; rw [← hn]; rfl
  have npos : 0 < n := by rw [← hn]; exact (List.getElem?_eq_some_iff.mp n0).1
  have slen : (L2.start Ng [V.ref f]).length = n := by rw [start]; simp; omega
  have ran : codeAny (model X.prog X.w) X.A (.call (.ref g) ⟨[.ref f], []⟩) (L2.CR C8.CX0 X.stack X.prog X.w H1 s1 Q C8.E0) s1 := by
    refine run_ofS (N := Ng) (ps := [act]) (us := [.ref f]) (vs := [.ref f]) lk hcd' Sg room I1.env0 bound (.cons rfl .nil) rfl fun room' => ?_
    refine ⟨_, pss_cons (ps_tryT (X := cxG X Ng x sg g cdv s1 H1) (ok := ok) (i := 2) (Wout := fun _ _ _ _ => False) (tb := fun W D τ G => ∃ E : XK, (∀ cls d G', E cls d G' → W cls d τ G') ∧ τ[0]? = some (some (.ref f)) ∧ G c' = some (CodeO c' (X.env.qual ++ "<lambda>")) ∧ DE X.K cA (Wf E) mb σ G fun v G' => D.nx (τ.set 1 (some v)) G')
      (ts := fun a cls d D τ G => ∃ (C : Nat) (xs : List (Addr × List (Str × V))), (∃ w, word C = some w) ∧ cls = .ref (cA C) ∧ DX d xs ∧ DS X.K (cA.withX xs) WF (sm a C xs) D τ G) rfl rfl Sg.nd n2 le (test cdv s1 H1) takesN0 (fun W' pn xe tk _ => ?_) (fun a oe cls d pn hz hf => ?_)) (pss_one (hret cdv s1 H1)), ?_⟩
    · refine pss_one (ps_weak (ps_set Sg.nd n1 (.inl lt) (pe_actN (X := X) (i := 0) (tb := fun E => DE X.K cA (Wf E) mb) I1 L obj fresh off (nobind _ _ _ _ _) tk room' (fun E A outer s H hr2 => hbody E A outer s H f c' hr2) n0 va hd hcd) (by rfl) (.inr lt)) fun D τ G hh => hh)
    · refine ⟨fun pins2 s2 τ G D I2 ⟨C, xs, hw, ec, hdx, hs⟩ => ?_⟩
      obtain ⟨vs, hv⟩ := hf
      exact (hsu cdv s1 H1 a ((a, oe) :: pn) C d xs hw ⟨room'.dp, room'.un⟩ ⟨oe, vs, List.mem_cons_self, rfl, by rw [hz.1, ec], hz.2.1, hv, hz.2.2 vs hv⟩ hdx).run pins2 s2 τ G D I2 hs
    · refine ⟨fun cls d G' => wAsT ok 2 (fun a cls d D τ G => ∃ (C : Nat) (xs : List (Addr × List (Str × V))), (∃ w, word C = some w) ∧ cls = .ref (cA C) ∧ DX d xs ∧ DS X.K (cA.withX xs) WF (sm a C xs) D τ G) (fun _ _ _ _ => False) { nx := fun τ G => DS X.K cA WF mret { nx := fun _ G => Q .non G, rt := Q } τ G, rt := Q } cls d (L2.start Ng [.ref f]) G', fun _ _ _ z => z, by rw [start]; rfl, code, F0, p0, r, mu, R1, h2, ?_⟩
      cases em : mb r mu with
      | bad => rw [em] at h3; exact h3
      | ok v mu1 =>
        rw [em] at h3
        intro F' p' G' y a1 a2 a3 a4
        refine ⟨F', p', (List.replicate n none).set 1 (some v), mu1, a3, ?_, ?_⟩
        · rw [start]
          have e1 := env_one (K := X.K) (cA := cA) (i := 1) (n := n) (s := List.replicate n none) (by simp) a4
          refine ⟨by simp; omega, fun j z hz => ?_⟩
          obtain ⟨w', g1, g2⟩ := e1.2 j z hz
          refine ⟨w', ?_, g2⟩
          by_cases hj : j = 1
          · subst hj
            have hlt : 1 < n := by
              have := (List.getElem?_eq_some_iff.mp n1).1
              omega
            rw [List.getElem?_set_self (by simpa using hlt)] at g1
            cases g1
            exact List.getElem?_set_self (by simp; omega)
          · rw [List.getElem?_set_ne (Ne.symm hj), List.getElem?_replicate] at g1
            split at g1 <;> cases g1
        · rw [rok]
          exact fun F2 p2 G2 x2 b1 b2 b3 b4 => h3 F2 p2 G2 x2 (a1.trans b1) (a2.trans b2) b3 b4
      | exc C fs mu1 =>
        rw [em] at h3
        intro F' p' G' cls d a1 a2 a3 ⟨ec, ed⟩
        cases hw : word C with
        | none => simp only [errM, hw] at h3; exact h3.elim
        | some w =>
          simp only [errM, hw] at h3
          refine ⟨true, by rw [ec]; exact hok C w hw, fun _ a na => ?_, fun z => nomatch z⟩
          have back : ∀ {xs : List (Addr × List (Str × V))} {F2 : Fz} {p2 : List Addr} {G2 : Hp}, Rel X.K (cA.withX xs) F2 p2 mu1 G2 → Rel X.K cA F2 p2 mu1 G2 := fun {xs F2 p2 G2} R => Rel.ci (cB := cA) (cA := cA.withX xs) rfl rfl (fun q hq => by rw [hx0] at hq; cases hq) R
          have envS : ∀ xs, EnvR X.K (cA.withX xs) F' p' ((List.replicate n none).set 2 (some (.vw (.ref a)))) ((L2.start Ng [V.ref f]).set 2 (some (.ref a))) := fun xs => env_one slen (.vw _)
          cases hat : att C with
          | none =>
            simp only [hat] at h3
            have fin : ∀ xs, DX d xs → (∀ q ∈ xs, F'.f q.1 = some (.xd q.2)) → DS X.K (cA.withX xs) WF (sm a C xs) { nx := fun τ G => DS X.K cA WF mret { nx := fun _ G => Q .non G, rt := Q } (τ.set 2 none) G, rt := Q, bk := fun τ G => False, ct := fun τ G => False } ((L2.start Ng [V.ref f]).set 2 (some (.ref a))) G' := fun xs hdx hxs => by
              refine ⟨F', p', _, mu1, Rel.ci (cA := cA) (cB := cA.withX xs) rfl rfl hxs a3, envS xs, ?_⟩
              rw [sok.non C w hw hat a xs mu1 _ rfl]
              intro F2 p2 G2 x2 b1 b2 b3 b4
              exact h3 F2 p2 G2 x2 (a1.trans b1) (a2.trans b2) (back b3) (VR.ci (cA := cA.withX xs) (cB := cA) rfl b4)
            rcases ed with ⟨rfl, rfl⟩ | ⟨dx, gs, rfl, hx, hf⟩
            · exact ⟨C, [], ⟨w, hw⟩, ec, .inl ⟨rfl, rfl⟩, fin [] (.inl ⟨rfl, rfl⟩) fun q hq => (by cases hq)⟩
            · exact ⟨C, [(dx, gs)], ⟨w, hw⟩, ec, .inr ⟨dx, gs, rfl, rfl⟩, fin _ (.inr ⟨dx, gs, rfl, rfl⟩) fun q hq => (by rw [List.mem_singleton.mp hq]; exact hx)⟩
          | some m =>
            simp only [hat] at h3
            match fs, h3, ed with
            | [], h3, _ => exact h3.elim
            | [(m', xv)], h3, ed =>
              by_cases hmm : m' = m
              · subst hmm
                simp only [if_true] at h3
                rcases ed with ⟨z, _⟩ | ⟨dx, gs, rfl, hx, hf⟩
                · cases z
                · cases hf with
                  | cons hm45 g1 g2 =>
                    cases g2
                    rename_i v0
                    refine ⟨C, [(dx, [(aN m', v0)])], ⟨w, hw⟩, ec, .inr ⟨dx, _, rfl, rfl⟩, F', p', _, mu1, Rel.ci (cA := cA) (cB := cA.withX [(dx, [(aN m', v0)])]) rfl rfl (fun q hq => by rw [List.mem_singleton.mp hq]; exact hx) a3, envS _, ?_⟩
                    rw [sok.one C w m' hw hat a dx v0 mu1 _ rfl]
                    intro F2 p2 G2 x2 b1 b2 b3 b4
                    refine h3 F2 p2 G2 x2 (a1.trans b1) (a2.trans b2) (back b3) ?_
                    cases b4 with
                    | lst c1 c2 =>
                      cases c2 with
                      | cons d1 d2 =>
                        cases d2 with
                        | cons d3 d4 =>
                          cases d4
                          cases d3
                          exact .lst c1 (.cons (VR.ci (cA := cA.withX [(dx, [(aN m', v0)])]) (cB := cA) rfl d1) (.cons (g1.mono b1 b2) .nil))
              · simp only [hmm, if_false] at h3
                exact h3.elim
            | _ :: _ :: _, h3, _ => exact h3.elim
  refine wpAny_call (codeAny_mono ran fun r2 s2 out => ?_)
  cases r2 with
  | error e => exact (show False from out).elim
  | ok fl =>
    cases fl with
    | next => exact out.elim
    | brk => exact out.elim
    | cont => exact out.elim
    | ret u => exact I1.after out
end
end CC

set_option Elab.async false
set_option linter.all false
set_option maxRecDepth 100000
set_option maxHeartbeats 2000000
/-! CC25: the head and the end of a law whose defs make lambdas. -/
namespace CC
open PySem PySem.Spec PyProof.Rows L2 LamX
theorem code_of {K : PySem.W.Frag} {q : He.Defn} {x qual : Str} {params : Arguments} {body : List Stmt} {scope : Scope} {dvs : List V} {kws : List (Str × V)} {fd : FuncData} (F : FunD K x qual params body scope dvs kws (He.fAd K q) fd) : fd.code = .ref (He.cT K q).1 := by
  obtain ⟨oc, od, dV, kV, doc, pm, an, cdv, ct, osl, rfl, lk, hcd, -, -⟩ := F.ex
  obtain ⟨c, e⟩ := He.codeIn_ref hcd
  subst e
  have := He.codeOf_eq (c := c) lk rfl
  show Value.ref c = .ref (He.codeOf K q)
  rw [this]
/-! ### the hook -/
abbrev AlT2 : Type := AlC × Bool
def obsCT (n : Nat) (ex : List (PySem.W.Frag → Bool)) (fn : List DD) (tf : List He.Defn) (g : Addr → Option Obj) : AlT2 := (obsC ex fn (He.frT g (He.asD g n ++ [cStatics])), He.tabsB g tf (He.frT g (He.asD g n ++ [cStatics])))
def valCT (fn : List DD) : AlT2 := (valC fn, true)
/-- what is told of the tables -/
structure SaysT2 (tf : List He.Defn) (h : Heap) (K : PySem.W.Frag) : Prop where
  hd : ∀ p ∈ tf, PySem.W.codeHdIn K (He.cT K p).1 (He.cT K p).2 = true
  out : ∀ p ∈ tf, K.lookup (He.cT K p).2 = none
  empty : ∀ p ∈ tf, h.get? (He.cT K p).2 = some { cls := .none, data := .fields #[] }
theorem says2 {tf : List He.Defn} {h : Heap} {as : List Addr} (e : He.tabsB h.get? tf (He.frT h.get? as) = true) : SaysT2 tf h (He.frT h.get? as) := by
  have key : ∀ p ∈ tf, PySem.W.codeHdIn (He.frT h.get? as) (He.cT (He.frT h.get? as) p).1 (He.cT (He.frT h.get? as) p).2 = true ∧ ∃ o, h.get? (He.cT (He.frT h.get? as) p).2 = some o ∧ He.emptyTab o = true := fun p hp => by
    obtain ⟨h3, h4⟩ := He.ba (List.all_eq_true.mp e p hp)
    refine ⟨h3, ?_⟩
    cases q : h.get? (He.cT (He.frT h.get? as) p).2 with
    | none => rw [q] at h4; cases h4
    | some o => rw [q] at h4; exact ⟨o, rfl, h4⟩
  refine ⟨fun p hp => (key p hp).1, fun p hp => ?_, fun p hp => ?_⟩
  · obtain ⟨-, o, q, z⟩ := key p hp
    exact He.frT_none q z
  · obtain ⟨-, o, q, z⟩ := key p hp
    rw [q, He.emptyTab_eq z]
def hookCT (n : Nat) (ex : List (PySem.W.Frag → Bool)) (fn : List DD) (tf : List He.Defn) : PySem.W.Hook where
  α := AlT2
  obs := fun s => obsCT n ex fn tf s.heap.get?
  val := fun _ => valCT fn
  says := fun _ h => ∃ K : PySem.W.Frag, K.In h ∧ SaysC ex fn K ∧ SaysT2 tf h K
  of := fun _ _ e => ⟨_, He.frT_in, congrArg (fun z : AlT2 => z.1) e, says2 (congrArg (fun z : AlT2 => z.2) e)⟩
  keeps := fun _ _ _ ⟨K, hK, c, t⟩ k => ⟨K, PySem.W.Frag.In.keeps hK k, c, t.hd, t.out, fun p hp => k _ _ (t.empty p hp)⟩
theorem obsCT_eq {n : Nat} {ex : List (PySem.W.Frag → Bool)} {fn : List DD} {tf : List He.Defn} {g : Addr → Option Obj} {s : Shared} (h : ∀ a, g a = s.heap.get? a) : obsCT n ex fn tf g = (hookCT n ex fn tf).obs s := by
  have e : g = s.heap.get? := funext h
  rw [e]
  rfl
/-! ### the end -/
def scrT (K : PySem.W.Frag) (a : Addr) (vs : List Value) (ns : List Int) (ts : List Addr) : Hp := fun b => if b ∈ ts then some (.tbl #[]) else scrH K a vs ns b
theorem end_callT {P : Program} {w : World} {K : PySem.W.Frag} {cA : CI} {mg mb : Str → Option Value} {k : Nat} {f a : Addr} {m : List Val → Store → R Val} {s : Shared} {vs : List Value} {ns : List Int} {tf : List He.Defn}
    (kin : K.In s.heap) (glob : s.heap.Ns mainGlobals mg) (blt : s.heap.Ns builtinsNs mb) (bltB : ∀ y : Str, y ≠ "__name__" → mb y = bootBuiltins y) (lim : s.heap.NoLimit) (gens : s.gens = #[]) (tabs : SaysT2 tf s.heap K)
    (hbm : ∃ (bm : Addr) (ob : Obj), mg "__builtins__" = some (.ref bm) ∧ bm ≠ builtinsNs ∧ s.heap.get? bm = some ob ∧ ob.cls = .type "module" ∧ ob.dict = some builtinsNs ∧ ob.data = .plain)
    (obj : s.heap.get? a = some { cls := .type "list", data := .seq vs.toArray }) (hints : IntsAre vs ns) (few : ns.length ≤ sizeLine) (room : Room k callerA) (hT : ∀ q ∈ cA.T, ∃ p ∈ tf, q.1 = (He.cT K p).2) (hx : cA.x = [])
    (F : ∀ base : Heap, K.In base → base.Ns mainGlobals mg → (∀ p ∈ tf, TabB base mg (He.cT K p).1 (He.cT K p).2) → FnG P w K mg base cA k f m) (plain : ∃ mu, m [.scr ns] [] = .ok (.bl true) mu) :
    codeAny (model P w) callerA (.call (.ref f) ⟨[.ref a], []⟩) (fun r s' => r = .ok (.ret (.bool true)) ∧ OldK s.heap s'.heap ∧ s'.os = s.os ∧ AllBare s'.gens) s := by
  have rv := vals_ints hints
  generalize ets : tf.map (fun p => (He.cT K p).2) = ts
  have tsAt : ∀ b ∈ ts, s.heap.get? b = some { cls := .none, data := .fields #[] } := fun b hb => by
    subst ets
    obtain ⟨p, hp, rfl⟩ := List.mem_map.mp hb
    exact tabs.empty p hp
  have tsK : ∀ b ∈ ts, K.lookup b = none := fun b hb => by
    subst ets
    obtain ⟨p, hp, rfl⟩ := List.mem_map.mp hb
    exact tabs.out p hp
  have aT : a ∉ ts := fun z => by
    have q := tsAt a z
    rw [obj] at q
    have z' : Data.seq vs.toArray _ = Data.fields #[] := congrArg Obj.data (Option.some.inj q)
    cases z'
  have inT : ∀ b ∈ ts, scrT K a vs ns ts b = some (.tbl #[]) := fun b hb => if_pos hb
  have noT : ∀ b, b ∉ ts → scrT K a vs ns ts b = scrH K a vs ns b := fun b hb => if_neg hb
  have hidden : ∀ {b : Addr} {u : HO}, scrT K a vs ns ts b = some u → (b ∈ ts ∧ u = .tbl #[]) ∨ (b ∉ ts ∧ b = a ∧ K.lookup a = none ∧ u = .frz { cls := .type "list", data := .seq vs.toArray } (.lst (ns.map V.int))) := fun {b u} e => by
    by_cases hb : b ∈ ts
    · rw [inT b hb] at e
      cases e
      exact .inl ⟨hb, rfl⟩
    · rw [noT b hb] at e
      exact .inr ⟨hb, scrH_at e⟩
  have nHO : ∀ {b : Addr} {o : Obj}, s.heap.get? b = some o → (∀ v n, o.data ≠ .seq v n) → o.data ≠ .fields #[] → scrT K a vs ns ts b = none := fun {b o} e h1 h2 => by
    cases q : scrT K a vs ns ts b with
    | none => rfl
    | some u =>
      rcases hidden q with ⟨hb, _⟩ | ⟨_, eb, _⟩
      · rw [tsAt b hb] at e
        cases e
        exact (h2 rfl).elim
      · rw [eb, obj] at e
        cases e
        exact (h1 _ _ rfl).elim
  have names : ∀ {b : Addr} {mm : Str → Option Value}, s.heap.Ns b mm → (hidT s.heap (scrT K a vs ns ts)).Ns b mm := fun {b mm} ⟨o, es, ep, e, d, r⟩ => ⟨o, es, ep, hidT_get e (nHO e (fun v n z => by rw [d] at z; cases z) fun z => by rw [d] at z; cases z), d, r⟩
  have part : K.In (hidT s.heap (scrT K a vs ns ts)) := fun b o e => hidT_get (kin b o e) (by
    cases q : scrT K a vs ns ts b with
    | none => rfl
    | some u =>
      rcases hidden q with ⟨hb, _⟩ | ⟨_, eb, en, _⟩
      · rw [tsK b hb] at e; cases e
      · rw [eb, en] at e; cases e)
  have hok : HOk P w (scrT K a vs ns ts) s.heap := fun b u h => by
    rcases hidden h with ⟨hb, eu⟩ | ⟨_, eb, _, eu⟩
    · subst eu
      exact tsAt b hb
    · subst eb eu
      exact ⟨obj, by rw [List.length_map]; exact few, vs, _, rv, obj⟩
  have seq : SqL K (scrT K a vs ns ts) a (ns.map V.int) := by
    cases hk : K.lookup a with
    | none => exact .inl (.inr ⟨_, by rw [noT a aT]; exact if_pos ⟨rfl, hk⟩⟩)
    | some o =>
      have e := kin a o hk
      rw [obj] at e
      cases e
      exact .inr ⟨_, vs.toArray, _, hk, rfl, rfl, rfl, by rw [List.size_toArray, hints.length]; exact few, by simpa using rv⟩
  have md : L2.Mod K mg (hidT s.heap (scrT K a vs ns ts)) := ⟨part, names glob, ⟨mb, names blt, bltB⟩, let ⟨c, l1, l2⟩ := lim; ⟨c, names l1, l2⟩⟩
  have env : Env0 P w K mg (hidT s.heap (scrT K a vs ns ts)) callerA [] s (scrT K a vs ns ts) := ⟨rfl, md, fun b o e => of_hidT e, Nat.le_of_eq (hidT_size _ _), trivial, fun b hb => (by cases hb), hok, .of_eq gens⟩
  have gO : ∃ o es ep, s.heap.get? mainGlobals = some o ∧ o.data = .dict es ep := by
    obtain ⟨o, es, ep, e, d, _⟩ := glob
    exact ⟨o, es, ep, e, d⟩
  have TB : ∀ p ∈ tf, TabB (hidT s.heap (scrT K a vs ns ts)) mg (He.cT K p).1 (He.cT K p).2 := fun p hp => by
    have hP : s.heap.get? (He.cT K p).2 = some { cls := .none, data := .fields #[] } := tabs.empty p hp
    refine ⟨PySem.W.codeHd_of_K part (tabs.hd p hp), ?_, fun z => ?_⟩
    · obtain ⟨bm, ob, b1, b2, b3, b4, b5, b6⟩ := hbm
      have nG : bm ≠ mainGlobals := fun q => by
        obtain ⟨o, es, ep, e, d⟩ := gO
        rw [q, e] at b3
        cases b3
        rw [d] at b6
        cases b6
      have nP : bm ≠ (He.cT K p).2 := fun q => by
        rw [q, hP] at b3
        cases b3
        cases b6
      refine ⟨bm, ob, b1, b2, nG, nP, hidT_get b3 (nHO b3 (fun v n z => ?_) fun z => ?_), b4, b5, b6⟩
      · rw [b6] at z; cases z
      · rw [b6] at z; cases z
    · obtain ⟨o, es, ep, e, d⟩ := gO
      rw [z, hP] at e
      cases e
      cases d
  obtain ⟨mu, hm⟩ := plain
  have hsp : SpM K cA m [.ref a] (scrT K a vs ns ts) (fun v _ => v = .bl true) (fun _ _ _ => False) := by
    refine ⟨⟨scrH K a vs ns, fun _ => none⟩, [], [], [.scr ns], ⟨fun b u e => ?_, rfl, List.nodup_nil, fun b hb => (by cases hb), fun r b c h => (by cases h), fun b o h => (by cases h), fun q hq => ?_, fun q hq => (by rw [hx] at hq; cases hq), fun b ps e => (by obtain ⟨_, _, eu⟩ := scrH_at e; cases eu), fun b ps e => (by cases e)⟩, .cons (.scr ?_) .nil, ?_⟩
    · have hb : b ∉ ts := fun z => aT ((scrH_at e).1 ▸ z)
      rw [noT b hb]
      exact e
    · obtain ⟨p, hp, e⟩ := hT q hq
      refine TabS.nil ?_
      rw [e]
      exact inT _ (by subst ets; exact List.mem_map.mpr ⟨p, hp, rfl⟩)
    · rcases seq with (h | ⟨o, h⟩) | h
      · rw [noT a aT] at h; exact .inl (.inl h)
      · rw [noT a aT] at h; exact .inl (.inr ⟨o, h⟩)
      · exact .inr h
    · rw [hm]
      intro F' p' H' x _ _ _ d
      cases d
      rfl
  refine codeAny_mono (F _ part (names glob) TB callerA [] s (scrT K a vs ns ts) [.ref a] [.ref a] _ _ room rfl env (.cons rfl .nil) hsp) fun r s' h => ?_
  cases r with
  | error e => obtain ⟨_, _, _, _, _, _, _, _, _, _, _, _, z⟩ := h; exact z.elim
  | ok fl =>
    cases fl with
    | next => exact False.elim h
    | brk => exact False.elim h
    | cont => exact False.elim h
    | ret u =>
      obtain ⟨v, H', os, bare, un, hok', r', q⟩ := h
      obtain rfl : v = .bl true := q
      obtain rfl : u = Value.bool true := r'
      have kept : ∀ b o, b ∉ ts → s.heap.get? b = some o → s'.heap.get? b = some o := fun b o hb e => by
        cases q : scrT K a vs ns ts b with
        | none => exact un.keep b o e q (fun z => by cases z) (by simp)
        | some u =>
          rcases hidden q with ⟨hb', _⟩ | ⟨_, eb, _, eu⟩
          · exact (hb hb').elim
          · subst eu
            have z2 := un.frzs b _ _ q
            have e1 := (hok' b _ z2).1
            rw [eb] at e ⊢
            rw [eb] at e1
            rw [obj] at e
            cases e
            exact e1
      have grown : ∀ b ∈ ts, ∃ more : Array Value, s'.heap.get? b = some { cls := .none, data := .fields more } := fun b hb => by
        obtain ⟨more, z⟩ := un.tbls b #[] (inT b hb)
        exact ⟨_, hok' b _ z⟩
      refine ⟨rfl, ⟨fun b o e => ?_, fun b o e => ?_⟩, os, bare⟩
      · by_cases hb : b ∈ ts
        · obtain ⟨more, hmo⟩ := grown b hb
          have hb0 := hb
          subst ets
          obtain ⟨p, hp, rfl⟩ := List.mem_map.mp hb
          rw [tabs.empty p hp] at e
          cases e
          exact .inr (.inl ⟨((PySem.W.codeHd_of_K kin (tabs.hd p hp)).tab (tabs.empty p hp)).isCodeTable, rfl, #[], more, rfl, by rw [Array.empty_append]; exact hmo⟩)
        · exact .inl (kept b o hb e)
      · by_cases hb : b ∈ ts
        · obtain ⟨more, hmo⟩ := grown b hb
          exact ⟨_, hmo⟩
        · exact ⟨o, kept b o hb e⟩
/-- a law whose defs make lambdas -/
theorem walk_endT {l : PySem.W.OpenLaw} {n k : Nat} {q : Program} {loose : List Str} {XP : (Str → Option Value) → Heap → Prop} {YP : World → Heap → Prop} {d : DefRec} {m : List Val → Store → R Val} {tf : List He.Defn} (hn : l.most = some n) (hn2 : n ≤ sizeLine) (hdf : d.params.defaults = []) (room : Room k callerA)
    (F : ∀ (w : World) (mg : Str → Option Value) (fa : Addr) (h : Heap), YP w h → h.Ns mainGlobals mg → mg d.name = some (.ref fa) → ∃ (K : PySem.W.Frag) (cA : CI), K.In h ∧ SaysT2 tf h K ∧ (∀ q ∈ cA.T, ∃ p ∈ tf, q.1 = (He.cT K p).2) ∧ cA.x = [] ∧ ∀ base : Heap, K.In base → base.Ns mainGlobals mg → (∀ p ∈ tf, TabB base mg (He.cT K p).1 (He.cT K p).2) → FnG l.prog w K mg base cA k fa m)
    (plain : ∀ ns : List Int, ns.length ≤ n → (∀ z ∈ ns, Builtin.Int.intBits z ≤ 1048576) → ∃ mu, m [.scr ns] [] = .ok (.bl true) mu) : PySem.W.WalkO q loose XP YP l.row.toRowW d [] (fun f vs => PySem.call f vs) := by
  refine Att.attach_callB hn hdf fun w s₀ s₁ mg mb fa o pm cd doc a vs ns G Y ho hd hcd hmg hobj hints hlen hbits hg => ?_
  obtain ⟨K, cA, kin, tabs, hT, hx, hF⟩ := F w mg fa _ Y G.T.g hmg
  exact end_callT kin G.T.g G.T.b G.T.builtins G.T.nolimit hg tabs G.T.bmain hobj hints (Nat.le_trans hlen hn2) room hT hx hF (plain ns hlen hbits)
end CC

set_option Elab.async false
set_option linter.all false
set_option maxRecDepth 100000
set_option maxHeartbeats 2000000
/-! CC26: .count(True); what the written part says of error classes. -/
namespace CC
open PySem PySem.Spec PyProof.Rows L2 LamX
def eqkB (k : Bool) (v : Value) : Bool := match v with
  | .bool n => n == k
  | _ => false
def cntV (xs : List Val) : Val → Option Val
  | .bl b => (mapO blO xs).map fun bs => Val.int (bs.count b : Nat)
  | _ => none
def cntM (mo ma : M Val) : M Val := fun r mu => (mo r mu).bind fun x mu1 => match x with
  | .lst xs => (consM ma nilM r mu1).bind fun ys mu2 => (match ys with
    | [y] => optR (cntV xs y) mu2
    | _ => .bad)
  | _ => .bad
theorem vals_bls : ∀ {bs : List Bool} {its : List Value}, L2.Vals (bs.map V.bl) its → its = bs.map Value.bool
  | [], _, .nil => rfl
  | b :: bs, _, .cons r t => by
    rw [vals_bls t]
    cases (show _ = Value.bool b from r)
    rfl
theorem vrs_bls {K : PySem.W.Frag} {cA : CI} {F : Fz} {p : List Addr} : ∀ {xs : List Val} {bs : List Bool} {vs : List V}, mapO blO xs = some bs → VRs K cA F p xs vs → vs = bs.map V.bl
  | [], _, _, e, .nil => by cases e; rfl
  | x :: xs, _, _, e, .cons h t => by
    obtain ⟨y, ys, e1, e2, rfl⟩ := mapO_cons e
    rw [vrs_bls e2 t]
    cases x with
    | bl b => cases e1; cases h; rfl
    | _ => cases e1
def rCntB (K : PySem.W.Frag) : V → List V → Hp → VK → Prop := fun x xs H Q => ∃ (p : Addr) (bs : List Bool) (b : Bool), x = .ref p ∧ xs = [.bl b] ∧ SqL K H p (bs.map V.bl) ∧ Q (.int (bs.count b : Nat)) H
theorem mt_cntB {X : Cx} : MtR X "list.count" (rCntB X.K) := by
  intro pins s σ H x xs v us Q I rx rxs h
  obtain ⟨p, bs, k, rfl, rfl, hs, q⟩ := h
  cases rx
  obtain ⟨u, rfl, ru⟩ := rxs.one
  cases (show u = Value.bool k from ru)
  obtain ⟨its, rv, ⟨⟨cls, dd, data, sl⟩, n, ho, hc, hdn, hd⟩, hlen⟩ := I.list hs
  simp only at hc hd
  subst hc hd
  have ei := vals_bls rv
  subst ei
  refine call_meets PySem.F.slot_list_count ⟨_, ho, rfl⟩ PySem.F.entry_list_count (PySem.F.args_list_count_2 _ _)
    (SeqAt.list_countAt p (bs.map Value.bool).toArray n dd sl (.bool k) (eqkB k)) ⟨ho, fun y hy => ?_, ?_⟩
  · obtain ⟨b, _, rfl⟩ := List.mem_map.mp (show y ∈ bs.map Value.bool by simpa using hy)
    exact SeqAt.EqAt.bool_bool b k
  · have ec : (bs.map Value.bool).toArray.toList.countP (eqkB k) = bs.count k := by
      have e1 : (bs.map Value.bool).toArray.toList = bs.map Value.bool := rfl
      rw [e1, List.countP_map]
      rfl
    refine ⟨.int (bs.count k : Nat), H, I.tok _, ⟨s.toks, ?_⟩, q⟩
    show Value.int ((((bs.map Value.bool).toArray.toList.countP (eqkB k) : Nat)) : Int) s.toks = Value.int ((bs.count k : Nat) : Int) s.toks
    rw [ec]
theorem c_count {X : Cx} {cA : CI} {W : WX} {o a : Expr} {mo ma : M Val} {apos pos : Pos} (ho : PEM X cA W o mo) (ha : PEM X cA W a ma) (hbase : attributeBase o "count" X.env (eval o X.env) = eval o X.env := by rfl)
    (hfew : ((backTo pos (starEach [a] X.env)).all (fun x => !x.1) && (backToKw pos (keywordEach [] X.env)).all (fun x => x.1.isSome)
      && decide (([a]).length + ([] : List Keyword).length + (if ([] : List Keyword).isEmpty then 0 else 1) < 30)) = true := by rfl)
    (hline : (apos.endLine == pos.line) = true := by rfl) (hs : starEach [a] X.env = (false, eval a X.env) :: starEach [] X.env := by rfl) (hplain : (backTo pos (starEach [] X.env)).any (·.1) = false := by rfl) : PEM X cA W (.Call (.Attribute o "count" apos) [a] [] pos) (cntM mo ma) :=
  pe_weak (pe_bm PySem.F.plainAttrs_list PySem.F.slot_list_count (by first | exact PySem.F.type_list_count | rfl) mt_cntB ho (c_cons ha c_nil hs) hbase hfew hline hs hplain) fun s H Q ⟨F, p, r, mu, h1, h2, h3⟩ => bindAt h1 h2 h3 fun F1 p1 mu1 x v H1 a1 b1 c1 d1 e1 f1 => by
    cases e1 with
    | lst g1 g2 =>
      refine ⟨.inl ⟨rfl, _, SqL.of (c1.sub _ _ g1)⟩, bindAt c1 d1 (show Post X.K cA (VR X.K cA) W s F1 p1 Q ((consM ma nilM r mu1).bind _) from f1) fun F2 p2 mu2 ys ws H2 a2 b2 c2 d2 e2 f2 => ?_⟩
      match ys, f2, e2 with
      | [], f2, _ => exact f2.elim
      | [y], f2, e2 =>
        obtain ⟨z, ez, q⟩ := post_opt f2
        cases y with
        | bl b =>
          obtain ⟨bs, eb, rfl⟩ := Option.map_eq_some_iff.mp (show (mapO blO _).map (fun bs => Val.int (bs.count b : Nat)) = some z from ez)
          obtain ⟨v, rfl, rv⟩ := vrs1 e2
          cases rv
          have ev := vrs_bls eb g2
          subst ev
          exact ⟨_, bs, b, rfl, rfl, SqL.of (c2.sub _ _ (a2.1 _ _ g1)), q.now c2 (.int _)⟩
        | _ => cases ez
      | _ :: _ :: _, f2, _ => exact f2.elim
    | _ => exact f1.elim
/-! ### what the written part says of error classes -/
def oexB (K : PySem.W.Frag) (C : Addr) : Bool := (match K.lookup C with
  | some ⟨.type "type", _, .cls cd, sl⟩ => (match cd.mro, sl.toList with
    | .ref C' :: bm, [_, _, _, _, some (.builtin n), _] => decide (C' = C) && (decide (n = "ValueError.__new__") && (!cd.hasDel && (cd.hasDict && PySem.HandSPX.refsVE bm)))
    | _, _ => false)
  | _ => false) && (decide (PySem.W.findIn K (.ref C) "__setattr__" = some (some (.builtin "object.__setattr__"))) && (decide (PySem.W.subIn K (.ref C) (.type "BaseException") = some true) && (decide (PySem.W.typeIn K (.ref C) = some (.type "type")) && PySem.W.keepIn K (.ref C))))
theorem oexB_ok {K : PySem.W.Frag} {C : Addr} (h : oexB K C = true) : OexC K C := by
  obtain ⟨h0, h⟩ := He.ba h
  obtain ⟨h1, h⟩ := He.ba h
  obtain ⟨h2, h⟩ := He.ba h
  obtain ⟨h3, h4⟩ := He.ba h
  refine ⟨?_, of_decide_eq_true h1, of_decide_eq_true h2, of_decide_eq_true h3, h4⟩
  split at h0
  · rename_i dd cd sl ho
    split at h0
    · rename_i C' bm k0 k1 k2 k3 n k5 hm hs
      obtain ⟨q1, h0⟩ := He.ba h0
      obtain ⟨q2, h0⟩ := He.ba h0
      obtain ⟨q3, h0⟩ := He.ba h0
      obtain ⟨q4, q5⟩ := He.ba h0
      have e1 := of_decide_eq_true q1
      have e2 := of_decide_eq_true q2
      subst e1 e2
      obtain ⟨nm, bs, mro, ns, qn, hd, sn, sub, ab, col, del⟩ := cd
      dsimp only at hm q3 q4
      have e3 : del = false := by simpa using q3
      subst hm e3 q4
      have hsl : sl = #[k0, k1, k2, k3, some (.builtin "ValueError.__new__"), k5] := by
        obtain ⟨l⟩ := sl
        simp only at hs
        rw [hs]
      subst hsl
      exact ⟨nm, qn, ns, bs, bm, sn, sub, ab, col, dd, k0, k1, k2, k3, k5, ho, q5⟩
    · cases h0
  · cases h0
def excB (K : PySem.W.Frag) (x : Str) (n : Nat) : Bool := oexB K (He.ga K x) && (decide (PySem.W.findIn K (.ref (He.ga K x)) "__init__" = some (some (.ref (He.fAd K (x, some "__init__"))))) && (decide (PySem.W.typeIn K (.ref (He.fAd K (x, some "__init__"))) = some (.type "function")) && (decide (PySem.W.findIn K (.ref (He.ga K x)) (aN n) = some none) && (He.Fa.glo x).ok K)))
theorem exc_of {K : PySem.W.Frag} {h : Heap} {mg : Str → Option Value} {x : Str} {n : Nat} (X : K.In h) (G : h.Ns mainGlobals mg) (c : excB K x n = true) : ExC K mg (He.ga K x) (He.fAd K (x, some "__init__")) x (aN n) := by
  obtain ⟨h1, h⟩ := He.ba c
  obtain ⟨h2, h⟩ := He.ba h
  obtain ⟨h3, h⟩ := He.ba h
  obtain ⟨h4, h5⟩ := He.ba h
  exact ⟨oexB_ok h1, of_decide_eq_true h2, of_decide_eq_true h3, of_decide_eq_true h4, He.glo_ok X G h5⟩
def exkB (K : PySem.W.Frag) (C : Addr) : Bool := (PySem.W.clsIn K C).isSome && (decide (PySem.W.findIn K (.ref C) "__getattribute__" = some (some (.builtin "BaseException.__getattribute__"))) && (decide (PySem.W.findIn K (.ref C) "__getattr__" = some none) && (decide (PySem.W.subIn K (.ref C) (.type "BaseException") = some true) &&
  (PySem.W.hasDictIn K C && (decide (PySem.W.findIn K (.ref C) "__class__" = some (some (.builtin "object.__class__"))) && (decide (PySem.W.specialIn K (.builtin "object.__class__") "__get__" = some (some (.builtin "getset_descriptor.__get__"))) && (decide (PySem.W.takesIn K (.builtin "object.__class__") = some true) && decide (PySem.W.mroIn K C (.type "object") = some true))))))))
theorem exk_of {K : PySem.W.Frag} {C : Addr} (c : exkB K C = true) : ExK K C := by
  obtain ⟨h1, h⟩ := He.ba c
  obtain ⟨h2, h⟩ := He.ba h
  obtain ⟨h3, h⟩ := He.ba h
  obtain ⟨h4, h⟩ := He.ba h
  obtain ⟨h5, h⟩ := He.ba h
  obtain ⟨h6, h⟩ := He.ba h
  obtain ⟨h7, h⟩ := He.ba h
  obtain ⟨h8, h9⟩ := He.ba h
  exact ⟨h1, of_decide_eq_true h2, of_decide_eq_true h3, of_decide_eq_true h4, h5, of_decide_eq_true h6, of_decide_eq_true h7, of_decide_eq_true h8, of_decide_eq_true h9⟩
/-- all error classes whose errors are asked -/
structure ExKs (K : PySem.W.Frag) (cA : CI) (L : List Nat) : Prop where
  ok : ∀ C ∈ L, ExK K (cA C)
def exksB (cA : CI) (L : List Nat) (K : PySem.W.Frag) : Bool := L.all fun C => exkB K (cA C)
theorem exks_of {K : PySem.W.Frag} {cA : CI} {L : List Nat} (h : exksB cA L K = true) : ExKs K cA L := ⟨fun C hC => exk_of (List.all_eq_true.mp h C hC)⟩
/-- which classes an except clause takes -/
def exmB (cA : CI) (L ts : List Nat) (K : PySem.W.Frag) : Bool := L.all fun C => decide (PySem.W.exmAny K (.ref (cA C)) (ts.map fun t => .ref (cA t)) = some true)
theorem exm_of {K : PySem.W.Frag} {cA : CI} {L ts : List Nat} (h : exmB cA L ts K = true) : ∀ C ∈ L, PySem.W.exmAny K (.ref (cA C)) (ts.map fun t => .ref (cA t)) = some true := fun C hC => of_decide_eq_true (List.all_eq_true.mp h C hC)
end CC

set_option Elab.async false
set_option linter.all false
set_option maxRecDepth 100000
set_option maxHeartbeats 2000000
/-! CC27: x == (), x != (), whatever x holds. -/
namespace CC
open PySem PySem.Spec PyProof.Rows L2
def eqE (mu : Store) (a b : Val) : Option Val := match b with
  | .tup [] => (match a with
    | .tup xs => some (.bl xs.isEmpty)
    | a => eqV mu a (.tup []))
  | b => eqV mu a b
def neE (mu : Store) (a b : Val) : Option Val := match b with
  | .tup [] => (match a with
    | .tup xs => some (.bl (!xs.isEmpty))
    | a => neV mu a (.tup []))
  | b => neV mu a b
theorem eqE_cases {mu : Store} {a b z : Val} (h : eqE mu a b = some z) : (∃ xs, a = .tup xs ∧ b = .tup [] ∧ z = .bl xs.isEmpty) ∨ eqV mu a b = some z := by
  unfold eqE at h
  split at h
  · split at h
    · cases h; exact .inl ⟨_, rfl, rfl, rfl⟩
    · exact .inr h
  · exact .inr h
theorem neE_cases {mu : Store} {a b z : Val} (h : neE mu a b = some z) : (∃ xs, a = .tup xs ∧ b = .tup [] ∧ z = .bl (!xs.isEmpty)) ∨ neV mu a b = some z := by
  unfold neE at h
  split at h
  · split at h
    · cases h; exact .inl ⟨_, rfl, rfl, rfl⟩
    · exact .inr h
  · exact .inr h
section
variable {X : Cx} {cA : CI}
theorem tup_two {pins : List (Addr × Obj)} {σ : L2.St} {H : Hp} {s : Shared} {F : Fz} {p : List Addr} {mu : Store} {xs : List Val} {x y : V} {v u : Value} (I : Inv X pins σ H s) (R : Rel X.K cA F p mu H) (ra : VR X.K cA F p (.tup xs) x) (rb : VR X.K cA F p (.tup []) y) (rv : L2.RelV x v) (ru : L2.RelV y u) :
    ∃ (l b : Addr) (its : Array Value), v = .ref l ∧ u = .ref b ∧ s.heap.IsTuple l its ∧ s.heap.IsTuple b #[] ∧ its.size = xs.length := by
  cases ra with
  | tup h1 h2 =>
    cases rb with
    | tup g1 g2 =>
      cases g2
      cases rv
      cases ru
      obtain ⟨i1, r1, t1, -⟩ := I.tuple (sub_t R.sub h1)
      obtain ⟨i2, r2, t2, -⟩ := I.tuple (sub_t R.sub g1)
      cases r2
      exact ⟨_, _, _, rfl, rfl, t1, t2, by rw [h2.length, r1.length]; rfl⟩
theorem op_eqE (hu : X.A.units + 64 < cLine) : OpR X (compareOp .Eq) (G2 X.K cA eqE) := by
  intro pins s σ H x y v u Q I rv ru h
  obtain ⟨F, p, mu, a, b, z, R, ra, rb, e, q⟩ := h
  rcases eqE_cases e with ⟨xs, rfl, rfl, rfl⟩ | e
  · obtain ⟨l, b, its, rfl, rfl, t1, t2, sz⟩ := tup_two I R ra rb rv ru
    have key := SeqAt.RcAt.tuples (A := X.A) (e := fun _ => true) t1 t2 (by omega) (fun j _ j2 => absurd j2 (Nat.not_lt_zero _)) X.prog X.w (fun e s' => (X.xe e s')) (fun w s' => ∃ w' H', Inv X pins σ H' s' ∧ L2.RelV w' w ∧ Q w' H')
    refine key ⟨.bl xs.isEmpty, H, I, ?_, q.now R (.bl _)⟩
    cases xs with
    | nil => have : its.size = 0 := sz; rw [this]; rfl
    | cons z zs =>
      have e0 : (its.size == 0) = false := by rw [sz]; rfl
      show Value.bool (_ && (its.size == 0)) = Value.bool false
      rw [e0, Bool.and_false]
  · exact op_eqV hu pins s σ H x y v u Q I rv ru ⟨F, p, mu, a, b, z, R, ra, rb, e, q⟩
theorem op_neE (hu : X.A.units + 64 < cLine) : OpR X (compareOp .NotEq) (G2 X.K cA neE) := by
  intro pins s σ H x y v u Q I rv ru h
  obtain ⟨F, p, mu, a, b, z, R, ra, rb, e, q⟩ := h
  rcases neE_cases e with ⟨xs, rfl, rfl, rfl⟩ | e
  · obtain ⟨l, b, its, rfl, rfl, t1, t2, sz⟩ := tup_two I R ra rb rv ru
    have key := SeqAt.RcNeAt.tuples (A := X.A) (e := fun _ => true) t1 t2 (by omega) (fun j _ j2 => absurd j2 (Nat.not_lt_zero _)) X.prog X.w (fun e s' => (X.xe e s')) (fun w s' => ∃ w' H', Inv X pins σ H' s' ∧ L2.RelV w' w ∧ Q w' H')
    refine key ⟨.bl (!xs.isEmpty), H, I, ?_, q.now R (.bl _)⟩
    cases xs with
    | nil => have : its.size = 0 := sz; rw [this]; rfl
    | cons z zs =>
      have e0 : (its.size == 0) = false := by rw [sz]; rfl
      show Value.bool (!(_ && (its.size == 0))) = Value.bool true
      rw [e0, Bool.and_false]
      rfl
  · exact op_neV hu pins s σ H x y v u Q I rv ru ⟨F, p, mu, a, b, z, R, ra, rb, e, q⟩
end
end CC

set_option Elab.async false
set_option linter.all false
set_option maxRecDepth 100000
set_option maxHeartbeats 2000000
/-! CC28: {k: v, ..}. -/
namespace CC
open PySem PySem.Spec PyProof.Rows L2
def mergeD (l : List (DKey × Val)) (acc : List (DKey × Val)) : List (DKey × Val) := acc.foldl (fun l q => putD q.1 q.2 l) l
def dispM2 (r0 : Nat) : List (M Val × M Val) → List (DKey × Val) → M Val
  | [], acc => fun _ mu => match mu[r0]? with
    | some (.dct []) => if acc.length ≤ 15 then .ok (.ref r0) (mu.set r0 (.dct (mergeD [] acc))) else .bad
    | _ => .bad
  | (mk, mv) :: rest, acc => fun r mu => (mk r mu).bind fun x mu1 => match keyOf x with
    | some k => (mv r mu1).bind fun y mu2 => dispM2 r0 rest (acc ++ [(k, y)]) r mu2
    | none => .bad
def dispM (mps : List (M Val × M Val)) : M Val := fun r mu => dispM2 mu.length mps [] r (mu ++ [.dct []])
theorem KVR.fold {K : PySem.W.Frag} {cA : CI} {F : Fz} {p : List Addr} : ∀ {acc : List (DKey × Val)} {ks : List (L2.Key × V)} {l : List (DKey × Val)} {ls : List (L2.Key × V)}, KVR K cA F p acc ks → KVR K cA F p l ls → KVR K cA F p (mergeD l acc) (mergeK ls ks)
  | [], _, _, _, .nil, h => h
  | (_, _) :: _, _, _, _, .cons h1 h2 h3, h => by
    have z := KVR.fold h3 (h.put h1 h2)
    exact z
theorem KVR.len {K : PySem.W.Frag} {cA : CI} {F : Fz} {p : List Addr} : ∀ {acc : List (DKey × Val)} {ks : List (L2.Key × V)}, KVR K cA F p acc ks → ks.length = acc.length
  | _, _, .nil => rfl
  | _, _, .cons _ _ h => congrArg (· + 1) h.len
section
variable {X : Cx} {cA : CI} {W : WX} {pos : Pos}
theorem den_disp {K : PySem.W.Frag} {s : L2.St} {Q : VK} {r0 : Nat} {a : Addr} {r : Env1} : ∀ (mps : List (M Val × M Val)) (acc : List (DKey × Val)) (ks : List (L2.Key × V)) (F : Fz) (p : List Addr) (mu : Store) (H : Hp), Rel K cA F p mu H → EnvR K cA F p r s → KVR K cA F p acc ks → p[r0]? = some a → Post K cA (VR K cA) W s F p Q (dispM2 r0 mps acc r mu) →
    tPairs (mps.map fun q => (DE K cA W q.1, DE K cA W q.2)) s H (fun ps H2 => H2 a = some (.dK []) ∧ ∃ kvs : List (L2.Key × V), ks.map (fun kv => (kV kv.1, kv.2)) ++ ps = kvs.map (fun kv => (kV kv.1, kv.2)) ∧ kvs.length ≤ 15 ∧ Q (.ref a) (upd H2 a (.dK (mergeK [] kvs))))
  | [], acc, ks, F, p, mu, H, R, E, hk, hp, h => by
    obtain ⟨c, h2, h3⟩ := R.at_some hp
    unfold dispM2 at h
    rw [h2] at h
    match c, h3, h with
    | .dct [], ⟨vs, g1, g2⟩, h =>
      cases g2
      simp only at h
      by_cases hl : acc.length ≤ 15
      · rw [if_pos hl] at h
        refine ⟨g1, ks, by rw [List.append_nil], by rw [hk.len]; exact hl, ?_⟩
        exact h F p _ _ (Sub.refl F) (List.prefix_refl p) (R.write hp ⟨_, upd_same, hk.fold .nil⟩) (.ref hp)
      · rw [if_neg hl] at h; exact h.elim
    | .dct (_ :: _), _, h => exact h.elim
    | .lst _, _, h => exact h.elim
    | .obj _ _, _, h => exact h.elim
  | (mk, mv) :: rest, acc, ks, F, p, mu, H, R, E, hk, hp, h => by
    show DE K cA W mk s H _
    unfold dispM2 at h
    refine bindAt R E h fun F1 p1 mu1 x v H1 a1 b1 c1 d1 e1 f1 => ?_
    cases ek : keyOf x with
    | none => rw [ek] at f1; exact f1.elim
    | some k =>
      rw [ek] at f1
      obtain ⟨l, rfl, hl⟩ := keyOf_ok e1 ek
      refine bindAt c1 d1 f1 fun F2 p2 mu2 y w H2 a2 b2 c2 d2 e2 f2 => ?_
      have hp2 : p2[r0]? = some a := by
        obtain ⟨t, rfl⟩ := b1.trans b2
        exact (List.getElem?_append_left (List.getElem?_eq_some_iff.mp hp).1).trans hp
      have ih := den_disp rest (acc ++ [(k, y)]) (ks ++ [(l, w)]) F2 p2 mu2 H2 c2 d2 (KVR.snoc hl e2 (hk.mono (a1.trans a2) (b1.trans b2))) hp2 f2
      simpa [List.map_append, List.append_assoc] using ih
theorem dps_nil : PPs X pos [] [] (([] : List (M Val × M Val)).map fun q => (DE X.K cA W q.1, DE X.K cA W q.2)) := pps_nil
theorem dps_cons {k v : Expr} {ks : List (Option Expr)} {vs : List Expr} {mk mv : M Val} {mps : List (M Val × M Val)} (hk : PEM X cA W k mk) (hv : PEM X cA W v mv) (hr : PPs X pos ks vs (mps.map fun q => (DE X.K cA W q.1, DE X.K cA W q.2))) :
    PPs X pos (some k :: ks) (v :: vs) (((mk, mv) :: mps).map fun q => (DE X.K cA W q.1, DE X.K cA W q.2)) := pps_cons hk hv hr
theorem c_disp {keys : List (Option Expr)} {values : List Expr} {mps : List (M Val × M Val)} (h : PPs X pos keys values (mps.map fun q => (DE X.K cA W q.1, DE X.K cA W q.2))) (hall : keys.all (·.isSome) = true := by rfl) (hl : keys.length = values.length := by rfl) (h0 : keys ≠ [] := by simp)
    (h15 : keys.length ≤ 15 := by decide) : PEM X cA W (.Dict keys values pos) (dispM mps) :=
  pe_weak (pe_disp h hall hl h0 h15) fun s H Q ⟨F, p, r, mu, h1, h2, h3⟩ a ha => by
    have R1 : Rel X.K cA F (p ++ [a]) (mu ++ [.dct []]) (upd H a (.dK [])) := h1.alloc ha (fun b u hb => by rw [upd_ne (ne_of_none hb ha)]; exact hb) ⟨[], upd_same, .nil⟩
    have hp : (p ++ [a])[mu.length]? = some a := by
      rw [← h1.len, List.getElem?_append_right (Nat.le_refl _)]
      simp
    have := den_disp (cA := cA) (K := X.K) (s := s) (Q := Q) mps [] [] F (p ++ [a]) _ _ R1 (h2.mono (Sub.refl F) (List.prefix_append p [a])) .nil hp (Post.mono (Sub.refl F) (List.prefix_append p [a]) h3)
    simpa using this
end
end CC

set_option Elab.async false
set_option linter.all false
set_option maxRecDepth 100000
set_option maxHeartbeats 2000000
/-! CC29: small things for printed texts. -/
namespace CC
open PySem PySem.Spec PyProof.Rows L2 LamX
theorem KI.wx {K : PySem.W.Frag} {cA : CI} {kt : Tg → Tg → Option Bool} {ic : Nat → Bool} {xs : List (Addr × List (Str × V))} (T : KI K cA kt ic) : KI K (cA.withX xs) kt ic := ⟨T.ok, T.cl, T.c1, T.c4, T.c2, T.c3⟩
/-- the name of a lambda made in a def -/
def lq (p : He.Defn) : Str := (p.1 ++ ".<locals>.") ++ "<lambda>"
def tabL (K : PySem.W.Frag) (tfs : List He.Defn) : List (Addr × Str) := tfs.map fun p => ((He.cT K p).2, lq p)
def tuB (tfs : List He.Defn) (K : PySem.W.Frag) : Bool := decide (tfs.map fun p => (He.cT K p).2).Nodup
theorem nodup_injM {α β : Type} {f : α → β} : ∀ {l : List α}, (l.map f).Nodup → ∀ x ∈ l, ∀ y ∈ l, f x = f y → x = y
  | [], _, x, hx, _, _, _ => by cases hx
  | z :: l, h, x, hx, y, hy, e => by
    rw [List.map_cons, List.nodup_cons] at h
    rcases List.mem_cons.mp hx with ex | hx' <;> rcases List.mem_cons.mp hy with ey | hy'
    · rw [ex, ey]
    · rw [ex] at e
      exact (h.1 (List.mem_map.mpr ⟨y, hy', e.symm⟩)).elim
    · rw [ey] at e
      exact (h.1 (List.mem_map.mpr ⟨x, hx', e⟩)).elim
    · exact nodup_injM h.2 x hx' y hy' e
theorem tab_hT {K : PySem.W.Frag} {tfs : List He.Defn} {q : He.Defn} (hq : q ∈ tfs) : ((He.cT K q).2, lq q) ∈ tabL K tfs := List.mem_map.mpr ⟨q, hq, rfl⟩
theorem tab_hu {K : PySem.W.Frag} {tfs : List He.Defn} (h : tuB tfs K = true) {q : He.Defn} (hq : q ∈ tfs) : ∀ p ∈ tabL K tfs, p.1 = (He.cT K q).2 → p.2 = lq q := fun p hp e => by
  obtain ⟨p', hp', rfl⟩ := List.mem_map.mp hp
  rw [nodup_injM (of_decide_eq_true h) p' hp' q hq e]
def xatsB (cA : CI) (L ns : List Nat) (K : PySem.W.Frag) : Bool := L.all fun C => ns.all fun n => decide (PySem.W.findIn K (.ref (cA C)) (aN n) = some none)
theorem xats_of {K : PySem.W.Frag} {cA : CI} {L ns : List Nat} (h : xatsB cA L ns K = true) : ∀ C ∈ L, ∀ n ∈ ns, PySem.W.findIn K (.ref (cA C)) (aN n) = some none := fun C hC n hn => of_decide_eq_true (List.all_eq_true.mp (List.all_eq_true.mp h C hC) n hn)
theorem look_mem {β : Type} : ∀ {l : List (Nat × β)} {C : Nat} {w : β}, l.lookup C = some w → C ∈ l.map (·.1)
  | [], _, _, h => by cases h
  | (k, v) :: l, C, w, h => by
    by_cases e : C = k
    · rw [e]; exact List.mem_cons_self
    · have eb : (C == k) = false := beq_eq_false_iff_ne.mpr e
      simp only [List.lookup, eb] at h
      exact List.mem_cons_of_mem _ (look_mem h)
/-- a class whose errors are told has a word -/
abbrev LC (WL : List (Nat × List Nat)) : Nat → Prop := fun C => ∃ w, WL.lookup C = some w
theorem LC.mem {WL : List (Nat × List Nat)} {C : Nat} (h : LC WL C) : C ∈ WL.map (·.1) := let ⟨_, e⟩ := h; look_mem e
theorem hu200H {k : Nat} {A : Around} (hr : L2H.RoomH k A) : A.units + 200 < cLine := Nat.lt_of_le_of_lt (by omega) hr.un
theorem hu64H {k : Nat} {A : Around} (hr : L2H.RoomH k A) : A.units + 64 < cLine := Nat.lt_of_le_of_lt (by omega) hr.un
end CC

set_option Elab.async false
set_option linter.all false
set_option maxRecDepth 100000
set_option maxHeartbeats 2000000
/-! CC30: x in (texts), where x may be a dict. -/
namespace CC
open PySem PySem.Spec PyProof.Rows L2
theorem str_eq_declines_dict (b : Str) (u : Tok) (l : Addr) (es : Array DictEntry) (n : Nat) (dd : Option Addr) (sl : Array (Option Value)) :
    Meets (Builtin.«str.__eq__» ⟨[.str b u, .ref l], []⟩) (fun _ R s => s.heap.get? l = some { cls := .type "dict", dict := dd, data := .dict es n, slots := sl } ∧ R (.ok (.ret .notImplemented)) s) :=
  .of_wp fun prog w A R s h => by obtain ⟨hp, g, d, tk, os⟩ := s; obtain ⟨hl, h⟩ := h; wp_walk using wpAny_loadPart' hl, wpAny_load hl; exact ⟨_, rfl, h⟩
theorem dict_eq_declines_str (b : Str) (u : Tok) (l : Addr) (es : Array DictEntry) (n : Nat) (dd : Option Addr) (sl : Array (Option Value)) :
    Meets (Builtin.«dict.__eq__» ⟨[.ref l, .str b u], []⟩) (fun _ R s => s.heap.get? l = some { cls := .type "dict", dict := dd, data := .dict es n, slots := sl } ∧ R (.ok (.ret .notImplemented)) s) :=
  .of_wp fun prog w A R s h => by obtain ⟨hp, g, d, tk, os⟩ := s; obtain ⟨hl, h⟩ := h; have f1 := PySem.F.sub_str_dict; wp_walk using wpAny_loadPart' hl, wpAny_load hl; exact ⟨_, rfl, h⟩
section
variable {A : Around} {s : Shared}
theorem rc_str_dict {l : Addr} {es : Array DictEntry} {n : Nat} {dd : Option Addr} {sl : Array (Option Value)} (b : Str) (u : Tok) (ho : s.heap.get? l = some { cls := .type "dict", dict := dd, data := .dict es n, slots := sl }) (hu : A.units < cLine) : SeqAt.RcAt A s (.str b u) (.ref l) false := fun prog w E Q h => by
  exact SeqAt.rc_eq_decline_or (k := false) (PySem.typeIs_str s b u) ⟨_, ho, rfl⟩ (by decide) PySem.F.sub_dict_str PySem.F.slot_str_eq PySem.F.slot_dict_eq_refl
    (fun _ hq => call_meets PySem.F.slot_str_eq (PySem.typeIs_str s b u) PySem.F.entry_str_eq (PySem.F.args_str_eq_2 _ _) (str_eq_declines_dict b u l es n dd sl) ⟨ho, hq⟩)
    (fun _ hq => call_meets PySem.F.slot_dict_eq_refl ⟨_, ho, rfl⟩ PySem.F.entry_dict_eq (PySem.F.args_dict_eq_2 _ _) (dict_eq_declines_str b u l es n dd sl) ⟨ho, hq⟩)
    (fun _ hq => wpAny_of_eq (rfl : isSame (.str b u) (.ref l) = pure false) hq) (.inr hu) h
theorem eq_str_dict {l : Addr} {es : Array DictEntry} {n : Nat} {dd : Option Addr} {sl : Array (Option Value)} (b : Str) (u : Tok) (ho : s.heap.get? l = some { cls := .type "dict", dict := dd, data := .dict es n, slots := sl }) (hu : A.units < cLine) : SeqAt.EqAt A s (.str b u) (.ref l) false := fun prog w E Q h => by
  unfold eqBool
  refine wpAny_holding ?_
  refine wpAny_ite_split (fun hab => absurd (eq_of_beq hab) nofun) (fun _ => ?_)
  exact wpAny_bind (rc_str_dict b u ho hu prog w E _ (wpAny_truthy_bool h))
end
def strsB (ys : List Val) : Bool := ys.all fun y => match y with
  | .str _ => true
  | _ => false
def inW (mu : Store) (a b : Val) : Option Bool := match a with
  | .dct kvs => (match b with
    | .tup ys => if strsB ys = true then some false else none
    | b => (match seqL mu b with
      | some ys => if strsB ys = true then some false else none
      | none => inB mu (.dct kvs) b))
  | a => inB mu a b
def inW2 (mu : Store) (a b : Val) : Option Val := (inW mu a b).map .bl
def ninW2 (mu : Store) (a b : Val) : Option Val := (inW mu a b).map fun c => .bl (!c)
theorem inW_cases {mu : Store} {a b : Val} {c : Bool} (h : inW mu a b = some c) : (∃ kvs ys, a = .dct kvs ∧ (b = .tup ys ∨ seqL mu b = some ys) ∧ strsB ys = true ∧ c = false) ∨ inB mu a b = some c := by
  cases a with
  | dct kvs =>
    by_cases hT : ∃ ys, b = .tup ys
    · obtain ⟨ys, rfl⟩ := hT
      simp only [inW] at h
      by_cases hs : strsB ys = true
      · rw [if_pos hs] at h
        cases h
        exact .inl ⟨_, _, rfl, .inl rfl, hs, rfl⟩
      · rw [if_neg hs] at h
        cases h
    · have e0 : inW mu (.dct kvs) b = (match seqL mu b with
        | some ys => if strsB ys = true then some false else none
        | none => inB mu (.dct kvs) b) := by
        cases b <;> first | rfl | exact absurd ⟨_, rfl⟩ hT
      rw [e0] at h
      cases e : seqL mu b with
      | none => rw [e] at h; exact .inr h
      | some ys =>
        rw [e] at h
        simp only at h
        by_cases hs : strsB ys = true
        · rw [if_pos hs] at h
          cases h
          exact .inl ⟨_, _, rfl, .inr rfl, hs, rfl⟩
        · rw [if_neg hs] at h
          cases h
  | _ => exact .inr h
theorem strs_items {K : PySem.W.Frag} {cA : CI} {F : Fz} {p : List Addr} : ∀ {ys : List Val} {vs : List V} {its : List Value}, strsB ys = true → VRs K cA F p ys vs → L2.Vals vs its → ∀ y ∈ its, ∃ t u, y = Value.str t u
  | [], _, _, _, .nil, .nil => fun y hy => by cases hy
  | y :: ys, _, _, h, .cons h1 h2, .cons g1 g2 => fun z hz => by
    unfold strsB at h
    rw [List.all_cons, Bool.and_eq_true] at h
    rcases List.mem_cons.mp hz with rfl | hz
    · cases y with
      | str t =>
        cases h1
        obtain ⟨u, e⟩ := g1
        exact ⟨_, u, e⟩
      | _ => cases h.1
    · exact strs_items h.2 h2 g2 z hz
section
variable {X : Cx} {cA : CI}
theorem in_anyW {op : CmpOp} {f : Bool → Bool} (hu : X.A.units + 200 < cLine) (h0 : OpR X (compareOp op) (G2 X.K cA fun mu a b => (inB mu a b).map fun c => .bl (f c)))
    (hL : ∀ {E : Value → Shared → Prop} {s : Shared} {l : Addr} {items : Array Value} {x : Value} {Q : Value → Shared → Prop} (e : Value → Bool), s.heap.IsList l items → (∀ y, y ∈ items → SeqAt.EqAt X.A.in1 s y x (e y)) → Q (.bool (f (items.any e))) s → wpAny (model X.prog X.w) X.A (compareOp op x (.ref l)) Q E s)
    (hT : ∀ {E : Value → Shared → Prop} {s : Shared} {l : Addr} {items : Array Value} {x : Value} {Q : Value → Shared → Prop} (e : Value → Bool), s.heap.IsTuple l items → (∀ y, y ∈ items → SeqAt.EqAt X.A.in1 s y x (e y)) → Q (.bool (f (items.any e))) s → wpAny (model X.prog X.w) X.A (compareOp op x (.ref l)) Q E s) :
    OpR X (compareOp op) (G2 X.K cA fun mu a b => (inW mu a b).map fun c => .bl (f c)) := by
  intro pins s σ H x y v u Q I rv ru ⟨F, p, mu, a, b, z, R, ra, rb, e0, q⟩
  obtain ⟨c, e, rfl⟩ := Option.map_eq_some_iff.mp e0
  rcases inW_cases e with ⟨kvs, ys, rfl, hb, hs, rfl⟩ | e
  · cases ra with
    | dct g1 g2 =>
      rename_i l ks
      obtain rfl : v = Value.ref l := rv
      obtain ⟨-, -, vs0, -, o, es, ep, ho, hx, hd, -⟩ := dk_of I.hok (R.sub _ _ g1)
      obtain ⟨oc, od, oda, osl⟩ := o
      have hc : oc = .type "dict" := hx.1
      simp only at hd
      subst hc hd
      have fin : EP X pins σ Q (.bool (f false)) s := ⟨.bl _, H, I, rfl, q.now R (.bl _)⟩
      have eqs : ∀ {its : List Value}, (∀ y ∈ its, ∃ t u, y = Value.str t u) → ∀ y, y ∈ its.toArray → SeqAt.EqAt X.A.in1 s y (.ref l) ((fun _ => false) y) := fun h y hy => by
        obtain ⟨t, w, rfl⟩ := h y (by simpa using hy)
        exact eq_str_dict t w ho (by show X.A.units + 1 < _; omega)
      have anyF : ∀ its : List Value, its.toArray.any (fun _ => false) = false := fun its => by simp
      have lst : ∀ {vs : List V} {b' : Addr}, y = .ref b' → SqL X.K H b' vs → VRs X.K cA F p ys vs → wpAny (model X.prog X.w) X.A (compareOp op (.ref l) u) (EP X pins σ Q) X.xe s := fun {vs b'} ey g3 g4 => by
        subst ey
        obtain rfl : u = Value.ref b' := ru
        obtain ⟨its, r1, ⟨o2, n2, ho2, hc2, -, hd2⟩, -⟩ := I.list g3
        exact hL (fun _ => false) ⟨o2, ho2, hc2, n2, hd2⟩ (eqs (strs_items hs g4 r1)) (by rw [anyF]; exact fin)
      rcases hb with rfl | hb
      · cases rb with
        | tup g3 g4 =>
          rename_i b' vs
          obtain rfl : u = Value.ref b' := ru
          obtain ⟨its, r1, t1, -⟩ := I.tuple (sub_t R.sub g3)
          exact hT (fun _ => false) t1 (eqs (strs_items hs g4 r1)) (by rw [anyF]; exact fin)
      · obtain ⟨b', vs, ey, g3, g4⟩ := seqL_ok R rb hb
        exact lst ey (SqL.of g3) g4
  · exact h0 pins s σ H x y v u Q I rv ru ⟨F, p, mu, a, b, _, R, ra, rb, by show (inB mu a b).map _ = _; rw [e]; rfl, q⟩
theorem op_inW (hu : X.A.units + 200 < cLine) : OpR X (compareOp .In) (G2 X.K cA inW2) := in_anyW (f := fun c => c) hu (op_inV hu) (fun e a b c => SeqAt.in_listAt e a b c) (fun e a b c => SeqAt.in_tupleAt e a b c)
theorem op_ninW (hu : X.A.units + 200 < cLine) : OpR X (compareOp .NotIn) (G2 X.K cA ninW2) := in_anyW (f := fun c => !c) hu (op_ninV hu) (fun e a b c => SeqAt.notIn_listAt e a b c) (fun e a b c => SeqAt.notIn_tupleAt e a b c)
end
end CC

set_option Elab.async false
set_option linter.all false
set_option maxRecDepth 100000
set_option maxHeartbeats 2000000
/-! CC31: list(text). -/
namespace CC
open PySem PySem.Spec PyProof.Rows L2
def listSV (mu : Store) : List Val → Option Val
  | [.str s] => if s.length ≤ 100000 then some (.lst (s.map fun c => .str [c])) else none
  | as => listV mu as
theorem listSV_cases {mu : Store} {as : List Val} {z : Val} (h : listSV mu as = some z) : (∃ s, as = [.str s] ∧ s.length ≤ 100000 ∧ z = .lst (s.map fun c => .str [c])) ∨ listV mu as = some z := by
  unfold listSV at h
  split at h
  · rename_i s
    by_cases hl : s.length ≤ 100000
    · rw [if_pos hl] at h; cases h; exact .inl ⟨s, rfl, hl, rfl⟩
    · rw [if_neg hl] at h; cases h
  · exact .inr h
theorem vrs_signs {K : PySem.W.Frag} {cA : CI} {F : Fz} {p : List Addr} : ∀ s : List Nat, VRs K cA F p (s.map fun c => .str [c]) (s.map fun c => V.str (S [c]))
  | [] => .nil
  | c :: s => .cons (.str [c]) (vrs_signs s)
section
variable {X : Cx} {cA : CI}
theorem b_listS (hc : X.calm = true) : CallR X (.type "list") (GA X.K cA listSV) := by
  intro pins s σ H xs us Q I r h
  obtain ⟨F, p, mu, as, z, R, ra, e, q⟩ := h
  rcases listSV_cases e with ⟨t, rfl, hl, rfl⟩ | e
  · obtain ⟨v, rfl, rv⟩ := vrs1 ra
    cases rv
    obtain ⟨u, rfl, ru⟩ := vals1 r
    obtain ⟨tk, rfl⟩ := ru
    have e5 : sizeLine = 16777216 := by decide
    have sz : (S t).cps.size = t.length := by simp [S]
    refine PySem.call_list_str (I.ok.hd hc) (S t) tk (fun h' tk' acc' c' hkeep hS hacc => ?_) (by rw [sz]; omega)
    have hn := I.hok.fresh (Nat.le_refl s.heap.objs.size)
    refine ⟨.ref s.heap.objs.size, upd H s.heap.objs.size (.lst (t.map fun c => V.str (S [c]))), I.laid hkeep (Nat.le_refl _) (show ObjOk X.prog X.w _ _ _ (.lst (t.map fun c => V.str (S [c]))) from ⟨?_, acc'.toList, c', ?_, ?_⟩), rfl, q.lst R (vrs_signs t) hn⟩
    · rw [List.length_map]; omega
    · have el : acc'.toList.length = acc'.size := by simp
      refine vals_of_at (by rw [List.length_map, el, hacc.1, sz]) fun j x w h1 h2 => ?_
      obtain ⟨c, u, hcu, rfl⟩ := hacc.2 j w (by rw [← Array.getElem?_toList]; exact h2)
      rw [List.getElem?_map] at h1
      have e1 : t[j]? = some c := by simpa [S] using hcu
      rw [e1] at h1
      cases h1
      exact ⟨u, rfl⟩
    · rw [Array.toArray_toList]; exact hS
  · exact b_list pins s σ H xs us Q I r ⟨F, p, mu, as, z, R, ra, e, q⟩
end
end CC

set_option Elab.async false
set_option linter.all false
set_option maxRecDepth 100000
set_option maxHeartbeats 2000000
/-! CC32: x == [], x != [], whatever x holds. -/
namespace CC
open PySem PySem.Spec PyProof.Rows L2
def eqF (mu : Store) (a b : Val) : Option Val := match b with
  | .lst [] => (match a with
    | .lst (_ :: _) => some (.bl false)
    | a => eqV mu a (.lst []))
  | b => eqV mu a b
def neF (mu : Store) (a b : Val) : Option Val := match b with
  | .lst [] => (match a with
    | .lst (_ :: _) => some (.bl true)
    | a => neV mu a (.lst []))
  | b => neV mu a b
theorem eqF_cases {mu : Store} {a b z : Val} (h : eqF mu a b = some z) : (∃ x xs, a = .lst (x :: xs) ∧ b = .lst [] ∧ z = .bl false) ∨ eqV mu a b = some z := by
  unfold eqF at h
  split at h
  · split at h
    · cases h; exact .inl ⟨_, _, rfl, rfl, rfl⟩
    · exact .inr h
  · exact .inr h
theorem neF_cases {mu : Store} {a b z : Val} (h : neF mu a b = some z) : (∃ x xs, a = .lst (x :: xs) ∧ b = .lst [] ∧ z = .bl true) ∨ neV mu a b = some z := by
  unfold neF at h
  split at h
  · split at h
    · cases h; exact .inl ⟨_, _, rfl, rfl, rfl⟩
    · exact .inr h
  · exact .inr h
section
variable {X : Cx} {cA : CI}
theorem lst_two {pins : List (Addr × Obj)} {σ : L2.St} {H : Hp} {s : Shared} {F : Fz} {p : List Addr} {mu : Store} {x0 : Val} {xs : List Val} {x y : V} {v u : Value} (I : Inv X pins σ H s) (R : Rel X.K cA F p mu H) (ra : VR X.K cA F p (.lst (x0 :: xs)) x) (rb : VR X.K cA F p (.lst []) y) (rv : L2.RelV x v) (ru : L2.RelV y u) :
    ∃ (l b : Addr) (i1 i2 : Array Value), v = .ref l ∧ u = .ref b ∧ s.heap.IsList l i1 ∧ s.heap.IsList b i2 ∧ i1.size ≠ i2.size := by
  cases ra with
  | lst h1 h2 =>
    cases rb with
    | lst g1 g2 =>
      cases g2
      cases rv
      cases ru
      obtain ⟨j1, r1, ⟨o1, n1, ho1, hc1, -, hd1⟩, -⟩ := I.list (SqL.of (R.sub _ _ h1))
      obtain ⟨j2, r2, ⟨o2, n2, ho2, hc2, -, hd2⟩, -⟩ := I.list (SqL.of (R.sub _ _ g1))
      cases r2
      refine ⟨_, _, j1.toArray, [].toArray, rfl, rfl, ⟨o1, ho1, hc1, n1, hd1⟩, ⟨o2, ho2, hc2, n2, hd2⟩, ?_⟩
      have e : (x0 :: xs).length = j1.length := by rw [h2.length, r1.length]
      simp only [List.size_toArray, List.length_nil]
      rw [← e]
      simp
theorem op_eqF (hu : X.A.units + 64 < cLine) : OpR X (compareOp .Eq) (G2 X.K cA eqF) := by
  intro pins s σ H x y v u Q I rv ru h
  obtain ⟨F, p, mu, a, b, z, R, ra, rb, e, q⟩ := h
  rcases eqF_cases e with ⟨x0, xs, rfl, rfl, rfl⟩ | e
  · obtain ⟨l, b, i1, i2, rfl, rfl, t1, t2, sz⟩ := lst_two I R ra rb rv ru
    have key := SeqAt.RcAt.lists_lengths (A := X.A) t1 t2 (by simpa using sz) (by omega) X.prog X.w (fun e s' => (X.xe e s')) (fun w s' => ∃ w' H', Inv X pins σ H' s' ∧ L2.RelV w' w ∧ Q w' H')
    exact key ⟨.bl false, H, I, rfl, q.now R (.bl _)⟩
  · exact op_eqV hu pins s σ H x y v u Q I rv ru ⟨F, p, mu, a, b, z, R, ra, rb, e, q⟩
theorem op_neF (hu : X.A.units + 64 < cLine) : OpR X (compareOp .NotEq) (G2 X.K cA neF) := by
  intro pins s σ H x y v u Q I rv ru h
  obtain ⟨F, p, mu, a, b, z, R, ra, rb, e, q⟩ := h
  rcases neF_cases e with ⟨x0, xs, rfl, rfl, rfl⟩ | e
  · obtain ⟨l, b, i1, i2, rfl, rfl, t1, t2, sz⟩ := lst_two I R ra rb rv ru
    have key := SeqAt.RcNeAt.lists_lengths (A := X.A) t1 t2 (by simpa using sz) (by omega) X.prog X.w (fun e s' => (X.xe e s')) (fun w s' => ∃ w' H', Inv X pins σ H' s' ∧ L2.RelV w' w ∧ Q w' H')
    exact key ⟨.bl true, H, I, rfl, q.now R (.bl _)⟩
  · exact op_neV hu pins s σ H x y v u Q I rv ru ⟨F, p, mu, a, b, z, R, ra, rb, e, q⟩
end
end CC

set_option Elab.async false
set_option linter.all false
set_option maxRecDepth 100000
set_option maxHeartbeats 2000000
/-! CC33: repr of data with dicts within. -/
namespace CC
open PySem PySem.Spec PyProof.Rows L2
def kD : DKey → Option PyData
  | .int i => some (.int i)
  | .str s => some (.str (S s))
  | _ => none
def toDX : Nat → Val → Option PyData
  | _, .non => some .none
  | _, .bl b => some (.bool b)
  | _, .int i => some (.int i)
  | _, .str s => some (.str (S s))
  | n + 1, .tup xs => (mapO (toDX n) xs).map .tuple
  | n + 1, .lst xs => (mapO (toDX n) xs).map .list
  | n + 1, .dct kvs => (mapO (fun q => (kD q.1).bind fun k => (toDX n q.2).map fun v => (k, v)) kvs).map .dict
  | _, _ => none
def toDX1 (mu : Store) (v : Val) : Option PyData := match v with
  | .ref r => (match mu[r]? with
    | some (.lst xs) => toDX 31 (.lst xs)
    | some (.dct kvs) => toDX 31 (.dct kvs)
    | _ => none)
  | v => toDX 31 v
theorem toDX_depth : ∀ (n : Nat) (v : Val) (d : PyData), toDX n v = some d → d.depth ≤ n := by
  intro n
  induction n with
  | zero =>
    intro v d h
    cases v <;> simp only [toDX] at h <;> cases h <;> exact Nat.zero_le _
  | succ n ih =>
    have all : ∀ (xs : List Val) (ds : List PyData), mapO (toDX n) xs = some ds → PyData.depthAll ds ≤ n := by
      intro xs
      induction xs with
      | nil => intro ds h; cases h; exact Nat.zero_le _
      | cons x xs ih2 =>
        intro ds h
        obtain ⟨y, ys, h1, h2, rfl⟩ := mapO_cons h
        simp only [PyData.depthAll]
        exact Nat.max_le.mpr ⟨ih _ _ h1, ih2 _ h2⟩
    have kvs : ∀ (xs : List (DKey × Val)) (ds : List (PyData × PyData)), mapO (fun q : DKey × Val => (kD q.1).bind fun k => (toDX n q.2).map fun v => (k, v)) xs = some ds → PyData.depthKv ds ≤ n := by
      intro xs
      induction xs with
      | nil => intro ds h; cases h; exact Nat.zero_le _
      | cons x xs ih2 =>
        intro ds h
        obtain ⟨y, ys, h1, h2, rfl⟩ := mapO_cons h
        obtain ⟨kd, e3, e4⟩ := Option.bind_eq_some_iff.mp h1
        obtain ⟨vd, e5, rfl⟩ := Option.map_eq_some_iff.mp e4
        have k0 : kd.depth = 0 := by
          obtain ⟨k, v⟩ := x
          cases k <;> cases e3 <;> rfl
        have v0 := ih _ _ e5
        have r0 := ih2 _ h2
        simp only [PyData.depthKv]
        omega
    intro v d h
    cases v with
    | tup xs =>
      simp only [toDX] at h
      obtain ⟨ds, h1, rfl⟩ := Option.map_eq_some_iff.mp h
      have := all _ _ h1
      simp only [PyData.depth]; omega
    | lst xs =>
      simp only [toDX] at h
      obtain ⟨ds, h1, rfl⟩ := Option.map_eq_some_iff.mp h
      have := all _ _ h1
      simp only [PyData.depth]; omega
    | dct xs =>
      simp only [toDX] at h
      obtain ⟨ds, h1, rfl⟩ := Option.map_eq_some_iff.mp h
      have := kvs _ _ h1
      simp only [PyData.depth]; omega
    | _ => (simp only [toDX] at h) <;> first | (cases h; done) | (cases h; exact Nat.zero_le _)
theorem toDX1_depth {mu : Store} {v : Val} {d : PyData} (h : toDX1 mu v = some d) : d.depth ≤ 31 := by
  unfold toDX1 at h
  split at h
  · split at h
    · exact toDX_depth 31 _ _ h
    · exact toDX_depth 31 _ _ h
    · cases h
  · exact toDX_depth 31 _ _ h
/-- sys.modules stands, it is a dict -/
def SysOk (h : Heap) : Prop := ∃ o, h.get? sysModules = some o ∧ o.cls = .type "dict"
theorem not_sys {h : Heap} (hs : SysOk h) {a : Addr} {o : Obj} (ho : h.get? a = some o) (hc : o.cls ≠ .type "dict") : sysModules ≠ a := fun e => by
  obtain ⟨o', h1, h2⟩ := hs
  rw [e, ho] at h1
  cases h1
  exact hc h2
section
variable {X : Cx} {cA : CI} {F : Fz} {p : List Addr} {pins : List (Addr × Obj)} {σ : L2.St} {H : Hp} {s : Shared}
def RdX (s : Shared) (d : PyData) (u : Value) : Prop := ∃ as, PySem.Reads s.heap u d as ∧ sysModules ∉ as
def RdXs (s : Shared) (ds : List PyData) (us : List Value) : Prop := ∃ as, PySem.ReadsAll s.heap us ds as ∧ sysModules ∉ as
theorem RdXs.nil : RdXs s [] [] := ⟨[], .nil, by simp⟩
theorem RdXs.cons {d : PyData} {ds : List PyData} {u : Value} {us : List Value} (h : RdX s d u) (t : RdXs s ds us) : RdXs s (d :: ds) (u :: us) := by
  obtain ⟨as, h1, h2⟩ := h
  obtain ⟨bs, t1, t2⟩ := t
  exact ⟨as ++ bs, .cons h1 t1, fun z => (List.mem_append.mp z).elim h2 t2⟩
theorem rdx_all {n : Nat} (ih : ∀ (v : Val) (d : PyData) (x : V) (u : Value), toDX n v = some d → VR X.K cA F p v x → L2.RelV x u → RdX s d u) : ∀ {xs : List Val} {ds : List PyData} {vs : List V} {us : List Value}, mapO (toDX n) xs = some ds → VRs X.K cA F p xs vs → L2.Vals vs us → RdXs s ds us
  | [], _, _, _, e, .nil, .nil => by cases e; exact .nil
  | x :: xs, _, _, _, e, .cons h t, .cons g r => by
    obtain ⟨y, ys, e1, e2, rfl⟩ := mapO_cons e
    exact .cons (ih x y _ _ e1 h g) (rdx_all ih e2 t r)
theorem keyD {k : DKey} {l : L2.Key} {d : PyData} {u : Value} (h : keyR k l) (e : kD k = some d) (r : L2.RelV (kV l) u) : PySem.Reads s.heap u d [] := by
  cases k with
  | int i =>
    cases e
    cases (show l = .inl i from h)
    obtain ⟨t, rfl⟩ := r
    exact .int i t
  | str i =>
    cases e
    cases (show l = .inr (S i) from h)
    obtain ⟨t, rfl⟩ := r
    exact .str _ t
  | _ => cases e
theorem rdx_kvs {n : Nat} (ih : ∀ (v : Val) (d : PyData) (x : V) (u : Value), toDX n v = some d → VR X.K cA F p v x → L2.RelV x u → RdX s d u) : ∀ {kvs : List (DKey × Val)} {ds : List (PyData × PyData)} {ks : List (L2.Key × V)} {vs : List (L2.Key × Value)} {es : List DictEntry},
    mapO (fun q : DKey × Val => (kD q.1).bind fun k => (toDX n q.2).map fun v => (k, v)) kvs = some ds → KVR X.K cA F p kvs ks → L2.KV ks vs → Pairs (mixKind X.prog X.w) es vs → (∃ as, PySem.ReadsAll s.heap (es.map (·.key)) (ds.map (·.1)) as ∧ sysModules ∉ as) ∧ ∃ as, PySem.ReadsAll s.heap (es.map (·.val)) (ds.map (·.2)) as ∧ sysModules ∉ as
  | [], _, _, _, _, e, .nil, hv, hp => by
    cases e
    cases hv
    cases hp
    exact ⟨⟨[], .nil, by simp⟩, ⟨[], .nil, by simp⟩⟩
  | (k, v) :: kvs, _, _, _, _, e, .cons h1 h2 h3, hv, hp => by
    obtain ⟨y, ys, e1, e2, rfl⟩ := mapO_cons e
    obtain ⟨kd, e3, e4⟩ := Option.bind_eq_some_iff.mp e1
    obtain ⟨vd, e5, rfl⟩ := Option.map_eq_some_iff.mp e4
    cases hv with
    | cons q1 q2 =>
      cases hp with
      | cons p1 p2 p3 =>
        obtain ⟨i1, i2⟩ := rdx_kvs ih e2 h3 q2 p3
        obtain ⟨g1, g2⟩ := q1
        refine ⟨RdXs.cons ⟨[], ?_, by simp⟩ i1, RdXs.cons ?_ i2⟩
        · refine keyD h1 e3 ?_
          have := keyIs_rel p1
          rw [← g1] at this
          exact this
        · show RdX s vd (DictEntry.val _)
          rw [p2]
          exact ih v vd _ _ e5 h2 g2
theorem toDX_rd (I : Inv X pins σ H s) (R : SubH F.f H) (hs : SysOk s.heap) : ∀ (n : Nat) (v : Val) (d : PyData) (x : V) (u : Value), toDX n v = some d → VR X.K cA F p v x → L2.RelV x u → RdX s d u := by
  have leaf : ∀ {d : PyData} {u : Value}, PySem.Reads s.heap u d [] → RdX s d u := fun h => ⟨[], h, by simp⟩
  intro n
  induction n with
  | zero =>
    intro v d x u h r ru
    cases r <;> simp only [toDX] at h <;> cases h
    · cases ru; exact leaf .none
    · cases ru; exact leaf (.bool _)
    · obtain ⟨t, rfl⟩ := ru; exact leaf (.int _ t)
    · obtain ⟨t, rfl⟩ := ru; exact leaf (.str _ t)
  | succ n ih =>
    intro v d x u h r ru
    cases r with
    | non => cases h; cases ru; exact leaf .none
    | bl b => cases h; cases ru; exact leaf (.bool _)
    | int i => cases h; obtain ⟨t, rfl⟩ := ru; exact leaf (.int _ t)
    | str i => cases h; obtain ⟨t, rfl⟩ := ru; exact leaf (.str _ t)
    | tup h1 h2 =>
      simp only [toDX] at h
      obtain ⟨ds, h3, rfl⟩ := Option.map_eq_some_iff.mp h
      cases ru
      obtain ⟨its, rv, ⟨o, ho, hc, k, hd⟩, -⟩ := I.tuple (sub_t R h1)
      obtain ⟨as, q1, q2⟩ := rdx_all ih h3 h2 rv
      exact ⟨as, .tuple ho hc hd q1, q2⟩
    | lst h1 h2 =>
      simp only [toDX] at h
      obtain ⟨ds, h3, rfl⟩ := Option.map_eq_some_iff.mp h
      cases ru
      obtain ⟨its, rv, ⟨o, k, ho, hc, -, hd⟩, -⟩ := I.list (SqL.of (R _ _ h1))
      obtain ⟨as, q1, q2⟩ := rdx_all ih h3 h2 rv
      exact ⟨_ :: as, .list ho hc hd q1, fun z => (List.mem_cons.mp z).elim (not_sys hs ho (by rw [hc]; decide)) q2⟩
    | dct h1 h2 =>
      simp only [toDX] at h
      obtain ⟨ds, h3, rfl⟩ := Option.map_eq_some_iff.mp h
      cases ru
      obtain ⟨-, ne, vs0, kv, o, es, ep, ho, hx, hd, -, hp, -⟩ := dk_of I.hok (R _ _ h1)
      obtain ⟨⟨as, q1, q2⟩, bs, q3, q4⟩ := rdx_kvs ih h3 h2 kv hp
      refine ⟨_ :: as ++ bs, .dict ho hx.1 hd q1 q3, fun z => ?_⟩
      rcases List.mem_append.mp z with z | z
      · rcases List.mem_cons.mp z with z | z
        · rw [← z] at ne; simp at ne
        · exact q2 z
      · exact q4 z
    | _ => cases h
theorem toDX1_rd {mu : Store} (I : Inv X pins σ H s) (R : Rel X.K cA F p mu H) (hs : SysOk s.heap) {v : Val} {d : PyData} {x : V} {u : Value} (h : toDX1 mu v = some d) (r : VR X.K cA F p v x) (ru : L2.RelV x u) : RdX s d u := by
  cases r with
  | ref h1 =>
    obtain ⟨c, h2, h3⟩ := R.at_some h1
    simp only [toDX1, h2] at h
    cases c with
    | lst xs =>
      obtain ⟨vs, q1, q2⟩ := h3
      simp only [toDX] at h
      obtain ⟨ds, h4, rfl⟩ := Option.map_eq_some_iff.mp h
      cases ru
      obtain ⟨its, rv, ⟨o, k, ho, hc, -, hd⟩, -⟩ := I.list (SqL.of q1)
      obtain ⟨as, q3, q4⟩ := rdx_all (toDX_rd I R.sub hs 30) h4 q2 rv
      exact ⟨_ :: as, .list ho hc hd q3, fun z => (List.mem_cons.mp z).elim (not_sys hs ho (by rw [hc]; decide)) q4⟩
    | dct kvs =>
      obtain ⟨ks, q1, q2⟩ := h3
      simp only [toDX] at h
      obtain ⟨ds, h4, rfl⟩ := Option.map_eq_some_iff.mp h
      cases ru
      obtain ⟨-, ne, vs0, kv, o, es, ep, ho, hx, hd, -, hp, -⟩ := dk_of I.hok q1
      obtain ⟨⟨as, q3, q4⟩, bs, q5, q6⟩ := rdx_kvs (toDX_rd I R.sub hs 30) h4 q2 kv hp
      refine ⟨_ :: as ++ bs, .dict ho hx.1 hd q3 q5, fun z => ?_⟩
      rcases List.mem_append.mp z with z | z
      · rcases List.mem_cons.mp z with z | z
        · rw [← z] at ne; simp at ne
        · exact q4 z
      · exact q6 z
    | obj _ _ => cases h
  | tup h1 h2 => exact toDX_rd I R.sub hs 31 _ d _ u h (.tup (cA := cA) (pi := p) h1 h2) ru
  | lst h1 h2 => exact toDX_rd I R.sub hs 31 _ d _ u h (.lst (cA := cA) (pi := p) h1 h2) ru
  | dct h1 h2 => exact toDX_rd I R.sub hs 31 _ d _ u h (.dct (cA := cA) (pi := p) h1 h2) ru
  | non => exact toDX_rd (cA := cA) (p := p) I R.sub hs 31 _ d _ u h .non ru
  | bl b => exact toDX_rd (cA := cA) (p := p) I R.sub hs 31 _ d _ u h (.bl b) ru
  | int b => exact toDX_rd (cA := cA) (p := p) I R.sub hs 31 _ d _ u h (.int b) ru
  | str b => exact toDX_rd (cA := cA) (p := p) I R.sub hs 31 _ d _ u h (.str b) ru
  | _ => cases h
end
def reprX (mu : Store) : List Val → Option Val
  | [a] => (match toDX1 mu a with
    | some d => if d.showable = true ∧ d.shown.length ≤ sizeLine then some (.str (shownL d)) else none
    | none => none)
  | _ => none
/-- the fragment holds sys.modules -/
structure SysK (K : PySem.W.Frag) : Prop where
  ok : ∃ o, K.lookup sysModules = some o ∧ o.cls = .type "dict"
def sysB (K : PySem.W.Frag) : Bool := match K.lookup sysModules with
  | some o => decide (o.cls = .type "dict")
  | none => false
theorem sys_of {K : PySem.W.Frag} (h : sysB K = true) : SysK K := by
  unfold sysB at h
  split at h
  · rename_i o e
    exact ⟨o, e, of_decide_eq_true h⟩
  · cases h
section
variable {X : Cx} {cA : CI}
theorem b_reprX (sk : SysK X.K) (hg : X.A.guards = some []) (hu : X.A.units + 64 < cLine) : CallR X (.builtin "repr") (GA X.K cA reprX) := by
  intro pins s σ H xs us Q I r h
  obtain ⟨F, p, mu, as, z, R, ra, e, q⟩ := h
  unfold reprX at e
  split at e
  · obtain ⟨v, rfl, rv⟩ := vrs1 ra
    split at e
    · rename_i d e1
      by_cases hc : d.showable = true ∧ d.shown.length ≤ sizeLine
      · rw [if_pos hc] at e
        cases e
        obtain ⟨u, rfl, ru⟩ := vals1 r
        have hs : SysOk s.heap := let ⟨o, h1, h2⟩ := sk.ok; ⟨o, I.kIn _ _ h1, h2⟩
        obtain ⟨bs, r1, hsm⟩ := toDX1_rd I R hs e1 rv ru
        have dp := toDX1_depth e1
        have fin : ∀ (k : Nat) (t : Tok), EP X pins σ Q (.str d.shown t) { s with toks := k } := fun k t => ⟨.str d.shown, H, I.tok k, ⟨t, rfl⟩, by rw [shownL_S d]; exact q.now R (.str _)⟩
        cases r1 with
        | none => exact PySem.P.repr_of_none (by simpa only [PyData.shown] using fin _ _)
        | bool b => exact PySem.P.repr_of_bool (by simpa only [PyData.shown] using fin _ _)
        | int i t => exact PySem.P.repr_of_int (by simpa [PyData.showable] using hc.1) (by simpa only [PyData.shown] using fin _ _)
        | str x t => exact PySem.P.repr_of_str (by simpa only [PyData.shown] using fin _ _) (by simpa only [PyData.shown] using hc.2)
        | list h1 h2 h3 h4 =>
          exact PySem.repr_of_reads' (.list h1 h2 h3 h4) hc.1 (fun _ => hsm) hg (by omega) (fun _ _ e => e) (fun h' u tk hk => ⟨.str _, H, I.kept hk, ⟨u, rfl⟩, by rw [shownL_S]; exact q.now R (.str _)⟩) hc.2
        | tuple h1 h2 h3 h4 =>
          exact PySem.repr_of_reads' (.tuple h1 h2 h3 h4) hc.1 (fun _ => hsm) hg (by omega) (fun _ _ e => e) (fun h' u tk hk => ⟨.str _, H, I.kept hk, ⟨u, rfl⟩, by rw [shownL_S]; exact q.now R (.str _)⟩) hc.2
        | dict h1 h2 h3 h4 h5 =>
          exact PySem.repr_of_reads' (.dict h1 h2 h3 h4 h5) hc.1 (fun _ => hsm) hg (by omega) (fun _ _ e => e) (fun h' u tk hk => ⟨.str _, H, I.kept hk, ⟨u, rfl⟩, by rw [shownL_S]; exact q.now R (.str _)⟩) hc.2
      · rw [if_neg hc] at e; cases e
    · cases e
  · cases e
end
/-! ### the hook, with sys.modules -/
def obsCS (n : Nat) (ex : List (PySem.W.Frag → Bool)) (fn : List DD) (tf : List He.Defn) (g : Addr → Option Obj) : AlT2 := (obsC ex fn (He.frT g (He.asD g n ++ [cStatics, sysModules])), He.tabsB g tf (He.frT g (He.asD g n ++ [cStatics, sysModules])))
def hookCS (n : Nat) (ex : List (PySem.W.Frag → Bool)) (fn : List DD) (tf : List He.Defn) : PySem.W.Hook where
  α := AlT2
  obs := fun s => obsCS n ex fn tf s.heap.get?
  val := fun _ => valCT fn
  says := fun _ h => ∃ K : PySem.W.Frag, K.In h ∧ SaysC ex fn K ∧ SaysT2 tf h K
  of := fun _ _ e => ⟨_, He.frT_in, congrArg (fun z : AlT2 => z.1) e, says2 (congrArg (fun z : AlT2 => z.2) e)⟩
  keeps := fun _ _ _ ⟨K, hK, c, t⟩ k => ⟨K, PySem.W.Frag.In.keeps hK k, c, t.hd, t.out, fun p hp => k _ _ (t.empty p hp)⟩
theorem obsCS_eq {n : Nat} {ex : List (PySem.W.Frag → Bool)} {fn : List DD} {tf : List He.Defn} {g : Addr → Option Obj} {s : Shared} (h : ∀ a, g a = s.heap.get? a) : obsCS n ex fn tf g = (hookCS n ex fn tf).obs s := by
  have e : g = s.heap.get? := funext h
  rw [e]
  rfl
end CC

set_option Elab.async false
set_option linter.all false
set_option maxRecDepth 100000
set_option maxHeartbeats 2000000
/-! CC34: lower, swapcase of one sign; a method called by keywords. -/
namespace CC
open PySem PySem.Spec PyProof.Rows L2
def lowerG (s : List Nat) : Option Val := if isAscii s = true ∧ s.length ≤ 100000 then some (.str (s.map lo1)) else none
def sw1 (c : Nat) : Nat := if 65 ≤ c ∧ c ≤ 90 then c + 32 else if 97 ≤ c ∧ c ≤ 122 then c - 32 else c
def swapG (s : List Nat) : Option Val := match s with
  | [c] => if c < 128 then some (.str [sw1 c]) else none
  | _ => none
theorem swap_all : ∀ c : _root_.Fin 128, Txt.swapcase (S [(c : Nat)]) = S [sw1 c] := by decide +kernel
section
variable {X : Cx} {cA : CI} {W : WX} {o a : Expr} {mo ma : M Val} {apos pos : Pos}
theorem mt_lowerG : MtR X "str.lower" (GM0 X.K cA lowerG) := by
  intro pins s σ H x xs v us Q I rx rs ⟨e0, t, z, F, p, mu, e1, e2, R, q⟩
  unfold lowerG at e2
  by_cases hc : isAscii t = true ∧ t.length ≤ 100000
  · rw [if_pos hc] at e2
    cases e2
    refine mt_lower pins s σ H x xs v us Q I rx rs ⟨S t, e1, e0, by rw [S_len]; omega, ?_⟩
    rw [SX.lower_S hc.1]
    exact q.now R (.str _)
  · rw [if_neg hc] at e2; cases e2
theorem mt_swapG : MtR X "str.swapcase" (GM0 X.K cA swapG) := by
  intro pins s σ H x xs v us Q I rx rs ⟨e0, t, z, F, p, mu, e1, e2, R, q⟩
  match t, e1, e2 with
  | [c], e1, e2 =>
    unfold swapG at e2
    by_cases hc : c < 128
    · simp only [hc, if_true] at e2
      cases e2
      have e := swap_all ⟨c, hc⟩
      subst e1 e0
      obtain ⟨tk, rfl⟩ := rx
      cases rs
      have fit : PySem.Builtin.Str.tooLong (Txt.swapcase (S [c])).length = false := by
        have e' : Txt.swapcase (S [c]) = S [sw1 c] := e
        rw [e', S_len]
        show PySem.Builtin.Str.tooLong 1 = false
        decide
      refine PySem.SC.swapcase fit ?_
      refine ⟨.str (S [sw1 c]), H, I.tok _, ⟨s.toks, ?_⟩, q.now R (.str _)⟩
      have e' : Txt.swapcase (S [c]) = S [sw1 c] := e
      rw [e']
    · simp only [hc, if_false] at e2
      cases e2
  | [], e1, e2 => cases e2
  | _ :: _ :: _, e1, e2 => cases e2
theorem c_lower (ho : PEM X cA W o mo) (hbase : attributeBase o "lower" X.env (eval o X.env) = eval o X.env := by rfl) (hline : (apos.endLine == pos.line) = true := by rfl) : PEM X cA W (.Call (.Attribute o "lower" apos) [] [] pos) (sm0 lowerG mo) :=
  c_sm0 F.slot_str_lower F.type_str_lower mt_lowerG ho hbase hline
theorem c_swap (ho : PEM X cA W o mo) (hbase : attributeBase o "swapcase" X.env (eval o X.env) = eval o X.env := by rfl) (hline : (apos.endLine == pos.line) = true := by rfl) : PEM X cA W (.Call (.Attribute o "swapcase" apos) [] [] pos) (sm0 swapG mo) :=
  c_sm0 F.slot_str_swapcase F.type_str_swapcase mt_swapG ho hbase hline
end
theorem okFin {P : Program} {w : World} {K : PySem.W.Frag} {mg : Str → Option Value} {base : Heap} {CX : CXT} {cA : CI} {k : Nat} {f : Addr} {fd : FuncData} {ps : List Str} {m : List Val → Store → R Val} (F : FnOk P w K mg base CX k f fd ps (SpM K cA m)) : FnOk P w K mg base CX k f fd ps (SpM K cA (finM m)) := by
  have conv : ∀ {vs : List V} {H : Hp} {Q : VK} {E : XK}, SpM K cA (finM m) vs H Q E → SpM K cA m vs H Q E := fun ⟨F, p, mu, as, h1, h2, h3⟩ => ⟨F, p, mu, as, h1, h2, post_fin h1 h3⟩
  exact ⟨fun vs H Q E h => F.len vs H Q E (conv h), fun A outer s H args us vs Q E hr e0 hb rv h => F.run A outer s H args us vs Q E hr e0 hb rv (conv h)⟩
def methKM (C n : Nat) (g : List Val → Store → R Val) (mo : M Val) (ms : M (List Val)) : M Val := fun r mu => (mo r mu).bind fun x mu1 => match objV mu1 x with
  | some (C', _) => if C' = C then ((ms r mu1).bind fun as mu2 => if as.length = n then g (x :: as) mu2 else .bad) else .bad
  | none => .bad
section
variable {X : Cx} {cA : CI} {E : XK} {pos apos : Pos} {o : Expr} {f : Addr} {k : Nat} {m : List Val → Store → R Val} {ms : M (List Val)} {mo : M Val}
theorem c_methK {C : Nat} {nm : Str} {pl : Sem Bool} {fd : FuncData} {ps ks : List Str} {kws : List Keyword} {gp : {α : Type} → List α → List α} (F : FnOk X.prog X.w X.K X.mg X.base (L2N.CX X.prog X.w) k f fd ps (SpM X.K cA m)) (c : Cls X.K (cA C)) (hm : Meth X.K (cA C) nm f) (hn : ∀ n : Nat, n < 45 → nm ≠ aN n) (hr : Room k X.A) (tk : L2N.Takes X (Wf E))
    (hb : KBn X.K fd ps 1 ks (fun us ws => us ++ gp ws) (fun vs zs => vs ++ gp zs)) (hp : ∀ {F : Fz} {q : List Addr} {as : List Val} {vs : List V}, VRs X.K cA F q as vs → VRs X.K cA F q (gp as) (gp vs)) (ho : PEM X cA (Wf E) o mo) (hkw : PKM X cA (Wf E) kws ms)
    (hall : (backToKw pos (keywordEach kws X.env)).all (·.1.isSome) = true := by rfl) (hks : (backToKw pos (keywordEach kws X.env)).filterMap (·.1) = ks := by rfl)
    (hpl : ((backTo pos (starEach [] X.env)).any (·.1) || (backToKw pos (keywordEach kws X.env)).any (·.1.isNone)) = false := by rfl)
    (ht : eval (.Call (.Attribute o nm apos) [] kws pos) X.env = (do
      let ov ← eval o X.env
      standAt apos.atName
      let (f, first) ← holding [ov] (getMethod ov nm pl)
      callWith pos f first (backTo pos (starEach [] X.env)) (backToKw pos (keywordEach kws X.env))) := by rfl) :
    PEM X cA (Wf E) (.Call (.Attribute o nm apos) [] kws pos) (methKM C ks.length (fun as => m (match as with
      | x :: zs => x :: gp zs
      | [] => [])) mo ms) := by
  refine ⟨fun pins s σ H Q I ⟨F1, p1, r, mu, h1, h2, h3⟩ => ?_⟩
  have hd : DE X.K cA (Wf E) mo σ H fun v H1 => ∃ a dx gs, v = .ref a ∧ H1 a = some (.ins (cA C) dx gs) ∧ gs.lookup nm = none ∧ DA X.K cA (Wf E) ms σ H1 fun zs H2 => zs.length = ks.length ∧ SpM X.K cA m (v :: gp zs) H2 Q E :=
    bindAt h1 h2 h3 fun F2 p2 mu2 y v H1 _ _ c1 d1 e1 f1 => by
      obtain ⟨a, dx, gs, rfl, g1, g2, g3⟩ := meth_at (β := Unit) c1 e1 f1 nm hn
      refine ⟨a, dx, gs, rfl, g1, g2, bindAt c1 d1 g3 fun F3 p3 mu3 as vs H2 a3 b3 c3 _ e3 f3 => ?_⟩
      by_cases hl : as.length = ks.length
      · rw [if_pos hl] at f3
        exact ⟨by rw [← e3.length]; exact hl, sp_of c3 (.cons (e1.mono a3 b3) (hp e3)) f3⟩
      · rw [if_neg hl] at f3; exact f3.elim
  refine PySem.W.methodCall_KW (pl := pl) (thn (ho.run pins s σ H _ I hd) fun u s1 ⟨v, H1, I1, rx, a, dx, gs, ev, ea, l, q⟩ => ?_) ht
  subst ev
  obtain rfl : u = Value.ref a := rx
  refine getmeth_ok I1 ea c hm l ?_
  refine PySem.W.callWith_KW0 (first := [.ref a]) (h₀ := X.base) I.ok.mod.kin hm.kp hall ?_ hpl
  refine thn (hkw.run pos pins s1 σ H1 _ I1 q) fun ws s2 ⟨zs, H2, I2, rz, lz, q2⟩ => ⟨I2.kIn, ?_⟩
  rw [hks]
  have r2 := hb.rel (vs := [V.ref a]) (us := [Value.ref a]) (.cons rfl .nil) rz
  have lw : ws.length = ks.length := by rw [← rz.length]; exact lz
  refine wpAny_call (codeAny_mono (F.run X.A X.stack s2 H2 ⟨[.ref a], ks.zip ws⟩ _ _ Q E hr I2.env0 (hb.to s2 [.ref a] ws I2.kIn rfl lw) r2 q2) fun res s' hq => ?_)
  cases res with
  | error er => exact pass_of tk pins σ H2 s2 er s' I2 hq
  | ok fl =>
    cases fl with
    | ret u => exact I2.after hq
    | next => exact False.elim hq
    | brk => exact False.elim hq
    | cont => exact False.elim hq
end
end CC

set_option Elab.async false
set_option linter.all false
set_option maxRecDepth 100000
set_option maxHeartbeats 2000000
/-! CC35: raise C(), C a class of the program's own without __init__, over ArithmeticError. -/
namespace CC
open PySem PySem.Spec PyProof.Rows L2
abbrev bmAr : List Value := [.type "ArithmeticError", .type "Exception", .type "BaseException", .type "object"]
/-- what is known of such a class -/
structure ExC0 (K : PySem.W.Frag) (mg : Str → Option Value) (C : Addr) (x : Str) : Prop where
  exI : PySem.W.excIn K C bmAr "ArithmeticError.__new__" = true
  sub : PySem.W.subIn K (.ref C) (.type "BaseException") = some true
  ty : PySem.W.typeIn K (.ref C) = some (.type "type")
  kp : PySem.W.keepIn K (.ref C) = true
  glo : mg x = some (.ref C)
theorem pmkN0 {X : Cx} {C : Addr} {x : Str} {p pos : Pos} (T : ExC0 X.K X.mg C x) (hg : Gl X x) (hdb : (x == ("__debug__" : Str)) = false := by decide) : L2N.PMk X (.Call (.Name x p) [] [] pos) (fun _ H Q => Q (.ref C) none H) := by
  intro pins s σ H Q I h
  refine wpAny_Call_Name_kw (ld_glob I hg T.glo ?_ hdb)
  refine PySem.W.callWith_K0 I.kIn T.kp ?_
  show wpAny _ _ (call (.ref C) []) _ _ _
  obtain ⟨bm, N, nm, qn, bs, hdct, sn, sub, ab, col, dd, k0, k1, k2, k3, k5, mN, hC, hN, hni, tl⟩ := exc_obj I.kIn T.exI
  refine wpAny_call_exc_subT PySem.F.excBase_ArithmeticError tl hC hN hni (fun h' e hm => ?_) (Nat.zero_le _)
  exact L2N.mk_of I hm (raises_own T.sub T.ty) h (I.hok.gone hm.new)
def raise0S (C : Nat) : MS := fun r mu => .exc C [] r mu
section
variable {X : Cx} {cA : CI} {W : WX} {pos p pos' : Pos}
theorem s_raise0 {C : Nat} {x : Str} (hc : X.calm = true) (tk : L2N.Takes X W) (T : ExC0 X.K X.mg (cA C) x) (hg : Gl X x := by rfl) (hdb : (x == ("__debug__" : Str)) = false := by decide) :
    PSM X cA W (.Raise (some (.Call (.Name x p) [] [] pos)) none pos') (raise0S C) :=
  ps_weak (L2N.ps_raise hc tk (pmkN0 T hg hdb)) fun D s H ⟨F, p, r, mu, h1, h2, h3⟩ => by
    exact h3 F p H s (.ref (cA C)) none (Sub.refl F) (List.prefix_refl p) h1 h2 ⟨rfl, .inl ⟨rfl, rfl⟩⟩
end
/-! what the written part says -/
def exc0B (K : PySem.W.Frag) (x : Str) : Bool := PySem.W.excIn K (He.ga K x) bmAr "ArithmeticError.__new__" && (decide (PySem.W.subIn K (.ref (He.ga K x)) (.type "BaseException") = some true) && (decide (PySem.W.typeIn K (.ref (He.ga K x)) = some (.type "type")) && (PySem.W.keepIn K (.ref (He.ga K x)) && (He.Fa.glo x).ok K)))
theorem exc0_of {K : PySem.W.Frag} {h : Heap} {mg : Str → Option Value} {x : Str} (X : K.In h) (G : h.Ns mainGlobals mg) (c : exc0B K x = true) : ExC0 K mg (He.ga K x) x := by
  obtain ⟨h1, h⟩ := He.ba c
  obtain ⟨h2, h⟩ := He.ba h
  obtain ⟨h3, h⟩ := He.ba h
  obtain ⟨h4, h5⟩ := He.ba h
  exact ⟨h1, of_decide_eq_true h2, of_decide_eq_true h3, h4, He.glo_ok X G h5⟩
end CC

set_option Elab.async false
set_option linter.all false
set_option maxRecDepth 100000
set_option maxHeartbeats 2000000
/-! CC36: text[::-1]. -/
namespace CC
open PySem PySem.Spec PyProof.Rows L2
theorem idx_back (n : Nat) : Builtin.Str.strSliceIndices none none (-1) n = (List.range n).reverse := by
  have e : Builtin.Str.strSliceIndices none none (-1) n = sliceRange ((n : Int) - 1) (-1) (-1) := rfl
  rw [e, ← PySem.W.krv_range]
  unfold sliceRange
  simp only [show ¬ ((-1 : Int) > 0) from by decide, if_false]
  by_cases h : (n : Int) - 1 > -1
  · have e3 : (((n : Int) - 1 - -1 - -1 - 1) / (- -1)).toNat = n := by
      rw [show (- -1 : Int) = 1 by decide, Int.ediv_one]
      omega
    simp only [h, if_true, e3]
    exact List.map_congr_left fun k hk => by
      have := List.mem_range.mp hk
      omega
  · have : n = 0 := by omega
    subst this
    rfl
theorem picked_back (x : List Nat) : (Builtin.Str.strSliceIndices none none (-1) (S x).length).filterMap ((S x).cps[·]?) = x.reverse := by
  rw [idx_back, List.filterMap_reverse]
  have := PySem.W.krv_all (S x).cps
  have e : (S x).cps.toList = x := by simp [S]
  rw [e] at this
  congr 1
def backSV : Store → Val → Option Val := fun _ a => match a with
  | .str s => if s.length ≤ 100000 then some (.str s.reverse) else none
  | _ => none
section
variable {X : Cx} {cA : CI} {W : WX} {e : Expr} {k : Nat} {p1 p2 p3 pos : Pos} {ma : M Val}
theorem c_backS (he : PEM X cA W e ma) : PEM X cA W (.Subscript e (.Slice none none (some (.UnaryOp .USub (.Constant (.int 1) k p1) p2)) p3) pos) (u1 backSV ma) := by
  refine ⟨fun pins s σ H Q I ⟨F, p, r, mu, h1, h2, h3⟩ => ?_⟩
  have hd : DE X.K cA W ma σ H fun v H1 => ∃ x, v = .str (S x) ∧ x.length ≤ 100000 ∧ Q (.str (S x.reverse)) H1 :=
    bindAt h1 h2 h3 fun F1 p1 mu1 x v H1 a1 b1 c1 d1 e1 f1 => by
      obtain ⟨z, e2, q⟩ := post_opt f1
      cases e1 with
      | str x =>
        simp only [backSV] at e2
        split at e2
        · rename_i hl
          cases e2
          exact ⟨x, rfl, hl, q.now c1 (.str _)⟩
        · cases e2
      | _ => cases e2
  refine Subscript_ (thn (he.run pins s σ H _ I hd) fun v s1 ⟨v', H1, I1, r1, x, ex, hx, q⟩ => ?_)
  subst ex
  obtain ⟨t, rfl⟩ := r1
  have step : PO X (some (.UnaryOp .USub (.Constant (.int 1) k p1) p2)) (tPart (tUn (rU fun i => .int (-i)) (tC (.int 1)))) := po_some (pe_un un_neg pe_int)
  refine wpAny_Slice (thn (po_none.run pins s1 σ H1 (fun o H2 => o = none ∧ H2 = H1) I1 ⟨rfl, rfl⟩) fun vl s2 ⟨l, H2, I2, pl, el, e2⟩ => ?_)
  subst el e2
  refine thn (po_none.run pins s2 σ H2 (fun o H3 => o = none ∧ H3 = H2) I2 ⟨rfl, rfl⟩) fun vu s3 ⟨u, H3, I3, pu, eu, e3⟩ => ?_
  subst eu e3
  refine thn (step.run pins s3 σ H3 (fun o H4 => o = some (-1) ∧ H4 = H3) I3 ⟨1, rfl, -1, rfl, rfl, rfl⟩) fun vs' s4 ⟨o, H4, I4, ps, eo, e4⟩ => ?_
  subst eo e4
  have I5 : Inv X pins σ H4 { s4 with heap := s4.heap.push { cls := .type "slice", data := .fields #[vl, vu, vs'] } } := I4.kept (t' := s4.toks) fun b ob q => Heap.get?_push_of_some _ q
  show wpAny (model X.prog X.w) X.A (subscriptTail e (.Slice none none (some (.UnaryOp .USub (.Constant (.int 1) k p1) p2)) p3) (.str (S x) t) (.ref s4.heap.objs.size)) (EP X pins σ Q) X.xe _
  refine tail_any (ops := [.str (S x) t, .ref s4.heap.objs.size]) (typeIs_str _ _ _) PySem.F.slot_str_getitem.lookup ?_ (by with_unfolding_all rfl)
  obtain ⟨lv, rfl, hl⟩ := IsPart.raw pl
  obtain ⟨uv, rfl, hu⟩ := IsPart.raw pu
  obtain ⟨sv, rfl, hsv⟩ := IsPart.raw ps
  obtain rfl : lv = none := by simpa using hl
  obtain rfl : uv = none := by simpa using hu
  obtain ⟨⟨j, tk⟩, rfl, hj⟩ := Option.map_eq_some_iff.mp hsv
  obtain rfl : j = -1 := hj
  refine wpAny_getItem_str_slice (l := none) (u := none) (st := some (-1, tk)) ⟨_, Heap.get?_push_size _ rfl, rfl, rfl⟩ rfl ?_
  show Made.post (if ((-1 : Int) == 1 && _) = true then _ else Made.str ⟨((Builtin.Str.strSliceIndices none none (-1) (S x).length).filterMap ((S x).cps[·]?)).toArray⟩) (EP X pins σ Q) _
  rw [if_neg (by simp), picked_back]
  exact ⟨by show x.reverse.toArray.size ≤ sizeLine; simp only [List.size_toArray, List.length_reverse]; exact line5' hx, .str _, H4, I5.tok _, ⟨_, rfl⟩, q⟩
end
end CC

set_option Elab.async false
set_option linter.all false
set_option maxRecDepth 100000
set_option maxHeartbeats 4000000
namespace K06
open PySem PySem.Spec PyProof.Rows L2 CC LamX
abbrev top (i : Nat) : Stmt := PySem.Challenge.pw_cablecourses_k06_walks_and_what_they_lea.main.body.getD i (.Pass ⟨0, 0, 0, 0⟩)
abbrev met (i j : Nat) : Stmt := (C8.clsBody (top i)).getD j (.Pass ⟨0, 0, 0, 0⟩)
def clsN : List Str := ["House", "NotFit", "InvalidRoom", "InvalidDoor", "InvalidWalk", "InvalidCourse", "InvalidNumber", "InvalidText", "NotAHouse", "NotAProgram", "NotAPlan", "NotCourses", "InvalidRooms", "InvalidDoors", "InvalidPrograms", "InvalidCourses", "NotThere", "UnknownProgram", "CannotBe", "Unjoined", "OtherHouse"]
def tfs : List He.Defn := [("_law_right", none)]
abbrev q0 : He.Defn := ("_law_right", none)
theorem q0_in : q0 ∈ tfs := by decide
def cA (K : PySem.W.Frag) : CI := ⟨fun n => He.ga K (clsN.getD n ""), tabL K tfs, []⟩
abbrev AI_InvalidRoom (K : PySem.W.Frag) : Addr := He.fAd K ("InvalidRoom", some "__init__")
abbrev AI_InvalidDoor (K : PySem.W.Frag) : Addr := He.fAd K ("InvalidDoor", some "__init__")
abbrev AI_InvalidWalk (K : PySem.W.Frag) : Addr := He.fAd K ("InvalidWalk", some "__init__")
abbrev AI_InvalidCourse (K : PySem.W.Frag) : Addr := He.fAd K ("InvalidCourse", some "__init__")
abbrev AI_InvalidNumber (K : PySem.W.Frag) : Addr := He.fAd K ("InvalidNumber", some "__init__")
abbrev AI_InvalidText (K : PySem.W.Frag) : Addr := He.fAd K ("InvalidText", some "__init__")
abbrev AI_NotAHouse (K : PySem.W.Frag) : Addr := He.fAd K ("NotAHouse", some "__init__")
abbrev AI_NotAProgram (K : PySem.W.Frag) : Addr := He.fAd K ("NotAProgram", some "__init__")
abbrev AI_NotAPlan (K : PySem.W.Frag) : Addr := He.fAd K ("NotAPlan", some "__init__")
abbrev AI_NotCourses (K : PySem.W.Frag) : Addr := He.fAd K ("NotCourses", some "__init__")
abbrev AI_InvalidRooms (K : PySem.W.Frag) : Addr := He.fAd K ("InvalidRooms", some "__init__")
abbrev AI_InvalidDoors (K : PySem.W.Frag) : Addr := He.fAd K ("InvalidDoors", some "__init__")
abbrev AI_InvalidPrograms (K : PySem.W.Frag) : Addr := He.fAd K ("InvalidPrograms", some "__init__")
abbrev AI_InvalidCourses (K : PySem.W.Frag) : Addr := He.fAd K ("InvalidCourses", some "__init__")
abbrev AI_UnknownProgram (K : PySem.W.Frag) : Addr := He.fAd K ("UnknownProgram", some "__init__")
abbrev sI_InvalidRoom : Stmt := (met 3 0)
abbrev sI_InvalidDoor : Stmt := (met 4 0)
abbrev sI_InvalidWalk : Stmt := (met 5 0)
abbrev sI_InvalidCourse : Stmt := (met 6 0)
abbrev sI_InvalidNumber : Stmt := (met 7 0)
abbrev sI_InvalidText : Stmt := (met 8 0)
abbrev sI_NotAHouse : Stmt := (met 9 0)
abbrev sI_NotAProgram : Stmt := (met 10 0)
abbrev sI_NotAPlan : Stmt := (met 11 0)
abbrev sI_NotCourses : Stmt := (met 12 0)
abbrev sI_InvalidRooms : Stmt := (met 13 0)
abbrev sI_InvalidDoors : Stmt := (met 14 0)
abbrev sI_InvalidPrograms : Stmt := (met 15 0)
abbrev sI_InvalidCourses : Stmt := (met 16 0)
abbrev sI_UnknownProgram : Stmt := (met 18 0)
abbrev PI_InvalidRoom : List Str := ["self", "given"]
abbrev PI_InvalidDoor : List Str := ["self", "given"]
abbrev PI_InvalidWalk : List Str := ["self", "given"]
abbrev PI_InvalidCourse : List Str := ["self", "given"]
abbrev PI_InvalidNumber : List Str := ["self", "given"]
abbrev PI_InvalidText : List Str := ["self", "given"]
abbrev PI_NotAHouse : List Str := ["self", "given"]
abbrev PI_NotAProgram : List Str := ["self", "given"]
abbrev PI_NotAPlan : List Str := ["self", "given"]
abbrev PI_NotCourses : List Str := ["self", "given"]
abbrev PI_InvalidRooms : List Str := ["self", "index"]
abbrev PI_InvalidDoors : List Str := ["self", "index"]
abbrev PI_InvalidPrograms : List Str := ["self", "index"]
abbrev PI_InvalidCourses : List Str := ["self", "index"]
abbrev PI_UnknownProgram : List Str := ["self", "given"]
def fuelW : Nat := 100000
def WL : List (Nat × List Nat) := [(2, [114, 111, 111, 109]), (4, [119, 97, 108, 107])]
def AL : List (Nat × Nat) := [(2, 0), (4, 0)]
abbrev wordL : Nat → Option (List Nat) := fun C => WL.lookup C
abbrev attL : Nat → Option Nat := fun C => AL.lookup C
abbrev toldL : List Nat := [116, 111, 108, 100]
def ktL : List ((Tg × Tg) × Bool) := [((.inl "NoneType", .inr 0), false), ((.inl "bool", .inr 0), false), ((.inl "int", .inr 0), false), ((.inl "str", .inr 0), false), ((.inl "tuple", .inr 0), false), ((.inl "list", .inr 0), false), ((.inl "dict", .inr 0), false), ((.inr 0, .inr 0), true), ((.inr 0, .inl "NoneType"), false), ((.inr 0, .inl "bool"), false), ((.inr 0, .inl "int"), false), ((.inr 0, .inl "str"), false), ((.inr 0, .inl "tuple"), false), ((.inr 0, .inl "list"), false), ((.inr 0, .inl "dict"), false), ((.inr 2, .inr 1), true), ((.inr 2, .inr 2), true), ((.inr 2, .inr 3), false), ((.inr 2, .inr 4), false), ((.inr 2, .inr 5), false), ((.inr 2, .inr 6), false), ((.inr 2, .inr 7), false), ((.inr 2, .inr 8), false), ((.inr 2, .inr 9), false), ((.inr 2, .inr 10), false), ((.inr 2, .inr 11), false), ((.inr 2, .inr 12), false), ((.inr 2, .inr 13), false), ((.inr 2, .inr 14), false), ((.inr 2, .inr 15), false), ((.inr 2, .inr 16), false), ((.inr 2, .inr 17), false), ((.inr 2, .inr 18), false), ((.inr 2, .inr 19), false), ((.inr 2, .inr 20), false), ((.inr 2, .inl "ValueError"), true), ((.inr 2, .inl "LookupError"), false), ((.inr 2, .inl "ArithmeticError"), false), ((.inr 4, .inr 1), true), ((.inr 4, .inr 2), false), ((.inr 4, .inr 3), false), ((.inr 4, .inr 4), true), ((.inr 4, .inr 5), false), ((.inr 4, .inr 6), false), ((.inr 4, .inr 7), false), ((.inr 4, .inr 8), false), ((.inr 4, .inr 9), false), ((.inr 4, .inr 10), false), ((.inr 4, .inr 11), false), ((.inr 4, .inr 12), false), ((.inr 4, .inr 13), false), ((.inr 4, .inr 14), false), ((.inr 4, .inr 15), false), ((.inr 4, .inr 16), false), ((.inr 4, .inr 17), false), ((.inr 4, .inr 18), false), ((.inr 4, .inr 19), false), ((.inr 4, .inr 20), false), ((.inr 4, .inl "ValueError"), true), ((.inr 4, .inl "LookupError"), false), ((.inr 4, .inl "ArithmeticError"), false)]
def icL : List Nat := [0]
def nfL : List (Nat × Tg) := [(0, .inl "NoneType"), (0, .inl "bool"), (0, .inl "int"), (0, .inl "str"), (0, .inl "tuple"), (0, .inl "list"), (0, .inl "dict"), (0, .inr 0)]
def naL : List (Nat × Nat) := [(0, 3), (0, 4), (0, 5), (0, 6)]
def kt : Tg → Tg → Option Bool := ktOf ktL
def ic : Nat → Bool := icOf icL
def nf : Nat → Tg → Bool := nfOf nfL
def na : Nat → Nat → Bool := naOf naL
structure Fac (K : PySem.W.Frag) (mg : Str → Option Value) : Prop where
  b_ArithmeticError : mg "ArithmeticError" = none
  b_LookupError : mg "LookupError" = none
  b_ValueError : mg "ValueError" = none
  b_abs : mg "abs" = none
  b_all : mg "all" = none
  b_enumerate : mg "enumerate" = none
  b_int : mg "int" = none
  b_isinstance : mg "isinstance" = none
  b_len : mg "len" = none
  b_list : mg "list" = none
  b_max : mg "max" = none
  b_min : mg "min" = none
  b_range : mg "range" = none
  b_repr : mg "repr" = none
  b_sorted : mg "sorted" = none
  b_str : mg "str" = none
  b_tuple : mg "tuple" = none
  gs_LETTERS : ∃ t, mg "LETTERS" = some (.str "abcdefghijklmnopqrstuvwxyz" t)
  gi_MOST_DOORS : ∃ t, mg "MOST_DOORS" = some (.int 5 t)
  gi_MOST_LETTERS : ∃ t, mg "MOST_LETTERS" = some (.int 8 t)
  gi_MOST_ROOMS : ∃ t, mg "MOST_ROOMS" = some (.int 4 t)
  gf__law_class : mg "_law_class" = some (.ref (He.fAd K ("_law_class", none)))
  kp__law_class : PySem.W.keepIn K (.ref (He.fAd K ("_law_class", none))) = true
  gf__law_dip : mg "_law_dip" = some (.ref (He.fAd K ("_law_dip", none)))
  kp__law_dip : PySem.W.keepIn K (.ref (He.fAd K ("_law_dip", none))) = true
  gf__law_due : mg "_law_due" = some (.ref (He.fAd K ("_law_due", none)))
  kp__law_due : PySem.W.keepIn K (.ref (He.fAd K ("_law_due", none))) = true
  gf__law_end : mg "_law_end" = some (.ref (He.fAd K ("_law_end", none)))
  kp__law_end : PySem.W.keepIn K (.ref (He.fAd K ("_law_end", none))) = true
  gf__law_error : mg "_law_error" = some (.ref (He.fAd K ("_law_error", none)))
  kp__law_error : PySem.W.keepIn K (.ref (He.fAd K ("_law_error", none))) = true
  gf__law_has : mg "_law_has" = some (.ref (He.fAd K ("_law_has", none)))
  kp__law_has : PySem.W.keepIn K (.ref (He.fAd K ("_law_has", none))) = true
  gf__law_odd : mg "_law_odd" = some (.ref (He.fAd K ("_law_odd", none)))
  kp__law_odd : PySem.W.keepIn K (.ref (He.fAd K ("_law_odd", none))) = true
  gf__law_one : mg "_law_one" = some (.ref (He.fAd K ("_law_one", none)))
  kp__law_one : PySem.W.keepIn K (.ref (He.fAd K ("_law_one", none))) = true
  gf__law_other : mg "_law_other" = some (.ref (He.fAd K ("_law_other", none)))
  kp__law_other : PySem.W.keepIn K (.ref (He.fAd K ("_law_other", none))) = true
  gf__law_parts : mg "_law_parts" = some (.ref (He.fAd K ("_law_parts", none)))
  kp__law_parts : PySem.W.keepIn K (.ref (He.fAd K ("_law_parts", none))) = true
  gf__law_right : mg "_law_right" = some (.ref (He.fAd K ("_law_right", none)))
  kp__law_right : PySem.W.keepIn K (.ref (He.fAd K ("_law_right", none))) = true
  gf__law_short : mg "_law_short" = some (.ref (He.fAd K ("_law_short", none)))
  kp__law_short : PySem.W.keepIn K (.ref (He.fAd K ("_law_short", none))) = true
  gf__law_walk_from : mg "_law_walk_from" = some (.ref (He.fAd K ("_law_walk_from", none)))
  kp__law_walk_from : PySem.W.keepIn K (.ref (He.fAd K ("_law_walk_from", none))) = true
  gf__law_ways : mg "_law_ways" = some (.ref (He.fAd K ("_law_ways", none)))
  kp__law_ways : PySem.W.keepIn K (.ref (He.fAd K ("_law_ways", none))) = true
  gf__law_well : mg "_law_well" = some (.ref (He.fAd K ("_law_well", none)))
  kp__law_well : PySem.W.keepIn K (.ref (He.fAd K ("_law_well", none))) = true
  gf__law_words : mg "_law_words" = some (.ref (He.fAd K ("_law_words", none)))
  kp__law_words : PySem.W.keepIn K (.ref (He.fAd K ("_law_words", none))) = true
  gf_is_door : mg "is_door" = some (.ref (He.fAd K ("is_door", none)))
  kp_is_door : PySem.W.keepIn K (.ref (He.fAd K ("is_door", none))) = true
  gf_is_letter : mg "is_letter" = some (.ref (He.fAd K ("is_letter", none)))
  kp_is_letter : PySem.W.keepIn K (.ref (He.fAd K ("is_letter", none))) = true
  gf_is_name : mg "is_name" = some (.ref (He.fAd K ("is_name", none)))
  kp_is_name : PySem.W.keepIn K (.ref (He.fAd K ("is_name", none))) = true
  gf_law : mg "law" = some (.ref (He.fAd K ("law", none)))
  kp_law : PySem.W.keepIn K (.ref (He.fAd K ("law", none))) = true
  gf_taken_in : mg "taken_in" = some (.ref (He.fAd K ("taken_in", none)))
  kp_taken_in : PySem.W.keepIn K (.ref (He.fAd K ("taken_in", none))) = true
  gf_undo : mg "undo" = some (.ref (He.fAd K ("undo", none)))
  kp_undo : PySem.W.keepIn K (.ref (He.fAd K ("undo", none))) = true
  gf_wrong_door : mg "wrong_door" = some (.ref (He.fAd K ("wrong_door", none)))
  kp_wrong_door : PySem.W.keepIn K (.ref (He.fAd K ("wrong_door", none))) = true
  gf_wrong_room : mg "wrong_room" = some (.ref (He.fAd K ("wrong_room", none)))
  kp_wrong_room : PySem.W.keepIn K (.ref (He.fAd K ("wrong_room", none))) = true
  gc_CannotBe : mg "CannotBe" = some (.ref (cA K 18))
  gc_House : mg "House" = some (.ref (cA K 0))
  gc_InvalidCourse : mg "InvalidCourse" = some (.ref (cA K 5))
  gc_InvalidCourses : mg "InvalidCourses" = some (.ref (cA K 15))
  gc_InvalidDoor : mg "InvalidDoor" = some (.ref (cA K 3))
  gc_InvalidDoors : mg "InvalidDoors" = some (.ref (cA K 13))
  gc_InvalidNumber : mg "InvalidNumber" = some (.ref (cA K 6))
  gc_InvalidPrograms : mg "InvalidPrograms" = some (.ref (cA K 14))
  gc_InvalidRoom : mg "InvalidRoom" = some (.ref (cA K 2))
  gc_InvalidRooms : mg "InvalidRooms" = some (.ref (cA K 12))
  gc_InvalidText : mg "InvalidText" = some (.ref (cA K 7))
  gc_InvalidWalk : mg "InvalidWalk" = some (.ref (cA K 4))
  gc_NotAHouse : mg "NotAHouse" = some (.ref (cA K 8))
  gc_NotAPlan : mg "NotAPlan" = some (.ref (cA K 10))
  gc_NotAProgram : mg "NotAProgram" = some (.ref (cA K 9))
  gc_NotCourses : mg "NotCourses" = some (.ref (cA K 11))
  gc_NotFit : mg "NotFit" = some (.ref (cA K 1))
  gc_NotThere : mg "NotThere" = some (.ref (cA K 16))
  gc_OtherHouse : mg "OtherHouse" = some (.ref (cA K 20))
  gc_Unjoined : mg "Unjoined" = some (.ref (cA K 19))
  gc_UnknownProgram : mg "UnknownProgram" = some (.ref (cA K 17))
  cl_House : Cls K (cA K 0)
  mk_House : Mk K (cA K 0) (He.fAd K ("House", some "__init__"))
  ki : KI K (cA K) kt ic
  ex_InvalidRooms : ExC K mg (cA K 12) (AI_InvalidRooms K) "InvalidRooms" (aN 1)
  ex_InvalidDoors : ExC K mg (cA K 13) (AI_InvalidDoors K) "InvalidDoors" (aN 1)
  ex_InvalidRoom : ExC K mg (cA K 2) (AI_InvalidRoom K) "InvalidRoom" (aN 0)
  ex_InvalidWalk : ExC K mg (cA K 4) (AI_InvalidWalk K) "InvalidWalk" (aN 0)
  exk : ExKs K (cA K) (WL.map (·.1))
  xat : ∀ C ∈ WL.map (·.1), ∀ n ∈ [0, 1], PySem.W.findIn K (.ref (cA K C)) (aN n) = some none
  exm : ∀ C ∈ WL.map (·.1), PySem.W.exmAny K (.ref (cA K C)) ([1, 16, 18].map fun t => Value.ref (cA K t)) = some true
  sys : SysK K
  tu : tuB tfs K = true
  kf : KF K (cA K) na
  me_House_check_room : Meth K (cA K 0) "check_room" (He.fAd K ("House", some "check_room"))
  me_House_end : Meth K (cA K 0) "end" (He.fAd K ("House", some "end"))
  me_House_led : Meth K (cA K 0) "led" (He.fAd K ("House", some "led"))
  me_House_left : Meth K (cA K 0) "left" (He.fAd K ("House", some "left"))
section
variable {P : Program} {w : World} {K : PySem.W.Frag} {mg : Str → Option Value} {base : Heap}
/-! is_name -/
abbrev s_is_name : Stmt := (top 27)
abbrev N_is_name : List Str := ["value", "sign"]
theorem nd_is_name : N_is_name.Nodup := by decide +kernel
abbrev P_is_name : List Str := ["value"]
abbrev A_is_name (K : PySem.W.Frag) : Addr := He.fAd K ("is_name", none)
noncomputable def b_is_name : MS :=
    (seqS (ifS (orT (notT (tstM (fA (isiV kt ic) (consM (vM 0) (consM (cM (.ty "str")) nilM))))) (notT (tB (chM leV leV (cM (.int 1)) (fA lenV (consM (vM 0) nilM)) (cM (.int 8)))))) (retS (cM (.bl false))) nextS)
    (retS (fA allV (consM (lcM (itS (vM 0)) [1] oneC yesT (b2 inV2 (vM 1) (cM (strL "abcdefghijklmnopqrstuvwxyz"))) [1]) nilM))))
noncomputable def m0_is_name : List Val → Store → R Val := defK 1 2 b_is_name
noncomputable def m_is_name : List Val → Store → R Val := finM m0_is_name
theorem o_is_name (Fc : Fac K mg) {fd : FuncData} (F : FunD K "is_name" "is_name" (defArgs s_is_name) (defBody s_is_name) (defScope s_is_name) [] [] (A_is_name K) fd) : FnOk P w K mg base (L2N.CX P w) 1 (A_is_name K) fd P_is_name (SpM K (cA K) m0_is_name) :=
  def_okO (N := N_is_name) (ps := P_is_name) (k := 0) (np := 1) (nn := 2) (mb := b_is_name) F ⟨rfl, rfl, rfl, by decide +kernel, rfl, by decide +kernel, by decide +kernel⟩ rfl rfl fun cdv A outer s H E hr tk =>
      (s_cons (s_if (c_pt (c_tor (c_tnot (c_test (c_callB (b_isi Fc.ki) Fc.b_isinstance (c_cons (c_var 0) (c_cons (c_bty Fc.b_str) c_nil))))) (c_tor1 (c_tnot (c_tchain op_leV op_leV ordV_bl c_int (c_callB b_len Fc.b_len (c_cons (c_var 0) c_nil)) (c_gint Fc.gi_MOST_LETTERS)))))) (s_one (s_ret c_bl)) s_nil)
      (s_one (s_ret (c_callB (b_all rfl) Fc.b_all (c_cons (c_lc [("sign", 1)] rfl nd_is_name (i_str (c_var 0)) (fun _ _ _ _ _ => (pc_name nd_is_name)) (fun _ _ _ _ _ => t_nil) (fun _ _ _ _ _ => (c_cmp (op_inV (hu200 hr)) (c_var 1) (c_gstr Fc.gs_LETTERS))) (blkOk_by (N := N_is_name) (sc := (defScope (top 27))) (by decide +kernel))) c_nil)))))
theorem ok_is_name (Fc : Fac K mg) {fd : FuncData} (F : FunD K "is_name" "is_name" (defArgs s_is_name) (defBody s_is_name) (defScope s_is_name) [] [] (A_is_name K) fd) : FnM P w K mg base (cA K) 1 (A_is_name K) m_is_name := (FnM.of (o_is_name Fc F ) (F.bindsN fun _ _ _ _ _ _ us hl => match us, hl with | [_], _ => rfl)).fin
/-! is_letter -/
abbrev s_is_letter : Stmt := (top 28)
abbrev N_is_letter : List Str := ["value"]
theorem nd_is_letter : N_is_letter.Nodup := by decide +kernel
abbrev P_is_letter : List Str := ["value"]
abbrev A_is_letter (K : PySem.W.Frag) : Addr := He.fAd K ("is_letter", none)
noncomputable def b_is_letter : MS :=
    (retS (andM (fA (isiV kt ic) (consM (vM 0) (consM (cM (.ty "str")) nilM))) (andM (b2 eqV (fA lenV (consM (vM 0) nilM)) (cM (.int 1))) (b2 inV2 (vM 0) (cM (strL "abcdefghijklmnopqrstuvwxyz"))))))
noncomputable def m0_is_letter : List Val → Store → R Val := defK 1 1 b_is_letter
noncomputable def m_is_letter : List Val → Store → R Val := finM m0_is_letter
theorem o_is_letter (Fc : Fac K mg) {fd : FuncData} (F : FunD K "is_letter" "is_letter" (defArgs s_is_letter) (defBody s_is_letter) (defScope s_is_letter) [] [] (A_is_letter K) fd) : FnOk P w K mg base (L2N.CX P w) 1 (A_is_letter K) fd P_is_letter (SpM K (cA K) m0_is_letter) :=
  def_okO (N := N_is_letter) (ps := P_is_letter) (k := 0) (np := 1) (nn := 1) (mb := b_is_letter) F ⟨rfl, rfl, rfl, by decide +kernel, rfl, by decide +kernel, by decide +kernel⟩ rfl rfl fun cdv A outer s H E hr tk =>
      (s_one (s_ret (c_and (c_callB (b_isi Fc.ki) Fc.b_isinstance (c_cons (c_var 0) (c_cons (c_bty Fc.b_str) c_nil))) (c_and (c_cmp (op_eqV (hu64 hr)) (c_callB b_len Fc.b_len (c_cons (c_var 0) c_nil)) c_int) (c_one (c_cmp (op_inV (hu200 hr)) (c_var 0) (c_gstr Fc.gs_LETTERS)))))))
theorem ok_is_letter (Fc : Fac K mg) {fd : FuncData} (F : FunD K "is_letter" "is_letter" (defArgs s_is_letter) (defBody s_is_letter) (defScope s_is_letter) [] [] (A_is_letter K) fd) : FnM P w K mg base (cA K) 1 (A_is_letter K) m_is_letter := (FnM.of (o_is_letter Fc F ) (F.bindsN fun _ _ _ _ _ _ us hl => match us, hl with | [_], _ => rfl)).fin
/-! undo -/
abbrev s_undo : Stmt := (top 29)
abbrev N_undo : List Str := ["sign"]
theorem nd_undo : N_undo.Nodup := by decide +kernel
abbrev P_undo : List Str := ["sign"]
abbrev A_undo (K : PySem.W.Frag) : Addr := He.fAd K ("undo", none)
noncomputable def b_undo : MS :=
    (retS (sm0 swapG (vM 0)))
noncomputable def m0_undo : List Val → Store → R Val := defK 1 1 b_undo
noncomputable def m_undo : List Val → Store → R Val := finM m0_undo
theorem o_undo (Fc : Fac K mg) {fd : FuncData} (F : FunD K "undo" "undo" (defArgs s_undo) (defBody s_undo) (defScope s_undo) [] [] (A_undo K) fd) : FnOk P w K mg base (L2N.CX P w) 1 (A_undo K) fd P_undo (SpM K (cA K) m0_undo) :=
  def_okO (N := N_undo) (ps := P_undo) (k := 0) (np := 1) (nn := 1) (mb := b_undo) F ⟨rfl, rfl, rfl, by decide +kernel, rfl, by decide +kernel, by decide +kernel⟩ rfl rfl fun cdv A outer s H E hr tk =>
      (s_one (s_ret (c_swap (c_var 0))))
theorem ok_undo (Fc : Fac K mg) {fd : FuncData} (F : FunD K "undo" "undo" (defArgs s_undo) (defBody s_undo) (defScope s_undo) [] [] (A_undo K) fd) : FnM P w K mg base (cA K) 1 (A_undo K) m_undo := (FnM.of (o_undo Fc F ) (F.bindsN fun _ _ _ _ _ _ us hl => match us, hl with | [_], _ => rfl)).fin
/-! taken_in -/
abbrev s_taken_in : Stmt := (top 30)
abbrev N_taken_in : List Str := ["passes", "found", "sign"]
theorem nd_taken_in : N_taken_in.Nodup := by decide +kernel
abbrev P_taken_in : List Str := ["passes"]
abbrev A_taken_in (K : PySem.W.Frag) : Addr := He.fAd K ("taken_in", none)
noncomputable def b_taken_in : MS :=
    (seqS (asgS (newM nilM) (gNameM 1))
    (seqS (forS (itS (vM 0)) (gNameM 2) (ifS (andT (tstM (vM 1)) (tB (b2 eqV (b2 ixV (vM 1) (u1 (fun _ => negV default) (cM (.int 1)))) (callM m_undo (consM (vM 2) nilM))))) (exprS (lmM popG (vM 1) nilM)) (exprS (lmM appendG (vM 1) (consM (vM 2) nilM)))))
    (retS (sm1 joinG (cM (strL "")) (vM 1)))))
noncomputable def m0_taken_in : List Val → Store → R Val := defK 1 3 b_taken_in
noncomputable def m_taken_in : List Val → Store → R Val := finM m0_taken_in
theorem o_taken_in (Fc : Fac K mg) {fd : FuncData} (F : FunD K "taken_in" "taken_in" (defArgs s_taken_in) (defBody s_taken_in) (defScope s_taken_in) [] [] (A_taken_in K) fd) (G_undo : FnM P w K mg base (cA K) 1 (A_undo K) m_undo) : FnOk P w K mg base (L2N.CX P w) 2 (A_taken_in K) fd P_taken_in (SpM K (cA K) m0_taken_in) :=
  def_okO (N := N_taken_in) (ps := P_taken_in) (k := 1) (np := 1) (nn := 3) (mb := b_taken_in) F ⟨rfl, rfl, rfl, by decide +kernel, rfl, by decide +kernel, by decide +kernel⟩ rfl rfl fun cdv A outer s H E hr tk =>
      (s_cons (s_set (i := 1) nd_taken_in (c_new c_nil))
      (s_cons (s_for (passes_of rfl) rfl (i_str (c_var 0)) (g_name nd_taken_in) (s_one (s_if (c_pt (c_tand (c_test (c_var 1)) (c_tand1 (c_tcmp (op_eqV (hu64 hr)) (c_ix (hu200 hr) (c_var 1) (c_un un_negV c_int)) (c_call G_undo Fc.gf_undo Fc.kp_undo (hr.mono (by decide)) tk (c_cons (c_var 2) c_nil)))))) (s_one (s_expr (c_pop (c_var 1)))) (s_one (s_expr (c_append (c_var 1) (c_cons (c_var 2) c_nil)))))))
      (s_one (s_ret (c_join c_str (c_var 1))))))
theorem ok_taken_in (Fc : Fac K mg) {fd : FuncData} (F : FunD K "taken_in" "taken_in" (defArgs s_taken_in) (defBody s_taken_in) (defScope s_taken_in) [] [] (A_taken_in K) fd) (G_undo : FnM P w K mg base (cA K) 1 (A_undo K) m_undo) : FnM P w K mg base (cA K) 2 (A_taken_in K) m_taken_in := (FnM.of (o_taken_in Fc F G_undo) (F.bindsN fun _ _ _ _ _ _ us hl => match us, hl with | [_], _ => rfl)).fin
/-! wrong_room -/
abbrev s_wrong_room : Stmt := (top 32)
abbrev N_wrong_room : List Str := ["rooms", "index", "room"]
theorem nd_wrong_room : N_wrong_room.Nodup := by decide +kernel
abbrev P_wrong_room : List Str := ["rooms"]
abbrev A_wrong_room (K : PySem.W.Frag) : Addr := He.fAd K ("wrong_room", none)
noncomputable def b_wrong_room : MS :=
    (seqS (ifS (orT (notT (tstM (fA (isiV kt ic) (consM (vM 0) (consM (cM (.ty "tuple")) nilM))))) (tB (b2 eqE (vM 0) (tupM nilM)))) (retS (tupM (consM (cM .non) nilM))) nextS)
    (seqS (forS (itEnT (consM (vM 0) nilM)) (gPc [1, 2] (tupC 2)) (ifS (orT (tB (b2 eqV (vM 1) (cM (.int 4)))) (orT (notT (tstM (callM m_is_name (consM (vM 2) nilM)))) (tB (b2 inV2 (vM 2) (slM slV (vM 0) noP (inP (vM 1))))))) (retS (tupM (consM (vM 1) nilM))) nextS))
    (retS (tupM nilM))))
noncomputable def m0_wrong_room : List Val → Store → R Val := defK 1 3 b_wrong_room
noncomputable def m_wrong_room : List Val → Store → R Val := finM m0_wrong_room
theorem o_wrong_room (Fc : Fac K mg) {fd : FuncData} (F : FunD K "wrong_room" "wrong_room" (defArgs s_wrong_room) (defBody s_wrong_room) (defScope s_wrong_room) [] [] (A_wrong_room K) fd) (G_is_name : FnM P w K mg base (cA K) 1 (A_is_name K) m_is_name) : FnOk P w K mg base (L2N.CX P w) 2 (A_wrong_room K) fd P_wrong_room (SpM K (cA K) m0_wrong_room) :=
  def_okO (N := N_wrong_room) (ps := P_wrong_room) (k := 1) (np := 1) (nn := 3) (mb := b_wrong_room) F ⟨rfl, rfl, rfl, by decide +kernel, rfl, by decide +kernel, by decide +kernel⟩ rfl rfl fun cdv A outer s H E hr tk =>
      (s_cons (s_if (c_pt (c_tor (c_tnot (c_test (c_callB (b_isi Fc.ki) Fc.b_isinstance (c_cons (c_var 0) (c_cons (c_bty Fc.b_tuple) c_nil))))) (c_tor1 (c_tcmp (op_eqE (hu64 hr)) (c_var 0) (c_tup c_nil))))) (s_one (s_ret (c_tup (c_cons c_non c_nil)))) s_nil)
      (s_cons (s_for (passes_of rfl) rfl (i_enT Fc.b_enumerate (c_cons (c_var 0) c_nil)) (g_of_pc (pc_tup nd_wrong_room rfl (.cons (.cons .nil)))) (s_one (s_if (c_pt (c_tor (c_tcmp (op_eqV (hu64 hr)) (c_var 1) (c_gint Fc.gi_MOST_ROOMS)) (c_tor (c_tnot (c_test (c_call G_is_name Fc.gf_is_name Fc.kp_is_name (hr.mono (by decide)) tk (c_cons (c_var 2) c_nil)))) (c_tor1 (c_tcmp (op_inV (hu200 hr)) (c_var 2) (c_sl (c_var 0) c_noP (c_inP (c_var 1)))))))) (s_one (s_ret (c_tup (c_cons (c_var 1) c_nil)))) s_nil)))
      (s_one (s_ret (c_tup c_nil)))))
theorem ok_wrong_room (Fc : Fac K mg) {fd : FuncData} (F : FunD K "wrong_room" "wrong_room" (defArgs s_wrong_room) (defBody s_wrong_room) (defScope s_wrong_room) [] [] (A_wrong_room K) fd) (G_is_name : FnM P w K mg base (cA K) 1 (A_is_name K) m_is_name) : FnM P w K mg base (cA K) 2 (A_wrong_room K) m_wrong_room := (FnM.of (o_wrong_room Fc F G_is_name) (F.bindsN fun _ _ _ _ _ _ us hl => match us, hl with | [_], _ => rfl)).fin
/-! is_door -/
abbrev s_is_door : Stmt := (top 33)
abbrev N_is_door : List Str := ["value", "rooms"]
theorem nd_is_door : N_is_door.Nodup := by decide +kernel
abbrev P_is_door : List Str := ["value", "rooms"]
abbrev A_is_door (K : PySem.W.Frag) : Addr := He.fAd K ("is_door", none)
noncomputable def b_is_door : MS :=
    (seqS (ifS (orT (notT (tstM (fA (isiV kt ic) (consM (vM 0) (consM (cM (.ty "tuple")) nilM))))) (tB (b2 neV (fA lenV (consM (vM 0) nilM)) (cM (.int 3))))) (retS (cM (.bl false))) nextS)
    (retS (andM (callM m_is_letter (consM (b2 ixV (vM 0) (cM (.int 0))) nilM)) (andM (b2 inW2 (b2 ixV (vM 0) (cM (.int 1))) (vM 1)) (b2 inW2 (b2 ixV (vM 0) (cM (.int 2))) (vM 1))))))
noncomputable def m0_is_door : List Val → Store → R Val := defK 2 2 b_is_door
noncomputable def m_is_door : List Val → Store → R Val := finM m0_is_door
theorem o_is_door (Fc : Fac K mg) {fd : FuncData} (F : FunD K "is_door" "is_door" (defArgs s_is_door) (defBody s_is_door) (defScope s_is_door) [] [] (A_is_door K) fd) (G_is_letter : FnM P w K mg base (cA K) 1 (A_is_letter K) m_is_letter) : FnOk P w K mg base (L2N.CX P w) 2 (A_is_door K) fd P_is_door (SpM K (cA K) m0_is_door) :=
  def_okO (N := N_is_door) (ps := P_is_door) (k := 1) (np := 2) (nn := 2) (mb := b_is_door) F ⟨rfl, rfl, rfl, by decide +kernel, rfl, by decide +kernel, by decide +kernel⟩ rfl rfl fun cdv A outer s H E hr tk =>
      (s_cons (s_if (c_pt (c_tor (c_tnot (c_test (c_callB (b_isi Fc.ki) Fc.b_isinstance (c_cons (c_var 0) (c_cons (c_bty Fc.b_tuple) c_nil))))) (c_tor1 (c_tcmp (op_neV (hu64 hr)) (c_callB b_len Fc.b_len (c_cons (c_var 0) c_nil)) c_int)))) (s_one (s_ret c_bl)) s_nil)
      (s_one (s_ret (c_and (c_call G_is_letter Fc.gf_is_letter Fc.kp_is_letter (hr.mono (by decide)) tk (c_cons (c_ix (hu200 hr) (c_var 0) c_int) c_nil)) (c_and (c_cmp (op_inW (hu200 hr)) (c_ix (hu200 hr) (c_var 0) c_int) (c_var 1)) (c_one (c_cmp (op_inW (hu200 hr)) (c_ix (hu200 hr) (c_var 0) c_int) (c_var 1))))))))
theorem ok_is_door (Fc : Fac K mg) {fd : FuncData} (F : FunD K "is_door" "is_door" (defArgs s_is_door) (defBody s_is_door) (defScope s_is_door) [] [] (A_is_door K) fd) (G_is_letter : FnM P w K mg base (cA K) 1 (A_is_letter K) m_is_letter) : FnM P w K mg base (cA K) 2 (A_is_door K) m_is_door := (FnM.of (o_is_door Fc F G_is_letter) (F.bindsN fun _ _ _ _ _ _ us hl => match us, hl with | [_, _], _ => rfl)).fin
/-! wrong_door -/
abbrev s_wrong_door : Stmt := (top 34)
abbrev N_wrong_door : List Str := ["doors", "rooms", "letters", "index", "door"]
theorem nd_wrong_door : N_wrong_door.Nodup := by decide +kernel
abbrev P_wrong_door : List Str := ["doors", "rooms"]
abbrev A_wrong_door (K : PySem.W.Frag) : Addr := He.fAd K ("wrong_door", none)
noncomputable def b_wrong_door : MS :=
    (seqS (ifS (orT (notT (tstM (fA (isiV kt ic) (consM (vM 0) (consM (cM (.ty "tuple")) nilM))))) (tB (b2 eqE (vM 0) (tupM nilM)))) (retS (tupM (consM (cM .non) nilM))) nextS)
    (seqS (asgS (newM nilM) (gNameM 2))
    (seqS (forS (itEnT (consM (vM 0) nilM)) (gPc [3, 4] (tupC 2)) (seqS (ifS (orT (tB (b2 eqV (vM 3) (cM (.int 5)))) (orT (notT (tstM (callM m_is_door (consM (vM 4) (consM (vM 1) nilM))))) (tB (b2 inV2 (b2 ixV (vM 4) (cM (.int 0))) (vM 2))))) (retS (tupM (consM (vM 3) nilM))) nextS)
    (exprS (lmM appendG (vM 2) (consM (b2 ixV (vM 4) (cM (.int 0))) nilM)))))
    (retS (tupM nilM)))))
noncomputable def m0_wrong_door : List Val → Store → R Val := defK 2 5 b_wrong_door
noncomputable def m_wrong_door : List Val → Store → R Val := finM m0_wrong_door
theorem o_wrong_door (Fc : Fac K mg) {fd : FuncData} (F : FunD K "wrong_door" "wrong_door" (defArgs s_wrong_door) (defBody s_wrong_door) (defScope s_wrong_door) [] [] (A_wrong_door K) fd) (G_is_door : FnM P w K mg base (cA K) 2 (A_is_door K) m_is_door) : FnOk P w K mg base (L2N.CX P w) 3 (A_wrong_door K) fd P_wrong_door (SpM K (cA K) m0_wrong_door) :=
  def_okO (N := N_wrong_door) (ps := P_wrong_door) (k := 2) (np := 2) (nn := 5) (mb := b_wrong_door) F ⟨rfl, rfl, rfl, by decide +kernel, rfl, by decide +kernel, by decide +kernel⟩ rfl rfl fun cdv A outer s H E hr tk =>
      (s_cons (s_if (c_pt (c_tor (c_tnot (c_test (c_callB (b_isi Fc.ki) Fc.b_isinstance (c_cons (c_var 0) (c_cons (c_bty Fc.b_tuple) c_nil))))) (c_tor1 (c_tcmp (op_eqE (hu64 hr)) (c_var 0) (c_tup c_nil))))) (s_one (s_ret (c_tup (c_cons c_non c_nil)))) s_nil)
      (s_cons (s_set (i := 2) nd_wrong_door (c_new c_nil))
      (s_cons (s_for (passes_of rfl) rfl (i_enT Fc.b_enumerate (c_cons (c_var 0) c_nil)) (g_of_pc (pc_tup nd_wrong_door rfl (.cons (.cons .nil)))) (s_cons (s_if (c_pt (c_tor (c_tcmp (op_eqV (hu64 hr)) (c_var 3) (c_gint Fc.gi_MOST_DOORS)) (c_tor (c_tnot (c_test (c_call G_is_door Fc.gf_is_door Fc.kp_is_door (hr.mono (by decide)) tk (c_cons (c_var 4) (c_cons (c_var 1) c_nil))))) (c_tor1 (c_tcmp (op_inV (hu200 hr)) (c_ix (hu200 hr) (c_var 4) c_int) (c_var 2)))))) (s_one (s_ret (c_tup (c_cons (c_var 3) c_nil)))) s_nil)
      (s_one (s_expr (c_append (c_var 2) (c_cons (c_ix (hu200 hr) (c_var 4) c_int) c_nil))))))
      (s_one (s_ret (c_tup c_nil))))))
theorem ok_wrong_door (Fc : Fac K mg) {fd : FuncData} (F : FunD K "wrong_door" "wrong_door" (defArgs s_wrong_door) (defBody s_wrong_door) (defScope s_wrong_door) [] [] (A_wrong_door K) fd) (G_is_door : FnM P w K mg base (cA K) 2 (A_is_door K) m_is_door) : FnM P w K mg base (cA K) 3 (A_wrong_door K) m_wrong_door := (FnM.of (o_wrong_door Fc F G_is_door) (F.bindsN fun _ _ _ _ _ _ us hl => match us, hl with | [_, _], _ => rfl)).fin
/-! House.__init__ -/
abbrev s_House_init : Stmt := (met 37 0)
abbrev N_House_init : List Str := ["self", "rooms", "doors", "wrong", "letter", "one", "other"]
theorem nd_House_init : N_House_init.Nodup := by decide +kernel
abbrev P_House_init : List Str := ["self", "rooms", "doors"]
abbrev A_House_init (K : PySem.W.Frag) : Addr := He.fAd K ("House", some "__init__")
noncomputable def b_House_init : MS :=
    (seqS (asgS (callM m_wrong_room (consM (vM 1) nilM)) (gNameM 3))
    (seqS (ifS (tstM (vM 3)) (raiseS 12 1 (consM (b2 ixV (vM 3) (cM (.int 0))) nilM)) nextS)
    (seqS (asgS (callM m_wrong_door (consM (vM 2) (consM (vM 1) nilM))) (gNameM 3))
    (seqS (ifS (tstM (vM 3)) (raiseS 13 1 (consM (b2 ixV (vM 3) (cM (.int 0))) nilM)) nextS)
    (seqS (asgS (vM 1) (gFldM na 3 (vM 0)))
    (seqS (asgS (vM 2) (gFldM na 4 (vM 0)))
    (seqS (asgS (tupM (consM dnewM (consM dnewM nilM))) (gTupM [(gFldM na 5 (vM 0)), (gFldM na 6 (vM 0))]))
    (forS (itT (vM 2)) (gPc [4, 5, 6] (tupC 3)) (seqS (asgS (tupM (consM (vM 5) (consM (vM 6) nilM))) (gTupM [(gSubM (u1 (fldV na 5) (vM 0)) (vM 4)), (gSubM (u1 (fldV na 6) (vM 0)) (vM 4))]))
    (asgS (tupM (consM (vM 6) (consM (vM 5) nilM))) (gTupM [(gSubM (u1 (fldV na 5) (vM 0)) (sm0 upperG (vM 4))), (gSubM (u1 (fldV na 6) (vM 0)) (sm0 upperG (vM 4)))])))))))))))
noncomputable def m0_House_init : List Val → Store → R Val := defK 3 7 b_House_init
noncomputable def m_House_init : List Val → Store → R Val := m0_House_init
theorem o_House_init (Fc : Fac K mg) {fd : FuncData} (F : FunD K "__init__" "House.__init__" (defArgs s_House_init) (defBody s_House_init) (defScope s_House_init) [] [] (A_House_init K) fd) (G_wrong_room : FnM P w K mg base (cA K) 2 (A_wrong_room K) m_wrong_room) (G_wrong_door : FnM P w K mg base (cA K) 3 (A_wrong_door K) m_wrong_door) {fd_InvalidRooms : FuncData} (I_InvalidRooms : FnOk P w K mg base (L2N.CX P w) 1 (AI_InvalidRooms K) fd_InvalidRooms PI_InvalidRooms (SpI K (aN 1))) (bI_InvalidRooms : Binds K fd_InvalidRooms PI_InvalidRooms []) {fd_InvalidDoors : FuncData} (I_InvalidDoors : FnOk P w K mg base (L2N.CX P w) 1 (AI_InvalidDoors K) fd_InvalidDoors PI_InvalidDoors (SpI K (aN 1))) (bI_InvalidDoors : Binds K fd_InvalidDoors PI_InvalidDoors []) : FnOk P w K mg base (L2N.CX P w) 4 (A_House_init K) fd P_House_init (SpM K (cA K) m0_House_init) :=
  def_okO (N := N_House_init) (ps := P_House_init) (k := 3) (np := 3) (nn := 7) (mb := b_House_init) F ⟨rfl, rfl, rfl, by decide +kernel, rfl, by decide +kernel, by decide +kernel⟩ rfl rfl fun cdv A outer s H E hr tk =>
      (s_cons (s_set (i := 3) nd_House_init (c_call G_wrong_room Fc.gf_wrong_room Fc.kp_wrong_room (hr.mono (by decide)) tk (c_cons (c_var 1) c_nil)))
      (s_cons (s_if (c_test (c_var 3)) (s_one (s_raise (C := 12) (n := 1) rfl tk (by decide) Fc.ex_InvalidRooms I_InvalidRooms (hr.mono (by decide)) bI_InvalidRooms (c_ix (hu200 hr) (c_var 3) c_int))) s_nil)
      (s_cons (s_set (i := 3) nd_House_init (c_call G_wrong_door Fc.gf_wrong_door Fc.kp_wrong_door (hr.mono (by decide)) tk (c_cons (c_var 2) (c_cons (c_var 1) c_nil))))
      (s_cons (s_if (c_test (c_var 3)) (s_one (s_raise (C := 13) (n := 1) rfl tk (by decide) Fc.ex_InvalidDoors I_InvalidDoors (hr.mono (by decide)) bI_InvalidDoors (c_ix (hu200 hr) (c_var 3) c_int))) s_nil)
      (s_cons (s_fld (n := 3) Fc.kf (c_var 0) (c_var 1))
      (s_cons (s_fld (n := 4) Fc.kf (c_var 0) (c_var 2))
      (s_cons (s_asg (c_tup (c_cons c_dnew (c_cons c_dnew c_nil))) (g_tup rfl (.cons (g_fld (W := Wf E) (n := 5) Fc.kf (c_var 0)) (.cons (g_fld (W := Wf E) (n := 6) Fc.kf (c_var 0)) .nil))))
      (s_one (s_for (passes_of rfl) rfl (i_tup (c_var 2)) (g_of_pc (pc_tup nd_House_init rfl (.cons (.cons (.cons .nil))))) (s_cons (s_asg (c_tup (c_cons (c_var 5) (c_cons (c_var 6) c_nil))) (g_tup rfl (.cons (g_sub (W := Wf E) (hu200 hr) (c_fld (n := 5) Fc.kf (c_var 0)) (c_var 4)) (.cons (g_sub (W := Wf E) (hu200 hr) (c_fld (n := 6) Fc.kf (c_var 0)) (c_var 4)) .nil))))
      (s_one (s_asg (c_tup (c_cons (c_var 6) (c_cons (c_var 5) c_nil))) (g_tup rfl (.cons (g_sub (W := Wf E) (hu200 hr) (c_fld (n := 5) Fc.kf (c_var 0)) (c_upper (c_var 4))) (.cons (g_sub (W := Wf E) (hu200 hr) (c_fld (n := 6) Fc.kf (c_var 0)) (c_upper (c_var 4))) .nil)))))))))))))))
theorem ok_House_init (Fc : Fac K mg) {fd : FuncData} (F : FunD K "__init__" "House.__init__" (defArgs s_House_init) (defBody s_House_init) (defScope s_House_init) [] [] (A_House_init K) fd) (G_wrong_room : FnM P w K mg base (cA K) 2 (A_wrong_room K) m_wrong_room) (G_wrong_door : FnM P w K mg base (cA K) 3 (A_wrong_door K) m_wrong_door) {fd_InvalidRooms : FuncData} (I_InvalidRooms : FnOk P w K mg base (L2N.CX P w) 1 (AI_InvalidRooms K) fd_InvalidRooms PI_InvalidRooms (SpI K (aN 1))) (bI_InvalidRooms : Binds K fd_InvalidRooms PI_InvalidRooms []) {fd_InvalidDoors : FuncData} (I_InvalidDoors : FnOk P w K mg base (L2N.CX P w) 1 (AI_InvalidDoors K) fd_InvalidDoors PI_InvalidDoors (SpI K (aN 1))) (bI_InvalidDoors : Binds K fd_InvalidDoors PI_InvalidDoors []) : FnM P w K mg base (cA K) 4 (A_House_init K) m_House_init := (FnM.of (o_House_init Fc F G_wrong_room G_wrong_door I_InvalidRooms bI_InvalidRooms I_InvalidDoors bI_InvalidDoors) (F.bindsN fun _ _ _ _ _ _ us hl => match us, hl with | [_, _, _], _ => rfl))
/-! House.check_room -/
abbrev s_House_check_room : Stmt := (met 37 5)
abbrev N_House_check_room : List Str := ["self", "room"]
theorem nd_House_check_room : N_House_check_room.Nodup := by decide +kernel
abbrev P_House_check_room : List Str := ["self", "room"]
abbrev A_House_check_room (K : PySem.W.Frag) : Addr := He.fAd K ("House", some "check_room")
noncomputable def b_House_check_room : MS :=
    (ifS (tB (b2 ninW2 (vM 1) (u1 (fldV na 3) (vM 0)))) (raiseS 2 0 (consM (vM 1) nilM)) nextS)
noncomputable def m0_House_check_room : List Val → Store → R Val := defK 2 2 b_House_check_room
noncomputable def m_House_check_room : List Val → Store → R Val := finM m0_House_check_room
theorem o_House_check_room (Fc : Fac K mg) {fd : FuncData} (F : FunD K "check_room" "House.check_room" (defArgs s_House_check_room) (defBody s_House_check_room) (defScope s_House_check_room) [] [] (A_House_check_room K) fd) {fd_InvalidRoom : FuncData} (I_InvalidRoom : FnOk P w K mg base (L2N.CX P w) 1 (AI_InvalidRoom K) fd_InvalidRoom PI_InvalidRoom (SpI K (aN 0))) (bI_InvalidRoom : Binds K fd_InvalidRoom PI_InvalidRoom []) : FnOk P w K mg base (L2N.CX P w) 3 (A_House_check_room K) fd P_House_check_room (SpM K (cA K) m0_House_check_room) :=
  def_okO (N := N_House_check_room) (ps := P_House_check_room) (k := 2) (np := 2) (nn := 2) (mb := b_House_check_room) F ⟨rfl, rfl, rfl, by decide +kernel, rfl, by decide +kernel, by decide +kernel⟩ rfl rfl fun cdv A outer s H E hr tk =>
      (s_one (s_if (c_tcmp (op_ninW (hu200 hr)) (c_var 1) (c_fld (n := 3) Fc.kf (c_var 0))) (s_one (s_raise (C := 2) (n := 0) rfl tk (by decide) Fc.ex_InvalidRoom I_InvalidRoom (hr.mono (by decide)) bI_InvalidRoom (c_var 1))) s_nil))
theorem ok_House_check_room (Fc : Fac K mg) {fd : FuncData} (F : FunD K "check_room" "House.check_room" (defArgs s_House_check_room) (defBody s_House_check_room) (defScope s_House_check_room) [] [] (A_House_check_room K) fd) {fd_InvalidRoom : FuncData} (I_InvalidRoom : FnOk P w K mg base (L2N.CX P w) 1 (AI_InvalidRoom K) fd_InvalidRoom PI_InvalidRoom (SpI K (aN 0))) (bI_InvalidRoom : Binds K fd_InvalidRoom PI_InvalidRoom []) : FnM P w K mg base (cA K) 3 (A_House_check_room K) m_House_check_room := (FnM.of (o_House_check_room Fc F  I_InvalidRoom bI_InvalidRoom) (F.bindsN fun _ _ _ _ _ _ us hl => match us, hl with | [_, _], _ => rfl)).fin
/-! House.led -/
abbrev s_House_led : Stmt := (met 37 8)
abbrev N_House_led : List Str := ["self", "room", "passes", "here", "sign"]
theorem nd_House_led : N_House_led.Nodup := by decide +kernel
abbrev P_House_led : List Str := ["self", "room", "passes"]
abbrev A_House_led (K : PySem.W.Frag) : Addr := He.fAd K ("House", some "led")
noncomputable def b_House_led : MS :=
    (seqS (asgS (vM 1) (gNameM 3))
    (seqS (forS (itS (vM 2)) (gNameM 4) (seqS (ifS (tB (b2 neV (getM1 (u1 (fldV na 5) (vM 0)) (vM 4)) (vM 3))) (retS (cM .non)) nextS)
    (asgS (b2 ixV (u1 (fldV na 6) (vM 0)) (vM 4)) (gNameM 3))))
    (retS (vM 3))))
noncomputable def m0_House_led : List Val → Store → R Val := defK 3 5 b_House_led
noncomputable def m_House_led : List Val → Store → R Val := finM m0_House_led
theorem o_House_led (Fc : Fac K mg) {fd : FuncData} (F : FunD K "led" "House.led" (defArgs s_House_led) (defBody s_House_led) (defScope s_House_led) [] [] (A_House_led K) fd) : FnOk P w K mg base (L2N.CX P w) 1 (A_House_led K) fd P_House_led (SpM K (cA K) m0_House_led) :=
  def_okO (N := N_House_led) (ps := P_House_led) (k := 0) (np := 3) (nn := 5) (mb := b_House_led) F ⟨rfl, rfl, rfl, by decide +kernel, rfl, by decide +kernel, by decide +kernel⟩ rfl rfl fun cdv A outer s H E hr tk =>
      (s_cons (s_set (i := 3) nd_House_led (c_var 1))
      (s_cons (s_for (passes_of rfl) rfl (i_str (c_var 2)) (g_name nd_House_led) (s_cons (s_if (c_tcmp (op_neV (hu64 hr)) (c_get1 (hu200 hr) (c_fld (n := 5) Fc.kf (c_var 0)) (c_var 4)) (c_var 3)) (s_one (s_ret c_non)) s_nil)
      (s_one (s_set (i := 3) nd_House_led (c_ix (hu200 hr) (c_fld (n := 6) Fc.kf (c_var 0)) (c_var 4))))))
      (s_one (s_ret (c_var 3)))))
theorem ok_House_led (Fc : Fac K mg) {fd : FuncData} (F : FunD K "led" "House.led" (defArgs s_House_led) (defBody s_House_led) (defScope s_House_led) [] [] (A_House_led K) fd) : FnM P w K mg base (cA K) 1 (A_House_led K) m_House_led := (FnM.of (o_House_led Fc F ) (F.bindsN fun _ _ _ _ _ _ us hl => match us, hl with | [_, _, _], _ => rfl)).fin
/-! House.end -/
abbrev s_House_end : Stmt := (met 37 10)
abbrev N_House_end : List Str := ["self", "room", "passes", "goal"]
theorem nd_House_end : N_House_end.Nodup := by decide +kernel
abbrev P_House_end : List Str := ["self", "room", "passes"]
abbrev A_House_end (K : PySem.W.Frag) : Addr := He.fAd K ("House", some "end")
noncomputable def b_House_end : MS :=
    (seqS (exprS (methM 0 m_House_check_room (vM 0) (consM (vM 1) nilM)))
    (seqS (asgS (ifM (tstM (fA (isiV kt ic) (consM (vM 2) (consM (cM (.ty "str")) nilM)))) (methM 0 m_House_led (vM 0) (consM (vM 1) (consM (vM 2) nilM))) (cM .non)) (gNameM 3))
    (seqS (ifS (tB (b2 isNV (vM 3) (cM .non))) (raiseS 4 0 (consM (vM 2) nilM)) nextS)
    (retS (vM 3)))))
noncomputable def m0_House_end : List Val → Store → R Val := defK 3 4 b_House_end
noncomputable def m_House_end : List Val → Store → R Val := finM m0_House_end
theorem o_House_end (Fc : Fac K mg) {fd : FuncData} (F : FunD K "end" "House.end" (defArgs s_House_end) (defBody s_House_end) (defScope s_House_end) [] [] (A_House_end K) fd) (G_House_check_room : FnM P w K mg base (cA K) 3 (A_House_check_room K) m_House_check_room) (G_House_led : FnM P w K mg base (cA K) 1 (A_House_led K) m_House_led) {fd_InvalidWalk : FuncData} (I_InvalidWalk : FnOk P w K mg base (L2N.CX P w) 1 (AI_InvalidWalk K) fd_InvalidWalk PI_InvalidWalk (SpI K (aN 0))) (bI_InvalidWalk : Binds K fd_InvalidWalk PI_InvalidWalk []) : FnOk P w K mg base (L2N.CX P w) 4 (A_House_end K) fd P_House_end (SpM K (cA K) m0_House_end) :=
  def_okO (N := N_House_end) (ps := P_House_end) (k := 3) (np := 3) (nn := 4) (mb := b_House_end) F ⟨rfl, rfl, rfl, by decide +kernel, rfl, by decide +kernel, by decide +kernel⟩ rfl rfl fun cdv A outer s H E hr tk =>
      (s_cons (s_expr (c_meth G_House_check_room Fc.cl_House Fc.me_House_check_room (by decide +kernel) (hr.mono (by decide)) tk (c_var 0) (c_cons (c_var 1) c_nil)))
      (s_cons (s_set (i := 3) nd_House_end (c_if (c_test (c_callB (b_isi Fc.ki) Fc.b_isinstance (c_cons (c_var 2) (c_cons (c_bty Fc.b_str) c_nil)))) (c_meth G_House_led Fc.cl_House Fc.me_House_led (by decide +kernel) (hr.mono (by decide)) tk (c_var 0) (c_cons (c_var 1) (c_cons (c_var 2) c_nil))) c_non))
      (s_cons (s_if (c_tcmp op_isNV (c_var 3) c_non) (s_one (s_raise (C := 4) (n := 0) rfl tk (by decide) Fc.ex_InvalidWalk I_InvalidWalk (hr.mono (by decide)) bI_InvalidWalk (c_var 2))) s_nil)
      (s_one (s_ret (c_var 3))))))
theorem ok_House_end (Fc : Fac K mg) {fd : FuncData} (F : FunD K "end" "House.end" (defArgs s_House_end) (defBody s_House_end) (defScope s_House_end) [] [] (A_House_end K) fd) (G_House_check_room : FnM P w K mg base (cA K) 3 (A_House_check_room K) m_House_check_room) (G_House_led : FnM P w K mg base (cA K) 1 (A_House_led K) m_House_led) {fd_InvalidWalk : FuncData} (I_InvalidWalk : FnOk P w K mg base (L2N.CX P w) 1 (AI_InvalidWalk K) fd_InvalidWalk PI_InvalidWalk (SpI K (aN 0))) (bI_InvalidWalk : Binds K fd_InvalidWalk PI_InvalidWalk []) : FnM P w K mg base (cA K) 4 (A_House_end K) m_House_end := (FnM.of (o_House_end Fc F G_House_check_room G_House_led I_InvalidWalk bI_InvalidWalk) (F.bindsN fun _ _ _ _ _ _ us hl => match us, hl with | [_, _, _], _ => rfl)).fin
/-! House.left -/
abbrev s_House_left : Stmt := (met 37 11)
abbrev N_House_left : List Str := ["self", "room", "passes"]
theorem nd_House_left : N_House_left.Nodup := by decide +kernel
abbrev P_House_left : List Str := ["self", "room", "passes"]
abbrev A_House_left (K : PySem.W.Frag) : Addr := He.fAd K ("House", some "left")
noncomputable def b_House_left : MS :=
    (seqS (exprS (methM 0 m_House_end (vM 0) (consM (vM 1) (consM (vM 2) nilM))))
    (retS (tupM (consM (vM 1) (consM (callM m_taken_in (consM (vM 2) nilM)) nilM)))))
noncomputable def m0_House_left : List Val → Store → R Val := defK 3 3 b_House_left
noncomputable def m_House_left : List Val → Store → R Val := finM m0_House_left
theorem o_House_left (Fc : Fac K mg) {fd : FuncData} (F : FunD K "left" "House.left" (defArgs s_House_left) (defBody s_House_left) (defScope s_House_left) [] [] (A_House_left K) fd) (G_House_end : FnM P w K mg base (cA K) 4 (A_House_end K) m_House_end) (G_taken_in : FnM P w K mg base (cA K) 2 (A_taken_in K) m_taken_in) : FnOk P w K mg base (L2N.CX P w) 5 (A_House_left K) fd P_House_left (SpM K (cA K) m0_House_left) :=
  def_okO (N := N_House_left) (ps := P_House_left) (k := 4) (np := 3) (nn := 3) (mb := b_House_left) F ⟨rfl, rfl, rfl, by decide +kernel, rfl, by decide +kernel, by decide +kernel⟩ rfl rfl fun cdv A outer s H E hr tk =>
      (s_cons (s_expr (c_meth G_House_end Fc.cl_House Fc.me_House_end (by decide +kernel) (hr.mono (by decide)) tk (c_var 0) (c_cons (c_var 1) (c_cons (c_var 2) c_nil))))
      (s_one (s_ret (c_tup (c_cons (c_var 1) (c_cons (c_call G_taken_in Fc.gf_taken_in Fc.kp_taken_in (hr.mono (by decide)) tk (c_cons (c_var 2) c_nil)) c_nil))))))
theorem ok_House_left (Fc : Fac K mg) {fd : FuncData} (F : FunD K "left" "House.left" (defArgs s_House_left) (defBody s_House_left) (defScope s_House_left) [] [] (A_House_left K) fd) (G_House_end : FnM P w K mg base (cA K) 4 (A_House_end K) m_House_end) (G_taken_in : FnM P w K mg base (cA K) 2 (A_taken_in K) m_taken_in) : FnM P w K mg base (cA K) 5 (A_House_left K) m_House_left := (FnM.of (o_House_left Fc F G_House_end G_taken_in) (F.bindsN fun _ _ _ _ _ _ us hl => match us, hl with | [_, _, _], _ => rfl)).fin
end
end K06

set_option Elab.async false
set_option linter.all false
set_option maxRecDepth 100000
set_option maxHeartbeats 4000000
namespace K06
open PySem PySem.Spec PyProof.Rows L2 CC LamX
section
variable {P : Program} {w : World} {K : PySem.W.Frag} {mg : Str → Option Value} {base : Heap}
/-! _law_well -/
abbrev s_L_law_well : Stmt := (top 39)
abbrev N_L_law_well : List Str := ["script", "turn", "entry", "stirred", "each"]
theorem nd_L_law_well : N_L_law_well.Nodup := by decide +kernel
abbrev P_L_law_well : List Str := ["script", "turn"]
abbrev A_L_law_well (K : PySem.W.Frag) : Addr := He.fAd K ("_law_well", none)
noncomputable def b_L_law_well : MS :=
    (seqS (asgS (ifM (tB (b2 ltV (vM 1) (fA lenV (consM (vM 0) nilM)))) (fA intV (consM (b2 ixV (vM 0) (vM 1)) nilM)) (b2 addV (b2 mulV (cM (.int 37)) (vM 1)) (cM (.int 5)))) (gNameM 2))
    (seqS (asgS (b2 addV (cM (.int 8191)) (b2 mulV (cM (.int 613)) (vM 1))) (gNameM 3))
    (seqS (forS (itL (slM slV (vM 0) noP (inP (cM (.int 8))))) (gNameM 4) (asgS (b2 modV (fA intV (consM (b2 addV (b2 addV (b2 mulV (vM 3) (cM (.int 48271))) (b2 modV (fA intV (consM (vM 4) nilM)) (cM (.int 1000033)))) (vM 1)) nilM)) (cM (.int 2147483647))) (gNameM 3)))
    (seqS (asgS (b2 modV (fA intV (consM (b2 addV (b2 mulV (vM 3) (cM (.int 48271))) (b2 modV (fA intV (consM (vM 2) nilM)) (cM (.int 1000033)))) nilM)) (cM (.int 2147483647))) (gNameM 3))
    (retS (newM (consM (ifM (tB (b2 geV (fA absV (consM (vM 2) nilM)) (b2 powV (cM (.int 10)) (cM (.int 18))))) (fA absV (consM (vM 2) nilM)) (cM (.int 0))) (consM (vM 3) (consM (cM (.int 0)) nilM)))))))))
noncomputable def m0_L_law_well : List Val → Store → R Val := defK 2 5 b_L_law_well
noncomputable def m_L_law_well : List Val → Store → R Val := m0_L_law_well
theorem o_L_law_well (Fc : Fac K mg) {fd : FuncData} (F : FunD K "_law_well" "_law_well" (defArgs s_L_law_well) (defBody s_L_law_well) (defScope s_L_law_well) [] [] (A_L_law_well K) fd) : FnOk P w K mg base (L2N.CX P w) 1 (A_L_law_well K) fd P_L_law_well (SpM K (cA K) m0_L_law_well) :=
  def_okO (N := N_L_law_well) (ps := P_L_law_well) (k := 0) (np := 2) (nn := 5) (mb := b_L_law_well) F ⟨rfl, rfl, rfl, by decide +kernel, rfl, by decide +kernel, by decide +kernel⟩ rfl rfl fun cdv A outer s H E hr tk =>
      (s_cons (s_set (i := 2) nd_L_law_well (c_if (c_tcmp op_ltV (c_var 1) (c_callB b_len Fc.b_len (c_cons (c_var 0) c_nil))) (c_callTy b_int Fc.b_int (c_cons (c_ix (hu200 hr) (c_var 0) (c_var 1)) c_nil)) (c_bin op_addV (c_bin op_mulV c_int (c_var 1)) c_int)))
      (s_cons (s_set (i := 3) nd_L_law_well (c_bin op_addV c_int (c_bin op_mulV c_int (c_var 1))))
      (s_cons (s_for (passes_of rfl) rfl (i_list (c_sl (c_var 0) c_noP (c_inP c_int))) (g_name nd_L_law_well) (s_one (s_set (i := 3) nd_L_law_well (c_bin op_modV (c_callTy b_int Fc.b_int (c_cons (c_bin op_addV (c_bin op_addV (c_bin op_mulV (c_var 3) c_int) (c_bin op_modV (c_callTy b_int Fc.b_int (c_cons (c_var 4) c_nil)) c_int)) (c_var 1)) c_nil)) c_int))))
      (s_cons (s_set (i := 3) nd_L_law_well (c_bin op_modV (c_callTy b_int Fc.b_int (c_cons (c_bin op_addV (c_bin op_mulV (c_var 3) c_int) (c_bin op_modV (c_callTy b_int Fc.b_int (c_cons (c_var 2) c_nil)) c_int)) c_nil)) c_int))
      (s_one (s_ret (c_new (c_cons (c_if (c_tcmp op_geV (c_callB b_abs Fc.b_abs (c_cons (c_var 2) c_nil)) (c_bin op_powV c_int c_int)) (c_callB b_abs Fc.b_abs (c_cons (c_var 2) c_nil)) c_int) (c_cons (c_var 3) (c_cons c_int c_nil))))))))))
theorem ok_L_law_well (Fc : Fac K mg) {fd : FuncData} (F : FunD K "_law_well" "_law_well" (defArgs s_L_law_well) (defBody s_L_law_well) (defScope s_L_law_well) [] [] (A_L_law_well K) fd) : FnM P w K mg base (cA K) 1 (A_L_law_well K) m_L_law_well := (FnM.of (o_L_law_well Fc F ) (F.bindsN fun _ _ _ _ _ _ us hl => match us, hl with | [_, _], _ => rfl))
/-! _law_dip -/
abbrev s_L_law_dip : Stmt := (top 40)
abbrev N_L_law_dip : List Str := ["well", "size", "digit"]
theorem nd_L_law_dip : N_L_law_dip.Nodup := by decide +kernel
abbrev P_L_law_dip : List Str := ["well", "size"]
abbrev A_L_law_dip (K : PySem.W.Frag) : Addr := He.fAd K ("_law_dip", none)
noncomputable def b_L_law_dip : MS :=
    (seqS (asgS (b2 addV (b2 ixV (vM 0) (cM (.int 2))) (cM (.int 1))) (gSubM (vM 0) (cM (.int 2))))
    (seqS (ifS (tB (b2 gtV (b2 ixV (vM 0) (cM (.int 0))) (cM (.int 0)))) (seqS (asgS (b2 modV (fA intV (consM (b2 ixV (vM 0) (cM (.int 0))) nilM)) (vM 1)) (gNameM 2))
    (seqS (asgS (b2 fdivV (fA intV (consM (b2 ixV (vM 0) (cM (.int 0))) nilM)) (vM 1)) (gSubM (vM 0) (cM (.int 0))))
    (retS (vM 2)))) nextS)
    (seqS (asgS (b2 modV (fA intV (consM (b2 addV (b2 addV (b2 mulV (b2 ixV (vM 0) (cM (.int 1))) (cM (.int 48271))) (b2 mulV (cM (.int 7919)) (b2 ixV (vM 0) (cM (.int 2))))) (cM (.int 11))) nilM)) (cM (.int 2147483647))) (gSubM (vM 0) (cM (.int 1))))
    (retS (b2 modV (fA intV (consM (b2 fdivV (b2 ixV (vM 0) (cM (.int 1))) (cM (.int 1024))) nilM)) (vM 1))))))
noncomputable def m0_L_law_dip : List Val → Store → R Val := defK 2 3 b_L_law_dip
noncomputable def m_L_law_dip : List Val → Store → R Val := finM m0_L_law_dip
theorem o_L_law_dip (Fc : Fac K mg) {fd : FuncData} (F : FunD K "_law_dip" "_law_dip" (defArgs s_L_law_dip) (defBody s_L_law_dip) (defScope s_L_law_dip) [] [] (A_L_law_dip K) fd) : FnOk P w K mg base (L2N.CX P w) 1 (A_L_law_dip K) fd P_L_law_dip (SpM K (cA K) m0_L_law_dip) :=
  def_okO (N := N_L_law_dip) (ps := P_L_law_dip) (k := 0) (np := 2) (nn := 3) (mb := b_L_law_dip) F ⟨rfl, rfl, rfl, by decide +kernel, rfl, by decide +kernel, by decide +kernel⟩ rfl rfl fun cdv A outer s H E hr tk =>
      (s_cons (s_asg (c_bin op_addV (c_ix (hu200 hr) (c_var 0) c_int) c_int) (g_sub (W := Wf E) (hu200 hr) (c_var 0) c_int))
      (s_cons (s_if (c_tcmp op_gtV (c_ix (hu200 hr) (c_var 0) c_int) c_int) (s_cons (s_set (i := 2) nd_L_law_dip (c_bin op_modV (c_callTy b_int Fc.b_int (c_cons (c_ix (hu200 hr) (c_var 0) c_int) c_nil)) (c_var 1)))
      (s_cons (s_asg (c_bin op_fdivV (c_callTy b_int Fc.b_int (c_cons (c_ix (hu200 hr) (c_var 0) c_int) c_nil)) (c_var 1)) (g_sub (W := Wf E) (hu200 hr) (c_var 0) c_int))
      (s_one (s_ret (c_var 2))))) s_nil)
      (s_cons (s_asg (c_bin op_modV (c_callTy b_int Fc.b_int (c_cons (c_bin op_addV (c_bin op_addV (c_bin op_mulV (c_ix (hu200 hr) (c_var 0) c_int) c_int) (c_bin op_mulV c_int (c_ix (hu200 hr) (c_var 0) c_int))) c_int) c_nil)) c_int) (g_sub (W := Wf E) (hu200 hr) (c_var 0) c_int))
      (s_one (s_ret (c_bin op_modV (c_callTy b_int Fc.b_int (c_cons (c_bin op_fdivV (c_ix (hu200 hr) (c_var 0) c_int) c_int) c_nil)) (c_var 1)))))))
theorem ok_L_law_dip (Fc : Fac K mg) {fd : FuncData} (F : FunD K "_law_dip" "_law_dip" (defArgs s_L_law_dip) (defBody s_L_law_dip) (defScope s_L_law_dip) [] [] (A_L_law_dip K) fd) : FnM P w K mg base (cA K) 1 (A_L_law_dip K) m_L_law_dip := (FnM.of (o_L_law_dip Fc F ) (F.bindsN fun _ _ _ _ _ _ us hl => match us, hl with | [_, _], _ => rfl)).fin
/-! _law_one -/
abbrev s_L_law_one : Stmt := (top 41)
abbrev N_L_law_one : List Str := ["well", "menu"]
theorem nd_L_law_one : N_L_law_one.Nodup := by decide +kernel
abbrev P_L_law_one : List Str := ["well", "menu"]
abbrev A_L_law_one (K : PySem.W.Frag) : Addr := He.fAd K ("_law_one", none)
noncomputable def b_L_law_one : MS :=
    (retS (b2 ixV (vM 1) (callM m_L_law_dip (consM (vM 0) (consM (fA lenV (consM (vM 1) nilM)) nilM)))))
noncomputable def m0_L_law_one : List Val → Store → R Val := defK 2 2 b_L_law_one
noncomputable def m_L_law_one : List Val → Store → R Val := finM m0_L_law_one
theorem o_L_law_one (Fc : Fac K mg) {fd : FuncData} (F : FunD K "_law_one" "_law_one" (defArgs s_L_law_one) (defBody s_L_law_one) (defScope s_L_law_one) [] [] (A_L_law_one K) fd) (G_L_law_dip : FnM P w K mg base (cA K) 1 (A_L_law_dip K) m_L_law_dip) : FnOk P w K mg base (L2N.CX P w) 2 (A_L_law_one K) fd P_L_law_one (SpM K (cA K) m0_L_law_one) :=
  def_okO (N := N_L_law_one) (ps := P_L_law_one) (k := 1) (np := 2) (nn := 2) (mb := b_L_law_one) F ⟨rfl, rfl, rfl, by decide +kernel, rfl, by decide +kernel, by decide +kernel⟩ rfl rfl fun cdv A outer s H E hr tk =>
      (s_one (s_ret (c_ix (hu200 hr) (c_var 1) (c_call G_L_law_dip Fc.gf__law_dip Fc.kp__law_dip (hr.mono (by decide)) tk (c_cons (c_var 0) (c_cons (c_callB b_len Fc.b_len (c_cons (c_var 1) c_nil)) c_nil))))))
theorem ok_L_law_one (Fc : Fac K mg) {fd : FuncData} (F : FunD K "_law_one" "_law_one" (defArgs s_L_law_one) (defBody s_L_law_one) (defScope s_L_law_one) [] [] (A_L_law_one K) fd) (G_L_law_dip : FnM P w K mg base (cA K) 1 (A_L_law_dip K) m_L_law_dip) : FnM P w K mg base (cA K) 2 (A_L_law_one K) m_L_law_one := (FnM.of (o_L_law_one Fc F G_L_law_dip) (F.bindsN fun _ _ _ _ _ _ us hl => match us, hl with | [_, _], _ => rfl)).fin
/-! _law_words -/
abbrev s_L_law_words : Stmt := (top 42)
abbrev N_L_law_words : List Str := ["well", "size", "begin", "far", "menu", "k"]
theorem nd_L_law_words : N_L_law_words.Nodup := by decide +kernel
abbrev P_L_law_words : List Str := ["well", "size"]
abbrev A_L_law_words (K : PySem.W.Frag) : Addr := He.fAd K ("_law_words", none)
noncomputable def b_L_law_words : MS :=
    (seqS (asgS (tupM (consM (callM m_L_law_dip (consM (vM 0) (consM (cM (.int 9)) nilM))) (consM (callM m_L_law_one (consM (vM 0) (consM (lstM (consM (cM (.int 1)) (consM (cM (.int 2)) (consM (cM (.int 4)) (consM (cM (.int 5)) nilM))))) nilM))) nilM))) (gPc [2, 3] (tupC 2)))
    (seqS (asgS (lstM (consM (cM (strL "hall")) (consM (cM (strL "yard")) (consM (cM (strL "go")) (consM (cM (strL "end")) (consM (cM (strL "or")) (consM (cM (strL "do")) (consM (cM (strL "a")) (consM (cM (strL "longroom")) (consM (cM (strL "program")) nilM)))))))))) (gNameM 4))
    (retS (lcM (itR1 (consM (vM 1) nilM)) [5] oneC yesT (b2 ixV (vM 4) (b2 modV (fA intV (consM (b2 addV (vM 2) (b2 mulV (vM 3) (vM 5))) nilM)) (cM (.int 9)))) [5]))))
noncomputable def m0_L_law_words : List Val → Store → R Val := defK 2 6 b_L_law_words
noncomputable def m_L_law_words : List Val → Store → R Val := finM m0_L_law_words
theorem o_L_law_words (Fc : Fac K mg) {fd : FuncData} (F : FunD K "_law_words" "_law_words" (defArgs s_L_law_words) (defBody s_L_law_words) (defScope s_L_law_words) [] [] (A_L_law_words K) fd) (G_L_law_one : FnM P w K mg base (cA K) 2 (A_L_law_one K) m_L_law_one) (G_L_law_dip : FnM P w K mg base (cA K) 1 (A_L_law_dip K) m_L_law_dip) : FnOk P w K mg base (L2N.CX P w) 3 (A_L_law_words K) fd P_L_law_words (SpM K (cA K) m0_L_law_words) :=
  def_okO (N := N_L_law_words) (ps := P_L_law_words) (k := 2) (np := 2) (nn := 6) (mb := b_L_law_words) F ⟨rfl, rfl, rfl, by decide +kernel, rfl, by decide +kernel, by decide +kernel⟩ rfl rfl fun cdv A outer s H E hr tk =>
      (s_cons (s_asg (c_tup (c_cons (c_call G_L_law_dip Fc.gf__law_dip Fc.kp__law_dip (hr.mono (by decide)) tk (c_cons (c_var 0) (c_cons c_int c_nil))) (c_cons (c_call G_L_law_one Fc.gf__law_one Fc.kp__law_one (hr.mono (by decide)) tk (c_cons (c_var 0) (c_cons (c_lst (c_cons c_int (c_cons c_int (c_cons c_int (c_cons c_int c_nil))))) c_nil))) c_nil))) (g_of_pc (pc_tup nd_L_law_words rfl (.cons (.cons .nil)))))
      (s_cons (s_set (i := 4) nd_L_law_words (c_lst (c_cons c_str (c_cons c_str (c_cons c_str (c_cons c_str (c_cons c_str (c_cons c_str (c_cons c_str (c_cons c_str (c_cons c_str c_nil)))))))))))
      (s_one (s_ret (c_lc [("k", 5)] rfl nd_L_law_words (i_rng1 Fc.b_range (c_cons (c_var 1) c_nil)) (fun _ _ _ _ _ => (pc_name nd_L_law_words)) (fun _ _ _ _ _ => t_nil) (fun _ _ _ _ _ => (c_ix (hu200 hr) (c_var 4) (c_bin op_modV (c_callTy b_int Fc.b_int (c_cons (c_bin op_addV (c_var 2) (c_bin op_mulV (c_var 3) (c_var 5))) c_nil)) c_int))) (blkOk_by (N := N_L_law_words) (sc := (defScope (top 42))) (by decide +kernel)))))))
theorem ok_L_law_words (Fc : Fac K mg) {fd : FuncData} (F : FunD K "_law_words" "_law_words" (defArgs s_L_law_words) (defBody s_L_law_words) (defScope s_L_law_words) [] [] (A_L_law_words K) fd) (G_L_law_one : FnM P w K mg base (cA K) 2 (A_L_law_one K) m_L_law_one) (G_L_law_dip : FnM P w K mg base (cA K) 1 (A_L_law_dip K) m_L_law_dip) : FnM P w K mg base (cA K) 3 (A_L_law_words K) m_L_law_words := (FnM.of (o_L_law_words Fc F G_L_law_one G_L_law_dip) (F.bindsN fun _ _ _ _ _ _ us hl => match us, hl with | [_, _], _ => rfl)).fin
/-! _law_parts -/
abbrev s_L_law_parts : Stmt := (top 43)
abbrev N_L_law_parts : List Str := ["well", "most_rooms", "most_doors", "cells", "begin", "far", "letters", "k", "letter"]
theorem nd_L_law_parts : N_L_law_parts.Nodup := by decide +kernel
abbrev P_L_law_parts : List Str := ["well", "most_rooms", "most_doors"]
abbrev A_L_law_parts (K : PySem.W.Frag) : Addr := He.fAd K ("_law_parts", none)
noncomputable def b_L_law_parts : MS :=
    (seqS (asgS (fA tupleV (consM (callM m_L_law_words (consM (vM 0) (consM (b2 addV (cM (.int 1)) (callM m_L_law_dip (consM (vM 0) (consM (vM 1) nilM)))) nilM))) nilM)) (gNameM 3))
    (seqS (asgS (tupM (consM (callM m_L_law_dip (consM (vM 0) (consM (cM (.int 7)) nilM))) (consM (b2 addV (cM (.int 1)) (callM m_L_law_dip (consM (vM 0) (consM (cM (.int 6)) nilM)))) nilM))) (gPc [4, 5] (tupC 2)))
    (seqS (asgS (lcM (itR1 (consM (b2 addV (cM (.int 1)) (callM m_L_law_dip (consM (vM 0) (consM (vM 2) nilM)))) nilM)) [7] oneC yesT (b2 ixV (cM (strL "abdhxyz")) (b2 modV (fA intV (consM (b2 addV (vM 4) (b2 mulV (vM 5) (vM 7))) nilM)) (cM (.int 7)))) [7]) (gNameM 6))
    (retS (lstM (consM (vM 3) (consM (fA tupleV (consM (lcM (itL (vM 6)) [8] oneC yesT (tupM (consM (vM 8) (consM (callM m_L_law_one (consM (vM 0) (consM (vM 3) nilM))) (consM (callM m_L_law_one (consM (vM 0) (consM (vM 3) nilM))) nilM)))) [8]) nilM)) nilM)))))))
noncomputable def m0_L_law_parts : List Val → Store → R Val := defK 3 9 b_L_law_parts
noncomputable def m_L_law_parts : List Val → Store → R Val := finM m0_L_law_parts
theorem o_L_law_parts (Fc : Fac K mg) {fd : FuncData} (F : FunD K "_law_parts" "_law_parts" (defArgs s_L_law_parts) (defBody s_L_law_parts) (defScope s_L_law_parts) [] [] (A_L_law_parts K) fd) (G_L_law_words : FnM P w K mg base (cA K) 3 (A_L_law_words K) m_L_law_words) (G_L_law_dip : FnM P w K mg base (cA K) 1 (A_L_law_dip K) m_L_law_dip) (G_L_law_one : FnM P w K mg base (cA K) 2 (A_L_law_one K) m_L_law_one) : FnOk P w K mg base (L2N.CX P w) 4 (A_L_law_parts K) fd P_L_law_parts (SpM K (cA K) m0_L_law_parts) :=
  def_okO (N := N_L_law_parts) (ps := P_L_law_parts) (k := 3) (np := 3) (nn := 9) (mb := b_L_law_parts) F ⟨rfl, rfl, rfl, by decide +kernel, rfl, by decide +kernel, by decide +kernel⟩ rfl rfl fun cdv A outer s H E hr tk =>
      (s_cons (s_set (i := 3) nd_L_law_parts (c_callTy b_tuple Fc.b_tuple (c_cons (c_call G_L_law_words Fc.gf__law_words Fc.kp__law_words (hr.mono (by decide)) tk (c_cons (c_var 0) (c_cons (c_bin op_addV c_int (c_call G_L_law_dip Fc.gf__law_dip Fc.kp__law_dip (hr.mono (by decide)) tk (c_cons (c_var 0) (c_cons (c_var 1) c_nil)))) c_nil))) c_nil)))
      (s_cons (s_asg (c_tup (c_cons (c_call G_L_law_dip Fc.gf__law_dip Fc.kp__law_dip (hr.mono (by decide)) tk (c_cons (c_var 0) (c_cons c_int c_nil))) (c_cons (c_bin op_addV c_int (c_call G_L_law_dip Fc.gf__law_dip Fc.kp__law_dip (hr.mono (by decide)) tk (c_cons (c_var 0) (c_cons c_int c_nil)))) c_nil))) (g_of_pc (pc_tup nd_L_law_parts rfl (.cons (.cons .nil)))))
      (s_cons (s_setLc (i := 6) [("k", 7)] rfl nd_L_law_parts (i_rng1 Fc.b_range (c_cons (c_bin op_addV c_int (c_call G_L_law_dip Fc.gf__law_dip Fc.kp__law_dip (hr.mono (by decide)) tk (c_cons (c_var 0) (c_cons (c_var 2) c_nil)))) c_nil)) (fun _ _ _ _ _ => (pc_name nd_L_law_parts)) (fun _ _ _ _ _ => t_nil) (fun _ _ _ _ _ => (c_ix (hu200 hr) c_str (c_bin op_modV (c_callTy b_int Fc.b_int (c_cons (c_bin op_addV (c_var 4) (c_bin op_mulV (c_var 5) (c_var 7))) c_nil)) c_int))) (blkOk_by (N := N_L_law_parts) (sc := (defScope (top 43))) (by decide +kernel)) (sw_true rfl rfl rfl (by decide +kernel)))
      (s_one (s_ret (c_lst (c_cons (c_var 3) (c_cons (c_callTy b_tuple Fc.b_tuple (c_cons (c_lc [("letter", 8)] rfl nd_L_law_parts (i_list (c_var 6)) (fun _ _ _ _ _ => (pc_name nd_L_law_parts)) (fun _ _ _ _ _ => t_nil) (fun _ _ _ _ _ => (c_tup (c_cons (c_var 8) (c_cons (c_call (E := EF) G_L_law_one Fc.gf__law_one Fc.kp__law_one (hr.mono (by decide)) takesN0 (c_cons (c_var 0) (c_cons (c_var 3) c_nil))) (c_cons (c_call (E := EF) G_L_law_one Fc.gf__law_one Fc.kp__law_one (hr.mono (by decide)) takesN0 (c_cons (c_var 0) (c_cons (c_var 3) c_nil))) c_nil))))) (blkOk_by (N := N_L_law_parts) (sc := (defScope (top 43))) (by decide +kernel))) c_nil)) c_nil))))))))
theorem ok_L_law_parts (Fc : Fac K mg) {fd : FuncData} (F : FunD K "_law_parts" "_law_parts" (defArgs s_L_law_parts) (defBody s_L_law_parts) (defScope s_L_law_parts) [] [] (A_L_law_parts K) fd) (G_L_law_words : FnM P w K mg base (cA K) 3 (A_L_law_words K) m_L_law_words) (G_L_law_dip : FnM P w K mg base (cA K) 1 (A_L_law_dip K) m_L_law_dip) (G_L_law_one : FnM P w K mg base (cA K) 2 (A_L_law_one K) m_L_law_one) : FnM P w K mg base (cA K) 4 (A_L_law_parts K) m_L_law_parts := (FnM.of (o_L_law_parts Fc F G_L_law_words G_L_law_dip G_L_law_one) (F.bindsN fun _ _ _ _ _ _ us hl => match us, hl with | [_, _, _], _ => rfl)).fin
/-! _law_ways -/
abbrev s_L_law_ways : Stmt := (top 44)
abbrev N_L_law_ways : List Str := ["parts", "found", "letter", "fore", "hind"]
theorem nd_L_law_ways : N_L_law_ways.Nodup := by decide +kernel
abbrev P_L_law_ways : List Str := ["parts"]
abbrev A_L_law_ways (K : PySem.W.Frag) : Addr := He.fAd K ("_law_ways", none)
noncomputable def b_L_law_ways : MS :=
    (seqS (asgS dnewM (gNameM 1))
    (seqS (forS (itT (b2 ixV (vM 0) (cM (.int 1)))) (gPc [2, 3, 4] (tupC 3)) (asgS (tupM (consM (tupM (consM (vM 3) (consM (vM 4) nilM))) (consM (tupM (consM (vM 4) (consM (vM 3) nilM))) nilM))) (gTupM [(gSubM (vM 1) (vM 2)), (gSubM (vM 1) (sm0 upperG (vM 2)))])))
    (retS (vM 1))))
noncomputable def m0_L_law_ways : List Val → Store → R Val := defK 1 5 b_L_law_ways
noncomputable def m_L_law_ways : List Val → Store → R Val := finM m0_L_law_ways
theorem o_L_law_ways (Fc : Fac K mg) {fd : FuncData} (F : FunD K "_law_ways" "_law_ways" (defArgs s_L_law_ways) (defBody s_L_law_ways) (defScope s_L_law_ways) [] [] (A_L_law_ways K) fd) : FnOk P w K mg base (L2N.CX P w) 1 (A_L_law_ways K) fd P_L_law_ways (SpM K (cA K) m0_L_law_ways) :=
  def_okO (N := N_L_law_ways) (ps := P_L_law_ways) (k := 0) (np := 1) (nn := 5) (mb := b_L_law_ways) F ⟨rfl, rfl, rfl, by decide +kernel, rfl, by decide +kernel, by decide +kernel⟩ rfl rfl fun cdv A outer s H E hr tk =>
      (s_cons (s_set (i := 1) nd_L_law_ways c_dnew)
      (s_cons (s_for (passes_of rfl) rfl (i_tup (c_ix (hu200 hr) (c_var 0) c_int)) (g_of_pc (pc_tup nd_L_law_ways rfl (.cons (.cons (.cons .nil))))) (s_one (s_asg (c_tup (c_cons (c_tup (c_cons (c_var 3) (c_cons (c_var 4) c_nil))) (c_cons (c_tup (c_cons (c_var 4) (c_cons (c_var 3) c_nil))) c_nil))) (g_tup rfl (.cons (g_sub (W := Wf E) (hu200 hr) (c_var 1) (c_var 2)) (.cons (g_sub (W := Wf E) (hu200 hr) (c_var 1) (c_upper (c_var 2))) .nil))))))
      (s_one (s_ret (c_var 1)))))
theorem ok_L_law_ways (Fc : Fac K mg) {fd : FuncData} (F : FunD K "_law_ways" "_law_ways" (defArgs s_L_law_ways) (defBody s_L_law_ways) (defScope s_L_law_ways) [] [] (A_L_law_ways K) fd) : FnM P w K mg base (cA K) 1 (A_L_law_ways K) m_L_law_ways := (FnM.of (o_L_law_ways Fc F ) (F.bindsN fun _ _ _ _ _ _ us hl => match us, hl with | [_], _ => rfl)).fin
/-! _law_other -/
abbrev s_L_law_other : Stmt := (top 45)
abbrev N_L_law_other : List Str := ["sign"]
theorem nd_L_law_other : N_L_law_other.Nodup := by decide +kernel
abbrev P_L_law_other : List Str := ["sign"]
abbrev A_L_law_other (K : PySem.W.Frag) : Addr := He.fAd K ("_law_other", none)
noncomputable def b_L_law_other : MS :=
    (retS (ifM (tB (b2 neV (sm0 lowerG (vM 0)) (vM 0))) (sm0 lowerG (vM 0)) (sm0 upperG (vM 0))))
noncomputable def m0_L_law_other : List Val → Store → R Val := defK 1 1 b_L_law_other
noncomputable def m_L_law_other : List Val → Store → R Val := finM m0_L_law_other
theorem o_L_law_other (Fc : Fac K mg) {fd : FuncData} (F : FunD K "_law_other" "_law_other" (defArgs s_L_law_other) (defBody s_L_law_other) (defScope s_L_law_other) [] [] (A_L_law_other K) fd) : FnOk P w K mg base (L2N.CX P w) 1 (A_L_law_other K) fd P_L_law_other (SpM K (cA K) m0_L_law_other) :=
  def_okO (N := N_L_law_other) (ps := P_L_law_other) (k := 0) (np := 1) (nn := 1) (mb := b_L_law_other) F ⟨rfl, rfl, rfl, by decide +kernel, rfl, by decide +kernel, by decide +kernel⟩ rfl rfl fun cdv A outer s H E hr tk =>
      (s_one (s_ret (c_if (c_tcmp (op_neV (hu64 hr)) (c_lower (c_var 0)) (c_var 0)) (c_lower (c_var 0)) (c_upper (c_var 0)))))
theorem ok_L_law_other (Fc : Fac K mg) {fd : FuncData} (F : FunD K "_law_other" "_law_other" (defArgs s_L_law_other) (defBody s_L_law_other) (defScope s_L_law_other) [] [] (A_L_law_other K) fd) : FnM P w K mg base (cA K) 1 (A_L_law_other K) m_L_law_other := (FnM.of (o_L_law_other Fc F ) (F.bindsN fun _ _ _ _ _ _ us hl => match us, hl with | [_], _ => rfl)).fin
/-! _law_short -/
abbrev s_L_law_short : Stmt := (top 46)
abbrev N_L_law_short : List Str := ["tread", "left", "at"]
theorem nd_L_law_short : N_L_law_short.Nodup := by decide +kernel
abbrev P_L_law_short : List Str := ["tread"]
abbrev A_L_law_short (K : PySem.W.Frag) : Addr := He.fAd K ("_law_short", none)
noncomputable def b_L_law_short : MS :=
    (seqS (parS 1 2 (consM (vM 0) (consM (cM (.int 0)) nilM)))
    (seqS (whileN (tB (b2 ltV (vM 2) (b2 subV (fA lenV (consM (vM 1) nilM)) (cM (.int 1))))) (ifS (tB (b2 eqV (b2 ixV (vM 1) (vM 2)) (callM m_L_law_other (consM (b2 ixV (vM 1) (b2 addV (vM 2) (cM (.int 1)))) nilM)))) (parS 1 2 (consM (b2 addV (slM slV (vM 1) noP (inP (vM 2))) (slM slV (vM 1) (inP (b2 addV (vM 2) (cM (.int 2)))) noP)) (consM (fA maxV (consM (cM (.int 0)) (consM (b2 subV (vM 2) (cM (.int 1))) nilM))) nilM))) (asgS (b2 addV (vM 2) (cM (.int 1))) (gNameM 2))) fuelW)
    (retS (vM 1))))
noncomputable def m0_L_law_short : List Val → Store → R Val := defK 1 3 b_L_law_short
noncomputable def m_L_law_short : List Val → Store → R Val := finM m0_L_law_short
theorem o_L_law_short (Fc : Fac K mg) {fd : FuncData} (F : FunD K "_law_short" "_law_short" (defArgs s_L_law_short) (defBody s_L_law_short) (defScope s_L_law_short) [] [] (A_L_law_short K) fd) (G_L_law_other : FnM P w K mg base (cA K) 1 (A_L_law_other K) m_L_law_other) : FnOk P w K mg base (L2N.CX P w) 2 (A_L_law_short K) fd P_L_law_short (SpM K (cA K) m0_L_law_short) :=
  def_okO (N := N_L_law_short) (ps := P_L_law_short) (k := 1) (np := 1) (nn := 3) (mb := b_L_law_short) F ⟨rfl, rfl, rfl, by decide +kernel, rfl, by decide +kernel, by decide +kernel⟩ rfl rfl fun cdv A outer s H E hr tk =>
      (s_cons (s_par (i := 1) (j := 2) rfl nd_L_law_short (c_cons (c_var 0) (c_cons c_int c_nil)))
      (s_cons (s_while fuelW (passes_of rfl) (c_tcmp op_ltV (c_var 2) (c_bin op_subV (c_callB b_len Fc.b_len (c_cons (c_var 1) c_nil)) c_int)) (s_one (s_if (c_tcmp (op_eqV (hu64 hr)) (c_ix (hu200 hr) (c_var 1) (c_var 2)) (c_call G_L_law_other Fc.gf__law_other Fc.kp__law_other (hr.mono (by decide)) tk (c_cons (c_ix (hu200 hr) (c_var 1) (c_bin op_addV (c_var 2) c_int)) c_nil))) (s_one (s_par (i := 1) (j := 2) rfl nd_L_law_short (c_cons (c_bin op_addV (c_sl (c_var 1) c_noP (c_inP (c_var 2))) (c_sl (c_var 1) (c_inP (c_bin op_addV (c_var 2) c_int)) c_noP)) (c_cons (c_callB (b_max rfl) Fc.b_max (c_cons c_int (c_cons (c_bin op_subV (c_var 2) c_int) c_nil))) c_nil)))) (s_one (s_set (i := 2) nd_L_law_short (c_bin op_addV (c_var 2) c_int))))))
      (s_one (s_ret (c_var 1)))))
theorem ok_L_law_short (Fc : Fac K mg) {fd : FuncData} (F : FunD K "_law_short" "_law_short" (defArgs s_L_law_short) (defBody s_L_law_short) (defScope s_L_law_short) [] [] (A_L_law_short K) fd) (G_L_law_other : FnM P w K mg base (cA K) 1 (A_L_law_other K) m_L_law_other) : FnM P w K mg base (cA K) 2 (A_L_law_short K) m_L_law_short := (FnM.of (o_L_law_short Fc F G_L_law_other) (F.bindsN fun _ _ _ _ _ _ us hl => match us, hl with | [_], _ => rfl)).fin
/-! _law_end -/
abbrev s_L_law_end : Stmt := (top 47)
abbrev N_L_law_end : List Str := ["ways", "cell", "tread", "here", "sign"]
theorem nd_L_law_end : N_L_law_end.Nodup := by decide +kernel
abbrev P_L_law_end : List Str := ["ways", "cell", "tread"]
abbrev A_L_law_end (K : PySem.W.Frag) : Addr := He.fAd K ("_law_end", none)
noncomputable def b_L_law_end : MS :=
    (seqS (asgS (vM 1) (gNameM 3))
    (seqS (forS (itS (vM 2)) (gNameM 4) (seqS (ifS (orT (tB (b2 ninV2 (vM 4) (vM 0))) (tB (b2 neV (b2 ixV (b2 ixV (vM 0) (vM 4)) (cM (.int 0))) (vM 3)))) (retS (cM .non)) nextS)
    (asgS (b2 ixV (b2 ixV (vM 0) (vM 4)) (cM (.int 1))) (gNameM 3))))
    (retS (vM 3))))
noncomputable def m0_L_law_end : List Val → Store → R Val := defK 3 5 b_L_law_end
noncomputable def m_L_law_end : List Val → Store → R Val := finM m0_L_law_end
theorem o_L_law_end (Fc : Fac K mg) {fd : FuncData} (F : FunD K "_law_end" "_law_end" (defArgs s_L_law_end) (defBody s_L_law_end) (defScope s_L_law_end) [] [] (A_L_law_end K) fd) : FnOk P w K mg base (L2N.CX P w) 1 (A_L_law_end K) fd P_L_law_end (SpM K (cA K) m0_L_law_end) :=
  def_okO (N := N_L_law_end) (ps := P_L_law_end) (k := 0) (np := 3) (nn := 5) (mb := b_L_law_end) F ⟨rfl, rfl, rfl, by decide +kernel, rfl, by decide +kernel, by decide +kernel⟩ rfl rfl fun cdv A outer s H E hr tk =>
      (s_cons (s_set (i := 3) nd_L_law_end (c_var 1))
      (s_cons (s_for (passes_of rfl) rfl (i_str (c_var 2)) (g_name nd_L_law_end) (s_cons (s_if (c_pt (c_tor (c_tcmp (op_ninV (hu200 hr)) (c_var 4) (c_var 0)) (c_tor1 (c_tcmp (op_neV (hu64 hr)) (c_ix (hu200 hr) (c_ix (hu200 hr) (c_var 0) (c_var 4)) c_int) (c_var 3))))) (s_one (s_ret c_non)) s_nil)
      (s_one (s_set (i := 3) nd_L_law_end (c_ix (hu200 hr) (c_ix (hu200 hr) (c_var 0) (c_var 4)) c_int)))))
      (s_one (s_ret (c_var 3)))))
theorem ok_L_law_end (Fc : Fac K mg) {fd : FuncData} (F : FunD K "_law_end" "_law_end" (defArgs s_L_law_end) (defBody s_L_law_end) (defScope s_L_law_end) [] [] (A_L_law_end K) fd) : FnM P w K mg base (cA K) 1 (A_L_law_end K) m_L_law_end := (FnM.of (o_L_law_end Fc F ) (F.bindsN fun _ _ _ _ _ _ us hl => match us, hl with | [_, _, _], _ => rfl)).fin
/-! _law_walk_from -/
abbrev s_L_law_walk_from : Stmt := (top 48)
abbrev N_L_law_walk_from : List Str := ["well", "ways", "cell", "size", "here", "tread", "turn", "signs", "sign"]
theorem nd_L_law_walk_from : N_L_law_walk_from.Nodup := by decide +kernel
abbrev P_L_law_walk_from : List Str := ["well", "ways", "cell", "size"]
abbrev A_L_law_walk_from (K : PySem.W.Frag) : Addr := He.fAd K ("_law_walk_from", none)
noncomputable def b_L_law_walk_from : MS :=
    (seqS (asgS (tupM (consM (vM 2) (consM (cM (strL "")) nilM))) (gPc [4, 5] (tupC 2)))
    (seqS (forS (itR1 (consM (callM m_L_law_dip (consM (vM 0) (consM (b2 addV (vM 3) (cM (.int 1))) nilM))) nilM)) (gNameM 6) (seqS (asgS (lcM (itL (fA sortedV (consM (vM 1) nilM))) [8] oneC (tB (b2 eqV (b2 ixV (b2 ixV (vM 1) (vM 8)) (cM (.int 0))) (vM 4))) (vM 8) [8]) (gNameM 7))
    (ifS (tB (b2 neV (vM 7) (lstM nilM))) (seqS (asgS (callM m_L_law_one (consM (vM 0) (consM (vM 7) nilM))) (gNameM 8))
    (asgS (tupM (consM (b2 ixV (b2 ixV (vM 1) (vM 8)) (cM (.int 1))) (consM (b2 addV (vM 5) (vM 8)) nilM))) (gPc [4, 5] (tupC 2)))) nextS)))
    (retS (vM 5))))
noncomputable def m0_L_law_walk_from : List Val → Store → R Val := defK 4 9 b_L_law_walk_from
noncomputable def m_L_law_walk_from : List Val → Store → R Val := finM m0_L_law_walk_from
theorem o_L_law_walk_from (Fc : Fac K mg) {fd : FuncData} (F : FunD K "_law_walk_from" "_law_walk_from" (defArgs s_L_law_walk_from) (defBody s_L_law_walk_from) (defScope s_L_law_walk_from) [] [] (A_L_law_walk_from K) fd) (G_L_law_dip : FnM P w K mg base (cA K) 1 (A_L_law_dip K) m_L_law_dip) (G_L_law_one : FnM P w K mg base (cA K) 2 (A_L_law_one K) m_L_law_one) : FnOk P w K mg base (L2N.CX P w) 3 (A_L_law_walk_from K) fd P_L_law_walk_from (SpM K (cA K) m0_L_law_walk_from) :=
  def_okO (N := N_L_law_walk_from) (ps := P_L_law_walk_from) (k := 2) (np := 4) (nn := 9) (mb := b_L_law_walk_from) F ⟨rfl, rfl, rfl, by decide +kernel, rfl, by decide +kernel, by decide +kernel⟩ rfl rfl fun cdv A outer s H E hr tk =>
      (s_cons (s_asg (c_tup (c_cons (c_var 2) (c_cons c_str c_nil))) (g_of_pc (pc_tup nd_L_law_walk_from rfl (.cons (.cons .nil)))))
      (s_cons (s_for (passes_of rfl) rfl (i_rng1 Fc.b_range (c_cons (c_call G_L_law_dip Fc.gf__law_dip Fc.kp__law_dip (hr.mono (by decide)) tk (c_cons (c_var 0) (c_cons (c_bin op_addV (c_var 3) c_int) c_nil))) c_nil)) (g_name nd_L_law_walk_from) (s_cons (s_setLc (i := 7) [("sign", 8)] rfl nd_L_law_walk_from (i_list (c_callB (b_sorted rfl) Fc.b_sorted (c_cons (c_var 1) c_nil))) (fun _ _ _ _ _ => (pc_name nd_L_law_walk_from)) (fun _ _ _ _ _ => (t_one (c_tcmp (op_eqV (hu64 hr)) (c_ix (hu200 hr) (c_ix (hu200 hr) (c_var 1) (c_var 8)) c_int) (c_var 4)))) (fun _ _ _ _ _ => (c_var 8)) (blkOk_by (N := N_L_law_walk_from) (sc := (defScope (top 48))) (by decide +kernel)) (sw_true rfl rfl rfl (by decide +kernel)))
      (s_one (s_if (c_tcmp (op_neV (hu64 hr)) (c_var 7) (c_lst c_nil)) (s_cons (s_set (i := 8) nd_L_law_walk_from (c_call G_L_law_one Fc.gf__law_one Fc.kp__law_one (hr.mono (by decide)) tk (c_cons (c_var 0) (c_cons (c_var 7) c_nil))))
      (s_one (s_asg (c_tup (c_cons (c_ix (hu200 hr) (c_ix (hu200 hr) (c_var 1) (c_var 8)) c_int) (c_cons (c_bin op_addV (c_var 5) (c_var 8)) c_nil))) (g_of_pc (pc_tup nd_L_law_walk_from rfl (.cons (.cons .nil))))))) s_nil))))
      (s_one (s_ret (c_var 5)))))
theorem ok_L_law_walk_from (Fc : Fac K mg) {fd : FuncData} (F : FunD K "_law_walk_from" "_law_walk_from" (defArgs s_L_law_walk_from) (defBody s_L_law_walk_from) (defScope s_L_law_walk_from) [] [] (A_L_law_walk_from K) fd) (G_L_law_dip : FnM P w K mg base (cA K) 1 (A_L_law_dip K) m_L_law_dip) (G_L_law_one : FnM P w K mg base (cA K) 2 (A_L_law_one K) m_L_law_one) : FnM P w K mg base (cA K) 3 (A_L_law_walk_from K) m_L_law_walk_from := (FnM.of (o_L_law_walk_from Fc F G_L_law_dip G_L_law_one) (F.bindsN fun _ _ _ _ _ _ us hl => match us, hl with | [_, _, _, _], _ => rfl)).fin
end
end K06

set_option Elab.async false
set_option linter.all false
set_option maxRecDepth 100000
set_option maxHeartbeats 4000000
namespace K06
open PySem PySem.Spec PyProof.Rows L2 CC LamX
section
variable {P : Program} {w : World} {K : PySem.W.Frag} {mg : Str → Option Value} {base : Heap}
/-! _law_class -/
abbrev s_L_law_class : Stmt := (top 50)
abbrev N_L_law_class : List Str := ["e", "kinds", "found", "word", "fits"]
theorem nd_L_law_class : N_L_law_class.Nodup := by decide +kernel
abbrev P_L_law_class : List Str := ["e"]
abbrev A_L_law_class (K : PySem.W.Frag) : Addr := He.fAd K ("_law_class", none)
noncomputable def b_L_law_class (a : Addr) (C : Nat) (xs : List (Addr × List (Str × V))) : MS :=
    (seqS (asgS (lstM (consM (lstM (consM (cM (strL "room")) (consM (fA (isxV a C kt) (consM (vM 0) (consM (cM (.cls 2)) nilM))) nilM))) (consM (lstM (consM (cM (strL "door")) (consM (fA (isxV a C kt) (consM (vM 0) (consM (cM (.cls 3)) nilM))) nilM))) (consM (lstM (consM (cM (strL "walk")) (consM (fA (isxV a C kt) (consM (vM 0) (consM (cM (.cls 4)) nilM))) nilM))) nilM)))) (gNameM 1))
    (seqS (asgS (b2 addV (vM 1) (lstM (consM (lstM (consM (cM (strL "course")) (consM (fA (isxV a C kt) (consM (vM 0) (consM (cM (.cls 5)) nilM))) nilM))) (consM (lstM (consM (cM (strL "number")) (consM (fA (isxV a C kt) (consM (vM 0) (consM (cM (.cls 6)) nilM))) nilM))) nilM)))) (gNameM 1))
    (seqS (asgS (b2 addV (vM 1) (lstM (consM (lstM (consM (cM (strL "text")) (consM (fA (isxV a C kt) (consM (vM 0) (consM (cM (.cls 7)) nilM))) nilM))) (consM (lstM (consM (cM (strL "house")) (consM (fA (isxV a C kt) (consM (vM 0) (consM (cM (.cls 8)) nilM))) nilM))) nilM)))) (gNameM 1))
    (seqS (asgS (b2 addV (vM 1) (lstM (consM (lstM (consM (cM (strL "program")) (consM (fA (isxV a C kt) (consM (vM 0) (consM (cM (.cls 9)) nilM))) nilM))) (consM (lstM (consM (cM (strL "plan")) (consM (fA (isxV a C kt) (consM (vM 0) (consM (cM (.cls 10)) nilM))) nilM))) nilM)))) (gNameM 1))
    (seqS (asgS (b2 addV (vM 1) (lstM (consM (lstM (consM (cM (strL "courses")) (consM (fA (isxV a C kt) (consM (vM 0) (consM (cM (.cls 11)) nilM))) nilM))) (consM (lstM (consM (cM (strL "rooms")) (consM (fA (isxV a C kt) (consM (vM 0) (consM (cM (.cls 12)) nilM))) nilM))) nilM)))) (gNameM 1))
    (seqS (asgS (b2 addV (vM 1) (lstM (consM (lstM (consM (cM (strL "doors")) (consM (fA (isxV a C kt) (consM (vM 0) (consM (cM (.cls 13)) nilM))) nilM))) (consM (lstM (consM (cM (strL "programs")) (consM (fA (isxV a C kt) (consM (vM 0) (consM (cM (.cls 14)) nilM))) nilM))) nilM)))) (gNameM 1))
    (seqS (asgS (b2 addV (vM 1) (lstM (consM (lstM (consM (cM (strL "items")) (consM (fA (isxV a C kt) (consM (vM 0) (consM (cM (.cls 15)) nilM))) nilM))) (consM (lstM (consM (cM (strL "unknown")) (consM (fA (isxV a C kt) (consM (vM 0) (consM (cM (.cls 17)) nilM))) nilM))) nilM)))) (gNameM 1))
    (seqS (asgS (b2 addV (vM 1) (lstM (consM (lstM (consM (cM (strL "unjoined")) (consM (fA (isxV a C kt) (consM (vM 0) (consM (cM (.cls 19)) nilM))) nilM))) (consM (lstM (consM (cM (strL "other")) (consM (fA (isxV a C kt) (consM (vM 0) (consM (cM (.cls 20)) nilM))) nilM))) nilM)))) (gNameM 1))
    (seqS (asgS (lcM (itL (vM 1)) [3, 4] (lstC 2) (tstM (vM 4)) (vM 3) [3, 4]) (gNameM 2))
    (retS (ifM (tB (b2 eqV (fA lenV (consM (vM 2) nilM)) (cM (.int 1)))) (b2 ixV (vM 2) (cM (.int 0))) (cM (strL "odd")))))))))))))
noncomputable def m_L_law_class : MH := fun a C xs => defK 1 5 (b_L_law_class a C xs)
theorem ok_L_law_class (Fc : Fac K mg) {fd : FuncData} (F : FunD K "_law_class" "_law_class" (defArgs s_L_law_class) (defBody s_L_law_class) (defScope s_L_law_class) [] [] (A_L_law_class K) fd) : FnMH P w K mg base (cA K) 1 (A_L_law_class K) (LC WL) m_L_law_class :=
  def_okH (N := N_L_law_class) (ps := P_L_law_class) (k := 0) (np := 1) (nn := 5) (mb := b_L_law_class) F ⟨rfl, rfl, rfl, by decide +kernel, rfl, by decide +kernel, by decide +kernel⟩ (F.bindsN fun _ _ _ _ _ _ us hl => match us, hl with | [_], _ => rfl) rfl rfl fun cdv A outer s H E p C d xs hL hr hp hd tk =>
      (s_cons (s_set (i := 1) nd_L_law_class (c_lst (c_cons (c_lst (c_cons c_str (c_cons (c_callB (b_isx Fc.ki.wx hp hd (Fc.exk.ok C (LC.mem hL))) Fc.b_isinstance (c_cons (c_var 0) (c_cons (c_gcls Fc.gc_InvalidRoom) c_nil))) c_nil))) (c_cons (c_lst (c_cons c_str (c_cons (c_callB (b_isx Fc.ki.wx hp hd (Fc.exk.ok C (LC.mem hL))) Fc.b_isinstance (c_cons (c_var 0) (c_cons (c_gcls Fc.gc_InvalidDoor) c_nil))) c_nil))) (c_cons (c_lst (c_cons c_str (c_cons (c_callB (b_isx Fc.ki.wx hp hd (Fc.exk.ok C (LC.mem hL))) Fc.b_isinstance (c_cons (c_var 0) (c_cons (c_gcls Fc.gc_InvalidWalk) c_nil))) c_nil))) c_nil)))))
      (s_cons (s_set (i := 1) nd_L_law_class (c_bin op_addV (c_var 1) (c_lst (c_cons (c_lst (c_cons c_str (c_cons (c_callB (b_isx Fc.ki.wx hp hd (Fc.exk.ok C (LC.mem hL))) Fc.b_isinstance (c_cons (c_var 0) (c_cons (c_gcls Fc.gc_InvalidCourse) c_nil))) c_nil))) (c_cons (c_lst (c_cons c_str (c_cons (c_callB (b_isx Fc.ki.wx hp hd (Fc.exk.ok C (LC.mem hL))) Fc.b_isinstance (c_cons (c_var 0) (c_cons (c_gcls Fc.gc_InvalidNumber) c_nil))) c_nil))) c_nil)))))
      (s_cons (s_set (i := 1) nd_L_law_class (c_bin op_addV (c_var 1) (c_lst (c_cons (c_lst (c_cons c_str (c_cons (c_callB (b_isx Fc.ki.wx hp hd (Fc.exk.ok C (LC.mem hL))) Fc.b_isinstance (c_cons (c_var 0) (c_cons (c_gcls Fc.gc_InvalidText) c_nil))) c_nil))) (c_cons (c_lst (c_cons c_str (c_cons (c_callB (b_isx Fc.ki.wx hp hd (Fc.exk.ok C (LC.mem hL))) Fc.b_isinstance (c_cons (c_var 0) (c_cons (c_gcls Fc.gc_NotAHouse) c_nil))) c_nil))) c_nil)))))
      (s_cons (s_set (i := 1) nd_L_law_class (c_bin op_addV (c_var 1) (c_lst (c_cons (c_lst (c_cons c_str (c_cons (c_callB (b_isx Fc.ki.wx hp hd (Fc.exk.ok C (LC.mem hL))) Fc.b_isinstance (c_cons (c_var 0) (c_cons (c_gcls Fc.gc_NotAProgram) c_nil))) c_nil))) (c_cons (c_lst (c_cons c_str (c_cons (c_callB (b_isx Fc.ki.wx hp hd (Fc.exk.ok C (LC.mem hL))) Fc.b_isinstance (c_cons (c_var 0) (c_cons (c_gcls Fc.gc_NotAPlan) c_nil))) c_nil))) c_nil)))))
      (s_cons (s_set (i := 1) nd_L_law_class (c_bin op_addV (c_var 1) (c_lst (c_cons (c_lst (c_cons c_str (c_cons (c_callB (b_isx Fc.ki.wx hp hd (Fc.exk.ok C (LC.mem hL))) Fc.b_isinstance (c_cons (c_var 0) (c_cons (c_gcls Fc.gc_NotCourses) c_nil))) c_nil))) (c_cons (c_lst (c_cons c_str (c_cons (c_callB (b_isx Fc.ki.wx hp hd (Fc.exk.ok C (LC.mem hL))) Fc.b_isinstance (c_cons (c_var 0) (c_cons (c_gcls Fc.gc_InvalidRooms) c_nil))) c_nil))) c_nil)))))
      (s_cons (s_set (i := 1) nd_L_law_class (c_bin op_addV (c_var 1) (c_lst (c_cons (c_lst (c_cons c_str (c_cons (c_callB (b_isx Fc.ki.wx hp hd (Fc.exk.ok C (LC.mem hL))) Fc.b_isinstance (c_cons (c_var 0) (c_cons (c_gcls Fc.gc_InvalidDoors) c_nil))) c_nil))) (c_cons (c_lst (c_cons c_str (c_cons (c_callB (b_isx Fc.ki.wx hp hd (Fc.exk.ok C (LC.mem hL))) Fc.b_isinstance (c_cons (c_var 0) (c_cons (c_gcls Fc.gc_InvalidPrograms) c_nil))) c_nil))) c_nil)))))
      (s_cons (s_set (i := 1) nd_L_law_class (c_bin op_addV (c_var 1) (c_lst (c_cons (c_lst (c_cons c_str (c_cons (c_callB (b_isx Fc.ki.wx hp hd (Fc.exk.ok C (LC.mem hL))) Fc.b_isinstance (c_cons (c_var 0) (c_cons (c_gcls Fc.gc_InvalidCourses) c_nil))) c_nil))) (c_cons (c_lst (c_cons c_str (c_cons (c_callB (b_isx Fc.ki.wx hp hd (Fc.exk.ok C (LC.mem hL))) Fc.b_isinstance (c_cons (c_var 0) (c_cons (c_gcls Fc.gc_UnknownProgram) c_nil))) c_nil))) c_nil)))))
      (s_cons (s_set (i := 1) nd_L_law_class (c_bin op_addV (c_var 1) (c_lst (c_cons (c_lst (c_cons c_str (c_cons (c_callB (b_isx Fc.ki.wx hp hd (Fc.exk.ok C (LC.mem hL))) Fc.b_isinstance (c_cons (c_var 0) (c_cons (c_gcls Fc.gc_Unjoined) c_nil))) c_nil))) (c_cons (c_lst (c_cons c_str (c_cons (c_callB (b_isx Fc.ki.wx hp hd (Fc.exk.ok C (LC.mem hL))) Fc.b_isinstance (c_cons (c_var 0) (c_cons (c_gcls Fc.gc_OtherHouse) c_nil))) c_nil))) c_nil)))))
      (s_cons (s_setLcN (i := 2) [("word", 3), ("fits", 4)] hp.hot nd_L_law_class (c_var 1) (fun _ _ _ _ _ hb => (pc_lstN hb nd_L_law_class (.cons (.cons .nil)))) (fun _ _ _ _ _ => (t_one (c_test (c_var 4)))) (fun _ _ _ _ _ => (c_var 3)) (blkOk_by (N := N_L_law_class) (sc := (defScope (top 50))) (by decide +kernel)) (sw_true rfl rfl rfl (by decide +kernel)))
      (s_one (s_ret (c_if (c_tcmp (op_eqV (hu64H hr)) (c_callB b_len Fc.b_len (c_cons (c_var 2) c_nil)) c_int) (c_ix (hu200H hr) (c_var 2) c_int) c_str))))))))))))
/-! _law_has -/
abbrev s_L_law_has : Stmt := (top 51)
abbrev N_L_law_has : List Str := ["e"]
theorem nd_L_law_has : N_L_law_has.Nodup := by decide +kernel
abbrev P_L_law_has : List Str := ["e"]
abbrev A_L_law_has (K : PySem.W.Frag) : Addr := He.fAd K ("_law_has", none)
noncomputable def b_L_law_has (a : Addr) (C : Nat) (xs : List (Addr × List (Str × V))) : MS :=
    (seqS (ifS (tstM (fA (isxV a C kt) (consM (vM 0) (consM (tupM (consM (cM (.cls 12)) (consM (cM (.cls 13)) (consM (cM (.cls 14)) (consM (cM (.cls 15)) nilM))))) nilM)))) (retS (u1 (xatV a xs 1) (vM 0))) nextS)
    (retS (ifM (tstM (fA (isxV a C kt) (consM (vM 0) (consM (tupM (consM (cM (.cls 19)) (consM (cM (.cls 20)) nilM))) nilM)))) (cM .non) (u1 (xatV a xs 0) (vM 0)))))
noncomputable def m_L_law_has : MH := fun a C xs => defK 1 1 (b_L_law_has a C xs)
theorem ok_L_law_has (Fc : Fac K mg) {fd : FuncData} (F : FunD K "_law_has" "_law_has" (defArgs s_L_law_has) (defBody s_L_law_has) (defScope s_L_law_has) [] [] (A_L_law_has K) fd) : FnMH P w K mg base (cA K) 1 (A_L_law_has K) (LC WL) m_L_law_has :=
  def_okH (N := N_L_law_has) (ps := P_L_law_has) (k := 0) (np := 1) (nn := 1) (mb := b_L_law_has) F ⟨rfl, rfl, rfl, by decide +kernel, rfl, by decide +kernel, by decide +kernel⟩ (F.bindsN fun _ _ _ _ _ _ us hl => match us, hl with | [_], _ => rfl) rfl rfl fun cdv A outer s H E p C d xs hL hr hp hd tk =>
      (s_cons (s_if (c_test (c_callB (b_isx Fc.ki.wx hp hd (Fc.exk.ok C (LC.mem hL))) Fc.b_isinstance (c_cons (c_var 0) (c_cons (c_tup (c_cons (c_gcls Fc.gc_InvalidRooms) (c_cons (c_gcls Fc.gc_InvalidDoors) (c_cons (c_gcls Fc.gc_InvalidPrograms) (c_cons (c_gcls Fc.gc_InvalidCourses) c_nil))))) c_nil)))) (s_one (s_ret (c_xat (C := C) (n := 1) hp hd (Fc.exk.ok C (LC.mem hL)) (Fc.xat C (LC.mem hL) 1 (by decide)) (c_var 0)))) s_nil)
      (s_one (s_ret (c_if (c_test (c_callB (b_isx Fc.ki.wx hp hd (Fc.exk.ok C (LC.mem hL))) Fc.b_isinstance (c_cons (c_var 0) (c_cons (c_tup (c_cons (c_gcls Fc.gc_Unjoined) (c_cons (c_gcls Fc.gc_OtherHouse) c_nil))) c_nil)))) c_non (c_xat (C := C) (n := 0) hp hd (Fc.exk.ok C (LC.mem hL)) (Fc.xat C (LC.mem hL) 0 (by decide)) (c_var 0))))))
/-! _law_error -/
abbrev s_L_law_error : Stmt := (top 49)
abbrev N_L_law_error : List Str := ["act", "told", "e", "bases", "plain"]
theorem nd_L_law_error : N_L_law_error.Nodup := by decide +kernel
abbrev P_L_law_error : List Str := ["act"]
abbrev A_L_law_error (K : PySem.W.Frag) : Addr := He.fAd K ("_law_error", none)
noncomputable def sm_L_law_error (a : Addr) (C : Nat) (xs : List (Addr × List (Str × V))) : MS :=
    (seqS (asgS (lstM (consM (fA (isxV a C kt) (consM (vM 2) (consM (cM (.cls 1)) nilM))) (consM (fA (isxV a C kt) (consM (vM 2) (consM (cM (.cls 16)) nilM))) (consM (fA (isxV a C kt) (consM (vM 2) (consM (cM (.cls 18)) nilM))) nilM)))) (gNameM 3))
    (seqS (asgS (lstM (consM (fA (isxV a C kt) (consM (vM 2) (consM (cM (.ty "ValueError")) nilM))) (consM (fA (isxV a C kt) (consM (vM 2) (consM (cM (.ty "LookupError")) nilM))) (consM (fA (isxV a C kt) (consM (vM 2) (consM (cM (.ty "ArithmeticError")) nilM))) nilM)))) (gNameM 4))
    (retS (lstM (consM (ifM (andT (tB (b2 eqV (vM 3) (vM 4))) (tB (b2 eqV (cntM (vM 3) (cM (.bl true))) (cM (.int 1))))) (callM (m_L_law_class a C xs) (consM (vM 2) nilM)) (cM (strL "odd"))) (consM (callM (m_L_law_has a C xs) (consM (vM 2) nilM)) nilM))))))
noncomputable def rm_L_law_error : MS := (retS (lstM (consM (cM (strL "told")) (consM (vM 1) nilM))))
theorem lamErr {X : Cx} {W : WX} {k : Nat} {q : He.Defn} {params : Arguments} {scope : Scope} {body : Expr} {mb : M Val} {p lpos pos : Pos} (_tk : L2N.Takes X W) (Fc : Fac X.K X.mg) {fd : FuncData} (F : FunD X.K "_law_error" "_law_error" (defArgs s_L_law_error) (defBody s_L_law_error) (defScope s_L_law_error) [] [] (A_L_law_error X.K) fd)
    (G_L_law_class : FnMH X.prog X.w X.K X.mg X.base (cA X.K) 1 (A_L_law_class X.K) (LC WL) m_L_law_class) (G_L_law_has : FnMH X.prog X.w X.K X.mg X.base (cA X.K) 1 (A_L_law_has X.K) (LC WL) m_L_law_has) (sok : SuiteOk wordL attL sm_L_law_error 5)
    (hq : q ∈ tfs) (TB : TabB X.base X.mg (He.cT X.K q).1 (He.cT X.K q).2) (hcode : X.env.code = .ref (He.cT X.K q).1) (hqual : X.env.qual ++ "<lambda>" = lq q) (room : Room (k + 2) X.A) (L : LamS X.env.scope scope) (hdef : defaultsOf params X.env = ([], []))
    (nobind : ∀ (q : Str) (cl : List (Str × Addr)) (pm cv ctv : Value), bindArgs (PySem.W.kla_fn "<lambda>" q params body scope cl pm cv ctv) ⟨[], []⟩ = pure [])
    (hbody : ∀ (E : XK) (A : Around) (outer : List Env) (s : Shared) (H : Hp) (f c' : Addr), Room k (A.deeper (lamEnv X scope s.heap.objs.size f c')) → PEM (lamN X A outer s H E scope f c') (cA X.K) (Wf E) body mb)
    (hg : Gl X "_law_error" := by rfl) : PEM X (cA X.K) W (.Call (.Name "_law_error" p) [.Lambda params body scope lpos] [] pos) (fun r mu => errM wordL attL toldL (mb r mu)) :=
  by
  refine c_lamErr (Ng := N_L_law_error) (n := 5) (sm := sm_L_law_error) (mret := rm_L_law_error) (ok := fun cls => PySem.W.exmAny X.K cls ([1, 16, 18].map fun t => Value.ref ((cA X.K) t))) F ⟨rfl, rfl, rfl, by decide +kernel, rfl, by decide +kernel, by decide +kernel⟩ (F.bindsN fun _ _ _ _ _ _ us hl => match us, hl with | [_], _ => rfl) rfl rfl rfl rfl (by first | exact Or.inl rfl | exact Or.inr (Or.inl rfl)) rfl rfl Fc.gf__law_error TB hcode (by rw [hqual]; exact tab_hT hq) (fun p hp e => (tab_hu Fc.tu hq p hp e).trans hqual.symm) room L hdef rfl nobind hbody
    ?_ (fun C w hw => Fc.exm C (look_mem hw))
    (fun cdv s H a pn C d xs hL hr hp hd => (s_cons (s_set (i := 3) nd_L_law_error (c_lst (c_cons (c_callB (b_isx Fc.ki.wx hp hd (Fc.exk.ok C (LC.mem hL))) Fc.b_isinstance (c_cons (c_var 2) (c_cons (c_gcls Fc.gc_NotFit) c_nil))) (c_cons (c_callB (b_isx Fc.ki.wx hp hd (Fc.exk.ok C (LC.mem hL))) Fc.b_isinstance (c_cons (c_var 2) (c_cons (c_gcls Fc.gc_NotThere) c_nil))) (c_cons (c_callB (b_isx Fc.ki.wx hp hd (Fc.exk.ok C (LC.mem hL))) Fc.b_isinstance (c_cons (c_var 2) (c_cons (c_gcls Fc.gc_CannotBe) c_nil))) c_nil)))))
      (s_cons (s_set (i := 4) nd_L_law_error (c_lst (c_cons (c_callB (b_isx Fc.ki.wx hp hd (Fc.exk.ok C (LC.mem hL))) Fc.b_isinstance (c_cons (c_var 2) (c_cons (c_bty Fc.b_ValueError) c_nil))) (c_cons (c_callB (b_isx Fc.ki.wx hp hd (Fc.exk.ok C (LC.mem hL))) Fc.b_isinstance (c_cons (c_var 2) (c_cons (c_bty Fc.b_LookupError) c_nil))) (c_cons (c_callB (b_isx Fc.ki.wx hp hd (Fc.exk.ok C (LC.mem hL))) Fc.b_isinstance (c_cons (c_var 2) (c_cons (c_bty Fc.b_ArithmeticError) c_nil))) c_nil)))))
      (s_one (s_ret (c_lst (c_cons (c_if (c_pt (c_tand (c_tcmp (op_eqV (hu64H hr)) (c_var 3) (c_var 4)) (c_tand1 (c_tcmp (op_eqV (hu64H hr)) (c_count (c_var 3) c_bl) c_int)))) (c_callH (E := EF) G_L_law_class hL (hr.mono (by omega)) hp hd takesN0 Fc.gf__law_class Fc.kp__law_class (c_cons (c_var 2) c_nil)) c_str) (c_cons (c_callH (E := EF) G_L_law_has hL (hr.mono (by omega)) hp hd takesN0 Fc.gf__law_has Fc.kp__law_has (c_cons (c_var 2) c_nil)) c_nil))))))))
    (fun cdv s H => (s_ret (c_lst (c_cons c_str (c_cons (c_var 1) c_nil))))) sok (fun _ _ => rfl) hg
  intro cdv s H
  exact test3 ⟨rfl, by decide, .inl Fc.gc_NotFit⟩ ⟨rfl, by decide, .inl Fc.gc_NotThere⟩ ⟨rfl, by decide, .inl Fc.gc_CannotBe⟩
end
end K06

set_option Elab.async false
set_option linter.all false
set_option maxRecDepth 100000
set_option maxHeartbeats 4000000
namespace K06
open PySem PySem.Spec PyProof.Rows L2 CC LamX
section
variable {P : Program} {w : World} {K : PySem.W.Frag} {mg : Str → Option Value} {base : Heap}
/-! _law_odd -/
abbrev s_L_law_odd : Stmt := (top 52)
abbrev N_L_law_odd : List Str := ["well", "some"]
theorem nd_L_law_odd : N_L_law_odd.Nodup := by decide +kernel
abbrev P_L_law_odd : List Str := ["well"]
abbrev A_L_law_odd (K : PySem.W.Frag) : Addr := He.fAd K ("_law_odd", none)
noncomputable def b_L_law_odd : MS :=
    (seqS (asgS (lstM (consM (cM .non) (consM (cM (.bl true)) (consM (cM (.bl false)) (consM (cM (.int 0)) (consM (cM (.int 1)) (consM (u1 (fun _ => negV default) (cM (.int 1))) (consM (b2 powV (cM (.int 10)) (cM (.int 39))) (consM (cM (strL "")) (consM (cM (strL "a")) (consM (cM (strL "A")) (consM (cM (strL "hall")) (consM (cM (strL "Hall")) (consM (cM (strL "ab cd")) (consM (cM (strL "go a")) (consM (cM (strL "or")) (consM (cM (strL "a\n")) (consM (cM (strL "1")) nilM)))))))))))))))))) (gNameM 1))
    (seqS (asgS (b2 addV (vM 1) (lstM (consM (cM (strL "ninesigns")) (consM (cM (strL "hall yard")) (consM (tupM nilM) (consM (tupM (consM (cM .non) nilM)) (consM (tupM (consM (cM (strL "hall")) nilM)) (consM (tupM (consM (cM (strL "hall")) (consM (cM (strL "")) nilM))) (consM (tupM (consM (cM (strL "hall")) (consM (cM (strL "a")) nilM))) (consM (tupM (consM (cM (strL "a")) (consM (cM (strL "hall")) (consM (cM (strL "hall")) nilM)))) nilM)))))))))) (gNameM 1))
    (seqS (asgS (b2 addV (vM 1) (lstM (consM (lstM nilM) (consM (lstM (consM (cM (strL "hall")) nilM)) (consM (lstM (consM (cM (strL "hall")) (consM (cM (strL "")) nilM))) (consM dnewM (consM (dispM [((cM (strL "a")), (cM (.int 1)))]) (consM (tupM (consM (tupM nilM) nilM)) (consM (tupM (consM (lstM nilM) nilM)) (consM (tupM (consM (cM (strL "hall")) (consM (lstM nilM) nilM))) (consM (tupM (consM (cM (strL "")) (consM (cM (strL "hall")) (consM (cM (strL "hall")) nilM)))) (consM (tupM (consM (cM (.int 0)) (consM (cM (.int 1)) nilM))) nilM)))))))))))) (gNameM 1))
    (retS (b2 ixV (vM 1) (callM m_L_law_dip (consM (vM 0) (consM (fA lenV (consM (vM 1) nilM)) nilM))))))))
noncomputable def m0_L_law_odd : List Val → Store → R Val := defK 1 2 b_L_law_odd
noncomputable def m_L_law_odd : List Val → Store → R Val := finM m0_L_law_odd
theorem o_L_law_odd (Fc : Fac K mg) {fd : FuncData} (F : FunD K "_law_odd" "_law_odd" (defArgs s_L_law_odd) (defBody s_L_law_odd) (defScope s_L_law_odd) [] [] (A_L_law_odd K) fd) (G_L_law_dip : FnM P w K mg base (cA K) 1 (A_L_law_dip K) m_L_law_dip) : FnOk P w K mg base (L2N.CX P w) 2 (A_L_law_odd K) fd P_L_law_odd (SpM K (cA K) m0_L_law_odd) :=
  def_okO (N := N_L_law_odd) (ps := P_L_law_odd) (k := 1) (np := 1) (nn := 2) (mb := b_L_law_odd) F ⟨rfl, rfl, rfl, by decide +kernel, rfl, by decide +kernel, by decide +kernel⟩ rfl rfl fun cdv A outer s H E hr tk =>
      (s_cons (s_set (i := 1) nd_L_law_odd (c_lst (c_cons c_non (c_cons c_bl (c_cons c_bl (c_cons c_int (c_cons c_int (c_cons (c_un un_negV c_int) (c_cons (c_bin op_powV c_int c_int) (c_cons c_str (c_cons c_str (c_cons c_str (c_cons c_str (c_cons c_str (c_cons c_str (c_cons c_str (c_cons c_str (c_cons c_str (c_cons c_str c_nil)))))))))))))))))))
      (s_cons (s_set (i := 1) nd_L_law_odd (c_bin op_addV (c_var 1) (c_lst (c_cons c_str (c_cons c_str (c_cons (c_tup c_nil) (c_cons (c_tup (c_cons c_non c_nil)) (c_cons (c_tup (c_cons c_str c_nil)) (c_cons (c_tup (c_cons c_str (c_cons c_str c_nil))) (c_cons (c_tup (c_cons c_str (c_cons c_str c_nil))) (c_cons (c_tup (c_cons c_str (c_cons c_str (c_cons c_str c_nil)))) c_nil)))))))))))
      (s_cons (s_set (i := 1) nd_L_law_odd (c_bin op_addV (c_var 1) (c_lst (c_cons (c_lst c_nil) (c_cons (c_lst (c_cons c_str c_nil)) (c_cons (c_lst (c_cons c_str (c_cons c_str c_nil))) (c_cons c_dnew (c_cons (c_disp (mps := [((cM (strL "a")), (cM (.int 1)))]) (dps_cons c_str c_int dps_nil)) (c_cons (c_tup (c_cons (c_tup c_nil) c_nil)) (c_cons (c_tup (c_cons (c_lst c_nil) c_nil)) (c_cons (c_tup (c_cons c_str (c_cons (c_lst c_nil) c_nil))) (c_cons (c_tup (c_cons c_str (c_cons c_str (c_cons c_str c_nil)))) (c_cons (c_tup (c_cons c_int (c_cons c_int c_nil))) c_nil)))))))))))))
      (s_one (s_ret (c_ix (hu200 hr) (c_var 1) (c_call G_L_law_dip Fc.gf__law_dip Fc.kp__law_dip (hr.mono (by decide)) tk (c_cons (c_var 0) (c_cons (c_callB b_len Fc.b_len (c_cons (c_var 1) c_nil)) c_nil)))))))))
theorem ok_L_law_odd (Fc : Fac K mg) {fd : FuncData} (F : FunD K "_law_odd" "_law_odd" (defArgs s_L_law_odd) (defBody s_L_law_odd) (defScope s_L_law_odd) [] [] (A_L_law_odd K) fd) (G_L_law_dip : FnM P w K mg base (cA K) 1 (A_L_law_dip K) m_L_law_dip) : FnM P w K mg base (cA K) 2 (A_L_law_odd K) m_L_law_odd := (FnM.of (o_L_law_odd Fc F G_L_law_dip) (F.bindsN fun _ _ _ _ _ _ us hl => match us, hl with | [_], _ => rfl)).fin
/-! _law_due -/
abbrev s_L_law_due : Stmt := (top 53)
abbrev N_L_law_due : List Str := ["parts", "cell", "tread", "goal"]
theorem nd_L_law_due : N_L_law_due.Nodup := by decide +kernel
abbrev P_L_law_due : List Str := ["parts", "cell", "tread"]
abbrev A_L_law_due (K : PySem.W.Frag) : Addr := He.fAd K ("_law_due", none)
noncomputable def b_L_law_due : MS :=
    (seqS (ifS (tB (b2 ninW2 (vM 1) (fA listV (consM (b2 ixV (vM 0) (cM (.int 0))) nilM)))) (retS (lstM (consM (cM (strL "room")) (consM (vM 1) nilM)))) nextS)
    (seqS (asgS (ifM (tstM (fA (isiV kt ic) (consM (vM 2) (consM (cM (.ty "str")) nilM)))) (callM m_L_law_end (consM (callM m_L_law_ways (consM (vM 0) nilM)) (consM (vM 1) (consM (vM 2) nilM)))) (cM .non)) (gNameM 3))
    (retS (ifM (tB (b2 isNV (vM 3) (cM .non))) (lstM (consM (cM (strL "walk")) (consM (vM 2) nilM))) (lstM (consM (cM (strL "told")) (consM (lstM (consM (vM 3) (consM (tupM (consM (vM 1) (consM (callM m_L_law_short (consM (vM 2) nilM)) nilM))) nilM))) nilM)))))))
noncomputable def m0_L_law_due : List Val → Store → R Val := defK 3 4 b_L_law_due
noncomputable def m_L_law_due : List Val → Store → R Val := finM m0_L_law_due
theorem o_L_law_due (Fc : Fac K mg) {fd : FuncData} (F : FunD K "_law_due" "_law_due" (defArgs s_L_law_due) (defBody s_L_law_due) (defScope s_L_law_due) [] [] (A_L_law_due K) fd) (G_L_law_end : FnM P w K mg base (cA K) 1 (A_L_law_end K) m_L_law_end) (G_L_law_ways : FnM P w K mg base (cA K) 1 (A_L_law_ways K) m_L_law_ways) (G_L_law_short : FnM P w K mg base (cA K) 2 (A_L_law_short K) m_L_law_short) : FnOk P w K mg base (L2N.CX P w) 3 (A_L_law_due K) fd P_L_law_due (SpM K (cA K) m0_L_law_due) :=
  def_okO (N := N_L_law_due) (ps := P_L_law_due) (k := 2) (np := 3) (nn := 4) (mb := b_L_law_due) F ⟨rfl, rfl, rfl, by decide +kernel, rfl, by decide +kernel, by decide +kernel⟩ rfl rfl fun cdv A outer s H E hr tk =>
      (s_cons (s_if (c_tcmp (op_ninW (hu200 hr)) (c_var 1) (c_callTy b_list Fc.b_list (c_cons (c_ix (hu200 hr) (c_var 0) c_int) c_nil))) (s_one (s_ret (c_lst (c_cons c_str (c_cons (c_var 1) c_nil))))) s_nil)
      (s_cons (s_set (i := 3) nd_L_law_due (c_if (c_test (c_callB (b_isi Fc.ki) Fc.b_isinstance (c_cons (c_var 2) (c_cons (c_bty Fc.b_str) c_nil)))) (c_call G_L_law_end Fc.gf__law_end Fc.kp__law_end (hr.mono (by decide)) tk (c_cons (c_call G_L_law_ways Fc.gf__law_ways Fc.kp__law_ways (hr.mono (by decide)) tk (c_cons (c_var 0) c_nil)) (c_cons (c_var 1) (c_cons (c_var 2) c_nil)))) c_non))
      (s_one (s_ret (c_if (c_tcmp op_isNV (c_var 3) c_non) (c_lst (c_cons c_str (c_cons (c_var 2) c_nil))) (c_lst (c_cons c_str (c_cons (c_lst (c_cons (c_var 3) (c_cons (c_tup (c_cons (c_var 1) (c_cons (c_call G_L_law_short Fc.gf__law_short Fc.kp__law_short (hr.mono (by decide)) tk (c_cons (c_var 2) c_nil)) c_nil))) c_nil))) c_nil))))))))
theorem ok_L_law_due (Fc : Fac K mg) {fd : FuncData} (F : FunD K "_law_due" "_law_due" (defArgs s_L_law_due) (defBody s_L_law_due) (defScope s_L_law_due) [] [] (A_L_law_due K) fd) (G_L_law_end : FnM P w K mg base (cA K) 1 (A_L_law_end K) m_L_law_end) (G_L_law_ways : FnM P w K mg base (cA K) 1 (A_L_law_ways K) m_L_law_ways) (G_L_law_short : FnM P w K mg base (cA K) 2 (A_L_law_short K) m_L_law_short) : FnM P w K mg base (cA K) 3 (A_L_law_due K) m_L_law_due := (FnM.of (o_L_law_due Fc F G_L_law_end G_L_law_ways G_L_law_short) (F.bindsN fun _ _ _ _ _ _ us hl => match us, hl with | [_, _, _], _ => rfl)).fin
end
end K06

set_option Elab.async false
set_option linter.all false
set_option maxRecDepth 100000
set_option maxHeartbeats 4000000
namespace K06
open PySem PySem.Spec PyProof.Rows L2 CC LamX
section
variable {P : Program} {w : World} {K : PySem.W.Frag} {mg : Str → Option Value} {base : Heap}
/-! _law_right -/
abbrev s_L_law_right : Stmt := (top 54)
abbrev N_L_law_right : List Str := ["well", "parts", "home", "ways", "turn", "cell", "tread", "due", "told", "way", "at"]
theorem nd_L_law_right : N_L_law_right.Nodup := by decide +kernel
abbrev P_L_law_right : List Str := ["well"]
abbrev A_L_law_right (K : PySem.W.Frag) : Addr := He.fAd K ("_law_right", none)
noncomputable def b_L_law_right : MS :=
    (seqS (asgS (callM m_L_law_parts (consM (vM 0) (consM (cM (.int 4)) (consM (cM (.int 4)) nilM)))) (gNameM 1))
    (seqS (asgS (tupM (consM (callM (finM (mkR 0 m_House_init)) (consM (b2 ixV (vM 1) (cM (.int 0))) (consM (b2 ixV (vM 1) (cM (.int 1))) nilM))) (consM (callM m_L_law_ways (consM (vM 1) nilM)) nilM))) (gPc [2, 3] (tupC 2)))
    (seqS (forS (itR1 (consM (cM (.int 4)) nilM)) (gNameM 4) (seqS (asgS (callM m_L_law_one (consM (vM 0) (consM (b2 ixV (vM 1) (cM (.int 0))) nilM))) (gNameM 5))
    (seqS (asgS (callM m_L_law_walk_from (consM (vM 0) (consM (vM 3) (consM (vM 5) (consM (cM (.int 14)) nilM))))) (gNameM 6))
    (seqS (parS 9 10 (consM (callM m_L_law_dip (consM (vM 0) (consM (cM (.int 6)) nilM))) (consM (callM m_L_law_dip (consM (vM 0) (consM (b2 addV (fA lenV (consM (vM 6) nilM)) (cM (.int 1))) nilM))) nilM)))
    (seqS (ifS (tB (b2 eqV (vM 9) (cM (.int 0)))) (asgS (b2 addV (b2 addV (slM slV (vM 6) noP (inP (vM 10))) (callM m_L_law_one (consM (vM 0) (consM (b2 addV (fA sortedV (consM (vM 3) nilM)) (lstM (consM (cM (strL "q")) (consM (cM (strL "Q")) (consM (cM (strL " ")) (consM (cM (strL "1")) nilM)))))) nilM)))) (slM slV (vM 6) (inP (vM 10)) noP)) (gNameM 6)) nextS)
    (seqS (ifS (tB (b2 eqV (vM 9) (cM (.int 1)))) (asgS (tupM (consM (callM m_L_law_one (consM (vM 0) (consM (lstM (consM (callM m_L_law_odd (consM (vM 0) nilM)) (consM (vM 6) nilM))) nilM))) (consM (callM m_L_law_one (consM (vM 0) (consM (lstM (consM (callM m_L_law_odd (consM (vM 0) nilM)) (consM (vM 5) nilM))) nilM))) nilM))) (gPc [6, 5] (tupC 2))) nextS)
    (seqS (asgS (callM m_L_law_due (consM (vM 1) (consM (vM 5) (consM (vM 6) nilM)))) (gNameM 7))
    (seqS (asgS (fun r mu => errM wordL attL toldL ((lstM (consM (methKM 0 2 (fun as => finM m0_House_end (match as with | x :: zs => x :: zs.reverse | [] => [])) (vM 2) (consM (vM 6) (consM (vM 5) nilM))) (consM (methKM 0 2 (fun as => finM m0_House_left (match as with | x :: zs => x :: zs.reverse | [] => [])) (vM 2) (consM (vM 6) (consM (vM 5) nilM))) nilM))) r mu)) (gNameM 8))
    (ifS (orT (tB (b2 neV (fA reprX (consM (vM 8) nilM)) (fA reprX (consM (vM 7) nilM)))) (tB (b2 neV (fA reprX (consM (b2 ixV (fun r mu => errM wordL attL toldL ((methM 0 m_House_left (vM 2) (consM (vM 5) (consM (vM 6) nilM))) r mu)) (cM (.int 0))) nilM)) (fA reprX (consM (b2 ixV (vM 7) (cM (.int 0))) nilM))))) (retS (cM (.bl false))) nextS)))))))))
    (retS (cM (.bl true))))))
noncomputable def m0_L_law_right : List Val → Store → R Val := defK 1 11 b_L_law_right
noncomputable def m_L_law_right : List Val → Store → R Val := finM m0_L_law_right
theorem ok_L_law_right (Fc : Fac K mg) {fd : FuncData} (F : FunD K "_law_right" "_law_right" (defArgs s_L_law_right) (defBody s_L_law_right) (defScope s_L_law_right) [] [] (A_L_law_right K) fd) (G_L_law_parts : FnM P w K mg base (cA K) 4 (A_L_law_parts K) m_L_law_parts) (G_L_law_ways : FnM P w K mg base (cA K) 1 (A_L_law_ways K) m_L_law_ways) (G_House_init : FnM P w K mg base (cA K) 4 (A_House_init K) m_House_init) (G_L_law_one : FnM P w K mg base (cA K) 2 (A_L_law_one K) m_L_law_one) (G_L_law_walk_from : FnM P w K mg base (cA K) 3 (A_L_law_walk_from K) m_L_law_walk_from) (G_L_law_dip : FnM P w K mg base (cA K) 1 (A_L_law_dip K) m_L_law_dip) (G_L_law_odd : FnM P w K mg base (cA K) 2 (A_L_law_odd K) m_L_law_odd) (G_L_law_due : FnM P w K mg base (cA K) 3 (A_L_law_due K) m_L_law_due) (G_House_left : FnM P w K mg base (cA K) 5 (A_House_left K) m_House_left) {fdk_House_left : FuncData} (OK_House_left : FnOk P w K mg base (L2N.CX P w) 5 (A_House_left K) fdk_House_left P_House_left (SpM K (cA K) (finM m0_House_left))) (kwm_House_left : KBn K fdk_House_left P_House_left 1 ["passes", "room"] (fun us ws => us ++ ws.reverse) (fun vs zs => vs ++ zs.reverse)) {fdk_House_end : FuncData} (OK_House_end : FnOk P w K mg base (L2N.CX P w) 4 (A_House_end K) fdk_House_end P_House_end (SpM K (cA K) (finM m0_House_end))) (kwm_House_end : KBn K fdk_House_end P_House_end 1 ["passes", "room"] (fun us ws => us ++ ws.reverse) (fun vs zs => vs ++ zs.reverse)) (tb : ∀ p ∈ tfs, TabB base mg (He.cT K p).1 (He.cT K p).2) {fd_L_law_error : FuncData} (F_L_law_error : FunD K "_law_error" "_law_error" (defArgs s_L_law_error) (defBody s_L_law_error) (defScope s_L_law_error) [] [] (A_L_law_error K) fd_L_law_error) (G_L_law_class : FnMH P w K mg base (cA K) 1 (A_L_law_class K) (LC WL) m_L_law_class) (G_L_law_has : FnMH P w K mg base (cA K) 1 (A_L_law_has K) (LC WL) m_L_law_has) (sok : SuiteOk wordL attL sm_L_law_error 5) : FnG P w K mg base (cA K) 8 (A_L_law_right K) m_L_law_right :=
  (def_okG (N := N_L_law_right) (ps := P_L_law_right) (k := 7) (np := 1) (nn := 11) (mb := b_L_law_right) F ⟨rfl, rfl, rfl, by decide +kernel, rfl, by decide +kernel, by decide +kernel⟩ (F.bindsN fun _ _ _ _ _ _ us hl => match us, hl with | [_], _ => rfl) rfl rfl fun cdv hcdv A outer s H E hr hgd tk =>
      (s_cons (s_set (i := 1) nd_L_law_right (c_call G_L_law_parts Fc.gf__law_parts Fc.kp__law_parts (hr.mono (by decide)) tk (c_cons (c_var 0) (c_cons c_int (c_cons c_int c_nil)))))
      (s_cons (s_asg (c_tup (c_cons (c_make leavesF Fc.mk_House G_House_init Fc.gc_House (hr.mono (by decide)) tk (c_cons (c_ix (hu200 hr) (c_var 1) c_int) (c_cons (c_ix (hu200 hr) (c_var 1) c_int) c_nil))) (c_cons (c_call G_L_law_ways Fc.gf__law_ways Fc.kp__law_ways (hr.mono (by decide)) tk (c_cons (c_var 1) c_nil)) c_nil))) (g_of_pc (pc_tup nd_L_law_right rfl (.cons (.cons .nil)))))
      (s_cons (s_for (passes_of rfl) rfl (i_rng1 Fc.b_range (c_cons c_int c_nil)) (g_name nd_L_law_right) (s_cons (s_set (i := 5) nd_L_law_right (c_call G_L_law_one Fc.gf__law_one Fc.kp__law_one (hr.mono (by decide)) tk (c_cons (c_var 0) (c_cons (c_ix (hu200 hr) (c_var 1) c_int) c_nil))))
      (s_cons (s_set (i := 6) nd_L_law_right (c_call G_L_law_walk_from Fc.gf__law_walk_from Fc.kp__law_walk_from (hr.mono (by decide)) tk (c_cons (c_var 0) (c_cons (c_var 3) (c_cons (c_var 5) (c_cons c_int c_nil))))))
      (s_cons (s_par (i := 9) (j := 10) rfl nd_L_law_right (c_cons (c_call G_L_law_dip Fc.gf__law_dip Fc.kp__law_dip (hr.mono (by decide)) tk (c_cons (c_var 0) (c_cons c_int c_nil))) (c_cons (c_call G_L_law_dip Fc.gf__law_dip Fc.kp__law_dip (hr.mono (by decide)) tk (c_cons (c_var 0) (c_cons (c_bin op_addV (c_callB b_len Fc.b_len (c_cons (c_var 6) c_nil)) c_int) c_nil))) c_nil)))
      (s_cons (s_if (c_tcmp (op_eqV (hu64 hr)) (c_var 9) c_int) (s_one (s_set (i := 6) nd_L_law_right (c_bin op_addV (c_bin op_addV (c_sl (c_var 6) c_noP (c_inP (c_var 10))) (c_call G_L_law_one Fc.gf__law_one Fc.kp__law_one (hr.mono (by decide)) tk (c_cons (c_var 0) (c_cons (c_bin op_addV (c_callB (b_sorted rfl) Fc.b_sorted (c_cons (c_var 3) c_nil)) (c_lst (c_cons c_str (c_cons c_str (c_cons c_str (c_cons c_str c_nil)))))) c_nil)))) (c_sl (c_var 6) (c_inP (c_var 10)) c_noP)))) s_nil)
      (s_cons (s_if (c_tcmp (op_eqV (hu64 hr)) (c_var 9) c_int) (s_one (s_asg (c_tup (c_cons (c_call G_L_law_one Fc.gf__law_one Fc.kp__law_one (hr.mono (by decide)) tk (c_cons (c_var 0) (c_cons (c_lst (c_cons (c_call G_L_law_odd Fc.gf__law_odd Fc.kp__law_odd (hr.mono (by decide)) tk (c_cons (c_var 0) c_nil)) (c_cons (c_var 6) c_nil))) c_nil))) (c_cons (c_call G_L_law_one Fc.gf__law_one Fc.kp__law_one (hr.mono (by decide)) tk (c_cons (c_var 0) (c_cons (c_lst (c_cons (c_call G_L_law_odd Fc.gf__law_odd Fc.kp__law_odd (hr.mono (by decide)) tk (c_cons (c_var 0) c_nil)) (c_cons (c_var 5) c_nil))) c_nil))) c_nil))) (g_of_pc (pc_tup nd_L_law_right rfl (.cons (.cons .nil)))))) s_nil)
      (s_cons (s_set (i := 7) nd_L_law_right (c_call G_L_law_due Fc.gf__law_due Fc.kp__law_due (hr.mono (by decide)) tk (c_cons (c_var 1) (c_cons (c_var 5) (c_cons (c_var 6) c_nil)))))
      (s_cons (s_set (i := 8) nd_L_law_right (lamErr (k := 5) tk Fc F_L_law_error G_L_law_class G_L_law_has sok q0_in (tb q0 q0_in) (by rw [← hcdv]; exact code_of F) (by rfl) (hr.mono (by decide)) (lamS_by (sc := defScope s_L_law_right) (by decide +kernel)) rfl (fun _ _ _ _ _ => rfl) (fun E A outer s H f c' hr => (c_lst (c_cons (c_methK (ks := ["passes", "room"]) (gp := fun l => l.reverse) OK_House_end Fc.cl_House Fc.me_House_end (by decide +kernel) (hr.mono (by decide)) lam_takes kwm_House_end (fun h => h.reverse) (c_var 2) (k_cons (c_var 6) (k_cons (c_var 5) k_nil))) (c_cons (c_methK (ks := ["passes", "room"]) (gp := fun l => l.reverse) OK_House_left Fc.cl_House Fc.me_House_left (by decide +kernel) (hr.mono (by decide)) lam_takes kwm_House_left (fun h => h.reverse) (c_var 2) (k_cons (c_var 6) (k_cons (c_var 5) k_nil))) c_nil))))))
      (s_one (s_if (c_pt (c_tor (c_tcmp (op_neV (hu64 hr)) (c_callB (b_reprX Fc.sys hgd (hu64 hr)) Fc.b_repr (c_cons (c_var 8) c_nil)) (c_callB (b_reprX Fc.sys hgd (hu64 hr)) Fc.b_repr (c_cons (c_var 7) c_nil))) (c_tor1 (c_tcmp (op_neV (hu64 hr)) (c_callB (b_reprX Fc.sys hgd (hu64 hr)) Fc.b_repr (c_cons (c_ix (hu200 hr) (lamErr (k := 5) tk Fc F_L_law_error G_L_law_class G_L_law_has sok q0_in (tb q0 q0_in) (by rw [← hcdv]; exact code_of F) (by rfl) (hr.mono (by decide)) (lamS_by (sc := defScope s_L_law_right) (by decide +kernel)) rfl (fun _ _ _ _ _ => rfl) (fun E A outer s H f c' hr => (c_meth G_House_left Fc.cl_House Fc.me_House_left (by decide +kernel) (hr.mono (by decide)) lam_takes (c_var 2) (c_cons (c_var 5) (c_cons (c_var 6) c_nil))))) c_int) c_nil)) (c_callB (b_reprX Fc.sys hgd (hu64 hr)) Fc.b_repr (c_cons (c_ix (hu200 hr) (c_var 7) c_int) c_nil)))))) (s_one (s_ret c_bl)) s_nil))))))))))
      (s_one (s_ret c_bl)))))).fin
end
end K06

set_option Elab.async false
set_option linter.all false
set_option maxRecDepth 100000
set_option maxHeartbeats 4000000
namespace K06
open PySem PySem.Spec PyProof.Rows L2 CC LamX
section
variable {P : Program} {w : World} {K : PySem.W.Frag} {mg : Str → Option Value} {base : Heap}
/-! law -/
abbrev s_law : Stmt := (top 55)
abbrev N_law : List Str := ["script", "home", "rows", "cell", "tread", "goal", "left", "turn"]
theorem nd_law : N_law.Nodup := by decide +kernel
abbrev P_law : List Str := ["script"]
abbrev A_law (K : PySem.W.Frag) : Addr := He.fAd K ("law", none)
noncomputable def b_law : MS :=
    (seqS (asgS (callM (finM (mkR 0 m_House_init)) (consM (tupM (consM (cM (strL "hall")) (consM (cM (strL "yard")) nilM))) (consM (tupM (consM (tupM (consM (cM (strL "a")) (consM (cM (strL "hall")) (consM (cM (strL "yard")) nilM)))) (consM (tupM (consM (cM (strL "b")) (consM (cM (strL "hall")) (consM (cM (strL "yard")) nilM)))) (consM (tupM (consM (cM (strL "c")) (consM (cM (strL "hall")) (consM (cM (strL "hall")) nilM)))) nilM)))) nilM))) (gNameM 1))
    (seqS (asgS (lstM (consM (lstM (consM (cM (strL "hall")) (consM (cM (strL "")) (consM (cM (strL "hall")) (consM (cM (strL "")) nilM))))) (consM (lstM (consM (cM (strL "yard")) (consM (cM (strL "Aa")) (consM (cM (strL "yard")) (consM (cM (strL "")) nilM))))) (consM (lstM (consM (cM (strL "hall")) (consM (cM (strL "cCcC")) (consM (cM (strL "hall")) (consM (cM (strL "")) nilM))))) (consM (lstM (consM (cM (strL "hall")) (consM (cM (strL "aBbA")) (consM (cM (strL "hall")) (consM (cM (strL "")) nilM))))) nilM))))) (gNameM 2))
    (seqS (asgS (b2 addV (vM 2) (lstM (consM (lstM (consM (cM (strL "yard")) (consM (cM (strL "AcCb")) (consM (cM (strL "yard")) (consM (cM (strL "Ab")) nilM))))) (consM (lstM (consM (cM (strL "hall")) (consM (cM (strL "a")) (consM (cM (strL "yard")) (consM (cM (strL "a")) nilM))))) (consM (lstM (consM (cM (strL "hall")) (consM (cM (strL "aBcbA")) (consM (cM (strL "hall")) (consM (cM (strL "aBcbA")) nilM))))) nilM))))) (gNameM 2))
    (seqS (forS (itL (vM 2)) (gPc [3, 4, 5, 6] (lstC 4)) (ifS (tB (b2 neV (lstM (consM (methM 0 m_House_end (vM 1) (consM (vM 3) (consM (vM 4) nilM))) (consM (methM 0 m_House_left (vM 1) (consM (vM 3) (consM (vM 4) nilM))) nilM))) (lstM (consM (vM 5) (consM (tupM (consM (vM 3) (consM (vM 6) nilM))) nilM))))) (retS (cM (.bl false))) nextS))
    (retS (fA allV (consM (lcM (itR1 (consM (fA maxV (consM (cM (.int 2)) (consM (fA minV (consM (fA lenV (consM (vM 0) nilM)) (consM (cM (.int 4)) nilM))) nilM))) nilM)) [7] oneC yesT (callM m_L_law_right (consM (callM m_L_law_well (consM (vM 0) (consM (vM 7) nilM))) nilM)) [7]) nilM)))))))
noncomputable def m0_law : List Val → Store → R Val := defK 1 8 b_law
noncomputable def m_law : List Val → Store → R Val := finM m0_law
theorem ok_law (Fc : Fac K mg) {fd : FuncData} (F : FunD K "law" "law" (defArgs s_law) (defBody s_law) (defScope s_law) [] [] (A_law K) fd) (G_House_init : FnM P w K mg base (cA K) 4 (A_House_init K) m_House_init) (G_House_left : FnM P w K mg base (cA K) 5 (A_House_left K) m_House_left) (G_House_end : FnM P w K mg base (cA K) 4 (A_House_end K) m_House_end) (G_L_law_right : FnG P w K mg base (cA K) 8 (A_L_law_right K) m_L_law_right) (G_L_law_well : FnM P w K mg base (cA K) 1 (A_L_law_well K) m_L_law_well) : FnG P w K mg base (cA K) 9 (A_law K) m_law :=
  (def_okG (N := N_law) (ps := P_law) (k := 8) (np := 1) (nn := 8) (mb := b_law) F ⟨rfl, rfl, rfl, by decide +kernel, rfl, by decide +kernel, by decide +kernel⟩ (F.bindsN fun _ _ _ _ _ _ us hl => match us, hl with | [_], _ => rfl) rfl rfl fun cdv hcdv A outer s H E hr hgd tk =>
      (s_cons (s_set (i := 1) nd_law (c_make leavesF Fc.mk_House G_House_init Fc.gc_House (hr.mono (by decide)) tk (c_cons (c_tup (c_cons c_str (c_cons c_str c_nil))) (c_cons (c_tup (c_cons (c_tup (c_cons c_str (c_cons c_str (c_cons c_str c_nil)))) (c_cons (c_tup (c_cons c_str (c_cons c_str (c_cons c_str c_nil)))) (c_cons (c_tup (c_cons c_str (c_cons c_str (c_cons c_str c_nil)))) c_nil)))) c_nil))))
      (s_cons (s_set (i := 2) nd_law (c_lst (c_cons (c_lst (c_cons c_str (c_cons c_str (c_cons c_str (c_cons c_str c_nil))))) (c_cons (c_lst (c_cons c_str (c_cons c_str (c_cons c_str (c_cons c_str c_nil))))) (c_cons (c_lst (c_cons c_str (c_cons c_str (c_cons c_str (c_cons c_str c_nil))))) (c_cons (c_lst (c_cons c_str (c_cons c_str (c_cons c_str (c_cons c_str c_nil))))) c_nil))))))
      (s_cons (s_set (i := 2) nd_law (c_bin op_addV (c_var 2) (c_lst (c_cons (c_lst (c_cons c_str (c_cons c_str (c_cons c_str (c_cons c_str c_nil))))) (c_cons (c_lst (c_cons c_str (c_cons c_str (c_cons c_str (c_cons c_str c_nil))))) (c_cons (c_lst (c_cons c_str (c_cons c_str (c_cons c_str (c_cons c_str c_nil))))) c_nil))))))
      (s_cons (s_for (passes_of rfl) rfl (i_list (c_var 2)) (g_of_pc (pc_lst nd_law rfl (.cons (.cons (.cons (.cons .nil)))))) (s_one (s_if (c_tcmp (op_neV (hu64 hr)) (c_lst (c_cons (c_meth G_House_end Fc.cl_House Fc.me_House_end (by decide +kernel) (hr.mono (by decide)) tk (c_var 1) (c_cons (c_var 3) (c_cons (c_var 4) c_nil))) (c_cons (c_meth G_House_left Fc.cl_House Fc.me_House_left (by decide +kernel) (hr.mono (by decide)) tk (c_var 1) (c_cons (c_var 3) (c_cons (c_var 4) c_nil))) c_nil))) (c_lst (c_cons (c_var 5) (c_cons (c_tup (c_cons (c_var 3) (c_cons (c_var 6) c_nil))) c_nil)))) (s_one (s_ret c_bl)) s_nil)))
      (s_one (s_ret (c_callB (b_all rfl) Fc.b_all (c_cons (c_lc [("turn", 7)] rfl nd_law (i_rng1 Fc.b_range (c_cons (c_callB (b_max rfl) Fc.b_max (c_cons c_int (c_cons (c_callB (b_min rfl) Fc.b_min (c_cons (c_callB b_len Fc.b_len (c_cons (c_var 0) c_nil)) (c_cons c_int c_nil))) c_nil))) c_nil)) (fun _ _ _ _ _ => (pc_name nd_law)) (fun _ _ _ _ _ => t_nil) (fun _ _ _ _ _ => (c_callG (E := EF) G_L_law_right hgd Fc.gf__law_right Fc.kp__law_right (hr.mono (by decide)) takesN0 (c_cons (c_call (E := EF) G_L_law_well Fc.gf__law_well Fc.kp__law_well (hr.mono (by decide)) takesN0 (c_cons (c_var 0) (c_cons (c_var 7) c_nil))) c_nil))) (blkOk_by (N := N_law) (sc := (defScope (top 55))) (by decide +kernel))) c_nil))))))))).fin
end
end K06

set_option Elab.async false
set_option linter.all false
set_option maxRecDepth 100000
set_option maxHeartbeats 0
namespace K06
open PySem PySem.Spec PyProof.Rows L2 CC LamX
def exs : List (PySem.W.Frag → Bool) := [
  fun K => (He.Fa.free "ArithmeticError").ok K,
  fun K => (He.Fa.free "LookupError").ok K,
  fun K => (He.Fa.free "ValueError").ok K,
  fun K => (He.Fa.free "abs").ok K,
  fun K => (He.Fa.free "all").ok K,
  fun K => (He.Fa.free "enumerate").ok K,
  fun K => (He.Fa.free "int").ok K,
  fun K => (He.Fa.free "isinstance").ok K,
  fun K => (He.Fa.free "len").ok K,
  fun K => (He.Fa.free "list").ok K,
  fun K => (He.Fa.free "max").ok K,
  fun K => (He.Fa.free "min").ok K,
  fun K => (He.Fa.free "range").ok K,
  fun K => (He.Fa.free "repr").ok K,
  fun K => (He.Fa.free "sorted").ok K,
  fun K => (He.Fa.free "str").ok K,
  fun K => (He.Fa.free "tuple").ok K,
  fun K => (He.Fa.str "LETTERS" "abcdefghijklmnopqrstuvwxyz").ok K,
  fun K => (He.Fa.int "MOST_DOORS" 5).ok K,
  fun K => (He.Fa.int "MOST_LETTERS" 8).ok K,
  fun K => (He.Fa.int "MOST_ROOMS" 4).ok K,
  fun K => (He.Fa.glo "_law_class").ok K,
  fun K => (He.Fa.keep "_law_class").ok K,
  fun K => (He.Fa.glo "_law_dip").ok K,
  fun K => (He.Fa.keep "_law_dip").ok K,
  fun K => (He.Fa.glo "_law_due").ok K,
  fun K => (He.Fa.keep "_law_due").ok K,
  fun K => (He.Fa.glo "_law_end").ok K,
  fun K => (He.Fa.keep "_law_end").ok K,
  fun K => (He.Fa.glo "_law_error").ok K,
  fun K => (He.Fa.keep "_law_error").ok K,
  fun K => (He.Fa.glo "_law_has").ok K,
  fun K => (He.Fa.keep "_law_has").ok K,
  fun K => (He.Fa.glo "_law_odd").ok K,
  fun K => (He.Fa.keep "_law_odd").ok K,
  fun K => (He.Fa.glo "_law_one").ok K,
  fun K => (He.Fa.keep "_law_one").ok K,
  fun K => (He.Fa.glo "_law_other").ok K,
  fun K => (He.Fa.keep "_law_other").ok K,
  fun K => (He.Fa.glo "_law_parts").ok K,
  fun K => (He.Fa.keep "_law_parts").ok K,
  fun K => (He.Fa.glo "_law_right").ok K,
  fun K => (He.Fa.keep "_law_right").ok K,
  fun K => (He.Fa.glo "_law_short").ok K,
  fun K => (He.Fa.keep "_law_short").ok K,
  fun K => (He.Fa.glo "_law_walk_from").ok K,
  fun K => (He.Fa.keep "_law_walk_from").ok K,
  fun K => (He.Fa.glo "_law_ways").ok K,
  fun K => (He.Fa.keep "_law_ways").ok K,
  fun K => (He.Fa.glo "_law_well").ok K,
  fun K => (He.Fa.keep "_law_well").ok K,
  fun K => (He.Fa.glo "_law_words").ok K,
  fun K => (He.Fa.keep "_law_words").ok K,
  fun K => (He.Fa.glo "is_door").ok K,
  fun K => (He.Fa.keep "is_door").ok K,
  fun K => (He.Fa.glo "is_letter").ok K,
  fun K => (He.Fa.keep "is_letter").ok K,
  fun K => (He.Fa.glo "is_name").ok K,
  fun K => (He.Fa.keep "is_name").ok K,
  fun K => (He.Fa.glo "law").ok K,
  fun K => (He.Fa.keep "law").ok K,
  fun K => (He.Fa.glo "taken_in").ok K,
  fun K => (He.Fa.keep "taken_in").ok K,
  fun K => (He.Fa.glo "undo").ok K,
  fun K => (He.Fa.keep "undo").ok K,
  fun K => (He.Fa.glo "wrong_door").ok K,
  fun K => (He.Fa.keep "wrong_door").ok K,
  fun K => (He.Fa.glo "wrong_room").ok K,
  fun K => (He.Fa.keep "wrong_room").ok K,
  fun K => (He.Fa.glo "CannotBe").ok K,
  fun K => (He.Fa.glo "House").ok K,
  fun K => (He.Fa.glo "InvalidCourse").ok K,
  fun K => (He.Fa.glo "InvalidCourses").ok K,
  fun K => (He.Fa.glo "InvalidDoor").ok K,
  fun K => (He.Fa.glo "InvalidDoors").ok K,
  fun K => (He.Fa.glo "InvalidNumber").ok K,
  fun K => (He.Fa.glo "InvalidPrograms").ok K,
  fun K => (He.Fa.glo "InvalidRoom").ok K,
  fun K => (He.Fa.glo "InvalidRooms").ok K,
  fun K => (He.Fa.glo "InvalidText").ok K,
  fun K => (He.Fa.glo "InvalidWalk").ok K,
  fun K => (He.Fa.glo "NotAHouse").ok K,
  fun K => (He.Fa.glo "NotAPlan").ok K,
  fun K => (He.Fa.glo "NotAProgram").ok K,
  fun K => (He.Fa.glo "NotCourses").ok K,
  fun K => (He.Fa.glo "NotFit").ok K,
  fun K => (He.Fa.glo "NotThere").ok K,
  fun K => (He.Fa.glo "OtherHouse").ok K,
  fun K => (He.Fa.glo "Unjoined").ok K,
  fun K => (He.Fa.glo "UnknownProgram").ok K,
  fun K => (He.Fa.cls "House").ok K,
  fun K => (He.Fa.mkr "House").ok K,
  fun K => kiB (cA K) ktL icL K,
  fun K => excB K "InvalidRooms" 1,
  fun K => excB K "InvalidDoors" 1,
  fun K => excB K "InvalidRoom" 0,
  fun K => excB K "InvalidWalk" 0,
  fun K => exksB (cA K) [2, 4] K,
  fun K => xatsB (cA K) [2, 4] [0, 1] K,
  fun K => exmB (cA K) [2, 4] [1, 16, 18] K,
  fun K => sysB K,
  fun K => tuB tfs K,
  fun K => kfB (cA K) naL K,
  fun K => (He.Fa.meth "House" "check_room").ok K,
  fun K => (He.Fa.meth "House" "end").ok K,
  fun K => (He.Fa.meth "House" "led").ok K,
  fun K => (He.Fa.meth "House" "left").ok K]
def dds : List DD := [
  ⟨A_is_name, "is_name", "is_name", defArgs s_is_name, defBody s_is_name, defScope s_is_name⟩,
  ⟨A_is_letter, "is_letter", "is_letter", defArgs s_is_letter, defBody s_is_letter, defScope s_is_letter⟩,
  ⟨A_undo, "undo", "undo", defArgs s_undo, defBody s_undo, defScope s_undo⟩,
  ⟨A_taken_in, "taken_in", "taken_in", defArgs s_taken_in, defBody s_taken_in, defScope s_taken_in⟩,
  ⟨A_wrong_room, "wrong_room", "wrong_room", defArgs s_wrong_room, defBody s_wrong_room, defScope s_wrong_room⟩,
  ⟨A_is_door, "is_door", "is_door", defArgs s_is_door, defBody s_is_door, defScope s_is_door⟩,
  ⟨A_wrong_door, "wrong_door", "wrong_door", defArgs s_wrong_door, defBody s_wrong_door, defScope s_wrong_door⟩,
  ⟨A_House_init, "__init__", "House.__init__", defArgs s_House_init, defBody s_House_init, defScope s_House_init⟩,
  ⟨A_House_check_room, "check_room", "House.check_room", defArgs s_House_check_room, defBody s_House_check_room, defScope s_House_check_room⟩,
  ⟨A_House_led, "led", "House.led", defArgs s_House_led, defBody s_House_led, defScope s_House_led⟩,
  ⟨A_House_end, "end", "House.end", defArgs s_House_end, defBody s_House_end, defScope s_House_end⟩,
  ⟨A_House_left, "left", "House.left", defArgs s_House_left, defBody s_House_left, defScope s_House_left⟩,
  ⟨A_L_law_well, "_law_well", "_law_well", defArgs s_L_law_well, defBody s_L_law_well, defScope s_L_law_well⟩,
  ⟨A_L_law_dip, "_law_dip", "_law_dip", defArgs s_L_law_dip, defBody s_L_law_dip, defScope s_L_law_dip⟩,
  ⟨A_L_law_one, "_law_one", "_law_one", defArgs s_L_law_one, defBody s_L_law_one, defScope s_L_law_one⟩,
  ⟨A_L_law_words, "_law_words", "_law_words", defArgs s_L_law_words, defBody s_L_law_words, defScope s_L_law_words⟩,
  ⟨A_L_law_parts, "_law_parts", "_law_parts", defArgs s_L_law_parts, defBody s_L_law_parts, defScope s_L_law_parts⟩,
  ⟨A_L_law_ways, "_law_ways", "_law_ways", defArgs s_L_law_ways, defBody s_L_law_ways, defScope s_L_law_ways⟩,
  ⟨A_L_law_other, "_law_other", "_law_other", defArgs s_L_law_other, defBody s_L_law_other, defScope s_L_law_other⟩,
  ⟨A_L_law_short, "_law_short", "_law_short", defArgs s_L_law_short, defBody s_L_law_short, defScope s_L_law_short⟩,
  ⟨A_L_law_end, "_law_end", "_law_end", defArgs s_L_law_end, defBody s_L_law_end, defScope s_L_law_end⟩,
  ⟨A_L_law_walk_from, "_law_walk_from", "_law_walk_from", defArgs s_L_law_walk_from, defBody s_L_law_walk_from, defScope s_L_law_walk_from⟩,
  ⟨A_L_law_class, "_law_class", "_law_class", defArgs s_L_law_class, defBody s_L_law_class, defScope s_L_law_class⟩,
  ⟨A_L_law_has, "_law_has", "_law_has", defArgs s_L_law_has, defBody s_L_law_has, defScope s_L_law_has⟩,
  ⟨A_L_law_error, "_law_error", "_law_error", defArgs s_L_law_error, defBody s_L_law_error, defScope s_L_law_error⟩,
  ⟨A_L_law_odd, "_law_odd", "_law_odd", defArgs s_L_law_odd, defBody s_L_law_odd, defScope s_L_law_odd⟩,
  ⟨A_L_law_due, "_law_due", "_law_due", defArgs s_L_law_due, defBody s_L_law_due, defScope s_L_law_due⟩,
  ⟨A_L_law_right, "_law_right", "_law_right", defArgs s_L_law_right, defBody s_L_law_right, defScope s_L_law_right⟩,
  ⟨A_law, "law", "law", defArgs s_law, defBody s_law, defScope s_law⟩,
  ⟨AI_InvalidRooms, "__init__", "InvalidRooms.__init__", defArgs sI_InvalidRooms, defBody sI_InvalidRooms, defScope sI_InvalidRooms⟩,
  ⟨AI_InvalidDoors, "__init__", "InvalidDoors.__init__", defArgs sI_InvalidDoors, defBody sI_InvalidDoors, defScope sI_InvalidDoors⟩,
  ⟨AI_InvalidRoom, "__init__", "InvalidRoom.__init__", defArgs sI_InvalidRoom, defBody sI_InvalidRoom, defScope sI_InvalidRoom⟩,
  ⟨AI_InvalidWalk, "__init__", "InvalidWalk.__init__", defArgs sI_InvalidWalk, defBody sI_InvalidWalk, defScope sI_InvalidWalk⟩]
abbrev RQ : PySem.W.OpenRow := PySem.W.OpenLaw.row PySem.Challenge.rw_cablecourses_k06_walks_and_what_they_lea
abbrev hk : PySem.W.Hook := hookCS 4 exs dds tfs
def ob (s : PySem.W.SharedT) : AlT2 := obsCS 4 exs dds tfs (HandSHeadRun.getT s)
theorem ob_eq (s : PySem.W.SharedT) : ob s = hk.obs s.abs := obsCS_eq (HandSHeadRun.getT_eq s)
def loose : List Str := (["_wall", "NotFit", "InvalidRoom", "InvalidDoor", "InvalidWalk", "InvalidCourse", "InvalidNumber", "InvalidText", "NotAHouse", "NotAProgram", "NotAPlan", "NotCourses", "InvalidRooms", "InvalidDoors", "InvalidPrograms", "InvalidCourses"] : List Str) ++ (["NotThere", "UnknownProgram", "CannotBe", "Unjoined", "OtherHouse", "MOST_ROOMS", "MOST_DOORS", "LETTERS", "MOST_LETTERS", "is_name", "is_letter", "undo", "taken_in", "wrong_room", "is_door", "wrong_door"] : List Str) ++ (["house_rows", "house_in", "House", "_law_well", "_law_dip", "_law_one", "_law_words", "_law_parts", "_law_ways", "_law_other", "_law_short", "_law_end", "_law_walk_from", "_law_error", "_law_class", "_law_has"] : List Str) ++ (["_law_odd", "_law_due", "_law_right"] : List Str)
theorem run (w : World) : HandSHeadRun.RunEq RQ (PySem.W.view RQ.prog [55]) hk ob 10000 loose w := by
  intro os
  kernel_rfl
end K06

set_option Elab.async false
set_option linter.all false
set_option maxRecDepth 100000
set_option maxHeartbeats 2000000
/-! PL1: the plain side: what the mirrors come to, in general. -/
namespace CC
open PySem PySem.Spec PyProof.Rows L2

/-! ### mapO, toD, frz -/
theorem mapO_some {α β : Type} {f : α → Option β} {g : α → β} : ∀ {xs : List α}, (∀ x ∈ xs, f x = some (g x)) → mapO f xs = some (xs.map g)
  | [], _ => rfl
  | x :: xs, h => by
    unfold mapO
    rw [h x (by simp), mapO_some (xs := xs) fun y hy => h y (List.mem_cons_of_mem _ hy)]
    rfl
theorem mapO_id {α : Type} {f : α → Option α} {xs : List α} (h : ∀ x ∈ xs, f x = some x) : mapO f xs = some xs := by
  rw [mapO_some (g := fun x => x) h, List.map_id'']
  exact fun x => rfl
theorem mapO_mem {α β : Type} {f : α → Option β} : ∀ {xs : List α} {zs : List β}, mapO f xs = some zs → ∀ x ∈ xs, ∃ z, f x = some z
  | [], _, _, x, hx => by cases hx
  | y :: ys, zs, h, x, hx => by
    obtain ⟨z, zz, h1, h2, _⟩ := mapO_cons h
    cases hx with
    | head => exact ⟨z, h1⟩
    | tail _ hx => exact mapO_mem h2 x hx
theorem map_some {α β : Type} {f : α → β} {o : Option α} {b : β} (h : o.map f = some b) : ∃ a, o = some a := by
  cases o with
  | none => cases h
  | some a => exact ⟨a, rfl⟩
/-- plain data stands as it is -/
theorem frz_toD {mu : Store} {n : Nat} : ∀ (k : Nat) (v : Val) (d : PyData) (j : Nat), toD k v = some d → k < j → frz mu n j v = some v
  | k, v, d, 0, _, hj => absurd hj (Nat.not_lt_zero _)
  | k, v, d, j + 1, h, hj => by
    cases v with
    | tup xs =>
      cases k with
      | zero => cases h
      | succ k =>
        simp only [toD] at h
        obtain ⟨zs, e⟩ := map_some h
        simp only [frz]
        rw [mapO_id fun x hx => ?_]
        · rfl
        · obtain ⟨z, hz⟩ := mapO_mem e x hx
          exact frz_toD k x z j hz (by omega)
    | lst xs =>
      cases k with
      | zero => cases h
      | succ k =>
        simp only [toD] at h
        obtain ⟨zs, e⟩ := map_some h
        simp only [frz]
        rw [mapO_id fun x hx => ?_]
        · rfl
        · obtain ⟨z, hz⟩ := mapO_mem e x hx
          exact frz_toD k x z j hz (by omega)
    | dct _ => cases k <;> cases h
    | obj _ _ => cases k <;> cases h
    | ref _ => cases k <;> cases h
    | cls _ => cases k <;> cases h
    | ty _ => cases k <;> cases h
    | scr _ => cases k <;> cases h
    | _ => rfl
theorem toD_str (k : Nat) (s : List Nat) : toD k (.str s) = some (.str (S s)) := by cases k <;> rfl
theorem toD_int (k : Nat) (i : Int) : toD k (.int i) = some (.int i) := by cases k <;> rfl
theorem toD_bl (k : Nat) (b : Bool) : toD k (.bl b) = some (.bool b) := by cases k <;> rfl
theorem toD_non (k : Nat) : toD k .non = some .none := by cases k <;> rfl
theorem toD_tup {k : Nat} {xs : List Val} {g : Val → PyData} (h : ∀ x ∈ xs, toD k x = some (g x)) : toD (k + 1) (.tup xs) = some (.tuple (xs.map g)) := by simp only [toD]; rw [mapO_some h]; rfl
theorem toD_lst {k : Nat} {xs : List Val} {g : Val → PyData} (h : ∀ x ∈ xs, toD k x = some (g x)) : toD (k + 1) (.lst xs) = some (.list (xs.map g)) := by simp only [toD]; rw [mapO_some h]; rfl
/-- a tuple of what α tells -/
theorem toD_tupM {α : Type} {k : Nat} {ys : List α} {f : α → Val} {g : α → PyData} (h : ∀ y ∈ ys, toD k (f y) = some (g y)) : toD (k + 1) (.tup (ys.map f)) = some (.tuple (ys.map g)) := by
  simp only [toD]
  have : mapO (toD k) (ys.map f) = some (ys.map g) := by
    induction ys with
    | nil => rfl
    | cons y ys ih =>
      simp only [List.map_cons]
      unfold mapO
      rw [h y (by simp), ih fun z hz => h z (List.mem_cons_of_mem _ hz)]
  rw [this]; rfl
theorem toDs_map {α : Type} {k : Nat} {ys : List α} {f : α → Val} {g : α → PyData} (h : ∀ y ∈ ys, toD k (f y) = some (g y)) : mapO (toD k) (ys.map f) = some (ys.map g) := by
  induction ys with
  | nil => rfl
  | cons y ys ih =>
    simp only [List.map_cons]
    unfold mapO
    rw [h y (by simp), ih fun z hz => h z (List.mem_cons_of_mem _ hz)]
/-! ### finM -/
theorem okS_app (mu ex : Store) : okS mu (mu ++ ex) := ⟨by simp, fun r c h e => .inl (by rwa [List.getElem?_append_left h] at e)⟩
theorem fin_ok {m : List Val → Store → R Val} {as : List Val} {mu ex : Store} {v w : Val} (h : m as mu = .ok v (mu ++ ex)) (e : frz (mu ++ ex) mu.length 40 v = some w) : finM m as mu = .ok w mu := by
  unfold finM
  rw [h]
  simp only [finR]
  rw [if_pos (okS_app mu ex), e]
  simp
theorem fin_id {m : List Val → Store → R Val} {as : List Val} {mu : Store} {v w : Val} (h : m as mu = .ok v mu) (e : frz mu mu.length 40 v = some w) : finM m as mu = .ok w mu :=
  fin_ok (ex := []) (by rw [List.append_nil]; exact h) (by rw [List.append_nil]; exact e)
/-- plain data out, whatever was laid meanwhile -/
theorem fin_pl {m : List Val → Store → R Val} {as : List Val} {mu ex : Store} {v : Val} {d : PyData} (h : m as mu = .ok v (mu ++ ex)) (e : toD 31 v = some d) : finM m as mu = .ok v mu := fin_ok h (frz_toD 31 v d 40 e (by decide))
theorem fin_pl0 {m : List Val → Store → R Val} {as : List Val} {mu : Store} {v : Val} {d : PyData} (h : m as mu = .ok v mu) (e : toD 31 v = some d) : finM m as mu = .ok v mu := fin_id h (frz_toD 31 v d 40 e (by decide))
/-! ### loops -/
theorem forL_idx {ok : Ok} {g : TM} {body : MS} {xs : List Val} {r : Env1} {mu : Store} (I : Nat → Env1 → Store → Prop) (hok : ∀ i r mu, I i r mu → ok mu)
    (step : ∀ i x r mu, xs[i]? = some x → I i r mu → ∃ r1 mu1, g x r mu = some (r1, mu1) ∧ ∃ r2 mu2, body r1 mu1 = .nx r2 mu2 ∧ I (i + 1) r2 mu2) (h0 : I 0 r mu) :
    ∃ r' mu', forL ok g body xs r mu = .nx r' mu' ∧ I xs.length r' mu' := by
  have gen : ∀ (n i : Nat) (r : Env1) (mu : Store), i + n = xs.length → I i r mu → ∃ r' mu', forL ok g body (xs.drop i) r mu = .nx r' mu' ∧ I xs.length r' mu' := by
    intro n
    induction n with
    | zero =>
      intro i r mu e hi
      have : xs.drop i = [] := List.drop_eq_nil_of_le (by omega)
      rw [this]
      refine ⟨r, mu, ?_, by rw [← e]; exact hi⟩
      unfold forL
      rw [if_pos (hok _ _ _ hi)]
    | succ n ih =>
      intro i r mu e hi
      have hl : i < xs.length := by omega
      rw [List.drop_eq_getElem_cons hl]
      obtain ⟨r1, mu1, h1, r2, mu2, h2, h3⟩ := step i xs[i] r mu (List.getElem?_eq_getElem hl) hi
      obtain ⟨r', mu', h4, h5⟩ := ih (i + 1) r2 mu2 (by omega) h3
      refine ⟨r', mu', ?_, h5⟩
      simp only [forL]
      rw [if_pos (hok _ _ _ hi), h1]
      simp only [h2]
      exact h4
  have := gen xs.length 0 r mu (by omega) h0
  rwa [List.drop_zero] at this
/-- a comprehension that leaves the store as it is -/
theorem lcL_fm {α : Type} {ok : Ok} {is : List Nat} {f : Val → Option (List Val)} {t : M Bool} {e : M Val} {vs : List Nat} {r : Env1} {mu : Store} (hok : ok mu) (g : α → Val) (h : α → Option Val) : ∀ (ys : List α),
    (∀ y ∈ ys, ∃ as, f (g y) = some as ∧ ((t (setAll (wipeE r vs) is as) mu = .ok false mu ∧ h y = none) ∨ (t (setAll (wipeE r vs) is as) mu = .ok true mu ∧ ∃ z, e (setAll (wipeE r vs) is as) mu = .ok z mu ∧ h y = some z))) →
    lcL ok is f t e vs (ys.map g) r mu = .ok (ys.filterMap h) mu
  | [], _ => by
    simp only [List.map_nil, lcL]
    rw [if_pos hok]
    rfl
  | y :: ys, hh => by
    obtain ⟨as, h1, h2⟩ := hh y (by simp)
    have ih := lcL_fm hok g h ys fun z hz => hh z (List.mem_cons_of_mem _ hz)
    simp only [List.map_cons, lcL]
    rw [if_pos hok, h1]
    rcases h2 with ⟨h2, h3⟩ | ⟨h2, z, h3, h4⟩
    · simp only [h2, Bool.false_eq_true, if_false]
      rw [ih, List.filterMap_cons_none h3]
    · simp only [h2, if_true, h3, ih]
      rw [List.filterMap_cons_some h4]
theorem lcL_map {α : Type} {ok : Ok} {is : List Nat} {f : Val → Option (List Val)} {e : M Val} {vs : List Nat} {r : Env1} {mu : Store} (hok : ok mu) (g : α → Val) (h : α → Val) (ys : List α)
    (hh : ∀ y ∈ ys, ∃ as, f (g y) = some as ∧ e (setAll (wipeE r vs) is as) mu = .ok (h y) mu) : lcL ok is f yesT e vs (ys.map g) r mu = .ok (ys.map h) mu := by
  rw [lcL_fm hok g (fun y => some (h y)) ys fun y hy => ?_]
  · rw [List.filterMap_eq_map' ]
  · obtain ⟨as, h1, h2⟩ := hh y hy
    exact ⟨as, h1, .inr ⟨rfl, _, h2, rfl⟩⟩
theorem lcM_ok {mi : M (List Val × Ok)} {is : List Nat} {f : Val → Option (List Val)} {t : M Bool} {e : M Val} {vs : List Nat} {r : Env1} {mu mu1 mu2 : Store} {xs ys : List Val} {ok : Ok} (h1 : mi r mu = .ok (xs, ok) mu1) (hl : xs.length ≤ 100000) (h2 : lcL ok is f t e vs xs r mu1 = .ok ys mu2) : lcM mi is f t e vs r mu = .ok (.lst ys) mu2 := by
  unfold lcM
  rw [h1]
  simp only [R.bind]
  rw [if_pos hl]
  unfold lcA
  rw [h2]
  rfl
/-! ### sameness of data -/
theorem S_beq {a b : List Nat} : (S a == S b) = decide (a = b) := by
  by_cases h : a = b
  · subst h
    simp
  · simp only [h, decide_false, beq_eq_false_iff_ne, ne_eq]
    intro e
    apply h
    have := congrArg (fun z : Str => z.cps.toList) e
    simpa using this
theorem eqv_str {a b : List Nat} : PyData.eqv (.str (S a)) (.str (S b)) = decide (a = b) := by
  unfold PyData.eqv
  exact S_beq
theorem eqv_int {a b : Int} : PyData.eqv (.int a) (.int b) = decide (a = b) := by
  unfold PyData.eqv
  by_cases h : a = b <;> simp [h]
theorem eqvAll_map {α : Type} [DecidableEq α] {f : α → PyData} (h : ∀ x y, PyData.eqv (f x) (f y) = decide (x = y)) : ∀ (xs ys : List α), PyData.eqvAll (xs.map f) (ys.map f) = decide (xs = ys)
  | [], [] => by simp [PyData.eqvAll]
  | x :: xs, [] => by simp [PyData.eqvAll]
  | [], y :: ys => by simp [PyData.eqvAll]
  | x :: xs, y :: ys => by
    simp only [List.map_cons, PyData.eqvAll, h, eqvAll_map h xs ys, List.cons.injEq]
    by_cases e1 : x = y <;> by_cases e2 : xs = ys <;> simp [e1, e2]
theorem eqv_tup {xs ys : List PyData} : PyData.eqv (.tuple xs) (.tuple ys) = PyData.eqvAll xs ys := by rw [PyData.eqv]
theorem eqv_lst {xs ys : List PyData} : PyData.eqv (.list xs) (.list ys) = PyData.eqvAll xs ys := by rw [PyData.eqv]
/-! ### statements, applied -/
theorem bindS_ap {α : Type} (m : M α) (k : α → Env1 → Store → SR) (r : Env1) (mu : Store) : bindS m k r mu = (match m r mu with
  | .ok a mu1 => k a r mu1
  | .exc C fs mu1 => .exc C fs r mu1
  | .bad => .bad) := by
  unfold bindS
  cases m r mu <;> rfl
theorem ifS_ap (c : M Bool) (a b : MS) (r : Env1) (mu : Store) : ifS c a b r mu = (match c r mu with
  | .ok k mu1 => if k = true then a r mu1 else b r mu1
  | .exc C fs mu1 => .exc C fs r mu1
  | .bad => .bad) := by
  unfold ifS bindS
  cases c r mu <;> rfl
theorem retS_ap (m : M Val) (r : Env1) (mu : Store) : retS m r mu = (match m r mu with
  | .ok a mu1 => .rt a mu1
  | .exc C fs mu1 => .exc C fs r mu1
  | .bad => .bad) := by
  unfold retS bindS
  cases m r mu <;> rfl
theorem exprS_ap (m : M Val) (r : Env1) (mu : Store) : exprS m r mu = (match m r mu with
  | .ok a mu1 => .nx r mu1
  | .exc C fs mu1 => .exc C fs r mu1
  | .bad => .bad) := by
  unfold exprS bindS
  cases m r mu <;> rfl
theorem asgS_ap (m : M Val) (g : TM) (r : Env1) (mu : Store) : asgS m g r mu = (match m r mu with
  | .ok v mu1 => (match g v r mu1 with
    | some (r2, mu2) => .nx r2 mu2
    | none => .bad)
  | .exc C fs mu1 => .exc C fs r mu1
  | .bad => .bad) := by
  unfold asgS bindS
  cases m r mu <;> rfl
theorem forS_ap (mi : M (List Val × Ok)) (g : TM) (body : MS) (r : Env1) (mu : Store) : forS mi g body r mu = (match mi r mu with
  | .ok q mu1 => forL q.2 g body q.1 r mu1
  | .exc C fs mu1 => .exc C fs r mu1
  | .bad => .bad) := by
  unfold forS bindS
  cases mi r mu <;> rfl
theorem parS_ap (i j : Nat) (ms : M (List Val)) (r : Env1) (mu : Store) : parS i j ms r mu = (match ms r mu with
  | .ok vs mu1 => (match vs with
    | [x, y] => .nx ((r.set i (some x)).set j (some y)) mu1
    | _ => .bad)
  | .exc C fs mu1 => .exc C fs r mu1
  | .bad => .bad) := by
  unfold parS bindS
  cases ms r mu <;> rfl
/-! ### f-strings -/
theorem js_nil {acc : List Nat} {r : Env1} {mu : Store} : jsM [] acc r mu = .ok (.str acc) mu := rfl
theorem js_str {m : M Val} {ms : List (M Val)} {acc y : List Nat} {r : Env1} {mu mu1 : Store} (h : m r mu = .ok (.str y) mu1) (hl : acc.length + y.length ≤ 100000) : jsM (m :: ms) acc r mu = jsM ms (acc ++ y) r mu1 := by
  simp only [jsM, h, R.bind]
  rw [if_pos hl]
theorem fmt_str {m : M Val} {s : List Nat} {r : Env1} {mu mu1 : Store} (h : m r mu = .ok (.str s) mu1) (hl : s.length ≤ 100000) : fmtM m r mu = .ok (.str s) mu1 := by
  simp only [fmtM, u1, h, R.bind, hl, if_true, optR]
theorem fmt_int {m : M Val} {i : Int} {r : Env1} {mu mu1 : Store} (h : m r mu = .ok (.int i) mu1) (hl : i.natAbs < 2 ^ 1900) : fmtM m r mu = .ok (.str (istr i)) mu1 := by
  simp only [fmtM, u1, h, R.bind]
  rw [if_pos hl]
  rfl
end CC

set_option Elab.async false
set_option linter.all false
set_option maxRecDepth 100000
set_option maxHeartbeats 2000000
/-! PL2: going through a def's mirror statement by statement; plain data in general. -/
namespace CC
open PySem PySem.Spec PyProof.Rows L2
section
variable {a b : MS} {r r1 : Env1} {mu mu1 : Store} {v : Val} {y : SR}
theorem seq_nx (h : a r mu = .nx r1 mu1) : seqS a b r mu = b r1 mu1 := by simp only [seqS, h]
theorem seq_rt (h : a r mu = .rt v mu1) : seqS a b r mu = .rt v mu1 := by simp only [seqS, h]
theorem seq_exc {C : Nat} {fs : List (Nat × Val)} (h : a r mu = .exc C fs r1 mu1) : seqS a b r mu = .exc C fs r1 mu1 := by simp only [seqS, h]
theorem seq_ex {I : Env1 → Store → Prop} (h : ∃ r1 mu1, a r mu = .nx r1 mu1 ∧ I r1 mu1) (k : ∀ r1 mu1, I r1 mu1 → b r1 mu1 = y) : seqS a b r mu = y := by
  obtain ⟨r1, mu1, e, i⟩ := h
  rw [seq_nx e]
  exact k r1 mu1 i
theorem defK_rt {np nn : Nat} {as : List Val} (hl : as.length = np) (h : b (as.map some ++ List.replicate (nn - np) none) mu = .rt v mu1) : defK np nn b as mu = .ok v mu1 := by
  unfold defK
  rw [if_pos hl, h]
theorem defK_nx {np nn : Nat} {as : List Val} (hl : as.length = np) (h : b (as.map some ++ List.replicate (nn - np) none) mu = .nx r1 mu1) : defK np nn b as mu = .ok .non mu1 := by
  unfold defK
  rw [if_pos hl, h]
theorem defK_exc {np nn C : Nat} {fs : List (Nat × Val)} {as : List Val} (hl : as.length = np) (h : b (as.map some ++ List.replicate (nn - np) none) mu = .exc C fs r1 mu1) : defK np nn b as mu = .exc C fs mu1 := by
  unfold defK
  rw [if_pos hl, h]
/-- a loop that goes through -/
theorem for_ex {mi : M (List Val × Ok)} {g : TM} {body : MS} {mu0 : Store} {xs : List Val} {ok : Ok} (J : Nat → Env1 → Store → Prop) {I : Env1 → Store → Prop} (hi : mi r mu = .ok (xs, ok) mu0) (hok : ∀ i r mu, J i r mu → ok mu)
    (step : ∀ i x r mu, xs[i]? = some x → J i r mu → ∃ r1 mu1, g x r mu = some (r1, mu1) ∧ ∃ r2 mu2, body r1 mu1 = .nx r2 mu2 ∧ J (i + 1) r2 mu2) (h0 : J 0 r mu0) (fin : ∀ r1 mu1, J xs.length r1 mu1 → I r1 mu1) :
    ∃ r1 mu1, forS mi g body r mu = .nx r1 mu1 ∧ I r1 mu1 := by
  obtain ⟨r', mu', h1, h2⟩ := forL_idx (g := g) (body := body) J hok step h0
  refine ⟨r', mu', ?_, fin _ _ h2⟩
  rw [forS_ap, hi]
  exact h1
/-- a loop that returns at place k -/
theorem forL_rt {ok : Ok} {g : TM} {body : MS} {xs : List Val} {r : Env1} {mu : Store} (I : Nat → Env1 → Store → Prop) (k : Nat) (hk : k < xs.length) (Q : Val → Store → Prop) (hok : ∀ i r mu, I i r mu → ok mu)
    (step : ∀ i x r mu, i < k → xs[i]? = some x → I i r mu → ∃ r1 mu1, g x r mu = some (r1, mu1) ∧ ∃ r2 mu2, body r1 mu1 = .nx r2 mu2 ∧ I (i + 1) r2 mu2)
    (last : ∀ r mu, I k r mu → ∃ x r1 mu1, xs[k]? = some x ∧ g x r mu = some (r1, mu1) ∧ ∃ v mu2, body r1 mu1 = .rt v mu2 ∧ Q v mu2) (h0 : I 0 r mu) :
    ∃ v mu', forL ok g body xs r mu = .rt v mu' ∧ Q v mu' := by
  have gen : ∀ (n i : Nat) (r : Env1) (mu : Store), i + n = k → I i r mu → ∃ v mu', forL ok g body (xs.drop i) r mu = .rt v mu' ∧ Q v mu' := by
    intro n
    induction n with
    | zero =>
      intro i r mu e hi
      obtain rfl : i = k := by omega
      obtain ⟨x, r1, mu1, e1, e2, v, mu2, e3, q⟩ := last r mu hi
      obtain ⟨hl, rfl⟩ := List.getElem?_eq_some_iff.mp e1
      rw [List.drop_eq_getElem_cons hl]
      refine ⟨v, mu2, ?_, q⟩
      simp only [forL]
      rw [if_pos (hok _ _ _ hi), e2]
      simp only [e3]
    | succ n ih =>
      intro i r mu e hi
      have hl : i < xs.length := by omega
      rw [List.drop_eq_getElem_cons hl]
      obtain ⟨r1, mu1, h1, r2, mu2, h2, h3⟩ := step i xs[i] r mu (by omega) (List.getElem?_eq_getElem hl) hi
      obtain ⟨v, mu', h4, h5⟩ := ih (i + 1) r2 mu2 (by omega) h3
      refine ⟨v, mu', ?_, h5⟩
      simp only [forL]
      rw [if_pos (hok _ _ _ hi), h1]
      simp only [h2]
      exact h4
  have := gen k 0 r mu (by omega) h0
  rwa [List.drop_zero] at this
theorem for_rt {mi : M (List Val × Ok)} {g : TM} {body : MS} {mu0 : Store} {xs : List Val} {ok : Ok} (J : Nat → Env1 → Store → Prop) (k : Nat) (hk : k < xs.length) (Q : Val → Store → Prop) (hi : mi r mu = .ok (xs, ok) mu0) (hok : ∀ i r mu, J i r mu → ok mu)
    (step : ∀ i x r mu, i < k → xs[i]? = some x → J i r mu → ∃ r1 mu1, g x r mu = some (r1, mu1) ∧ ∃ r2 mu2, body r1 mu1 = .nx r2 mu2 ∧ J (i + 1) r2 mu2)
    (last : ∀ r mu, J k r mu → ∃ x r1 mu1, xs[k]? = some x ∧ g x r mu = some (r1, mu1) ∧ ∃ v mu2, body r1 mu1 = .rt v mu2 ∧ Q v mu2) (h0 : J 0 r mu0) :
    ∃ v mu', forS mi g body r mu = .rt v mu' ∧ Q v mu' := by
  obtain ⟨v, mu', h1, h2⟩ := forL_rt (g := g) (body := body) J k hk Q hok step last h0
  refine ⟨v, mu', ?_, h2⟩
  rw [forS_ap, hi]
  exact h1
/-! plain data -/
structure Pl (α : Type) [DecidableEq α] where
  v : α → Val
  d : α → PyData
  k : Nat
  td : ∀ j a, k ≤ j → toD j (v a) = some (d a)
  eq : ∀ a b, PyData.eqv (d a) (d b) = decide (a = b)
theorem toD1_td {mu : Store} {v : Val} {d : PyData} (h : toD 31 v = some d) : toD1 mu v = some d := by
  cases v <;> first | exact h | cases h
section
variable {α β γ : Type} [DecidableEq α] [DecidableEq β] [DecidableEq γ] (p : Pl α) {mu : Store}
theorem Pl.td1 (hk : p.k ≤ 31) (a : α) : toD1 mu (p.v a) = some (p.d a) := toD1_td (p.td 31 a hk)
theorem Pl.eqV (hk : p.k ≤ 31) (a b : α) : CC.eqV mu (p.v a) (p.v b) = some (.bl (decide (a = b))) := by
  unfold CC.eqV
  rw [p.td1 hk, p.td1 hk]
  simp only [p.eq]
theorem Pl.neV (hk : p.k ≤ 31) (a b : α) : CC.neV mu (p.v a) (p.v b) = some (.bl (!decide (a = b))) := by
  unfold CC.neV
  rw [p.td1 hk, p.td1 hk]
  simp only [p.eq]
theorem Pl.any (a : α) (xs : List α) : ((xs.map p.d).any fun z => PyData.eqv z (p.d a)) = decide (a ∈ xs) := by
  induction xs with
  | nil => rfl
  | cons c cs ih =>
    simp only [List.map_cons, List.any_cons, ih, p.eq, List.mem_cons]
    by_cases h1 : c = a
    · subst h1; simp
    · have : a ≠ c := fun e => h1 e.symm
      simp [h1, this]
theorem Pl.inT (hk : p.k ≤ 30) (a : α) (xs : List α) : CC.inB mu (p.v a) (.tup (xs.map p.v)) = some (decide (a ∈ xs)) := by
  simp only [inB, p.td 30 a hk]
  rw [toDs_map (k := 30) (g := p.d) fun y _ => p.td 30 y hk]
  simp only [p.any]
theorem Pl.inL (hk : p.k ≤ 30) (a : α) (xs : List α) : CC.inB mu (p.v a) (.lst (xs.map p.v)) = some (decide (a ∈ xs)) := by
  simp only [inB, seqL, p.td 30 a hk]
  rw [toDs_map (k := 30) (g := p.d) fun y _ => p.td 30 y hk]
  simp only [p.any]
theorem Pl.inR (hk : p.k ≤ 30) (a : α) (xs : List α) {r : Nat} (h : mu[r]? = some (.lst (xs.map p.v))) : CC.inB mu (p.v a) (.ref r) = some (decide (a ∈ xs)) := by
  simp only [inB, seqL, h, p.td 30 a hk]
  rw [toDs_map (k := 30) (g := p.d) fun y _ => p.td 30 y hk]
  simp only [p.any]
def plS : Pl (List Nat) := ⟨.str, fun s => .str (S s), 0, fun j a _ => toD_str j a, fun _ _ => eqv_str⟩
def plI : Pl Int := ⟨.int, .int, 0, fun j a _ => toD_int j a, fun _ _ => eqv_int⟩
def plB : Pl Bool := ⟨.bl, .bool, 0, fun j a _ => toD_bl j a, fun a b => by cases a <;> cases b <;> rfl⟩
def plTup : Pl (List α) := ⟨fun xs => .tup (xs.map p.v), fun xs => .tuple (xs.map p.d), p.k + 1, fun j a h => by
  obtain ⟨j, rfl⟩ : ∃ i, j = i + 1 := ⟨j - 1, by omega⟩
  exact toD_tupM fun y _ => p.td j y (by omega), fun a b => by rw [eqv_tup]; exact eqvAll_map p.eq a b⟩
theorem toD_lstM {k : Nat} {ys : List α} {f : α → Val} {g : α → PyData} (h : ∀ y ∈ ys, toD k (f y) = some (g y)) : toD (k + 1) (.lst (ys.map f)) = some (.list (ys.map g)) := by
  simp only [toD]
  rw [toDs_map h]
  rfl
def plLst : Pl (List α) := ⟨fun xs => .lst (xs.map p.v), fun xs => .list (xs.map p.d), p.k + 1, fun j a h => by
  obtain ⟨j, rfl⟩ : ∃ i, j = i + 1 := ⟨j - 1, by omega⟩
  exact toD_lstM fun y _ => p.td j y (by omega), fun a b => by rw [eqv_lst]; exact eqvAll_map p.eq a b⟩
def pl2 (q : Pl β) : Pl (α × β) := ⟨fun x => .tup [p.v x.1, q.v x.2], fun x => .tuple [p.d x.1, q.d x.2], p.k + q.k + 1, fun j a h => by
  obtain ⟨j, rfl⟩ : ∃ i, j = i + 1 := ⟨j - 1, by omega⟩
  simp only [toD, mapO, p.td j a.1 (by omega), q.td j a.2 (by omega)]
  rfl, fun a b => by
  rw [eqv_tup]
  simp only [PyData.eqvAll, p.eq, q.eq, Bool.and_true]
  obtain ⟨a1, a2⟩ := a
  obtain ⟨b1, b2⟩ := b
  by_cases h1 : a1 = b1 <;> by_cases h2 : a2 = b2 <;> simp [h1, h2]⟩
def pl3 (q : Pl β) (s : Pl γ) : Pl (α × β × γ) := ⟨fun x => .tup [p.v x.1, q.v x.2.1, s.v x.2.2], fun x => .tuple [p.d x.1, q.d x.2.1, s.d x.2.2], p.k + q.k + s.k + 1, fun j a h => by
  obtain ⟨j, rfl⟩ : ∃ i, j = i + 1 := ⟨j - 1, by omega⟩
  simp only [toD, mapO, p.td j a.1 (by omega), q.td j a.2.1 (by omega), s.td j a.2.2 (by omega)]
  rfl, fun a b => by
  rw [eqv_tup]
  simp only [PyData.eqvAll, p.eq, q.eq, s.eq, Bool.and_true]
  obtain ⟨a1, a2, a3⟩ := a
  obtain ⟨b1, b2, b3⟩ := b
  by_cases h1 : a1 = b1 <;> by_cases h2 : a2 = b2 <;> by_cases h3 : a3 = b3 <;> simp [h1, h2, h3]⟩
end
end
/-! places -/
theorem atI_n {α : Type} (xs : List α) (d : Nat) : atI xs (d : Int) = xs[d]? := by
  unfold atI ixN
  rw [if_pos (by omega)]
  by_cases h : d < xs.length
  · rw [if_pos (by omega)]
    simp
  · rw [if_neg (by omega), List.getElem?_eq_none (by omega)]
    rfl
theorem atI_last {α : Type} (xs : List α) : atI xs (-1) = xs.getLast? := by
  unfold atI ixN
  rw [if_neg (by decide)]
  cases xs with
  | nil => rfl
  | cons x xs =>
    rw [if_pos (by simp; omega), List.getLast?_eq_getElem?]
    show (x :: xs)[(-1 + ((x :: xs).length : Int)).toNat]? = _
    congr 1
    simp
    omega
theorem ix_tup {mu : Store} (xs : List Val) (d : Nat) : ixV mu (.tup xs) (.int d) = xs[d]? := by
  simp only [ixV, dctV, atI_n]
theorem ix_lst {mu : Store} (xs : List Val) (d : Nat) : ixV mu (.lst xs) (.int d) = xs[d]? := by
  simp only [ixV, dctV, seqL, atI_n]
theorem ix_ref {mu : Store} {r : Nat} {xs : List Val} (h : mu[r]? = some (.lst xs)) (d : Nat) : ixV mu (.ref r) (.int d) = xs[d]? := by
  simp only [ixV, dctV, seqL, h, atI_n]
theorem ix_tup0 {mu : Store} (x : Val) (xs : List Val) : ixV mu (.tup (x :: xs)) (.int 0) = some x := ix_tup (x :: xs) 0
theorem ix_tup1 {mu : Store} (x y : Val) (xs : List Val) : ixV mu (.tup (x :: y :: xs)) (.int 1) = some y := ix_tup (x :: y :: xs) 1
theorem ix_tup2 {mu : Store} (x y z : Val) (xs : List Val) : ixV mu (.tup (x :: y :: z :: xs)) (.int 2) = some z := ix_tup (x :: y :: z :: xs) 2
theorem cut_fore {α : Type} (xs : List α) (i : Nat) : cutL xs none (some (i : Int)) = xs.take i := by
  unfold cutL
  rw [HT.sIx_nat, HT.sIx_none]
  simp only [List.drop_zero, Nat.sub_zero]
  by_cases h : i ≤ xs.length
  · rw [Nat.min_eq_left h]
  · rw [Nat.min_eq_right (by omega), List.take_of_length_le (Nat.le_refl _), List.take_of_length_le (by omega)]
theorem cut_hind {α : Type} (xs : List α) (i : Nat) : cutL xs (some (i : Int)) none = xs.drop i := by
  unfold cutL
  rw [HT.sIx_nat, HT.sIx_none]
  by_cases h : i ≤ xs.length
  · rw [Nat.min_eq_left h]
    exact List.take_of_length_le (by simp)
  · rw [Nat.min_eq_right (by omega), List.drop_of_length_le (Nat.le_refl _), List.drop_of_length_le (by omega), List.take_nil]
theorem cut_last {α : Type} (xs : List α) : cutL xs none (some (-1)) = xs.dropLast := by
  unfold cutL
  rw [HT.sIx_none]
  have : HT.sIx xs.length xs.length (some (-1)) = xs.length - 1 := by
    unfold HT.sIx
    simp only
    rw [if_pos (by decide)]
    omega
  rw [this, List.dropLast_eq_take]
  rfl
/-! comprehensions that change the store -/
theorem lcL_run {ok : Ok} {is : List Nat} {f : Val → Option (List Val)} {t : M Bool} {e : M Val} {vs : List Nat} {r : Env1} : ∀ (xs : List Val) (P : Nat → List Val → Store → Prop) (i0 : Nat) (acc : List Val) (mu : Store),
    (∀ i x acc mu, xs[i]? = some x → P (i0 + i) acc mu → ok mu ∧ ∃ as, f x = some as ∧ ∃ b mu1, t (setAll (wipeE r vs) is as) mu = .ok b mu1 ∧ ((b = true ∧ ∃ y mu2, e (setAll (wipeE r vs) is as) mu1 = .ok y mu2 ∧ P (i0 + i + 1) (acc ++ [y]) mu2) ∨ (b = false ∧ P (i0 + i + 1) acc mu1))) →
    (∀ acc mu, P (i0 + xs.length) acc mu → ok mu) → P i0 acc mu → ∃ ys mu', lcL ok is f t e vs xs r mu = .ok ys mu' ∧ P (i0 + xs.length) (acc ++ ys) mu'
  | [], P, i0, acc, mu, _, hk, h0 => ⟨[], mu, by
      have := hk acc mu h0
      simp only [lcL]
      rw [if_pos this], by simpa using h0⟩
  | x :: xs, P, i0, acc, mu, step, hk, h0 => by
    obtain ⟨o, as, e1, b, mu1, e2, h⟩ := step 0 x acc mu rfl h0
    have ih := fun acc mu => lcL_run (ok := ok) (is := is) (f := f) (t := t) (e := e) (vs := vs) (r := r) xs P (i0 + 1) acc mu (fun i x acc mu hx hp => by
      have := step (i + 1) x acc mu (by simpa using hx) (by rw [show i0 + (i + 1) = i0 + 1 + i by omega]; exact hp)
      rw [show i0 + (i + 1) = i0 + 1 + i by omega] at this
      exact this) (fun acc mu hp => hk acc mu (by rw [List.length_cons, show i0 + (xs.length + 1) = i0 + 1 + xs.length by omega]; exact hp))
    simp only [lcL]
    rw [if_pos o, e1]
    simp only [e2]
    rcases h with ⟨rfl, y, mu2, e3, h3⟩ | ⟨rfl, h3⟩
    · obtain ⟨ys, mu', e4, h4⟩ := ih _ _ h3
      simp only [if_true, e3, e4]
      refine ⟨_, _, rfl, ?_⟩
      rw [List.length_cons, show i0 + (xs.length + 1) = i0 + 1 + xs.length by omega]
      simpa using h4
    · obtain ⟨ys, mu', e4, h4⟩ := ih _ _ h3
      simp only [Bool.false_eq_true, if_false, e4]
      refine ⟨_, _, rfl, ?_⟩
      rw [List.length_cons, show i0 + (xs.length + 1) = i0 + 1 + xs.length by omega]
      exact h4
/-- all of what laws ask, a store that grows -/
theorem lcM_all {mi : M (List Val × Ok)} {is : List Nat} {f : Val → Option (List Val)} {e : M Val} {vs : List Nat} {r : Env1} {mu mu1 : Store} {xs : List Val} {ok : Ok} (P : Store → Prop) (h1 : mi r mu = .ok (xs, ok) mu1) (hl : xs.length ≤ 100000) (hok : ∀ m, P m → ok m)
    (step : ∀ (x : Val) (m : Store), x ∈ xs → P m → ∃ as, f x = some as ∧ ∃ m2, e (setAll (wipeE r vs) is as) m = .ok (.bl true) m2 ∧ P m2) (h0 : P mu1) :
    ∃ mu2, fA allV (consM (lcM mi is f yesT e vs) nilM) r mu = .ok (.bl true) mu2 ∧ P mu2 := by
  obtain ⟨ys, mu', e1, h2, h3⟩ := lcL_run (ok := ok) (is := is) (f := f) (t := yesT) (e := e) (vs := vs) (r := r) xs (fun _ acc m => (∀ y ∈ acc, y = Val.bl true) ∧ P m) 0 [] mu1 (fun i x acc m hx hp => by
    obtain ⟨as, a1, m2, a2, a3⟩ := step x m (List.mem_of_getElem? hx) hp.2
    refine ⟨hok _ hp.2, as, a1, true, m, rfl, .inl ⟨rfl, _, m2, a2, fun y hy => ?_, a3⟩⟩
    rcases List.mem_append.mp hy with hy | hy
    · exact hp.1 y hy
    · exact List.mem_singleton.mp hy) (fun acc m hp => hok m hp.2) ⟨fun y hy => (by cases hy), h0⟩
  refine ⟨mu', ?_, h3⟩
  have e2 := lcM_ok h1 hl e1
  have al : mapO blO ys = some (ys.map fun _ => true) := mapO_some fun y hy => by rw [h2 y hy]; rfl
  simp only [fA, consM, e2, nilM, R.bind, optR, allV, seqL2, seqL, al, Option.map_some]
  simp
theorem rngL_mem {lo : Int} {n : Nat} {x : Val} (h : x ∈ rngL lo n) : ∃ k : Nat, k < n ∧ x = .int (lo + k) := by
  obtain ⟨k, hk, rfl⟩ := List.mem_map.mp h
  exact ⟨k, List.mem_range.mp hk, rfl⟩
theorem rngL_len {lo : Int} {n : Nat} : (rngL lo n).length = n := by simp [rngL]
theorem len_scr {mu : Store} {ns : List Int} : lenV mu [.scr ns] = some (.int ns.length) := by simp only [lenV, seqL2, List.length_map]
theorem len_lst {mu : Store} {xs : List Val} : lenV mu [.lst xs] = some (.int xs.length) := by simp only [lenV, seqL2, seqL]
theorem len_ref {mu : Store} {r : Nat} {xs : List Val} (h : mu[r]? = some (.lst xs)) : lenV mu [.ref r] = some (.int xs.length) := by simp only [lenV, seqL2, seqL, h]
end CC

set_option Elab.async false
set_option linter.all false
set_option maxRecDepth 100000
set_option maxHeartbeats 2000000
/-! PL3: errors in mirrors; repr of small lists. -/
namespace CC
open PySem PySem.Spec PyProof.Rows L2
theorem fin_exc {m : List Val → Store → R Val} {as : List Val} {mu ex : Store} {C n : Nat} {z : Val} (h : m as mu = .exc C [(n, z)] (mu ++ ex)) (e : frz (mu ++ ex) mu.length 40 z = some z) : finM m as mu = .exc C [(n, z)] mu := by
  unfold finM
  rw [h]
  simp only [finR]
  rw [if_pos (okS_app mu ex)]
  simp only [mapO, e, Option.map_some, List.take_left]
theorem raise_ap {C n : Nat} {m : M Val} {r : Env1} {mu mu1 : Store} {v : Val} (h : m r mu = .ok v mu1) : raiseS C n (consM m nilM) r mu = .exc C [(n, v)] r mu1 := by
  unfold raiseS
  rw [bindS_ap]
  simp only [consM, nilM, h, R.bind]
theorem mkR_exc {C C' n : Nat} {m : List Val → Store → R Val} {as : List Val} {mu mu' : Store} {z : Val} (h : m (.ref mu.length :: as) (mu ++ [.obj C []]) = .exc C' [(n, z)] mu') : mkR C m as mu = .exc C' [(n, z)] mu' := by
  unfold mkR
  rw [h]
/-- no reference within -/
def clB : Nat → Val → Bool
  | 0, v => (match v with
    | .tup _ => false
    | .lst _ => false
    | .dct _ => false
    | .obj _ _ => false
    | .ref _ => false
    | _ => true)
  | n + 1, v => (match v with
    | .tup xs => xs.all (clB n)
    | .lst xs => xs.all (clB n)
    | .dct kvs => kvs.all fun q => clB n q.2
    | .obj _ fs => fs.all fun q => clB n q.2
    | .ref _ => false
    | _ => true)
theorem frz_cl {mu : Store} {n : Nat} : ∀ (k : Nat) (v : Val) (j : Nat), clB k v = true → k < j → frz mu n j v = some v := by
  intro k
  induction k with
  | zero =>
    intro v j h hj
    obtain ⟨j, rfl⟩ : ∃ i, j = i + 1 := ⟨j - 1, by omega⟩
    cases v <;> first | rfl | cases h
  | succ k ih =>
    intro v j h hj
    obtain ⟨j, rfl⟩ : ∃ i, j = i + 1 := ⟨j - 1, by omega⟩
    have key : ∀ xs : List Val, xs.all (clB k) = true → mapO (frz mu n j) xs = some xs := fun xs hx => mapO_id fun x hx2 => ih x j (List.all_eq_true.mp hx x hx2) (by omega)
    cases v with
    | tup xs => simp only [clB] at h; simp only [frz]; rw [key xs h]; rfl
    | lst xs => simp only [clB] at h; simp only [frz]; rw [key xs h]; rfl
    | dct kvs =>
      simp only [clB] at h
      have : mapO (fun q : DKey × Val => (frz mu n j q.2).map fun y => (q.1, y)) kvs = some kvs := mapO_id fun q hq => by rw [ih q.2 j (List.all_eq_true.mp h q hq) (by omega)]; rfl
      simp only [frz, this]
      rfl
    | obj C fs =>
      simp only [clB] at h
      have : mapO (fun q : Nat × Val => (frz mu n j q.2).map fun y => (q.1, y)) fs = some fs := mapO_id fun q hq => by rw [ih q.2 j (List.all_eq_true.mp h q hq) (by omega)]; rfl
      simp only [frz, this]
      rfl
    | ref r => cases h
    | _ => rfl
theorem clB_mono : ∀ (k : Nat) (v : Val) (j : Nat), clB k v = true → k ≤ j → clB j v = true := by
  intro k
  induction k with
  | zero =>
    intro v j h hj
    cases j with
    | zero => exact h
    | succ j => cases v <;> first | rfl | cases h
  | succ k ih =>
    intro v j h hj
    obtain ⟨j, rfl⟩ : ∃ i, j = i + 1 := ⟨j - 1, by omega⟩
    cases v <;> first | rfl | (simp only [clB, List.all_eq_true] at h ⊢; exact fun x hx => ih _ j (h x hx) (by omega)) | cases h
theorem fin_cl {m : List Val → Store → R Val} {as : List Val} {mu ex : Store} {v : Val} (h : m as mu = .ok v (mu ++ ex)) (e : clB 30 v = true) : finM m as mu = .ok v mu := fin_ok h (frz_cl 30 v 40 e (by decide))
theorem fin_cl0 {m : List Val → Store → R Val} {as : List Val} {mu : Store} {v : Val} (h : m as mu = .ok v mu) (e : clB 30 v = true) : finM m as mu = .ok v mu := fin_id h (frz_cl 30 v 40 e (by decide))
/-! ### wells -/
abbrev W3 (a b c : Int) : Cell := .lst [.int a, .int b, .int c]
def Well (w : Nat) (mu : Store) : Prop := ∃ a b c, mu[w]? = some (W3 a b c)
/-- nothing but the well has changed -/
structure Dip (w : Nat) (mu mu' : Store) : Prop where
  was : Well w mu
  set : ∃ a b c, mu' = mu.set w (W3 a b c)
theorem at_setW {mu : Store} {w : Nat} {c d : Cell} (h : mu[w]? = some d) : (mu.set w c)[w]? = some c := by
  rw [List.getElem?_set_self', h]
  rfl
theorem Well.lt {w : Nat} {mu : Store} (h : Well w mu) : w < mu.length := let ⟨_, _, _, e⟩ := h; (List.getElem?_eq_some_iff.mp e).1
theorem Dip.well {w : Nat} {mu mu' : Store} (D : Dip w mu mu') : Well w mu' := by
  obtain ⟨⟨a, b, c, h⟩, x, y, z, rfl⟩ := D
  exact ⟨x, y, z, at_setW h⟩
theorem Dip.len {w : Nat} {mu mu' : Store} (D : Dip w mu mu') : mu'.length = mu.length := by
  obtain ⟨_, x, y, z, rfl⟩ := D
  simp
theorem okS_refl (mu : Store) : okS mu mu := ⟨Nat.le_refl _, fun r c _ e => .inl e⟩
theorem okS_set {mu m : Store} {w : Nat} {c : Cell} (h : okS mu m) (hc : rlC mu.length c = true) : okS mu (m.set w c) := by
  refine ⟨by rw [List.length_set]; exact h.1, fun r d hr e => ?_⟩
  by_cases e1 : w = r
  · subst e1
    rw [List.getElem?_set_self' ] at e
    cases q : m[w]? with
    | none => rw [q] at e; cases e
    | some x => rw [q] at e; cases e; exact .inr hc
  · rw [List.getElem?_set_ne e1] at e
    exact h.2 r d hr e
theorem okS_ext {mu m ex : Store} (h : okS mu m) (l : m.length = mu.length) : okS mu (m ++ ex) := ⟨by rw [List.length_append]; omega, fun r d hr e => h.2 r d hr (by rwa [List.getElem?_append_left (by omega)] at e)⟩
theorem Dip.ok {w : Nat} {mu mu' : Store} (D : Dip w mu mu') : okS mu mu' := by
  obtain ⟨_, x, y, z, rfl⟩ := D
  exact okS_set (okS_refl _) rfl
theorem Dip.refl {w : Nat} {mu : Store} (h : Well w mu) : Dip w mu mu := ⟨h, by
  obtain ⟨a, b, c, e⟩ := h
  refine ⟨a, b, c, ?_⟩
  obtain ⟨hl, e2⟩ := List.getElem?_eq_some_iff.mp e
  rw [← e2, List.set_getElem_self]⟩
theorem Dip.trans {w : Nat} {a b c : Store} (h1 : Dip w a b) (h2 : Dip w b c) : Dip w a c := by
  obtain ⟨q, x, y, z, rfl⟩ := h1
  obtain ⟨-, x', y', z', rfl⟩ := h2
  exact ⟨q, x', y', z', by rw [List.set_set]⟩
/-- a dip on a longer store -/
theorem Dip.ext {w : Nat} {mu ex m : Store} (h : Well w mu) (D : Dip w (mu ++ ex) m) : ∃ mu1, m = mu1 ++ ex ∧ Dip w mu mu1 := by
  obtain ⟨-, x, y, z, rfl⟩ := D
  exact ⟨mu.set w (W3 x y z), by rw [List.set_append_left _ _ h.lt], h, x, y, z, rfl⟩
theorem Well.ext {w : Nat} {mu : Store} (h : Well w mu) (ex : Store) : Well w (mu ++ ex) := by
  obtain ⟨a, b, c, e⟩ := h
  exact ⟨a, b, c, by rw [List.getElem?_append_left (List.getElem?_eq_some_iff.mp e).1]; exact e⟩
theorem fin_D {m : List Val → Store → R Val} {as : List Val} {w : Nat} {mu mu1 ex : Store} {v z : Val} (h : m as mu = .ok v (mu1 ++ ex)) (D : Dip w mu mu1) (e : frz (mu1 ++ ex) mu.length 40 v = some z) : finM m as mu = .ok z mu1 := by
  unfold finM
  rw [h]
  simp only [finR]
  rw [if_pos (okS_ext D.ok D.len), e]
  simp only
  rw [← D.len, List.take_left]
theorem fin_D0 {m : List Val → Store → R Val} {as : List Val} {w : Nat} {mu mu1 : Store} {v : Val} (h : m as mu = .ok v mu1) (D : Dip w mu mu1) (e : clB 30 v = true) : finM m as mu = .ok v mu1 :=
  fin_D (ex := []) (by rw [List.append_nil]; exact h) D (frz_cl 30 v 40 e (by decide))
theorem fin_dip {m : List Val → Store → R Val} {as : List Val} {w : Nat} {mu mu' : Store} {v : Val} {d : PyData} (h : m as mu = .ok v mu') (D : Dip w mu mu') (e : toD 31 v = some d) : finM m as mu = .ok v mu' :=
  fin_D (ex := []) (by rw [List.append_nil]; exact h) D (frz_toD 31 v d 40 e (by decide))
end CC

set_option Elab.async false
set_option linter.all false
set_option maxRecDepth 100000
set_option maxHeartbeats 1000000
/-! PL4: taking in pair by pair. -/
namespace CC
open PySem PySem.Spec PyProof.Rows L2
def isL (c : Nat) : Prop := (65 ≤ c ∧ c ≤ 90) ∨ (97 ≤ c ∧ c ≤ 122)
theorem sw_sw {c : Nat} (h : isL c) : sw1 (sw1 c) = c := by
  unfold isL at h
  unfold sw1
  split <;> split <;> (try split) <;> omega
theorem sw_L {c : Nat} (h : isL c) : isL (sw1 c) := by
  unfold isL at h ⊢
  unfold sw1
  split
  · omega
  · split <;> omega
/-- the stack, its top first -/
def pushS (c : Nat) : List Nat → List Nat
  | [] => [c]
  | d :: t => if d = sw1 c then t else c :: d :: t
theorem pushS_cons (c d : Nat) (t : List Nat) : pushS c (d :: t) = if d = sw1 c then t else c :: d :: t := rfl
def stk (s : List Nat) (st : List Nat) : List Nat := s.foldl (fun st c => pushS c st) st
def redd : List Nat → Prop
  | a :: b :: r => b ≠ sw1 a ∧ redd (b :: r)
  | _ => True
theorem redd_tail {a : Nat} : ∀ {r : List Nat}, redd (a :: r) → redd r
  | [], _ => trivial
  | _ :: _, h => h.2
theorem push_red {c : Nat} : ∀ {st : List Nat}, redd st → redd (pushS c st)
  | [], _ => trivial
  | d :: t, h => by
    rw [pushS_cons]
    by_cases e : d = sw1 c
    · rw [if_pos e]; exact redd_tail h
    · rw [if_neg e]; exact ⟨e, h⟩
theorem push_push {c : Nat} (hc : isL c) : ∀ {st : List Nat}, redd st → pushS (sw1 c) (pushS c st) = st
  | [], _ => by simp [pushS, sw_sw hc]
  | d :: t, h => by
    rw [pushS_cons c d t]
    by_cases e : d = sw1 c
    · subst e
      rw [if_pos rfl]
      cases t with
      | nil => rfl
      | cons x t =>
        have hx : x ≠ sw1 (sw1 c) := h.1
        rw [pushS_cons, if_neg hx]
    · rw [if_neg e, pushS_cons, if_pos (sw_sw hc).symm]
theorem stk_red {s : List Nat} : ∀ {st : List Nat}, redd st → redd (stk s st) := by
  induction s with
  | nil => intro st h; exact h
  | cons c s ih => intro st h; exact ih (push_red h)
theorem stk_app (a b st : List Nat) : stk (a ++ b) st = stk b (stk a st) := by
  unfold stk
  rw [List.foldl_append]
/-- a pair that stands side by side can be taken out -/
theorem stk_out (a b : List Nat) {c : Nat} (hc : isL c) : stk (a ++ c :: sw1 c :: b) [] = stk (a ++ b) [] := by
  rw [stk_app, stk_app]
  show stk b (pushS (sw1 c) (pushS c (stk a []))) = _
  rw [push_push hc (stk_red (s := a) (st := []) trivial)]
/-- what is reduced stays as it is -/
theorem stk_id : ∀ (s st : List Nat), redd (s.reverse ++ st) → stk s st = s.reverse ++ st
  | [], st, _ => rfl
  | c :: s, st, h => by
    have h' : redd (s.reverse ++ (c :: st)) := by simpa using h
    have hc : redd (c :: st) := by
      have gen : ∀ (l : List Nat), redd (l ++ (c :: st)) → redd (c :: st) := by
        intro l
        induction l with
        | nil => intro h; exact h
        | cons x l ih => intro h; exact ih (redd_tail h)
      exact gen _ h'
    show stk s (pushS c st) = _
    have e : pushS c st = c :: st := by
      cases st with
      | nil => rfl
      | cons d t =>
        rw [pushS_cons, if_neg hc.1]
    rw [e, stk_id s (c :: st) h']
    simp
end CC

set_option Elab.async false
set_option linter.all false
set_option maxRecDepth 100000
set_option maxHeartbeats 1000000
/-! PL5: a while loop that goes through. -/
namespace CC
open PySem PySem.Spec PyProof.Rows L2
theorem while_by {c : M Bool} {body : MS} (J : Nat → Env1 → Store → Prop) {I : Env1 → Store → Prop}
    (step : ∀ n r mu, J n r mu → (∃ mu1, c r mu = .ok false mu1 ∧ I r mu1) ∨ ∃ mu1 r2 mu2, c r mu = .ok true mu1 ∧ body r mu1 = .nx r2 mu2 ∧ ∃ m, m < n ∧ J m r2 mu2) :
    ∀ (fuel n : Nat) (r : Env1) (mu : Store), n < fuel → J n r mu → ∃ r' mu', whileN c body fuel r mu = .nx r' mu' ∧ I r' mu' := by
  intro fuel
  induction fuel with
  | zero => intro n r mu h; omega
  | succ fuel ih =>
    intro n r mu hn hj
    rcases step n r mu hj with ⟨mu1, e, i⟩ | ⟨mu1, r2, mu2, e1, e2, m, hm, j⟩
    · refine ⟨r, mu1, ?_, i⟩
      unfold whileN
      rw [bindS_ap, e]
      rfl
    · obtain ⟨r', mu', e3, i⟩ := ih m r2 mu2 (by omega) j
      refine ⟨r', mu', ?_, i⟩
      unfold whileN
      rw [bindS_ap, e1]
      simp only [if_true, e2]
      exact e3
end CC

set_option Elab.async false
set_option linter.all false
set_option maxRecDepth 100000
set_option maxHeartbeats 1000000
/-! PL6: what has a repr. -/
namespace CC
open PySem PySem.Spec PyProof.Rows L2
/-- a thing of depth k at most that has a repr; w: its weight -/
def Rp (k w : Nat) (v : Val) : Prop := ∃ d, (∀ n, k ≤ n → toDX n v = some d) ∧ d.showable = true ∧ d.leavesShort 50 = true ∧ d.weight ≤ w
theorem Rp.le {k k' w w' : Nat} {v : Val} (h : Rp k w v) (hk : k ≤ k') (hw : w ≤ w') : Rp k' w' v := by
  obtain ⟨d, h1, h2, h3, h4⟩ := h
  exact ⟨d, fun n hn => h1 n (by omega), h2, h3, by omega⟩
theorem toDX_non (n : Nat) : toDX n .non = some .none := by cases n <;> rfl
theorem toDX_bl (n : Nat) (b : Bool) : toDX n (.bl b) = some (.bool b) := by cases n <;> rfl
theorem toDX_int (n : Nat) (i : Int) : toDX n (.int i) = some (.int i) := by cases n <;> rfl
theorem toDX_str (n : Nat) (s : List Nat) : toDX n (.str s) = some (.str (S s)) := by cases n <;> rfl
theorem Rp.non {k w : Nat} : Rp k w .non := ⟨.none, fun n _ => toDX_non n, rfl, rfl, Nat.zero_le _⟩
theorem Rp.bl {k w : Nat} (b : Bool) : Rp k w (.bl b) := ⟨.bool b, fun n _ => toDX_bl n b, rfl, rfl, Nat.zero_le _⟩
theorem Rp.str {k w : Nat} {s : List Nat} (h : ∀ c ∈ s, c < 16 ^ 8) (hw : s.length ≤ w) : Rp k w (.str s) :=
  ⟨.str (S s), fun n _ => toDX_str n s, rfl, by
    simp only [PyData.leavesShort, List.all_eq_true, decide_eq_true_eq]
    exact h, by simpa [PyData.weight] using hw⟩
theorem Rp.int {k w : Nat} (i : Int) (h : decide ((PyData.shown (.int i)).length ≤ 50) = true) (h2 : decide (i.natAbs.log2 < w) = true) (h3 : w ≤ 1920) : Rp k w (.int i) :=
  ⟨.int i, fun n _ => toDX_int n i, by
    simp only [PyData.showable, decide_eq_true_eq] at h2 ⊢
    omega, by simpa only [PyData.leavesShort] using h, by
    simp only [PyData.weight, decide_eq_true_eq] at h2 ⊢
    split <;> omega⟩
theorem rp_all {k w : Nat} : ∀ {xs : List Val}, (∀ x ∈ xs, Rp k w x) → ∃ ds, (∀ n, k ≤ n → mapO (toDX n) xs = some ds) ∧ PyData.showableAll ds = true ∧ PyData.leavesShortAll 50 ds = true ∧ PyData.weightAll ds ≤ xs.length * (w + 1)
  | [], _ => ⟨[], fun _ _ => rfl, rfl, rfl, Nat.zero_le _⟩
  | x :: xs, h => by
    obtain ⟨d, h1, h2, h3, h4⟩ := h x List.mem_cons_self
    obtain ⟨ds, g1, g2, g3, g4⟩ := rp_all (xs := xs) fun y hy => h y (List.mem_cons_of_mem _ hy)
    refine ⟨d :: ds, fun n hn => ?_, ?_, ?_, ?_⟩
    · unfold mapO
      rw [h1 n hn, g1 n hn]
    · simp only [PyData.showableAll, h2, g2, Bool.and_self]
    · simp only [PyData.leavesShortAll, h3, g3, Bool.and_self]
    · simp only [PyData.weightAll, List.length_cons, Nat.add_mul, Nat.one_mul]
      omega
theorem Rp.lst {k w : Nat} {xs : List Val} (h : ∀ x ∈ xs, Rp k w x) : Rp (k + 1) (xs.length * (w + 1)) (.lst xs) := by
  obtain ⟨ds, g1, g2, g3, g4⟩ := rp_all h
  refine ⟨.list ds, fun n hn => ?_, ?_, ?_, ?_⟩
  · obtain ⟨n, rfl⟩ : ∃ m, n = m + 1 := ⟨n - 1, by omega⟩
    simp only [toDX, g1 n (by omega), Option.map_some]
  · simp only [PyData.showable, g2]
  · simp only [PyData.leavesShort, g3]
  · simpa only [PyData.weight] using g4
theorem Rp.tup {k w : Nat} {xs : List Val} (h : ∀ x ∈ xs, Rp k w x) : Rp (k + 1) (xs.length * (w + 1)) (.tup xs) := by
  obtain ⟨ds, g1, g2, g3, g4⟩ := rp_all h
  refine ⟨.tuple ds, fun n hn => ?_, ?_, ?_, ?_⟩
  · obtain ⟨n, rfl⟩ : ∃ m, n = m + 1 := ⟨n - 1, by omega⟩
    simp only [toDX, g1 n (by omega), Option.map_some]
  · simp only [PyData.showable, g2]
  · simp only [PyData.leavesShort, g3]
  · simpa only [PyData.weight] using g4
theorem Rp.lst' {k w W : Nat} {xs : List Val} (h : ∀ x ∈ xs, Rp k w x) (hw : xs.length * (w + 1) ≤ W) : Rp (k + 1) W (.lst xs) := (Rp.lst h).le (Nat.le_refl _) hw
theorem Rp.tup' {k w W : Nat} {xs : List Val} (h : ∀ x ∈ xs, Rp k w x) (hw : xs.length * (w + 1) ≤ W) : Rp (k + 1) W (.tup xs) := (Rp.tup h).le (Nat.le_refl _) hw
/-- by running, for what is written -/
def rpB (w : Nat) (v : Val) : Bool := match toDX 5 v with
  | some d => d.showable && (d.leavesShort 50 && decide (d.weight ≤ w))
  | none => false
theorem toDX_mono : ∀ (n : Nat) (v : Val) (d : PyData) (m : Nat), toDX n v = some d → n ≤ m → toDX m v = some d := by
  intro n
  induction n with
  | zero =>
    intro v d m h hm
    cases v with
    | non => rw [toDX_non] at h ⊢; exact h
    | bl b => rw [toDX_bl] at h ⊢; exact h
    | int b => rw [toDX_int] at h ⊢; exact h
    | str b => rw [toDX_str] at h ⊢; exact h
    | _ => cases h
  | succ n ih =>
    intro v d m h hm
    obtain ⟨m, rfl⟩ : ∃ k, m = k + 1 := ⟨m - 1, by omega⟩
    have hm : n ≤ m := by omega
    have all : ∀ (xs : List Val) (ds : List PyData), mapO (toDX n) xs = some ds → mapO (toDX m) xs = some ds := by
      intro xs
      induction xs with
      | nil => intro ds h; exact h
      | cons x xs ihx =>
        intro ds h
        obtain ⟨y, ys, e1, e2, rfl⟩ := mapO_cons h
        unfold mapO
        rw [ih x y m e1 hm, ihx ys e2]
    cases v with
    | tup xs =>
      simp only [toDX] at h ⊢
      obtain ⟨ds, e, rfl⟩ := Option.map_eq_some_iff.mp h
      rw [all xs ds e]
      rfl
    | lst xs =>
      simp only [toDX] at h ⊢
      obtain ⟨ds, e, rfl⟩ := Option.map_eq_some_iff.mp h
      rw [all xs ds e]
      rfl
    | dct kvs =>
      simp only [toDX] at h ⊢
      obtain ⟨ds, e, rfl⟩ := Option.map_eq_some_iff.mp h
      have : ∀ (kvs : List (DKey × Val)) (ds : List (PyData × PyData)), mapO (fun q : DKey × Val => (kD q.1).bind fun k => (toDX n q.2).map fun v => (k, v)) kvs = some ds → mapO (fun q : DKey × Val => (kD q.1).bind fun k => (toDX m q.2).map fun v => (k, v)) kvs = some ds := by
        intro kvs
        induction kvs with
        | nil => intro ds h; exact h
        | cons q kvs ihx =>
          intro ds h
          obtain ⟨y, ys, e1, e2, rfl⟩ := mapO_cons h
          obtain ⟨k, hk, e1⟩ := Option.bind_eq_some_iff.mp e1
          obtain ⟨z, hz, rfl⟩ := Option.map_eq_some_iff.mp e1
          unfold mapO
          rw [ihx ys e2]
          simp only [hk, Option.bind_some, ih q.2 z m hz hm, Option.map_some]
      rw [this kvs ds e]
      rfl
    | non => rw [toDX_non] at h ⊢; exact h
    | bl b => rw [toDX_bl] at h ⊢; exact h
    | int b => rw [toDX_int] at h ⊢; exact h
    | str b => rw [toDX_str] at h ⊢; exact h
    | _ => cases h
theorem rp_of {w : Nat} {v : Val} (h : rpB w v = true) : Rp 5 w v := by
  unfold rpB at h
  split at h
  · rename_i d e
    simp only [Bool.and_eq_true, decide_eq_true_eq] at h
    exact ⟨d, fun n hn => toDX_mono 5 v d n e hn, h.1, h.2.1, h.2.2⟩
  · cases h
theorem repr_rp {v : Val} (h : Rp 31 100000 v) (mu : Store) : ∃ t, reprX mu [v] = some (.str t) := by
  obtain ⟨d, h1, h2, h3, h4⟩ := h
  have e : toDX1 mu v = some d := by
    have := h1 31 (Nat.le_refl _)
    cases v with
    | ref r => cases this
    | _ => exact this
  have hs := PyData.shown_le 50 (by decide) d h3
  have hz : sizeLine = 16777216 := by decide
  refine ⟨shownL d, ?_⟩
  simp only [reprX, e]
  rw [if_pos ⟨h2, by omega⟩]
theorem ne_text (mu : Store) (t : List Nat) : CC.neV mu (.str t) (.str t) = some (.bl false) := by
  have := plS.neV (mu := mu) (by decide) t t
  simpa [plS] using this
end CC

set_option Elab.async false
set_option linter.all false
set_option maxRecDepth 100000
set_option maxHeartbeats 2000000
namespace K06
open PySem PySem.Spec PyProof.Rows L2 CC

abbrev lets : List Nat := (("abcdefghijklmnopqrstuvwxyz" : Str)).cps.toList
def nameB (s : List Nat) : Bool := decide (1 ≤ s.length) && decide (s.length ≤ 8) && s.all fun c => decide (c ∈ lets)

theorem kt_ss : kt (.inl "str") (.inl "str") = some true := by decide +kernel
theorem kt_tt : kt (.inl "tuple") (.inl "tuple") = some true := by decide +kernel

theorem allV_map {α : Type} {mu : Store} (p : α → Bool) (ys : List α) : allV mu [.lst (ys.map fun y => .bl (p y))] = some (.bl (ys.all p)) := by
  simp only [allV, seqL2, seqL]
  rw [show mapO blO (ys.map fun y => Val.bl (p y)) = some (ys.map p) from by
    induction ys with
    | nil => rfl
    | cons y ys ih => simp only [List.map_cons]; unfold mapO; simp only [blO, ih]]
  simp [List.all_map]
theorem m_is_name_eq (s : List Nat) (mu : Store) (hl : s.length ≤ 100000) : m_is_name [.str s] mu = .ok (.bl (nameB s)) mu := by
  refine fin_pl0 (d := .bool (nameB s)) ?_ rfl
  have e : lcM (itS (vM 0)) [1] oneC yesT (b2 inV2 (vM 1) (cM (strL (Str.ofString "abcdefghijklmnopqrstuvwxyz")))) [1] [some (.str s), none] mu = .ok (.lst (s.map fun c => .bl (decide (c ∈ lets)))) mu :=
    lcM_ok rfl (by simpa using hl) (lcL_map trivial (fun c => .str [c]) (fun c => .bl (decide (c ∈ lets))) s fun c hc => ⟨[.str [c]], rfl, rfl⟩)
  by_cases h1 : (1 : Int) ≤ s.length
  · by_cases h2 : (s.length : Int) ≤ 8
    · have h1' : 1 ≤ s.length := by omega
      have h2' : s.length ≤ 8 := by omega
      simp only [m0_is_name, defK, b_is_name, seqS, ifS_ap, retS_ap, asgS_ap, exprS_ap, forS_ap, parS_ap, bindS_ap, nextS, orT, andT, notT, tstM, CC.tB, blM, CC.andM, CC.orM, CC.notM, ifM, b2, u1, fA, vM, cM, optR, R.bind, consM, nilM, tupM, lstM, newM, slM, noP, inP, chM, gNameM, gSubM, gFldM, optX, gPc, gTupM, gListM, setAll, oneC, tupC, yesT, itT, itL, itS, itR1, itEnT, callM, isiV, tagOf, truV, sm0, sm1, lmM, dnewM, objV, isNV, List.set, List.length_cons, List.length_nil, List.map_cons, List.map_nil, List.cons_append, List.nil_append, List.append_assoc, List.length_append, List.replicate, List.getElem?_cons_zero, List.getElem?_cons_succ, Option.bind_some, Option.map_some, Option.bind_none, Option.map_none, if_true, if_false, ↓reduceIte, Nat.zero_le, Nat.zero_add, Nat.reduceAdd, Nat.reduceSub, Nat.sub_self, List.append_nil, Nat.reduceLeDiff, Bool.false_eq_true, Bool.not_true, Bool.not_false, Bool.true_eq_false, propM, clsM, noX, mkKM, mkVM, strL, kt_ss, leV, ordV, lenV, hl, h1, h2, e, decide_true, decide_false, allV_map, nameB, h1', h2', Bool.true_and]
    · have h2' : ¬ s.length ≤ 8 := by omega
      simp only [m0_is_name, defK, b_is_name, seqS, ifS_ap, retS_ap, asgS_ap, exprS_ap, forS_ap, parS_ap, bindS_ap, nextS, orT, andT, notT, tstM, CC.tB, blM, CC.andM, CC.orM, CC.notM, ifM, b2, u1, fA, vM, cM, optR, R.bind, consM, nilM, tupM, lstM, newM, slM, noP, inP, chM, gNameM, gSubM, gFldM, optX, gPc, gTupM, gListM, setAll, oneC, tupC, yesT, itT, itL, itS, itR1, itEnT, callM, isiV, tagOf, truV, sm0, sm1, lmM, dnewM, objV, isNV, List.set, List.length_cons, List.length_nil, List.map_cons, List.map_nil, List.cons_append, List.nil_append, List.append_assoc, List.length_append, List.replicate, List.getElem?_cons_zero, List.getElem?_cons_succ, Option.bind_some, Option.map_some, Option.bind_none, Option.map_none, if_true, if_false, ↓reduceIte, Nat.zero_le, Nat.zero_add, Nat.reduceAdd, Nat.reduceSub, Nat.sub_self, List.append_nil, Nat.reduceLeDiff, Bool.false_eq_true, Bool.not_true, Bool.not_false, Bool.true_eq_false, propM, clsM, noX, mkKM, mkVM, strL, kt_ss, leV, ordV, lenV, hl, h1, h2, e, decide_true, decide_false, allV_map, nameB, h2', Bool.and_false, Bool.false_and]
  · have h1' : ¬ 1 ≤ s.length := by omega
    simp only [m0_is_name, defK, b_is_name, seqS, ifS_ap, retS_ap, asgS_ap, exprS_ap, forS_ap, parS_ap, bindS_ap, nextS, orT, andT, notT, tstM, CC.tB, blM, CC.andM, CC.orM, CC.notM, ifM, b2, u1, fA, vM, cM, optR, R.bind, consM, nilM, tupM, lstM, newM, slM, noP, inP, chM, gNameM, gSubM, gFldM, optX, gPc, gTupM, gListM, setAll, oneC, tupC, yesT, itT, itL, itS, itR1, itEnT, callM, isiV, tagOf, truV, sm0, sm1, lmM, dnewM, objV, isNV, List.set, List.length_cons, List.length_nil, List.map_cons, List.map_nil, List.cons_append, List.nil_append, List.append_assoc, List.length_append, List.replicate, List.getElem?_cons_zero, List.getElem?_cons_succ, Option.bind_some, Option.map_some, Option.bind_none, Option.map_none, if_true, if_false, ↓reduceIte, Nat.zero_le, Nat.zero_add, Nat.reduceAdd, Nat.reduceSub, Nat.sub_self, List.append_nil, Nat.reduceLeDiff, Bool.false_eq_true, Bool.not_true, Bool.not_false, Bool.true_eq_false, propM, clsM, noX, mkKM, mkVM, strL, kt_ss, leV, ordV, lenV, hl, h1, e, decide_true, decide_false, allV_map, nameB, h1', Bool.and_false, Bool.false_and]
def letB (s : List Nat) : Bool := decide (s.length = 1) && s.all fun c => decide (c ∈ lets)
theorem m_is_letter_eq (c : Nat) (mu : Store) : m_is_letter [.str [c]] mu = .ok (.bl (decide (c ∈ lets))) mu := by
  refine fin_pl0 (d := .bool (decide (c ∈ lets))) ?_ rfl
  have e : CC.eqV mu (.int ((1 : Nat) : Int)) (.int 1) = some (.bl true) := rfl
  have e2 : inV2 mu (.str [c]) (strL (Str.ofString "abcdefghijklmnopqrstuvwxyz")) = some (.bl (decide (c ∈ lets))) := rfl
  simp only [m0_is_letter, defK, b_is_letter, seqS, ifS_ap, retS_ap, asgS_ap, exprS_ap, forS_ap, parS_ap, bindS_ap, nextS, orT, andT, notT, tstM, CC.tB, blM, CC.andM, CC.orM, CC.notM, ifM, b2, u1, fA, vM, cM, optR, R.bind, consM, nilM, tupM, lstM, newM, slM, noP, inP, chM, gNameM, gSubM, gFldM, optX, gPc, gTupM, gListM, setAll, oneC, tupC, yesT, itT, itL, itS, itR1, itEnT, callM, isiV, tagOf, truV, sm0, sm1, lmM, dnewM, objV, isNV, List.set, List.length_cons, List.length_nil, List.map_cons, List.map_nil, List.cons_append, List.nil_append, List.append_assoc, List.length_append, List.replicate, List.getElem?_cons_zero, List.getElem?_cons_succ, Option.bind_some, Option.map_some, Option.bind_none, Option.map_none, if_true, if_false, ↓reduceIte, Nat.zero_le, Nat.zero_add, Nat.reduceAdd, Nat.reduceSub, Nat.sub_self, List.append_nil, Nat.reduceLeDiff, Bool.false_eq_true, Bool.not_true, Bool.not_false, Bool.true_eq_false, propM, clsM, noX, mkKM, mkVM, strL, kt_ss, lenV, e, e2]
/-! ### rooms -/
abbrev roomsV (cs : List (List Nat)) : Val := .tup (cs.map .str)
theorem toD_rooms {k : Nat} (cs : List (List Nat)) : toD (k + 1) (roomsV cs) = some (.tuple (cs.map fun s => .str (S s))) := toD_tupM fun y _ => toD_str k y
theorem eqv_rooms (a b : List (List Nat)) : PyData.eqv (.tuple (a.map fun s => .str (S s))) (.tuple (b.map fun s => .str (S s))) = decide (a = b) := by rw [eqv_tup]; exact eqvAll_map (fun _ _ => eqv_str) a b
theorem any_str (s : List Nat) (cs : List (List Nat)) : ((cs.map fun s => PyData.str (S s)).any fun z => PyData.eqv z (.str (S s))) = decide (s ∈ cs) := by
  induction cs with
  | nil => rfl
  | cons c cs ih =>
    simp only [List.map_cons, List.any_cons, ih, eqv_str, List.mem_cons]
    by_cases h1 : c = s
    · subst h1; simp
    · have : s ≠ c := fun e => h1 e.symm
      simp [h1, this]
theorem in_rooms (mu : Store) (s : List Nat) (cs : List (List Nat)) : inV2 mu (.str s) (roomsV cs) = some (.bl (decide (s ∈ cs))) := by
  have e : inB mu (.str s) (roomsV cs) = some (decide (s ∈ cs)) := by
    simp only [inB, toD_str]
    rw [toDs_map (k := 30) (g := fun s => PyData.str (S s)) fun y _ => toD_str 30 y]
    simp only [any_str]
  unfold inV2
  rw [e]
  rfl

theorem cut_to {α : Type} (xs : List α) (i : Nat) (h : i ≤ xs.length) : cutL xs none (some (i : Int)) = xs.take i := by
  unfold cutL
  rw [HT.sIx_nat, HT.sIx_none, Nat.min_eq_left h]
  simp
theorem cut_from {α : Type} (xs : List α) (i : Nat) (h : i ≤ xs.length) : cutL xs (some (i : Int)) none = xs.drop i := by
  unfold cutL
  rw [HT.sIx_nat, HT.sIx_none, Nat.min_eq_left h]
  exact List.take_of_length_le (by simp)
theorem fors {a : Env1 → Prop} {mu : Store} {y : SR} (h : ∃ r' mu', y = .nx r' mu' ∧ (a r' ∧ mu' = mu)) : ∃ r' mu', y = .nx r' mu' ∧ mu' = mu := let ⟨r, m, h1, h2⟩ := h; ⟨r, m, h1, h2.2⟩
def roomsB (cs : List (List Nat)) : Prop := cs ≠ [] ∧ cs.length ≤ 4 ∧ cs.Nodup ∧ ∀ s ∈ cs, nameB s = true
theorem nameB_len {s : List Nat} (h : nameB s = true) : s.length ≤ 8 := by
  unfold nameB at h
  simp only [Bool.and_eq_true, decide_eq_true_eq] at h
  exact h.1.2
theorem enum_at {cs : List (List Nat)} {i : Nat} {x : Val} (h : (numL (cs.map Val.str))[i]? = some x) : ∃ c, cs[i]? = some c ∧ x = .tup [.int i, .str c] := by
  have hl : i < cs.length := by
    have := List.getElem?_eq_some_iff.mp h
    obtain ⟨w, _⟩ := this
    rw [numL_len, List.length_map] at w
    exact w
  have e : (cs.map Val.str)[i]? = some (.str cs[i]) := by simp [List.getElem?_map, hl]
  rw [numL_at e] at h
  cases h
  exact ⟨cs[i], List.getElem?_eq_getElem hl, rfl⟩
theorem not_take {cs : List (List Nat)} (nd : cs.Nodup) {i : Nat} {c : List Nat} (h : cs[i]? = some c) : c ∉ cs.take i := by
  intro hm
  obtain ⟨j, hj, e⟩ := List.getElem_of_mem hm
  rw [List.length_take] at hj
  rw [List.getElem_take] at e
  obtain ⟨hl, e2⟩ := List.getElem?_eq_some_iff.mp h
  exact (List.pairwise_iff_getElem.mp nd) j i (by omega) hl (by omega) (e.trans e2.symm)
/-! ### whatever stands for the rooms -/
def odB : Val → Bool
  | .non => true
  | .bl _ => true
  | .int _ => true
  | .str s => decide (s.length ≤ 1000)
  | .tup _ => true
  | .lst _ => true
  | .dct _ => true
  | _ => false
def nmV : Val → Bool
  | .str s => nameB s
  | _ => false
theorem kt_ns : kt (.inl "NoneType") (.inl "str") = some false := by decide +kernel
theorem kt_bs : kt (.inl "bool") (.inl "str") = some false := by decide +kernel
theorem kt_is : kt (.inl "int") (.inl "str") = some false := by decide +kernel
theorem kt_ts : kt (.inl "tuple") (.inl "str") = some false := by decide +kernel
theorem kt_ls : kt (.inl "list") (.inl "str") = some false := by decide +kernel
theorem kt_ds : kt (.inl "dict") (.inl "str") = some false := by decide +kernel
theorem kt_nt : kt (.inl "NoneType") (.inl "tuple") = some false := by decide +kernel
theorem kt_bt : kt (.inl "bool") (.inl "tuple") = some false := by decide +kernel
theorem kt_it : kt (.inl "int") (.inl "tuple") = some false := by decide +kernel
theorem kt_st : kt (.inl "str") (.inl "tuple") = some false := by decide +kernel
theorem kt_lt : kt (.inl "list") (.inl "tuple") = some false := by decide +kernel
theorem kt_dt : kt (.inl "dict") (.inl "tuple") = some false := by decide +kernel
def isS : Val → Bool
  | .str _ => true
  | _ => false
def isT : Val → Bool
  | .tup _ => true
  | _ => false
theorem isi_str {mu : Store} {v : Val} (h : odB v = true) : isiV kt ic mu [v, .ty "str"] = some (.bl (isS v)) := by
  cases v <;> first | (cases h; done) | (simp only [isiV, tagOf, Option.bind_some, kt_ns, kt_bs, kt_is, kt_ss, kt_ts, kt_ls, kt_ds, Option.map_some, isS]; done)
theorem isi_tup {mu : Store} {v : Val} (h : odB v = true) : isiV kt ic mu [v, .ty "tuple"] = some (.bl (isT v)) := by
  cases v <;> first | (cases h; done) | (simp only [isiV, tagOf, Option.bind_some, kt_nt, kt_bt, kt_it, kt_st, kt_tt, kt_lt, kt_dt, Option.map_some, isT]; done)
theorem is_name_od {mu : Store} {v : Val} (h : odB v = true) : m_is_name [v] mu = .ok (.bl (nmV v)) mu := by
  cases e : isS v with
  | true =>
    cases v with
    | str s => exact m_is_name_eq s mu (by have : s.length ≤ 1000 := by simpa [odB] using h
                                           omega)
    | _ => cases e
  | false =>
    have n : nmV v = false := by cases v <;> first | rfl | cases e
    rw [n]
    refine fin_pl0 (d := .bool false) ?_ rfl
    have i := isi_str (mu := mu) h
    rw [e] at i
    unfold m0_is_name
    refine defK_rt rfl ?_
    unfold b_is_name
    simp only [seqS, ifS_ap, retS_ap, asgS_ap, exprS_ap, forS_ap, parS_ap, bindS_ap, nextS, orT, andT, notT, tstM, CC.tB, blM, CC.andM, CC.orM, CC.notM, ifM, b2, u1, fA, vM, cM, optR, R.bind, consM, nilM, tupM, lstM, newM, slM, noP, inP, chM, gNameM, gSubM, gFldM, optX, gPc, gTupM, gListM, setAll, oneC, tupC, yesT, itT, itL, itS, itR1, itEnT, callM, truV, sm0, sm1, lmM, dnewM, objV, isNV, List.set, List.length_cons, List.length_nil, List.map_cons, List.map_nil, List.cons_append, List.nil_append, List.append_assoc, List.length_append, List.replicate, List.getElem?_cons_zero, List.getElem?_cons_succ, Option.bind_some, Option.map_some, Option.bind_none, Option.map_none, if_true, if_false, ↓reduceIte, Nat.zero_le, Nat.zero_add, Nat.reduceAdd, Nat.reduceSub, Nat.sub_self, List.append_nil, Nat.reduceLeDiff, Bool.false_eq_true, Bool.not_true, Bool.not_false, Bool.true_eq_false, propM, clsM, noX, mkKM, mkVM, strL, i]
theorem first_bad (P : Nat → Prop) : ∀ n, (∀ j < n, P j) ∨ ∃ i, i < n ∧ (∀ j < i, P j) ∧ ¬ P i
  | 0 => .inl fun j h => absurd h (Nat.not_lt_zero _)
  | n + 1 => by
    rcases first_bad P n with h | ⟨i, h1, h2, h3⟩
    · by_cases hn : P n
      · exact .inl fun j hj => by
          rcases Nat.lt_succ_iff_lt_or_eq.mp hj with q | rfl
          · exact h j q
          · exact hn
      · exact .inr ⟨n, Nat.lt_succ_self n, h, hn⟩
    · exact .inr ⟨i, by omega, h2, h3⟩
def goodAt (xs : List Val) (j : Nat) : Prop := ∃ s, xs[j]? = some (.str s) ∧ nameB s = true ∧ Val.str s ∉ xs.take j ∧ j < 4
inductive DueR (xs : List Val) : List Val → Prop where
  | ok : (∀ j < xs.length, goodAt xs j) → DueR xs []
  | bad (i : Nat) : i < xs.length → (∀ j < i, goodAt xs j) → ¬ goodAt xs i → DueR xs [.int i]
theorem due_ex (xs : List Val) : ∃ out, DueR xs out := by
  rcases first_bad (goodAt xs) xs.length with h | ⟨i, h1, h2, h3⟩
  · exact ⟨_, .ok h⟩
  · exact ⟨_, .bad i h1 h2 h3⟩
theorem good_pre {xs : List Val} : ∀ {i : Nat}, i ≤ xs.length → (∀ j < i, goodAt xs j) → ∃ ss : List (List Nat), xs.take i = ss.map .str ∧ ss.Nodup ∧ ∀ s ∈ ss, nameB s = true
  | 0, _, _ => ⟨[], rfl, List.nodup_nil, fun s h => by cases h⟩
  | i + 1, hi, h => by
    obtain ⟨ss, e, nd, nb⟩ := good_pre (i := i) (by omega) fun j hj => h j (by omega)
    obtain ⟨s, h1, h2, h3, h4⟩ := h i (by omega)
    have hs : s ∉ ss := fun z => h3 (by rw [e]; exact List.mem_map.mpr ⟨s, z, rfl⟩)
    refine ⟨ss ++ [s], by rw [List.take_succ, h1, e]; simp, ?_, fun t ht => ?_⟩
    · rw [List.nodup_append]
      exact ⟨nd, by simp, fun a ha b hb => by rw [List.mem_singleton.mp hb]; exact fun q => hs (q ▸ ha)⟩
    · rcases List.mem_append.mp ht with q | q
      · exact nb t q
      · rw [List.mem_singleton.mp q]; exact h2
theorem sl_tup {mu : Store} (xs : List Val) (j : Nat) : slV mu (.tup xs) none (some (j : Int)) = some (.tup (xs.take j)) := by
  show some (Val.tup (cutL xs none (some (j : Int)))) = _
  rw [cut_fore]
theorem in_pre {m : Store} {xs : List Val} {i : Nat} (hi : i ≤ xs.length) (h : ∀ j < i, goodAt xs j) (s : List Nat) : ∃ b, inV2 m (.str s) (.tup (xs.take i)) = some (.bl b) ∧ (b = true ↔ Val.str s ∈ xs.take i) := by
  obtain ⟨ss, e, -, -⟩ := good_pre hi h
  refine ⟨decide (s ∈ ss), by rw [e]; exact in_rooms m s ss, ?_⟩
  rw [decide_eq_true_iff, e]
  exact ⟨fun z => List.mem_map.mpr ⟨s, z, rfl⟩, fun z => by obtain ⟨t, ht, q⟩ := List.mem_map.mp z; cases q; exact ht⟩
theorem bad_le {xs : List Val} {i : Nat} (h : ∀ j < i, goodAt xs j) : i ≤ 4 := by
  cases i with
  | zero => omega
  | succ i => obtain ⟨s, -, -, -, h4⟩ := h i (by omega); omega
theorem eqE_tup {mu : Store} {xs : List Val} (h : xs ≠ []) : eqE mu (.tup xs) (.tup []) = some (.bl false) := by
  cases xs with
  | nil => exact absurd rfl h
  | cons x xs => rfl
theorem eq_int {mu : Store} {a b : Int} : CC.eqV mu (.int a) (.int b) = some (.bl (decide (a = b))) := plI.eqV (by decide) a b
noncomputable abbrev wrBody : MS := ifS (orT (CC.tB (b2 CC.eqV (vM 1) (cM (.int 4)))) (orT (notT (tstM (callM m_is_name (consM (vM 2) nilM)))) (CC.tB (b2 inV2 (vM 2) (slM slV (vM 0) noP (inP (vM 1))))))) (retS (tupM (consM (vM 1) nilM))) nextS
theorem wr_good {xs : List Val} {j : Nat} {m : Store} (hj : j < xs.length) (h : ∀ k ≤ j, goodAt xs k) : ∃ x, xs[j]? = some x ∧ wrBody [some (.tup xs), some (.int j), some x] m = .nx [some (.tup xs), some (.int j), some x] m := by
  obtain ⟨s, h1, h2, h3, h4⟩ := h j (Nat.le_refl _)
  refine ⟨.str s, h1, ?_⟩
  obtain ⟨b, e6, hb⟩ := in_pre (m := m) (Nat.le_of_lt hj) (fun k hk => h k (Nat.le_of_lt hk)) s
  have hbf : b = false := by
    cases b with
    | false => rfl
    | true => exact absurd (hb.mp rfl) h3
  subst hbf
  have e4 : decide ((j : Int) = 4) = false := decide_eq_false (by omega)
  have n1 := m_is_name_eq s m (by have := nameB_len h2; omega)
  rw [h2] at n1
  simp only [seqS, ifS_ap, retS_ap, asgS_ap, exprS_ap, forS_ap, parS_ap, bindS_ap, nextS, orT, andT, notT, tstM, CC.tB, blM, CC.andM, CC.orM, CC.notM, ifM, b2, u1, fA, vM, cM, optR, R.bind, consM, nilM, tupM, lstM, newM, slM, noP, inP, chM, gNameM, gSubM, gFldM, optX, gPc, gTupM, gListM, setAll, oneC, tupC, yesT, itT, itL, itS, itR1, itEnT, callM, isiV, tagOf, truV, sm0, sm1, lmM, dnewM, objV, isNV, List.set, List.length_cons, List.length_nil, List.map_cons, List.map_nil, List.cons_append, List.nil_append, List.append_assoc, List.length_append, List.replicate, List.getElem?_cons_zero, List.getElem?_cons_succ, Option.bind_some, Option.map_some, Option.bind_none, Option.map_none, if_true, if_false, ↓reduceIte, Nat.zero_le, Nat.zero_add, Nat.reduceAdd, Nat.reduceSub, Nat.sub_self, List.append_nil, Nat.reduceLeDiff, Bool.false_eq_true, Bool.not_true, Bool.not_false, Bool.true_eq_false, propM, clsM, noX, mkKM, mkVM, strL, eq_int, e4, n1, sl_tup, e6]
theorem wr_bad {xs : List Val} {i : Nat} {m : Store} (hi : i < xs.length) (h : ∀ k < i, goodAt xs k) (nb : ¬ goodAt xs i) (hod : ∀ y ∈ xs, odB y = true) : ∃ x, xs[i]? = some x ∧ wrBody [some (.tup xs), some (.int i), some x] m = .rt (.tup [.int i]) m := by
  have hx : xs[i]? = some xs[i] := List.getElem?_eq_getElem hi
  refine ⟨xs[i], hx, ?_⟩
  generalize xs[i] = x at hx
  have ox := hod x (List.mem_of_getElem? hx)
  have n1 := is_name_od (mu := m) ox
  by_cases h4 : i = 4
  · have e4 : decide ((i : Int) = 4) = true := decide_eq_true (by omega)
    simp only [seqS, ifS_ap, retS_ap, asgS_ap, exprS_ap, forS_ap, parS_ap, bindS_ap, nextS, orT, andT, notT, tstM, CC.tB, blM, CC.andM, CC.orM, CC.notM, ifM, b2, u1, fA, vM, cM, optR, R.bind, consM, nilM, tupM, lstM, newM, slM, noP, inP, chM, gNameM, gSubM, gFldM, optX, gPc, gTupM, gListM, setAll, oneC, tupC, yesT, itT, itL, itS, itR1, itEnT, callM, isiV, tagOf, truV, sm0, sm1, lmM, dnewM, objV, isNV, List.set, List.length_cons, List.length_nil, List.map_cons, List.map_nil, List.cons_append, List.nil_append, List.append_assoc, List.length_append, List.replicate, List.getElem?_cons_zero, List.getElem?_cons_succ, Option.bind_some, Option.map_some, Option.bind_none, Option.map_none, if_true, if_false, ↓reduceIte, Nat.zero_le, Nat.zero_add, Nat.reduceAdd, Nat.reduceSub, Nat.sub_self, List.append_nil, Nat.reduceLeDiff, Bool.false_eq_true, Bool.not_true, Bool.not_false, Bool.true_eq_false, propM, clsM, noX, mkKM, mkVM, strL, eq_int, e4]
  · have e4 : decide ((i : Int) = 4) = false := decide_eq_false (by omega)
    cases hn : nmV x with
    | false =>
      rw [hn] at n1
      simp only [seqS, ifS_ap, retS_ap, asgS_ap, exprS_ap, forS_ap, parS_ap, bindS_ap, nextS, orT, andT, notT, tstM, CC.tB, blM, CC.andM, CC.orM, CC.notM, ifM, b2, u1, fA, vM, cM, optR, R.bind, consM, nilM, tupM, lstM, newM, slM, noP, inP, chM, gNameM, gSubM, gFldM, optX, gPc, gTupM, gListM, setAll, oneC, tupC, yesT, itT, itL, itS, itR1, itEnT, callM, isiV, tagOf, truV, sm0, sm1, lmM, dnewM, objV, isNV, List.set, List.length_cons, List.length_nil, List.map_cons, List.map_nil, List.cons_append, List.nil_append, List.append_assoc, List.length_append, List.replicate, List.getElem?_cons_zero, List.getElem?_cons_succ, Option.bind_some, Option.map_some, Option.bind_none, Option.map_none, if_true, if_false, ↓reduceIte, Nat.zero_le, Nat.zero_add, Nat.reduceAdd, Nat.reduceSub, Nat.sub_self, List.append_nil, Nat.reduceLeDiff, Bool.false_eq_true, Bool.not_true, Bool.not_false, Bool.true_eq_false, propM, clsM, noX, mkKM, mkVM, strL, eq_int, e4, n1]
    | true =>
      rw [hn] at n1
      cases x with
      | str s =>
        obtain ⟨b, e6, hb⟩ := in_pre (m := m) (Nat.le_of_lt hi) h s
        have hbt : b = true := hb.mpr (Classical.byContradiction fun z => nb ⟨s, hx, hn, z, by have := bad_le h; omega⟩)
        subst hbt
        simp only [seqS, ifS_ap, retS_ap, asgS_ap, exprS_ap, forS_ap, parS_ap, bindS_ap, nextS, orT, andT, notT, tstM, CC.tB, blM, CC.andM, CC.orM, CC.notM, ifM, b2, u1, fA, vM, cM, optR, R.bind, consM, nilM, tupM, lstM, newM, slM, noP, inP, chM, gNameM, gSubM, gFldM, optX, gPc, gTupM, gListM, setAll, oneC, tupC, yesT, itT, itL, itS, itR1, itEnT, callM, isiV, tagOf, truV, sm0, sm1, lmM, dnewM, objV, isNV, List.set, List.length_cons, List.length_nil, List.map_cons, List.map_nil, List.cons_append, List.nil_append, List.append_assoc, List.length_append, List.replicate, List.getElem?_cons_zero, List.getElem?_cons_succ, Option.bind_some, Option.map_some, Option.bind_none, Option.map_none, if_true, if_false, ↓reduceIte, Nat.zero_le, Nat.zero_add, Nat.reduceAdd, Nat.reduceSub, Nat.sub_self, List.append_nil, Nat.reduceLeDiff, Bool.false_eq_true, Bool.not_true, Bool.not_false, Bool.true_eq_false, propM, clsM, noX, mkKM, mkVM, strL, eq_int, e4, n1, sl_tup, e6]
      | _ => cases hn
theorem enT {m : Store} {xs : List Val} {r : Env1} (h : r[0]? = some (some (.tup xs))) : itEnT (consM (vM 0) nilM) r m = .ok (numL xs, allOk) m := by
  simp only [itEnT, consM, vM, h, nilM, R.bind]
theorem num_at {xs : List Val} {i : Nat} {y : Val} (h : (numL xs)[i]? = some y) : ∃ x, xs[i]? = some x ∧ y = .tup [.int i, x] := by
  have hl : i < xs.length := by
    obtain ⟨w, _⟩ := List.getElem?_eq_some_iff.mp h
    rwa [numL_len] at w
  have e : xs[i]? = some xs[i] := List.getElem?_eq_getElem hl
  rw [numL_at e] at h
  cases h
  exact ⟨xs[i], e, rfl⟩
theorem m_wrong_room_tup {xs : List Val} {out : List Val} (hne : xs ≠ []) (hod : ∀ y ∈ xs, odB y = true) (h : DueR xs out) (mu : Store) : m_wrong_room [.tup xs] mu = .ok (.tup out) mu := by
  have ht : ∃ d, toD 31 (.tup out) = some d := by
    cases h with
    | ok _ => exact ⟨_, rfl⟩
    | bad i _ _ _ => exact ⟨_, rfl⟩
  obtain ⟨d, hd⟩ := ht
  refine fin_pl0 (d := d) ?_ hd
  unfold m0_wrong_room
  refine defK_rt rfl ?_
  unfold b_wrong_room
  have e0 := eqE_tup (mu := mu) hne
  refine (seq_nx (by simp only [seqS, ifS_ap, retS_ap, asgS_ap, exprS_ap, forS_ap, parS_ap, bindS_ap, nextS, orT, andT, notT, tstM, CC.tB, blM, CC.andM, CC.orM, CC.notM, ifM, b2, u1, fA, vM, cM, optR, R.bind, consM, nilM, tupM, lstM, newM, slM, noP, inP, chM, gNameM, gSubM, gFldM, optX, gPc, gTupM, gListM, setAll, oneC, tupC, yesT, itT, itL, itS, itR1, itEnT, callM, isiV, tagOf, truV, sm0, sm1, lmM, dnewM, objV, isNV, List.set, List.length_cons, List.length_nil, List.map_cons, List.map_nil, List.cons_append, List.nil_append, List.append_assoc, List.length_append, List.replicate, List.getElem?_cons_zero, List.getElem?_cons_succ, Option.bind_some, Option.map_some, Option.bind_none, Option.map_none, if_true, if_false, ↓reduceIte, Nat.zero_le, Nat.zero_add, Nat.reduceAdd, Nat.reduceSub, Nat.sub_self, List.append_nil, Nat.reduceLeDiff, Bool.false_eq_true, Bool.not_true, Bool.not_false, Bool.true_eq_false, propM, clsM, noX, mkKM, mkVM, strL, kt_tt, e0] <;> rfl)).trans ?_
  cases h with
  | ok hg =>
    refine seq_ex (I := fun r' m' => m' = mu) ?_ ?_
    · refine for_ex (xs := numL xs) (ok := allOk) (mu0 := mu) (fun i r' m' => (∃ a b, r' = [some (.tup xs), a, b]) ∧ m' = mu) (enT rfl) (fun _ _ _ _ => trivial) ?_ ⟨⟨none, none, rfl⟩, rfl⟩ fun r' m' h => h.2
      rintro i y r' m' hy ⟨⟨a, b, rfl⟩, rfl⟩
      obtain ⟨x, hx, rfl⟩ := num_at hy
      obtain ⟨hl, -⟩ := List.getElem?_eq_some_iff.mp hx
      obtain ⟨x', hx', hw⟩ := wr_good (m := m') hl fun k hk => hg k (by omega)
      rw [hx] at hx'
      cases hx'
      exact ⟨_, _, rfl, _, _, hw, ⟨_, _, rfl⟩, rfl⟩
    · rintro r' m' rfl
      simp only [seqS, ifS_ap, retS_ap, asgS_ap, exprS_ap, forS_ap, parS_ap, bindS_ap, nextS, orT, andT, notT, tstM, CC.tB, blM, CC.andM, CC.orM, CC.notM, ifM, b2, u1, fA, vM, cM, optR, R.bind, consM, nilM, tupM, lstM, newM, slM, noP, inP, chM, gNameM, gSubM, gFldM, optX, gPc, gTupM, gListM, setAll, oneC, tupC, yesT, itT, itL, itS, itR1, itEnT, callM, isiV, tagOf, truV, sm0, sm1, lmM, dnewM, objV, isNV, List.set, List.length_cons, List.length_nil, List.map_cons, List.map_nil, List.cons_append, List.nil_append, List.append_assoc, List.length_append, List.replicate, List.getElem?_cons_zero, List.getElem?_cons_succ, Option.bind_some, Option.map_some, Option.bind_none, Option.map_none, if_true, if_false, ↓reduceIte, Nat.zero_le, Nat.zero_add, Nat.reduceAdd, Nat.reduceSub, Nat.sub_self, List.append_nil, Nat.reduceLeDiff, Bool.false_eq_true, Bool.not_true, Bool.not_false, Bool.true_eq_false, propM, clsM, noX, mkKM, mkVM, strL]
  | bad i hi hg hb =>
    obtain ⟨v, mu', e, rfl, rfl⟩ := for_rt (mi := itEnT (consM (vM 0) nilM)) (g := gPc [1, 2] (tupC 2)) (body := wrBody) (xs := numL xs) (ok := allOk) (mu0 := mu) (mu := mu) (r := [some (.tup xs), none, none]) (fun i r' m' => (∃ a b, r' = [some (.tup xs), a, b]) ∧ m' = mu) i (by rw [numL_len]; exact hi) (fun v m' => v = .tup [.int i] ∧ m' = mu) (enT rfl) (fun _ _ _ _ => trivial)
      (fun j y r' m' hj hy ⟨⟨a, b, hr⟩, hm⟩ => by
        subst hr hm
        obtain ⟨x, hx, rfl⟩ := num_at hy
        obtain ⟨hl, -⟩ := List.getElem?_eq_some_iff.mp hx
        obtain ⟨x', hx', hw⟩ := wr_good (m := m') hl fun k hk => hg k (by omega)
        rw [hx] at hx'
        cases hx'
        exact ⟨_, _, rfl, _, _, hw, ⟨_, _, rfl⟩, rfl⟩)
      (fun r' m' ⟨⟨a, b, hr⟩, hm⟩ => by
        subst hr hm
        obtain ⟨x, hx, hw⟩ := wr_bad (m := m') hi hg hb hod
        exact ⟨_, _, _, numL_at hx, rfl, _, _, hw, rfl, rfl⟩) ⟨⟨none, none, rfl⟩, rfl⟩
    exact seq_rt e
theorem m_wrong_room_no {v : Val} (h : odB v = true) (ht : isT v = false ∨ v = .tup []) (mu : Store) : m_wrong_room [v] mu = .ok (.tup [.non]) mu := by
  refine fin_pl0 (d := .tuple [.none]) ?_ rfl
  unfold m0_wrong_room
  refine defK_rt rfl ?_
  unfold b_wrong_room
  have i := isi_tup (mu := mu) h
  rcases ht with ht | rfl
  · rw [ht] at i
    refine seq_rt ?_
    simp only [seqS, ifS_ap, retS_ap, asgS_ap, exprS_ap, forS_ap, parS_ap, bindS_ap, nextS, orT, andT, notT, tstM, CC.tB, blM, CC.andM, CC.orM, CC.notM, ifM, b2, u1, fA, vM, cM, optR, R.bind, consM, nilM, tupM, lstM, newM, slM, noP, inP, chM, gNameM, gSubM, gFldM, optX, gPc, gTupM, gListM, setAll, oneC, tupC, yesT, itT, itL, itS, itR1, itEnT, callM, truV, sm0, sm1, lmM, dnewM, objV, isNV, List.set, List.length_cons, List.length_nil, List.map_cons, List.map_nil, List.cons_append, List.nil_append, List.append_assoc, List.length_append, List.replicate, List.getElem?_cons_zero, List.getElem?_cons_succ, Option.bind_some, Option.map_some, Option.bind_none, Option.map_none, if_true, if_false, ↓reduceIte, Nat.zero_le, Nat.zero_add, Nat.reduceAdd, Nat.reduceSub, Nat.sub_self, List.append_nil, Nat.reduceLeDiff, Bool.false_eq_true, Bool.not_true, Bool.not_false, Bool.true_eq_false, propM, clsM, noX, mkKM, mkVM, strL, i]
  · have e0 : eqE mu (.tup []) (.tup []) = some (.bl true) := rfl
    refine seq_rt ?_
    simp only [seqS, ifS_ap, retS_ap, asgS_ap, exprS_ap, forS_ap, parS_ap, bindS_ap, nextS, orT, andT, notT, tstM, CC.tB, blM, CC.andM, CC.orM, CC.notM, ifM, b2, u1, fA, vM, cM, optR, R.bind, consM, nilM, tupM, lstM, newM, slM, noP, inP, chM, gNameM, gSubM, gFldM, optX, gPc, gTupM, gListM, setAll, oneC, tupC, yesT, itT, itL, itS, itR1, itEnT, callM, isiV, tagOf, truV, sm0, sm1, lmM, dnewM, objV, isNV, List.set, List.length_cons, List.length_nil, List.map_cons, List.map_nil, List.cons_append, List.nil_append, List.append_assoc, List.length_append, List.replicate, List.getElem?_cons_zero, List.getElem?_cons_succ, Option.bind_some, Option.map_some, Option.bind_none, Option.map_none, if_true, if_false, ↓reduceIte, Nat.zero_le, Nat.zero_add, Nat.reduceAdd, Nat.reduceSub, Nat.sub_self, List.append_nil, Nat.reduceLeDiff, Bool.false_eq_true, Bool.not_true, Bool.not_false, Bool.true_eq_false, propM, clsM, noX, mkKM, mkVM, strL, kt_tt, e0]
theorem good_of {cs : List (List Nat)} (h : roomsB cs) : DueR (cs.map .str) [] := by
  obtain ⟨h1, h2, h3, h4⟩ := h
  refine .ok fun j hj => ?_
  rw [List.length_map] at hj
  refine ⟨cs[j], by simp [hj], h4 _ (List.getElem_mem hj), ?_, by omega⟩
  rw [← List.map_take]
  intro z
  obtain ⟨t, ht, q⟩ := List.mem_map.mp z
  cases q
  exact not_take h3 (List.getElem?_eq_getElem hj) ht
theorem m_wrong_room_ok (cs : List (List Nat)) (mu : Store) (h : roomsB cs) : m_wrong_room [roomsV cs] mu = .ok (.tup []) mu := by
  refine m_wrong_room_tup (fun z => h.1 (List.map_eq_nil_iff.mp z)) (fun y hy => ?_) (good_of h) mu
  obtain ⟨s, hs, rfl⟩ := List.mem_map.mp hy
  have := nameB_len (h.2.2.2 s hs)
  simp only [odB, decide_eq_true_eq]
  omega
/-! ### doors -/
abbrev G : Type := Nat × List Nat × List Nat
abbrev gV (g : G) : Val := .tup [.str [g.1], .str g.2.1, .str g.2.2]
abbrev gD (g : G) : PyData := .tuple [.str (S [g.1]), .str (S g.2.1), .str (S g.2.2)]
abbrev doorsV (gs : List G) : Val := .tup (gs.map gV)
def doorsB (cs : List (List Nat)) (gs : List G) : Prop := gs ≠ [] ∧ gs.length ≤ 5 ∧ (gs.map (·.1)).Nodup ∧ ∀ g ∈ gs, g.1 ∈ lets ∧ g.2.1 ∈ cs ∧ g.2.2 ∈ cs
theorem toD_gate (k : Nat) (g : G) : toD (k + 1) (gV g) = some (gD g) := by
  simp only [toD, mapO, toD_str]
  rfl
theorem eqv_gate (g h : G) : PyData.eqv (gD g) (gD h) = decide (g = h) := by
  obtain ⟨a, b, c⟩ := g
  obtain ⟨a', b', c'⟩ := h
  simp only [eqv_tup, PyData.eqvAll, eqv_str]
  by_cases e1 : a = a' <;> by_cases e2 : b = b' <;> by_cases e3 : c = c' <;> simp [e1, e2, e3]
theorem toD_doors {k : Nat} (gs : List G) : toD (k + 2) (doorsV gs) = some (.tuple (gs.map gD)) := toD_tupM fun y _ => toD_gate k y
theorem eqv_doors (a b : List G) : PyData.eqv (.tuple (a.map gD)) (.tuple (b.map gD)) = decide (a = b) := by rw [eqv_tup]; exact eqvAll_map eqv_gate a b
theorem at_new (mu : Store) (c : Cell) : (mu ++ [c])[mu.length]? = some c := by simp
theorem set_new (mu : Store) (c d : Cell) : (mu ++ [c]).set mu.length d = mu ++ [d] := by simp
/-! ### whatever stands for a door -/
def ioB (z : Val) : Bool := (toD 30 z).isSome || (match z with
  | .dct _ => true
  | _ => false)
def ogB (y : Val) : Bool := odB y && (match y with
  | .tup zs => zs.all fun z => odB z && ioB z
  | _ => true)
def rmB (cs : List (List Nat)) : Val → Bool
  | .str s => decide (s ∈ cs)
  | _ => false
theorem any_no {d : PyData} (h : ∀ s, PyData.eqv (.str s) d = false) (cs : List (List Nat)) : ((cs.map fun s => PyData.str (S s)).any fun z => PyData.eqv z d) = false := by
  induction cs with
  | nil => rfl
  | cons c cs ih => simp only [List.map_cons, List.any_cons, h, ih, Bool.or_self]
theorem strs_map (cs : List (List Nat)) : strsB (cs.map .str) = true := by
  unfold strsB
  rw [List.all_eq_true]
  intro y hy
  obtain ⟨s, _, rfl⟩ := List.mem_map.mp hy
  rfl
theorem in_any0 {q : Val} (h : ioB q = true) (cs : List (List Nat)) : (∃ kvs, q = .dct kvs ∧ rmB cs q = false) ∨ ∃ d, toD 30 q = some d ∧ ((cs.map fun s => PyData.str (S s)).any fun z => PyData.eqv z d) = rmB cs q := by
  cases q with
  | dct kvs => exact .inl ⟨kvs, rfl, rfl⟩
  | str s => exact .inr ⟨_, toD_str _ s, any_str s cs⟩
  | non => exact .inr ⟨_, rfl, any_no (fun s => by simp [PyData.eqv]) cs⟩
  | bl b => exact .inr ⟨_, rfl, any_no (fun s => by simp [PyData.eqv]) cs⟩
  | int i => exact .inr ⟨_, rfl, any_no (fun s => by simp [PyData.eqv]) cs⟩
  | tup zs =>
    have hs : (toD 30 (.tup zs)).isSome = true := by simpa [ioB] using h
    obtain ⟨d, hd⟩ := Option.isSome_iff_exists.mp hs
    have hd' := hd
    simp only [toD] at hd'
    obtain ⟨ds, _, rfl⟩ := Option.map_eq_some_iff.mp hd'
    exact .inr ⟨_, hd, any_no (fun s => by simp [PyData.eqv]) cs⟩
  | lst zs =>
    have hs : (toD 30 (.lst zs)).isSome = true := by simpa [ioB] using h
    obtain ⟨d, hd⟩ := Option.isSome_iff_exists.mp hs
    have hd' := hd
    simp only [toD] at hd'
    obtain ⟨ds, _, rfl⟩ := Option.map_eq_some_iff.mp hd'
    exact .inr ⟨_, hd, any_no (fun s => by simp [PyData.eqv]) cs⟩
  | _ => cases h
theorem mapO_strs (cs : List (List Nat)) : mapO (toD 30) (cs.map .str) = some (cs.map fun s => PyData.str (S s)) := toDs_map (k := 30) (g := fun s => PyData.str (S s)) fun y _ => toD_str 30 y
theorem inW_rooms {mu : Store} {q : Val} (h : ioB q = true) (cs : List (List Nat)) : inW mu q (roomsV cs) = some (rmB cs q) := by
  rcases in_any0 h cs with ⟨kvs, rfl, e⟩ | ⟨d, h1, h2⟩
  · rw [e]
    simp only [inW]
    rw [if_pos (strs_map cs)]
  · have e : inB mu q (roomsV cs) = some (rmB cs q) := by
      simp only [inB, h1, mapO_strs, h2]
    cases q <;> first | exact e | (simp only [inW]; rw [if_pos (strs_map cs)]; rfl)
theorem inW_list {mu : Store} {q : Val} (h : ioB q = true) (cs : List (List Nat)) : inW mu q (.lst (cs.map .str)) = some (rmB cs q) := by
  rcases in_any0 h cs with ⟨kvs, rfl, e⟩ | ⟨d, h1, h2⟩
  · rw [e]
    simp only [inW, seqL]
    rw [if_pos (strs_map cs)]
  · have e : inB mu q (.lst (cs.map .str)) = some (rmB cs q) := by
      simp only [inB, seqL, h1, mapO_strs, h2]
    cases q <;> first | exact e | (simp only [inW, seqL]; rw [if_pos (strs_map cs)]; rfl)
def letV : Val → Bool
  | .str [c] => decide (c ∈ lets)
  | _ => false
theorem is_letter_od {mu : Store} {p : Val} (h : odB p = true) : m_is_letter [p] mu = .ok (.bl (letV p)) mu := by
  have i := isi_str (mu := mu) h
  cases hs : isS p with
  | false =>
    have n : letV p = false := by cases p <;> first | rfl | cases hs
    rw [n]
    rw [hs] at i
    refine fin_pl0 (d := .bool false) ?_ rfl
    unfold m0_is_letter
    refine defK_rt rfl ?_
    unfold b_is_letter
    simp only [seqS, ifS_ap, retS_ap, asgS_ap, exprS_ap, forS_ap, parS_ap, bindS_ap, nextS, orT, andT, notT, tstM, CC.tB, blM, CC.andM, CC.orM, CC.notM, ifM, b2, u1, fA, vM, cM, optR, R.bind, consM, nilM, tupM, lstM, newM, slM, noP, inP, chM, gNameM, gSubM, gFldM, optX, gPc, gTupM, gListM, setAll, oneC, tupC, yesT, itT, itL, itS, itR1, itEnT, callM, truV, sm0, sm1, lmM, dnewM, objV, isNV, List.set, List.length_cons, List.length_nil, List.map_cons, List.map_nil, List.cons_append, List.nil_append, List.append_assoc, List.length_append, List.replicate, List.getElem?_cons_zero, List.getElem?_cons_succ, Option.bind_some, Option.map_some, Option.bind_none, Option.map_none, if_true, if_false, ↓reduceIte, Nat.zero_le, Nat.zero_add, Nat.reduceAdd, Nat.reduceSub, Nat.sub_self, List.append_nil, Nat.reduceLeDiff, Bool.false_eq_true, Bool.not_true, Bool.not_false, Bool.true_eq_false, propM, clsM, noX, mkKM, mkVM, strL, i]
  | true =>
    cases p with
    | str s =>
      match s, h, i with
      | [c], h, i => exact m_is_letter_eq c mu
      | [], h, i =>
        rw [show letV (.str []) = false from rfl]
        refine fin_pl0 (d := .bool false) ?_ rfl
        unfold m0_is_letter
        refine defK_rt rfl ?_
        unfold b_is_letter
        have e : CC.eqV mu (.int ((0 : Nat) : Int)) (.int 1) = some (.bl false) := rfl
        have i : isiV kt ic mu [.str [], .ty "str"] = some (.bl true) := i
        simp only [seqS, ifS_ap, retS_ap, asgS_ap, exprS_ap, forS_ap, parS_ap, bindS_ap, nextS, orT, andT, notT, tstM, CC.tB, blM, CC.andM, CC.orM, CC.notM, ifM, b2, u1, fA, vM, cM, optR, R.bind, consM, nilM, tupM, lstM, newM, slM, noP, inP, chM, gNameM, gSubM, gFldM, optX, gPc, gTupM, gListM, setAll, oneC, tupC, yesT, itT, itL, itS, itR1, itEnT, callM, truV, sm0, sm1, lmM, dnewM, objV, isNV, List.set, List.length_cons, List.length_nil, List.map_cons, List.map_nil, List.cons_append, List.nil_append, List.append_assoc, List.length_append, List.replicate, List.getElem?_cons_zero, List.getElem?_cons_succ, Option.bind_some, Option.map_some, Option.bind_none, Option.map_none, if_true, if_false, ↓reduceIte, Nat.zero_le, Nat.zero_add, Nat.reduceAdd, Nat.reduceSub, Nat.sub_self, List.append_nil, Nat.reduceLeDiff, Bool.false_eq_true, Bool.not_true, Bool.not_false, Bool.true_eq_false, propM, clsM, noX, mkKM, mkVM, strL, i, lenV, e]
      | c :: d :: r, h, i =>
        rw [show letV (.str (c :: d :: r)) = false from rfl]
        refine fin_pl0 (d := .bool false) ?_ rfl
        unfold m0_is_letter
        refine defK_rt rfl ?_
        unfold b_is_letter
        have hl : (c :: d :: r).length ≤ 100000 := by
          have : (c :: d :: r).length ≤ 1000 := by simpa [odB] using h
          omega
        have l0 : lenV mu [.str (c :: d :: r)] = some (.int ((c :: d :: r).length : Nat)) := by simp only [lenV]; rw [if_pos hl]
        have e : CC.eqV mu (.int ((c :: d :: r).length : Nat)) (.int 1) = some (.bl false) := by
          rw [eq_int, decide_eq_false (by simp only [List.length_cons]; omega)]
        have i : isiV kt ic mu [.str (c :: d :: r), .ty "str"] = some (.bl true) := i
        generalize (c :: d :: r) = t at i l0 e ⊢
        simp only [seqS, ifS_ap, retS_ap, asgS_ap, exprS_ap, forS_ap, parS_ap, bindS_ap, nextS, orT, andT, notT, tstM, CC.tB, blM, CC.andM, CC.orM, CC.notM, ifM, b2, u1, fA, vM, cM, optR, R.bind, consM, nilM, tupM, lstM, newM, slM, noP, inP, chM, gNameM, gSubM, gFldM, optX, gPc, gTupM, gListM, setAll, oneC, tupC, yesT, itT, itL, itS, itR1, itEnT, callM, truV, sm0, sm1, lmM, dnewM, objV, isNV, List.set, List.length_cons, List.length_nil, List.map_cons, List.map_nil, List.cons_append, List.nil_append, List.append_assoc, List.length_append, List.replicate, List.getElem?_cons_zero, List.getElem?_cons_succ, Option.bind_some, Option.map_some, Option.bind_none, Option.map_none, if_true, if_false, ↓reduceIte, Nat.zero_le, Nat.zero_add, Nat.reduceAdd, Nat.reduceSub, Nat.sub_self, List.append_nil, Nat.reduceLeDiff, Bool.false_eq_true, Bool.not_true, Bool.not_false, Bool.true_eq_false, propM, clsM, noX, mkKM, mkVM, strL, i, l0, e]
    | _ => cases hs
def gateB (cs : List (List Nat)) : Val → Bool
  | .tup [p, q, r] => letV p && (rmB cs q && rmB cs r)
  | _ => false
theorem is_door_og {mu : Store} {y : Val} (h : ogB y = true) (cs : List (List Nat)) : m_is_door [y, roomsV cs] mu = .ok (.bl (gateB cs y)) mu := by
  unfold ogB at h
  rw [Bool.and_eq_true] at h
  obtain ⟨ho, hz⟩ := h
  have i := isi_tup (mu := mu) ho
  refine fin_pl0 (d := .bool _) ?_ rfl
  unfold m0_is_door
  refine defK_rt rfl ?_
  unfold b_is_door
  cases hT : isT y with
  | false =>
    have n : gateB cs y = false := by cases y <;> first | rfl | cases hT
    rw [n]
    rw [hT] at i
    refine seq_rt ?_
    simp only [seqS, ifS_ap, retS_ap, asgS_ap, exprS_ap, forS_ap, parS_ap, bindS_ap, nextS, orT, andT, notT, tstM, CC.tB, blM, CC.andM, CC.orM, CC.notM, ifM, b2, u1, fA, vM, cM, optR, R.bind, consM, nilM, tupM, lstM, newM, slM, noP, inP, chM, gNameM, gSubM, gFldM, optX, gPc, gTupM, gListM, setAll, oneC, tupC, yesT, itT, itL, itS, itR1, itEnT, callM, truV, sm0, sm1, lmM, dnewM, objV, isNV, List.set, List.length_cons, List.length_nil, List.map_cons, List.map_nil, List.cons_append, List.nil_append, List.append_assoc, List.length_append, List.replicate, List.getElem?_cons_zero, List.getElem?_cons_succ, Option.bind_some, Option.map_some, Option.bind_none, Option.map_none, if_true, if_false, ↓reduceIte, Nat.zero_le, Nat.zero_add, Nat.reduceAdd, Nat.reduceSub, Nat.sub_self, List.append_nil, Nat.reduceLeDiff, Bool.false_eq_true, Bool.not_true, Bool.not_false, Bool.true_eq_false, propM, clsM, noX, mkKM, mkVM, strL, i]
  | true =>
    cases y with
    | tup zs =>
      have l0 : lenV mu [.tup zs] = some (.int (zs.length : Nat)) := rfl
      by_cases hl : zs.length = 3
      · match zs, hl, hz, i, l0 with
        | [p, q, r], hl, hz, i, l0 =>
          have e : CC.neV mu (.int ((3 : Nat) : Int)) (.int 3) = some (.bl false) := rfl
          have i : isiV kt ic mu [.tup [p, q, r], .ty "tuple"] = some (.bl true) := i
          simp only [List.all_cons, List.all_nil, Bool.and_eq_true, Bool.and_true] at hz
          obtain ⟨⟨p1, p2⟩, ⟨q1, q2⟩, ⟨r1, r2⟩⟩ := hz
          have x0 : ixV mu (.tup [p, q, r]) (.int 0) = some p := ix_tup0 _ _
          have x1 : ixV mu (.tup [p, q, r]) (.int 1) = some q := ix_tup1 _ _ _
          have x2 : ixV mu (.tup [p, q, r]) (.int 2) = some r := ix_tup2 _ _ _ _
          have n0 := is_letter_od (mu := mu) p1
          have n1 : inW2 mu q (roomsV cs) = some (.bl (rmB cs q)) := by unfold inW2; rw [inW_rooms q2]; rfl
          have n2 : inW2 mu r (roomsV cs) = some (.bl (rmB cs r)) := by unfold inW2; rw [inW_rooms r2]; rfl
          refine (seq_nx (r1 := [some (.tup [p, q, r]), some (roomsV cs)]) (mu1 := mu) (by simp only [seqS, ifS_ap, retS_ap, asgS_ap, exprS_ap, forS_ap, parS_ap, bindS_ap, nextS, orT, andT, notT, tstM, CC.tB, blM, CC.andM, CC.orM, CC.notM, ifM, b2, u1, fA, vM, cM, optR, R.bind, consM, nilM, tupM, lstM, newM, slM, noP, inP, chM, gNameM, gSubM, gFldM, optX, gPc, gTupM, gListM, setAll, oneC, tupC, yesT, itT, itL, itS, itR1, itEnT, callM, truV, sm0, sm1, lmM, dnewM, objV, isNV, List.set, List.length_cons, List.length_nil, List.map_cons, List.map_nil, List.cons_append, List.nil_append, List.append_assoc, List.length_append, List.replicate, List.getElem?_cons_zero, List.getElem?_cons_succ, Option.bind_some, Option.map_some, Option.bind_none, Option.map_none, if_true, if_false, ↓reduceIte, Nat.zero_le, Nat.zero_add, Nat.reduceAdd, Nat.reduceSub, Nat.sub_self, List.append_nil, Nat.reduceLeDiff, Bool.false_eq_true, Bool.not_true, Bool.not_false, Bool.true_eq_false, propM, clsM, noX, mkKM, mkVM, strL, i, l0, e])).trans ?_
          show _ = SR.rt (.bl (letV p && (rmB cs q && rmB cs r))) mu
          cases h1 : letV p <;> cases h2 : rmB cs q <;> cases h3 : rmB cs r <;> (rw [h1] at n0; rw [h2] at n1; rw [h3] at n2; simp only [seqS, ifS_ap, retS_ap, asgS_ap, exprS_ap, forS_ap, parS_ap, bindS_ap, nextS, orT, andT, notT, tstM, CC.tB, blM, CC.andM, CC.orM, CC.notM, ifM, b2, u1, fA, vM, cM, optR, R.bind, consM, nilM, tupM, lstM, newM, slM, noP, inP, chM, gNameM, gSubM, gFldM, optX, gPc, gTupM, gListM, setAll, oneC, tupC, yesT, itT, itL, itS, itR1, itEnT, callM, isiV, tagOf, truV, sm0, sm1, lmM, dnewM, objV, isNV, List.set, List.length_cons, List.length_nil, List.map_cons, List.map_nil, List.cons_append, List.nil_append, List.append_assoc, List.length_append, List.replicate, List.getElem?_cons_zero, List.getElem?_cons_succ, Option.bind_some, Option.map_some, Option.bind_none, Option.map_none, if_true, if_false, ↓reduceIte, Nat.zero_le, Nat.zero_add, Nat.reduceAdd, Nat.reduceSub, Nat.sub_self, List.append_nil, Nat.reduceLeDiff, Bool.false_eq_true, Bool.not_true, Bool.not_false, Bool.true_eq_false, propM, clsM, noX, mkKM, mkVM, strL, x0, x1, x2, n0, n1, n2]; try rfl)
      · have n : gateB cs (.tup zs) = false := by
          match zs, hl with
          | [], _ => rfl
          | [_], _ => rfl
          | [_, _], _ => rfl
          | [_, _, _], hl => exact absurd rfl hl
          | _ :: _ :: _ :: _ :: _, _ => rfl
        rw [n]
        have e : CC.neV mu (.int (zs.length : Nat)) (.int 3) = some (.bl true) := by
          have := plI.neV (mu := mu) (by decide) (zs.length : Int) 3
          rw [decide_eq_false (by omega)] at this
          exact this
        have i : isiV kt ic mu [.tup zs, .ty "tuple"] = some (.bl true) := i
        refine seq_rt ?_
        simp only [seqS, ifS_ap, retS_ap, asgS_ap, exprS_ap, forS_ap, parS_ap, bindS_ap, nextS, orT, andT, notT, tstM, CC.tB, blM, CC.andM, CC.orM, CC.notM, ifM, b2, u1, fA, vM, cM, optR, R.bind, consM, nilM, tupM, lstM, newM, slM, noP, inP, chM, gNameM, gSubM, gFldM, optX, gPc, gTupM, gListM, setAll, oneC, tupC, yesT, itT, itL, itS, itR1, itEnT, callM, truV, sm0, sm1, lmM, dnewM, objV, isNV, List.set, List.length_cons, List.length_nil, List.map_cons, List.map_nil, List.cons_append, List.nil_append, List.append_assoc, List.length_append, List.replicate, List.getElem?_cons_zero, List.getElem?_cons_succ, Option.bind_some, Option.map_some, Option.bind_none, Option.map_none, if_true, if_false, ↓reduceIte, Nat.zero_le, Nat.zero_add, Nat.reduceAdd, Nat.reduceSub, Nat.sub_self, List.append_nil, Nat.reduceLeDiff, Bool.false_eq_true, Bool.not_true, Bool.not_false, Bool.true_eq_false, propM, clsM, noX, mkKM, mkVM, strL, i, l0, e]
    | _ => cases hT
theorem letV_str {p : Val} (h : letV p = true) : ∃ c, p = .str [c] ∧ c ∈ lets := by
  cases p with
  | str s =>
    match s, h with
    | [c], h => exact ⟨c, rfl, by simpa [letV] using h⟩
    | [], h => cases h
    | _ :: _ :: _, h => cases h
  | _ => cases h
theorem rmB_str {cs : List (List Nat)} {q : Val} (h : rmB cs q = true) : ∃ s, q = .str s ∧ s ∈ cs := by
  cases q with
  | str s => exact ⟨s, rfl, by simpa [rmB] using h⟩
  | _ => cases h
theorem gateB_iff {cs : List (List Nat)} {y : Val} : gateB cs y = true ↔ ∃ g : G, y = gV g ∧ g.1 ∈ lets ∧ g.2.1 ∈ cs ∧ g.2.2 ∈ cs := by
  constructor
  · intro h
    match y, h with
    | .tup [p, q, r], h =>
      simp only [gateB, Bool.and_eq_true] at h
      obtain ⟨h1, h2, h3⟩ := h
      obtain ⟨c, rfl, hc⟩ := letV_str h1
      obtain ⟨a, rfl, ha⟩ := rmB_str h2
      obtain ⟨b, rfl, hb⟩ := rmB_str h3
      exact ⟨(c, a, b), rfl, hc, ha, hb⟩
  · rintro ⟨g, rfl, h1, h2, h3⟩
    simp only [gV, gateB, letV, rmB, h1, h2, h3, decide_true, Bool.and_self]
/-- the letters that stand first in triples -/
def ltr (xs : List Val) : List (List Nat) := xs.filterMap fun y => match y with
  | .tup (.str s :: _) => some s
  | _ => none
theorem ltr_map (gs : List G) : ltr (gs.map gV) = gs.map fun g => [g.1] := by
  induction gs with
  | nil => rfl
  | cons g gs ih =>
    rw [List.map_cons, List.map_cons]
    unfold ltr at ih ⊢
    rw [List.filterMap_cons]
    show [g.1] :: _ = _
    rw [ih]
def goodG (cs : List (List Nat)) (xs : List Val) (j : Nat) : Prop := ∃ g : G, xs[j]? = some (gV g) ∧ g.1 ∈ lets ∧ g.2.1 ∈ cs ∧ g.2.2 ∈ cs ∧ [g.1] ∉ ltr (xs.take j) ∧ j < 5
inductive DueG (cs : List (List Nat)) (xs : List Val) : List Val → Prop where
  | ok : (∀ j < xs.length, goodG cs xs j) → DueG cs xs []
  | bad (i : Nat) : i < xs.length → (∀ j < i, goodG cs xs j) → ¬ goodG cs xs i → DueG cs xs [.int i]
theorem dueG_ex (cs : List (List Nat)) (xs : List Val) : ∃ out, DueG cs xs out := by
  rcases first_bad (goodG cs xs) xs.length with h | ⟨i, h1, h2, h3⟩
  · exact ⟨_, .ok h⟩
  · exact ⟨_, .bad i h1 h2 h3⟩
theorem goodG_pre {cs : List (List Nat)} {xs : List Val} : ∀ {i : Nat}, i ≤ xs.length → (∀ j < i, goodG cs xs j) → ∃ gs : List G, xs.take i = gs.map gV ∧ (gs.map (·.1)).Nodup ∧ ∀ g ∈ gs, g.1 ∈ lets ∧ g.2.1 ∈ cs ∧ g.2.2 ∈ cs
  | 0, _, _ => ⟨[], rfl, List.nodup_nil, fun s h => by cases h⟩
  | i + 1, hi, h => by
    obtain ⟨gs, e, nd, nb⟩ := goodG_pre (i := i) (by omega) fun j hj => h j (by omega)
    obtain ⟨g, h1, h2, h3, h4, h5, h6⟩ := h i (by omega)
    rw [e, ltr_map] at h5
    have hs : g.1 ∉ gs.map (·.1) := fun z => h5 (by obtain ⟨g', hg, q⟩ := List.mem_map.mp z; exact List.mem_map.mpr ⟨g', hg, by rw [q]⟩)
    refine ⟨gs ++ [g], by rw [List.take_succ, h1, e]; simp, ?_, fun t ht => ?_⟩
    · rw [List.map_append, List.nodup_append]
      exact ⟨nd, by simp, fun a ha b hb => by
        have hb : b = g.1 := by simpa using hb
        subst hb
        exact fun q => hs (q ▸ ha)⟩
    · rcases List.mem_append.mp ht with q | q
      · exact nb t q
      · rw [List.mem_singleton.mp q]; exact ⟨h2, h3, h4⟩
theorem badG_le {cs : List (List Nat)} {xs : List Val} {i : Nat} (h : ∀ j < i, goodG cs xs j) : i ≤ 5 := by
  cases i with
  | zero => omega
  | succ i => obtain ⟨g, -, -, -, -, -, h4⟩ := h i (by omega); omega
theorem ltr_succ {xs : List Val} {j : Nat} {g : G} (h : xs[j]? = some (gV g)) : ltr (xs.take (j + 1)) = ltr (xs.take j) ++ [[g.1]] := by
  rw [List.take_succ, h]
  unfold ltr
  rw [List.filterMap_append]
  rfl
theorem in_ref {mu : Store} (l : List (List Nat)) (s : List Nat) : inV2 (mu ++ [.lst (l.map .str)]) (.str s) (.ref mu.length) = some (.bl (decide (s ∈ l))) := by
  have := plS.inR (mu := mu ++ [.lst (l.map .str)]) (by decide) s l (r := mu.length) (at_new _ _)
  have e : inB (mu ++ [.lst (l.map .str)]) (.str s) (.ref mu.length) = some (decide (s ∈ l)) := by
    refine Eq.trans this ?_
    by_cases h : s ∈ l <;> simp [h]
  unfold inV2
  rw [e]
  rfl
noncomputable abbrev wdBody : MS := seqS (ifS (orT (CC.tB (b2 CC.eqV (vM 3) (cM (.int 5)))) (orT (notT (tstM (callM m_is_door (consM (vM 4) (consM (vM 1) nilM))))) (CC.tB (b2 inV2 (b2 ixV (vM 4) (cM (.int 0))) (vM 2))))) (retS (tupM (consM (vM 3) nilM))) nextS)
    (exprS (lmM appendG (vM 2) (consM (b2 ixV (vM 4) (cM (.int 0))) nilM)))
theorem ltr_len {xs : List Val} : (ltr xs).length ≤ xs.length := List.length_filterMap_le _ _
theorem wd_good {cs : List (List Nat)} {xs : List Val} {j : Nat} {mu : Store} (h : ∀ k ≤ j, goodG cs xs k) (hog : ∀ y ∈ xs, ogB y = true) : ∃ x, xs[j]? = some x ∧ wdBody [some (.tup xs), some (roomsV cs), some (.ref mu.length), some (.int j), some x] (mu ++ [.lst ((ltr (xs.take j)).map .str)]) = .nx [some (.tup xs), some (roomsV cs), some (.ref mu.length), some (.int j), some x] (mu ++ [.lst ((ltr (xs.take (j + 1))).map .str)]) := by
  obtain ⟨g, h1, h2, h3, h4, h5, h6⟩ := h j (Nat.le_refl _)
  refine ⟨gV g, h1, ?_⟩
  have e4 : decide ((j : Int) = 5) = false := decide_eq_false (by omega)
  have n1 := fun m => is_door_og (mu := m) (hog _ (List.mem_of_getElem? h1)) cs
  rw [gateB_iff.mpr ⟨g, rfl, h2, h3, h4⟩] at n1
  have x0 : ∀ m, ixV m (gV g) (.int 0) = some (.str [g.1]) := fun m => rfl
  have e6 := in_ref (mu := mu) (ltr (xs.take j)) [g.1]
  rw [decide_eq_false h5] at e6
  rw [ltr_succ h1]
  have ll := ltr_len (xs := xs.take j)
  have lt : (xs.take j).length ≤ j := by simp; omega
  simp only [seqS, ifS_ap, retS_ap, asgS_ap, exprS_ap, forS_ap, parS_ap, bindS_ap, nextS, orT, andT, notT, tstM, CC.tB, blM, CC.andM, CC.orM, CC.notM, ifM, b2, u1, fA, vM, cM, optR, R.bind, consM, nilM, tupM, lstM, newM, slM, noP, inP, chM, gNameM, gSubM, gFldM, optX, gPc, gTupM, gListM, setAll, oneC, tupC, yesT, itT, itL, itS, itR1, itEnT, callM, isiV, tagOf, truV, sm0, sm1, lmM, dnewM, objV, isNV, List.set, List.length_cons, List.length_nil, List.map_cons, List.map_nil, List.cons_append, List.nil_append, List.append_assoc, List.length_append, List.replicate, List.getElem?_cons_zero, List.getElem?_cons_succ, Option.bind_some, Option.map_some, Option.bind_none, Option.map_none, if_true, if_false, ↓reduceIte, Nat.zero_le, Nat.zero_add, Nat.reduceAdd, Nat.reduceSub, Nat.sub_self, List.append_nil, Nat.reduceLeDiff, Bool.false_eq_true, Bool.not_true, Bool.not_false, Bool.true_eq_false, propM, clsM, noX, mkKM, mkVM, strL, eq_int, e4, n1, x0, e6, at_new, appendG, set_new]
  rw [if_pos (by simp; omega)]
  simp only [List.map_append, List.map_cons, List.map_nil]
theorem wd_bad {cs : List (List Nat)} {xs : List Val} {i : Nat} {mu : Store} (hi : i < xs.length) (h : ∀ k < i, goodG cs xs k) (nb : ¬ goodG cs xs i) (hog : ∀ y ∈ xs, ogB y = true) : ∃ x, xs[i]? = some x ∧ wdBody [some (.tup xs), some (roomsV cs), some (.ref mu.length), some (.int i), some x] (mu ++ [.lst ((ltr (xs.take i)).map .str)]) = .rt (.tup [.int i]) (mu ++ [.lst ((ltr (xs.take i)).map .str)]) := by
  have hx : xs[i]? = some xs[i] := List.getElem?_eq_getElem hi
  refine ⟨xs[i], hx, ?_⟩
  generalize xs[i] = x at hx
  have n1 := fun m => is_door_og (mu := m) (hog _ (List.mem_of_getElem? hx)) cs
  have le := badG_le h
  refine seq_rt ?_
  by_cases h4 : i = 5
  · have e4 : decide ((i : Int) = 5) = true := decide_eq_true (by omega)
    simp only [seqS, ifS_ap, retS_ap, asgS_ap, exprS_ap, forS_ap, parS_ap, bindS_ap, nextS, orT, andT, notT, tstM, CC.tB, blM, CC.andM, CC.orM, CC.notM, ifM, b2, u1, fA, vM, cM, optR, R.bind, consM, nilM, tupM, lstM, newM, slM, noP, inP, chM, gNameM, gSubM, gFldM, optX, gPc, gTupM, gListM, setAll, oneC, tupC, yesT, itT, itL, itS, itR1, itEnT, callM, isiV, tagOf, truV, sm0, sm1, lmM, dnewM, objV, isNV, List.set, List.length_cons, List.length_nil, List.map_cons, List.map_nil, List.cons_append, List.nil_append, List.append_assoc, List.length_append, List.replicate, List.getElem?_cons_zero, List.getElem?_cons_succ, Option.bind_some, Option.map_some, Option.bind_none, Option.map_none, if_true, if_false, ↓reduceIte, Nat.zero_le, Nat.zero_add, Nat.reduceAdd, Nat.reduceSub, Nat.sub_self, List.append_nil, Nat.reduceLeDiff, Bool.false_eq_true, Bool.not_true, Bool.not_false, Bool.true_eq_false, propM, clsM, noX, mkKM, mkVM, strL, eq_int, e4]
  · have e4 : decide ((i : Int) = 5) = false := decide_eq_false (by omega)
    cases hg : gateB cs x with
    | false =>
      rw [hg] at n1
      simp only [seqS, ifS_ap, retS_ap, asgS_ap, exprS_ap, forS_ap, parS_ap, bindS_ap, nextS, orT, andT, notT, tstM, CC.tB, blM, CC.andM, CC.orM, CC.notM, ifM, b2, u1, fA, vM, cM, optR, R.bind, consM, nilM, tupM, lstM, newM, slM, noP, inP, chM, gNameM, gSubM, gFldM, optX, gPc, gTupM, gListM, setAll, oneC, tupC, yesT, itT, itL, itS, itR1, itEnT, callM, isiV, tagOf, truV, sm0, sm1, lmM, dnewM, objV, isNV, List.set, List.length_cons, List.length_nil, List.map_cons, List.map_nil, List.cons_append, List.nil_append, List.append_assoc, List.length_append, List.replicate, List.getElem?_cons_zero, List.getElem?_cons_succ, Option.bind_some, Option.map_some, Option.bind_none, Option.map_none, if_true, if_false, ↓reduceIte, Nat.zero_le, Nat.zero_add, Nat.reduceAdd, Nat.reduceSub, Nat.sub_self, List.append_nil, Nat.reduceLeDiff, Bool.false_eq_true, Bool.not_true, Bool.not_false, Bool.true_eq_false, propM, clsM, noX, mkKM, mkVM, strL, eq_int, e4, n1]
    | true =>
      rw [hg] at n1
      obtain ⟨g, rfl, g1, g2, g3⟩ := gateB_iff.mp hg
      have x0 : ∀ m, ixV m (gV g) (.int 0) = some (.str [g.1]) := fun m => rfl
      have e6 := in_ref (mu := mu) (ltr (xs.take i)) [g.1]
      rw [decide_eq_true (Classical.byContradiction fun z => nb ⟨g, hx, g1, g2, g3, z, by omega⟩)] at e6
      simp only [seqS, ifS_ap, retS_ap, asgS_ap, exprS_ap, forS_ap, parS_ap, bindS_ap, nextS, orT, andT, notT, tstM, CC.tB, blM, CC.andM, CC.orM, CC.notM, ifM, b2, u1, fA, vM, cM, optR, R.bind, consM, nilM, tupM, lstM, newM, slM, noP, inP, chM, gNameM, gSubM, gFldM, optX, gPc, gTupM, gListM, setAll, oneC, tupC, yesT, itT, itL, itS, itR1, itEnT, callM, isiV, tagOf, truV, sm0, sm1, lmM, dnewM, objV, isNV, List.set, List.length_cons, List.length_nil, List.map_cons, List.map_nil, List.cons_append, List.nil_append, List.append_assoc, List.length_append, List.replicate, List.getElem?_cons_zero, List.getElem?_cons_succ, Option.bind_some, Option.map_some, Option.bind_none, Option.map_none, if_true, if_false, ↓reduceIte, Nat.zero_le, Nat.zero_add, Nat.reduceAdd, Nat.reduceSub, Nat.sub_self, List.append_nil, Nat.reduceLeDiff, Bool.false_eq_true, Bool.not_true, Bool.not_false, Bool.true_eq_false, propM, clsM, noX, mkKM, mkVM, strL, eq_int, e4, n1, x0, e6]
theorem m_wrong_door_tup {cs : List (List Nat)} {xs : List Val} {out : List Val} (hne : xs ≠ []) (hog : ∀ y ∈ xs, ogB y = true) (h : DueG cs xs out) (mu : Store) : m_wrong_door [.tup xs, roomsV cs] mu = .ok (.tup out) mu := by
  have ht : ∃ d, toD 31 (.tup out) = some d := by
    cases h with
    | ok _ => exact ⟨_, rfl⟩
    | bad i _ _ _ => exact ⟨_, rfl⟩
  obtain ⟨d, hd⟩ := ht
  suffices hh : ∃ l, m0_wrong_door [.tup xs, roomsV cs] mu = .ok (.tup out) (mu ++ [.lst l]) by
    obtain ⟨l, hl⟩ := hh
    exact fin_pl (d := d) (ex := [.lst l]) hl hd
  suffices hh : ∃ l, b_wrong_door [some (.tup xs), some (roomsV cs), none, none, none] mu = .rt (.tup out) (mu ++ [.lst l]) by
    obtain ⟨l, hl⟩ := hh
    refine ⟨l, ?_⟩
    unfold m0_wrong_door
    exact defK_rt rfl hl
  have e0 := eqE_tup (mu := mu) hne
  have go : ∀ {y : SR}, seqS (forS (itEnT (consM (vM 0) nilM)) (gPc [3, 4] (tupC 2)) wdBody) (retS (tupM nilM)) [some (.tup xs), some (roomsV cs), some (.ref mu.length), none, none] (mu ++ [.lst []]) = y → b_wrong_door [some (.tup xs), some (roomsV cs), none, none, none] mu = y := fun {y} hy => by
    unfold b_wrong_door
    refine (seq_nx (by simp only [seqS, ifS_ap, retS_ap, asgS_ap, exprS_ap, forS_ap, parS_ap, bindS_ap, nextS, orT, andT, notT, tstM, CC.tB, blM, CC.andM, CC.orM, CC.notM, ifM, b2, u1, fA, vM, cM, optR, R.bind, consM, nilM, tupM, lstM, newM, slM, noP, inP, chM, gNameM, gSubM, gFldM, optX, gPc, gTupM, gListM, setAll, oneC, tupC, yesT, itT, itL, itS, itR1, itEnT, callM, isiV, tagOf, truV, sm0, sm1, lmM, dnewM, objV, isNV, List.set, List.length_cons, List.length_nil, List.map_cons, List.map_nil, List.cons_append, List.nil_append, List.append_assoc, List.length_append, List.replicate, List.getElem?_cons_zero, List.getElem?_cons_succ, Option.bind_some, Option.map_some, Option.bind_none, Option.map_none, if_true, if_false, ↓reduceIte, Nat.zero_le, Nat.zero_add, Nat.reduceAdd, Nat.reduceSub, Nat.sub_self, List.append_nil, Nat.reduceLeDiff, Bool.false_eq_true, Bool.not_true, Bool.not_false, Bool.true_eq_false, propM, clsM, noX, mkKM, mkVM, strL, kt_tt, e0] <;> rfl)).trans ?_
    refine (seq_nx (r1 := [some (.tup xs), some (roomsV cs), some (.ref mu.length), none, none]) (mu1 := mu ++ [.lst []]) (by simp only [seqS, ifS_ap, retS_ap, asgS_ap, exprS_ap, forS_ap, parS_ap, bindS_ap, nextS, orT, andT, notT, tstM, CC.tB, blM, CC.andM, CC.orM, CC.notM, ifM, b2, u1, fA, vM, cM, optR, R.bind, consM, nilM, tupM, lstM, newM, slM, noP, inP, chM, gNameM, gSubM, gFldM, optX, gPc, gTupM, gListM, setAll, oneC, tupC, yesT, itT, itL, itS, itR1, itEnT, callM, isiV, tagOf, truV, sm0, sm1, lmM, dnewM, objV, isNV, List.set, List.length_cons, List.length_nil, List.map_cons, List.map_nil, List.cons_append, List.nil_append, List.append_assoc, List.length_append, List.replicate, List.getElem?_cons_zero, List.getElem?_cons_succ, Option.bind_some, Option.map_some, Option.bind_none, Option.map_none, if_true, if_false, ↓reduceIte, Nat.zero_le, Nat.zero_add, Nat.reduceAdd, Nat.reduceSub, Nat.sub_self, List.append_nil, Nat.reduceLeDiff, Bool.false_eq_true, Bool.not_true, Bool.not_false, Bool.true_eq_false, propM, clsM, noX, mkKM, mkVM, strL] <;> rfl)).trans ?_
    exact hy
  cases h with
  | ok hg =>
    refine ⟨(ltr xs).map .str, go ?_⟩
    refine seq_ex (I := fun r' m' => m' = mu ++ [.lst ((ltr xs).map .str)]) ?_ ?_
    · refine for_ex (xs := numL xs) (ok := allOk) (mu0 := mu ++ [.lst []]) (fun i r' m' => (∃ a b, r' = [some (.tup xs), some (roomsV cs), some (.ref mu.length), a, b]) ∧ m' = mu ++ [.lst ((ltr (xs.take i)).map .str)]) (enT rfl) (fun _ _ _ _ => trivial) ?_ ⟨⟨none, none, rfl⟩, rfl⟩ fun r' m' h => by
        rw [numL_len, List.take_length] at h
        exact h.2
      rintro i y r' m' hy ⟨⟨a, b, rfl⟩, rfl⟩
      obtain ⟨x, hx, rfl⟩ := num_at hy
      obtain ⟨hl, -⟩ := List.getElem?_eq_some_iff.mp hx
      obtain ⟨x', hx', hw⟩ := wd_good (mu := mu) (j := i) (fun k hk => hg k (by omega)) hog
      rw [hx] at hx'
      cases hx'
      exact ⟨_, _, rfl, _, _, hw, ⟨_, _, rfl⟩, rfl⟩
    · rintro r' m' rfl
      simp only [seqS, ifS_ap, retS_ap, asgS_ap, exprS_ap, forS_ap, parS_ap, bindS_ap, nextS, orT, andT, notT, tstM, CC.tB, blM, CC.andM, CC.orM, CC.notM, ifM, b2, u1, fA, vM, cM, optR, R.bind, consM, nilM, tupM, lstM, newM, slM, noP, inP, chM, gNameM, gSubM, gFldM, optX, gPc, gTupM, gListM, setAll, oneC, tupC, yesT, itT, itL, itS, itR1, itEnT, callM, isiV, tagOf, truV, sm0, sm1, lmM, dnewM, objV, isNV, List.set, List.length_cons, List.length_nil, List.map_cons, List.map_nil, List.cons_append, List.nil_append, List.append_assoc, List.length_append, List.replicate, List.getElem?_cons_zero, List.getElem?_cons_succ, Option.bind_some, Option.map_some, Option.bind_none, Option.map_none, if_true, if_false, ↓reduceIte, Nat.zero_le, Nat.zero_add, Nat.reduceAdd, Nat.reduceSub, Nat.sub_self, List.append_nil, Nat.reduceLeDiff, Bool.false_eq_true, Bool.not_true, Bool.not_false, Bool.true_eq_false, propM, clsM, noX, mkKM, mkVM, strL]
  | bad i hi hg hb =>
    refine ⟨(ltr (xs.take i)).map .str, go ?_⟩
    obtain ⟨v, mu', e, rfl, rfl⟩ := for_rt (mi := itEnT (consM (vM 0) nilM)) (g := gPc [3, 4] (tupC 2)) (body := wdBody) (xs := numL xs) (ok := allOk) (mu0 := mu ++ [.lst []]) (mu := mu ++ [.lst []]) (r := [some (.tup xs), some (roomsV cs), some (.ref mu.length), none, none]) (fun i r' m' => (∃ a b, r' = [some (.tup xs), some (roomsV cs), some (.ref mu.length), a, b]) ∧ m' = mu ++ [.lst ((ltr (xs.take i)).map .str)]) i (by rw [numL_len]; exact hi) (fun v m' => v = .tup [.int i] ∧ m' = mu ++ [.lst ((ltr (xs.take i)).map .str)]) (enT rfl) (fun _ _ _ _ => trivial)
      (fun j y r' m' hj hy ⟨⟨a, b, hr⟩, hm⟩ => by
        subst hr hm
        obtain ⟨x, hx, rfl⟩ := num_at hy
        obtain ⟨hl, -⟩ := List.getElem?_eq_some_iff.mp hx
        obtain ⟨x', hx', hw⟩ := wd_good (mu := mu) (j := j) (fun k hk => hg k (by omega)) hog
        rw [hx] at hx'
        cases hx'
        exact ⟨_, _, rfl, _, _, hw, ⟨_, _, rfl⟩, rfl⟩)
      (fun r' m' ⟨⟨a, b, hr⟩, hm⟩ => by
        subst hr hm
        obtain ⟨x, hx, hw⟩ := wd_bad (mu := mu) hi hg hb hog
        exact ⟨_, _, _, numL_at hx, rfl, _, _, hw, rfl, rfl⟩) ⟨⟨none, none, rfl⟩, rfl⟩
    exact seq_rt e
theorem ogV_gate {g : G} {cs : List (List Nat)} (h1 : g.2.1.length ≤ 1000) (h2 : g.2.2.length ≤ 1000) : ogB (gV g) = true := by
  have io : ∀ s : List Nat, ioB (.str s) = true := fun s => rfl
  simp only [ogB, gV, List.all_cons, List.all_nil, odB, io, Bool.and_true, Bool.true_and, List.length_cons, List.length_nil, decide_eq_true_eq, Bool.and_eq_true]
  exact ⟨by decide, h1, h2⟩
theorem goodG_of {cs : List (List Nat)} {gs : List G} (h : doorsB cs gs) : DueG cs (gs.map gV) [] := by
  obtain ⟨h1, h2, h3, h4⟩ := h
  refine .ok fun j hj => ?_
  rw [List.length_map] at hj
  obtain ⟨a, b, c⟩ := h4 _ (List.getElem_mem hj)
  refine ⟨gs[j], by simp [hj], a, b, c, ?_, by omega⟩
  rw [← List.map_take, ltr_map]
  intro z
  obtain ⟨g', hg, e⟩ := List.mem_map.mp z
  obtain ⟨k, hk, e1⟩ := List.getElem_of_mem hg
  rw [List.length_take] at hk
  rw [List.getElem_take] at e1
  refine (List.pairwise_iff_getElem.mp h3) k j (by simp; omega) (by simpa using hj) (by omega) ?_
  simp only [List.getElem_map, e1]
  exact List.singleton_inj.mp e
theorem m_wrong_door_ok (cs : List (List Nat)) (gs : List G) (mu : Store) (hc : roomsB cs) (h : doorsB cs gs) : m_wrong_door [doorsV gs, roomsV cs] mu = .ok (.tup []) mu := by
  refine m_wrong_door_tup (fun z => h.1 (List.map_eq_nil_iff.mp z)) (fun y hy => ?_) (goodG_of h) mu
  obtain ⟨g, hg, rfl⟩ := List.mem_map.mp hy
  obtain ⟨_, b, c⟩ := h.2.2.2 g hg
  have := nameB_len (hc.2.2.2 _ b)
  have := nameB_len (hc.2.2.2 _ c)
  exact ogV_gate (cs := cs) (by omega) (by omega)
abbrev strN (s : Str) : List Nat := s.cps.toList
/-! ### a house -/
def dk (f1 f2 : G → Val) (gs : List G) : List (DKey × Val) := gs.foldl (fun d g => putD (.str [up1 g.1]) (f2 g) (putD (.str [g.1]) (f1 g) d)) []
theorem putD_len (k : DKey) (v : Val) (d : List (DKey × Val)) : (putD k v d).length ≤ d.length + 1 := by
  unfold putD
  split <;> simp
theorem dk_snoc (f1 f2 : G → Val) (gs : List G) (g : G) : dk f1 f2 (gs ++ [g]) = putD (.str [up1 g.1]) (f2 g) (putD (.str [g.1]) (f1 g) (dk f1 f2 gs)) := by
  simp only [dk, List.foldl_append, List.foldl_cons, List.foldl_nil]
theorem dk_len (f1 f2 : G → Val) (gs : List G) : (dk f1 f2 gs).length ≤ 2 * gs.length := by
  have gen : ∀ (gs : List G) (d : List (DKey × Val)), (gs.foldl (fun d g => putD (.str [up1 g.1]) (f2 g) (putD (.str [g.1]) (f1 g) d)) d).length ≤ d.length + 2 * gs.length := by
    intro gs
    induction gs with
    | nil => intro d; simp
    | cons g gs ih =>
      intro d
      rw [List.foldl_cons, List.length_cons]
      have := ih (putD (.str [up1 g.1]) (f2 g) (putD (.str [g.1]) (f1 g) d))
      have a := putD_len (.str [up1 g.1]) (f2 g) (putD (.str [g.1]) (f1 g) d)
      have b := putD_len (.str [g.1]) (f1 g) d
      omega
  have := gen gs []
  simpa [dk] using this
abbrev v1 (g : G) : Val := .str g.2.1
abbrev v2 (g : G) : Val := .str g.2.2
abbrev startsD (gs : List G) := dk v1 v2 gs
abbrev goalsD (gs : List G) := dk v2 v1 gs
theorem at3a (mu : Store) (a b c : Cell) : (mu ++ [a, b, c])[mu.length]? = some a := by simp
theorem at3b (mu : Store) (a b c : Cell) : (mu ++ [a, b, c])[mu.length + 1]? = some b := by simp [List.getElem?_append_right]
theorem at3c (mu : Store) (a b c : Cell) : (mu ++ [a, b, c])[mu.length + 2]? = some c := by
  rw [List.getElem?_append_right (by omega), show mu.length + 2 - mu.length = 2 by omega]
  rfl
theorem set3b (mu : Store) (a b c d : Cell) : (mu ++ [a, b, c]).set (mu.length + 1) d = mu ++ [a, d, c] := by
  rw [List.set_append_right _ _ (by omega), show mu.length + 1 - mu.length = 1 by omega]
  rfl
theorem set3c (mu : Store) (a b c d : Cell) : (mu ++ [a, b, c]).set (mu.length + 2) d = mu ++ [a, b, d] := by
  rw [List.set_append_right _ _ (by omega), show mu.length + 2 - mu.length = 2 by omega]
  rfl
theorem set3a (mu : Store) (a b c d : Cell) : (mu ++ [a, b, c]).set mu.length d = mu ++ [d, b, c] := by
  rw [List.set_append_right _ _ (by omega), show mu.length - mu.length = 0 by omega]
  rfl
abbrev hF (cs : List (List Nat)) (gs : List G) (n : Nat) : List (Nat × Val) := [(3, roomsV cs), (4, doorsV gs), (5, .ref (n + 1)), (6, .ref (n + 2))]
theorem lets_asc : ∀ c ∈ lets, c < 128 := by decide +kernel
theorem upper1 {c : Nat} (h : c ∈ lets) : upperG [c] = some (.str [up1 c]) := by
  unfold upperG
  rw [if_pos ⟨by simp [isAscii, lets_asc c h], by simp⟩]
  rfl
theorem house_init (cs : List (List Nat)) (gs : List G) (mu : Store) (h : roomsB cs) (h' : doorsB cs gs) :
    m0_House_init [.ref mu.length, roomsV cs, doorsV gs] (mu ++ [.obj 0 []]) = .ok .non (mu ++ [.obj 0 (hF cs gs mu.length), .dct (startsD gs), .dct (goalsD gs)]) := by
  have w1 := m_wrong_room_ok cs (mu ++ [.obj 0 []]) h
  have w2 := m_wrong_door_ok cs gs (mu ++ [.obj 0 []]) h h'
  obtain ⟨h1, h2, h3, h4⟩ := h'
  have s3 : setV na 3 (mu ++ [.obj 0 []]) (.ref mu.length) (roomsV cs) = some (mu ++ [.obj 0 [(3, roomsV cs)]]) := by
    simp only [setV, at_new]
    rw [if_pos ⟨by decide +kernel, by simp⟩, set_new]
    rfl
  have s4 : setV na 4 (mu ++ [.obj 0 [(3, roomsV cs)]]) (.ref mu.length) (doorsV gs) = some (mu ++ [.obj 0 [(3, roomsV cs), (4, doorsV gs)]]) := by
    simp only [setV, at_new]
    rw [if_pos ⟨by decide +kernel, by simp⟩, set_new]
    rfl
  have s5 : setV na 5 (mu ++ [.obj 0 [(3, roomsV cs), (4, doorsV gs)], .dct [], .dct []]) (.ref mu.length) (.ref (mu.length + 1)) = some (mu ++ [.obj 0 [(3, roomsV cs), (4, doorsV gs), (5, .ref (mu.length + 1))], .dct [], .dct []]) := by
    simp only [setV, at3a]
    rw [if_pos ⟨by decide +kernel, by simp⟩, set3a]
    rfl
  have s6 : setV na 6 (mu ++ [.obj 0 [(3, roomsV cs), (4, doorsV gs), (5, .ref (mu.length + 1))], .dct [], .dct []]) (.ref mu.length) (.ref (mu.length + 2)) = some (mu ++ [.obj 0 (hF cs gs mu.length), .dct [], .dct []]) := by
    simp only [setV, at3a]
    rw [if_pos ⟨by decide +kernel, by simp⟩, set3a]
    rfl
  have f5 : ∀ a b, fldV na 5 (mu ++ [.obj 0 (hF cs gs mu.length), a, b]) (.ref mu.length) = some (.ref (mu.length + 1)) := fun a b => by
    simp only [fldV, objV, at3a, Option.bind_some]
    rw [if_pos (by decide +kernel)]
    rfl
  have f6 : ∀ a b, fldV na 6 (mu ++ [.obj 0 (hF cs gs mu.length), a, b]) (.ref mu.length) = some (.ref (mu.length + 2)) := fun a b => by
    simp only [fldV, objV, at3a, Option.bind_some]
    rw [if_pos (by decide +kernel)]
    rfl
  have put5 : ∀ o d b k v, d.length < 100000 → storeV (mu ++ [o, .dct d, b]) (.ref (mu.length + 1)) (.str k) v = some (mu ++ [o, .dct (putD (.str k) v d), b]) := fun o d b k v hd => by
    simp only [storeV, at3b, CC.keyOf]
    rw [if_pos hd, set3b]
  have put6 : ∀ o a d k v, d.length < 100000 → storeV (mu ++ [o, a, .dct d]) (.ref (mu.length + 2)) (.str k) v = some (mu ++ [o, a, .dct (putD (.str k) v d)]) := fun o a d k v hd => by
    simp only [storeV, at3c, CC.keyOf]
    rw [if_pos hd, set3c]
  have loop := forL_idx (ok := allOk) (g := gPc [4, 5, 6] (tupC 3)) (body := seqS
              (asgS (tupM (consM (vM 5) (consM (vM 6) nilM)))
                (gTupM [gSubM (u1 (fldV na 5) (vM 0)) (vM 4), gSubM (u1 (fldV na 6) (vM 0)) (vM 4)]))
              (asgS (tupM (consM (vM 6) (consM (vM 5) nilM)))
                (gTupM
                  [gSubM (u1 (fldV na 5) (vM 0)) (sm0 upperG (vM 4)),
                    gSubM (u1 (fldV na 6) (vM 0)) (sm0 upperG (vM 4))]))) (xs := gs.map gV) (r := [some (.ref mu.length), some (roomsV cs), some (doorsV gs), some (.tup []), none, none, none]) (mu := mu ++ [.obj 0 (hF cs gs mu.length), .dct [], .dct []])
    (fun i r m => (∃ a b c, r = [some (.ref mu.length), some (roomsV cs), some (doorsV gs), some (.tup []), a, b, c]) ∧ m = mu ++ [.obj 0 (hF cs gs mu.length), .dct (startsD (gs.take i)), .dct (goalsD (gs.take i))]) (fun _ _ _ _ => trivial) (fun i x r m hx hI => ?_) ⟨⟨none, none, none, rfl⟩, rfl⟩
  · obtain ⟨r', mu', lp, -, rfl⟩ := loop
    rw [List.length_map, List.take_length] at lp
    simp only [m0_House_init, defK, b_House_init, seqS, ifS_ap, retS_ap, asgS_ap, exprS_ap, forS_ap, parS_ap, bindS_ap, nextS, orT, andT, notT, tstM, CC.tB, blM, CC.andM, CC.orM, CC.notM, ifM, b2, u1, fA, vM, cM, optR, R.bind, consM, nilM, tupM, lstM, newM, slM, noP, inP, chM, gNameM, gSubM, gFldM, optX, gPc, gTupM, gListM, setAll, oneC, tupC, yesT, itT, itL, itS, itR1, itEnT, callM, isiV, tagOf, truV, sm0, sm1, lmM, dnewM, objV, isNV, List.set, List.length_cons, List.length_nil, List.map_cons, List.map_nil, List.cons_append, List.nil_append, List.append_assoc, List.length_append, List.replicate, List.getElem?_cons_zero, List.getElem?_cons_succ, Option.bind_some, Option.map_some, Option.bind_none, Option.map_none, if_true, if_false, ↓reduceIte, Nat.zero_le, Nat.zero_add, Nat.reduceAdd, Nat.reduceSub, Nat.sub_self, List.append_nil, Nat.reduceLeDiff, Bool.false_eq_true, Bool.not_true, Bool.not_false, Bool.true_eq_false, propM, clsM, noX, mkKM, mkVM, strL, w1, w2, List.isEmpty_nil, s3, s4, s5, s6, lp]
  · obtain ⟨⟨a, b, c, rfl⟩, rfl⟩ := hI
    obtain ⟨hl, hg2⟩ := List.getElem?_eq_some_iff.mp hx
    rw [List.length_map] at hl
    rw [List.getElem_map] at hg2
    have hg : gs[i]? = some gs[i] := List.getElem?_eq_getElem hl
    generalize gs[i] = g at hg hg2
    subst hg2
    obtain ⟨k1, k2, k3⟩ := h4 g (List.mem_of_getElem? hg)
    have up := upper1 k1
    have lt : (gs.take i).length ≤ 5 := by simp; omega
    have ls : (startsD (gs.take i)).length ≤ 2 * (gs.take i).length := dk_len v1 v2 (gs.take i)
    have lg : (goalsD (gs.take i)).length ≤ 2 * (gs.take i).length := dk_len v2 v1 (gs.take i)
    refine ⟨[some (.ref mu.length), some (roomsV cs), some (doorsV gs), some (.tup []), some (.str [g.1]), some (.str g.2.1), some (.str g.2.2)], _, rfl, [some (.ref mu.length), some (roomsV cs), some (doorsV gs), some (.tup []), some (.str [g.1]), some (.str g.2.1), some (.str g.2.2)], mu ++ [.obj 0 (hF cs gs mu.length), .dct (startsD (gs.take (i + 1))), .dct (goalsD (gs.take (i + 1)))], ?_, ⟨_, _, _, rfl⟩, rfl⟩
    have e1 := put5 (.obj 0 (hF cs gs mu.length)) (startsD (gs.take i)) (.dct (goalsD (gs.take i))) [g.1] (v1 g) (by omega)
    have e2 := put6 (.obj 0 (hF cs gs mu.length)) (.dct (putD (.str [g.1]) (v1 g) (startsD (gs.take i)))) (goalsD (gs.take i)) [g.1] (v2 g) (by omega)
    have p1 := putD_len (.str [g.1]) (v1 g) (startsD (gs.take i))
    have p2 := putD_len (.str [g.1]) (v2 g) (goalsD (gs.take i))
    have e3 := put5 (.obj 0 (hF cs gs mu.length)) (putD (.str [g.1]) (v1 g) (startsD (gs.take i))) (.dct (putD (.str [g.1]) (v2 g) (goalsD (gs.take i)))) [up1 g.1] (v2 g) (by omega)
    have e4 := put6 (.obj 0 (hF cs gs mu.length)) (.dct (putD (.str [up1 g.1]) (v2 g) (putD (.str [g.1]) (v1 g) (startsD (gs.take i))))) (putD (.str [g.1]) (v2 g) (goalsD (gs.take i))) [up1 g.1] (v1 g) (by omega)
    simp only [seqS, ifS_ap, retS_ap, asgS_ap, exprS_ap, forS_ap, parS_ap, bindS_ap, nextS, orT, andT, notT, tstM, CC.tB, blM, CC.andM, CC.orM, CC.notM, ifM, b2, u1, fA, vM, cM, optR, R.bind, consM, nilM, tupM, lstM, newM, slM, noP, inP, chM, gNameM, gSubM, gFldM, optX, gPc, gTupM, gListM, setAll, oneC, tupC, yesT, itT, itL, itS, itR1, itEnT, callM, isiV, tagOf, truV, sm0, sm1, lmM, dnewM, objV, isNV, List.set, List.length_cons, List.length_nil, List.map_cons, List.map_nil, List.cons_append, List.nil_append, List.append_assoc, List.length_append, List.replicate, List.getElem?_cons_zero, List.getElem?_cons_succ, Option.bind_some, Option.map_some, Option.bind_none, Option.map_none, if_true, if_false, ↓reduceIte, Nat.zero_le, Nat.zero_add, Nat.reduceAdd, Nat.reduceSub, Nat.sub_self, List.append_nil, Nat.reduceLeDiff, Bool.false_eq_true, Bool.not_true, Bool.not_false, Bool.true_eq_false, propM, clsM, noX, mkKM, mkVM, strL, f5, f6, e1, e2, e3, e4, up]
    simp only [List.take_succ, hg, Option.toList_some, dk_snoc]
end K06

set_option Elab.async false
set_option linter.all false
set_option maxRecDepth 100000
set_option maxHeartbeats 400000
namespace K06
open PySem PySem.Spec PyProof.Rows L2 CC
def houseV (cs : List (List Nat)) (gs : List G) : Val := .obj 0 [(3, roomsV cs), (4, doorsV gs), (5, .dct (startsD gs)), (6, .dct (goalsD gs))]
theorem dk_strs (f1 f2 : G → Val) (h1 : ∀ g, ∃ s, f1 g = .str s) (h2 : ∀ g, ∃ s, f2 g = .str s) (gs : List G) : ∀ q ∈ dk f1 f2 gs, ∃ s, q.2 = .str s := by
  have put : ∀ k v (d : List (DKey × Val)), (∃ s, v = .str s) → (∀ q ∈ d, ∃ s, q.2 = Val.str s) → ∀ q ∈ putD k v d, ∃ s, q.2 = .str s := by
    intro k v d hv hd q hq
    unfold putD at hq
    split at hq
    · obtain ⟨p, hp, rfl⟩ := List.mem_map.mp hq
      split
      · exact hv
      · exact hd p hp
    · rcases List.mem_append.mp hq with h | h
      · exact hd q h
      · cases h with
        | head => exact hv
        | tail _ h => cases h
  have gen : ∀ (gs : List G) (d : List (DKey × Val)), (∀ q ∈ d, ∃ s, q.2 = Val.str s) → ∀ q ∈ gs.foldl (fun d g => putD (.str [up1 g.1]) (f2 g) (putD (.str [g.1]) (f1 g) d)) d, ∃ s, q.2 = .str s := by
    intro gs
    induction gs with
    | nil => intro d h; exact h
    | cons g gs ih => intro d h; exact ih _ (put _ _ _ (h2 g) (put _ _ _ (h1 g) h))
  exact gen gs [] fun q hq => by cases hq
theorem frz_dct {mu : Store} {n j : Nat} (d : List (DKey × Val)) (h : ∀ q ∈ d, ∃ s, q.2 = Val.str s) : mapO (fun q : DKey × Val => (frz mu n (j + 1) q.2).map fun y => (q.1, y)) d = some d := by
  refine mapO_id fun q hq => ?_
  obtain ⟨s, e⟩ := h q hq
  obtain ⟨k, v⟩ := q
  simp only at e
  subst e
  rfl
theorem frz_refD {mu : Store} {n k r : Nat} {d : List (DKey × Val)} (h1 : ¬ r < n) (h2 : mu[r]? = some (.dct d)) : frz mu n (k + 1) (.ref r) = (mapO (fun q => (frz mu n k q.2).map fun y => (q.1, y)) d).map .dct := by
  rw [frz]
  simp only [h1, if_false, h2]
theorem frz_refO {mu : Store} {n k r C : Nat} {d : List (Nat × Val)} (h1 : ¬ r < n) (h2 : mu[r]? = some (.obj C d)) : frz mu n (k + 1) (.ref r) = (mapO (fun q => (frz mu n k q.2).map fun y => (q.1, y)) d).map (.obj C) := by
  rw [frz]
  simp only [h1, if_false, h2]
theorem house_mk (cs : List (List Nat)) (gs : List G) (mu : Store) (h : roomsB cs) (h' : doorsB cs gs) : finM (mkR 0 m_House_init) [roomsV cs, doorsV gs] mu = .ok (houseV cs gs) mu := by
  refine fin_ok (v := .ref mu.length) (ex := [.obj 0 (hF cs gs mu.length), .dct (startsD gs), .dct (goalsD gs)]) ?_ ?_
  · unfold mkR
    rw [show m_House_init = m0_House_init from rfl, house_init cs gs mu h h']
  · have a1 : ∀ m : Store, frz m mu.length 39 (roomsV cs) = some (roomsV cs) := fun m => frz_toD 31 _ _ 39 (toD_rooms cs) (by decide)
    have a2 : ∀ m : Store, frz m mu.length 39 (doorsV gs) = some (doorsV gs) := fun m => frz_toD 31 _ _ 39 (toD_doors gs) (by decide)
    have a3 : frz (mu ++ [.obj 0 (hF cs gs mu.length), .dct (startsD gs), .dct (goalsD gs)]) mu.length 39 (.ref (mu.length + 1)) = some (.dct (startsD gs)) := by
      rw [frz_refD (k := 38) (by omega) (at3b _ _ _ _), frz_dct (j := 37) _ (dk_strs v1 v2 (fun g => ⟨_, rfl⟩) (fun g => ⟨_, rfl⟩) gs)]
      rfl
    have a4 : frz (mu ++ [.obj 0 (hF cs gs mu.length), .dct (startsD gs), .dct (goalsD gs)]) mu.length 39 (.ref (mu.length + 2)) = some (.dct (goalsD gs)) := by
      rw [frz_refD (k := 38) (by omega) (at3c _ _ _ _), frz_dct (j := 37) _ (dk_strs v2 v1 (fun g => ⟨_, rfl⟩) (fun g => ⟨_, rfl⟩) gs)]
      rfl
    rw [frz_refO (k := 39) (by omega) (at3a _ _ _ _)]
    simp only [hF] at a3 a4
    simp only [hF, mapO, a1, a2, a3, a4, Option.map_some]
    rfl
theorem house_mkK (cs : List (List Nat)) (gs : List G) (mu : Store) (h : roomsB cs) (h' : doorsB cs gs) : finM (fun as => mkR 0 m0_House_init as.reverse) [doorsV gs, roomsV cs] mu = .ok (houseV cs gs) mu := by
  have e : finM (fun as => mkR 0 m0_House_init as.reverse) [doorsV gs, roomsV cs] mu = finM (mkR 0 m0_House_init) [roomsV cs, doorsV gs] mu := by
    unfold finM
    simp only [List.reverse_cons, List.reverse_nil, List.nil_append, List.cons_append]
  rw [e]
  exact house_mk cs gs mu h h'
/-! ### what a house tells -/
theorem fld_rooms (cs : List (List Nat)) (gs : List G) (mu : Store) : fldV na 3 mu (houseV cs gs) = some (roomsV cs) := by
  simp only [fldV, objV, houseV, Option.bind_some]
  rw [if_pos (by decide +kernel)]
  rfl
theorem fld_doors (cs : List (List Nat)) (gs : List G) (mu : Store) : fldV na 4 mu (houseV cs gs) = some (doorsV gs) := by
  simp only [fldV, objV, houseV, Option.bind_some]
  rw [if_pos (by decide +kernel)]
  rfl
end K06

set_option Elab.async false
set_option linter.all false
set_option maxRecDepth 100000
set_option maxHeartbeats 1000000
namespace K06
open PySem PySem.Spec PyProof.Rows L2 CC
theorem dip_ok {w : Nat} {mu : Store} {n : Nat} (h : Well w mu) (h1 : 0 < n) (h2 : n < 1073741824) : ∃ (d : Nat) (mu' : Store), m_L_law_dip [.ref w, .int n] mu = .ok (.int d) mu' ∧ d < n ∧ Dip w mu mu' := by
  obtain ⟨a, b, c, hw⟩ := h
  have ix0 : ∀ m a b c, m[w]? = some (W3 a b c) → ixV m (.ref w) (.int 0) = some (.int a) := fun m a b c e => by simp only [ixV, dctV, seqL, e]; rfl
  have ix1 : ∀ m a b c, m[w]? = some (W3 a b c) → ixV m (.ref w) (.int 1) = some (.int b) := fun m a b c e => by simp only [ixV, dctV, seqL, e]; rfl
  have ix2 : ∀ m a b c, m[w]? = some (W3 a b c) → ixV m (.ref w) (.int 2) = some (.int c) := fun m a b c e => by simp only [ixV, dctV, seqL, e]; rfl
  have st0 : ∀ m a b c x, m[w]? = some (W3 a b c) → storeV m (.ref w) (.int 0) (.int x) = some (m.set w (W3 x b c)) := fun m a b c x e => by simp only [storeV, e]; rfl
  have st1 : ∀ m a b c x, m[w]? = some (W3 a b c) → storeV m (.ref w) (.int 1) (.int x) = some (m.set w (W3 a x c)) := fun m a b c x e => by simp only [storeV, e]; rfl
  have st2 : ∀ m a b c x, m[w]? = some (W3 a b c) → storeV m (.ref w) (.int 2) (.int x) = some (m.set w (W3 a b x)) := fun m a b c x e => by simp only [storeV, e]; rfl
  have hn : (0 : Int) < n := by omega
  have hn2 : (n : Int) < 1073741824 := by omega
  have rl3 : ∀ n x y z, rlC n (W3 x y z) = true := fun n x y z => rfl
  have md : ∀ m (x : Int), modV m (.int x) (.int n) = some (.int (x % n)) := fun m x => by simp only [modV, hn, if_true]
  have dv : ∀ m (x : Int), fdivV m (.int x) (.int n) = some (.int (x / n)) := fun m x => by simp only [fdivV, hn, hn2, and_self, if_true]
  have k1 := at_setW (c := W3 a b (c + 1)) hw
  have posm : ∀ x : Int, ∃ d : Nat, x % n = d ∧ d < n := fun x => ⟨(x % n).toNat, by have := Int.emod_nonneg x (show (n : Int) ≠ 0 by omega); omega, by have := Int.emod_lt_of_pos x hn; have := Int.emod_nonneg x (show (n : Int) ≠ 0 by omega); omega⟩
  by_cases ha : 0 < a
  · obtain ⟨d, e, hd⟩ := posm a
    have k2 := at_setW (c := W3 (a / n) b (c + 1)) k1
    refine ⟨d, _, fin_dip (w := w) (d := .int d) (mu' := (mu.set w (W3 a b (c + 1))).set w (W3 (a / n) b (c + 1))) ?_ ?_ rfl, hd, ?_⟩
    · simp only [m0_L_law_dip, defK, b_L_law_dip, seqS, ifS_ap, retS_ap, asgS_ap, exprS_ap, forS_ap, parS_ap, bindS_ap, nextS, orT, andT, notT, tstM, CC.tB, blM, CC.andM, CC.orM, CC.notM, ifM, b2, u1, fA, vM, cM, optR, R.bind, consM, nilM, tupM, lstM, newM, slM, noP, inP, chM, gNameM, gSubM, gFldM, optX, gPc, gTupM, gListM, setAll, oneC, tupC, yesT, itT, itL, itS, itR1, itEnT, callM, isiV, tagOf, truV, sm0, sm1, lmM, dnewM, objV, isNV, List.set, List.length_cons, List.length_nil, List.map_cons, List.map_nil, List.cons_append, List.nil_append, List.append_assoc, List.length_append, List.replicate, List.getElem?_cons_zero, List.getElem?_cons_succ, Option.bind_some, Option.map_some, Option.bind_none, Option.map_none, if_true, if_false, ↓reduceIte, Nat.zero_le, Nat.zero_add, Nat.reduceAdd, Nat.reduceSub, Nat.sub_self, List.append_nil, Nat.reduceLeDiff, Bool.false_eq_true, Bool.not_true, Bool.not_false, Bool.true_eq_false, propM, clsM, noX, mkKM, mkVM, strL, ix2 _ _ _ _ hw, addV, st2 _ _ _ _ _ hw, ix0 _ _ _ _ k1, gtV, ordV, ha, decide_true, intV, md, dv, st0 _ _ _ _ _ k1, e]
    · exact ⟨⟨_, _, _, hw⟩, _, _, _, List.set_set ..⟩
    · exact ⟨⟨_, _, _, hw⟩, _, _, _, List.set_set ..⟩
  · have k2 := fun x => at_setW (c := W3 a x (c + 1)) k1
    obtain ⟨d, e, hd⟩ := posm (((b * 48271 + 7919 * (c + 1) + 11) % 2147483647) / 1024)
    refine ⟨d, _, fin_dip (w := w) (d := .int d) (mu' := (mu.set w (W3 a b (c + 1))).set w (W3 a ((b * 48271 + 7919 * (c + 1) + 11) % 2147483647) (c + 1))) ?_ ?_ rfl, hd, ?_⟩
    · have md2 : ∀ m (x : Int), modV m (.int x) (.int 2147483647) = some (.int (x % 2147483647)) := fun m x => rfl
      have dv2 : ∀ m (x : Int), fdivV m (.int x) (.int 1024) = some (.int (x / 1024)) := fun m x => rfl
      have ml : ∀ m (x : Int), mulV m (.int x) (.int 48271) = some (.int (x * 48271)) := fun m x => by simp only [mulV]; rw [if_pos (.inr (by decide))]
      have ml2 : ∀ m (y : Int), mulV m (.int 7919) (.int y) = some (.int (7919 * y)) := fun m y => by simp only [mulV]; rw [if_pos (.inl (by decide))]
      simp only [m0_L_law_dip, defK, b_L_law_dip, seqS, ifS_ap, retS_ap, asgS_ap, exprS_ap, forS_ap, parS_ap, bindS_ap, nextS, orT, andT, notT, tstM, CC.tB, blM, CC.andM, CC.orM, CC.notM, ifM, b2, u1, fA, vM, cM, optR, R.bind, consM, nilM, tupM, lstM, newM, slM, noP, inP, chM, gNameM, gSubM, gFldM, optX, gPc, gTupM, gListM, setAll, oneC, tupC, yesT, itT, itL, itS, itR1, itEnT, callM, isiV, tagOf, truV, sm0, sm1, lmM, dnewM, objV, isNV, List.set, List.length_cons, List.length_nil, List.map_cons, List.map_nil, List.cons_append, List.nil_append, List.append_assoc, List.length_append, List.replicate, List.getElem?_cons_zero, List.getElem?_cons_succ, Option.bind_some, Option.map_some, Option.bind_none, Option.map_none, if_true, if_false, ↓reduceIte, Nat.zero_le, Nat.zero_add, Nat.reduceAdd, Nat.reduceSub, Nat.sub_self, List.append_nil, Nat.reduceLeDiff, Bool.false_eq_true, Bool.not_true, Bool.not_false, Bool.true_eq_false, propM, clsM, noX, mkKM, mkVM, strL, ix2 _ _ _ _ hw, addV, st2 _ _ _ _ _ hw, ix0 _ _ _ _ k1, ix1 _ _ _ _ k1, ix2 _ _ _ _ k1, gtV, ordV, ha, decide_false, intV, md2, dv2, ml, ml2, st1 _ _ _ _ _ k1, ix1 _ _ _ _ (k2 _), md, e]
    · exact ⟨⟨_, _, _, hw⟩, _, _, _, List.set_set ..⟩
    · exact ⟨⟨_, _, _, hw⟩, _, _, _, List.set_set ..⟩
theorem one_ok {w : Nat} {mu : Store} {V : Val} {n : Nat} (h : Well w mu) (h1 : 0 < n) (h2 : n < 1073741824) (hl : ∀ m, lenV m [V] = some (.int n)) (P : Val → Prop) (hx : ∀ (m : Store) (d : Nat), d < n → ∃ z pd, ixV m V (.int d) = some z ∧ toD 31 z = some pd ∧ P z) :
    ∃ z pd mu', m_L_law_one [.ref w, V] mu = .ok z mu' ∧ toD 31 z = some pd ∧ P z ∧ Dip w mu mu' := by
  obtain ⟨d, mu', e1, e2, D⟩ := dip_ok h h1 h2
  obtain ⟨z, pd, i1, i2, i3⟩ := hx mu' d e2
  refine ⟨z, pd, mu', fin_dip (w := w) (d := pd) ?_ D i2, i2, i3, D⟩
  simp only [m0_L_law_one, defK, b_L_law_one, seqS, ifS_ap, retS_ap, asgS_ap, exprS_ap, forS_ap, parS_ap, bindS_ap, nextS, orT, andT, notT, tstM, CC.tB, blM, CC.andM, CC.orM, CC.notM, ifM, b2, u1, fA, vM, cM, optR, R.bind, consM, nilM, tupM, lstM, newM, slM, noP, inP, chM, gNameM, gSubM, gFldM, optX, gPc, gTupM, gListM, setAll, oneC, tupC, yesT, itT, itL, itS, itR1, itEnT, callM, isiV, tagOf, truV, sm0, sm1, lmM, dnewM, objV, isNV, List.set, List.length_cons, List.length_nil, List.map_cons, List.map_nil, List.cons_append, List.nil_append, List.append_assoc, List.length_append, List.replicate, List.getElem?_cons_zero, List.getElem?_cons_succ, Option.bind_some, Option.map_some, Option.bind_none, Option.map_none, if_true, if_false, ↓reduceIte, Nat.zero_le, Nat.zero_add, Nat.reduceAdd, Nat.reduceSub, Nat.sub_self, List.append_nil, Nat.reduceLeDiff, Bool.false_eq_true, Bool.not_true, Bool.not_false, Bool.true_eq_false, propM, clsM, noX, mkKM, mkVM, strL, hl, e1, i1]
abbrev menuL : List (List Nat) := [strN "hall", strN "yard", strN "go", strN "end", strN "or", strN "do", strN "a", strN "longroom", strN "program"]
abbrev menuV : Val := .lst [strL "hall", strL "yard", strL "go", strL "end", strL "or", strL "do", strL "a", strL "longroom", strL "program"]
theorem menu_at (m : Store) (j : Nat) (h : j < 9) : ixV m menuV (.int j) = some (.str (menuL.getD j [])) := by
  match j, h with
  | 0, _ => rfl
  | 1, _ => rfl
  | 2, _ => rfl
  | 3, _ => rfl
  | 4, _ => rfl
  | 5, _ => rfl
  | 6, _ => rfl
  | 7, _ => rfl
  | 8, _ => rfl
abbrev farV : Val := .lst [.int 1, .int 2, .int 4, .int 5]
abbrev farL : List Nat := [1, 2, 4, 5]
theorem far_at (m : Store) (j : Nat) (h : j < 4) : ixV m farV (.int j) = some (.int (farL.getD j 0 : Nat)) := by
  match j, h with
  | 0, _ => rfl
  | 1, _ => rfl
  | 2, _ => rfl
  | 3, _ => rfl
def wordsOf (b f n : Nat) : List (List Nat) := (List.range n).map fun k => menuL.getD ((b + f * k) % 9) []
def roomsQ (cs : List (List Nat)) : Bool := decide (cs ≠ []) && (decide (cs.length ≤ 4) && (decide cs.Nodup && cs.all nameB))
theorem roomsB_of {cs : List (List Nat)} (h : roomsQ cs = true) : roomsB cs := by
  unfold roomsQ at h
  simp only [Bool.and_eq_true, decide_eq_true_eq, List.all_eq_true] at h
  exact h
theorem words_all : ∀ b : _root_.Fin 9, ∀ j : _root_.Fin 4, ∀ n : _root_.Fin 4, roomsQ (wordsOf b (farL.getD j 0) (n + 1)) = true := by decide +kernel
theorem cast9 (b f k : Nat) : ((b : Int) + (f : Int) * (0 + (k : Int))) % 9 = (((b + f * k) % 9 : Nat) : Int) := by
  rw [Int.zero_add]
  push_cast
  rfl
theorem words_ok {w : Nat} {mu : Store} {n : Nat} (h : Well w mu) (hn : n < 4) : ∃ cs mu', m_L_law_words [.ref w, .int ((n + 1 : Nat) : Int)] mu = .ok (.lst (cs.map .str)) mu' ∧ roomsB cs ∧ Dip w mu mu' := by
  obtain ⟨b, mu1, e1, b9, D1⟩ := dip_ok (n := 9) h (by decide) (by decide)
  obtain ⟨z, pd, mu2, e2, -, ⟨j, hj, rfl⟩, D2⟩ := one_ok (V := farV) (n := 4) D1.well (by decide) (by decide) (fun m => rfl) (fun z => ∃ j, j < 4 ∧ z = .int ((farL.getD j 0 : Nat) : Int)) (fun m d hd => ⟨_, _, far_at m d hd, toD_int _ _, d, hd, rfl⟩)
  have D := D1.trans D2
  generalize hf : farL.getD j 0 = f at e2
  have e1' : m_L_law_dip [.ref w, .int 9] mu = .ok (.int b) mu1 := e1
  refine ⟨wordsOf b f (n + 1), mu2, fin_dip (w := w) (d := .list ((wordsOf b f (n + 1)).map fun s => .str (S s))) ?_ D ?_, ?_, D⟩
  · have a1 : lcM (itR1 (consM (vM 1) nilM)) [5] oneC yesT (b2 ixV (vM 4) (b2 modV (fA intV (consM (b2 addV (vM 2) (b2 mulV (vM 3) (vM 5))) nilM)) (cM (.int 9)))) [5] [some (.ref w), some (.int ((n + 1 : Nat) : Int)), some (.int b), some (.int f), some menuV, none] mu2 = .ok (.lst ((wordsOf b f (n + 1)).map .str)) mu2 := by
      have c : lcM (itR1 (consM (vM 1) nilM)) [5] oneC yesT (b2 ixV (vM 4) (b2 modV (fA intV (consM (b2 addV (vM 2) (b2 mulV (vM 3) (vM 5))) nilM)) (cM (.int 9)))) [5] [some (.ref w), some (.int ((n + 1 : Nat) : Int)), some (.int b), some (.int f), some menuV, none] mu2 = .ok (.lst ((List.range (n + 1)).map fun k => .str (menuL.getD ((b + f * k) % 9) []))) mu2 := by
        refine lcM_ok (xs := (List.range (n + 1)).map fun (i : Nat) => Val.int (0 + i)) (ok := allOk) (mu1 := mu2) ?_ (by simp; omega) (lcL_map trivial (fun (i : Nat) => Val.int (0 + i)) (fun k => .str (menuL.getD ((b + f * k) % 9) [])) (List.range (n + 1)) fun k hk => ⟨[.int (0 + k)], rfl, ?_⟩)
        · simp only [seqS, ifS_ap, retS_ap, asgS_ap, exprS_ap, forS_ap, parS_ap, bindS_ap, nextS, orT, andT, notT, tstM, CC.tB, blM, CC.andM, CC.orM, CC.notM, ifM, b2, u1, fA, vM, cM, optR, R.bind, consM, nilM, tupM, lstM, newM, slM, noP, inP, chM, gNameM, gSubM, gFldM, optX, gPc, gTupM, gListM, setAll, oneC, tupC, yesT, itT, itL, itS, itR1, itEnT, callM, isiV, tagOf, truV, sm0, sm1, lmM, dnewM, objV, isNV, List.set, List.length_cons, List.length_nil, List.map_cons, List.map_nil, List.cons_append, List.nil_append, List.append_assoc, List.length_append, List.replicate, List.getElem?_cons_zero, List.getElem?_cons_succ, Option.bind_some, Option.map_some, Option.bind_none, Option.map_none, if_true, if_false, ↓reduceIte, Nat.zero_le, Nat.zero_add, Nat.reduceAdd, Nat.reduceSub, Nat.sub_self, List.append_nil, Nat.reduceLeDiff, Bool.false_eq_true, Bool.not_true, Bool.not_false, Bool.true_eq_false, propM, clsM, noX, mkKM, mkVM, strL, rngL]
          rw [if_pos (by omega)]
          rfl
        · have ml : mulV mu2 (.int f) (.int (0 + k)) = some (.int (f * (0 + k))) := by
            have : k < 4 + 1 := by have := List.mem_range.mp hk; omega
            simp only [mulV]
            rw [if_pos (.inr (by omega))]
          have md : modV mu2 (.int (b + f * (0 + k))) (.int 9) = some (.int (((b + f * k) % 9 : Nat) : Int)) := by
            rw [← cast9]
            rfl
          have at_ := menu_at mu2 ((b + f * k) % 9) (Nat.mod_lt _ (by decide))
          simp only [seqS, ifS_ap, retS_ap, asgS_ap, exprS_ap, forS_ap, parS_ap, bindS_ap, nextS, orT, andT, notT, tstM, CC.tB, blM, CC.andM, CC.orM, CC.notM, ifM, b2, u1, fA, vM, cM, optR, R.bind, consM, nilM, tupM, lstM, newM, slM, noP, inP, chM, gNameM, gSubM, gFldM, optX, gPc, gTupM, gListM, setAll, oneC, tupC, yesT, itT, itL, itS, itR1, itEnT, callM, isiV, tagOf, truV, sm0, sm1, lmM, dnewM, objV, isNV, List.set, List.length_cons, List.length_nil, List.map_cons, List.map_nil, List.cons_append, List.nil_append, List.append_assoc, List.length_append, List.replicate, List.getElem?_cons_zero, List.getElem?_cons_succ, Option.bind_some, Option.map_some, Option.bind_none, Option.map_none, if_true, if_false, ↓reduceIte, Nat.zero_le, Nat.zero_add, Nat.reduceAdd, Nat.reduceSub, Nat.sub_self, List.append_nil, Nat.reduceLeDiff, Bool.false_eq_true, Bool.not_true, Bool.not_false, Bool.true_eq_false, propM, clsM, noX, mkKM, mkVM, strL, wipeE, ml, addV, intV, md, at_]
      rw [c]
      unfold wordsOf
      rw [List.map_map]
      rfl
    simp only [m0_L_law_words, defK, b_L_law_words, seqS, ifS_ap, retS_ap, asgS_ap, exprS_ap, forS_ap, parS_ap, bindS_ap, nextS, orT, andT, notT, tstM, CC.tB, blM, CC.andM, CC.orM, CC.notM, ifM, b2, u1, fA, vM, cM, optR, R.bind, consM, nilM, tupM, lstM, newM, slM, noP, inP, chM, gNameM, gSubM, gFldM, optX, gPc, gTupM, gListM, setAll, oneC, tupC, yesT, itT, itL, itS, itR1, itEnT, callM, isiV, tagOf, truV, sm0, sm1, lmM, dnewM, objV, isNV, List.set, List.length_cons, List.length_nil, List.map_cons, List.map_nil, List.cons_append, List.nil_append, List.append_assoc, List.length_append, List.replicate, List.getElem?_cons_zero, List.getElem?_cons_succ, Option.bind_some, Option.map_some, Option.bind_none, Option.map_none, if_true, if_false, ↓reduceIte, Nat.zero_le, Nat.zero_add, Nat.reduceAdd, Nat.reduceSub, Nat.sub_self, List.append_nil, Nat.reduceLeDiff, Bool.false_eq_true, Bool.not_true, Bool.not_false, Bool.true_eq_false, propM, clsM, noX, mkKM, mkVM, strL, e1', e2, a1]
  · simp only [toD]
    rw [toDs_map (g := fun s => PyData.str (S s)) fun y _ => toD_str 30 y]
    rfl
  · subst hf
    exact roomsB_of (words_all ⟨b, b9⟩ ⟨j, hj⟩ ⟨n, hn⟩)
abbrev partsV (cs : List (List Nat)) (gs : List G) : Val := .lst [roomsV cs, doorsV gs]
abbrev letL : List Nat := strN "abdhxyz"
theorem let_at (m : Store) (j : Nat) (h : j < 7) : ixV m (strL "abdhxyz") (.int j) = some (.str [letL.getD j 0]) := by
  match j, h with
  | 0, _ => rfl
  | 1, _ => rfl
  | 2, _ => rfl
  | 3, _ => rfl
  | 4, _ => rfl
  | 5, _ => rfl
  | 6, _ => rfl
def lettersOf (b f n : Nat) : List Nat := (List.range n).map fun k => letL.getD ((b + f * k) % 7) 0
def lettersQ (l : List Nat) : Bool := decide (l ≠ []) && (decide (l.length ≤ 5) && (decide l.Nodup && l.all fun c => decide (c ∈ lets)))
theorem letters_q : ∀ b : _root_.Fin 7, ∀ f : _root_.Fin 6, ∀ n : _root_.Fin 5, ∀ c ∈ lettersOf b (f + 1) (n + 1), c ≠ 113 := by decide +kernel
theorem letters_all : ∀ b : _root_.Fin 7, ∀ f : _root_.Fin 6, ∀ n : _root_.Fin 5, lettersQ (lettersOf b (f + 1) (n + 1)) = true := by decide +kernel
theorem cast7 (b f k : Nat) : ((b : Int) + (f : Int) * (0 + (k : Int))) % 7 = (((b + f * k) % 7 : Nat) : Int) := by
  rw [Int.zero_add]
  push_cast
  rfl
theorem atI_nat {α : Type} (xs : List α) (d : Nat) (h : d < xs.length) : atI xs (d : Int) = some xs[d] := by
  unfold atI ixN
  rw [if_pos (by omega), if_pos (by omega)]
  simp [h]
theorem room_at (cs : List (List Nat)) (m : Store) (d : Nat) (h : d < cs.length) : ixV m (roomsV cs) (.int d) = some (.str cs[d]) := by
  simp only [ixV, dctV]
  rw [atI_nat _ _ (by simpa using h)]
  simp
theorem one_room {w : Nat} {mu : Store} {cs : List (List Nat)} (h : Well w mu) (hc : roomsB cs) : ∃ s mu', m_L_law_one [.ref w, roomsV cs] mu = .ok (.str s) mu' ∧ s ∈ cs ∧ Dip w mu mu' := by
  have l0 : 0 < cs.length := List.length_pos_iff.mpr hc.1
  obtain ⟨z, pd, mu', e, -, ⟨s, hs, rfl⟩, D⟩ := one_ok (V := roomsV cs) (n := cs.length) h l0 (by have := hc.2.1; omega) (fun m => by simp only [lenV, List.length_map]) (fun z => ∃ s, s ∈ cs ∧ z = .str s) (fun m d hd => ⟨_, _, room_at cs m d hd, toD_str _ _, _, List.getElem_mem hd, rfl⟩)
  exact ⟨s, mu', e, hs, D⟩
theorem lc_doors {w : Nat} {cs : List (List Nat)} (r : Env1) (hc : roomsB cs) (hr : ∀ v, ∃ a1 a2 a4 a5 a6 a7, setAll (wipeE r [8]) [8] [v] = [some (.ref w), a1, a2, some (roomsV cs), a4, a5, a6, a7, some v]) : ∀ (ys : List Nat) (mu : Store), Well w mu →
    ∃ (gs : List G) (mu' : Store), lcL allOk [8] oneC yesT (tupM (consM (vM 8) (consM (callM m_L_law_one (consM (vM 0) (consM (vM 3) nilM))) (consM (callM m_L_law_one (consM (vM 0) (consM (vM 3) nilM))) nilM)))) [8] (ys.map fun c => .str [c]) r mu = .ok (gs.map gV) mu' ∧ Dip w mu mu' ∧ gs.map (·.1) = ys ∧ ∀ g ∈ gs, g.2.1 ∈ cs ∧ g.2.2 ∈ cs
  | [], mu, h => by
    refine ⟨[], mu, ?_, Dip.refl h, rfl, fun g hg => by cases hg⟩
    simp only [List.map_nil, lcL]
    exact if_pos trivial
  | y :: ys, mu, h => by
    obtain ⟨s1, m1, e1, k1, D1⟩ := one_room h hc
    obtain ⟨s2, m2, e2, k2, D2⟩ := one_room D1.well hc
    obtain ⟨gs, m3, e3, D3, n3, q3⟩ := lc_doors r hc hr ys m2 D2.well
    refine ⟨(y, s1, s2) :: gs, m3, ?_, (D1.trans D2).trans D3, by simp [n3], fun g hg => ?_⟩
    · obtain ⟨a1, a2, a4, a5, a6, a7, er⟩ := hr (.str [y])
      simp only [List.map_cons, lcL, oneC, er]
      rw [if_pos (show allOk mu from trivial)]
      simp only [seqS, ifS_ap, retS_ap, asgS_ap, exprS_ap, forS_ap, parS_ap, bindS_ap, nextS, orT, andT, notT, tstM, CC.tB, blM, CC.andM, CC.orM, CC.notM, ifM, b2, u1, fA, vM, cM, optR, R.bind, consM, nilM, tupM, lstM, newM, slM, noP, inP, chM, gNameM, gSubM, gFldM, optX, gPc, gTupM, gListM, setAll, oneC, tupC, yesT, itT, itL, itS, itR1, itEnT, callM, isiV, tagOf, truV, sm0, sm1, lmM, dnewM, objV, isNV, List.set, List.length_cons, List.length_nil, List.map_cons, List.map_nil, List.cons_append, List.nil_append, List.append_assoc, List.length_append, List.replicate, List.getElem?_cons_zero, List.getElem?_cons_succ, Option.bind_some, Option.map_some, Option.bind_none, Option.map_none, if_true, if_false, ↓reduceIte, Nat.zero_le, Nat.zero_add, Nat.reduceAdd, Nat.reduceSub, Nat.sub_self, List.append_nil, Nat.reduceLeDiff, Bool.false_eq_true, Bool.not_true, Bool.not_false, Bool.true_eq_false, propM, clsM, noX, mkKM, mkVM, strL, e1, e2, e3]
    · rcases List.mem_cons.mp hg with rfl | hg
      · exact ⟨k1, k2⟩
      · exact q3 g hg
theorem parts_ok {w : Nat} {mu : Store} {nr nd : Nat} (h : Well w mu) (r0 : 0 < nr) (r4 : nr ≤ 4) (d0 : 0 < nd) (d5 : nd ≤ 5) : ∃ cs gs mu', m_L_law_parts [.ref w, .int nr, .int nd] mu = .ok (partsV cs gs) mu' ∧ roomsB cs ∧ doorsB cs gs ∧ (∀ g ∈ gs, g.1 ≠ 113) ∧ Dip w mu mu' := by
  obtain ⟨n, mu1, e1, n4, D1⟩ := dip_ok (n := nr) h r0 (by omega)
  obtain ⟨cs, mu2, e2, hc, D2⟩ := words_ok D1.well (Nat.lt_of_lt_of_le n4 r4)
  obtain ⟨b, mu3, e3, b7, D3⟩ := dip_ok (n := 7) D2.well (by decide) (by decide)
  obtain ⟨f, mu4, e4, f6, D4⟩ := dip_ok (n := 6) D3.well (by decide) (by decide)
  obtain ⟨q, mu5, e5, q5, D5⟩ := dip_ok (n := nd) D4.well d0 (by omega)
  have D := (((D1.trans D2).trans D3).trans D4).trans D5
  have lq := letters_all ⟨b, b7⟩ ⟨f, f6⟩ ⟨q, Nat.lt_of_lt_of_le q5 d5⟩
  obtain ⟨gs, mu6, e6, D6, n6, q6⟩ := lc_doors (w := w) (cs := cs) [some (.ref w), some (.int nr), some (.int nd), some (roomsV cs), some (.int b), some (.int ((f + 1 : Nat) : Int)), some (.lst ((lettersOf b (f + 1) (q + 1)).map fun c => .str [c])), none, none] hc (fun v => ⟨_, _, _, _, _, _, rfl⟩) (lettersOf b (f + 1) (q + 1)) mu5 D5.well
  simp only [lettersQ, Bool.and_eq_true, decide_eq_true_eq, List.all_eq_true] at lq
  obtain ⟨l1, l2, l3, l4⟩ := lq
  have gl : gs.length = (lettersOf b (f + 1) (q + 1)).length := by rw [← n6, List.length_map]
  have hd : doorsB cs gs := by
    refine ⟨?_, by omega, by rw [n6]; exact l3, fun g hg => ⟨l4 _ (by rw [← n6]; exact List.mem_map.mpr ⟨g, hg, rfl⟩), q6 g hg⟩⟩
    rintro rfl
    exact l1 (by rw [← n6]; rfl)
  refine ⟨cs, gs, mu6, fin_dip (w := w) (d := .list [.tuple (cs.map fun s => .str (S s)), .tuple (gs.map gD)]) ?_ (D.trans D6) ?_, hc, hd, fun g hg => letters_q ⟨b, b7⟩ ⟨f, f6⟩ ⟨q, Nat.lt_of_lt_of_le q5 d5⟩ _ (by rw [← n6]; exact List.mem_map.mpr ⟨g, hg, rfl⟩), D.trans D6⟩
  · have c1 : (1 : Int) + (n : Int) = ((n + 1 : Nat) : Int) := by omega
    have c2 : (1 : Int) + (f : Int) = ((f + 1 : Nat) : Int) := by omega
    have c3 : (1 : Int) + (q : Int) = ((q + 1 : Nat) : Int) := by omega
    have x1 : m_L_law_dip [.ref w, .int nr] mu = .ok (.int n) mu1 := e1
    have x3 : m_L_law_dip [.ref w, .int 7] mu2 = .ok (.int b) mu3 := e3
    have x4 : m_L_law_dip [.ref w, .int 6] mu3 = .ok (.int f) mu4 := e4
    have x5 : m_L_law_dip [.ref w, .int nd] mu4 = .ok (.int q) mu5 := e5
    have a1 : lcM (itR1 (consM (b2 addV (cM (.int 1)) (callM m_L_law_dip (consM (vM 0) (consM (vM 2) nilM)))) nilM)) [7] oneC yesT (b2 ixV (cM (strL "abdhxyz")) (b2 modV (fA intV (consM (b2 addV (vM 4) (b2 mulV (vM 5) (vM 7))) nilM)) (cM (.int 7)))) [7] [some (.ref w), some (.int nr), some (.int nd), some (roomsV cs), some (.int b), some (.int ((f + 1 : Nat) : Int)), none, none, none] mu4 = .ok (.lst ((lettersOf b (f + 1) (q + 1)).map fun c => .str [c])) mu5 := by
      have c : lcM (itR1 (consM (b2 addV (cM (.int 1)) (callM m_L_law_dip (consM (vM 0) (consM (vM 2) nilM)))) nilM)) [7] oneC yesT (b2 ixV (cM (strL "abdhxyz")) (b2 modV (fA intV (consM (b2 addV (vM 4) (b2 mulV (vM 5) (vM 7))) nilM)) (cM (.int 7)))) [7] [some (.ref w), some (.int nr), some (.int nd), some (roomsV cs), some (.int b), some (.int ((f + 1 : Nat) : Int)), none, none, none] mu4 = .ok (.lst ((List.range (q + 1)).map fun k => .str [letL.getD ((b + (f + 1) * k) % 7) 0])) mu5 := by
        refine lcM_ok (xs := (List.range (q + 1)).map fun (i : Nat) => Val.int (0 + i)) (ok := allOk) (mu1 := mu5) ?_ (by simp; omega) (lcL_map trivial (fun (i : Nat) => Val.int (0 + i)) (fun k => .str [letL.getD ((b + (f + 1) * k) % 7) 0]) (List.range (q + 1)) fun k hk => ⟨[.int (0 + k)], rfl, ?_⟩)
        · simp only [seqS, ifS_ap, retS_ap, asgS_ap, exprS_ap, forS_ap, parS_ap, bindS_ap, nextS, orT, andT, notT, tstM, CC.tB, blM, CC.andM, CC.orM, CC.notM, ifM, b2, u1, fA, vM, cM, optR, R.bind, consM, nilM, tupM, lstM, newM, slM, noP, inP, chM, gNameM, gSubM, gFldM, optX, gPc, gTupM, gListM, setAll, oneC, tupC, yesT, itT, itL, itS, itR1, itEnT, callM, isiV, tagOf, truV, sm0, sm1, lmM, dnewM, objV, isNV, List.set, List.length_cons, List.length_nil, List.map_cons, List.map_nil, List.cons_append, List.nil_append, List.append_assoc, List.length_append, List.replicate, List.getElem?_cons_zero, List.getElem?_cons_succ, Option.bind_some, Option.map_some, Option.bind_none, Option.map_none, if_true, if_false, ↓reduceIte, Nat.zero_le, Nat.zero_add, Nat.reduceAdd, Nat.reduceSub, Nat.sub_self, List.append_nil, Nat.reduceLeDiff, Bool.false_eq_true, Bool.not_true, Bool.not_false, Bool.true_eq_false, propM, clsM, noX, mkKM, mkVM, strL, x5, addV, c3, rngL]
          rw [if_pos (by omega)]
          rfl
        · have ml : mulV mu5 (.int ((f + 1 : Nat) : Int)) (.int (0 + k)) = some (.int (((f + 1 : Nat) : Int) * (0 + k))) := by
            have : k < 5 + 1 := by have := List.mem_range.mp hk; omega
            simp only [mulV]
            rw [if_pos (.inr (by omega))]
          have md : modV mu5 (.int (b + ((f + 1 : Nat) : Int) * (0 + k))) (.int 7) = some (.int (((b + (f + 1) * k) % 7 : Nat) : Int)) := by
            rw [← cast7]
            rfl
          have at_ := let_at mu5 ((b + (f + 1) * k) % 7) (Nat.mod_lt _ (by decide))
          simp only [seqS, ifS_ap, retS_ap, asgS_ap, exprS_ap, forS_ap, parS_ap, bindS_ap, nextS, orT, andT, notT, tstM, CC.tB, blM, CC.andM, CC.orM, CC.notM, ifM, b2, u1, fA, vM, cM, optR, R.bind, consM, nilM, tupM, lstM, newM, slM, noP, inP, chM, gNameM, gSubM, gFldM, optX, gPc, gTupM, gListM, setAll, oneC, tupC, yesT, itT, itL, itS, itR1, itEnT, callM, isiV, tagOf, truV, sm0, sm1, lmM, dnewM, objV, isNV, List.set, List.length_cons, List.length_nil, List.map_cons, List.map_nil, List.cons_append, List.nil_append, List.append_assoc, List.length_append, List.replicate, List.getElem?_cons_zero, List.getElem?_cons_succ, Option.bind_some, Option.map_some, Option.bind_none, Option.map_none, if_true, if_false, ↓reduceIte, Nat.zero_le, Nat.zero_add, Nat.reduceAdd, Nat.reduceSub, Nat.sub_self, List.append_nil, Nat.reduceLeDiff, Bool.false_eq_true, Bool.not_true, Bool.not_false, Bool.true_eq_false, propM, clsM, noX, mkKM, mkVM, strL, wipeE, ml, addV, intV, md, at_]
      rw [c]
      unfold lettersOf
      rw [List.map_map]
      rfl
    have a2 : lcM (itL (vM 6)) [8] oneC yesT (tupM (consM (vM 8) (consM (callM m_L_law_one (consM (vM 0) (consM (vM 3) nilM))) (consM (callM m_L_law_one (consM (vM 0) (consM (vM 3) nilM))) nilM)))) [8] [some (.ref w), some (.int nr), some (.int nd), some (roomsV cs), some (.int b), some (.int ((f + 1 : Nat) : Int)), some (.lst ((lettersOf b (f + 1) (q + 1)).map fun c => .str [c])), none, none] mu5 = .ok (.lst (gs.map gV)) mu6 := lcM_ok rfl (by simp; omega) e6
    simp only [m0_L_law_parts, defK, b_L_law_parts, seqS, ifS_ap, retS_ap, asgS_ap, exprS_ap, forS_ap, parS_ap, bindS_ap, nextS, orT, andT, notT, tstM, CC.tB, blM, CC.andM, CC.orM, CC.notM, ifM, b2, u1, fA, vM, cM, optR, R.bind, consM, nilM, tupM, lstM, newM, slM, noP, inP, chM, gNameM, gSubM, gFldM, optX, gPc, gTupM, gListM, setAll, oneC, tupC, yesT, itT, itL, itS, itR1, itEnT, callM, isiV, tagOf, truV, sm0, sm1, lmM, dnewM, objV, isNV, List.set, List.length_cons, List.length_nil, List.map_cons, List.map_nil, List.cons_append, List.nil_append, List.append_assoc, List.length_append, List.replicate, List.getElem?_cons_zero, List.getElem?_cons_succ, Option.bind_some, Option.map_some, Option.bind_none, Option.map_none, if_true, if_false, ↓reduceIte, Nat.zero_le, Nat.zero_add, Nat.reduceAdd, Nat.reduceSub, Nat.sub_self, List.append_nil, Nat.reduceLeDiff, Bool.false_eq_true, Bool.not_true, Bool.not_false, Bool.true_eq_false, propM, clsM, noX, mkKM, mkVM, strL, x1, addV, c1, e2, tupleV, seqL2, seqL, x3, x4, c2, a1, a2]
  · have t1 := toD_rooms (k := 29) cs
    have t2 := toD_doors (k := 28) gs
    rw [toD]
    simp only [mapO, t1, t2]
    rfl
def stir (t : Int) (s : Int) (zs : List Int) : Int := zs.foldl (fun s z => (s * 48271 + z % 1000033 + t) % 2147483647) s
theorem well_ok (ns : List Int) (t : Nat) (mu : Store) : ∃ a b, m_L_law_well [.scr ns, .int t] mu = .ok (.ref mu.length) (mu ++ [W3 a b 0]) := by
  have ml : ∀ m (x : Int), mulV m (.int x) (.int 48271) = some (.int (x * 48271)) := fun m x => by simp only [mulV]; rw [if_pos (.inr (by decide))]
  have ml37 : ∀ m (y : Int), mulV m (.int 37) (.int y) = some (.int (37 * y)) := fun m y => by simp only [mulV]; rw [if_pos (.inl (by decide))]
  have ml613 : ∀ m (y : Int), mulV m (.int 613) (.int y) = some (.int (613 * y)) := fun m y => by simp only [mulV]; rw [if_pos (.inl (by decide))]
  have md1 : ∀ m (x : Int), modV m (.int x) (.int 1000033) = some (.int (x % 1000033)) := fun m x => rfl
  have md2 : ∀ m (x : Int), modV m (.int x) (.int 2147483647) = some (.int (x % 2147483647)) := fun m x => rfl
  have pw : ∀ m, powV m (.int 10) (.int 18) = some (.int (10 ^ 18)) := fun m => rfl
  have sl : slV mu (.scr ns) none (some 8) = some (.lst ((ns.take 8).map Val.int)) := by
    show some (Val.lst ((cutL ns none (some ((8 : Nat) : Int))).map Val.int)) = _
    rw [cut_fore]
  have ent : ∃ e : Int, ifM (CC.tB (b2 ltV (vM 1) (fA lenV (consM (vM 0) nilM)))) (fA intV (consM (b2 ixV (vM 0) (vM 1)) nilM)) (b2 addV (b2 mulV (cM (.int 37)) (vM 1)) (cM (.int 5))) [some (.scr ns), some (.int t), none, none, none] mu = .ok (.int e) mu := by
    by_cases h : t < ns.length
    · have ix : ixV mu (.scr ns) (.int t) = some (.int ns[t]) := by
        simp only [ixV, dctV, atI_n, List.getElem?_eq_getElem h, Option.map_some]
      have h' : (t : Int) < ns.length := by omega
      refine ⟨ns[t], ?_⟩
      simp only [seqS, ifS_ap, retS_ap, asgS_ap, exprS_ap, forS_ap, parS_ap, bindS_ap, nextS, orT, andT, notT, tstM, CC.tB, blM, CC.andM, CC.orM, CC.notM, ifM, b2, u1, fA, vM, cM, optR, R.bind, consM, nilM, tupM, lstM, newM, slM, noP, inP, chM, gNameM, gSubM, gFldM, optX, gPc, gTupM, gListM, setAll, oneC, tupC, yesT, itT, itL, itS, itR1, itEnT, callM, isiV, tagOf, truV, sm0, sm1, lmM, dnewM, objV, isNV, List.set, List.length_cons, List.length_nil, List.map_cons, List.map_nil, List.cons_append, List.nil_append, List.append_assoc, List.length_append, List.replicate, List.getElem?_cons_zero, List.getElem?_cons_succ, Option.bind_some, Option.map_some, Option.bind_none, Option.map_none, if_true, if_false, ↓reduceIte, Nat.zero_le, Nat.zero_add, Nat.reduceAdd, Nat.reduceSub, Nat.sub_self, List.append_nil, Nat.reduceLeDiff, Bool.false_eq_true, Bool.not_true, Bool.not_false, Bool.true_eq_false, propM, clsM, noX, mkKM, mkVM, strL, ltV, ordV, len_scr, h', decide_true, ix, intV]
    · have h' : ¬ (t : Int) < ns.length := by omega
      refine ⟨37 * t + 5, ?_⟩
      simp only [seqS, ifS_ap, retS_ap, asgS_ap, exprS_ap, forS_ap, parS_ap, bindS_ap, nextS, orT, andT, notT, tstM, CC.tB, blM, CC.andM, CC.orM, CC.notM, ifM, b2, u1, fA, vM, cM, optR, R.bind, consM, nilM, tupM, lstM, newM, slM, noP, inP, chM, gNameM, gSubM, gFldM, optX, gPc, gTupM, gListM, setAll, oneC, tupC, yesT, itT, itL, itS, itR1, itEnT, callM, isiV, tagOf, truV, sm0, sm1, lmM, dnewM, objV, isNV, List.set, List.length_cons, List.length_nil, List.map_cons, List.map_nil, List.cons_append, List.nil_append, List.append_assoc, List.length_append, List.replicate, List.getElem?_cons_zero, List.getElem?_cons_succ, Option.bind_some, Option.map_some, Option.bind_none, Option.map_none, if_true, if_false, ↓reduceIte, Nat.zero_le, Nat.zero_add, Nat.reduceAdd, Nat.reduceSub, Nat.sub_self, List.append_nil, Nat.reduceLeDiff, Bool.false_eq_true, Bool.not_true, Bool.not_false, Bool.true_eq_false, propM, clsM, noX, mkKM, mkVM, strL, ltV, ordV, len_scr, h', decide_false, ml37, addV]
  obtain ⟨e, he⟩ := ent
  have fin : ∃ a b, b_L_law_well [some (.scr ns), some (.int t), none, none, none] mu = .rt (.ref mu.length) (mu ++ [W3 a b 0]) := by
    unfold b_L_law_well
    refine ⟨if 10 ^ 18 ≤ (if e < 0 then -e else e) then (if e < 0 then -e else e) else 0, ((stir t (8191 + 613 * t) (ns.take 8)) * 48271 + e % 1000033) % 2147483647, ?_⟩
    refine (seq_nx (by rw [asgS_ap, he]; rfl)).trans ?_
    refine (seq_nx (by simp only [seqS, ifS_ap, retS_ap, asgS_ap, exprS_ap, forS_ap, parS_ap, bindS_ap, nextS, orT, andT, notT, tstM, CC.tB, blM, CC.andM, CC.orM, CC.notM, ifM, b2, u1, fA, vM, cM, optR, R.bind, consM, nilM, tupM, lstM, newM, slM, noP, inP, chM, gNameM, gSubM, gFldM, optX, gPc, gTupM, gListM, setAll, oneC, tupC, yesT, itT, itL, itS, itR1, itEnT, callM, isiV, tagOf, truV, sm0, sm1, lmM, dnewM, objV, isNV, List.set, List.length_cons, List.length_nil, List.map_cons, List.map_nil, List.cons_append, List.nil_append, List.append_assoc, List.length_append, List.replicate, List.getElem?_cons_zero, List.getElem?_cons_succ, Option.bind_some, Option.map_some, Option.bind_none, Option.map_none, if_true, if_false, ↓reduceIte, Nat.zero_le, Nat.zero_add, Nat.reduceAdd, Nat.reduceSub, Nat.sub_self, List.append_nil, Nat.reduceLeDiff, Bool.false_eq_true, Bool.not_true, Bool.not_false, Bool.true_eq_false, propM, clsM, noX, mkKM, mkVM, strL, ml613, addV] <;> rfl)).trans ?_
    refine seq_ex (I := fun r' m' => (∃ y, r' = [some (.scr ns), some (.int t), some (.int e), some (.int (stir t (8191 + 613 * t) (ns.take 8))), y]) ∧ m' = mu) ?_ ?_
    · refine for_ex (xs := (ns.take 8).map Val.int) (ok := allOk) (mu0 := mu) (fun i r' m' => (∃ y, r' = [some (.scr ns), some (.int t), some (.int e), some (.int (stir t (8191 + 613 * t) ((ns.take 8).take i))), y]) ∧ m' = mu) ?_ (fun _ _ _ _ => trivial) ?_ ⟨⟨none, rfl⟩, rfl⟩ ?_
      · simp only [seqS, ifS_ap, retS_ap, asgS_ap, exprS_ap, forS_ap, parS_ap, bindS_ap, nextS, orT, andT, notT, tstM, CC.tB, blM, CC.andM, CC.orM, CC.notM, ifM, b2, u1, fA, vM, cM, optR, R.bind, consM, nilM, tupM, lstM, newM, slM, noP, inP, chM, gNameM, gSubM, gFldM, optX, gPc, gTupM, gListM, setAll, oneC, tupC, yesT, itT, itL, itS, itR1, itEnT, callM, isiV, tagOf, truV, sm0, sm1, lmM, dnewM, objV, isNV, List.set, List.length_cons, List.length_nil, List.map_cons, List.map_nil, List.cons_append, List.nil_append, List.append_assoc, List.length_append, List.replicate, List.getElem?_cons_zero, List.getElem?_cons_succ, Option.bind_some, Option.map_some, Option.bind_none, Option.map_none, if_true, if_false, ↓reduceIte, Nat.zero_le, Nat.zero_add, Nat.reduceAdd, Nat.reduceSub, Nat.sub_self, List.append_nil, Nat.reduceLeDiff, Bool.false_eq_true, Bool.not_true, Bool.not_false, Bool.true_eq_false, propM, clsM, noX, mkKM, mkVM, strL, sl]
      · rintro i x r' m' hx ⟨⟨y, rfl⟩, rfl⟩
        rw [List.getElem?_map] at hx
        obtain ⟨z, hz, rfl⟩ := Option.map_eq_some_iff.mp hx
        refine ⟨_, _, rfl, _, _, by simp only [seqS, ifS_ap, retS_ap, asgS_ap, exprS_ap, forS_ap, parS_ap, bindS_ap, nextS, orT, andT, notT, tstM, CC.tB, blM, CC.andM, CC.orM, CC.notM, ifM, b2, u1, fA, vM, cM, optR, R.bind, consM, nilM, tupM, lstM, newM, slM, noP, inP, chM, gNameM, gSubM, gFldM, optX, gPc, gTupM, gListM, setAll, oneC, tupC, yesT, itT, itL, itS, itR1, itEnT, callM, isiV, tagOf, truV, sm0, sm1, lmM, dnewM, objV, isNV, List.set, List.length_cons, List.length_nil, List.map_cons, List.map_nil, List.cons_append, List.nil_append, List.append_assoc, List.length_append, List.replicate, List.getElem?_cons_zero, List.getElem?_cons_succ, Option.bind_some, Option.map_some, Option.bind_none, Option.map_none, if_true, if_false, ↓reduceIte, Nat.zero_le, Nat.zero_add, Nat.reduceAdd, Nat.reduceSub, Nat.sub_self, List.append_nil, Nat.reduceLeDiff, Bool.false_eq_true, Bool.not_true, Bool.not_false, Bool.true_eq_false, propM, clsM, noX, mkKM, mkVM, strL, ml, addV, md1, intV, md2] <;> rfl, ⟨some (.int z), ?_⟩, rfl⟩
        rw [List.take_succ (l := List.take 8 ns) (i := i), hz, Option.toList_some]
        unfold stir
        rw [List.foldl_append]
        rfl
      · rintro r' m' ⟨⟨y, rfl⟩, rfl⟩
        rw [List.length_map, List.take_length]
        exact ⟨⟨y, rfl⟩, rfl⟩
    · rintro r' m' ⟨⟨y, rfl⟩, rfl⟩
      refine (seq_nx (by simp only [seqS, ifS_ap, retS_ap, asgS_ap, exprS_ap, forS_ap, parS_ap, bindS_ap, nextS, orT, andT, notT, tstM, CC.tB, blM, CC.andM, CC.orM, CC.notM, ifM, b2, u1, fA, vM, cM, optR, R.bind, consM, nilM, tupM, lstM, newM, slM, noP, inP, chM, gNameM, gSubM, gFldM, optX, gPc, gTupM, gListM, setAll, oneC, tupC, yesT, itT, itL, itS, itR1, itEnT, callM, isiV, tagOf, truV, sm0, sm1, lmM, dnewM, objV, isNV, List.set, List.length_cons, List.length_nil, List.map_cons, List.map_nil, List.cons_append, List.nil_append, List.append_assoc, List.length_append, List.replicate, List.getElem?_cons_zero, List.getElem?_cons_succ, Option.bind_some, Option.map_some, Option.bind_none, Option.map_none, if_true, if_false, ↓reduceIte, Nat.zero_le, Nat.zero_add, Nat.reduceAdd, Nat.reduceSub, Nat.sub_self, List.append_nil, Nat.reduceLeDiff, Bool.false_eq_true, Bool.not_true, Bool.not_false, Bool.true_eq_false, propM, clsM, noX, mkKM, mkVM, strL, ml, addV, md1, intV, md2] <;> rfl)).trans ?_
      by_cases h : 10 ^ 18 ≤ (if e < 0 then -e else e)
      · simp only [seqS, ifS_ap, retS_ap, asgS_ap, exprS_ap, forS_ap, parS_ap, bindS_ap, nextS, orT, andT, notT, tstM, CC.tB, blM, CC.andM, CC.orM, CC.notM, ifM, b2, u1, fA, vM, cM, optR, R.bind, consM, nilM, tupM, lstM, newM, slM, noP, inP, chM, gNameM, gSubM, gFldM, optX, gPc, gTupM, gListM, setAll, oneC, tupC, yesT, itT, itL, itS, itR1, itEnT, callM, isiV, tagOf, truV, sm0, sm1, lmM, dnewM, objV, isNV, List.set, List.length_cons, List.length_nil, List.map_cons, List.map_nil, List.cons_append, List.nil_append, List.append_assoc, List.length_append, List.replicate, List.getElem?_cons_zero, List.getElem?_cons_succ, Option.bind_some, Option.map_some, Option.bind_none, Option.map_none, if_true, if_false, ↓reduceIte, Nat.zero_le, Nat.zero_add, Nat.reduceAdd, Nat.reduceSub, Nat.sub_self, List.append_nil, Nat.reduceLeDiff, Bool.false_eq_true, Bool.not_true, Bool.not_false, Bool.true_eq_false, propM, clsM, noX, mkKM, mkVM, strL, CC.absV, geV, ordV, pw, h, decide_true]
      · simp only [seqS, ifS_ap, retS_ap, asgS_ap, exprS_ap, forS_ap, parS_ap, bindS_ap, nextS, orT, andT, notT, tstM, CC.tB, blM, CC.andM, CC.orM, CC.notM, ifM, b2, u1, fA, vM, cM, optR, R.bind, consM, nilM, tupM, lstM, newM, slM, noP, inP, chM, gNameM, gSubM, gFldM, optX, gPc, gTupM, gListM, setAll, oneC, tupC, yesT, itT, itL, itS, itR1, itEnT, callM, isiV, tagOf, truV, sm0, sm1, lmM, dnewM, objV, isNV, List.set, List.length_cons, List.length_nil, List.map_cons, List.map_nil, List.cons_append, List.nil_append, List.append_assoc, List.length_append, List.replicate, List.getElem?_cons_zero, List.getElem?_cons_succ, Option.bind_some, Option.map_some, Option.bind_none, Option.map_none, if_true, if_false, ↓reduceIte, Nat.zero_le, Nat.zero_add, Nat.reduceAdd, Nat.reduceSub, Nat.sub_self, List.append_nil, Nat.reduceLeDiff, Bool.false_eq_true, Bool.not_true, Bool.not_false, Bool.true_eq_false, propM, clsM, noX, mkKM, mkVM, strL, CC.absV, geV, ordV, pw, h, decide_false]
  obtain ⟨a, b, hf⟩ := fin
  refine ⟨a, b, ?_⟩
  show m0_L_law_well _ _ = _
  unfold m0_L_law_well
  exact defK_rt rfl hf
theorem well_at (mu : Store) (a b : Int) : Well mu.length (mu ++ [W3 a b 0]) := ⟨a, b, 0, at_new _ _⟩
end K06

set_option Elab.async false
set_option linter.all false
set_option maxRecDepth 100000
set_option maxHeartbeats 1000000
namespace K06
open PySem PySem.Spec PyProof.Rows L2 CC
theorem at2a (mu : Store) (a b : Cell) : (mu ++ [a, b])[mu.length]? = some a := by simp
theorem at2b (mu : Store) (a b : Cell) : (mu ++ [a, b])[mu.length + 1]? = some b := by simp [List.getElem?_append_right]
theorem one_D {w : Nat} {mu : Store} {V : Val} {n : Nat} (h : Well w mu) (h1 : 0 < n) (h2 : n < 1073741824) (hl : ∀ m, lenV m [V] = some (.int n)) (P : Val → Prop) (hx : ∀ (m : Store) (d : Nat), d < n → ∃ z, ixV m V (.int d) = some z ∧ P z ∧ (clB 30 z = true ∨ ∃ r, z = .ref r ∧ r < mu.length)) :
    ∃ z mu', m_L_law_one [.ref w, V] mu = .ok z mu' ∧ P z ∧ Dip w mu mu' := by
  obtain ⟨d, mu', e1, e2, D⟩ := dip_ok h h1 h2
  obtain ⟨z, i1, i2, i3⟩ := hx mu' d e2
  have e0 : m0_L_law_one [.ref w, V] mu = .ok z mu' := by
    simp only [m0_L_law_one, defK, b_L_law_one, seqS, ifS_ap, retS_ap, asgS_ap, exprS_ap, forS_ap, parS_ap, bindS_ap, nextS, orT, andT, notT, tstM, CC.tB, blM, CC.andM, CC.orM, CC.notM, ifM, b2, u1, fA, vM, cM, optR, R.bind, consM, nilM, tupM, lstM, newM, slM, noP, inP, chM, gNameM, gSubM, gFldM, optX, gPc, gTupM, gListM, setAll, oneC, tupC, yesT, itT, itL, itS, itR1, itEnT, callM, isiV, tagOf, truV, sm0, sm1, lmM, dnewM, objV, isNV, List.set, List.length_cons, List.length_nil, List.map_cons, List.map_nil, List.cons_append, List.nil_append, List.append_assoc, List.length_append, List.replicate, List.getElem?_cons_zero, List.getElem?_cons_succ, Option.bind_some, Option.map_some, Option.bind_none, Option.map_none, if_true, if_false, ↓reduceIte, Nat.zero_le, Nat.zero_add, Nat.reduceAdd, Nat.reduceSub, Nat.sub_self, List.append_nil, Nat.reduceLeDiff, Bool.false_eq_true, Bool.not_true, Bool.not_false, Bool.true_eq_false, propM, clsM, noX, mkKM, mkVM, strL, hl, e1, i1]
  refine ⟨z, mu', ?_, i2, D⟩
  rcases i3 with i3 | ⟨r, rfl, hr⟩
  · exact fin_D0 e0 D i3
  · refine fin_D (ex := []) (by rw [List.append_nil]; exact e0) D ?_
    rw [frz]
    simp only [hr, if_true]
def oddA : List Val := [.non, .bl true, .bl false, .int 0, .int 1, .int (-1), .int (10 ^ 39), strL "", strL "a", strL "A", strL "hall", strL "Hall", strL "ab cd", strL "go a", strL "or", strL "a\n", strL "1", strL "ninesigns", strL "hall yard", .tup [], .tup [.non], .tup [strL "hall"], .tup [strL "hall", strL ""], .tup [strL "hall", strL "a"], .tup [strL "a", strL "hall", strL "hall"], .lst [], .lst [strL "hall"], .lst [strL "hall", strL ""]]
def oddB : List Val := [.tup [.tup []], .tup [.lst []], .tup [strL "hall", .lst []], .tup [strL "", strL "hall", strL "hall"], .tup [.int 0, .int 1]]
def oddR (n : Nat) : List Val := oddA ++ (.ref n :: .ref (n + 1) :: oddB)
abbrev oddD : List (DKey × Val) := [(.str (strN "a"), .int 1)]
def oddF : List Val := oddA ++ (.dct [] :: .dct oddD :: oddB)
theorem oddF_all : (oddF.all fun z => (odB z && clB 10 z) && (ogB z && ioB z)) = true := by decide +kernel
theorem oddF_ok {z : Val} (h : z ∈ oddF) : (odB z = true ∧ clB 10 z = true) ∧ ogB z = true ∧ ioB z = true := by
  have := List.all_eq_true.mp oddF_all z h
  simpa using this
theorem odd_ok {w : Nat} {mu : Store} (h : Well w mu) : ∃ z mu', m_L_law_odd [.ref w] mu = .ok z mu' ∧ z ∈ oddF ∧ Dip w mu mu' := by
  have pw : ∀ m, powV m (.int 10) (.int 39) = some (.int (10 ^ 39)) := fun m => rfl
  have ed : ∀ r, dispM [(cM (strL "a"), cM (.int 1))] r (mu ++ [.dct []]) = .ok (.ref (mu.length + 1)) (mu ++ [.dct [], .dct oddD]) := fun r => by
    have e1 := at_new (mu ++ [.dct []]) (.dct [])
    have e2 := set_new (mu ++ [.dct []]) (.dct []) (.dct oddD)
    simp only [List.length_append, List.length_cons, List.length_nil, Nat.zero_add, List.append_assoc, List.cons_append, List.nil_append] at e1 e2
    simp only [dispM, dispM2, cM, R.bind, CC.keyOf, strL, List.nil_append, List.length_append, List.length_cons, List.length_nil, Nat.zero_add, List.append_assoc, List.cons_append, e1]
    rw [if_pos (by decide)]
    show R.ok _ ((mu ++ [Cell.dct [], Cell.dct []]).set (mu.length + 1) (Cell.dct oddD)) = _
    rw [e2]
  generalize eex : ([Cell.dct [], Cell.dct oddD] : List Cell) = ex at ed
  obtain ⟨d, mu3, x1, x2, x3⟩ := dip_ok (n := 35) (h.ext ex) (by decide) (by decide)
  obtain ⟨mu1, rfl, D⟩ := x3.ext h
  have hl : (oddR mu.length).length = 35 := rfl
  have hd : d < (oddR mu.length).length := by rw [hl]; exact x2
  have e0 : m0_L_law_odd [.ref w] mu = .ok ((oddR mu.length)[d]) (mu1 ++ ex) := by
    unfold m0_L_law_odd
    refine defK_rt rfl ?_
    unfold b_L_law_odd
    refine (seq_nx (by simp only [seqS, ifS_ap, retS_ap, asgS_ap, exprS_ap, forS_ap, parS_ap, bindS_ap, nextS, orT, andT, notT, tstM, CC.tB, blM, CC.andM, CC.orM, CC.notM, ifM, b2, u1, fA, vM, cM, optR, R.bind, consM, nilM, tupM, lstM, newM, slM, noP, inP, chM, gNameM, gSubM, gFldM, optX, gPc, gTupM, gListM, setAll, oneC, tupC, yesT, itT, itL, itS, itR1, itEnT, callM, isiV, tagOf, truV, sm0, sm1, lmM, dnewM, objV, isNV, List.set, List.length_cons, List.length_nil, List.map_cons, List.map_nil, List.cons_append, List.nil_append, List.append_assoc, List.length_append, List.replicate, List.getElem?_cons_zero, List.getElem?_cons_succ, Option.bind_some, Option.map_some, Option.bind_none, Option.map_none, if_true, if_false, ↓reduceIte, Nat.zero_le, Nat.zero_add, Nat.reduceAdd, Nat.reduceSub, Nat.sub_self, List.append_nil, Nat.reduceLeDiff, Bool.false_eq_true, Bool.not_true, Bool.not_false, Bool.true_eq_false, propM, clsM, noX, mkKM, mkVM, strL, negV, pw] <;> rfl)).trans ?_
    refine (seq_nx (by simp only [seqS, ifS_ap, retS_ap, asgS_ap, exprS_ap, forS_ap, parS_ap, bindS_ap, nextS, orT, andT, notT, tstM, CC.tB, blM, CC.andM, CC.orM, CC.notM, ifM, b2, u1, fA, vM, cM, optR, R.bind, consM, nilM, tupM, lstM, newM, slM, noP, inP, chM, gNameM, gSubM, gFldM, optX, gPc, gTupM, gListM, setAll, oneC, tupC, yesT, itT, itL, itS, itR1, itEnT, callM, isiV, tagOf, truV, sm0, sm1, lmM, dnewM, objV, isNV, List.set, List.length_cons, List.length_nil, List.map_cons, List.map_nil, List.cons_append, List.nil_append, List.append_assoc, List.length_append, List.replicate, List.getElem?_cons_zero, List.getElem?_cons_succ, Option.bind_some, Option.map_some, Option.bind_none, Option.map_none, if_true, if_false, ↓reduceIte, Nat.zero_le, Nat.zero_add, Nat.reduceAdd, Nat.reduceSub, Nat.sub_self, List.append_nil, Nat.reduceLeDiff, Bool.false_eq_true, Bool.not_true, Bool.not_false, Bool.true_eq_false, propM, clsM, noX, mkKM, mkVM, strL, addV, seqL] <;> rfl)).trans ?_
    refine (seq_nx (r1 := [some (.ref w), some (.lst (oddR mu.length))]) (mu1 := mu ++ ex) (by simp only [seqS, ifS_ap, retS_ap, asgS_ap, exprS_ap, forS_ap, parS_ap, bindS_ap, nextS, orT, andT, notT, tstM, CC.tB, blM, CC.andM, CC.orM, CC.notM, ifM, b2, u1, fA, vM, cM, optR, R.bind, consM, nilM, tupM, lstM, newM, slM, noP, inP, chM, gNameM, gSubM, gFldM, optX, gPc, gTupM, gListM, setAll, oneC, tupC, yesT, itT, itL, itS, itR1, itEnT, callM, isiV, tagOf, truV, sm0, sm1, lmM, dnewM, objV, isNV, List.set, List.length_cons, List.length_nil, List.map_cons, List.map_nil, List.cons_append, List.nil_append, List.append_assoc, List.length_append, List.replicate, List.getElem?_cons_zero, List.getElem?_cons_succ, Option.bind_some, Option.map_some, Option.bind_none, Option.map_none, if_true, if_false, ↓reduceIte, Nat.zero_le, Nat.zero_add, Nat.reduceAdd, Nat.reduceSub, Nat.sub_self, List.append_nil, Nat.reduceLeDiff, Bool.false_eq_true, Bool.not_true, Bool.not_false, Bool.true_eq_false, propM, clsM, noX, mkKM, mkVM, strL, addV, seqL, ed] <;> rfl)).trans ?_
    have l1 : lenV (mu ++ ex) [.lst (oddR mu.length)] = some (.int (35 : Nat)) := by rw [len_lst, hl]
    have i1 : ixV (mu1 ++ ex) (.lst (oddR mu.length)) (.int d) = some ((oddR mu.length)[d]) := by rw [ix_lst]; exact List.getElem?_eq_getElem hd
    simp only [seqS, ifS_ap, retS_ap, asgS_ap, exprS_ap, forS_ap, parS_ap, bindS_ap, nextS, orT, andT, notT, tstM, CC.tB, blM, CC.andM, CC.orM, CC.notM, ifM, b2, u1, fA, vM, cM, optR, R.bind, consM, nilM, tupM, lstM, newM, slM, noP, inP, chM, gNameM, gSubM, gFldM, optX, gPc, gTupM, gListM, setAll, oneC, tupC, yesT, itT, itL, itS, itR1, itEnT, callM, isiV, tagOf, truV, sm0, sm1, lmM, dnewM, objV, isNV, List.set, List.length_cons, List.length_nil, List.map_cons, List.map_nil, List.cons_append, List.nil_append, List.append_assoc, List.length_append, List.replicate, List.getElem?_cons_zero, List.getElem?_cons_succ, Option.bind_some, Option.map_some, Option.bind_none, Option.map_none, if_true, if_false, ↓reduceIte, Nat.zero_le, Nat.zero_add, Nat.reduceAdd, Nat.reduceSub, Nat.sub_self, List.append_nil, Nat.reduceLeDiff, Bool.false_eq_true, Bool.not_true, Bool.not_false, Bool.true_eq_false, propM, clsM, noX, mkKM, mkVM, strL, l1, x1, i1]
  have key : ∃ z ∈ oddF, frz (mu1 ++ ex) mu.length 40 ((oddR mu.length)[d]) = some z := by
    have hm : (oddR mu.length)[d] ∈ oddR mu.length := List.getElem_mem hd
    revert hm
    generalize (oddR mu.length)[d] = v
    intro hm
    have cl : v ∈ oddF → ∃ z ∈ oddF, frz (mu1 ++ ex) mu.length 40 v = some z := fun hv => ⟨v, hv, frz_cl 10 v 40 (oddF_ok hv).1.2 (by decide)⟩
    subst eex
    rcases List.mem_append.mp hm with q | q
    · exact cl (List.mem_append_left _ q)
    · rcases List.mem_cons.mp q with rfl | q
      · refine ⟨.dct [], List.mem_append_right _ (by simp), ?_⟩
        rw [frz_refD (k := 39) (d := []) (by omega) (by rw [← D.len]; exact at2a _ _ _)]
        rfl
      · rcases List.mem_cons.mp q with rfl | q
        · refine ⟨.dct oddD, List.mem_append_right _ (by simp), ?_⟩
          rw [frz_refD (k := 39) (d := oddD) (by omega) (by rw [← D.len]; exact at2b _ _ _)]
          rfl
        · exact cl (List.mem_append_right _ (List.mem_cons_of_mem _ (List.mem_cons_of_mem _ q)))
  obtain ⟨z, hz, hf⟩ := key
  exact ⟨z, mu1, fin_D e0 D hf, hz, D⟩
/-- repr of ['room', z], ['walk', z] for odd z -/
theorem odd_repr : (oddF.all fun z => (reprX [] [.lst [.str (strN "room"), z]]).isSome && (reprX [] [.lst [.str (strN "walk"), z]]).isSome) = true := by decide +kernel
end K06

set_option Elab.async false
set_option linter.all false
set_option maxRecDepth 100000
set_option maxHeartbeats 1000000
namespace K06
open PySem PySem.Spec PyProof.Rows L2 CC
theorem undo_ok {c : Nat} (h : c < 128) (mu : Store) : m_undo [.str [c]] mu = .ok (.str [sw1 c]) mu := by
  refine fin_cl0 ?_ rfl
  unfold m0_undo
  refine defK_rt rfl ?_
  unfold b_undo
  have e : swapG [c] = some (.str [sw1 c]) := by simp only [swapG, h, if_true]
  simp only [seqS, ifS_ap, retS_ap, asgS_ap, exprS_ap, forS_ap, parS_ap, bindS_ap, nextS, orT, andT, notT, tstM, CC.tB, blM, CC.andM, CC.orM, CC.notM, ifM, b2, u1, fA, vM, cM, optR, R.bind, consM, nilM, tupM, lstM, newM, slM, noP, inP, chM, gNameM, gSubM, gFldM, optX, gPc, gTupM, gListM, setAll, oneC, tupC, yesT, itT, itL, itS, itR1, itEnT, callM, isiV, tagOf, truV, sm0, sm1, lmM, dnewM, objV, isNV, List.set, List.length_cons, List.length_nil, List.map_cons, List.map_nil, List.cons_append, List.nil_append, List.append_assoc, List.length_append, List.replicate, List.getElem?_cons_zero, List.getElem?_cons_succ, Option.bind_some, Option.map_some, Option.bind_none, Option.map_none, if_true, if_false, ↓reduceIte, Nat.zero_le, Nat.zero_add, Nat.reduceAdd, Nat.reduceSub, Nat.sub_self, List.append_nil, Nat.reduceLeDiff, Bool.false_eq_true, Bool.not_true, Bool.not_false, Bool.true_eq_false, propM, clsM, noX, mkKM, mkVM, strL, e]
abbrev sg (c : Nat) : Val := .str [c]
noncomputable abbrev tiBody : MS := ifS (andT (tstM (vM 1)) (CC.tB (b2 CC.eqV (b2 ixV (vM 1) (u1 (fun _ => negV default) (cM (.int 1)))) (callM m_undo (consM (vM 2) nilM))))) (exprS (lmM popG (vM 1) nilM)) (exprS (lmM appendG (vM 1) (consM (vM 2) nilM)))
theorem ti_step {mu : Store} {s : List Nat} {c : Nat} {st : List Nat} {n : Nat} (hn : n = mu.length) (hc : c < 128) (hl : st.length ≤ 1000) : tiBody [some (.str s), some (.ref n), some (.str [c])] (mu ++ [.lst (st.reverse.map sg)]) = .nx [some (.str s), some (.ref n), some (.str [c])] (mu ++ [.lst ((pushS c st).reverse.map sg)]) := by
  subst hn
  cases st with
  | nil =>
    have ap : appendG (mu ++ [.lst []]) mu.length [] [.str [c]] = some (.non, [.str [c]]) := by simp [appendG]
    show tiBody _ (mu ++ [.lst []]) = .nx _ (mu ++ [.lst [.str [c]]])
    simp only [seqS, ifS_ap, retS_ap, asgS_ap, exprS_ap, forS_ap, parS_ap, bindS_ap, nextS, orT, andT, notT, tstM, CC.tB, blM, CC.andM, CC.orM, CC.notM, ifM, b2, u1, fA, vM, cM, optR, R.bind, consM, nilM, tupM, lstM, newM, slM, noP, inP, chM, gNameM, gSubM, gFldM, optX, gPc, gTupM, gListM, setAll, oneC, tupC, yesT, itT, itL, itS, itR1, itEnT, callM, isiV, tagOf, truV, sm0, sm1, lmM, dnewM, objV, isNV, List.set, List.length_cons, List.length_nil, List.map_cons, List.map_nil, List.cons_append, List.nil_append, List.append_assoc, List.length_append, List.replicate, List.getElem?_cons_zero, List.getElem?_cons_succ, Option.bind_some, Option.map_some, Option.bind_none, Option.map_none, if_true, if_false, ↓reduceIte, Nat.zero_le, Nat.zero_add, Nat.reduceAdd, Nat.reduceSub, Nat.sub_self, List.append_nil, Nat.reduceLeDiff, Bool.false_eq_true, Bool.not_true, Bool.not_false, Bool.true_eq_false, propM, clsM, noX, mkKM, mkVM, strL, truV, at_new, ap, set_new, List.isEmpty]
  | cons d t =>
    have ne : ((d :: t).reverse.map sg).isEmpty = false := by simp
    have li : ixV (mu ++ [.lst ((d :: t).reverse.map sg)]) (.ref mu.length) (.int (-1)) = some (sg d) := by
      simp only [ixV, dctV, seqL, at_new, CC.atI_last]
      simp
    have ud := undo_ok hc (mu ++ [.lst ((d :: t).reverse.map sg)])
    have eq : CC.eqV (mu ++ [.lst ((d :: t).reverse.map sg)]) (.str [d]) (.str [sw1 c]) = some (.bl (decide ([d] = [sw1 c]))) := plS.eqV (by decide) [d] [sw1 c]
    have nv : negV default (.int 1) = some (.int (-1)) := rfl
    rw [pushS_cons]
    by_cases e : d = sw1 c
    · rw [decide_eq_true (by rw [e])] at eq
      rw [if_pos e]
      have pp : popG (mu ++ [.lst ((d :: t).reverse.map sg)]) mu.length ((d :: t).reverse.map sg) [] = some (sg d, t.reverse.map sg) := by
        simp only [popG, List.reverse_cons, List.map_append, List.map_cons, List.map_nil]
        simp
      generalize (d :: t).reverse.map sg = L at ne li ud eq pp ⊢
      simp only [seqS, ifS_ap, retS_ap, asgS_ap, exprS_ap, forS_ap, parS_ap, bindS_ap, nextS, orT, andT, notT, tstM, CC.tB, blM, CC.andM, CC.orM, CC.notM, ifM, b2, u1, fA, vM, cM, optR, R.bind, consM, nilM, tupM, lstM, newM, slM, noP, inP, chM, gNameM, gSubM, gFldM, optX, gPc, gTupM, gListM, setAll, oneC, tupC, yesT, itT, itL, itS, itR1, itEnT, callM, isiV, tagOf, truV, sm0, sm1, lmM, dnewM, objV, isNV, List.set, List.length_cons, List.length_nil, List.map_cons, List.map_nil, List.cons_append, List.nil_append, List.append_assoc, List.length_append, List.replicate, List.getElem?_cons_zero, List.getElem?_cons_succ, Option.bind_some, Option.map_some, Option.bind_none, Option.map_none, if_true, if_false, ↓reduceIte, Nat.zero_le, Nat.zero_add, Nat.reduceAdd, Nat.reduceSub, Nat.sub_self, List.append_nil, Nat.reduceLeDiff, Bool.false_eq_true, Bool.not_true, Bool.not_false, Bool.true_eq_false, propM, clsM, noX, mkKM, mkVM, strL, truV, at_new, ne, nv, li, ud, eq, pp, set_new]
    · rw [decide_eq_false (fun z => e (List.singleton_inj.mp z))] at eq
      rw [if_neg e]
      have ap : appendG (mu ++ [.lst ((d :: t).reverse.map sg)]) mu.length ((d :: t).reverse.map sg) [.str [c]] = some (.non, (c :: d :: t).reverse.map sg) := by
        simp only [appendG]
        rw [if_pos (by simp at hl ⊢; omega)]
        simp
      generalize (d :: t).reverse.map sg = L at ne li ud eq ap ⊢
      simp only [seqS, ifS_ap, retS_ap, asgS_ap, exprS_ap, forS_ap, parS_ap, bindS_ap, nextS, orT, andT, notT, tstM, CC.tB, blM, CC.andM, CC.orM, CC.notM, ifM, b2, u1, fA, vM, cM, optR, R.bind, consM, nilM, tupM, lstM, newM, slM, noP, inP, chM, gNameM, gSubM, gFldM, optX, gPc, gTupM, gListM, setAll, oneC, tupC, yesT, itT, itL, itS, itR1, itEnT, callM, isiV, tagOf, truV, sm0, sm1, lmM, dnewM, objV, isNV, List.set, List.length_cons, List.length_nil, List.map_cons, List.map_nil, List.cons_append, List.nil_append, List.append_assoc, List.length_append, List.replicate, List.getElem?_cons_zero, List.getElem?_cons_succ, Option.bind_some, Option.map_some, Option.bind_none, Option.map_none, if_true, if_false, ↓reduceIte, Nat.zero_le, Nat.zero_add, Nat.reduceAdd, Nat.reduceSub, Nat.sub_self, List.append_nil, Nat.reduceLeDiff, Bool.false_eq_true, Bool.not_true, Bool.not_false, Bool.true_eq_false, propM, clsM, noX, mkKM, mkVM, strL, truV, at_new, ne, nv, li, ud, eq, ap, set_new]
theorem push_len (c : Nat) (st : List Nat) : (pushS c st).length ≤ st.length + 1 := by
  cases st with
  | nil => simp [pushS]
  | cons d t =>
    rw [pushS_cons]
    split <;> simp <;> omega
theorem stk_len : ∀ (s st : List Nat), (stk s st).length ≤ st.length + s.length
  | [], st => by simp [stk]
  | c :: s, st => by
    have a := stk_len s (pushS c st)
    have b := push_len c st
    show (stk s (pushS c st)).length ≤ _
    simp only [List.length_cons]
    omega
theorem strs_sg : ∀ l : List Nat, mapO strO (l.map sg) = some (l.map fun c => [c])
  | [] => rfl
  | c :: l => by
    rw [List.map_cons, List.map_cons]
    unfold mapO
    rw [strs_sg l]
    rfl
theorem joinL_sg : ∀ l : List Nat, TL.joinL [] (l.map fun c => [c]) = l
  | [] => rfl
  | [c] => rfl
  | c :: d :: l => by
    have := joinL_sg (d :: l)
    simp only [List.map_cons] at this ⊢
    show [c] ++ ([] ++ TL.joinL [] ([d] :: l.map fun c => [c])) = _
    rw [this]
    rfl
theorem sum_sg (l : List Nat) : ((l.map fun c => [c]).map List.length).sum = l.length := by
  induction l with
  | nil => rfl
  | cons c l ih => simp only [List.map_cons, List.sum_cons, ih, List.length_cons, List.length_nil]; omega
theorem join_sg (mu : Store) (l : List Nat) (h : l.length ≤ 1000) : joinG (mu ++ [.lst (l.map sg)]) [] (.ref mu.length) = some (.str l) := by
  simp only [joinG, seqL, at_new, strs_sg, Option.bind_some, sum_sg, joinL_sg]
  rw [if_pos (by simp; omega)]
theorem emp : (Str.ofString "").cps.toList = [] := by decide +kernel
theorem taken_ok (s : List Nat) (h1 : ∀ c ∈ s, c < 128) (h2 : s.length ≤ 1000) (mu : Store) : m_taken_in [.str s] mu = .ok (.str (stk s []).reverse) mu := by
  refine fin_cl (ex := [.lst ((stk s []).reverse.map sg)]) ?_ rfl
  unfold m0_taken_in
  refine defK_rt rfl ?_
  unfold b_taken_in
  refine (seq_nx (r1 := [some (.str s), some (.ref mu.length), none]) (mu1 := mu ++ [.lst []]) (by simp only [seqS, ifS_ap, retS_ap, asgS_ap, exprS_ap, forS_ap, parS_ap, bindS_ap, nextS, orT, andT, notT, tstM, CC.tB, blM, CC.andM, CC.orM, CC.notM, ifM, b2, u1, fA, vM, cM, optR, R.bind, consM, nilM, tupM, lstM, newM, slM, noP, inP, chM, gNameM, gSubM, gFldM, optX, gPc, gTupM, gListM, setAll, oneC, tupC, yesT, itT, itL, itS, itR1, itEnT, callM, isiV, tagOf, truV, sm0, sm1, lmM, dnewM, objV, isNV, List.set, List.length_cons, List.length_nil, List.map_cons, List.map_nil, List.cons_append, List.nil_append, List.append_assoc, List.length_append, List.replicate, List.getElem?_cons_zero, List.getElem?_cons_succ, Option.bind_some, Option.map_some, Option.bind_none, Option.map_none, if_true, if_false, ↓reduceIte, Nat.zero_le, Nat.zero_add, Nat.reduceAdd, Nat.reduceSub, Nat.sub_self, List.append_nil, Nat.reduceLeDiff, Bool.false_eq_true, Bool.not_true, Bool.not_false, Bool.true_eq_false, propM, clsM, noX, mkKM, mkVM, strL] <;> rfl)).trans ?_
  refine seq_ex (I := fun r' m' => (∃ b, r' = [some (.str s), some (.ref mu.length), b]) ∧ m' = mu ++ [.lst ((stk s []).reverse.map sg)]) ?_ ?_
  · refine for_ex (xs := s.map sg) (ok := allOk) (mu0 := mu ++ [.lst []]) (fun i r' m' => (∃ b, r' = [some (.str s), some (.ref mu.length), b]) ∧ m' = mu ++ [.lst ((stk (s.take i) []).reverse.map sg)]) (by simp only [seqS, ifS_ap, retS_ap, asgS_ap, exprS_ap, forS_ap, parS_ap, bindS_ap, nextS, orT, andT, notT, tstM, CC.tB, blM, CC.andM, CC.orM, CC.notM, ifM, b2, u1, fA, vM, cM, optR, R.bind, consM, nilM, tupM, lstM, newM, slM, noP, inP, chM, gNameM, gSubM, gFldM, optX, gPc, gTupM, gListM, setAll, oneC, tupC, yesT, itT, itL, itS, itR1, itEnT, callM, isiV, tagOf, truV, sm0, sm1, lmM, dnewM, objV, isNV, List.set, List.length_cons, List.length_nil, List.map_cons, List.map_nil, List.cons_append, List.nil_append, List.append_assoc, List.length_append, List.replicate, List.getElem?_cons_zero, List.getElem?_cons_succ, Option.bind_some, Option.map_some, Option.bind_none, Option.map_none, if_true, if_false, ↓reduceIte, Nat.zero_le, Nat.zero_add, Nat.reduceAdd, Nat.reduceSub, Nat.sub_self, List.append_nil, Nat.reduceLeDiff, Bool.false_eq_true, Bool.not_true, Bool.not_false, Bool.true_eq_false, propM, clsM, noX, mkKM, mkVM, strL] <;> rfl) (fun _ _ _ _ => trivial) ?_ ⟨⟨none, rfl⟩, rfl⟩ fun r' m' h => by
      rw [List.length_map, List.take_length] at h
      exact h
    rintro i y r' m' hy ⟨⟨b, rfl⟩, rfl⟩
    rw [List.getElem?_map] at hy
    obtain ⟨c, hc, rfl⟩ := Option.map_eq_some_iff.mp hy
    have lt : (stk (s.take i) []).length ≤ 1000 := by
      have := stk_len (s.take i) []
      simp only [List.length_nil, List.length_take] at this
      omega
    have st := ti_step (mu := mu) (s := s) (c := c) (st := stk (s.take i) []) rfl (h1 c (List.mem_of_getElem? hc)) lt
    refine ⟨_, _, rfl, _, _, st, ⟨_, rfl⟩, ?_⟩
    rw [List.take_succ, hc, stk_app]
    rfl
  · rintro r' m' ⟨⟨b, rfl⟩, rfl⟩
    have j := join_sg mu (stk s []).reverse (by have := stk_len s []; simp only [List.length_nil] at this; rw [List.length_reverse]; omega)
    simp only [seqS, ifS_ap, retS_ap, asgS_ap, exprS_ap, forS_ap, parS_ap, bindS_ap, nextS, orT, andT, notT, tstM, CC.tB, blM, CC.andM, CC.orM, CC.notM, ifM, b2, u1, fA, vM, cM, optR, R.bind, consM, nilM, tupM, lstM, newM, slM, noP, inP, chM, gNameM, gSubM, gFldM, optX, gPc, gTupM, gListM, setAll, oneC, tupC, yesT, itT, itL, itS, itR1, itEnT, callM, isiV, tagOf, truV, sm0, sm1, lmM, dnewM, objV, isNV, List.set, List.length_cons, List.length_nil, List.map_cons, List.map_nil, List.cons_append, List.nil_append, List.append_assoc, List.length_append, List.replicate, List.getElem?_cons_zero, List.getElem?_cons_succ, Option.bind_some, Option.map_some, Option.bind_none, Option.map_none, if_true, if_false, ↓reduceIte, Nat.zero_le, Nat.zero_add, Nat.reduceAdd, Nat.reduceSub, Nat.sub_self, List.append_nil, Nat.reduceLeDiff, Bool.false_eq_true, Bool.not_true, Bool.not_false, Bool.true_eq_false, propM, clsM, noX, mkKM, mkVM, strL, emp, j]
end K06

set_option Elab.async false
set_option linter.all false
set_option maxRecDepth 100000
set_option maxHeartbeats 1000000
namespace K06
open PySem PySem.Spec PyProof.Rows L2 CC
theorem isL_lt {c : Nat} (h : isL c) : c < 128 := by unfold isL at h; omega
theorem low_one {c : Nat} (h : c < 128) : lowerG [c] = some (.str [lo1 c]) := by
  unfold lowerG
  rw [if_pos ⟨by simp [isAscii, h], by simp⟩]
  rfl
theorem up_one {c : Nat} (h : c < 128) : upperG [c] = some (.str [up1 c]) := by
  unfold upperG
  rw [if_pos ⟨by simp [isAscii, h], by simp⟩]
  rfl
theorem other_ok {c : Nat} (h : isL c) (mu : Store) : m_L_law_other [.str [c]] mu = .ok (.str [sw1 c]) mu := by
  refine fin_cl0 ?_ rfl
  unfold m0_L_law_other
  refine defK_rt rfl ?_
  unfold b_L_law_other
  have l := low_one (isL_lt h)
  have u := up_one (isL_lt h)
  have ne : CC.neV mu (.str [lo1 c]) (.str [c]) = some (.bl (!decide ([lo1 c] = [c]))) := plS.neV (by decide) [lo1 c] [c]
  have hh := h
  unfold isL at hh
  rcases hh with hh | hh
  · have e : lo1 c = sw1 c := by unfold lo1 sw1; rw [if_pos hh, if_pos hh]
    have n : lo1 c ≠ c := by unfold lo1; rw [if_pos hh]; omega
    rw [decide_eq_false (fun z => n (List.singleton_inj.mp z))] at ne
    simp only [seqS, ifS_ap, retS_ap, asgS_ap, exprS_ap, forS_ap, parS_ap, bindS_ap, nextS, orT, andT, notT, tstM, CC.tB, blM, CC.andM, CC.orM, CC.notM, ifM, b2, u1, fA, vM, cM, optR, R.bind, consM, nilM, tupM, lstM, newM, slM, noP, inP, chM, gNameM, gSubM, gFldM, optX, gPc, gTupM, gListM, setAll, oneC, tupC, yesT, itT, itL, itS, itR1, itEnT, callM, isiV, tagOf, truV, sm0, sm1, lmM, dnewM, objV, isNV, List.set, List.length_cons, List.length_nil, List.map_cons, List.map_nil, List.cons_append, List.nil_append, List.append_assoc, List.length_append, List.replicate, List.getElem?_cons_zero, List.getElem?_cons_succ, Option.bind_some, Option.map_some, Option.bind_none, Option.map_none, if_true, if_false, ↓reduceIte, Nat.zero_le, Nat.zero_add, Nat.reduceAdd, Nat.reduceSub, Nat.sub_self, List.append_nil, Nat.reduceLeDiff, Bool.false_eq_true, Bool.not_true, Bool.not_false, Bool.true_eq_false, propM, clsM, noX, mkKM, mkVM, strL, l, ne, Bool.not_false]
    rw [e]
  · have e : lo1 c = c := by unfold lo1; rw [if_neg (by omega)]
    have e2 : up1 c = sw1 c := by unfold up1 sw1; rw [if_pos hh, if_neg (by omega)]
    rw [e] at l ne
    rw [decide_eq_true rfl] at ne
    simp only [seqS, ifS_ap, retS_ap, asgS_ap, exprS_ap, forS_ap, parS_ap, bindS_ap, nextS, orT, andT, notT, tstM, CC.tB, blM, CC.andM, CC.orM, CC.notM, ifM, b2, u1, fA, vM, cM, optR, R.bind, consM, nilM, tupM, lstM, newM, slM, noP, inP, chM, gNameM, gSubM, gFldM, optX, gPc, gTupM, gListM, setAll, oneC, tupC, yesT, itT, itL, itS, itR1, itEnT, callM, isiV, tagOf, truV, sm0, sm1, lmM, dnewM, objV, isNV, List.set, List.length_cons, List.length_nil, List.map_cons, List.map_nil, List.cons_append, List.nil_append, List.append_assoc, List.length_append, List.replicate, List.getElem?_cons_zero, List.getElem?_cons_succ, Option.bind_some, Option.map_some, Option.bind_none, Option.map_none, if_true, if_false, ↓reduceIte, Nat.zero_le, Nat.zero_add, Nat.reduceAdd, Nat.reduceSub, Nat.sub_self, List.append_nil, Nat.reduceLeDiff, Bool.false_eq_true, Bool.not_true, Bool.not_false, Bool.true_eq_false, propM, clsM, noX, mkKM, mkVM, strL, l, ne, u, Bool.not_true]
    rw [e2]
end K06

set_option Elab.async false
set_option linter.all false
set_option maxRecDepth 100000
set_option maxHeartbeats 400000
namespace K06
open PySem PySem.Spec PyProof.Rows L2 CC
theorem p_ix0 (cs : List (List Nat)) (gs : List G) (m : Store) : ixV m (partsV cs gs) (.int 0) = some (roomsV cs) := rfl
theorem p_ix1 (cs : List (List Nat)) (gs : List G) (m : Store) : ixV m (partsV cs gs) (.int 1) = some (doorsV gs) := rfl
theorem dk_P (P : Val → Prop) (f1 f2 : G → Val) (h1 : ∀ g, P (f1 g)) (h2 : ∀ g, P (f2 g)) (gs : List G) : ∀ q ∈ dk f1 f2 gs, P q.2 := by
  have put : ∀ k v (d : List (DKey × Val)), P v → (∀ q ∈ d, P q.2) → ∀ q ∈ putD k v d, P q.2 := by
    intro k v d hv hd q hq
    unfold putD at hq
    split at hq
    · obtain ⟨p, hp, rfl⟩ := List.mem_map.mp hq
      split
      · exact hv
      · exact hd p hp
    · rcases List.mem_append.mp hq with h | h
      · exact hd q h
      · cases h with
        | head => exact hv
        | tail _ h => cases h
  have gen : ∀ (gs : List G) (d : List (DKey × Val)), (∀ q ∈ d, P q.2) → ∀ q ∈ gs.foldl (fun d g => putD (.str [up1 g.1]) (f2 g) (putD (.str [g.1]) (f1 g) d)) d, P q.2 := by
    intro gs
    induction gs with
    | nil => intro d h; exact h
    | cons g gs ih => intro d h; exact ih _ (put _ _ _ (h2 g) (put _ _ _ (h1 g) h))
  exact gen gs [] fun q hq => by cases hq
abbrev w1 (g : G) : Val := .tup [.str g.2.1, .str g.2.2]
abbrev w2 (g : G) : Val := .tup [.str g.2.2, .str g.2.1]
theorem m_ways_ok (cs : List (List Nat)) (gs : List G) (mu : Store) (h : doorsB cs gs) : m_L_law_ways [partsV cs gs] mu = .ok (.dct (dk w1 w2 gs)) mu := by
  obtain ⟨h1, h2, h3, h4⟩ := h
  refine fin_ok (v := .ref mu.length) (ex := [.dct (dk w1 w2 gs)]) ?_ ?_
  · have put : ∀ d k v, d.length < 100000 → storeV (mu ++ [.dct d]) (.ref mu.length) (.str k) v = some (mu ++ [.dct (putD (.str k) v d)]) := fun d k v hd => by
      simp only [storeV, at_new, CC.keyOf]
      rw [if_pos hd, set_new]
    have loop := forL_idx (ok := allOk) (g := gPc [2, 3, 4] (tupC 3)) (body := asgS (tupM (consM (tupM (consM (vM 3) (consM (vM 4) nilM))) (consM (tupM (consM (vM 4) (consM (vM 3) nilM))) nilM))) (gTupM [(gSubM (vM 1) (vM 2)), (gSubM (vM 1) (sm0 upperG (vM 2)))]))
      (xs := gs.map gV) (r := [some (partsV cs gs), some (.ref mu.length), none, none, none]) (mu := mu ++ [.dct []])
      (fun i r m => (∃ a b c, r = [some (partsV cs gs), some (.ref mu.length), a, b, c]) ∧ m = mu ++ [.dct (dk w1 w2 (gs.take i))]) (fun _ _ _ _ => trivial) (fun i x r m hx hI => ?_) ⟨⟨none, none, none, rfl⟩, rfl⟩
    · obtain ⟨r', mu', lp, ⟨a, b, c, rfl⟩, rfl⟩ := loop
      rw [List.length_map, List.take_length] at lp
      have i1 := p_ix1 cs gs
      simp only [m0_L_law_ways, defK, b_L_law_ways, seqS, ifS_ap, retS_ap, asgS_ap, exprS_ap, forS_ap, parS_ap, bindS_ap, nextS, orT, andT, notT, tstM, CC.tB, blM, CC.andM, CC.orM, CC.notM, ifM, b2, u1, fA, vM, cM, optR, R.bind, consM, nilM, tupM, lstM, newM, slM, noP, inP, chM, gNameM, gSubM, gFldM, optX, gPc, gTupM, gListM, setAll, oneC, tupC, yesT, itT, itL, itS, itR1, itEnT, callM, isiV, tagOf, truV, sm0, sm1, lmM, dnewM, objV, isNV, List.set, List.length_cons, List.length_nil, List.map_cons, List.map_nil, List.cons_append, List.nil_append, List.append_assoc, List.length_append, List.replicate, List.getElem?_cons_zero, List.getElem?_cons_succ, Option.bind_some, Option.map_some, Option.bind_none, Option.map_none, if_true, if_false, ↓reduceIte, Nat.zero_le, Nat.zero_add, Nat.reduceAdd, Nat.reduceSub, Nat.sub_self, List.append_nil, Nat.reduceLeDiff, Bool.false_eq_true, Bool.not_true, Bool.not_false, Bool.true_eq_false, propM, clsM, noX, mkKM, mkVM, strL, i1, lp]
    · obtain ⟨⟨a, b, c, rfl⟩, rfl⟩ := hI
      obtain ⟨hl, hg2⟩ := List.getElem?_eq_some_iff.mp hx
      rw [List.length_map] at hl
      rw [List.getElem_map] at hg2
      have hg : gs[i]? = some gs[i] := List.getElem?_eq_getElem hl
      generalize gs[i] = g at hg hg2
      subst hg2
      obtain ⟨k1, k2, k3⟩ := h4 g (List.mem_of_getElem? hg)
      have up := upper1 k1
      have lt : (gs.take i).length ≤ 5 := by simp; omega
      have ls := dk_len w1 w2 (gs.take i)
      refine ⟨[some (partsV cs gs), some (.ref mu.length), some (.str [g.1]), some (.str g.2.1), some (.str g.2.2)], _, rfl, [some (partsV cs gs), some (.ref mu.length), some (.str [g.1]), some (.str g.2.1), some (.str g.2.2)], mu ++ [.dct (dk w1 w2 (gs.take (i + 1)))], ?_, ⟨_, _, _, rfl⟩, rfl⟩
      have e1 := put (dk w1 w2 (gs.take i)) [g.1] (w1 g) (by omega)
      have p1 := putD_len (.str [g.1]) (w1 g) (dk w1 w2 (gs.take i))
      have e2 := put (putD (.str [g.1]) (w1 g) (dk w1 w2 (gs.take i))) [up1 g.1] (w2 g) (by omega)
      simp only [seqS, ifS_ap, retS_ap, asgS_ap, exprS_ap, forS_ap, parS_ap, bindS_ap, nextS, orT, andT, notT, tstM, CC.tB, blM, CC.andM, CC.orM, CC.notM, ifM, b2, u1, fA, vM, cM, optR, R.bind, consM, nilM, tupM, lstM, newM, slM, noP, inP, chM, gNameM, gSubM, gFldM, optX, gPc, gTupM, gListM, setAll, oneC, tupC, yesT, itT, itL, itS, itR1, itEnT, callM, isiV, tagOf, truV, sm0, sm1, lmM, dnewM, objV, isNV, List.set, List.length_cons, List.length_nil, List.map_cons, List.map_nil, List.cons_append, List.nil_append, List.append_assoc, List.length_append, List.replicate, List.getElem?_cons_zero, List.getElem?_cons_succ, Option.bind_some, Option.map_some, Option.bind_none, Option.map_none, if_true, if_false, ↓reduceIte, Nat.zero_le, Nat.zero_add, Nat.reduceAdd, Nat.reduceSub, Nat.sub_self, List.append_nil, Nat.reduceLeDiff, Bool.false_eq_true, Bool.not_true, Bool.not_false, Bool.true_eq_false, propM, clsM, noX, mkKM, mkVM, strL, e1, e2, up]
      simp only [List.take_succ, hg, Option.toList_some, dk_snoc]
  · rw [frz_refD (k := 39) (by omega) (at_new _ _), mapO_id fun q hq => ?_]
    · rfl
    · have := dk_P (fun v => frz (mu ++ [.dct (dk w1 w2 gs)]) mu.length 39 v = some v) w1 w2 (fun g => rfl) (fun g => rfl) gs q hq
      rw [this]
      rfl
end K06

set_option Elab.async false
set_option linter.all false
set_option maxRecDepth 100000
set_option maxHeartbeats 400000
namespace K06
open PySem PySem.Spec PyProof.Rows L2 CC
theorem look_put (k q : DKey) (v : Val) : ∀ d : List (DKey × Val), (putD q v d).lookup k = if k = q then some v else d.lookup k := by
  have app : ∀ (d : List (DKey × Val)), (d.any fun p => decide (p.1 = q)) = false → (d ++ [(q, v)]).lookup k = if k = q then some v else d.lookup k := by
    intro d
    induction d with
    | nil =>
      intro _
      by_cases e : k = q
      · simp [List.lookup, e]
      · have eb : (k == q) = false := beq_eq_false_iff_ne.mpr e
        simp [List.lookup, eb, e]
    | cons p d ih =>
      intro h
      simp only [List.any_cons, Bool.or_eq_false_iff, decide_eq_false_iff_not] at h
      have ih := ih h.2
      by_cases e : k = p.1
      · have n : ¬ k = q := fun z => h.1 (e.symm.trans z)
        simp [List.lookup, e, h.1]
      · have eb : (k == p.1) = false := beq_eq_false_iff_ne.mpr e
        simp only [List.cons_append, List.lookup, eb]
        exact ih
  have mp : ∀ (d : List (DKey × Val)), (d.any fun p => decide (p.1 = q)) = true → (d.map fun p => if p.1 = q then (p.1, v) else p).lookup k = if k = q then some v else d.lookup k := by
    intro d
    induction d with
    | nil => intro h; cases h
    | cons p d ih =>
      intro h
      by_cases e : k = p.1
      · by_cases n : p.1 = q
        · simp [List.lookup, e, n]
        · simp [List.lookup, e, n]
      · have eb : (k == p.1) = false := beq_eq_false_iff_ne.mpr e
        have hd : (if p.1 = q then (p.1, v) else p).1 = p.1 := by split <;> rfl
        rw [List.map_cons]
        have step : ∀ (x : DKey × Val) (l : List (DKey × Val)), x.1 = p.1 → (x :: l).lookup k = l.lookup k := fun x l hx => by
          obtain ⟨a, b⟩ := x
          have : (k == a) = false := by rw [show a = p.1 from hx]; exact eb
          simp only [List.lookup, this]
        rw [step _ _ hd, step p d rfl]
        by_cases ha : (d.any fun p => decide (p.1 = q)) = true
        · exact ih ha
        · have hp : p.1 = q := by
            rw [List.any_cons, Bool.or_eq_true] at h
            rcases h with h | h
            · exact of_decide_eq_true h
            · exact absurd h ha
          have kq : ¬ k = q := fun z => e (z.trans hp.symm)
          rw [if_neg kq]
          have same : (d.map fun p => if p.1 = q then (p.1, v) else p) = d := by
            have hall := List.any_eq_false.mp (by cases z : (d.any fun p => decide (p.1 = q)) with | true => exact absurd z ha | false => rfl : (d.any fun p => decide (p.1 = q)) = false)
            conv => rhs; rw [← List.map_id d]
            refine List.map_congr_left fun x hx => ?_
            have := hall x hx
            rw [if_neg (by simpa using this)]
            rfl
          rw [same]
  intro d
  unfold putD
  by_cases h : (d.any fun p => decide (p.1 = q)) = true
  · rw [if_pos h]; exact mp d h
  · rw [if_neg h]; exact app d (by cases z : (d.any fun p => decide (p.1 = q)) with | true => exact absurd z h | false => rfl)
/-- which door a pass is, and which way -/
def fnd (gs : List G) (k : List Nat) : Option (Bool × G) := gs.foldl (fun acc g => if k = [up1 g.1] then some (true, g) else if k = [g.1] then some (false, g) else acc) none
theorem dk_look (f1 f2 : G → Val) (gs : List G) (k : List Nat) : (dk f1 f2 gs).lookup (.str k) = (fnd gs k).map fun p => if p.1 = true then f2 p.2 else f1 p.2 := by
  have gen : ∀ (gs : List G) (d : List (DKey × Val)) (acc : Option (Bool × G)), d.lookup (.str k) = acc.map (fun p => if p.1 = true then f2 p.2 else f1 p.2) →
      (gs.foldl (fun d g => putD (.str [up1 g.1]) (f2 g) (putD (.str [g.1]) (f1 g) d)) d).lookup (.str k) = (gs.foldl (fun acc g => if k = [up1 g.1] then some (true, g) else if k = [g.1] then some (false, g) else acc) acc).map fun p => if p.1 = true then f2 p.2 else f1 p.2 := by
    intro gs
    induction gs with
    | nil => intro d acc h; exact h
    | cons g gs ih =>
      intro d acc h
      rw [List.foldl_cons, List.foldl_cons]
      refine ih _ _ ?_
      rw [look_put, look_put]
      by_cases e1 : k = [up1 g.1]
      · rw [if_pos (by rw [e1]), if_pos e1]
        rfl
      · rw [if_neg (fun z => e1 (by cases z; rfl)), if_neg e1]
        by_cases e2 : k = [g.1]
        · rw [if_pos (by rw [e2]), if_pos e2]
          rfl
        · rw [if_neg (fun z => e2 (by cases z; rfl)), if_neg e2]
          exact h
  exact gen gs [] none rfl
end K06

set_option Elab.async false
set_option linter.all false
set_option maxRecDepth 100000
set_option maxHeartbeats 400000
namespace K06
open PySem PySem.Spec PyProof.Rows L2 CC
/-- where a pass leads from, to -/
def frm (p : Bool × G) : List Nat := if p.1 = true then p.2.2.2 else p.2.2.1
def too (p : Bool × G) : List Nat := if p.1 = true then p.2.2.1 else p.2.2.2
def go (gs : List G) : List Nat → List Nat → Option (List Nat)
  | here, [] => some here
  | here, c :: s => match fnd gs [c] with
    | some p => if frm p = here then go gs (too p) s else none
    | none => none
theorem st_look (gs : List G) (k : List Nat) : (startsD gs).lookup (.str k) = (fnd gs k).map fun p => .str (frm p) := by
  rw [dk_look]
  congr 1
  funext p
  unfold frm
  cases p.1 <;> rfl
theorem go_look (gs : List G) (k : List Nat) : (goalsD gs).lookup (.str k) = (fnd gs k).map fun p => .str (too p) := by
  rw [dk_look]
  congr 1
  funext p
  unfold too
  cases p.1 <;> rfl
theorem way_look (gs : List G) (k : List Nat) : (dk w1 w2 gs).lookup (.str k) = (fnd gs k).map fun p => .tup [.str (frm p), .str (too p)] := by
  rw [dk_look]
  congr 1
  funext p
  unfold frm too
  cases p.1 <;> rfl
end K06

set_option Elab.async false
set_option linter.all false
set_option maxRecDepth 100000
set_option maxHeartbeats 1000000
namespace K06
open PySem PySem.Spec PyProof.Rows L2 CC
noncomputable abbrev ledBody : MS := (seqS (ifS (CC.tB (b2 CC.neV (getM1 (u1 (fldV na 5) (vM 0)) (vM 4)) (vM 3))) (retS (cM .non)) nextS)
    (asgS (b2 ixV (u1 (fldV na 6) (vM 0)) (vM 4)) (gNameM 3)))
theorem fld_starts (cs : List (List Nat)) (gs : List G) (mu : Store) : fldV na 5 mu (houseV cs gs) = some (.dct (startsD gs)) := by
  simp only [fldV, objV, houseV, Option.bind_some]
  rw [if_pos (by decide +kernel)]
  rfl
theorem fld_goals (cs : List (List Nat)) (gs : List G) (mu : Store) : fldV na 6 mu (houseV cs gs) = some (.dct (goalsD gs)) := by
  simp only [fldV, objV, houseV, Option.bind_some]
  rw [if_pos (by decide +kernel)]
  rfl
theorem led_loop (cs : List (List Nat)) (gs : List G) (a b : Option Val) (mu : Store) : ∀ (s : List Nat) (here : List Nat) (x : Option Val),
    (∃ t x', go gs here s = some t ∧ forL allOk (gNameM 4) ledBody (s.map sg) [some (houseV cs gs), a, b, some (.str here), x] mu = .nx [some (houseV cs gs), a, b, some (.str t), x'] mu) ∨
    (go gs here s = none ∧ forL allOk (gNameM 4) ledBody (s.map sg) [some (houseV cs gs), a, b, some (.str here), x] mu = .rt .non mu)
  | [], here, x => .inl ⟨here, x, rfl, by simp only [List.map_nil, forL]; rw [if_pos (show allOk mu from trivial)]⟩
  | c :: s, here, x => by
    have f5 := fld_starts cs gs mu
    have f6 := fld_goals cs gs mu
    have l5 := st_look gs [c]
    have l6 := go_look gs [c]
    have ih := led_loop cs gs a b mu s
    generalize houseV cs gs = hv at f5 f6 ih ⊢
    have k : CC.keyOf (.str [c]) = some (.str [c]) := rfl
    cases hf : fnd gs [c] with
    | none =>
      refine .inr ⟨by simp only [go, hf], ?_⟩
      rw [hf] at l5
      have ne : CC.neV mu .non (.str here) = some (.bl true) := rfl
      simp only [List.map_cons, forL]
      rw [if_pos (show allOk mu from trivial)]
      simp only [seqS, ifS_ap, retS_ap, asgS_ap, exprS_ap, forS_ap, parS_ap, bindS_ap, nextS, orT, andT, notT, tstM, CC.tB, blM, CC.andM, CC.orM, CC.notM, ifM, b2, u1, fA, vM, cM, optR, R.bind, consM, nilM, tupM, lstM, newM, slM, noP, inP, chM, gNameM, gSubM, gFldM, optX, gPc, gTupM, gListM, setAll, oneC, tupC, yesT, itT, itL, itS, itR1, itEnT, callM, isiV, tagOf, truV, sm0, sm1, lmM, dnewM, objV, isNV, List.set, List.length_cons, List.length_nil, List.map_cons, List.map_nil, List.cons_append, List.nil_append, List.append_assoc, List.length_append, List.replicate, List.getElem?_cons_zero, List.getElem?_cons_succ, Option.bind_some, Option.map_some, Option.bind_none, Option.map_none, if_true, if_false, ↓reduceIte, Nat.zero_le, Nat.zero_add, Nat.reduceAdd, Nat.reduceSub, Nat.sub_self, List.append_nil, Nat.reduceLeDiff, Bool.false_eq_true, Bool.not_true, Bool.not_false, Bool.true_eq_false, propM, clsM, noX, mkKM, mkVM, strL, getM1, dctV, f5, k, l5, Option.getD_none, ne]
    | some p =>
      rw [hf] at l5 l6
      have ne : CC.neV mu (.str (frm p)) (.str here) = some (.bl (!decide (frm p = here))) := plS.neV (by decide) (frm p) here
      by_cases e : frm p = here
      · rw [decide_eq_true e] at ne
        have ix : ixV mu (.dct (goalsD gs)) (.str [c]) = some (.str (too p)) := by simp only [ixV, dctV, k, l6, Option.map_some]
        have body : ledBody [some hv, a, b, some (.str here), some (sg c)] mu = .nx [some hv, a, b, some (.str (too p)), some (sg c)] mu := by
          simp only [seqS, ifS_ap, retS_ap, asgS_ap, exprS_ap, forS_ap, parS_ap, bindS_ap, nextS, orT, andT, notT, tstM, CC.tB, blM, CC.andM, CC.orM, CC.notM, ifM, b2, u1, fA, vM, cM, optR, R.bind, consM, nilM, tupM, lstM, newM, slM, noP, inP, chM, gNameM, gSubM, gFldM, optX, gPc, gTupM, gListM, setAll, oneC, tupC, yesT, itT, itL, itS, itR1, itEnT, callM, isiV, tagOf, truV, sm0, sm1, lmM, dnewM, objV, isNV, List.set, List.length_cons, List.length_nil, List.map_cons, List.map_nil, List.cons_append, List.nil_append, List.append_assoc, List.length_append, List.replicate, List.getElem?_cons_zero, List.getElem?_cons_succ, Option.bind_some, Option.map_some, Option.bind_none, Option.map_none, if_true, if_false, ↓reduceIte, Nat.zero_le, Nat.zero_add, Nat.reduceAdd, Nat.reduceSub, Nat.sub_self, List.append_nil, Nat.reduceLeDiff, Bool.false_eq_true, Bool.not_true, Bool.not_false, Bool.true_eq_false, propM, clsM, noX, mkKM, mkVM, strL, getM1, dctV, f5, k, l5, Option.getD_some, ne, f6, ix]
        have gg : go gs here (c :: s) = go gs (too p) s := by simp only [go, hf, e, if_true]
        have stp : forL allOk (gNameM 4) ledBody ((c :: s).map sg) [some hv, a, b, some (.str here), x] mu = forL allOk (gNameM 4) ledBody (s.map sg) [some hv, a, b, some (.str (too p)), some (sg c)] mu := by
          simp only [List.map_cons, forL]
          rw [if_pos (show allOk mu from trivial)]
          simp only [gNameM, List.set]
          rw [body]
        rw [gg, stp]
        exact ih (too p) (some (sg c))
      · rw [decide_eq_false e] at ne
        refine .inr ⟨by simp only [go, hf, e, if_false], ?_⟩
        simp only [List.map_cons, forL]
        rw [if_pos (show allOk mu from trivial)]
        simp only [seqS, ifS_ap, retS_ap, asgS_ap, exprS_ap, forS_ap, parS_ap, bindS_ap, nextS, orT, andT, notT, tstM, CC.tB, blM, CC.andM, CC.orM, CC.notM, ifM, b2, u1, fA, vM, cM, optR, R.bind, consM, nilM, tupM, lstM, newM, slM, noP, inP, chM, gNameM, gSubM, gFldM, optX, gPc, gTupM, gListM, setAll, oneC, tupC, yesT, itT, itL, itS, itR1, itEnT, callM, isiV, tagOf, truV, sm0, sm1, lmM, dnewM, objV, isNV, List.set, List.length_cons, List.length_nil, List.map_cons, List.map_nil, List.cons_append, List.nil_append, List.append_assoc, List.length_append, List.replicate, List.getElem?_cons_zero, List.getElem?_cons_succ, Option.bind_some, Option.map_some, Option.bind_none, Option.map_none, if_true, if_false, ↓reduceIte, Nat.zero_le, Nat.zero_add, Nat.reduceAdd, Nat.reduceSub, Nat.sub_self, List.append_nil, Nat.reduceLeDiff, Bool.false_eq_true, Bool.not_true, Bool.not_false, Bool.true_eq_false, propM, clsM, noX, mkKM, mkVM, strL, getM1, dctV, f5, k, l5, Option.getD_some, ne]
end K06

set_option Elab.async false
set_option linter.all false
set_option maxRecDepth 100000
set_option maxHeartbeats 1000000
namespace K06
open PySem PySem.Spec PyProof.Rows L2 CC
noncomputable abbrev endBody : MS := (seqS (ifS (orT (CC.tB (b2 ninV2 (vM 4) (vM 0))) (CC.tB (b2 CC.neV (b2 ixV (b2 ixV (vM 0) (vM 4)) (cM (.int 0))) (vM 3)))) (retS (cM .non)) nextS)
    (asgS (b2 ixV (b2 ixV (vM 0) (vM 4)) (cM (.int 1))) (gNameM 3)))
theorem end_loop (gs : List G) (a b : Option Val) (mu : Store) : ∀ (s : List Nat) (here : List Nat) (x : Option Val),
    (∃ t x', go gs here s = some t ∧ forL allOk (gNameM 4) endBody (s.map sg) [some (.dct (dk w1 w2 gs)), a, b, some (.str here), x] mu = .nx [some (.dct (dk w1 w2 gs)), a, b, some (.str t), x'] mu) ∨
    (go gs here s = none ∧ forL allOk (gNameM 4) endBody (s.map sg) [some (.dct (dk w1 w2 gs)), a, b, some (.str here), x] mu = .rt .non mu)
  | [], here, x => .inl ⟨here, x, rfl, by simp only [List.map_nil, forL]; rw [if_pos (show allOk mu from trivial)]⟩
  | c :: s, here, x => by
    have lw := way_look gs [c]
    have ih := end_loop gs a b mu s
    have k : CC.keyOf (.str [c]) = some (.str [c]) := rfl
    generalize dk w1 w2 gs = W at lw ih ⊢
    cases hf : fnd gs [c] with
    | none =>
      refine .inr ⟨by simp only [go, hf], ?_⟩
      rw [hf] at lw
      have ni : ninV2 mu (.str [c]) (.dct W) = some (.bl true) := by simp only [ninV2, inB, seqL, dctV, k, lw, Option.map_none, Option.isSome_none, Option.map_some, Bool.not_false]
      simp only [List.map_cons, forL]
      rw [if_pos (show allOk mu from trivial)]
      simp only [seqS, ifS_ap, retS_ap, asgS_ap, exprS_ap, forS_ap, parS_ap, bindS_ap, nextS, orT, andT, notT, tstM, CC.tB, blM, CC.andM, CC.orM, CC.notM, ifM, b2, u1, fA, vM, cM, optR, R.bind, consM, nilM, tupM, lstM, newM, slM, noP, inP, chM, gNameM, gSubM, gFldM, optX, gPc, gTupM, gListM, setAll, oneC, tupC, yesT, itT, itL, itS, itR1, itEnT, callM, isiV, tagOf, truV, sm0, sm1, lmM, dnewM, objV, isNV, List.set, List.length_cons, List.length_nil, List.map_cons, List.map_nil, List.cons_append, List.nil_append, List.append_assoc, List.length_append, List.replicate, List.getElem?_cons_zero, List.getElem?_cons_succ, Option.bind_some, Option.map_some, Option.bind_none, Option.map_none, if_true, if_false, ↓reduceIte, Nat.zero_le, Nat.zero_add, Nat.reduceAdd, Nat.reduceSub, Nat.sub_self, List.append_nil, Nat.reduceLeDiff, Bool.false_eq_true, Bool.not_true, Bool.not_false, Bool.true_eq_false, propM, clsM, noX, mkKM, mkVM, strL, ni]
    | some p =>
      rw [hf] at lw
      have ni : ninV2 mu (.str [c]) (.dct W) = some (.bl false) := by simp only [ninV2, inB, seqL, dctV, k, lw, Option.map_some, Option.isSome_some, Bool.not_true]
      have ix : ixV mu (.dct W) (.str [c]) = some (.tup [.str (frm p), .str (too p)]) := by simp only [ixV, dctV, k, lw, Option.map_some]
      have i0 : ixV mu (.tup [.str (frm p), .str (too p)]) (.int 0) = some (.str (frm p)) := ix_tup0 _ _
      have i1 : ixV mu (.tup [.str (frm p), .str (too p)]) (.int 1) = some (.str (too p)) := ix_tup1 _ _ _
      have ne : CC.neV mu (.str (frm p)) (.str here) = some (.bl (!decide (frm p = here))) := plS.neV (by decide) (frm p) here
      by_cases e : frm p = here
      · rw [decide_eq_true e] at ne
        have body : endBody [some (.dct W), a, b, some (.str here), some (sg c)] mu = .nx [some (.dct W), a, b, some (.str (too p)), some (sg c)] mu := by
          simp only [seqS, ifS_ap, retS_ap, asgS_ap, exprS_ap, forS_ap, parS_ap, bindS_ap, nextS, orT, andT, notT, tstM, CC.tB, blM, CC.andM, CC.orM, CC.notM, ifM, b2, u1, fA, vM, cM, optR, R.bind, consM, nilM, tupM, lstM, newM, slM, noP, inP, chM, gNameM, gSubM, gFldM, optX, gPc, gTupM, gListM, setAll, oneC, tupC, yesT, itT, itL, itS, itR1, itEnT, callM, isiV, tagOf, truV, sm0, sm1, lmM, dnewM, objV, isNV, List.set, List.length_cons, List.length_nil, List.map_cons, List.map_nil, List.cons_append, List.nil_append, List.append_assoc, List.length_append, List.replicate, List.getElem?_cons_zero, List.getElem?_cons_succ, Option.bind_some, Option.map_some, Option.bind_none, Option.map_none, if_true, if_false, ↓reduceIte, Nat.zero_le, Nat.zero_add, Nat.reduceAdd, Nat.reduceSub, Nat.sub_self, List.append_nil, Nat.reduceLeDiff, Bool.false_eq_true, Bool.not_true, Bool.not_false, Bool.true_eq_false, propM, clsM, noX, mkKM, mkVM, strL, ni, ix, i0, i1, ne]
        have gg : go gs here (c :: s) = go gs (too p) s := by simp only [go, hf, e, if_true]
        have stp : forL allOk (gNameM 4) endBody ((c :: s).map sg) [some (.dct W), a, b, some (.str here), x] mu = forL allOk (gNameM 4) endBody (s.map sg) [some (.dct W), a, b, some (.str (too p)), some (sg c)] mu := by
          simp only [List.map_cons, forL]
          rw [if_pos (show allOk mu from trivial)]
          simp only [gNameM, List.set]
          rw [body]
        rw [gg, stp]
        exact ih (too p) (some (sg c))
      · rw [decide_eq_false e] at ne
        refine .inr ⟨by simp only [go, hf, e, if_false], ?_⟩
        simp only [List.map_cons, forL]
        rw [if_pos (show allOk mu from trivial)]
        simp only [seqS, ifS_ap, retS_ap, asgS_ap, exprS_ap, forS_ap, parS_ap, bindS_ap, nextS, orT, andT, notT, tstM, CC.tB, blM, CC.andM, CC.orM, CC.notM, ifM, b2, u1, fA, vM, cM, optR, R.bind, consM, nilM, tupM, lstM, newM, slM, noP, inP, chM, gNameM, gSubM, gFldM, optX, gPc, gTupM, gListM, setAll, oneC, tupC, yesT, itT, itL, itS, itR1, itEnT, callM, isiV, tagOf, truV, sm0, sm1, lmM, dnewM, objV, isNV, List.set, List.length_cons, List.length_nil, List.map_cons, List.map_nil, List.cons_append, List.nil_append, List.append_assoc, List.length_append, List.replicate, List.getElem?_cons_zero, List.getElem?_cons_succ, Option.bind_some, Option.map_some, Option.bind_none, Option.map_none, if_true, if_false, ↓reduceIte, Nat.zero_le, Nat.zero_add, Nat.reduceAdd, Nat.reduceSub, Nat.sub_self, List.append_nil, Nat.reduceLeDiff, Bool.false_eq_true, Bool.not_true, Bool.not_false, Bool.true_eq_false, propM, clsM, noX, mkKM, mkVM, strL, ni, ix, i0, ne]
end K06

set_option Elab.async false
set_option linter.all false
set_option maxRecDepth 100000
set_option maxHeartbeats 1000000
namespace K06
open PySem PySem.Spec PyProof.Rows L2 CC
def goV (o : Option (List Nat)) : Val := match o with
  | some t => .str t
  | none => .non
theorem goV_cl (o : Option (List Nat)) : clB 30 (goV o) = true := by cases o <;> rfl
theorem led_ok (cs : List (List Nat)) (gs : List G) (here s : List Nat) (mu : Store) : m_House_led [houseV cs gs, .str here, .str s] mu = .ok (goV (go gs here s)) mu := by
  refine fin_cl0 ?_ (goV_cl _)
  unfold m0_House_led
  refine defK_rt rfl ?_
  unfold b_House_led
  have lp := led_loop cs gs (some (.str here)) (some (.str s)) mu s here none
  generalize houseV cs gs = hv at lp ⊢
  refine (seq_nx (by simp only [seqS, ifS_ap, retS_ap, asgS_ap, exprS_ap, forS_ap, parS_ap, bindS_ap, nextS, orT, andT, notT, tstM, CC.tB, blM, CC.andM, CC.orM, CC.notM, ifM, b2, u1, fA, vM, cM, optR, R.bind, consM, nilM, tupM, lstM, newM, slM, noP, inP, chM, gNameM, gSubM, gFldM, optX, gPc, gTupM, gListM, setAll, oneC, tupC, yesT, itT, itL, itS, itR1, itEnT, callM, isiV, tagOf, truV, sm0, sm1, lmM, dnewM, objV, isNV, List.set, List.length_cons, List.length_nil, List.map_cons, List.map_nil, List.cons_append, List.nil_append, List.append_assoc, List.length_append, List.replicate, List.getElem?_cons_zero, List.getElem?_cons_succ, Option.bind_some, Option.map_some, Option.bind_none, Option.map_none, if_true, if_false, ↓reduceIte, Nat.zero_le, Nat.zero_add, Nat.reduceAdd, Nat.reduceSub, Nat.sub_self, List.append_nil, Nat.reduceLeDiff, Bool.false_eq_true, Bool.not_true, Bool.not_false, Bool.true_eq_false, propM, clsM, noX, mkKM, mkVM, strL] <;> rfl)).trans ?_
  rcases lp with ⟨t, x', g, e⟩ | ⟨g, e⟩
  · rw [g]
    refine (seq_nx (r1 := [some hv, some (.str here), some (.str s), some (.str t), x']) (mu1 := mu) (by
      rw [forS_ap]
      exact e)).trans ?_
    simp only [seqS, ifS_ap, retS_ap, asgS_ap, exprS_ap, forS_ap, parS_ap, bindS_ap, nextS, orT, andT, notT, tstM, CC.tB, blM, CC.andM, CC.orM, CC.notM, ifM, b2, u1, fA, vM, cM, optR, R.bind, consM, nilM, tupM, lstM, newM, slM, noP, inP, chM, gNameM, gSubM, gFldM, optX, gPc, gTupM, gListM, setAll, oneC, tupC, yesT, itT, itL, itS, itR1, itEnT, callM, isiV, tagOf, truV, sm0, sm1, lmM, dnewM, objV, isNV, List.set, List.length_cons, List.length_nil, List.map_cons, List.map_nil, List.cons_append, List.nil_append, List.append_assoc, List.length_append, List.replicate, List.getElem?_cons_zero, List.getElem?_cons_succ, Option.bind_some, Option.map_some, Option.bind_none, Option.map_none, if_true, if_false, ↓reduceIte, Nat.zero_le, Nat.zero_add, Nat.reduceAdd, Nat.reduceSub, Nat.sub_self, List.append_nil, Nat.reduceLeDiff, Bool.false_eq_true, Bool.not_true, Bool.not_false, Bool.true_eq_false, propM, clsM, noX, mkKM, mkVM, strL, goV]
  · rw [g]
    refine seq_rt ?_
    rw [forS_ap]
    exact e
theorem end_ok (gs : List G) (here s : List Nat) (mu : Store) : m_L_law_end [.dct (dk w1 w2 gs), .str here, .str s] mu = .ok (goV (go gs here s)) mu := by
  refine fin_cl0 ?_ (goV_cl _)
  unfold m0_L_law_end
  refine defK_rt rfl ?_
  unfold b_L_law_end
  have lp := end_loop gs (some (.str here)) (some (.str s)) mu s here none
  generalize dk w1 w2 gs = hv at lp ⊢
  refine (seq_nx (by simp only [seqS, ifS_ap, retS_ap, asgS_ap, exprS_ap, forS_ap, parS_ap, bindS_ap, nextS, orT, andT, notT, tstM, CC.tB, blM, CC.andM, CC.orM, CC.notM, ifM, b2, u1, fA, vM, cM, optR, R.bind, consM, nilM, tupM, lstM, newM, slM, noP, inP, chM, gNameM, gSubM, gFldM, optX, gPc, gTupM, gListM, setAll, oneC, tupC, yesT, itT, itL, itS, itR1, itEnT, callM, isiV, tagOf, truV, sm0, sm1, lmM, dnewM, objV, isNV, List.set, List.length_cons, List.length_nil, List.map_cons, List.map_nil, List.cons_append, List.nil_append, List.append_assoc, List.length_append, List.replicate, List.getElem?_cons_zero, List.getElem?_cons_succ, Option.bind_some, Option.map_some, Option.bind_none, Option.map_none, if_true, if_false, ↓reduceIte, Nat.zero_le, Nat.zero_add, Nat.reduceAdd, Nat.reduceSub, Nat.sub_self, List.append_nil, Nat.reduceLeDiff, Bool.false_eq_true, Bool.not_true, Bool.not_false, Bool.true_eq_false, propM, clsM, noX, mkKM, mkVM, strL] <;> rfl)).trans ?_
  rcases lp with ⟨t, x', g, e⟩ | ⟨g, e⟩
  · rw [g]
    refine (seq_nx (r1 := [some (.dct hv), some (.str here), some (.str s), some (.str t), x']) (mu1 := mu) (by
      rw [forS_ap]
      exact e)).trans ?_
    simp only [seqS, ifS_ap, retS_ap, asgS_ap, exprS_ap, forS_ap, parS_ap, bindS_ap, nextS, orT, andT, notT, tstM, CC.tB, blM, CC.andM, CC.orM, CC.notM, ifM, b2, u1, fA, vM, cM, optR, R.bind, consM, nilM, tupM, lstM, newM, slM, noP, inP, chM, gNameM, gSubM, gFldM, optX, gPc, gTupM, gListM, setAll, oneC, tupC, yesT, itT, itL, itS, itR1, itEnT, callM, isiV, tagOf, truV, sm0, sm1, lmM, dnewM, objV, isNV, List.set, List.length_cons, List.length_nil, List.map_cons, List.map_nil, List.cons_append, List.nil_append, List.append_assoc, List.length_append, List.replicate, List.getElem?_cons_zero, List.getElem?_cons_succ, Option.bind_some, Option.map_some, Option.bind_none, Option.map_none, if_true, if_false, ↓reduceIte, Nat.zero_le, Nat.zero_add, Nat.reduceAdd, Nat.reduceSub, Nat.sub_self, List.append_nil, Nat.reduceLeDiff, Bool.false_eq_true, Bool.not_true, Bool.not_false, Bool.true_eq_false, propM, clsM, noX, mkKM, mkVM, strL, goV]
  · rw [g]
    refine seq_rt ?_
    rw [forS_ap]
    exact e
theorem nin_rooms {z : Val} (h : ioB z = true) (cs : List (List Nat)) (mu : Store) : ninW2 mu z (roomsV cs) = some (.bl (!rmB cs z)) := by
  unfold ninW2
  rw [inW_rooms h cs]
  rfl
theorem chk_yes {z : Val} (h : ioB z = true) {cs : List (List Nat)} (e : rmB cs z = true) (gs : List G) (mu : Store) : m_House_check_room [houseV cs gs, z] mu = .ok .non mu := by
  have f := fld_rooms cs gs mu
  have n := nin_rooms h cs mu
  rw [e] at n
  generalize houseV cs gs = hv at f ⊢
  generalize roomsV cs = rv at f n
  refine fin_cl0 ?_ rfl
  unfold m0_House_check_room
  refine defK_nx (r1 := [some hv, some z]) rfl ?_
  unfold b_House_check_room
  simp only [seqS, ifS_ap, retS_ap, asgS_ap, exprS_ap, forS_ap, parS_ap, bindS_ap, nextS, orT, andT, notT, tstM, CC.tB, blM, CC.andM, CC.orM, CC.notM, ifM, b2, u1, fA, vM, cM, optR, R.bind, consM, nilM, tupM, lstM, newM, slM, noP, inP, chM, gNameM, gSubM, gFldM, optX, gPc, gTupM, gListM, setAll, oneC, tupC, yesT, itT, itL, itS, itR1, itEnT, callM, isiV, tagOf, truV, sm0, sm1, lmM, dnewM, objV, isNV, List.set, List.length_cons, List.length_nil, List.map_cons, List.map_nil, List.cons_append, List.nil_append, List.append_assoc, List.length_append, List.replicate, List.getElem?_cons_zero, List.getElem?_cons_succ, Option.bind_some, Option.map_some, Option.bind_none, Option.map_none, if_true, if_false, ↓reduceIte, Nat.zero_le, Nat.zero_add, Nat.reduceAdd, Nat.reduceSub, Nat.sub_self, List.append_nil, Nat.reduceLeDiff, Bool.false_eq_true, Bool.not_true, Bool.not_false, Bool.true_eq_false, propM, clsM, noX, mkKM, mkVM, strL, f, n]
theorem chk_no {z : Val} (h : ioB z = true) (hc : clB 10 z = true) {cs : List (List Nat)} (e : rmB cs z = false) (gs : List G) (mu : Store) : m_House_check_room [houseV cs gs, z] mu = .exc 2 [(0, z)] mu := by
  have f := fld_rooms cs gs mu
  have n := nin_rooms h cs mu
  rw [e] at n
  generalize houseV cs gs = hv at f ⊢
  generalize roomsV cs = rv at f n
  refine fin_exc (ex := []) ?_ (frz_cl 10 z 40 hc (by decide))
  rw [List.append_nil]
  unfold m0_House_check_room
  refine defK_exc (r1 := [some hv, some z]) rfl ?_
  unfold b_House_check_room
  have r := raise_ap (C := 2) (n := 0) (m := vM 1) (r := [some hv, some z]) (mu := mu) (mu1 := mu) (v := z) (by simp only [seqS, ifS_ap, retS_ap, asgS_ap, exprS_ap, forS_ap, parS_ap, bindS_ap, nextS, orT, andT, notT, tstM, CC.tB, blM, CC.andM, CC.orM, CC.notM, ifM, b2, u1, fA, vM, cM, optR, R.bind, consM, nilM, tupM, lstM, newM, slM, noP, inP, chM, gNameM, gSubM, gFldM, optX, gPc, gTupM, gListM, setAll, oneC, tupC, yesT, itT, itL, itS, itR1, itEnT, callM, isiV, tagOf, truV, sm0, sm1, lmM, dnewM, objV, isNV, List.set, List.length_cons, List.length_nil, List.map_cons, List.map_nil, List.cons_append, List.nil_append, List.append_assoc, List.length_append, List.replicate, List.getElem?_cons_zero, List.getElem?_cons_succ, Option.bind_some, Option.map_some, Option.bind_none, Option.map_none, if_true, if_false, ↓reduceIte, Nat.zero_le, Nat.zero_add, Nat.reduceAdd, Nat.reduceSub, Nat.sub_self, List.append_nil, Nat.reduceLeDiff, Bool.false_eq_true, Bool.not_true, Bool.not_false, Bool.true_eq_false, propM, clsM, noX, mkKM, mkVM, strL])
  simp only [seqS, ifS_ap, retS_ap, asgS_ap, exprS_ap, forS_ap, parS_ap, bindS_ap, nextS, orT, andT, notT, tstM, CC.tB, blM, CC.andM, CC.orM, CC.notM, ifM, b2, u1, fA, vM, cM, optR, R.bind, consM, nilM, tupM, lstM, newM, slM, noP, inP, chM, gNameM, gSubM, gFldM, optX, gPc, gTupM, gListM, setAll, oneC, tupC, yesT, itT, itL, itS, itR1, itEnT, callM, isiV, tagOf, truV, sm0, sm1, lmM, dnewM, objV, isNV, List.set, List.length_cons, List.length_nil, List.map_cons, List.map_nil, List.cons_append, List.nil_append, List.append_assoc, List.length_append, List.replicate, List.getElem?_cons_zero, List.getElem?_cons_succ, Option.bind_some, Option.map_some, Option.bind_none, Option.map_none, if_true, if_false, ↓reduceIte, Nat.zero_le, Nat.zero_add, Nat.reduceAdd, Nat.reduceSub, Nat.sub_self, List.append_nil, Nat.reduceLeDiff, Bool.false_eq_true, Bool.not_true, Bool.not_false, Bool.true_eq_false, propM, clsM, noX, mkKM, mkVM, strL, f, n, r]
/-- what stands for passes -/
def treadOk (v : Val) : Prop := odB v = true ∧ clB 10 v = true
theorem hend_room {z v : Val} (h : ioB z = true) (hc : clB 10 z = true) {cs : List (List Nat)} (e : rmB cs z = false) (gs : List G) (mu : Store) : m0_House_end [houseV cs gs, z, v] mu = .exc 2 [(0, z)] mu := by
  have k := chk_no h hc e gs mu
  have o : objV mu (houseV cs gs) = some (0, [(3, roomsV cs), (4, doorsV gs), (5, .dct (startsD gs)), (6, .dct (goalsD gs))]) := rfl
  generalize houseV cs gs = hv at k o ⊢
  unfold m0_House_end
  refine defK_exc (r1 := [some hv, some z, some v, none]) rfl ?_
  unfold b_House_end
  refine seq_exc ?_
  simp only [seqS, ifS_ap, retS_ap, asgS_ap, exprS_ap, forS_ap, parS_ap, bindS_ap, nextS, orT, andT, notT, tstM, CC.tB, blM, CC.andM, CC.orM, CC.notM, ifM, b2, u1, fA, vM, cM, optR, R.bind, consM, nilM, tupM, lstM, newM, slM, noP, inP, chM, gNameM, gSubM, gFldM, optX, gPc, gTupM, gListM, setAll, oneC, tupC, yesT, itT, itL, itS, itR1, itEnT, callM, isiV, tagOf, truV, sm0, sm1, lmM, dnewM, isNV, List.set, List.length_cons, List.length_nil, List.map_cons, List.map_nil, List.cons_append, List.nil_append, List.append_assoc, List.length_append, List.replicate, List.getElem?_cons_zero, List.getElem?_cons_succ, Option.bind_some, Option.map_some, Option.bind_none, Option.map_none, if_true, if_false, ↓reduceIte, Nat.zero_le, Nat.zero_add, Nat.reduceAdd, Nat.reduceSub, Nat.sub_self, List.append_nil, Nat.reduceLeDiff, Bool.false_eq_true, Bool.not_true, Bool.not_false, Bool.true_eq_false, propM, clsM, noX, mkKM, mkVM, strL, methM, o, k]
theorem goV_is (o : Option (List Nat)) (mu : Store) : isNV mu (goV o) .non = some (.bl o.isNone) := by cases o <;> rfl
theorem hend_walk {c : List Nat} {v : Val} {cs : List (List Nat)} (hc : c ∈ cs) (hv : treadOk v) (gs : List G) (hn : ∀ s, v = .str s → go gs c s = none) (mu : Store) : m0_House_end [houseV cs gs, .str c, v] mu = .exc 4 [(0, v)] mu := by
  have k := chk_yes (z := .str c) rfl (cs := cs) (by simpa [rmB] using hc) gs mu
  have o : objV mu (houseV cs gs) = some (0, [(3, roomsV cs), (4, doorsV gs), (5, .dct (startsD gs)), (6, .dct (goalsD gs))]) := rfl
  have i := isi_str (mu := mu) hv.1
  unfold m0_House_end
  refine defK_exc (r1 := [some (houseV cs gs), some (.str c), some v, some .non]) rfl ?_
  unfold b_House_end
  cases e : isS v with
  | true =>
    obtain ⟨s, rfl⟩ : ∃ s, v = .str s := by
      cases v with
      | str s => exact ⟨s, rfl⟩
      | _ => cases e
    have l := led_ok cs gs c s mu
    rw [hn s rfl] at l
    rw [e] at i
    generalize houseV cs gs = hv at k o l ⊢
    refine (seq_nx (by simp only [seqS, ifS_ap, retS_ap, asgS_ap, exprS_ap, forS_ap, parS_ap, bindS_ap, nextS, orT, andT, notT, tstM, CC.tB, blM, CC.andM, CC.orM, CC.notM, ifM, b2, u1, fA, vM, cM, optR, R.bind, consM, nilM, tupM, lstM, newM, slM, noP, inP, chM, gNameM, gSubM, gFldM, optX, gPc, gTupM, gListM, setAll, oneC, tupC, yesT, itT, itL, itS, itR1, itEnT, callM, isiV, tagOf, truV, sm0, sm1, lmM, dnewM, isNV, List.set, List.length_cons, List.length_nil, List.map_cons, List.map_nil, List.cons_append, List.nil_append, List.append_assoc, List.length_append, List.replicate, List.getElem?_cons_zero, List.getElem?_cons_succ, Option.bind_some, Option.map_some, Option.bind_none, Option.map_none, if_true, if_false, ↓reduceIte, Nat.zero_le, Nat.zero_add, Nat.reduceAdd, Nat.reduceSub, Nat.sub_self, List.append_nil, Nat.reduceLeDiff, Bool.false_eq_true, Bool.not_true, Bool.not_false, Bool.true_eq_false, propM, clsM, noX, mkKM, mkVM, strL, methM, o, k] <;> rfl)).trans ?_
    refine (seq_nx (by simp only [seqS, ifS_ap, retS_ap, asgS_ap, exprS_ap, forS_ap, parS_ap, bindS_ap, nextS, orT, andT, notT, tstM, CC.tB, blM, CC.andM, CC.orM, CC.notM, ifM, b2, u1, fA, vM, cM, optR, R.bind, consM, nilM, tupM, lstM, newM, slM, noP, inP, chM, gNameM, gSubM, gFldM, optX, gPc, gTupM, gListM, setAll, oneC, tupC, yesT, itT, itL, itS, itR1, itEnT, callM, truV, sm0, sm1, lmM, dnewM, isNV, List.set, List.length_cons, List.length_nil, List.map_cons, List.map_nil, List.cons_append, List.nil_append, List.append_assoc, List.length_append, List.replicate, List.getElem?_cons_zero, List.getElem?_cons_succ, Option.bind_some, Option.map_some, Option.bind_none, Option.map_none, if_true, if_false, ↓reduceIte, Nat.zero_le, Nat.zero_add, Nat.reduceAdd, Nat.reduceSub, Nat.sub_self, List.append_nil, Nat.reduceLeDiff, Bool.false_eq_true, Bool.not_true, Bool.not_false, Bool.true_eq_false, propM, clsM, noX, mkKM, mkVM, strL, methM, o, i, l, goV] <;> rfl)).trans ?_
    refine seq_exc ?_
    have r := raise_ap (C := 4) (n := 0) (m := vM 2) (r := [some hv, some (.str c), some (.str s), some .non]) (mu := mu) (mu1 := mu) (v := .str s) (by simp only [seqS, ifS_ap, retS_ap, asgS_ap, exprS_ap, forS_ap, parS_ap, bindS_ap, nextS, orT, andT, notT, tstM, CC.tB, blM, CC.andM, CC.orM, CC.notM, ifM, b2, u1, fA, vM, cM, optR, R.bind, consM, nilM, tupM, lstM, newM, slM, noP, inP, chM, gNameM, gSubM, gFldM, optX, gPc, gTupM, gListM, setAll, oneC, tupC, yesT, itT, itL, itS, itR1, itEnT, callM, isiV, tagOf, truV, sm0, sm1, lmM, dnewM, objV, isNV, List.set, List.length_cons, List.length_nil, List.map_cons, List.map_nil, List.cons_append, List.nil_append, List.append_assoc, List.length_append, List.replicate, List.getElem?_cons_zero, List.getElem?_cons_succ, Option.bind_some, Option.map_some, Option.bind_none, Option.map_none, if_true, if_false, ↓reduceIte, Nat.zero_le, Nat.zero_add, Nat.reduceAdd, Nat.reduceSub, Nat.sub_self, List.append_nil, Nat.reduceLeDiff, Bool.false_eq_true, Bool.not_true, Bool.not_false, Bool.true_eq_false, propM, clsM, noX, mkKM, mkVM, strL])
    simp only [seqS, ifS_ap, retS_ap, asgS_ap, exprS_ap, forS_ap, parS_ap, bindS_ap, nextS, orT, andT, notT, tstM, CC.tB, blM, CC.andM, CC.orM, CC.notM, ifM, b2, u1, fA, vM, cM, optR, R.bind, consM, nilM, tupM, lstM, newM, slM, noP, inP, chM, gNameM, gSubM, gFldM, optX, gPc, gTupM, gListM, setAll, oneC, tupC, yesT, itT, itL, itS, itR1, itEnT, callM, isiV, tagOf, truV, sm0, sm1, lmM, dnewM, objV, isNV, List.set, List.length_cons, List.length_nil, List.map_cons, List.map_nil, List.cons_append, List.nil_append, List.append_assoc, List.length_append, List.replicate, List.getElem?_cons_zero, List.getElem?_cons_succ, Option.bind_some, Option.map_some, Option.bind_none, Option.map_none, if_true, if_false, ↓reduceIte, Nat.zero_le, Nat.zero_add, Nat.reduceAdd, Nat.reduceSub, Nat.sub_self, List.append_nil, Nat.reduceLeDiff, Bool.false_eq_true, Bool.not_true, Bool.not_false, Bool.true_eq_false, propM, clsM, noX, mkKM, mkVM, strL, r, isNil]
  | false =>
    rw [e] at i
    generalize houseV cs gs = hv at k o ⊢
    refine (seq_nx (by simp only [seqS, ifS_ap, retS_ap, asgS_ap, exprS_ap, forS_ap, parS_ap, bindS_ap, nextS, orT, andT, notT, tstM, CC.tB, blM, CC.andM, CC.orM, CC.notM, ifM, b2, u1, fA, vM, cM, optR, R.bind, consM, nilM, tupM, lstM, newM, slM, noP, inP, chM, gNameM, gSubM, gFldM, optX, gPc, gTupM, gListM, setAll, oneC, tupC, yesT, itT, itL, itS, itR1, itEnT, callM, isiV, tagOf, truV, sm0, sm1, lmM, dnewM, isNV, List.set, List.length_cons, List.length_nil, List.map_cons, List.map_nil, List.cons_append, List.nil_append, List.append_assoc, List.length_append, List.replicate, List.getElem?_cons_zero, List.getElem?_cons_succ, Option.bind_some, Option.map_some, Option.bind_none, Option.map_none, if_true, if_false, ↓reduceIte, Nat.zero_le, Nat.zero_add, Nat.reduceAdd, Nat.reduceSub, Nat.sub_self, List.append_nil, Nat.reduceLeDiff, Bool.false_eq_true, Bool.not_true, Bool.not_false, Bool.true_eq_false, propM, clsM, noX, mkKM, mkVM, strL, methM, o, k] <;> rfl)).trans ?_
    refine (seq_nx (by simp only [seqS, ifS_ap, retS_ap, asgS_ap, exprS_ap, forS_ap, parS_ap, bindS_ap, nextS, orT, andT, notT, tstM, CC.tB, blM, CC.andM, CC.orM, CC.notM, ifM, b2, u1, fA, vM, cM, optR, R.bind, consM, nilM, tupM, lstM, newM, slM, noP, inP, chM, gNameM, gSubM, gFldM, optX, gPc, gTupM, gListM, setAll, oneC, tupC, yesT, itT, itL, itS, itR1, itEnT, callM, truV, sm0, sm1, lmM, dnewM, isNV, List.set, List.length_cons, List.length_nil, List.map_cons, List.map_nil, List.cons_append, List.nil_append, List.append_assoc, List.length_append, List.replicate, List.getElem?_cons_zero, List.getElem?_cons_succ, Option.bind_some, Option.map_some, Option.bind_none, Option.map_none, if_true, if_false, ↓reduceIte, Nat.zero_le, Nat.zero_add, Nat.reduceAdd, Nat.reduceSub, Nat.sub_self, List.append_nil, Nat.reduceLeDiff, Bool.false_eq_true, Bool.not_true, Bool.not_false, Bool.true_eq_false, propM, clsM, noX, mkKM, mkVM, strL, i] <;> rfl)).trans ?_
    refine seq_exc ?_
    have r := raise_ap (C := 4) (n := 0) (m := vM 2) (r := [some hv, some (.str c), some v, some .non]) (mu := mu) (mu1 := mu) (v := v) (by simp only [seqS, ifS_ap, retS_ap, asgS_ap, exprS_ap, forS_ap, parS_ap, bindS_ap, nextS, orT, andT, notT, tstM, CC.tB, blM, CC.andM, CC.orM, CC.notM, ifM, b2, u1, fA, vM, cM, optR, R.bind, consM, nilM, tupM, lstM, newM, slM, noP, inP, chM, gNameM, gSubM, gFldM, optX, gPc, gTupM, gListM, setAll, oneC, tupC, yesT, itT, itL, itS, itR1, itEnT, callM, isiV, tagOf, truV, sm0, sm1, lmM, dnewM, objV, isNV, List.set, List.length_cons, List.length_nil, List.map_cons, List.map_nil, List.cons_append, List.nil_append, List.append_assoc, List.length_append, List.replicate, List.getElem?_cons_zero, List.getElem?_cons_succ, Option.bind_some, Option.map_some, Option.bind_none, Option.map_none, if_true, if_false, ↓reduceIte, Nat.zero_le, Nat.zero_add, Nat.reduceAdd, Nat.reduceSub, Nat.sub_self, List.append_nil, Nat.reduceLeDiff, Bool.false_eq_true, Bool.not_true, Bool.not_false, Bool.true_eq_false, propM, clsM, noX, mkKM, mkVM, strL])
    simp only [seqS, ifS_ap, retS_ap, asgS_ap, exprS_ap, forS_ap, parS_ap, bindS_ap, nextS, orT, andT, notT, tstM, CC.tB, blM, CC.andM, CC.orM, CC.notM, ifM, b2, u1, fA, vM, cM, optR, R.bind, consM, nilM, tupM, lstM, newM, slM, noP, inP, chM, gNameM, gSubM, gFldM, optX, gPc, gTupM, gListM, setAll, oneC, tupC, yesT, itT, itL, itS, itR1, itEnT, callM, isiV, tagOf, truV, sm0, sm1, lmM, dnewM, objV, isNV, List.set, List.length_cons, List.length_nil, List.map_cons, List.map_nil, List.cons_append, List.nil_append, List.append_assoc, List.length_append, List.replicate, List.getElem?_cons_zero, List.getElem?_cons_succ, Option.bind_some, Option.map_some, Option.bind_none, Option.map_none, if_true, if_false, ↓reduceIte, Nat.zero_le, Nat.zero_add, Nat.reduceAdd, Nat.reduceSub, Nat.sub_self, List.append_nil, Nat.reduceLeDiff, Bool.false_eq_true, Bool.not_true, Bool.not_false, Bool.true_eq_false, propM, clsM, noX, mkKM, mkVM, strL, r, isNil]
theorem hend_ok {c s t : List Nat} {cs : List (List Nat)} (hc : c ∈ cs) (hs : s.length ≤ 1000) (gs : List G) (hg : go gs c s = some t) (mu : Store) : m0_House_end [houseV cs gs, .str c, .str s] mu = .ok (.str t) mu := by
  have k := chk_yes (z := .str c) rfl (cs := cs) (by simpa [rmB] using hc) gs mu
  have o : objV mu (houseV cs gs) = some (0, [(3, roomsV cs), (4, doorsV gs), (5, .dct (startsD gs)), (6, .dct (goalsD gs))]) := rfl
  have i := isi_str (mu := mu) (v := .str s) (by simpa [odB] using hs)
  have l := led_ok cs gs c s mu
  rw [hg] at l
  unfold m0_House_end
  refine defK_rt rfl ?_
  unfold b_House_end
  generalize houseV cs gs = hv at k o l ⊢
  refine (seq_nx (by simp only [seqS, ifS_ap, retS_ap, asgS_ap, exprS_ap, forS_ap, parS_ap, bindS_ap, nextS, orT, andT, notT, tstM, CC.tB, blM, CC.andM, CC.orM, CC.notM, ifM, b2, u1, fA, vM, cM, optR, R.bind, consM, nilM, tupM, lstM, newM, slM, noP, inP, chM, gNameM, gSubM, gFldM, optX, gPc, gTupM, gListM, setAll, oneC, tupC, yesT, itT, itL, itS, itR1, itEnT, callM, isiV, tagOf, truV, sm0, sm1, lmM, dnewM, isNV, List.set, List.length_cons, List.length_nil, List.map_cons, List.map_nil, List.cons_append, List.nil_append, List.append_assoc, List.length_append, List.replicate, List.getElem?_cons_zero, List.getElem?_cons_succ, Option.bind_some, Option.map_some, Option.bind_none, Option.map_none, if_true, if_false, ↓reduceIte, Nat.zero_le, Nat.zero_add, Nat.reduceAdd, Nat.reduceSub, Nat.sub_self, List.append_nil, Nat.reduceLeDiff, Bool.false_eq_true, Bool.not_true, Bool.not_false, Bool.true_eq_false, propM, clsM, noX, mkKM, mkVM, strL, methM, o, k] <;> rfl)).trans ?_
  refine (seq_nx (by simp only [seqS, ifS_ap, retS_ap, asgS_ap, exprS_ap, forS_ap, parS_ap, bindS_ap, nextS, orT, andT, notT, tstM, CC.tB, blM, CC.andM, CC.orM, CC.notM, ifM, b2, u1, fA, vM, cM, optR, R.bind, consM, nilM, tupM, lstM, newM, slM, noP, inP, chM, gNameM, gSubM, gFldM, optX, gPc, gTupM, gListM, setAll, oneC, tupC, yesT, itT, itL, itS, itR1, itEnT, callM, truV, sm0, sm1, lmM, dnewM, isNV, List.set, List.length_cons, List.length_nil, List.map_cons, List.map_nil, List.cons_append, List.nil_append, List.append_assoc, List.length_append, List.replicate, List.getElem?_cons_zero, List.getElem?_cons_succ, Option.bind_some, Option.map_some, Option.bind_none, Option.map_none, if_true, if_false, ↓reduceIte, Nat.zero_le, Nat.zero_add, Nat.reduceAdd, Nat.reduceSub, Nat.sub_self, List.append_nil, Nat.reduceLeDiff, Bool.false_eq_true, Bool.not_true, Bool.not_false, Bool.true_eq_false, propM, clsM, noX, mkKM, mkVM, strL, methM, o, i, l, goV, isS] <;> rfl)).trans ?_
  refine (seq_nx (by simp only [seqS, ifS_ap, retS_ap, asgS_ap, exprS_ap, forS_ap, parS_ap, bindS_ap, nextS, orT, andT, notT, tstM, CC.tB, blM, CC.andM, CC.orM, CC.notM, ifM, b2, u1, fA, vM, cM, optR, R.bind, consM, nilM, tupM, lstM, newM, slM, noP, inP, chM, gNameM, gSubM, gFldM, optX, gPc, gTupM, gListM, setAll, oneC, tupC, yesT, itT, itL, itS, itR1, itEnT, callM, isiV, tagOf, truV, sm0, sm1, lmM, dnewM, objV, isNV, List.set, List.length_cons, List.length_nil, List.map_cons, List.map_nil, List.cons_append, List.nil_append, List.append_assoc, List.length_append, List.replicate, List.getElem?_cons_zero, List.getElem?_cons_succ, Option.bind_some, Option.map_some, Option.bind_none, Option.map_none, if_true, if_false, ↓reduceIte, Nat.zero_le, Nat.zero_add, Nat.reduceAdd, Nat.reduceSub, Nat.sub_self, List.append_nil, Nat.reduceLeDiff, Bool.false_eq_true, Bool.not_true, Bool.not_false, Bool.true_eq_false, propM, clsM, noX, mkKM, mkVM, strL, isNil] <;> rfl)).trans ?_
  simp only [seqS, ifS_ap, retS_ap, asgS_ap, exprS_ap, forS_ap, parS_ap, bindS_ap, nextS, orT, andT, notT, tstM, CC.tB, blM, CC.andM, CC.orM, CC.notM, ifM, b2, u1, fA, vM, cM, optR, R.bind, consM, nilM, tupM, lstM, newM, slM, noP, inP, chM, gNameM, gSubM, gFldM, optX, gPc, gTupM, gListM, setAll, oneC, tupC, yesT, itT, itL, itS, itR1, itEnT, callM, isiV, tagOf, truV, sm0, sm1, lmM, dnewM, objV, isNV, List.set, List.length_cons, List.length_nil, List.map_cons, List.map_nil, List.cons_append, List.nil_append, List.append_assoc, List.length_append, List.replicate, List.getElem?_cons_zero, List.getElem?_cons_succ, Option.bind_some, Option.map_some, Option.bind_none, Option.map_none, if_true, if_false, ↓reduceIte, Nat.zero_le, Nat.zero_add, Nat.reduceAdd, Nat.reduceSub, Nat.sub_self, List.append_nil, Nat.reduceLeDiff, Bool.false_eq_true, Bool.not_true, Bool.not_false, Bool.true_eq_false, propM, clsM, noX, mkKM, mkVM, strL]
theorem fin_of {m : List Val → Store → R Val} {as : List Val} {mu : Store} {C : Nat} {z : Val} (h : m as mu = .exc C [(0, z)] mu) (hc : clB 10 z = true) : finM m as mu = .exc C [(0, z)] mu := by
  refine fin_exc (ex := []) ?_ (frz_cl 10 z 40 hc (by decide))
  rw [List.append_nil]
  exact h
theorem left_exc {z v w : Val} {C : Nat} {cs : List (List Nat)} {gs : List G} {mu : Store} (h : m_House_end [houseV cs gs, z, v] mu = .exc C [(0, w)] mu) : m0_House_left [houseV cs gs, z, v] mu = .exc C [(0, w)] mu := by
  have o : objV mu (houseV cs gs) = some (0, [(3, roomsV cs), (4, doorsV gs), (5, .dct (startsD gs)), (6, .dct (goalsD gs))]) := rfl
  generalize houseV cs gs = hv at h o ⊢
  unfold m0_House_left
  refine defK_exc (r1 := [some hv, some z, some v]) rfl ?_
  unfold b_House_left
  refine seq_exc ?_
  simp only [seqS, ifS_ap, retS_ap, asgS_ap, exprS_ap, forS_ap, parS_ap, bindS_ap, nextS, orT, andT, notT, tstM, CC.tB, blM, CC.andM, CC.orM, CC.notM, ifM, b2, u1, fA, vM, cM, optR, R.bind, consM, nilM, tupM, lstM, newM, slM, noP, inP, chM, gNameM, gSubM, gFldM, optX, gPc, gTupM, gListM, setAll, oneC, tupC, yesT, itT, itL, itS, itR1, itEnT, callM, isiV, tagOf, truV, sm0, sm1, lmM, dnewM, isNV, List.set, List.length_cons, List.length_nil, List.map_cons, List.map_nil, List.cons_append, List.nil_append, List.append_assoc, List.length_append, List.replicate, List.getElem?_cons_zero, List.getElem?_cons_succ, Option.bind_some, Option.map_some, Option.bind_none, Option.map_none, if_true, if_false, ↓reduceIte, Nat.zero_le, Nat.zero_add, Nat.reduceAdd, Nat.reduceSub, Nat.sub_self, List.append_nil, Nat.reduceLeDiff, Bool.false_eq_true, Bool.not_true, Bool.not_false, Bool.true_eq_false, propM, clsM, noX, mkKM, mkVM, strL, methM, o, h]
theorem left_ok {c s t : List Nat} {cs : List (List Nat)} (hc : c ∈ cs) (hs : s.length ≤ 1000) (ha : ∀ x ∈ s, x < 128) (gs : List G) (hg : go gs c s = some t) (mu : Store) : m0_House_left [houseV cs gs, .str c, .str s] mu = .ok (.tup [.str c, .str (stk s []).reverse]) mu := by
  have h : m_House_end [houseV cs gs, .str c, .str s] mu = .ok (.str t) mu := fin_cl0 (hend_ok hc hs gs hg mu) rfl
  have o : objV mu (houseV cs gs) = some (0, [(3, roomsV cs), (4, doorsV gs), (5, .dct (startsD gs)), (6, .dct (goalsD gs))]) := rfl
  have tk := taken_ok s ha hs mu
  generalize houseV cs gs = hv at h o ⊢
  unfold m0_House_left
  refine defK_rt rfl ?_
  unfold b_House_left
  refine (seq_nx (by simp only [seqS, ifS_ap, retS_ap, asgS_ap, exprS_ap, forS_ap, parS_ap, bindS_ap, nextS, orT, andT, notT, tstM, CC.tB, blM, CC.andM, CC.orM, CC.notM, ifM, b2, u1, fA, vM, cM, optR, R.bind, consM, nilM, tupM, lstM, newM, slM, noP, inP, chM, gNameM, gSubM, gFldM, optX, gPc, gTupM, gListM, setAll, oneC, tupC, yesT, itT, itL, itS, itR1, itEnT, callM, isiV, tagOf, truV, sm0, sm1, lmM, dnewM, isNV, List.set, List.length_cons, List.length_nil, List.map_cons, List.map_nil, List.cons_append, List.nil_append, List.append_assoc, List.length_append, List.replicate, List.getElem?_cons_zero, List.getElem?_cons_succ, Option.bind_some, Option.map_some, Option.bind_none, Option.map_none, if_true, if_false, ↓reduceIte, Nat.zero_le, Nat.zero_add, Nat.reduceAdd, Nat.reduceSub, Nat.sub_self, List.append_nil, Nat.reduceLeDiff, Bool.false_eq_true, Bool.not_true, Bool.not_false, Bool.true_eq_false, propM, clsM, noX, mkKM, mkVM, strL, methM, o, h] <;> rfl)).trans ?_
  simp only [seqS, ifS_ap, retS_ap, asgS_ap, exprS_ap, forS_ap, parS_ap, bindS_ap, nextS, orT, andT, notT, tstM, CC.tB, blM, CC.andM, CC.orM, CC.notM, ifM, b2, u1, fA, vM, cM, optR, R.bind, consM, nilM, tupM, lstM, newM, slM, noP, inP, chM, gNameM, gSubM, gFldM, optX, gPc, gTupM, gListM, setAll, oneC, tupC, yesT, itT, itL, itS, itR1, itEnT, callM, isiV, tagOf, truV, sm0, sm1, lmM, dnewM, objV, isNV, List.set, List.length_cons, List.length_nil, List.map_cons, List.map_nil, List.cons_append, List.nil_append, List.append_assoc, List.length_append, List.replicate, List.getElem?_cons_zero, List.getElem?_cons_succ, Option.bind_some, Option.map_some, Option.bind_none, Option.map_none, if_true, if_false, ↓reduceIte, Nat.zero_le, Nat.zero_add, Nat.reduceAdd, Nat.reduceSub, Nat.sub_self, List.append_nil, Nat.reduceLeDiff, Bool.false_eq_true, Bool.not_true, Bool.not_false, Bool.true_eq_false, propM, clsM, noX, mkKM, mkVM, strL, tk]
end K06

set_option Elab.async false
set_option linter.all false
set_option maxRecDepth 100000
set_option maxHeartbeats 1000000
namespace K06
open PySem PySem.Spec PyProof.Rows L2 CC
abbrev dA (n : Nat) : Nat := n - 1
def ShI (s : List Nat) (mu : Store) (n : Nat) (r : Env1) (m : Store) : Prop :=
  ∃ p q : List Nat, r = [some (.str s), some (.str (p.reverse ++ q)), some (.int (p.length - 1 : Nat))] ∧ m = mu ∧ redd p ∧ (p = [] → q = []) ∧ (∀ c ∈ p.reverse ++ q, isL c) ∧ stk (p.reverse ++ q) [] = stk s [] ∧ (p.reverse ++ q).length ≤ 1000 ∧ n = 2 * (p.length + q.length) - (p.length - 1)
noncomputable abbrev shBody : MS := ifS (CC.tB (b2 CC.eqV (b2 ixV (vM 1) (vM 2)) (callM m_L_law_other (consM (b2 ixV (vM 1) (b2 addV (vM 2) (cM (.int 1)))) nilM)))) (parS 1 2 (consM (b2 addV (slM slV (vM 1) noP (inP (vM 2))) (slM slV (vM 1) (inP (b2 addV (vM 2) (cM (.int 2)))) noP)) (consM (fA maxV (consM (cM (.int 0)) (consM (b2 subV (vM 2) (cM (.int 1))) nilM))) nilM))) (asgS (b2 addV (vM 2) (cM (.int 1))) (gNameM 2))
noncomputable abbrev shTest : M Bool := CC.tB (b2 ltV (vM 2) (b2 subV (fA lenV (consM (vM 1) nilM)) (cM (.int 1))))
theorem ix_str {mu : Store} (s : List Nat) (d : Nat) (h : s.length ≤ 100000) : ixV mu (.str s) (.int d) = (s[d]?).map sg := by
  simp only [ixV, dctV, h, if_true, atI_n]
theorem sh_test {s L : List Nat} {a : Nat} {mu : Store} (h : L.length ≤ 1000) : shTest [some (.str s), some (.str L), some (.int a)] mu = .ok (decide ((a : Int) < (L.length : Int) - 1)) mu := by
  have l : lenV mu [.str L] = some (.int L.length) := by
    simp only [lenV]
    rw [if_pos (by omega)]
  simp only [seqS, ifS_ap, retS_ap, asgS_ap, exprS_ap, forS_ap, parS_ap, bindS_ap, nextS, orT, andT, notT, tstM, CC.tB, blM, CC.andM, CC.orM, CC.notM, ifM, b2, u1, fA, vM, cM, optR, R.bind, consM, nilM, tupM, lstM, newM, slM, noP, inP, chM, gNameM, gSubM, gFldM, optX, gPc, gTupM, gListM, setAll, oneC, tupC, yesT, itT, itL, itS, itR1, itEnT, callM, isiV, tagOf, truV, sm0, sm1, lmM, dnewM, objV, isNV, List.set, List.length_cons, List.length_nil, List.map_cons, List.map_nil, List.cons_append, List.nil_append, List.append_assoc, List.length_append, List.replicate, List.getElem?_cons_zero, List.getElem?_cons_succ, Option.bind_some, Option.map_some, Option.bind_none, Option.map_none, if_true, if_false, ↓reduceIte, Nat.zero_le, Nat.zero_add, Nat.reduceAdd, Nat.reduceSub, Nat.sub_self, List.append_nil, Nat.reduceLeDiff, Bool.false_eq_true, Bool.not_true, Bool.not_false, Bool.true_eq_false, propM, clsM, noX, mkKM, mkVM, strL, l, ltV, ordV, subV]
theorem sh_step {s : List Nat} {mu : Store} {n : Nat} {r : Env1} {m : Store} (h : ShI s mu n r m) : (∃ mu1, shTest r m = .ok false mu1 ∧ (r = [some (.str s), some (.str (stk s []).reverse), r.getD 2 none] ∧ mu1 = mu)) ∨ ∃ mu1 r2 mu2, shTest r m = .ok true mu1 ∧ shBody r mu1 = .nx r2 mu2 ∧ ∃ k, k < n ∧ ShI s mu k r2 mu2 := by
  obtain ⟨p, q, rfl, rfl, h1, h2, h3, h4, h5, rfl⟩ := h
  have ht := sh_test (s := s) (a := p.length - 1) (mu := m) h5
  cases q with
  | nil =>
    refine .inl ⟨m, ?_, ?_, rfl⟩
    · rw [ht, decide_eq_false]
      simp
      omega
    · have e : stk p.reverse [] = p := by
        have := stk_id p.reverse [] (by simpa using h1)
        simpa using this
      simp only [List.append_nil] at h4 ⊢
      rw [← h4, e]
      rfl
  | cons y q =>
    cases p with
    | nil => cases h2 rfl
    | cons x p =>
      refine .inr ⟨m, ?_⟩
      have hx : isL x := h3 x (by simp)
      have hy : isL y := h3 y (by simp)
      have tt : shTest [some (.str s), some (.str ((x :: p).reverse ++ y :: q)), some (.int ((x :: p).length - 1 : Nat))] m = .ok true m := by
        rw [ht, decide_eq_true]
        simp
        omega
      have hl : ((x :: p).reverse ++ y :: q).length ≤ 100000 := by omega
      have hn : (x :: p).length - 1 = p.length := by simp
      have i1 : ixV m (.str ((x :: p).reverse ++ y :: q)) (.int p.length) = some (sg x) := by
        rw [ix_str _ _ hl]
        simp [List.getElem?_append]
      have i2 : ixV m (.str ((x :: p).reverse ++ y :: q)) (.int ((p.length : Int) + 1)) = some (sg y) := by
        rw [show (p.length : Int) + 1 = ((p.length + 1 : Nat) : Int) by omega, ix_str _ _ hl]
        simp [List.getElem?_append_right]
      have ot := other_ok hy m
      have eq : CC.eqV m (.str [x]) (.str [sw1 y]) = some (.bl (decide ([x] = [sw1 y]))) := plS.eqV (by decide) [x] [sw1 y]
      have a1 : addV m (.int p.length) (.int 1) = some (.int ((p.length : Int) + 1)) := rfl
      have a2 : addV m (.int p.length) (.int 2) = some (.int ((p.length : Int) + 2)) := rfl
      have sb : subV m (.int p.length) (.int 1) = some (.int ((p.length : Int) - 1)) := rfl
      have s1 : slV m (.str ((x :: p).reverse ++ y :: q)) none (some (p.length : Int)) = some (.str p.reverse) := by
        simp only [slV, hl, if_true, cut_fore]
        simp [List.take_append]
      have s2 : slV m (.str ((x :: p).reverse ++ y :: q)) (some ((p.length : Int) + 2)) none = some (.str q) := by
        rw [show (p.length : Int) + 2 = ((p.length + 2 : Nat) : Int) by omega]
        simp only [slV, hl, if_true, cut_hind]
        simp [List.drop_append]
      have l2 : p.reverse.length + q.length ≤ 100000 := by
        simp at hl ⊢
        omega
      have ad : addV m (.str p.reverse) (.str q) = some (.str (p.reverse ++ q)) := by
        simp only [addV]
        rw [if_pos l2]
      have mx : maxV m [.int 0, .int ((p.length : Int) - 1)] = some (.int (p.length - 1 : Nat)) := by
        simp only [maxV]
        by_cases c : (p.length : Int) - 1 > 0
        · rw [if_pos c]; congr 2; omega
        · rw [if_neg c]; congr 2; omega
      rw [hn] at tt ⊢
      generalize hL : (x :: p).reverse ++ y :: q = L at *
      by_cases e : x = sw1 y
      · rw [decide_eq_true (by rw [e])] at eq
        have body : shBody [some (.str s), some (.str L), some (.int p.length)] m = .nx [some (.str s), some (.str (p.reverse ++ q)), some (.int (p.length - 1 : Nat))] m := by
          simp only [seqS, ifS_ap, retS_ap, asgS_ap, exprS_ap, forS_ap, parS_ap, bindS_ap, nextS, orT, andT, notT, tstM, CC.tB, blM, CC.andM, CC.orM, CC.notM, ifM, b2, u1, fA, vM, cM, optR, R.bind, consM, nilM, tupM, lstM, newM, slM, noP, inP, chM, gNameM, gSubM, gFldM, optX, gPc, gTupM, gListM, setAll, oneC, tupC, yesT, itT, itL, itS, itR1, itEnT, callM, isiV, tagOf, truV, sm0, sm1, lmM, dnewM, objV, isNV, List.set, List.length_cons, List.length_nil, List.map_cons, List.map_nil, List.cons_append, List.nil_append, List.append_assoc, List.length_append, List.replicate, List.getElem?_cons_zero, List.getElem?_cons_succ, Option.bind_some, Option.map_some, Option.bind_none, Option.map_none, if_true, if_false, ↓reduceIte, Nat.zero_le, Nat.zero_add, Nat.reduceAdd, Nat.reduceSub, Nat.sub_self, List.append_nil, Nat.reduceLeDiff, Bool.false_eq_true, Bool.not_true, Bool.not_false, Bool.true_eq_false, propM, clsM, noX, mkKM, mkVM, strL, i1, i2, ot, eq, a1, a2, sb, s1, s2, ad, mx]
        refine ⟨_, _, tt, body, ?_⟩
        have lay : ((x :: p).reverse ++ y :: q) = p.reverse ++ x :: sw1 x :: q := by
          rw [e, sw_sw hy]
          simp
        have st : stk (p.reverse ++ q) [] = stk s [] := by
          rw [← h4, ← hL, lay]
          exact (stk_out p.reverse q hx).symm
        have lt : ∀ c ∈ p.reverse ++ q, isL c := fun c hc => h3 c (by
          rw [← hL, lay]
          rcases List.mem_append.mp hc with hc | hc
          · exact List.mem_append_left _ hc
          · exact List.mem_append_right _ (by simp [hc]))
        have len : (p.reverse ++ q).length + 2 = L.length := by
          rw [← hL]
          simp
          omega
        have le : (p.reverse ++ q).length ≤ 1000 := by omega
        cases p with
        | nil =>
          cases q with
          | nil => exact ⟨0, by simp, [], [], rfl, rfl, trivial, fun _ => rfl, lt, st, le, rfl⟩
          | cons z q => exact ⟨_, by simp; omega, [z], q, rfl, rfl, trivial, (fun h => by cases h), lt, st, le, rfl⟩
        | cons w p => exact ⟨_, by simp; omega, w :: p, q, rfl, rfl, redd_tail h1, (fun h => by cases h), lt, st, le, rfl⟩
      · rw [decide_eq_false (fun z => e (List.singleton_inj.mp z))] at eq
        have body : shBody [some (.str s), some (.str L), some (.int p.length)] m = .nx [some (.str s), some (.str L), some (.int ((p.length : Int) + 1))] m := by
          simp only [seqS, ifS_ap, retS_ap, asgS_ap, exprS_ap, forS_ap, parS_ap, bindS_ap, nextS, orT, andT, notT, tstM, CC.tB, blM, CC.andM, CC.orM, CC.notM, ifM, b2, u1, fA, vM, cM, optR, R.bind, consM, nilM, tupM, lstM, newM, slM, noP, inP, chM, gNameM, gSubM, gFldM, optX, gPc, gTupM, gListM, setAll, oneC, tupC, yesT, itT, itL, itS, itR1, itEnT, callM, isiV, tagOf, truV, sm0, sm1, lmM, dnewM, objV, isNV, List.set, List.length_cons, List.length_nil, List.map_cons, List.map_nil, List.cons_append, List.nil_append, List.append_assoc, List.length_append, List.replicate, List.getElem?_cons_zero, List.getElem?_cons_succ, Option.bind_some, Option.map_some, Option.bind_none, Option.map_none, if_true, if_false, ↓reduceIte, Nat.zero_le, Nat.zero_add, Nat.reduceAdd, Nat.reduceSub, Nat.sub_self, List.append_nil, Nat.reduceLeDiff, Bool.false_eq_true, Bool.not_true, Bool.not_false, Bool.true_eq_false, propM, clsM, noX, mkKM, mkVM, strL, i1, i2, ot, eq, a1]
        have lay : (y :: x :: p).reverse ++ q = L := by
          rw [← hL]
          simp
        refine ⟨_, _, tt, body, _, ?_, y :: x :: p, q, by rw [lay]; rfl, rfl, ⟨e, h1⟩, (fun h => by cases h), by rw [lay]; exact h3, by rw [lay]; exact h4, by rw [lay]; exact h5, rfl⟩
        simp
        omega
theorem short_ok (s : List Nat) (hs : ∀ c ∈ s, isL c) (hl : s.length ≤ 1000) (mu : Store) : m_L_law_short [.str s] mu = .ok (.str (stk s []).reverse) mu := by
  refine fin_cl0 ?_ rfl
  unfold m0_L_law_short
  refine defK_rt rfl ?_
  unfold b_L_law_short
  refine (seq_nx (by simp only [seqS, ifS_ap, retS_ap, asgS_ap, exprS_ap, forS_ap, parS_ap, bindS_ap, nextS, orT, andT, notT, tstM, CC.tB, blM, CC.andM, CC.orM, CC.notM, ifM, b2, u1, fA, vM, cM, optR, R.bind, consM, nilM, tupM, lstM, newM, slM, noP, inP, chM, gNameM, gSubM, gFldM, optX, gPc, gTupM, gListM, setAll, oneC, tupC, yesT, itT, itL, itS, itR1, itEnT, callM, isiV, tagOf, truV, sm0, sm1, lmM, dnewM, objV, isNV, List.set, List.length_cons, List.length_nil, List.map_cons, List.map_nil, List.cons_append, List.nil_append, List.append_assoc, List.length_append, List.replicate, List.getElem?_cons_zero, List.getElem?_cons_succ, Option.bind_some, Option.map_some, Option.bind_none, Option.map_none, if_true, if_false, ↓reduceIte, Nat.zero_le, Nat.zero_add, Nat.reduceAdd, Nat.reduceSub, Nat.sub_self, List.append_nil, Nat.reduceLeDiff, Bool.false_eq_true, Bool.not_true, Bool.not_false, Bool.true_eq_false, propM, clsM, noX, mkKM, mkVM, strL] <;> rfl)).trans ?_
  have st : ShI s mu (2 * s.length - (if s = [] then 0 else 0)) [some (.str s), some (.str s), some (.int 0)] mu := by
    cases s with
    | nil => exact ⟨[], [], rfl, rfl, trivial, fun _ => rfl, hs, rfl, hl, rfl⟩
    | cons x s => exact ⟨[x], s, rfl, rfl, trivial, (fun h => by cases h), hs, rfl, hl, by simp; omega⟩
  obtain ⟨r', mu', e, e1, e2⟩ := while_by (c := shTest) (body := shBody) (ShI s mu) (I := fun r m => r = [some (.str s), some (.str (stk s []).reverse), r.getD 2 none] ∧ m = mu) (fun n r m h => sh_step h) fuelW _ _ _ (by simp only [fuelW]; split <;> omega) st
  refine (seq_nx e).trans ?_
  rw [e1, e2]
  simp only [seqS, ifS_ap, retS_ap, asgS_ap, exprS_ap, forS_ap, parS_ap, bindS_ap, nextS, orT, andT, notT, tstM, CC.tB, blM, CC.andM, CC.orM, CC.notM, ifM, b2, u1, fA, vM, cM, optR, R.bind, consM, nilM, tupM, lstM, newM, slM, noP, inP, chM, gNameM, gSubM, gFldM, optX, gPc, gTupM, gListM, setAll, oneC, tupC, yesT, itT, itL, itS, itR1, itEnT, callM, isiV, tagOf, truV, sm0, sm1, lmM, dnewM, objV, isNV, List.set, List.length_cons, List.length_nil, List.map_cons, List.map_nil, List.cons_append, List.nil_append, List.append_assoc, List.length_append, List.replicate, List.getElem?_cons_zero, List.getElem?_cons_succ, Option.bind_some, Option.map_some, Option.bind_none, Option.map_none, if_true, if_false, ↓reduceIte, Nat.zero_le, Nat.zero_add, Nat.reduceAdd, Nat.reduceSub, Nat.sub_self, List.append_nil, Nat.reduceLeDiff, Bool.false_eq_true, Bool.not_true, Bool.not_false, Bool.true_eq_false, propM, clsM, noX, mkKM, mkVM, strL]
end K06

set_option Elab.async false
set_option linter.all false
set_option maxRecDepth 100000
set_option maxHeartbeats 1000000
namespace K06
open PySem PySem.Spec PyProof.Rows L2 CC
def keyN (q : DKey × Val) : List Nat := match q.1 with
  | .str s => s
  | _ => []
theorem lets_L {c : Nat} (h : c ∈ lets) : isL c := by
  have a : ∀ c ∈ lets, 97 ≤ c ∧ c ≤ 122 := by decide +kernel
  exact .inr (a c h)
theorem up_L {c : Nat} (h : c ∈ lets) : isL (up1 c) := by
  have a : ∀ c ∈ lets, 65 ≤ up1 c ∧ up1 c ≤ 90 := by decide +kernel
  exact .inl (a c h)
theorem mem_put {k : DKey} {v : Val} {d : List (DKey × Val)} {q : DKey × Val} (h : q ∈ putD k v d) : q.1 = k ∨ ∃ y, (q.1, y) ∈ d := by
  unfold putD at h
  by_cases e : (d.any fun p => decide (p.1 = k)) = true
  · rw [if_pos e] at h
    obtain ⟨p, hp, rfl⟩ := List.mem_map.mp h
    by_cases e1 : p.1 = k
    · left
      rw [if_pos e1]
      exact e1
    · right
      rw [if_neg e1]
      exact ⟨p.2, hp⟩
  · rw [if_neg e] at h
    rcases List.mem_append.mp h with h | h
    · exact .inr ⟨q.2, h⟩
    · rw [List.mem_singleton.mp h]
      exact .inl rfl
theorem dk_keys (f1 f2 : G → Val) (gs : List G) (hg : ∀ g ∈ gs, g.1 ∈ lets) : ∀ q ∈ dk f1 f2 gs, ∃ c, q.1 = .str [c] ∧ isL c := by
  have gen : ∀ (gs : List G) (d : List (DKey × Val)), (∀ g ∈ gs, g.1 ∈ lets) → (∀ q ∈ d, ∃ c, q.1 = .str [c] ∧ isL c) → ∀ q ∈ gs.foldl (fun d g => putD (.str [up1 g.1]) (f2 g) (putD (.str [g.1]) (f1 g) d)) d, ∃ c, q.1 = .str [c] ∧ isL c := by
    intro gs
    induction gs with
    | nil => intro d _ h; exact h
    | cons g gs ih =>
      intro d hg h
      rw [List.foldl_cons]
      refine ih _ (fun x hx => hg x (List.mem_cons_of_mem _ hx)) fun q hq => ?_
      have hgm := hg g List.mem_cons_self
      rcases mem_put hq with e | ⟨y, hy⟩
      · exact ⟨_, e, up_L hgm⟩
      · rcases mem_put hy with e | ⟨z, hz⟩
        · exact ⟨_, e, lets_L hgm⟩
        · have := h (q.1, z) hz
          exact this
  exact gen gs [] hg (fun q hq => by cases hq)
theorem keys_all (d : List (DKey × Val)) (h : ∀ q ∈ d, ∃ c, q.1 = .str [c] ∧ isL c) : mapO keyS d = some (d.map keyN) := by
  refine mapO_some fun q hq => ?_
  obtain ⟨c, e, _⟩ := h q hq
  obtain ⟨k, v⟩ := q
  cases e
  rfl
theorem ins_mem {x y : List Nat} : ∀ {l : List (List Nat)}, y ∈ insS x l → y = x ∨ y ∈ l
  | [], h => by simp [insS] at h; exact .inl h
  | z :: l, h => by
    unfold insS at h
    split at h
    · rcases List.mem_cons.mp h with h | h
      · exact .inr (by simp [h])
      · rcases ins_mem h with h | h
        · exact .inl h
        · exact .inr (List.mem_cons_of_mem _ h)
    · rcases List.mem_cons.mp h with h | h
      · exact .inl h
      · exact .inr h
theorem sort_mem {y : List Nat} : ∀ {l : List (List Nat)}, y ∈ sortS l → y ∈ l
  | [], h => h
  | z :: l, h => by
    rcases ins_mem (show y ∈ insS z (sortS l) from h) with h | h
    · simp [h]
    · exact List.mem_cons_of_mem _ (sort_mem h)
theorem ins_len (x : List Nat) : ∀ l : List (List Nat), (insS x l).length = l.length + 1
  | [] => rfl
  | z :: l => by
    unfold insS
    split
    · simp [ins_len x l]
    · rfl
theorem sort_len : ∀ l : List (List Nat), (sortS l).length = l.length
  | [] => rfl
  | z :: l => by
    show (insS z (sortS l)).length = _
    rw [ins_len, sort_len l]
    rfl
def waysK (gs : List G) : List (List Nat) := sortS ((dk w1 w2 gs).map keyN)
theorem sorted_ways {cs : List (List Nat)} {gs : List G} (h : doorsB cs gs) (mu : Store) : sortedV mu [.dct (dk w1 w2 gs)] = some (.lst ((waysK gs).map .str)) ∧ (waysK gs).length ≤ 10 ∧ ∀ k ∈ waysK gs, ∃ c, k = [c] ∧ isL c ∧ ∃ p, fnd gs [c] = some p := by
  have hk := dk_keys w1 w2 gs fun g hg => (h.2.2.2 g hg).1
  have l1 := dk_len w1 w2 gs
  have l2 := h.2.1
  refine ⟨?_, by rw [waysK, sort_len, List.length_map]; omega, fun k hm => ?_⟩
  · simp only [sortedV, seqL, dctV, keys_all _ hk]
    rw [if_pos (by rw [List.length_map]; omega)]
    rfl
  · obtain ⟨q, hq, rfl⟩ := List.mem_map.mp (sort_mem hm)
    obtain ⟨c, e, hc⟩ := hk q hq
    refine ⟨c, by unfold keyN; rw [e], hc, ?_⟩
    have lw := way_look gs [c]
    cases f : fnd gs [c] with
    | some p => exact ⟨p, rfl⟩
    | none =>
      rw [f, Option.map_none] at lw
      have : ∀ (d : List (DKey × Val)), d.lookup (.str [c]) = none → ∀ q ∈ d, q.1 ≠ .str [c] := fun d hd q hq e => by
        have := List.lookup_eq_none_iff.mp hd q hq
        simp [e] at this
      exact absurd e (this _ lw q hq)
end K06

set_option Elab.async false
set_option linter.all false
set_option maxRecDepth 100000
set_option maxHeartbeats 1000000
namespace K06
open PySem PySem.Spec PyProof.Rows L2 CC
noncomputable abbrev wfBody : MS := (seqS (asgS (lcM (itL (fA sortedV (consM (vM 1) nilM))) [8] oneC (CC.tB (b2 CC.eqV (b2 ixV (b2 ixV (vM 1) (vM 8)) (cM (.int 0))) (vM 4))) (vM 8) [8]) (gNameM 7))
    (ifS (CC.tB (b2 CC.neV (vM 7) (lstM nilM))) (seqS (asgS (callM m_L_law_one (consM (vM 0) (consM (vM 7) nilM))) (gNameM 8))
    (asgS (tupM (consM (b2 ixV (b2 ixV (vM 1) (vM 8)) (cM (.int 1))) (consM (b2 addV (vM 5) (vM 8)) nilM))) (gPc [4, 5] (tupC 2)))) nextS))
def begs (gs : List G) (here k : List Nat) : Bool := match fnd gs k with
  | some p => decide (frm p = here)
  | none => false
theorem way_ix (gs : List G) (m : Store) (k : List Nat) {p : Bool × G} (h : fnd gs k = some p) : ixV m (.dct (dk w1 w2 gs)) (.str k) = some (.tup [.str (frm p), .str (too p)]) := by
  have e : CC.keyOf (.str k) = some (.str k) := rfl
  simp only [ixV, dctV, e, way_look, h, Option.map_some]
def signsOf (gs : List G) (here : List Nat) : List (List Nat) := (waysK gs).filter (begs gs here)
theorem lc_signs {cs : List (List Nat)} {gs : List G} (h : doorsB cs gs) (m : Store) (w : Nat) (here tread : List Nat) (a2 a3 a6 a7 a8 : Option Val) :
    lcM (itL (fA sortedV (consM (vM 1) nilM))) [8] oneC (CC.tB (b2 CC.eqV (b2 ixV (b2 ixV (vM 1) (vM 8)) (cM (.int 0))) (vM 4))) (vM 8) [8] [some (.ref w), some (.dct (dk w1 w2 gs)), a2, a3, some (.str here), some (.str tread), a6, a7, a8] m = .ok (.lst ((signsOf gs here).map .str)) m := by
  obtain ⟨e1, e2, e3⟩ := sorted_ways h m
  have hi : itL (fA sortedV (consM (vM 1) nilM)) [some (.ref w), some (.dct (dk w1 w2 gs)), a2, a3, some (.str here), some (.str tread), a6, a7, a8] m = .ok ((waysK gs).map .str, allOk) m := by
    generalize dk w1 w2 gs = D at e1 ⊢
    simp only [seqS, ifS_ap, retS_ap, asgS_ap, exprS_ap, forS_ap, parS_ap, bindS_ap, nextS, orT, andT, notT, tstM, CC.tB, blM, CC.andM, CC.orM, CC.notM, ifM, b2, u1, fA, vM, cM, optR, R.bind, consM, nilM, tupM, lstM, newM, slM, noP, inP, chM, gNameM, gSubM, gFldM, optX, gPc, gTupM, gListM, setAll, oneC, tupC, yesT, itT, itL, itS, itR1, itEnT, callM, isiV, tagOf, truV, sm0, sm1, lmM, dnewM, objV, isNV, List.set, List.length_cons, List.length_nil, List.map_cons, List.map_nil, List.cons_append, List.nil_append, List.append_assoc, List.length_append, List.replicate, List.getElem?_cons_zero, List.getElem?_cons_succ, Option.bind_some, Option.map_some, Option.bind_none, Option.map_none, if_true, if_false, ↓reduceIte, Nat.zero_le, Nat.zero_add, Nat.reduceAdd, Nat.reduceSub, Nat.sub_self, List.append_nil, Nat.reduceLeDiff, Bool.false_eq_true, Bool.not_true, Bool.not_false, Bool.true_eq_false, propM, clsM, noX, mkKM, mkVM, strL, e1]
  have r := lcM_ok hi (by rw [List.length_map]; omega) (lcL_fm (is := [8]) (f := oneC) (t := CC.tB (b2 CC.eqV (b2 ixV (b2 ixV (vM 1) (vM 8)) (cM (.int 0))) (vM 4))) (e := vM 8) (vs := [8]) (r := [some (.ref w), some (.dct (dk w1 w2 gs)), a2, a3, some (.str here), some (.str tread), a6, a7, a8]) (mu := m) (show allOk m from trivial) Val.str (fun k => if begs gs here k = true then some (.str k) else none) (waysK gs) fun y hy => ?_)
  · rw [r]
    congr 2
    unfold signsOf
    generalize waysK gs = L
    induction L with
    | nil => rfl
    | cons k L ih =>
      cases b : begs gs here k with
      | true => rw [List.filterMap_cons_some (by rw [b]; rfl), List.filter_cons_of_pos b, List.map_cons, ih]
      | false => rw [List.filterMap_cons_none (by rw [b]; rfl), List.filter_cons_of_neg (by rw [b]; decide), ih]
  · obtain ⟨c, rfl, hc, p, hp⟩ := e3 y hy
    have ix := way_ix gs m [c] hp
    have i0 : ixV m (.tup [.str (frm p), .str (too p)]) (.int 0) = some (.str (frm p)) := ix_tup0 _ _
    have eq : CC.eqV m (.str (frm p)) (.str here) = some (.bl (decide (frm p = here))) := plS.eqV (by decide) (frm p) here
    have bg : begs gs here [c] = decide (frm p = here) := by simp only [begs, hp]
    rw [bg]
    generalize dk w1 w2 gs = D at ix ⊢
    refine ⟨[.str [c]], rfl, ?_⟩
    by_cases b : frm p = here
    · right
      rw [decide_eq_true b] at eq ⊢
      refine ⟨by simp only [seqS, ifS_ap, retS_ap, asgS_ap, exprS_ap, forS_ap, parS_ap, bindS_ap, nextS, orT, andT, notT, tstM, CC.tB, blM, CC.andM, CC.orM, CC.notM, ifM, b2, u1, fA, vM, cM, optR, R.bind, consM, nilM, tupM, lstM, newM, slM, noP, inP, chM, gNameM, gSubM, gFldM, optX, gPc, gTupM, gListM, setAll, oneC, tupC, yesT, itT, itL, itS, itR1, itEnT, callM, isiV, tagOf, truV, sm0, sm1, lmM, dnewM, objV, isNV, List.set, List.length_cons, List.length_nil, List.map_cons, List.map_nil, List.cons_append, List.nil_append, List.append_assoc, List.length_append, List.replicate, List.getElem?_cons_zero, List.getElem?_cons_succ, Option.bind_some, Option.map_some, Option.bind_none, Option.map_none, if_true, if_false, ↓reduceIte, Nat.zero_le, Nat.zero_add, Nat.reduceAdd, Nat.reduceSub, Nat.sub_self, List.append_nil, Nat.reduceLeDiff, Bool.false_eq_true, Bool.not_true, Bool.not_false, Bool.true_eq_false, propM, clsM, noX, mkKM, mkVM, strL, wipeE, ix, i0, eq], .str [c], by simp only [seqS, ifS_ap, retS_ap, asgS_ap, exprS_ap, forS_ap, parS_ap, bindS_ap, nextS, orT, andT, notT, tstM, CC.tB, blM, CC.andM, CC.orM, CC.notM, ifM, b2, u1, fA, vM, cM, optR, R.bind, consM, nilM, tupM, lstM, newM, slM, noP, inP, chM, gNameM, gSubM, gFldM, optX, gPc, gTupM, gListM, setAll, oneC, tupC, yesT, itT, itL, itS, itR1, itEnT, callM, isiV, tagOf, truV, sm0, sm1, lmM, dnewM, objV, isNV, List.set, List.length_cons, List.length_nil, List.map_cons, List.map_nil, List.cons_append, List.nil_append, List.append_assoc, List.length_append, List.replicate, List.getElem?_cons_zero, List.getElem?_cons_succ, Option.bind_some, Option.map_some, Option.bind_none, Option.map_none, if_true, if_false, ↓reduceIte, Nat.zero_le, Nat.zero_add, Nat.reduceAdd, Nat.reduceSub, Nat.sub_self, List.append_nil, Nat.reduceLeDiff, Bool.false_eq_true, Bool.not_true, Bool.not_false, Bool.true_eq_false, propM, clsM, noX, mkKM, mkVM, strL, wipeE], rfl⟩
    · left
      rw [decide_eq_false b] at eq ⊢
      exact ⟨by simp only [seqS, ifS_ap, retS_ap, asgS_ap, exprS_ap, forS_ap, parS_ap, bindS_ap, nextS, orT, andT, notT, tstM, CC.tB, blM, CC.andM, CC.orM, CC.notM, ifM, b2, u1, fA, vM, cM, optR, R.bind, consM, nilM, tupM, lstM, newM, slM, noP, inP, chM, gNameM, gSubM, gFldM, optX, gPc, gTupM, gListM, setAll, oneC, tupC, yesT, itT, itL, itS, itR1, itEnT, callM, isiV, tagOf, truV, sm0, sm1, lmM, dnewM, objV, isNV, List.set, List.length_cons, List.length_nil, List.map_cons, List.map_nil, List.cons_append, List.nil_append, List.append_assoc, List.length_append, List.replicate, List.getElem?_cons_zero, List.getElem?_cons_succ, Option.bind_some, Option.map_some, Option.bind_none, Option.map_none, if_true, if_false, ↓reduceIte, Nat.zero_le, Nat.zero_add, Nat.reduceAdd, Nat.reduceSub, Nat.sub_self, List.append_nil, Nat.reduceLeDiff, Bool.false_eq_true, Bool.not_true, Bool.not_false, Bool.true_eq_false, propM, clsM, noX, mkKM, mkVM, strL, wipeE, ix, i0, eq], rfl⟩
theorem ne_lst {m : Store} (L : List (List Nat)) : CC.neV m (.lst (L.map .str)) (.lst []) = some (.bl (!decide (L = []))) := (plLst plS).neV (mu := m) (by decide) L []
theorem str_at (L : List (List Nat)) (m : Store) (d : Nat) (h : d < L.length) : ixV m (.lst (L.map .str)) (.int d) = some (.str L[d]) := by
  rw [ix_lst, List.getElem?_map, List.getElem?_eq_getElem h]
  rfl
theorem wf_turn {cs : List (List Nat)} {gs : List G} (h : doorsB cs gs) {w : Nat} {m : Store} (hw : Well w m) {here tread : List Nat} (ht : ∀ c ∈ tread, isL c) (hl : tread.length ≤ 100) (hh : here ∈ cs) (a2 a3 a6 a7 a8 : Option Val) :
    ∃ here' tread' b7 b8 m', wfBody [some (.ref w), some (.dct (dk w1 w2 gs)), a2, a3, some (.str here), some (.str tread), a6, a7, a8] m = .nx [some (.ref w), some (.dct (dk w1 w2 gs)), a2, a3, some (.str here'), some (.str tread'), a6, b7, b8] m' ∧ here' ∈ cs ∧ (∀ c ∈ tread', isL c) ∧ tread'.length ≤ tread.length + 1 ∧ Dip w m m' ∧ ∃ x, tread' = tread ++ x ∧ go gs here x = some here' := by
  have lc := lc_signs h m w here tread a2 a3 a6 a7 a8
  have ne := ne_lst (m := m) (signsOf gs here)
  obtain ⟨e1, e2, e3⟩ := sorted_ways h m
  by_cases z : signsOf gs here = []
  · rw [decide_eq_true z] at ne
    refine ⟨here, tread, some (.lst ((signsOf gs here).map .str)), a8, m, ?_, hh, ht, by omega, Dip.refl hw, [], by simp, rfl⟩
    generalize dk w1 w2 gs = D at lc ⊢
    generalize (signsOf gs here).map Val.str = L at lc ne ⊢
    simp only [seqS, ifS_ap, retS_ap, asgS_ap, exprS_ap, forS_ap, parS_ap, bindS_ap, nextS, orT, andT, notT, tstM, CC.tB, blM, CC.andM, CC.orM, CC.notM, ifM, b2, u1, fA, vM, cM, optR, R.bind, consM, nilM, tupM, lstM, newM, slM, noP, inP, chM, gNameM, gSubM, gFldM, optX, gPc, gTupM, gListM, setAll, oneC, tupC, yesT, itT, itL, itS, itR1, itEnT, callM, isiV, tagOf, truV, sm0, sm1, lmM, dnewM, objV, isNV, List.set, List.length_cons, List.length_nil, List.map_cons, List.map_nil, List.cons_append, List.nil_append, List.append_assoc, List.length_append, List.replicate, List.getElem?_cons_zero, List.getElem?_cons_succ, Option.bind_some, Option.map_some, Option.bind_none, Option.map_none, if_true, if_false, ↓reduceIte, Nat.zero_le, Nat.zero_add, Nat.reduceAdd, Nat.reduceSub, Nat.sub_self, List.append_nil, Nat.reduceLeDiff, Bool.false_eq_true, Bool.not_true, Bool.not_false, Bool.true_eq_false, propM, clsM, noX, mkKM, mkVM, strL, lc, ne]
  · rw [decide_eq_false z] at ne
    have hlen : 0 < (signsOf gs here).length := List.length_pos_iff.mpr z
    have hlen2 : (signsOf gs here).length ≤ 10 := Nat.le_trans (List.length_filter_le _ _) e2
    obtain ⟨v, pd, m', o1, -, ⟨c, rfl, hc, p, hp, hf⟩, D⟩ := one_ok (V := .lst ((signsOf gs here).map .str)) (n := (signsOf gs here).length) hw hlen (by omega) (fun m => by rw [len_lst, List.length_map]) (fun v => ∃ c, v = .str [c] ∧ isL c ∧ ∃ p, fnd gs [c] = some p ∧ frm p = here) fun m d hd => by
      have hm := List.getElem_mem hd
      obtain ⟨q1, q2⟩ := List.mem_filter.mp hm
      obtain ⟨c, q3, q4, p, q5⟩ := e3 _ q1
      refine ⟨_, _, str_at _ m d hd, toD_str 30 _, c, by rw [q3], q4, p, q5, ?_⟩
      rw [q3] at q2
      simpa only [begs, q5, decide_eq_true_eq] using q2
    have ix := way_ix gs m' [c] hp
    have i1 : ixV m' (.tup [.str (frm p), .str (too p)]) (.int 1) = some (.str (too p)) := ix_tup1 _ _ _
    have ad : addV m' (.str tread) (.str [c]) = some (.str (tread ++ [c])) := by
      simp only [addV]
      rw [if_pos (by simp; omega)]
    refine ⟨too p, tread ++ [c], some (.lst ((signsOf gs here).map .str)), some (.str [c]), m', ?_, ?_, ?_, by simp, D, [c], rfl, by simp only [go, hp, hf, if_true]⟩
    · generalize dk w1 w2 gs = D at lc ix ⊢
      generalize (signsOf gs here).map Val.str = L at lc ne o1 ⊢
      simp only [seqS, ifS_ap, retS_ap, asgS_ap, exprS_ap, forS_ap, parS_ap, bindS_ap, nextS, orT, andT, notT, tstM, CC.tB, blM, CC.andM, CC.orM, CC.notM, ifM, b2, u1, fA, vM, cM, optR, R.bind, consM, nilM, tupM, lstM, newM, slM, noP, inP, chM, gNameM, gSubM, gFldM, optX, gPc, gTupM, gListM, setAll, oneC, tupC, yesT, itT, itL, itS, itR1, itEnT, callM, isiV, tagOf, truV, sm0, sm1, lmM, dnewM, objV, isNV, List.set, List.length_cons, List.length_nil, List.map_cons, List.map_nil, List.cons_append, List.nil_append, List.append_assoc, List.length_append, List.replicate, List.getElem?_cons_zero, List.getElem?_cons_succ, Option.bind_some, Option.map_some, Option.bind_none, Option.map_none, if_true, if_false, ↓reduceIte, Nat.zero_le, Nat.zero_add, Nat.reduceAdd, Nat.reduceSub, Nat.sub_self, List.append_nil, Nat.reduceLeDiff, Bool.false_eq_true, Bool.not_true, Bool.not_false, Bool.true_eq_false, propM, clsM, noX, mkKM, mkVM, strL, lc, ne, o1, ix, i1, ad]
    · have mem : ∀ (gs : List G) (acc : Option (Bool × G)) (P : Bool × G → Prop), (∀ p, acc = some p → P p) → (∀ g ∈ gs, P (true, g) ∧ P (false, g)) → ∀ p, gs.foldl (fun acc g => if [c] = [up1 g.1] then some (true, g) else if [c] = [g.1] then some (false, g) else acc) acc = some p → P p := by
        intro gs
        induction gs with
        | nil => intro acc P h1 _ p hp; exact h1 p hp
        | cons g gs ih =>
          intro acc P h1 h2 p hp
          rw [List.foldl_cons] at hp
          refine ih _ P (fun q hq => ?_) (fun x hx => h2 x (List.mem_cons_of_mem _ hx)) p hp
          have hg := h2 g List.mem_cons_self
          split at hq
          · cases hq; exact hg.1
          · split at hq
            · cases hq; exact hg.2
            · exact h1 q hq
      exact mem gs none (fun p => too p ∈ cs) (fun p hp => by cases hp) (fun g hg => ⟨(h.2.2.2 g hg).2.1, (h.2.2.2 g hg).2.2⟩) p hp
    · intro x hx
      rcases List.mem_append.mp hx with hx | hx
      · exact ht x hx
      · rw [List.mem_singleton.mp hx]; exact hc
theorem go_app (gs : List G) : ∀ (s t : List Nat) (here mid : List Nat), go gs here s = some mid → go gs here (s ++ t) = go gs mid t
  | [], t, here, mid, h => by cases h; rfl
  | c :: s, t, here, mid, h => by
    simp only [List.cons_append, go] at h ⊢
    split at h
    · split at h
      · rename_i e
        rw [if_pos e]
        exact go_app gs s t _ _ h
      · cases h
    · cases h
theorem walk_ok {cs : List (List Nat)} {gs : List G} (h : doorsB cs gs) {w : Nat} {mu : Store} (hw : Well w mu) {cell : List Nat} (hc : cell ∈ cs) {size : Nat} (hs : size ≤ 50) :
    ∃ s t mu', m_L_law_walk_from [.ref w, .dct (dk w1 w2 gs), .str cell, .int size] mu = .ok (.str s) mu' ∧ (∀ c ∈ s, isL c) ∧ s.length ≤ size ∧ go gs cell s = some t ∧ t ∈ cs ∧ Dip w mu mu' := by
  obtain ⟨d, m1, e1, e2, D1⟩ := dip_ok (n := size + 1) hw (by omega) (by omega)
  have loop := for_ex (mi := itR1 (consM (callM m_L_law_dip (consM (vM 0) (consM (b2 addV (vM 3) (cM (.int 1))) nilM))) nilM)) (g := gNameM 6) (body := wfBody) (r := [some (.ref w), some (.dct (dk w1 w2 gs)), some (.str cell), some (.int size), some (.str cell), some (.str []), none, none, none]) (mu := mu) (xs := rngL 0 d) (ok := allOk) (mu0 := m1)
    (fun i r' m' => ∃ here tread a6 a7 a8, r' = [some (.ref w), some (.dct (dk w1 w2 gs)), some (.str cell), some (.int size), some (.str here), some (.str tread), a6, a7, a8] ∧ here ∈ cs ∧ (∀ c ∈ tread, isL c) ∧ tread.length ≤ i ∧ i ≤ d ∧ Dip w mu m' ∧ go gs cell tread = some here)
    (I := fun r' m' => ∃ here tread a6 a7 a8, r' = [some (.ref w), some (.dct (dk w1 w2 gs)), some (.str cell), some (.int size), some (.str here), some (.str tread), a6, a7, a8] ∧ here ∈ cs ∧ (∀ c ∈ tread, isL c) ∧ tread.length ≤ d ∧ Dip w mu m' ∧ go gs cell tread = some here)
    (by
      have e1' : m_L_law_dip [.ref w, .int ((size : Int) + 1)] mu = .ok (.int d) m1 := e1
      generalize dk w1 w2 gs = D
      have n1 : (d : Int).natAbs < 1000000000 := by omega
      have n2 : (d : Int).toNat = d := by omega
      simp only [seqS, ifS_ap, retS_ap, asgS_ap, exprS_ap, forS_ap, parS_ap, bindS_ap, nextS, orT, andT, notT, tstM, CC.tB, blM, CC.andM, CC.orM, CC.notM, ifM, b2, u1, fA, vM, cM, optR, R.bind, consM, nilM, tupM, lstM, newM, slM, noP, inP, chM, gNameM, gSubM, gFldM, optX, gPc, gTupM, gListM, setAll, oneC, tupC, yesT, itT, itL, itS, itR1, itEnT, callM, isiV, tagOf, truV, sm0, sm1, lmM, dnewM, objV, isNV, List.set, List.length_cons, List.length_nil, List.map_cons, List.map_nil, List.cons_append, List.nil_append, List.append_assoc, List.length_append, List.replicate, List.getElem?_cons_zero, List.getElem?_cons_succ, Option.bind_some, Option.map_some, Option.bind_none, Option.map_none, if_true, if_false, ↓reduceIte, Nat.zero_le, Nat.zero_add, Nat.reduceAdd, Nat.reduceSub, Nat.sub_self, List.append_nil, Nat.reduceLeDiff, Bool.false_eq_true, Bool.not_true, Bool.not_false, Bool.true_eq_false, propM, clsM, noX, mkKM, mkVM, strL, addV, e1', n1, n2]) (fun _ _ _ _ => trivial)
    (fun i x r' m' hx ⟨here, tread, a6, a7, a8, er, i1, i2, i3, i4, i5, i6⟩ => by
      subst er
      have hi := (List.getElem?_eq_some_iff.mp hx).1
      rw [rngL_len] at hi
      obtain ⟨here', tread', b7, b8, m2, t1, t2, t3, t4, t5, x, t6, t7⟩ := wf_turn h i5.well i2 (by omega) i1 (some (.str cell)) (some (.int size)) (some x) a7 a8
      refine ⟨_, _, rfl, _, _, t1, here', tread', _, _, _, rfl, t2, t3, by omega, by omega, i5.trans t5, ?_⟩
      rw [t6, go_app gs _ _ _ _ i6]
      exact t7)
    ⟨cell, [], none, none, none, rfl, hc, (fun c hc => by cases hc), by simp, by omega, D1, rfl⟩
    (fun r' m' hI => by
      rw [rngL_len] at hI
      obtain ⟨here, tread, a6, a7, a8, er, i1, i2, i3, i4, i5, i6⟩ := hI
      exact ⟨here, tread, a6, a7, a8, er, i1, i2, i3, i5, i6⟩)
  obtain ⟨r1, m2, f1, here, tread, a6, a7, a8, rfl, g1, g2, g3, g4, g5⟩ := loop
  refine ⟨tread, here, m2, fin_D0 ?_ g4 rfl, g2, by omega, g5, g1, g4⟩
  unfold m0_L_law_walk_from
  refine defK_rt rfl ?_
  unfold b_L_law_walk_from
  refine (seq_nx (r1 := [some (.ref w), some (.dct (dk w1 w2 gs)), some (.str cell), some (.int size), some (.str cell), some (.str []), none, none, none]) (mu1 := mu) (by
    generalize dk w1 w2 gs = D
    simp only [seqS, ifS_ap, retS_ap, asgS_ap, exprS_ap, forS_ap, parS_ap, bindS_ap, nextS, orT, andT, notT, tstM, CC.tB, blM, CC.andM, CC.orM, CC.notM, ifM, b2, u1, fA, vM, cM, optR, R.bind, consM, nilM, tupM, lstM, newM, slM, noP, inP, chM, gNameM, gSubM, gFldM, optX, gPc, gTupM, gListM, setAll, oneC, tupC, yesT, itT, itL, itS, itR1, itEnT, callM, isiV, tagOf, truV, sm0, sm1, lmM, dnewM, objV, isNV, List.set, List.length_cons, List.length_nil, List.map_cons, List.map_nil, List.cons_append, List.nil_append, List.append_assoc, List.length_append, List.replicate, List.getElem?_cons_zero, List.getElem?_cons_succ, Option.bind_some, Option.map_some, Option.bind_none, Option.map_none, if_true, if_false, ↓reduceIte, Nat.zero_le, Nat.zero_add, Nat.reduceAdd, Nat.reduceSub, Nat.sub_self, List.append_nil, Nat.reduceLeDiff, Bool.false_eq_true, Bool.not_true, Bool.not_false, Bool.true_eq_false, propM, clsM, noX, mkKM, mkVM, strL, emp])).trans ?_
  refine (seq_nx f1).trans ?_
  generalize dk w1 w2 gs = D
  simp only [seqS, ifS_ap, retS_ap, asgS_ap, exprS_ap, forS_ap, parS_ap, bindS_ap, nextS, orT, andT, notT, tstM, CC.tB, blM, CC.andM, CC.orM, CC.notM, ifM, b2, u1, fA, vM, cM, optR, R.bind, consM, nilM, tupM, lstM, newM, slM, noP, inP, chM, gNameM, gSubM, gFldM, optX, gPc, gTupM, gListM, setAll, oneC, tupC, yesT, itT, itL, itS, itR1, itEnT, callM, isiV, tagOf, truV, sm0, sm1, lmM, dnewM, objV, isNV, List.set, List.length_cons, List.length_nil, List.map_cons, List.map_nil, List.cons_append, List.nil_append, List.append_assoc, List.length_append, List.replicate, List.getElem?_cons_zero, List.getElem?_cons_succ, Option.bind_some, Option.map_some, Option.bind_none, Option.map_none, if_true, if_false, ↓reduceIte, Nat.zero_le, Nat.zero_add, Nat.reduceAdd, Nat.reduceSub, Nat.sub_self, List.append_nil, Nat.reduceLeDiff, Bool.false_eq_true, Bool.not_true, Bool.not_false, Bool.true_eq_false, propM, clsM, noX, mkKM, mkVM, strL]
end K06

set_option Elab.async false
set_option linter.all false
set_option maxRecDepth 100000
set_option maxHeartbeats 1000000
namespace K06
open PySem PySem.Spec PyProof.Rows L2 CC
theorem fnd_P {gs : List G} {k : List Nat} {P : Bool × G → Prop} (h : ∀ g ∈ gs, (k = [up1 g.1] → P (true, g)) ∧ (k = [g.1] → P (false, g))) {p : Bool × G} (hp : fnd gs k = some p) : P p := by
  have gen : ∀ (gs : List G) (acc : Option (Bool × G)), (∀ p, acc = some p → P p) → (∀ g ∈ gs, (k = [up1 g.1] → P (true, g)) ∧ (k = [g.1] → P (false, g))) → ∀ p, gs.foldl (fun acc g => if k = [up1 g.1] then some (true, g) else if k = [g.1] then some (false, g) else acc) acc = some p → P p := by
    intro gs
    induction gs with
    | nil => intro acc h1 _ p hp; exact h1 p hp
    | cons g gs ih =>
      intro acc h1 h2 p hp
      rw [List.foldl_cons] at hp
      refine ih _ (fun q hq => ?_) (fun x hx => h2 x (List.mem_cons_of_mem _ hx)) p hp
      have hg := h2 g List.mem_cons_self
      split at hq
      · rename_i e; cases hq; exact hg.1 e
      · split at hq
        · rename_i e; cases hq; exact hg.2 e
        · exact h1 q hq
  exact gen gs none (fun p hp => by cases hp) h p hp
theorem go_L {cs : List (List Nat)} {gs : List G} (h : doorsB cs gs) : ∀ (s here t : List Nat), here ∈ cs → go gs here s = some t → (∀ c ∈ s, isL c) ∧ t ∈ cs
  | [], here, t, hh, e => by cases e; exact ⟨fun c hc => (by cases hc), hh⟩
  | c :: s, here, t, hh, e => by
    simp only [go] at e
    split at e
    · rename_i p hp
      split at e
      · have hP := fnd_P (P := fun p => isL c ∧ too p ∈ cs) (fun g hg => ⟨fun k => ⟨(by cases k; exact up_L (h.2.2.2 g hg).1), (h.2.2.2 g hg).2.1⟩, fun k => ⟨(by cases k; exact lets_L (h.2.2.2 g hg).1), (h.2.2.2 g hg).2.2⟩⟩) hp
        obtain ⟨a, b⟩ := go_L h s (too p) t hP.2 e
        refine ⟨fun x hx => ?_, b⟩
        rcases List.mem_cons.mp hx with rfl | hx
        · exact hP.1
        · exact a x hx
      · cases e
    · cases e
theorem list_rooms (cs : List (List Nat)) (m : Store) : listV m [roomsV cs] = some (.lst (cs.map .str)) := rfl
theorem nin_list {z : Val} (h : ioB z = true) (cs : List (List Nat)) (mu : Store) : ninW2 mu z (.lst (cs.map .str)) = some (.bl (!rmB cs z)) := by
  unfold ninW2
  rw [inW_list h cs]
  rfl
theorem cl2 {w : List Nat} {z : Val} (h : clB 10 z = true) : clB 30 (.lst [.str w, z]) = true := by
  have h1 := clB_mono 10 z 29 h (by decide)
  have h2 : clB 29 (.str w) = true := rfl
  show [Val.str w, z].all (clB 29) = true
  simp only [List.all_cons, h1, h2, List.all_nil, Bool.and_self]
theorem due_room {z v : Val} (h : ioB z = true) (hc : clB 10 z = true) {cs : List (List Nat)} {gs : List G} (e : rmB cs z = false) (mu : Store) : m_L_law_due [partsV cs gs, z, v] mu = .ok (.lst [.str (strN "room"), z]) mu := by
  refine fin_cl0 ?_ (cl2 hc)
  unfold m0_L_law_due
  refine defK_rt rfl ?_
  unfold b_L_law_due
  have p0 := p_ix0 cs gs mu
  have n := nin_list h cs mu
  have l := list_rooms cs mu
  rw [e] at n
  generalize partsV cs gs = pv at p0 ⊢
  generalize roomsV cs = rv at p0 l
  generalize cs.map Val.str = L at l n
  refine seq_rt ?_
  simp only [seqS, ifS_ap, retS_ap, asgS_ap, exprS_ap, forS_ap, parS_ap, bindS_ap, nextS, orT, andT, notT, tstM, CC.tB, blM, CC.andM, CC.orM, CC.notM, ifM, b2, u1, fA, vM, cM, optR, R.bind, consM, nilM, tupM, lstM, newM, slM, noP, inP, chM, gNameM, gSubM, gFldM, optX, gPc, gTupM, gListM, setAll, oneC, tupC, yesT, itT, itL, itS, itR1, itEnT, callM, isiV, tagOf, truV, sm0, sm1, lmM, dnewM, objV, isNV, List.set, List.length_cons, List.length_nil, List.map_cons, List.map_nil, List.cons_append, List.nil_append, List.append_assoc, List.length_append, List.replicate, List.getElem?_cons_zero, List.getElem?_cons_succ, Option.bind_some, Option.map_some, Option.bind_none, Option.map_none, if_true, if_false, ↓reduceIte, Nat.zero_le, Nat.zero_add, Nat.reduceAdd, Nat.reduceSub, Nat.sub_self, List.append_nil, Nat.reduceLeDiff, Bool.false_eq_true, Bool.not_true, Bool.not_false, Bool.true_eq_false, propM, clsM, noX, mkKM, mkVM, strL, p0, l, n]
theorem due_walk {c : List Nat} {v : Val} {cs : List (List Nat)} {gs : List G} (hg : doorsB cs gs) (hc : c ∈ cs) (hv : treadOk v) (hn : ∀ s, v = .str s → go gs c s = none) (mu : Store) : m_L_law_due [partsV cs gs, .str c, v] mu = .ok (.lst [.str (strN "walk"), v]) mu := by
  refine fin_cl0 ?_ (cl2 hv.2)
  unfold m0_L_law_due
  refine defK_rt rfl ?_
  unfold b_L_law_due
  have p0 := p_ix0 cs gs mu
  have n := nin_list (z := .str c) rfl cs mu
  have l := list_rooms cs mu
  rw [show rmB cs (.str c) = true by simpa [rmB] using hc] at n
  have w := m_ways_ok cs gs mu hg
  have i := isi_str (mu := mu) hv.1
  generalize partsV cs gs = pv at p0 w ⊢
  generalize roomsV cs = rv at p0 l
  generalize cs.map Val.str = L at l n
  refine (seq_nx (r1 := [some pv, some (.str c), some v, none]) (mu1 := mu) (by simp only [seqS, ifS_ap, retS_ap, asgS_ap, exprS_ap, forS_ap, parS_ap, bindS_ap, nextS, orT, andT, notT, tstM, CC.tB, blM, CC.andM, CC.orM, CC.notM, ifM, b2, u1, fA, vM, cM, optR, R.bind, consM, nilM, tupM, lstM, newM, slM, noP, inP, chM, gNameM, gSubM, gFldM, optX, gPc, gTupM, gListM, setAll, oneC, tupC, yesT, itT, itL, itS, itR1, itEnT, callM, isiV, tagOf, truV, sm0, sm1, lmM, dnewM, objV, isNV, List.set, List.length_cons, List.length_nil, List.map_cons, List.map_nil, List.cons_append, List.nil_append, List.append_assoc, List.length_append, List.replicate, List.getElem?_cons_zero, List.getElem?_cons_succ, Option.bind_some, Option.map_some, Option.bind_none, Option.map_none, if_true, if_false, ↓reduceIte, Nat.zero_le, Nat.zero_add, Nat.reduceAdd, Nat.reduceSub, Nat.sub_self, List.append_nil, Nat.reduceLeDiff, Bool.false_eq_true, Bool.not_true, Bool.not_false, Bool.true_eq_false, propM, clsM, noX, mkKM, mkVM, strL, p0, l, n])).trans ?_
  refine (seq_nx (r1 := [some pv, some (.str c), some v, some .non]) (mu1 := mu) ?_).trans ?_
  · cases e : isS v with
    | true =>
      obtain ⟨s, rfl⟩ : ∃ s, v = .str s := by
        cases v with
        | str s => exact ⟨s, rfl⟩
        | _ => cases e
      rw [e] at i
      have ee := end_ok gs c s mu
      rw [hn s rfl] at ee
      generalize dk w1 w2 gs = D at w ee
      simp only [seqS, ifS_ap, retS_ap, asgS_ap, exprS_ap, forS_ap, parS_ap, bindS_ap, nextS, orT, andT, notT, tstM, CC.tB, blM, CC.andM, CC.orM, CC.notM, ifM, b2, u1, fA, vM, cM, optR, R.bind, consM, nilM, tupM, lstM, newM, slM, noP, inP, chM, gNameM, gSubM, gFldM, optX, gPc, gTupM, gListM, setAll, oneC, tupC, yesT, itT, itL, itS, itR1, itEnT, callM, truV, sm0, sm1, lmM, dnewM, objV, isNV, List.set, List.length_cons, List.length_nil, List.map_cons, List.map_nil, List.cons_append, List.nil_append, List.append_assoc, List.length_append, List.replicate, List.getElem?_cons_zero, List.getElem?_cons_succ, Option.bind_some, Option.map_some, Option.bind_none, Option.map_none, if_true, if_false, ↓reduceIte, Nat.zero_le, Nat.zero_add, Nat.reduceAdd, Nat.reduceSub, Nat.sub_self, List.append_nil, Nat.reduceLeDiff, Bool.false_eq_true, Bool.not_true, Bool.not_false, Bool.true_eq_false, propM, clsM, noX, mkKM, mkVM, strL, i, w, ee, goV]
    | false =>
      rw [e] at i
      simp only [seqS, ifS_ap, retS_ap, asgS_ap, exprS_ap, forS_ap, parS_ap, bindS_ap, nextS, orT, andT, notT, tstM, CC.tB, blM, CC.andM, CC.orM, CC.notM, ifM, b2, u1, fA, vM, cM, optR, R.bind, consM, nilM, tupM, lstM, newM, slM, noP, inP, chM, gNameM, gSubM, gFldM, optX, gPc, gTupM, gListM, setAll, oneC, tupC, yesT, itT, itL, itS, itR1, itEnT, callM, truV, sm0, sm1, lmM, dnewM, objV, isNV, List.set, List.length_cons, List.length_nil, List.map_cons, List.map_nil, List.cons_append, List.nil_append, List.append_assoc, List.length_append, List.replicate, List.getElem?_cons_zero, List.getElem?_cons_succ, Option.bind_some, Option.map_some, Option.bind_none, Option.map_none, if_true, if_false, ↓reduceIte, Nat.zero_le, Nat.zero_add, Nat.reduceAdd, Nat.reduceSub, Nat.sub_self, List.append_nil, Nat.reduceLeDiff, Bool.false_eq_true, Bool.not_true, Bool.not_false, Bool.true_eq_false, propM, clsM, noX, mkKM, mkVM, strL, i]
  · simp only [seqS, ifS_ap, retS_ap, asgS_ap, exprS_ap, forS_ap, parS_ap, bindS_ap, nextS, orT, andT, notT, tstM, CC.tB, blM, CC.andM, CC.orM, CC.notM, ifM, b2, u1, fA, vM, cM, optR, R.bind, consM, nilM, tupM, lstM, newM, slM, noP, inP, chM, gNameM, gSubM, gFldM, optX, gPc, gTupM, gListM, setAll, oneC, tupC, yesT, itT, itL, itS, itR1, itEnT, callM, isiV, tagOf, truV, sm0, sm1, lmM, dnewM, objV, isNV, List.set, List.length_cons, List.length_nil, List.map_cons, List.map_nil, List.cons_append, List.nil_append, List.append_assoc, List.length_append, List.replicate, List.getElem?_cons_zero, List.getElem?_cons_succ, Option.bind_some, Option.map_some, Option.bind_none, Option.map_none, if_true, if_false, ↓reduceIte, Nat.zero_le, Nat.zero_add, Nat.reduceAdd, Nat.reduceSub, Nat.sub_self, List.append_nil, Nat.reduceLeDiff, Bool.false_eq_true, Bool.not_true, Bool.not_false, Bool.true_eq_false, propM, clsM, noX, mkKM, mkVM, strL, isNil]
theorem due_told {c s t : List Nat} {cs : List (List Nat)} {gs : List G} (hg : doorsB cs gs) (hc : c ∈ cs) (hs : s.length ≤ 1000) (e : go gs c s = some t) (mu : Store) : m_L_law_due [partsV cs gs, .str c, .str s] mu = .ok (.lst [.str (strN "told"), .lst [.str t, .tup [.str c, .str (stk s []).reverse]]]) mu := by
  refine fin_cl0 ?_ rfl
  unfold m0_L_law_due
  refine defK_rt rfl ?_
  unfold b_L_law_due
  have p0 := p_ix0 cs gs mu
  have n := nin_list (z := .str c) rfl cs mu
  have l := list_rooms cs mu
  rw [show rmB cs (.str c) = true by simpa [rmB] using hc] at n
  have w := m_ways_ok cs gs mu hg
  have i := isi_str (mu := mu) (v := .str s) (by simpa [odB] using hs)
  have ee := end_ok gs c s mu
  rw [e] at ee
  have sh := short_ok s (go_L hg s c t hc e).1 hs mu
  generalize partsV cs gs = pv at p0 w ⊢
  generalize roomsV cs = rv at p0 l
  generalize cs.map Val.str = L at l n
  generalize dk w1 w2 gs = D at w ee
  refine (seq_nx (r1 := [some pv, some (.str c), some (.str s), none]) (mu1 := mu) (by simp only [seqS, ifS_ap, retS_ap, asgS_ap, exprS_ap, forS_ap, parS_ap, bindS_ap, nextS, orT, andT, notT, tstM, CC.tB, blM, CC.andM, CC.orM, CC.notM, ifM, b2, u1, fA, vM, cM, optR, R.bind, consM, nilM, tupM, lstM, newM, slM, noP, inP, chM, gNameM, gSubM, gFldM, optX, gPc, gTupM, gListM, setAll, oneC, tupC, yesT, itT, itL, itS, itR1, itEnT, callM, isiV, tagOf, truV, sm0, sm1, lmM, dnewM, objV, isNV, List.set, List.length_cons, List.length_nil, List.map_cons, List.map_nil, List.cons_append, List.nil_append, List.append_assoc, List.length_append, List.replicate, List.getElem?_cons_zero, List.getElem?_cons_succ, Option.bind_some, Option.map_some, Option.bind_none, Option.map_none, if_true, if_false, ↓reduceIte, Nat.zero_le, Nat.zero_add, Nat.reduceAdd, Nat.reduceSub, Nat.sub_self, List.append_nil, Nat.reduceLeDiff, Bool.false_eq_true, Bool.not_true, Bool.not_false, Bool.true_eq_false, propM, clsM, noX, mkKM, mkVM, strL, p0, l, n])).trans ?_
  refine (seq_nx (r1 := [some pv, some (.str c), some (.str s), some (.str t)]) (mu1 := mu) (by simp only [seqS, ifS_ap, retS_ap, asgS_ap, exprS_ap, forS_ap, parS_ap, bindS_ap, nextS, orT, andT, notT, tstM, CC.tB, blM, CC.andM, CC.orM, CC.notM, ifM, b2, u1, fA, vM, cM, optR, R.bind, consM, nilM, tupM, lstM, newM, slM, noP, inP, chM, gNameM, gSubM, gFldM, optX, gPc, gTupM, gListM, setAll, oneC, tupC, yesT, itT, itL, itS, itR1, itEnT, callM, truV, sm0, sm1, lmM, dnewM, objV, isNV, List.set, List.length_cons, List.length_nil, List.map_cons, List.map_nil, List.cons_append, List.nil_append, List.append_assoc, List.length_append, List.replicate, List.getElem?_cons_zero, List.getElem?_cons_succ, Option.bind_some, Option.map_some, Option.bind_none, Option.map_none, if_true, if_false, ↓reduceIte, Nat.zero_le, Nat.zero_add, Nat.reduceAdd, Nat.reduceSub, Nat.sub_self, List.append_nil, Nat.reduceLeDiff, Bool.false_eq_true, Bool.not_true, Bool.not_false, Bool.true_eq_false, propM, clsM, noX, mkKM, mkVM, strL, i, isS, w, ee, goV])).trans ?_
  simp only [seqS, ifS_ap, retS_ap, asgS_ap, exprS_ap, forS_ap, parS_ap, bindS_ap, nextS, orT, andT, notT, tstM, CC.tB, blM, CC.andM, CC.orM, CC.notM, ifM, b2, u1, fA, vM, cM, optR, R.bind, consM, nilM, tupM, lstM, newM, slM, noP, inP, chM, gNameM, gSubM, gFldM, optX, gPc, gTupM, gListM, setAll, oneC, tupC, yesT, itT, itL, itS, itR1, itEnT, callM, isiV, tagOf, truV, sm0, sm1, lmM, dnewM, objV, isNV, List.set, List.length_cons, List.length_nil, List.map_cons, List.map_nil, List.cons_append, List.nil_append, List.append_assoc, List.length_append, List.replicate, List.getElem?_cons_zero, List.getElem?_cons_succ, Option.bind_some, Option.map_some, Option.bind_none, Option.map_none, if_true, if_false, ↓reduceIte, Nat.zero_le, Nat.zero_add, Nat.reduceAdd, Nat.reduceSub, Nat.sub_self, List.append_nil, Nat.reduceLeDiff, Bool.false_eq_true, Bool.not_true, Bool.not_false, Bool.true_eq_false, propM, clsM, noX, mkKM, mkVM, strL, isNil, sh]
/-! what stands for a room, for passes -/
structure GoodC (cs : List (List Nat)) (z : Val) : Prop where
  io : ioB z = true
  cl : clB 10 z = true
  rp : Rp 6 300 z
  is : rmB cs z = true → ∃ c ∈ cs, z = .str c
structure GoodT (v : Val) : Prop where
  ok : treadOk v
  rp : Rp 6 300 v
  is : ∀ s, v = .str s → s.length ≤ 1000 ∧ ∀ x ∈ s, x < 128
theorem oddF_more : (oddF.all fun z => rpB 300 z && (match z with
  | .str s => decide (s.length ≤ 1000) && s.all fun c => decide (c < 128)
  | _ => true)) = true := by decide +kernel
theorem good_oddT {z : Val} (h : z ∈ oddF) : GoodT z := by
  have a := List.all_eq_true.mp oddF_more z h
  simp only [Bool.and_eq_true] at a
  refine ⟨(oddF_ok h).1, (rp_of a.1).le (by decide) (Nat.le_refl _), fun s e => ?_⟩
  subst e
  have b := a.2
  simp only [Bool.and_eq_true, decide_eq_true_eq, List.all_eq_true] at b
  exact b
theorem good_oddC {cs : List (List Nat)} {z : Val} (h : z ∈ oddF) : GoodC cs z := by
  have a := List.all_eq_true.mp oddF_more z h
  simp only [Bool.and_eq_true] at a
  refine ⟨(oddF_ok h).2.2, (oddF_ok h).1.2, (rp_of a.1).le (by decide) (Nat.le_refl _), fun e => ?_⟩
  obtain ⟨s, h1, h2⟩ := rmB_str e
  exact ⟨s, h2, h1⟩
theorem name_small {s : List Nat} (h : nameB s = true) : s.length ≤ 8 ∧ ∀ c ∈ s, c < 128 := by
  have l := nameB_len h
  unfold nameB at h
  simp only [Bool.and_eq_true, List.all_eq_true, decide_eq_true_eq] at h
  refine ⟨l, fun c hc => ?_⟩
  have a : ∀ c ∈ lets, c < 128 := by decide +kernel
  exact a c (h.2 c hc)
theorem rp_asc {k w : Nat} {s : List Nat} (h : ∀ c ∈ s, c < 128) (hw : s.length ≤ w) : Rp k w (.str s) := Rp.str (fun c hc => Nat.lt_trans (h c hc) (by decide)) hw
theorem good_room {cs : List (List Nat)} (h : roomsB cs) {c : List Nat} (hc : c ∈ cs) : GoodC cs (.str c) := by
  obtain ⟨l, a⟩ := name_small (h.2.2.2 c hc)
  exact ⟨rfl, rfl, rp_asc a (by omega), fun _ => ⟨c, hc, rfl⟩⟩
theorem good_text {s : List Nat} (h : ∀ c ∈ s, c < 128) (hl : s.length ≤ 300) : GoodT (.str s) :=
  ⟨⟨by simp [odB]; omega, rfl⟩, rp_asc h hl, fun t e => by cases e; exact ⟨by omega, h⟩⟩
theorem w2' : wordL 2 = some (strN "room") := by decide +kernel
theorem w4' : wordL 4 = some (strN "walk") := by decide +kernel
theorem a2' : attL 2 = some 0 := rfl
theorem a4' : attL 4 = some 0 := rfl
theorem tl' : toldL = strN "told" := by decide +kernel
theorem err_of {C : Nat} {w : List Nat} {z : Val} {mu : Store} (h1 : wordL C = some w) (h2 : attL C = some 0) : errM wordL attL toldL (.exc C [(0, z)] mu) = .ok (.lst [.str w, z]) mu := by
  simp only [errM, h1, h2, if_true]
theorem push_mem {c x : Nat} : ∀ {st : List Nat}, x ∈ pushS c st → x ∈ st ∨ x = c
  | [], h => by simp [pushS] at h; exact .inr h
  | d :: t, h => by
    rw [pushS_cons] at h
    split at h
    · exact .inl (List.mem_cons_of_mem _ h)
    · rcases List.mem_cons.mp h with h | h
      · exact .inr h
      · exact .inl h
theorem stk_mem : ∀ (s st : List Nat) (x : Nat), x ∈ stk s st → x ∈ st ∨ x ∈ s
  | [], st, x, h => .inl h
  | c :: s, st, x, h => by
    rcases stk_mem s (pushS c st) x h with h | h
    · rcases push_mem h with h | h
      · exact .inl h
      · exact .inr (by simp [h])
    · exact .inr (List.mem_cons_of_mem _ h)
/-- what is due, told and left -/
theorem asked {cs : List (List Nat)} {gs : List G} (hc : roomsB cs) (hg : doorsB cs gs) {z v : Val} (gz : GoodC cs z) (gv : GoodT v) (mu : Store) : ∃ (w : List Nat) (x y : Val),
    m_L_law_due [partsV cs gs, z, v] mu = .ok (.lst [.str w, x]) mu ∧
    (∀ {r : Env1}, r[2]? = some (some (houseV cs gs)) → r[5]? = some (some z) → r[6]? = some (some v) →
      errM wordL attL toldL ((lstM (consM (methKM 0 2 (fun as => finM m0_House_end (match as with | x :: zs => x :: zs.reverse | [] => [])) (vM 2) (consM (vM 6) (consM (vM 5) nilM))) (consM (methKM 0 2 (fun as => finM m0_House_left (match as with | x :: zs => x :: zs.reverse | [] => [])) (vM 2) (consM (vM 6) (consM (vM 5) nilM))) nilM))) r mu) = .ok (.lst [.str w, x]) mu ∧
      errM wordL attL toldL ((methM 0 m_House_left (vM 2) (consM (vM 5) (consM (vM 6) nilM))) r mu) = .ok (.lst [.str w, y]) mu) ∧
    (∀ c ∈ w, c < 128) ∧ w.length ≤ 10 ∧ Rp 20 5000 x := by
  have o : objV mu (houseV cs gs) = some (0, [(3, roomsV cs), (4, doorsV gs), (5, .dct (startsD gs)), (6, .dct (goalsD gs))]) := rfl
  cases e : rmB cs z with
  | false =>
    refine ⟨strN "room", z, z, due_room gz.io gz.cl e mu, fun h2 h5 h6 => ?_, by decide +kernel, by decide +kernel, gz.rp.le (by decide) (by decide)⟩
    have h0 := hend_room (v := v) gz.io gz.cl e gs mu
    have h1 : finM m0_House_end [houseV cs gs, z, v] mu = .exc 2 [(0, z)] mu := fin_of h0 gz.cl
    have h3 : m_House_left [houseV cs gs, z, v] mu = .exc 2 [(0, z)] mu := fin_of (left_exc h1) gz.cl
    have er := err_of (z := z) (mu := mu) w2' a2'
    generalize houseV cs gs = hv at *
    constructor
    · simp only [seqS, ifS_ap, retS_ap, asgS_ap, exprS_ap, forS_ap, parS_ap, bindS_ap, nextS, orT, andT, notT, tstM, CC.tB, blM, CC.andM, CC.orM, CC.notM, ifM, b2, u1, fA, vM, cM, optR, R.bind, consM, nilM, tupM, lstM, newM, slM, noP, inP, chM, gNameM, gSubM, gFldM, optX, gPc, gTupM, gListM, setAll, oneC, tupC, yesT, itT, itL, itS, itR1, itEnT, callM, isiV, tagOf, truV, sm0, sm1, lmM, dnewM, isNV, List.set, List.length_cons, List.length_nil, List.map_cons, List.map_nil, List.cons_append, List.nil_append, List.append_assoc, List.length_append, List.replicate, List.getElem?_cons_zero, List.getElem?_cons_succ, Option.bind_some, Option.map_some, Option.bind_none, Option.map_none, if_true, if_false, ↓reduceIte, Nat.zero_le, Nat.zero_add, Nat.reduceAdd, Nat.reduceSub, Nat.sub_self, List.append_nil, Nat.reduceLeDiff, Bool.false_eq_true, Bool.not_true, Bool.not_false, Bool.true_eq_false, propM, clsM, noX, mkKM, mkVM, strL, methKM, h2, h5, h6, o, List.reverse_cons, List.reverse_nil, h1, er]
    · simp only [seqS, ifS_ap, retS_ap, asgS_ap, exprS_ap, forS_ap, parS_ap, bindS_ap, nextS, orT, andT, notT, tstM, CC.tB, blM, CC.andM, CC.orM, CC.notM, ifM, b2, u1, fA, vM, cM, optR, R.bind, consM, nilM, tupM, lstM, newM, slM, noP, inP, chM, gNameM, gSubM, gFldM, optX, gPc, gTupM, gListM, setAll, oneC, tupC, yesT, itT, itL, itS, itR1, itEnT, callM, isiV, tagOf, truV, sm0, sm1, lmM, dnewM, isNV, List.set, List.length_cons, List.length_nil, List.map_cons, List.map_nil, List.cons_append, List.nil_append, List.append_assoc, List.length_append, List.replicate, List.getElem?_cons_zero, List.getElem?_cons_succ, Option.bind_some, Option.map_some, Option.bind_none, Option.map_none, if_true, if_false, ↓reduceIte, Nat.zero_le, Nat.zero_add, Nat.reduceAdd, Nat.reduceSub, Nat.sub_self, List.append_nil, Nat.reduceLeDiff, Bool.false_eq_true, Bool.not_true, Bool.not_false, Bool.true_eq_false, propM, clsM, noX, mkKM, mkVM, strL, methM, h2, h5, h6, o, h3, er]
  | true =>
    obtain ⟨c, hcc, rfl⟩ := gz.is e
    by_cases hn : ∀ s, v = .str s → go gs c s = none
    · refine ⟨strN "walk", v, v, due_walk hg hcc gv.ok hn mu, fun h2 h5 h6 => ?_, by decide +kernel, by decide +kernel, gv.rp.le (by decide) (by decide)⟩
      have h0 := hend_walk hcc gv.ok gs hn mu
      have h1 : finM m0_House_end [houseV cs gs, .str c, v] mu = .exc 4 [(0, v)] mu := fin_of h0 gv.ok.2
      have h3 : m_House_left [houseV cs gs, .str c, v] mu = .exc 4 [(0, v)] mu := fin_of (left_exc h1) gv.ok.2
      have er := err_of (z := v) (mu := mu) w4' a4'
      generalize houseV cs gs = hv at *
      constructor
      · simp only [seqS, ifS_ap, retS_ap, asgS_ap, exprS_ap, forS_ap, parS_ap, bindS_ap, nextS, orT, andT, notT, tstM, CC.tB, blM, CC.andM, CC.orM, CC.notM, ifM, b2, u1, fA, vM, cM, optR, R.bind, consM, nilM, tupM, lstM, newM, slM, noP, inP, chM, gNameM, gSubM, gFldM, optX, gPc, gTupM, gListM, setAll, oneC, tupC, yesT, itT, itL, itS, itR1, itEnT, callM, isiV, tagOf, truV, sm0, sm1, lmM, dnewM, isNV, List.set, List.length_cons, List.length_nil, List.map_cons, List.map_nil, List.cons_append, List.nil_append, List.append_assoc, List.length_append, List.replicate, List.getElem?_cons_zero, List.getElem?_cons_succ, Option.bind_some, Option.map_some, Option.bind_none, Option.map_none, if_true, if_false, ↓reduceIte, Nat.zero_le, Nat.zero_add, Nat.reduceAdd, Nat.reduceSub, Nat.sub_self, List.append_nil, Nat.reduceLeDiff, Bool.false_eq_true, Bool.not_true, Bool.not_false, Bool.true_eq_false, propM, clsM, noX, mkKM, mkVM, strL, methKM, h2, h5, h6, o, List.reverse_cons, List.reverse_nil, h1, er]
      · simp only [seqS, ifS_ap, retS_ap, asgS_ap, exprS_ap, forS_ap, parS_ap, bindS_ap, nextS, orT, andT, notT, tstM, CC.tB, blM, CC.andM, CC.orM, CC.notM, ifM, b2, u1, fA, vM, cM, optR, R.bind, consM, nilM, tupM, lstM, newM, slM, noP, inP, chM, gNameM, gSubM, gFldM, optX, gPc, gTupM, gListM, setAll, oneC, tupC, yesT, itT, itL, itS, itR1, itEnT, callM, isiV, tagOf, truV, sm0, sm1, lmM, dnewM, isNV, List.set, List.length_cons, List.length_nil, List.map_cons, List.map_nil, List.cons_append, List.nil_append, List.append_assoc, List.length_append, List.replicate, List.getElem?_cons_zero, List.getElem?_cons_succ, Option.bind_some, Option.map_some, Option.bind_none, Option.map_none, if_true, if_false, ↓reduceIte, Nat.zero_le, Nat.zero_add, Nat.reduceAdd, Nat.reduceSub, Nat.sub_self, List.append_nil, Nat.reduceLeDiff, Bool.false_eq_true, Bool.not_true, Bool.not_false, Bool.true_eq_false, propM, clsM, noX, mkKM, mkVM, strL, methM, h2, h5, h6, o, h3, er]
    · obtain ⟨s, hn⟩ := Classical.not_forall.mp hn
      obtain ⟨ev, hn2⟩ := Classical.not_imp.mp hn
      obtain ⟨t, ht⟩ := Option.ne_none_iff_exists'.mp hn2
      subst ev
      obtain ⟨sl, sa⟩ := gv.is s rfl
      obtain ⟨gl, gt⟩ := go_L hg s c t hcc ht
      refine ⟨strN "told", .lst [.str t, .tup [.str c, .str (stk s []).reverse]], .tup [.str c, .str (stk s []).reverse], due_told hg hcc sl ht mu, fun h2 h5 h6 => ?_, by decide +kernel, by decide +kernel, ?_⟩
      · have h0 := hend_ok hcc sl gs ht mu
        have h1 : finM m0_House_end [houseV cs gs, .str c, .str s] mu = .ok (.str t) mu := fin_cl0 h0 rfl
        have h3 : finM m0_House_left [houseV cs gs, .str c, .str s] mu = .ok (.tup [.str c, .str (stk s []).reverse]) mu := fin_cl0 (left_ok hcc sl sa gs ht mu) rfl
        have h4 : m_House_left [houseV cs gs, .str c, .str s] mu = .ok (.tup [.str c, .str (stk s []).reverse]) mu := h3
        generalize houseV cs gs = hv at *
        constructor
        · simp only [seqS, ifS_ap, retS_ap, asgS_ap, exprS_ap, forS_ap, parS_ap, bindS_ap, nextS, orT, andT, notT, tstM, CC.tB, blM, CC.andM, CC.orM, CC.notM, ifM, b2, u1, fA, vM, cM, optR, R.bind, consM, nilM, tupM, lstM, newM, slM, noP, inP, chM, gNameM, gSubM, gFldM, optX, gPc, gTupM, gListM, setAll, oneC, tupC, yesT, itT, itL, itS, itR1, itEnT, callM, isiV, tagOf, truV, sm0, sm1, lmM, dnewM, isNV, List.set, List.length_cons, List.length_nil, List.map_cons, List.map_nil, List.cons_append, List.nil_append, List.append_assoc, List.length_append, List.replicate, List.getElem?_cons_zero, List.getElem?_cons_succ, Option.bind_some, Option.map_some, Option.bind_none, Option.map_none, if_true, if_false, ↓reduceIte, Nat.zero_le, Nat.zero_add, Nat.reduceAdd, Nat.reduceSub, Nat.sub_self, List.append_nil, Nat.reduceLeDiff, Bool.false_eq_true, Bool.not_true, Bool.not_false, Bool.true_eq_false, propM, clsM, noX, mkKM, mkVM, strL, methKM, h2, h5, h6, o, List.reverse_cons, List.reverse_nil, h1, h3, errM, tl']
        · simp only [seqS, ifS_ap, retS_ap, asgS_ap, exprS_ap, forS_ap, parS_ap, bindS_ap, nextS, orT, andT, notT, tstM, CC.tB, blM, CC.andM, CC.orM, CC.notM, ifM, b2, u1, fA, vM, cM, optR, R.bind, consM, nilM, tupM, lstM, newM, slM, noP, inP, chM, gNameM, gSubM, gFldM, optX, gPc, gTupM, gListM, setAll, oneC, tupC, yesT, itT, itL, itS, itR1, itEnT, callM, isiV, tagOf, truV, sm0, sm1, lmM, dnewM, isNV, List.set, List.length_cons, List.length_nil, List.map_cons, List.map_nil, List.cons_append, List.nil_append, List.append_assoc, List.length_append, List.replicate, List.getElem?_cons_zero, List.getElem?_cons_succ, Option.bind_some, Option.map_some, Option.bind_none, Option.map_none, if_true, if_false, ↓reduceIte, Nat.zero_le, Nat.zero_add, Nat.reduceAdd, Nat.reduceSub, Nat.sub_self, List.append_nil, Nat.reduceLeDiff, Bool.false_eq_true, Bool.not_true, Bool.not_false, Bool.true_eq_false, propM, clsM, noX, mkKM, mkVM, strL, methM, h2, h5, h6, o, h4, errM, tl']
      · have nt := name_small (hc.2.2.2 t gt)
        have nc := name_small (hc.2.2.2 c hcc)
        have sk : (stk s []).reverse.length ≤ 1000 := by
          have := stk_len s []
          rw [List.length_reverse]
          simp only [List.length_nil] at this
          omega
        have sm : ∀ x ∈ (stk s []).reverse, x < 128 := fun x hx => sa x (stk_mem s [] x (List.mem_reverse.mp hx) |>.resolve_left (by simp))
        have r3 : Rp 0 1000 (.str (stk s []).reverse) := rp_asc sm sk
        have r1 : Rp 0 1000 (.str c) := rp_asc nc.2 (by omega)
        have r4 : Rp 1 2002 (.tup [.str c, .str (stk s []).reverse]) := Rp.tup' (k := 0) (w := 1000) (fun x hx => by
          simp only [List.mem_cons, List.not_mem_nil, or_false] at hx
          rcases hx with rfl | rfl
          · exact r1
          · exact r3) (by simp)
        refine (Rp.lst' (k := 1) (w := 2002) (W := 4100) (fun x hx => ?_) (by simp)).le (by decide) (by decide)
        simp only [List.mem_cons, List.not_mem_nil, or_false] at hx
        rcases hx with rfl | rfl
        · exact rp_asc nt.2 (by omega)
        · exact r4
end K06

set_option Elab.async false
set_option linter.all false
set_option maxRecDepth 100000
set_option maxHeartbeats 1000000
namespace K06
open PySem PySem.Spec PyProof.Rows L2 CC
noncomputable abbrev st0 : MS := asgS (b2 addV (b2 addV (slM slV (vM 6) noP (inP (vM 10))) (callM m_L_law_one (consM (vM 0) (consM (b2 addV (fA sortedV (consM (vM 3) nilM)) (lstM (consM (cM (strL "q")) (consM (cM (strL "Q")) (consM (cM (strL " ")) (consM (cM (strL "1")) nilM)))))) nilM)))) (slM slV (vM 6) (inP (vM 10)) noP)) (gNameM 6)
noncomputable abbrev st1 : MS := asgS (tupM (consM (callM m_L_law_one (consM (vM 0) (consM (lstM (consM (callM m_L_law_odd (consM (vM 0) nilM)) (consM (vM 6) nilM))) nilM))) (consM (callM m_L_law_one (consM (vM 0) (consM (lstM (consM (callM m_L_law_odd (consM (vM 0) nilM)) (consM (vM 5) nilM))) nilM))) nilM))) (gPc [6, 5] (tupC 2))
noncomputable abbrev askS : MS := (seqS (asgS (callM m_L_law_due (consM (vM 1) (consM (vM 5) (consM (vM 6) nilM)))) (gNameM 7))
    (seqS (asgS (fun r mu => errM wordL attL toldL ((lstM (consM (methKM 0 2 (fun as => finM m0_House_end (match as with | x :: zs => x :: zs.reverse | [] => [])) (vM 2) (consM (vM 6) (consM (vM 5) nilM))) (consM (methKM 0 2 (fun as => finM m0_House_left (match as with | x :: zs => x :: zs.reverse | [] => [])) (vM 2) (consM (vM 6) (consM (vM 5) nilM))) nilM))) r mu)) (gNameM 8))
    (ifS (orT (CC.tB (b2 CC.neV (fA reprX (consM (vM 8) nilM)) (fA reprX (consM (vM 7) nilM)))) (CC.tB (b2 CC.neV (fA reprX (consM (b2 ixV (fun r mu => errM wordL attL toldL ((methM 0 m_House_left (vM 2) (consM (vM 5) (consM (vM 6) nilM))) r mu)) (cM (.int 0))) nilM)) (fA reprX (consM (b2 ixV (vM 7) (cM (.int 0))) nilM))))) (retS (cM (.bl false))) nextS)))
noncomputable abbrev rBody : MS := (seqS (asgS (callM m_L_law_one (consM (vM 0) (consM (b2 ixV (vM 1) (cM (.int 0))) nilM))) (gNameM 5))
    (seqS (asgS (callM m_L_law_walk_from (consM (vM 0) (consM (vM 3) (consM (vM 5) (consM (cM (.int 14)) nilM))))) (gNameM 6))
    (seqS (parS 9 10 (consM (callM m_L_law_dip (consM (vM 0) (consM (cM (.int 6)) nilM))) (consM (callM m_L_law_dip (consM (vM 0) (consM (b2 addV (fA lenV (consM (vM 6) nilM)) (cM (.int 1))) nilM))) nilM)))
    (seqS (ifS (CC.tB (b2 CC.eqV (vM 9) (cM (.int 0)))) st0 nextS)
    (seqS (ifS (CC.tB (b2 CC.eqV (vM 9) (cM (.int 1)))) st1 nextS) askS)))))
theorem asg_nx {m : M Val} {g : TM} {r r2 : Env1} {mu mu1 mu2 : Store} {v : Val} (h : m r mu = .ok v mu1) (h2 : g v r mu1 = some (r2, mu2)) : asgS m g r mu = .nx r2 mu2 := by
  rw [asgS_ap, h]
  simp only [h2]
/-- slots of _law_right -/
abbrev env (w : Nat) (cs : List (List Nat)) (gs : List G) (a4 a5 a6 a7 a8 a9 a10 : Option Val) : Env1 := [some (.ref w), some (partsV cs gs), some (houseV cs gs), some (.dct (dk w1 w2 gs)), a4, a5, a6, a7, a8, a9, a10]
theorem st0_ok {cs : List (List Nat)} {gs : List G} (hg : doorsB cs gs) {w : Nat} {m : Store} (hw : Well w m) {s : List Nat} (hs : ∀ c ∈ s, isL c) (hl : s.length ≤ 14) {at_ : Nat} (hat : at_ ≤ s.length) (a4 a5 a7 a8 a9 : Option Val) :
    ∃ s' m', st0 (env w cs gs a4 a5 (some (.str s)) a7 a8 a9 (some (.int at_))) m = .nx (env w cs gs a4 a5 (some (.str s')) a7 a8 a9 (some (.int at_))) m' ∧ (∀ c ∈ s', c < 128) ∧ s'.length ≤ 15 ∧ Dip w m m' := by
  obtain ⟨e1, e2, e3⟩ := sorted_ways hg m
  obtain ⟨L, hL⟩ : ∃ L : List (List Nat), L = waysK gs ++ [strN "q", strN "Q", strN " ", strN "1"] := ⟨_, rfl⟩
  have hlen : L.length = (waysK gs).length + 4 := by rw [hL]; simp
  have hm : ∀ k ∈ L, ∃ c, k = [c] ∧ c < 128 := by
    intro k hk
    rw [hL] at hk
    rcases List.mem_append.mp hk with hk | hk
    · obtain ⟨c, a, b, _⟩ := e3 k hk
      exact ⟨c, a, isL_lt b⟩
    · simp only [List.mem_cons, List.not_mem_nil, or_false] at hk
      rcases hk with rfl | rfl | rfl | rfl <;> exact ⟨_, rfl, by decide⟩
  obtain ⟨v, pd, m', o1, -, ⟨c, rfl, hc⟩, D⟩ := one_ok (V := .lst (L.map .str)) (n := L.length) hw (by omega) (by omega) (fun m => by rw [len_lst, List.length_map]) (fun v => ∃ c, v = .str [c] ∧ c < 128) fun m d hd => by
    obtain ⟨c, q3, q4⟩ := hm _ (List.getElem_mem hd)
    exact ⟨_, _, str_at _ m d hd, toD_str 30 _, c, by rw [q3], q4⟩
  have ad : addV m (.lst ((waysK gs).map .str)) (.lst [strL "q", strL "Q", strL " ", strL "1"]) = some (.lst (L.map .str)) := by
    simp only [addV, seqL]
    rw [if_pos (by rw [List.length_map]; simp; omega), hL, List.map_append]
    rfl
  have s1 : slV m (.str s) none (some (at_ : Int)) = some (.str (s.take at_)) := by
    simp only [slV, cut_fore]
    rw [if_pos (by omega)]
  have s2 : slV m' (.str s) (some (at_ : Int)) none = some (.str (s.drop at_)) := by
    simp only [slV, cut_hind]
    rw [if_pos (by omega)]
  have a1 : addV m' (.str (s.take at_)) (.str [c]) = some (.str (s.take at_ ++ [c])) := by
    simp only [addV]
    rw [if_pos (by simp; omega)]
  have a2 : addV m' (.str (s.take at_ ++ [c])) (.str (s.drop at_)) = some (.str (s.take at_ ++ [c] ++ s.drop at_)) := by
    simp only [addV]
    rw [if_pos (by simp; omega)]
  refine ⟨s.take at_ ++ [c] ++ s.drop at_, m', ?_, ?_, by simp; omega, D⟩
  · try simp only [env] at *
    generalize dk w1 w2 gs = DD at e1 ⊢
    generalize houseV cs gs = hv
    generalize partsV cs gs = pv
    generalize (waysK gs).map Val.str = K1 at e1 ad
    generalize L.map Val.str = K2 at ad o1
    simp only [seqS, ifS_ap, retS_ap, asgS_ap, exprS_ap, forS_ap, parS_ap, bindS_ap, nextS, orT, andT, notT, tstM, CC.tB, blM, CC.andM, CC.orM, CC.notM, ifM, b2, u1, fA, vM, cM, optR, R.bind, consM, nilM, tupM, lstM, newM, slM, noP, inP, chM, gNameM, gSubM, gFldM, optX, gPc, gTupM, gListM, setAll, oneC, tupC, yesT, itT, itL, itS, itR1, itEnT, callM, isiV, tagOf, truV, sm0, sm1, lmM, dnewM, objV, isNV, List.set, List.length_cons, List.length_nil, List.map_cons, List.map_nil, List.cons_append, List.nil_append, List.length_append, List.replicate, List.getElem?_cons_zero, List.getElem?_cons_succ, Option.bind_some, Option.map_some, Option.bind_none, Option.map_none, if_true, if_false, ↓reduceIte, Nat.zero_le, Nat.zero_add, Nat.reduceAdd, Nat.reduceSub, Nat.sub_self, List.append_nil, Nat.reduceLeDiff, Bool.false_eq_true, Bool.not_true, Bool.not_false, Bool.true_eq_false, propM, clsM, noX, mkKM, mkVM, strL, e1, ad, o1, s1, s2, a1, a2]
  · intro x hx
    rcases List.mem_append.mp hx with hx | hx
    · rcases List.mem_append.mp hx with hx | hx
      · exact isL_lt (hs x (List.mem_of_mem_take hx))
      · rw [List.mem_singleton.mp hx]; exact hc
    · exact isL_lt (hs x (List.mem_of_mem_drop hx))
theorem one_pair {w : Nat} {m : Store} (hw : Well w m) {a b : Val} (ha : clB 10 a = true) (hb : clB 10 b = true) (P : Val → Prop) (pa : P a) (pb : P b) : ∃ z m', m_L_law_one [.ref w, .lst [a, b]] m = .ok z m' ∧ P z ∧ Dip w m m' := by
  refine one_D (n := 2) hw (by decide) (by decide) (fun m => by rw [len_lst]; rfl) P fun m d hd => ?_
  rw [ix_lst]
  obtain rfl | rfl : d = 0 ∨ d = 1 := by omega
  · exact ⟨a, rfl, pa, .inl (clB_mono 10 a 30 ha (by decide))⟩
  · exact ⟨b, rfl, pb, .inl (clB_mono 10 b 30 hb (by decide))⟩
theorem st1_ok {cs : List (List Nat)} {gs : List G} {w : Nat} {m : Store} (hw : Well w m) {z v : Val} (gz : GoodC cs z) (gv : GoodT v) (a4 a7 a8 a9 a10 : Option Val) :
    ∃ z' v' m', st1 (env w cs gs a4 (some z) (some v) a7 a8 a9 a10) m = .nx (env w cs gs a4 (some z') (some v') a7 a8 a9 a10) m' ∧ GoodC cs z' ∧ GoodT v' ∧ Dip w m m' := by
  obtain ⟨x, m1, e1, hx, D1⟩ := odd_ok hw
  obtain ⟨v', m2, e2, gv', D2⟩ := one_pair (a := x) (b := v) D1.well (oddF_ok hx).1.2 gv.ok.2 GoodT (good_oddT hx) gv
  obtain ⟨y, m3, e3, hy, D3⟩ := odd_ok D2.well
  obtain ⟨z', m4, e4, gz', D4⟩ := one_pair (a := y) (b := z) D3.well (oddF_ok hy).1.2 gz.cl (GoodC cs) (good_oddC hy) gz
  refine ⟨z', v', m4, ?_, gz', gv', ((D1.trans D2).trans D3).trans D4⟩
  try simp only [env] at *
  generalize dk w1 w2 gs = DD
  generalize houseV cs gs = hv
  generalize partsV cs gs = pv
  simp only [seqS, ifS_ap, retS_ap, asgS_ap, exprS_ap, forS_ap, parS_ap, bindS_ap, nextS, orT, andT, notT, tstM, CC.tB, blM, CC.andM, CC.orM, CC.notM, ifM, b2, u1, fA, vM, cM, optR, R.bind, consM, nilM, tupM, lstM, newM, slM, noP, inP, chM, gNameM, gSubM, gFldM, optX, gPc, gTupM, gListM, setAll, oneC, tupC, yesT, itT, itL, itS, itR1, itEnT, callM, isiV, tagOf, truV, sm0, sm1, lmM, dnewM, objV, isNV, List.set, List.length_cons, List.length_nil, List.map_cons, List.map_nil, List.cons_append, List.nil_append, List.append_assoc, List.length_append, List.replicate, List.getElem?_cons_zero, List.getElem?_cons_succ, Option.bind_some, Option.map_some, Option.bind_none, Option.map_none, if_true, if_false, ↓reduceIte, Nat.zero_le, Nat.zero_add, Nat.reduceAdd, Nat.reduceSub, Nat.sub_self, List.append_nil, Nat.reduceLeDiff, Bool.false_eq_true, Bool.not_true, Bool.not_false, Bool.true_eq_false, propM, clsM, noX, mkKM, mkVM, strL, e1, e2, e3, e4]
theorem ask_ok {cs : List (List Nat)} {gs : List G} (hc : roomsB cs) (hg : doorsB cs gs) {w : Nat} {m : Store} {z v : Val} (gz : GoodC cs z) (gv : GoodT v) (a4 a7 a8 a9 a10 : Option Val) :
    ∃ b7 b8, askS (env w cs gs a4 (some z) (some v) a7 a8 a9 a10) m = .nx (env w cs gs a4 (some z) (some v) b7 b8 a9 a10) m := by
  obtain ⟨wd, x, y, h1, h2, h3, h4, h5⟩ := asked hc hg gz gv m
  have k1 := h2 (r := env w cs gs a4 (some z) (some v) (some (.lst [.str wd, x])) a8 a9 a10) rfl rfl rfl
  have k2 := h2 (r := env w cs gs a4 (some z) (some v) (some (.lst [.str wd, x])) (some (.lst [.str wd, x])) a9 a10) rfl rfl rfl
  obtain ⟨t1, r1⟩ := repr_rp (v := .lst [.str wd, x]) ((Rp.lst' (k := 20) (w := 5000) (W := 20000) (fun q hq => by
    simp only [List.mem_cons, List.not_mem_nil, or_false] at hq
    rcases hq with rfl | rfl
    · exact rp_asc h3 (by omega)
    · exact h5) (by simp)).le (by decide) (by decide)) m
  obtain ⟨t2, r2⟩ := repr_rp (v := .str wd) (rp_asc h3 (by omega)) m
  have n1 := ne_text m t1
  have n2 := ne_text m t2
  have i1 : ixV m (.lst [.str wd, x]) (.int 0) = some (.str wd) := by rw [show (0 : Int) = ((0 : Nat) : Int) from rfl, ix_lst]; rfl
  have i2 : ixV m (.lst [.str wd, y]) (.int 0) = some (.str wd) := by rw [show (0 : Int) = ((0 : Nat) : Int) from rfl, ix_lst]; rfl
  refine ⟨some (.lst [.str wd, x]), some (.lst [.str wd, x]), ?_⟩
  refine (seq_nx (r1 := env w cs gs a4 (some z) (some v) (some (.lst [.str wd, x])) a8 a9 a10) (mu1 := m) (by
    try simp only [env] at *
    generalize dk w1 w2 gs = DD
    generalize houseV cs gs = hv
    generalize partsV cs gs = pv at h1 ⊢
    simp only [seqS, ifS_ap, retS_ap, asgS_ap, exprS_ap, forS_ap, parS_ap, bindS_ap, nextS, orT, andT, notT, tstM, CC.tB, blM, CC.andM, CC.orM, CC.notM, ifM, b2, u1, fA, vM, cM, optR, R.bind, consM, nilM, tupM, lstM, newM, slM, noP, inP, chM, gNameM, gSubM, gFldM, optX, gPc, gTupM, gListM, setAll, oneC, tupC, yesT, itT, itL, itS, itR1, itEnT, callM, isiV, tagOf, truV, sm0, sm1, lmM, dnewM, objV, isNV, List.set, List.length_cons, List.length_nil, List.map_cons, List.map_nil, List.cons_append, List.nil_append, List.append_assoc, List.length_append, List.replicate, List.getElem?_cons_zero, List.getElem?_cons_succ, Option.bind_some, Option.map_some, Option.bind_none, Option.map_none, if_true, if_false, ↓reduceIte, Nat.zero_le, Nat.zero_add, Nat.reduceAdd, Nat.reduceSub, Nat.sub_self, List.append_nil, Nat.reduceLeDiff, Bool.false_eq_true, Bool.not_true, Bool.not_false, Bool.true_eq_false, propM, clsM, noX, mkKM, mkVM, strL, h1])).trans ?_
  refine (seq_nx (r1 := env w cs gs a4 (some z) (some v) (some (.lst [.str wd, x])) (some (.lst [.str wd, x])) a9 a10) (mu1 := m) (by
    exact asg_nx k1.1 rfl)).trans ?_
  have k3 := k2.2
  try simp only [env] at *
  generalize dk w1 w2 gs = DD at *
  generalize houseV cs gs = hv at *
  generalize partsV cs gs = pv at *
  have hh : b2 ixV (fun r mu => errM wordL attL toldL ((methM 0 m_House_left (vM 2) (consM (vM 5) (consM (vM 6) nilM))) r mu)) (cM (.int 0)) [some (.ref w), some pv, some hv, some (.dct DD), a4, some z, some v, some (.lst [.str wd, x]), some (.lst [.str wd, x]), a9, a10] m = .ok (.str wd) m := by
    simp only [b2, cM, k3, R.bind, i2, optR]
  generalize b2 ixV (fun r mu => errM wordL attL toldL ((methM 0 m_House_left (vM 2) (consM (vM 5) (consM (vM 6) nilM))) r mu)) (cM (.int 0)) = MM at hh ⊢
  simp only [seqS, ifS_ap, retS_ap, asgS_ap, exprS_ap, forS_ap, parS_ap, bindS_ap, nextS, orT, andT, notT, tstM, CC.tB, blM, CC.andM, CC.orM, CC.notM, ifM, b2, u1, fA, vM, cM, optR, R.bind, consM, nilM, tupM, lstM, newM, slM, noP, inP, chM, gNameM, gSubM, gFldM, optX, gPc, gTupM, gListM, setAll, oneC, tupC, yesT, itT, itL, itS, itR1, itEnT, callM, isiV, tagOf, truV, sm0, sm1, lmM, dnewM, objV, isNV, List.set, List.length_cons, List.length_nil, List.map_cons, List.map_nil, List.cons_append, List.nil_append, List.append_assoc, List.length_append, List.replicate, List.getElem?_cons_zero, List.getElem?_cons_succ, Option.bind_some, Option.map_some, Option.bind_none, Option.map_none, if_true, if_false, ↓reduceIte, Nat.zero_le, Nat.zero_add, Nat.reduceAdd, Nat.reduceSub, Nat.sub_self, List.append_nil, Nat.reduceLeDiff, Bool.false_eq_true, Bool.not_true, Bool.not_false, Bool.true_eq_false, propM, clsM, noX, mkKM, mkVM, strL, hh, r1, r2, n1, n2, i1]
theorem r_turn {cs : List (List Nat)} {gs : List G} (hc : roomsB cs) (hg : doorsB cs gs) {w : Nat} {m : Store} (hw : Well w m) (a4 a5 a6 a7 a8 a9 a10 : Option Val) :
    ∃ b5 b6 b7 b8 b9 b10 m', rBody (env w cs gs a4 a5 a6 a7 a8 a9 a10) m = .nx (env w cs gs a4 b5 b6 b7 b8 b9 b10) m' ∧ Dip w m m' := by
  obtain ⟨c, m1, e1, c1, D1⟩ := one_room hw hc
  obtain ⟨s, t, m2, e2, s1, s2, -, -, D2⟩ := walk_ok hg D1.well c1 (size := 14) (by decide)
  obtain ⟨d, m3, e3, d1, D3⟩ := dip_ok (n := 6) D2.well (by decide) (by decide)
  obtain ⟨k, m4, e4, k1, D4⟩ := dip_ok (n := s.length + 1) D3.well (by omega) (by omega)
  have D := ((D1.trans D2).trans D3).trans D4
  have p0 := p_ix0 cs gs m
  have ll : lenV m3 [.str s] = some (.int s.length) := by
    simp only [lenV]
    rw [if_pos (by omega)]
  have e4' : m_L_law_dip [.ref w, .int ((s.length : Int) + 1)] m3 = .ok (.int k) m4 := e4
  have a1 : addV m3 (.int s.length) (.int 1) = some (.int ((s.length : Int) + 1)) := rfl
  have q1 : ∀ m, CC.eqV m (.int d) (.int 0) = some (.bl (decide ((d : Int) = 0))) := fun m => eq_int
  have q2 : ∀ m, CC.eqV m (.int d) (.int 1) = some (.bl (decide ((d : Int) = 1))) := fun m => eq_int
  -- the first three statements
  have go3 : rBody (env w cs gs a4 a5 a6 a7 a8 a9 a10) m = (seqS (ifS (CC.tB (b2 CC.eqV (vM 9) (cM (.int 0)))) st0 nextS)
    (seqS (ifS (CC.tB (b2 CC.eqV (vM 9) (cM (.int 1)))) st1 nextS) askS)) (env w cs gs a4 (some (.str c)) (some (.str s)) a7 a8 (some (.int d)) (some (.int k))) m4 := by
    refine (seq_nx (r1 := env w cs gs a4 (some (.str c)) a6 a7 a8 a9 a10) (mu1 := m1) (by
      try simp only [env] at *
      generalize dk w1 w2 gs = DD
      generalize houseV cs gs = hv
      generalize partsV cs gs = pv at p0 ⊢
      generalize roomsV cs = rv at p0 e1
      simp only [seqS, ifS_ap, retS_ap, asgS_ap, exprS_ap, forS_ap, parS_ap, bindS_ap, nextS, orT, andT, notT, tstM, CC.tB, blM, CC.andM, CC.orM, CC.notM, ifM, b2, u1, fA, vM, cM, optR, R.bind, consM, nilM, tupM, lstM, newM, slM, noP, inP, chM, gNameM, gSubM, gFldM, optX, gPc, gTupM, gListM, setAll, oneC, tupC, yesT, itT, itL, itS, itR1, itEnT, callM, isiV, tagOf, truV, sm0, sm1, lmM, dnewM, objV, isNV, List.set, List.length_cons, List.length_nil, List.map_cons, List.map_nil, List.cons_append, List.nil_append, List.append_assoc, List.length_append, List.replicate, List.getElem?_cons_zero, List.getElem?_cons_succ, Option.bind_some, Option.map_some, Option.bind_none, Option.map_none, if_true, if_false, ↓reduceIte, Nat.zero_le, Nat.zero_add, Nat.reduceAdd, Nat.reduceSub, Nat.sub_self, List.append_nil, Nat.reduceLeDiff, Bool.false_eq_true, Bool.not_true, Bool.not_false, Bool.true_eq_false, propM, clsM, noX, mkKM, mkVM, strL, p0, e1])).trans ?_
    refine (seq_nx (r1 := env w cs gs a4 (some (.str c)) (some (.str s)) a7 a8 a9 a10) (mu1 := m2) (by
      have e2' : m_L_law_walk_from [.ref w, .dct (dk w1 w2 gs), .str c, .int 14] m1 = .ok (.str s) m2 := e2
      try simp only [env] at *
      generalize dk w1 w2 gs = DD at e2' ⊢
      generalize houseV cs gs = hv
      generalize partsV cs gs = pv
      simp only [seqS, ifS_ap, retS_ap, asgS_ap, exprS_ap, forS_ap, parS_ap, bindS_ap, nextS, orT, andT, notT, tstM, CC.tB, blM, CC.andM, CC.orM, CC.notM, ifM, b2, u1, fA, vM, cM, optR, R.bind, consM, nilM, tupM, lstM, newM, slM, noP, inP, chM, gNameM, gSubM, gFldM, optX, gPc, gTupM, gListM, setAll, oneC, tupC, yesT, itT, itL, itS, itR1, itEnT, callM, isiV, tagOf, truV, sm0, sm1, lmM, dnewM, objV, isNV, List.set, List.length_cons, List.length_nil, List.map_cons, List.map_nil, List.cons_append, List.nil_append, List.append_assoc, List.length_append, List.replicate, List.getElem?_cons_zero, List.getElem?_cons_succ, Option.bind_some, Option.map_some, Option.bind_none, Option.map_none, if_true, if_false, ↓reduceIte, Nat.zero_le, Nat.zero_add, Nat.reduceAdd, Nat.reduceSub, Nat.sub_self, List.append_nil, Nat.reduceLeDiff, Bool.false_eq_true, Bool.not_true, Bool.not_false, Bool.true_eq_false, propM, clsM, noX, mkKM, mkVM, strL, e2'])).trans ?_
    refine (seq_nx (r1 := env w cs gs a4 (some (.str c)) (some (.str s)) a7 a8 (some (.int d)) (some (.int k))) (mu1 := m4) (by
      have e3' : m_L_law_dip [.ref w, .int 6] m2 = .ok (.int d) m3 := e3
      try simp only [env] at *
      generalize dk w1 w2 gs = DD
      generalize houseV cs gs = hv
      generalize partsV cs gs = pv
      simp only [seqS, ifS_ap, retS_ap, asgS_ap, exprS_ap, forS_ap, parS_ap, bindS_ap, nextS, orT, andT, notT, tstM, CC.tB, blM, CC.andM, CC.orM, CC.notM, ifM, b2, u1, fA, vM, cM, optR, R.bind, consM, nilM, tupM, lstM, newM, slM, noP, inP, chM, gNameM, gSubM, gFldM, optX, gPc, gTupM, gListM, setAll, oneC, tupC, yesT, itT, itL, itS, itR1, itEnT, callM, isiV, tagOf, truV, sm0, sm1, lmM, dnewM, objV, isNV, List.set, List.length_cons, List.length_nil, List.map_cons, List.map_nil, List.cons_append, List.nil_append, List.append_assoc, List.length_append, List.replicate, List.getElem?_cons_zero, List.getElem?_cons_succ, Option.bind_some, Option.map_some, Option.bind_none, Option.map_none, if_true, if_false, ↓reduceIte, Nat.zero_le, Nat.zero_add, Nat.reduceAdd, Nat.reduceSub, Nat.sub_self, List.append_nil, Nat.reduceLeDiff, Bool.false_eq_true, Bool.not_true, Bool.not_false, Bool.true_eq_false, propM, clsM, noX, mkKM, mkVM, strL, e3', ll, a1, e4'])).trans ?_
    rfl
  rw [go3]
  have gc := good_room hc c1
  by_cases z0 : (d : Int) = 0
  · obtain ⟨s', m5, f1, f2, f3, D5⟩ := st0_ok hg D4.well s1 s2 (at_ := k) (by omega) a4 (some (.str c)) a7 a8 (some (.int d))
    obtain ⟨b7, b8, f4⟩ := ask_ok (w := w) (m := m5) hc hg gc (good_text (s := s') f2 (by omega)) a4 a7 a8 (some (.int d)) (some (.int k))
    refine ⟨some (.str c), some (.str s'), b7, b8, some (.int d), some (.int k), m5, ?_, D.trans D5⟩
    refine (seq_nx (r1 := env w cs gs a4 (some (.str c)) (some (.str s')) a7 a8 (some (.int d)) (some (.int k))) (mu1 := m5) (by
      rw [ifS_ap]
      have q := q1 m4
      rw [decide_eq_true z0] at q
      try simp only [env] at *
      generalize dk w1 w2 gs = DD at *
      generalize houseV cs gs = hv at *
      generalize partsV cs gs = pv at *
      simp only [CC.tB, b2, vM, cM, R.bind, optR, List.getElem?_cons_zero, List.getElem?_cons_succ, q, if_true]
      exact f1)).trans ?_
    refine (seq_nx (r1 := env w cs gs a4 (some (.str c)) (some (.str s')) a7 a8 (some (.int d)) (some (.int k))) (mu1 := m5) (by
      rw [ifS_ap]
      have q := q2 m5
      rw [decide_eq_false (by omega)] at q
      try simp only [env] at *
      generalize dk w1 w2 gs = DD at *
      generalize houseV cs gs = hv at *
      generalize partsV cs gs = pv at *
      simp only [CC.tB, b2, vM, cM, R.bind, optR, List.getElem?_cons_zero, List.getElem?_cons_succ, q, Bool.false_eq_true, if_false, nextS])).trans ?_
    exact f4
  · have skip0 : ifS (CC.tB (b2 CC.eqV (vM 9) (cM (.int 0)))) st0 nextS (env w cs gs a4 (some (.str c)) (some (.str s)) a7 a8 (some (.int d)) (some (.int k))) m4 = .nx (env w cs gs a4 (some (.str c)) (some (.str s)) a7 a8 (some (.int d)) (some (.int k))) m4 := by
      rw [ifS_ap]
      have q := q1 m4
      rw [decide_eq_false z0] at q
      try simp only [env] at *
      generalize dk w1 w2 gs = DD at *
      generalize houseV cs gs = hv at *
      generalize partsV cs gs = pv at *
      simp only [CC.tB, b2, vM, cM, R.bind, optR, List.getElem?_cons_zero, List.getElem?_cons_succ, q, Bool.false_eq_true, if_false, nextS]
    have gt := good_text (s := s) (fun x hx => isL_lt (s1 x hx)) (by omega)
    by_cases z1 : (d : Int) = 1
    · obtain ⟨z', v', m5, f1, g1, g2, D5⟩ := st1_ok (cs := cs) (gs := gs) D4.well gc gt a4 a7 a8 (some (.int d)) (some (.int k))
      obtain ⟨b7, b8, f4⟩ := ask_ok (w := w) (m := m5) hc hg g1 g2 a4 a7 a8 (some (.int d)) (some (.int k))
      refine ⟨some z', some v', b7, b8, some (.int d), some (.int k), m5, ?_, D.trans D5⟩
      refine (seq_nx skip0).trans ?_
      refine (seq_nx (r1 := env w cs gs a4 (some z') (some v') a7 a8 (some (.int d)) (some (.int k))) (mu1 := m5) (by
        rw [ifS_ap]
        have q := q2 m4
        rw [decide_eq_true z1] at q
        try simp only [env] at *
        generalize dk w1 w2 gs = DD at *
        generalize houseV cs gs = hv at *
        generalize partsV cs gs = pv at *
        simp only [CC.tB, b2, vM, cM, R.bind, optR, List.getElem?_cons_zero, List.getElem?_cons_succ, q, if_true]
        exact f1)).trans ?_
      exact f4
    · obtain ⟨b7, b8, f4⟩ := ask_ok (w := w) (m := m4) hc hg gc gt a4 a7 a8 (some (.int d)) (some (.int k))
      refine ⟨some (.str c), some (.str s), b7, b8, some (.int d), some (.int k), m4, ?_, D⟩
      refine (seq_nx skip0).trans ?_
      refine (seq_nx (r1 := env w cs gs a4 (some (.str c)) (some (.str s)) a7 a8 (some (.int d)) (some (.int k))) (mu1 := m4) (by
        rw [ifS_ap]
        have q := q2 m4
        rw [decide_eq_false z1] at q
        try simp only [env] at *
        generalize dk w1 w2 gs = DD at *
        generalize houseV cs gs = hv at *
        generalize partsV cs gs = pv at *
        simp only [CC.tB, b2, vM, cM, R.bind, optR, List.getElem?_cons_zero, List.getElem?_cons_succ, q, Bool.false_eq_true, if_false, nextS])).trans ?_
      exact f4
theorem right_ok {w : Nat} {mu : Store} (hw : Well w mu) : ∃ mu', m_L_law_right [.ref w] mu = .ok (.bl true) mu' ∧ Dip w mu mu' := by
  obtain ⟨cs, gs, m1, e1, hc, hg, -, D1⟩ := parts_ok (nr := 4) (nd := 4) hw (by decide) (by decide) (by decide) (by decide)
  have mk := house_mk cs gs m1 hc hg
  have wy := m_ways_ok cs gs m1 hg
  have p0 := p_ix0 cs gs m1
  have p1 := p_ix1 cs gs m1
  have e1' : m_L_law_parts [.ref w, .int 4, .int 4] mu = .ok (partsV cs gs) m1 := e1
  have loop := for_ex (mi := itR1 (consM (cM (.int 4)) nilM)) (g := gNameM 4) (body := rBody) (r := env w cs gs none none none none none none none) (mu := m1) (xs := rngL 0 4) (ok := allOk) (mu0 := m1)
    (fun i r' m' => (∃ a4 a5 a6 a7 a8 a9 a10, r' = env w cs gs a4 a5 a6 a7 a8 a9 a10) ∧ Dip w mu m')
    (I := fun r' m' => (∃ a4 a5 a6 a7 a8 a9 a10, r' = env w cs gs a4 a5 a6 a7 a8 a9 a10) ∧ Dip w mu m') rfl (fun _ _ _ _ => trivial) (fun i x r' m' hx ⟨⟨a4, a5, a6, a7, a8, a9, a10, er⟩, D⟩ => by
      subst er
      obtain ⟨b5, b6, b7, b8, b9, b10, m2, t, D2⟩ := r_turn hc hg D.well (some x) a5 a6 a7 a8 a9 a10
      exact ⟨_, _, rfl, _, _, t, ⟨_, _, _, _, _, _, _, rfl⟩, D.trans D2⟩) ⟨⟨_, _, _, _, _, _, _, rfl⟩, D1⟩ (fun r' m' h => h)
  obtain ⟨r1, m2, el, ⟨a4, a5, a6, a7, a8, a9, a10, rfl⟩, D2⟩ := loop
  refine ⟨m2, fin_D0 ?_ D2 rfl, D2⟩
  unfold m0_L_law_right
  refine defK_rt rfl ?_
  unfold b_L_law_right
  refine (seq_nx (r1 := [some (.ref w), some (partsV cs gs), none, none, none, none, none, none, none, none, none]) (mu1 := m1) (by
    generalize partsV cs gs = pv at e1' ⊢
    simp only [seqS, ifS_ap, retS_ap, asgS_ap, exprS_ap, forS_ap, parS_ap, bindS_ap, nextS, orT, andT, notT, tstM, CC.tB, blM, CC.andM, CC.orM, CC.notM, ifM, b2, u1, fA, vM, cM, optR, R.bind, consM, nilM, tupM, lstM, newM, slM, noP, inP, chM, gNameM, gSubM, gFldM, optX, gPc, gTupM, gListM, setAll, oneC, tupC, yesT, itT, itL, itS, itR1, itEnT, callM, isiV, tagOf, truV, sm0, sm1, lmM, dnewM, objV, isNV, List.set, List.length_cons, List.length_nil, List.map_cons, List.map_nil, List.cons_append, List.nil_append, List.append_assoc, List.length_append, List.replicate, List.getElem?_cons_zero, List.getElem?_cons_succ, Option.bind_some, Option.map_some, Option.bind_none, Option.map_none, if_true, if_false, ↓reduceIte, Nat.zero_le, Nat.zero_add, Nat.reduceAdd, Nat.reduceSub, Nat.sub_self, List.append_nil, Nat.reduceLeDiff, Bool.false_eq_true, Bool.not_true, Bool.not_false, Bool.true_eq_false, propM, clsM, noX, mkKM, mkVM, strL, e1'])).trans ?_
  refine (seq_nx (r1 := env w cs gs none none none none none none none) (mu1 := m1) (by
    try simp only [env] at *
    generalize dk w1 w2 gs = DD at *
    generalize houseV cs gs = hv at *
    generalize partsV cs gs = pv at *
    generalize roomsV cs = rv at *
    generalize doorsV gs = dv at *
    simp only [seqS, ifS_ap, retS_ap, asgS_ap, exprS_ap, forS_ap, parS_ap, bindS_ap, nextS, orT, andT, notT, tstM, CC.tB, blM, CC.andM, CC.orM, CC.notM, ifM, b2, u1, fA, vM, cM, optR, R.bind, consM, nilM, tupM, lstM, newM, slM, noP, inP, chM, gNameM, gSubM, gFldM, optX, gPc, gTupM, gListM, setAll, oneC, tupC, yesT, itT, itL, itS, itR1, itEnT, callM, isiV, tagOf, truV, sm0, sm1, lmM, dnewM, objV, isNV, List.set, List.length_cons, List.length_nil, List.map_cons, List.map_nil, List.cons_append, List.nil_append, List.append_assoc, List.length_append, List.replicate, List.getElem?_cons_zero, List.getElem?_cons_succ, Option.bind_some, Option.map_some, Option.bind_none, Option.map_none, if_true, if_false, ↓reduceIte, Nat.zero_le, Nat.zero_add, Nat.reduceAdd, Nat.reduceSub, Nat.sub_self, List.append_nil, Nat.reduceLeDiff, Bool.false_eq_true, Bool.not_true, Bool.not_false, Bool.true_eq_false, propM, clsM, noX, mkKM, mkVM, strL, p0, p1, mk, wy])).trans ?_
  refine (seq_nx el).trans ?_
  try simp only [env] at *
  generalize dk w1 w2 gs = DD
  generalize houseV cs gs = hv
  generalize partsV cs gs = pv
  simp only [seqS, ifS_ap, retS_ap, asgS_ap, exprS_ap, forS_ap, parS_ap, bindS_ap, nextS, orT, andT, notT, tstM, CC.tB, blM, CC.andM, CC.orM, CC.notM, ifM, b2, u1, fA, vM, cM, optR, R.bind, consM, nilM, tupM, lstM, newM, slM, noP, inP, chM, gNameM, gSubM, gFldM, optX, gPc, gTupM, gListM, setAll, oneC, tupC, yesT, itT, itL, itS, itR1, itEnT, callM, isiV, tagOf, truV, sm0, sm1, lmM, dnewM, objV, isNV, List.set, List.length_cons, List.length_nil, List.map_cons, List.map_nil, List.cons_append, List.nil_append, List.append_assoc, List.length_append, List.replicate, List.getElem?_cons_zero, List.getElem?_cons_succ, Option.bind_some, Option.map_some, Option.bind_none, Option.map_none, if_true, if_false, ↓reduceIte, Nat.zero_le, Nat.zero_add, Nat.reduceAdd, Nat.reduceSub, Nat.sub_self, List.append_nil, Nat.reduceLeDiff, Bool.false_eq_true, Bool.not_true, Bool.not_false, Bool.true_eq_false, propM, clsM, noX, mkKM, mkVM, strL]
end K06

set_option Elab.async false
set_option linter.all false
set_option maxRecDepth 100000
set_option maxHeartbeats 2000000
namespace K06
open PySem PySem.Spec PyProof.Rows L2 CC
theorem isx_cls {a : Addr} {C n : Nat} {mu : Store} : isxV a C kt mu [.vw (.ref a), .cls n] = (kt (.inr C) (.inr n)).map Val.bl := by
  simp only [isxV, if_true, tgOf, Option.bind_some]
theorem isx_ty {a : Addr} {C : Nat} {n : String} {mu : Store} : isxV a C kt mu [.vw (.ref a), .ty n] = (kt (.inr C) (.inl n)).map Val.bl := by
  simp only [isxV, if_true, tgOf, Option.bind_some]
theorem isx_tup {a : Addr} {C : Nat} {cs : List Val} {mu : Store} : isxV a C kt mu [.vw (.ref a), .tup cs] = (mapO tgOf cs).bind fun ts => (anyK (kt (.inr C)) ts).map Val.bl := by
  simp only [isxV, if_true]
def kg (p : List Nat × Bool) : Val := .lst [.str p.1, .bl p.2]
def kh (p : List Nat × Bool) : Option Val := if p.2 = true then some (.str p.1) else none
theorem k2_1 : kt (.inr 2) (.inr 1) = some true := by decide +kernel
theorem k2_2 : kt (.inr 2) (.inr 2) = some true := by decide +kernel
theorem k2_3 : kt (.inr 2) (.inr 3) = some false := by decide +kernel
theorem k2_4 : kt (.inr 2) (.inr 4) = some false := by decide +kernel
theorem k2_5 : kt (.inr 2) (.inr 5) = some false := by decide +kernel
theorem k2_6 : kt (.inr 2) (.inr 6) = some false := by decide +kernel
theorem k2_7 : kt (.inr 2) (.inr 7) = some false := by decide +kernel
theorem k2_8 : kt (.inr 2) (.inr 8) = some false := by decide +kernel
theorem k2_9 : kt (.inr 2) (.inr 9) = some false := by decide +kernel
theorem k2_10 : kt (.inr 2) (.inr 10) = some false := by decide +kernel
theorem k2_11 : kt (.inr 2) (.inr 11) = some false := by decide +kernel
theorem k2_12 : kt (.inr 2) (.inr 12) = some false := by decide +kernel
theorem k2_13 : kt (.inr 2) (.inr 13) = some false := by decide +kernel
theorem k2_14 : kt (.inr 2) (.inr 14) = some false := by decide +kernel
theorem k2_15 : kt (.inr 2) (.inr 15) = some false := by decide +kernel
theorem k2_16 : kt (.inr 2) (.inr 16) = some false := by decide +kernel
theorem k2_17 : kt (.inr 2) (.inr 17) = some false := by decide +kernel
theorem k2_18 : kt (.inr 2) (.inr 18) = some false := by decide +kernel
theorem k2_19 : kt (.inr 2) (.inr 19) = some false := by decide +kernel
theorem k2_20 : kt (.inr 2) (.inr 20) = some false := by decide +kernel
theorem k2_ValueError : kt (.inr 2) (.inl "ValueError") = some true := by decide +kernel
theorem k2_LookupError : kt (.inr 2) (.inl "LookupError") = some false := by decide +kernel
theorem k2_ArithmeticError : kt (.inr 2) (.inl "ArithmeticError") = some false := by decide +kernel
theorem class_2 (a : Addr) (xs : List (Addr × List (Str × V))) (mu : Store) : m_L_law_class a 2 xs [.vw (.ref a)] mu = .ok (.str (strN "room")) mu := by
  unfold m_L_law_class
  refine defK_rt rfl ?_
  unfold b_L_law_class
  refine (seq_nx (by simp only [seqS, ifS_ap, retS_ap, asgS_ap, exprS_ap, forS_ap, parS_ap, bindS_ap, nextS, orT, andT, notT, tstM, CC.tB, blM, CC.andM, CC.orM, CC.notM, ifM, b2, u1, fA, vM, cM, optR, R.bind, consM, nilM, tupM, lstM, newM, slM, noP, inP, chM, gNameM, gSubM, gFldM, optX, gPc, gTupM, gListM, setAll, oneC, tupC, yesT, itT, itL, itS, itR1, itEnT, callM, isiV, tagOf, truV, sm0, sm1, lmM, dnewM, objV, isNV, List.set, List.length_cons, List.length_nil, List.map_cons, List.map_nil, List.cons_append, List.nil_append, List.append_assoc, List.length_append, List.replicate, List.getElem?_cons_zero, List.getElem?_cons_succ, Option.bind_some, Option.map_some, Option.bind_none, Option.map_none, if_true, if_false, ↓reduceIte, Nat.zero_le, Nat.zero_add, Nat.reduceAdd, Nat.reduceSub, Nat.sub_self, List.append_nil, Nat.reduceLeDiff, Bool.false_eq_true, Bool.not_true, Bool.not_false, Bool.true_eq_false, propM, clsM, noX, mkKM, mkVM, strL, isx_cls, k2_1, k2_2, k2_3, k2_4, k2_5, k2_6, k2_7, k2_8, k2_9, k2_10, k2_11, k2_12, k2_13, k2_14, k2_15, k2_16, k2_17, k2_18, k2_19, k2_20, k2_ValueError, k2_LookupError, k2_ArithmeticError] <;> rfl)).trans ?_
  refine (seq_nx (by simp only [seqS, ifS_ap, retS_ap, asgS_ap, exprS_ap, forS_ap, parS_ap, bindS_ap, nextS, orT, andT, notT, tstM, CC.tB, blM, CC.andM, CC.orM, CC.notM, ifM, b2, u1, fA, vM, cM, optR, R.bind, consM, nilM, tupM, lstM, newM, slM, noP, inP, chM, gNameM, gSubM, gFldM, optX, gPc, gTupM, gListM, setAll, oneC, tupC, yesT, itT, itL, itS, itR1, itEnT, callM, isiV, tagOf, truV, sm0, sm1, lmM, dnewM, objV, isNV, List.set, List.length_cons, List.length_nil, List.map_cons, List.map_nil, List.cons_append, List.nil_append, List.append_assoc, List.length_append, List.replicate, List.getElem?_cons_zero, List.getElem?_cons_succ, Option.bind_some, Option.map_some, Option.bind_none, Option.map_none, if_true, if_false, ↓reduceIte, Nat.zero_le, Nat.zero_add, Nat.reduceAdd, Nat.reduceSub, Nat.sub_self, List.append_nil, Nat.reduceLeDiff, Bool.false_eq_true, Bool.not_true, Bool.not_false, Bool.true_eq_false, propM, clsM, noX, mkKM, mkVM, strL, isx_cls, k2_1, k2_2, k2_3, k2_4, k2_5, k2_6, k2_7, k2_8, k2_9, k2_10, k2_11, k2_12, k2_13, k2_14, k2_15, k2_16, k2_17, k2_18, k2_19, k2_20, k2_ValueError, k2_LookupError, k2_ArithmeticError, addV, seqL] <;> rfl)).trans ?_
  refine (seq_nx (by simp only [seqS, ifS_ap, retS_ap, asgS_ap, exprS_ap, forS_ap, parS_ap, bindS_ap, nextS, orT, andT, notT, tstM, CC.tB, blM, CC.andM, CC.orM, CC.notM, ifM, b2, u1, fA, vM, cM, optR, R.bind, consM, nilM, tupM, lstM, newM, slM, noP, inP, chM, gNameM, gSubM, gFldM, optX, gPc, gTupM, gListM, setAll, oneC, tupC, yesT, itT, itL, itS, itR1, itEnT, callM, isiV, tagOf, truV, sm0, sm1, lmM, dnewM, objV, isNV, List.set, List.length_cons, List.length_nil, List.map_cons, List.map_nil, List.cons_append, List.nil_append, List.append_assoc, List.length_append, List.replicate, List.getElem?_cons_zero, List.getElem?_cons_succ, Option.bind_some, Option.map_some, Option.bind_none, Option.map_none, if_true, if_false, ↓reduceIte, Nat.zero_le, Nat.zero_add, Nat.reduceAdd, Nat.reduceSub, Nat.sub_self, List.append_nil, Nat.reduceLeDiff, Bool.false_eq_true, Bool.not_true, Bool.not_false, Bool.true_eq_false, propM, clsM, noX, mkKM, mkVM, strL, isx_cls, k2_1, k2_2, k2_3, k2_4, k2_5, k2_6, k2_7, k2_8, k2_9, k2_10, k2_11, k2_12, k2_13, k2_14, k2_15, k2_16, k2_17, k2_18, k2_19, k2_20, k2_ValueError, k2_LookupError, k2_ArithmeticError, addV, seqL] <;> rfl)).trans ?_
  refine (seq_nx (by simp only [seqS, ifS_ap, retS_ap, asgS_ap, exprS_ap, forS_ap, parS_ap, bindS_ap, nextS, orT, andT, notT, tstM, CC.tB, blM, CC.andM, CC.orM, CC.notM, ifM, b2, u1, fA, vM, cM, optR, R.bind, consM, nilM, tupM, lstM, newM, slM, noP, inP, chM, gNameM, gSubM, gFldM, optX, gPc, gTupM, gListM, setAll, oneC, tupC, yesT, itT, itL, itS, itR1, itEnT, callM, isiV, tagOf, truV, sm0, sm1, lmM, dnewM, objV, isNV, List.set, List.length_cons, List.length_nil, List.map_cons, List.map_nil, List.cons_append, List.nil_append, List.append_assoc, List.length_append, List.replicate, List.getElem?_cons_zero, List.getElem?_cons_succ, Option.bind_some, Option.map_some, Option.bind_none, Option.map_none, if_true, if_false, ↓reduceIte, Nat.zero_le, Nat.zero_add, Nat.reduceAdd, Nat.reduceSub, Nat.sub_self, List.append_nil, Nat.reduceLeDiff, Bool.false_eq_true, Bool.not_true, Bool.not_false, Bool.true_eq_false, propM, clsM, noX, mkKM, mkVM, strL, isx_cls, k2_1, k2_2, k2_3, k2_4, k2_5, k2_6, k2_7, k2_8, k2_9, k2_10, k2_11, k2_12, k2_13, k2_14, k2_15, k2_16, k2_17, k2_18, k2_19, k2_20, k2_ValueError, k2_LookupError, k2_ArithmeticError, addV, seqL] <;> rfl)).trans ?_
  refine (seq_nx (by simp only [seqS, ifS_ap, retS_ap, asgS_ap, exprS_ap, forS_ap, parS_ap, bindS_ap, nextS, orT, andT, notT, tstM, CC.tB, blM, CC.andM, CC.orM, CC.notM, ifM, b2, u1, fA, vM, cM, optR, R.bind, consM, nilM, tupM, lstM, newM, slM, noP, inP, chM, gNameM, gSubM, gFldM, optX, gPc, gTupM, gListM, setAll, oneC, tupC, yesT, itT, itL, itS, itR1, itEnT, callM, isiV, tagOf, truV, sm0, sm1, lmM, dnewM, objV, isNV, List.set, List.length_cons, List.length_nil, List.map_cons, List.map_nil, List.cons_append, List.nil_append, List.append_assoc, List.length_append, List.replicate, List.getElem?_cons_zero, List.getElem?_cons_succ, Option.bind_some, Option.map_some, Option.bind_none, Option.map_none, if_true, if_false, ↓reduceIte, Nat.zero_le, Nat.zero_add, Nat.reduceAdd, Nat.reduceSub, Nat.sub_self, List.append_nil, Nat.reduceLeDiff, Bool.false_eq_true, Bool.not_true, Bool.not_false, Bool.true_eq_false, propM, clsM, noX, mkKM, mkVM, strL, isx_cls, k2_1, k2_2, k2_3, k2_4, k2_5, k2_6, k2_7, k2_8, k2_9, k2_10, k2_11, k2_12, k2_13, k2_14, k2_15, k2_16, k2_17, k2_18, k2_19, k2_20, k2_ValueError, k2_LookupError, k2_ArithmeticError, addV, seqL] <;> rfl)).trans ?_
  refine (seq_nx (by simp only [seqS, ifS_ap, retS_ap, asgS_ap, exprS_ap, forS_ap, parS_ap, bindS_ap, nextS, orT, andT, notT, tstM, CC.tB, blM, CC.andM, CC.orM, CC.notM, ifM, b2, u1, fA, vM, cM, optR, R.bind, consM, nilM, tupM, lstM, newM, slM, noP, inP, chM, gNameM, gSubM, gFldM, optX, gPc, gTupM, gListM, setAll, oneC, tupC, yesT, itT, itL, itS, itR1, itEnT, callM, isiV, tagOf, truV, sm0, sm1, lmM, dnewM, objV, isNV, List.set, List.length_cons, List.length_nil, List.map_cons, List.map_nil, List.cons_append, List.nil_append, List.append_assoc, List.length_append, List.replicate, List.getElem?_cons_zero, List.getElem?_cons_succ, Option.bind_some, Option.map_some, Option.bind_none, Option.map_none, if_true, if_false, ↓reduceIte, Nat.zero_le, Nat.zero_add, Nat.reduceAdd, Nat.reduceSub, Nat.sub_self, List.append_nil, Nat.reduceLeDiff, Bool.false_eq_true, Bool.not_true, Bool.not_false, Bool.true_eq_false, propM, clsM, noX, mkKM, mkVM, strL, isx_cls, k2_1, k2_2, k2_3, k2_4, k2_5, k2_6, k2_7, k2_8, k2_9, k2_10, k2_11, k2_12, k2_13, k2_14, k2_15, k2_16, k2_17, k2_18, k2_19, k2_20, k2_ValueError, k2_LookupError, k2_ArithmeticError, addV, seqL] <;> rfl)).trans ?_
  refine (seq_nx (by simp only [seqS, ifS_ap, retS_ap, asgS_ap, exprS_ap, forS_ap, parS_ap, bindS_ap, nextS, orT, andT, notT, tstM, CC.tB, blM, CC.andM, CC.orM, CC.notM, ifM, b2, u1, fA, vM, cM, optR, R.bind, consM, nilM, tupM, lstM, newM, slM, noP, inP, chM, gNameM, gSubM, gFldM, optX, gPc, gTupM, gListM, setAll, oneC, tupC, yesT, itT, itL, itS, itR1, itEnT, callM, isiV, tagOf, truV, sm0, sm1, lmM, dnewM, objV, isNV, List.set, List.length_cons, List.length_nil, List.map_cons, List.map_nil, List.cons_append, List.nil_append, List.append_assoc, List.length_append, List.replicate, List.getElem?_cons_zero, List.getElem?_cons_succ, Option.bind_some, Option.map_some, Option.bind_none, Option.map_none, if_true, if_false, ↓reduceIte, Nat.zero_le, Nat.zero_add, Nat.reduceAdd, Nat.reduceSub, Nat.sub_self, List.append_nil, Nat.reduceLeDiff, Bool.false_eq_true, Bool.not_true, Bool.not_false, Bool.true_eq_false, propM, clsM, noX, mkKM, mkVM, strL, isx_cls, k2_1, k2_2, k2_3, k2_4, k2_5, k2_6, k2_7, k2_8, k2_9, k2_10, k2_11, k2_12, k2_13, k2_14, k2_15, k2_16, k2_17, k2_18, k2_19, k2_20, k2_ValueError, k2_LookupError, k2_ArithmeticError, addV, seqL] <;> rfl)).trans ?_
  refine (seq_nx (by simp only [seqS, ifS_ap, retS_ap, asgS_ap, exprS_ap, forS_ap, parS_ap, bindS_ap, nextS, orT, andT, notT, tstM, CC.tB, blM, CC.andM, CC.orM, CC.notM, ifM, b2, u1, fA, vM, cM, optR, R.bind, consM, nilM, tupM, lstM, newM, slM, noP, inP, chM, gNameM, gSubM, gFldM, optX, gPc, gTupM, gListM, setAll, oneC, tupC, yesT, itT, itL, itS, itR1, itEnT, callM, isiV, tagOf, truV, sm0, sm1, lmM, dnewM, objV, isNV, List.set, List.length_cons, List.length_nil, List.map_cons, List.map_nil, List.cons_append, List.nil_append, List.append_assoc, List.length_append, List.replicate, List.getElem?_cons_zero, List.getElem?_cons_succ, Option.bind_some, Option.map_some, Option.bind_none, Option.map_none, if_true, if_false, ↓reduceIte, Nat.zero_le, Nat.zero_add, Nat.reduceAdd, Nat.reduceSub, Nat.sub_self, List.append_nil, Nat.reduceLeDiff, Bool.false_eq_true, Bool.not_true, Bool.not_false, Bool.true_eq_false, propM, clsM, noX, mkKM, mkVM, strL, isx_cls, k2_1, k2_2, k2_3, k2_4, k2_5, k2_6, k2_7, k2_8, k2_9, k2_10, k2_11, k2_12, k2_13, k2_14, k2_15, k2_16, k2_17, k2_18, k2_19, k2_20, k2_ValueError, k2_LookupError, k2_ArithmeticError, addV, seqL] <;> rfl)).trans ?_
  have e : lcM (itL (vM 1)) [3, 4] (lstC 2) (tstM (vM 4)) (vM 3) [3, 4] [some (.vw (.ref a)), some (.lst (([(strN "room", true), (strN "door", false), (strN "walk", false), (strN "course", false), (strN "number", false), (strN "text", false), (strN "house", false), (strN "program", false), (strN "plan", false), (strN "courses", false), (strN "rooms", false), (strN "doors", false), (strN "programs", false), (strN "items", false), (strN "unknown", false), (strN "unjoined", false), (strN "other", false)] : List (List Nat × Bool)).map kg)), none, none, none] mu = .ok (.lst [.str (strN "room")]) mu :=
    lcM_ok (xs := ([(strN "room", true), (strN "door", false), (strN "walk", false), (strN "course", false), (strN "number", false), (strN "text", false), (strN "house", false), (strN "program", false), (strN "plan", false), (strN "courses", false), (strN "rooms", false), (strN "doors", false), (strN "programs", false), (strN "items", false), (strN "unknown", false), (strN "unjoined", false), (strN "other", false)] : List (List Nat × Bool)).map kg) (ys := ([(strN "room", true), (strN "door", false), (strN "walk", false), (strN "course", false), (strN "number", false), (strN "text", false), (strN "house", false), (strN "program", false), (strN "plan", false), (strN "courses", false), (strN "rooms", false), (strN "doors", false), (strN "programs", false), (strN "items", false), (strN "unknown", false), (strN "unjoined", false), (strN "other", false)] : List (List Nat × Bool)).filterMap kh) (ok := allOk) (mu1 := mu) rfl (by simp) (lcL_fm trivial kg kh _ fun y _ => ⟨[.str y.1, .bl y.2], rfl, by
      cases h : y.2
      · exact .inl ⟨rfl, by simp [kh, h]⟩
      · exact .inr ⟨rfl, .str y.1, rfl, by simp [kh, h]⟩⟩)
  simp only [kg, List.map_cons, List.map_nil] at e
  refine (seq_nx (by simp only [seqS, ifS_ap, retS_ap, asgS_ap, exprS_ap, forS_ap, parS_ap, bindS_ap, nextS, orT, andT, notT, tstM, CC.tB, blM, CC.andM, CC.orM, CC.notM, ifM, b2, u1, fA, vM, cM, optR, R.bind, consM, nilM, tupM, lstM, newM, slM, noP, inP, chM, gNameM, gSubM, gFldM, optX, gPc, gTupM, gListM, setAll, oneC, tupC, yesT, itT, itL, itS, itR1, itEnT, callM, isiV, tagOf, truV, sm0, sm1, lmM, dnewM, objV, isNV, List.set, List.length_cons, List.length_nil, List.map_cons, List.map_nil, List.cons_append, List.nil_append, List.append_assoc, List.length_append, List.replicate, List.getElem?_cons_zero, List.getElem?_cons_succ, Option.bind_some, Option.map_some, Option.bind_none, Option.map_none, if_true, if_false, ↓reduceIte, Nat.zero_le, Nat.zero_add, Nat.reduceAdd, Nat.reduceSub, Nat.sub_self, List.append_nil, Nat.reduceLeDiff, Bool.false_eq_true, Bool.not_true, Bool.not_false, Bool.true_eq_false, propM, clsM, noX, mkKM, mkVM, strL, e] <;> rfl)).trans ?_
  have e1 : CC.eqV mu (.int ((1 : Nat) : Int)) (.int 1) = some (.bl true) := rfl
  have e2 : ixV mu (.lst [.str (strN "room")]) (.int 0) = some (.str (strN "room")) := rfl
  simp only [seqS, ifS_ap, retS_ap, asgS_ap, exprS_ap, forS_ap, parS_ap, bindS_ap, nextS, orT, andT, notT, tstM, CC.tB, blM, CC.andM, CC.orM, CC.notM, ifM, b2, u1, fA, vM, cM, optR, R.bind, consM, nilM, tupM, lstM, newM, slM, noP, inP, chM, gNameM, gSubM, gFldM, optX, gPc, gTupM, gListM, setAll, oneC, tupC, yesT, itT, itL, itS, itR1, itEnT, callM, isiV, tagOf, truV, sm0, sm1, lmM, dnewM, objV, isNV, List.set, List.length_cons, List.length_nil, List.map_cons, List.map_nil, List.cons_append, List.nil_append, List.append_assoc, List.length_append, List.replicate, List.getElem?_cons_zero, List.getElem?_cons_succ, Option.bind_some, Option.map_some, Option.bind_none, Option.map_none, if_true, if_false, ↓reduceIte, Nat.zero_le, Nat.zero_add, Nat.reduceAdd, Nat.reduceSub, Nat.sub_self, List.append_nil, Nat.reduceLeDiff, Bool.false_eq_true, Bool.not_true, Bool.not_false, Bool.true_eq_false, propM, clsM, noX, mkKM, mkVM, strL, len_lst, List.length_cons, List.length_nil, e1, e2]
theorem has_2 (a dx : Addr) (v : V) (mu : Store) : m_L_law_has a 2 [(dx, [(aN 0, v)])] [.vw (.ref a)] mu = .ok (.vw v) mu := by
  unfold m_L_law_has
  refine defK_rt rfl ?_
  unfold b_L_law_has
  have x0 : xatV a [(dx, [(aN 0, v)])] 0 mu (.vw (.ref a)) = some (.vw v) := by simp [xatV, List.lookup]
  refine (seq_nx (by simp only [seqS, ifS_ap, retS_ap, asgS_ap, exprS_ap, forS_ap, parS_ap, bindS_ap, nextS, orT, andT, notT, tstM, CC.tB, blM, CC.andM, CC.orM, CC.notM, ifM, b2, u1, fA, vM, cM, optR, R.bind, consM, nilM, tupM, lstM, newM, slM, noP, inP, chM, gNameM, gSubM, gFldM, optX, gPc, gTupM, gListM, setAll, oneC, tupC, yesT, itT, itL, itS, itR1, itEnT, callM, isiV, tagOf, truV, sm0, sm1, lmM, dnewM, objV, isNV, List.set, List.length_cons, List.length_nil, List.map_cons, List.map_nil, List.cons_append, List.nil_append, List.append_assoc, List.length_append, List.replicate, List.getElem?_cons_zero, List.getElem?_cons_succ, Option.bind_some, Option.map_some, Option.bind_none, Option.map_none, if_true, if_false, ↓reduceIte, Nat.zero_le, Nat.zero_add, Nat.reduceAdd, Nat.reduceSub, Nat.sub_self, List.append_nil, Nat.reduceLeDiff, Bool.false_eq_true, Bool.not_true, Bool.not_false, Bool.true_eq_false, propM, clsM, noX, mkKM, mkVM, strL, isx_tup, mapO, tgOf, anyK, k2_1, k2_2, k2_3, k2_4, k2_5, k2_6, k2_7, k2_8, k2_9, k2_10, k2_11, k2_12, k2_13, k2_14, k2_15, k2_16, k2_17, k2_18, k2_19, k2_20, k2_ValueError, k2_LookupError, k2_ArithmeticError] <;> rfl)).trans ?_
  simp only [seqS, ifS_ap, retS_ap, asgS_ap, exprS_ap, forS_ap, parS_ap, bindS_ap, nextS, orT, andT, notT, tstM, CC.tB, blM, CC.andM, CC.orM, CC.notM, ifM, b2, u1, fA, vM, cM, optR, R.bind, consM, nilM, tupM, lstM, newM, slM, noP, inP, chM, gNameM, gSubM, gFldM, optX, gPc, gTupM, gListM, setAll, oneC, tupC, yesT, itT, itL, itS, itR1, itEnT, callM, isiV, tagOf, truV, sm0, sm1, lmM, dnewM, objV, isNV, List.set, List.length_cons, List.length_nil, List.map_cons, List.map_nil, List.cons_append, List.nil_append, List.append_assoc, List.length_append, List.replicate, List.getElem?_cons_zero, List.getElem?_cons_succ, Option.bind_some, Option.map_some, Option.bind_none, Option.map_none, if_true, if_false, ↓reduceIte, Nat.zero_le, Nat.zero_add, Nat.reduceAdd, Nat.reduceSub, Nat.sub_self, List.append_nil, Nat.reduceLeDiff, Bool.false_eq_true, Bool.not_true, Bool.not_false, Bool.true_eq_false, propM, clsM, noX, mkKM, mkVM, strL, isx_tup, mapO, tgOf, anyK, k2_1, k2_2, k2_3, k2_4, k2_5, k2_6, k2_7, k2_8, k2_9, k2_10, k2_11, k2_12, k2_13, k2_14, k2_15, k2_16, k2_17, k2_18, k2_19, k2_20, k2_ValueError, k2_LookupError, k2_ArithmeticError, x0]
theorem sm_2 (a dx : Addr) (v : V) (mu : Store) : sm_L_law_error a 2 [(dx, [(aN 0, v)])] [none, none, some (.vw (.ref a)), none, none] mu = .rt (.lst [.str (strN "room"), .vw v]) mu := by
  unfold sm_L_law_error
  refine (seq_nx (by simp only [seqS, ifS_ap, retS_ap, asgS_ap, exprS_ap, forS_ap, parS_ap, bindS_ap, nextS, orT, andT, notT, tstM, CC.tB, blM, CC.andM, CC.orM, CC.notM, ifM, b2, u1, fA, vM, cM, optR, R.bind, consM, nilM, tupM, lstM, newM, slM, noP, inP, chM, gNameM, gSubM, gFldM, optX, gPc, gTupM, gListM, setAll, oneC, tupC, yesT, itT, itL, itS, itR1, itEnT, callM, isiV, tagOf, truV, sm0, sm1, lmM, dnewM, objV, isNV, List.set, List.length_cons, List.length_nil, List.map_cons, List.map_nil, List.cons_append, List.nil_append, List.append_assoc, List.length_append, List.replicate, List.getElem?_cons_zero, List.getElem?_cons_succ, Option.bind_some, Option.map_some, Option.bind_none, Option.map_none, if_true, if_false, ↓reduceIte, Nat.zero_le, Nat.zero_add, Nat.reduceAdd, Nat.reduceSub, Nat.sub_self, List.append_nil, Nat.reduceLeDiff, Bool.false_eq_true, Bool.not_true, Bool.not_false, Bool.true_eq_false, propM, clsM, noX, mkKM, mkVM, strL, isx_cls, k2_1, k2_2, k2_3, k2_4, k2_5, k2_6, k2_7, k2_8, k2_9, k2_10, k2_11, k2_12, k2_13, k2_14, k2_15, k2_16, k2_17, k2_18, k2_19, k2_20, k2_ValueError, k2_LookupError, k2_ArithmeticError] <;> rfl)).trans ?_
  refine (seq_nx (by simp only [seqS, ifS_ap, retS_ap, asgS_ap, exprS_ap, forS_ap, parS_ap, bindS_ap, nextS, orT, andT, notT, tstM, CC.tB, blM, CC.andM, CC.orM, CC.notM, ifM, b2, u1, fA, vM, cM, optR, R.bind, consM, nilM, tupM, lstM, newM, slM, noP, inP, chM, gNameM, gSubM, gFldM, optX, gPc, gTupM, gListM, setAll, oneC, tupC, yesT, itT, itL, itS, itR1, itEnT, callM, isiV, tagOf, truV, sm0, sm1, lmM, dnewM, objV, isNV, List.set, List.length_cons, List.length_nil, List.map_cons, List.map_nil, List.cons_append, List.nil_append, List.append_assoc, List.length_append, List.replicate, List.getElem?_cons_zero, List.getElem?_cons_succ, Option.bind_some, Option.map_some, Option.bind_none, Option.map_none, if_true, if_false, ↓reduceIte, Nat.zero_le, Nat.zero_add, Nat.reduceAdd, Nat.reduceSub, Nat.sub_self, List.append_nil, Nat.reduceLeDiff, Bool.false_eq_true, Bool.not_true, Bool.not_false, Bool.true_eq_false, propM, clsM, noX, mkKM, mkVM, strL, isx_ty, k2_1, k2_2, k2_3, k2_4, k2_5, k2_6, k2_7, k2_8, k2_9, k2_10, k2_11, k2_12, k2_13, k2_14, k2_15, k2_16, k2_17, k2_18, k2_19, k2_20, k2_ValueError, k2_LookupError, k2_ArithmeticError] <;> rfl)).trans ?_
  have e1 := (plLst plB).eqV (mu := mu) (by decide) [true, false, false] [true, false, false]
  simp only [plLst, plB, List.map_cons, List.map_nil, eq_self, decide_true] at e1
  have e2 : ∀ bs : List Bool, bs = [true, false, false] → cntV (bs.map Val.bl) (.bl true) = some (.int 1) := fun bs e => by subst e; rfl
  have e2 := e2 _ rfl
  simp only [List.map_cons, List.map_nil] at e2
  have e3 : CC.eqV mu (.int 1) (.int 1) = some (.bl true) := rfl
  simp only [seqS, ifS_ap, retS_ap, asgS_ap, exprS_ap, forS_ap, parS_ap, bindS_ap, nextS, orT, andT, notT, tstM, CC.tB, blM, CC.andM, CC.orM, CC.notM, ifM, b2, u1, fA, vM, cM, optR, R.bind, consM, nilM, tupM, lstM, newM, slM, noP, inP, chM, gNameM, gSubM, gFldM, optX, gPc, gTupM, gListM, setAll, oneC, tupC, yesT, itT, itL, itS, itR1, itEnT, callM, isiV, tagOf, truV, sm0, sm1, lmM, dnewM, objV, isNV, List.set, List.length_cons, List.length_nil, List.map_cons, List.map_nil, List.cons_append, List.nil_append, List.append_assoc, List.length_append, List.replicate, List.getElem?_cons_zero, List.getElem?_cons_succ, Option.bind_some, Option.map_some, Option.bind_none, Option.map_none, if_true, if_false, ↓reduceIte, Nat.zero_le, Nat.zero_add, Nat.reduceAdd, Nat.reduceSub, Nat.sub_self, List.append_nil, Nat.reduceLeDiff, Bool.false_eq_true, Bool.not_true, Bool.not_false, Bool.true_eq_false, propM, clsM, noX, mkKM, mkVM, strL, e1, cntM, e2, e3, class_2, has_2 a dx v]
theorem k4_1 : kt (.inr 4) (.inr 1) = some true := by decide +kernel
theorem k4_2 : kt (.inr 4) (.inr 2) = some false := by decide +kernel
theorem k4_3 : kt (.inr 4) (.inr 3) = some false := by decide +kernel
theorem k4_4 : kt (.inr 4) (.inr 4) = some true := by decide +kernel
theorem k4_5 : kt (.inr 4) (.inr 5) = some false := by decide +kernel
theorem k4_6 : kt (.inr 4) (.inr 6) = some false := by decide +kernel
theorem k4_7 : kt (.inr 4) (.inr 7) = some false := by decide +kernel
theorem k4_8 : kt (.inr 4) (.inr 8) = some false := by decide +kernel
theorem k4_9 : kt (.inr 4) (.inr 9) = some false := by decide +kernel
theorem k4_10 : kt (.inr 4) (.inr 10) = some false := by decide +kernel
theorem k4_11 : kt (.inr 4) (.inr 11) = some false := by decide +kernel
theorem k4_12 : kt (.inr 4) (.inr 12) = some false := by decide +kernel
theorem k4_13 : kt (.inr 4) (.inr 13) = some false := by decide +kernel
theorem k4_14 : kt (.inr 4) (.inr 14) = some false := by decide +kernel
theorem k4_15 : kt (.inr 4) (.inr 15) = some false := by decide +kernel
theorem k4_16 : kt (.inr 4) (.inr 16) = some false := by decide +kernel
theorem k4_17 : kt (.inr 4) (.inr 17) = some false := by decide +kernel
theorem k4_18 : kt (.inr 4) (.inr 18) = some false := by decide +kernel
theorem k4_19 : kt (.inr 4) (.inr 19) = some false := by decide +kernel
theorem k4_20 : kt (.inr 4) (.inr 20) = some false := by decide +kernel
theorem k4_ValueError : kt (.inr 4) (.inl "ValueError") = some true := by decide +kernel
theorem k4_LookupError : kt (.inr 4) (.inl "LookupError") = some false := by decide +kernel
theorem k4_ArithmeticError : kt (.inr 4) (.inl "ArithmeticError") = some false := by decide +kernel
theorem class_4 (a : Addr) (xs : List (Addr × List (Str × V))) (mu : Store) : m_L_law_class a 4 xs [.vw (.ref a)] mu = .ok (.str (strN "walk")) mu := by
  unfold m_L_law_class
  refine defK_rt rfl ?_
  unfold b_L_law_class
  refine (seq_nx (by simp only [seqS, ifS_ap, retS_ap, asgS_ap, exprS_ap, forS_ap, parS_ap, bindS_ap, nextS, orT, andT, notT, tstM, CC.tB, blM, CC.andM, CC.orM, CC.notM, ifM, b2, u1, fA, vM, cM, optR, R.bind, consM, nilM, tupM, lstM, newM, slM, noP, inP, chM, gNameM, gSubM, gFldM, optX, gPc, gTupM, gListM, setAll, oneC, tupC, yesT, itT, itL, itS, itR1, itEnT, callM, isiV, tagOf, truV, sm0, sm1, lmM, dnewM, objV, isNV, List.set, List.length_cons, List.length_nil, List.map_cons, List.map_nil, List.cons_append, List.nil_append, List.append_assoc, List.length_append, List.replicate, List.getElem?_cons_zero, List.getElem?_cons_succ, Option.bind_some, Option.map_some, Option.bind_none, Option.map_none, if_true, if_false, ↓reduceIte, Nat.zero_le, Nat.zero_add, Nat.reduceAdd, Nat.reduceSub, Nat.sub_self, List.append_nil, Nat.reduceLeDiff, Bool.false_eq_true, Bool.not_true, Bool.not_false, Bool.true_eq_false, propM, clsM, noX, mkKM, mkVM, strL, isx_cls, k4_1, k4_2, k4_3, k4_4, k4_5, k4_6, k4_7, k4_8, k4_9, k4_10, k4_11, k4_12, k4_13, k4_14, k4_15, k4_16, k4_17, k4_18, k4_19, k4_20, k4_ValueError, k4_LookupError, k4_ArithmeticError] <;> rfl)).trans ?_
  refine (seq_nx (by simp only [seqS, ifS_ap, retS_ap, asgS_ap, exprS_ap, forS_ap, parS_ap, bindS_ap, nextS, orT, andT, notT, tstM, CC.tB, blM, CC.andM, CC.orM, CC.notM, ifM, b2, u1, fA, vM, cM, optR, R.bind, consM, nilM, tupM, lstM, newM, slM, noP, inP, chM, gNameM, gSubM, gFldM, optX, gPc, gTupM, gListM, setAll, oneC, tupC, yesT, itT, itL, itS, itR1, itEnT, callM, isiV, tagOf, truV, sm0, sm1, lmM, dnewM, objV, isNV, List.set, List.length_cons, List.length_nil, List.map_cons, List.map_nil, List.cons_append, List.nil_append, List.append_assoc, List.length_append, List.replicate, List.getElem?_cons_zero, List.getElem?_cons_succ, Option.bind_some, Option.map_some, Option.bind_none, Option.map_none, if_true, if_false, ↓reduceIte, Nat.zero_le, Nat.zero_add, Nat.reduceAdd, Nat.reduceSub, Nat.sub_self, List.append_nil, Nat.reduceLeDiff, Bool.false_eq_true, Bool.not_true, Bool.not_false, Bool.true_eq_false, propM, clsM, noX, mkKM, mkVM, strL, isx_cls, k4_1, k4_2, k4_3, k4_4, k4_5, k4_6, k4_7, k4_8, k4_9, k4_10, k4_11, k4_12, k4_13, k4_14, k4_15, k4_16, k4_17, k4_18, k4_19, k4_20, k4_ValueError, k4_LookupError, k4_ArithmeticError, addV, seqL] <;> rfl)).trans ?_
  refine (seq_nx (by simp only [seqS, ifS_ap, retS_ap, asgS_ap, exprS_ap, forS_ap, parS_ap, bindS_ap, nextS, orT, andT, notT, tstM, CC.tB, blM, CC.andM, CC.orM, CC.notM, ifM, b2, u1, fA, vM, cM, optR, R.bind, consM, nilM, tupM, lstM, newM, slM, noP, inP, chM, gNameM, gSubM, gFldM, optX, gPc, gTupM, gListM, setAll, oneC, tupC, yesT, itT, itL, itS, itR1, itEnT, callM, isiV, tagOf, truV, sm0, sm1, lmM, dnewM, objV, isNV, List.set, List.length_cons, List.length_nil, List.map_cons, List.map_nil, List.cons_append, List.nil_append, List.append_assoc, List.length_append, List.replicate, List.getElem?_cons_zero, List.getElem?_cons_succ, Option.bind_some, Option.map_some, Option.bind_none, Option.map_none, if_true, if_false, ↓reduceIte, Nat.zero_le, Nat.zero_add, Nat.reduceAdd, Nat.reduceSub, Nat.sub_self, List.append_nil, Nat.reduceLeDiff, Bool.false_eq_true, Bool.not_true, Bool.not_false, Bool.true_eq_false, propM, clsM, noX, mkKM, mkVM, strL, isx_cls, k4_1, k4_2, k4_3, k4_4, k4_5, k4_6, k4_7, k4_8, k4_9, k4_10, k4_11, k4_12, k4_13, k4_14, k4_15, k4_16, k4_17, k4_18, k4_19, k4_20, k4_ValueError, k4_LookupError, k4_ArithmeticError, addV, seqL] <;> rfl)).trans ?_
  refine (seq_nx (by simp only [seqS, ifS_ap, retS_ap, asgS_ap, exprS_ap, forS_ap, parS_ap, bindS_ap, nextS, orT, andT, notT, tstM, CC.tB, blM, CC.andM, CC.orM, CC.notM, ifM, b2, u1, fA, vM, cM, optR, R.bind, consM, nilM, tupM, lstM, newM, slM, noP, inP, chM, gNameM, gSubM, gFldM, optX, gPc, gTupM, gListM, setAll, oneC, tupC, yesT, itT, itL, itS, itR1, itEnT, callM, isiV, tagOf, truV, sm0, sm1, lmM, dnewM, objV, isNV, List.set, List.length_cons, List.length_nil, List.map_cons, List.map_nil, List.cons_append, List.nil_append, List.append_assoc, List.length_append, List.replicate, List.getElem?_cons_zero, List.getElem?_cons_succ, Option.bind_some, Option.map_some, Option.bind_none, Option.map_none, if_true, if_false, ↓reduceIte, Nat.zero_le, Nat.zero_add, Nat.reduceAdd, Nat.reduceSub, Nat.sub_self, List.append_nil, Nat.reduceLeDiff, Bool.false_eq_true, Bool.not_true, Bool.not_false, Bool.true_eq_false, propM, clsM, noX, mkKM, mkVM, strL, isx_cls, k4_1, k4_2, k4_3, k4_4, k4_5, k4_6, k4_7, k4_8, k4_9, k4_10, k4_11, k4_12, k4_13, k4_14, k4_15, k4_16, k4_17, k4_18, k4_19, k4_20, k4_ValueError, k4_LookupError, k4_ArithmeticError, addV, seqL] <;> rfl)).trans ?_
  refine (seq_nx (by simp only [seqS, ifS_ap, retS_ap, asgS_ap, exprS_ap, forS_ap, parS_ap, bindS_ap, nextS, orT, andT, notT, tstM, CC.tB, blM, CC.andM, CC.orM, CC.notM, ifM, b2, u1, fA, vM, cM, optR, R.bind, consM, nilM, tupM, lstM, newM, slM, noP, inP, chM, gNameM, gSubM, gFldM, optX, gPc, gTupM, gListM, setAll, oneC, tupC, yesT, itT, itL, itS, itR1, itEnT, callM, isiV, tagOf, truV, sm0, sm1, lmM, dnewM, objV, isNV, List.set, List.length_cons, List.length_nil, List.map_cons, List.map_nil, List.cons_append, List.nil_append, List.append_assoc, List.length_append, List.replicate, List.getElem?_cons_zero, List.getElem?_cons_succ, Option.bind_some, Option.map_some, Option.bind_none, Option.map_none, if_true, if_false, ↓reduceIte, Nat.zero_le, Nat.zero_add, Nat.reduceAdd, Nat.reduceSub, Nat.sub_self, List.append_nil, Nat.reduceLeDiff, Bool.false_eq_true, Bool.not_true, Bool.not_false, Bool.true_eq_false, propM, clsM, noX, mkKM, mkVM, strL, isx_cls, k4_1, k4_2, k4_3, k4_4, k4_5, k4_6, k4_7, k4_8, k4_9, k4_10, k4_11, k4_12, k4_13, k4_14, k4_15, k4_16, k4_17, k4_18, k4_19, k4_20, k4_ValueError, k4_LookupError, k4_ArithmeticError, addV, seqL] <;> rfl)).trans ?_
  refine (seq_nx (by simp only [seqS, ifS_ap, retS_ap, asgS_ap, exprS_ap, forS_ap, parS_ap, bindS_ap, nextS, orT, andT, notT, tstM, CC.tB, blM, CC.andM, CC.orM, CC.notM, ifM, b2, u1, fA, vM, cM, optR, R.bind, consM, nilM, tupM, lstM, newM, slM, noP, inP, chM, gNameM, gSubM, gFldM, optX, gPc, gTupM, gListM, setAll, oneC, tupC, yesT, itT, itL, itS, itR1, itEnT, callM, isiV, tagOf, truV, sm0, sm1, lmM, dnewM, objV, isNV, List.set, List.length_cons, List.length_nil, List.map_cons, List.map_nil, List.cons_append, List.nil_append, List.append_assoc, List.length_append, List.replicate, List.getElem?_cons_zero, List.getElem?_cons_succ, Option.bind_some, Option.map_some, Option.bind_none, Option.map_none, if_true, if_false, ↓reduceIte, Nat.zero_le, Nat.zero_add, Nat.reduceAdd, Nat.reduceSub, Nat.sub_self, List.append_nil, Nat.reduceLeDiff, Bool.false_eq_true, Bool.not_true, Bool.not_false, Bool.true_eq_false, propM, clsM, noX, mkKM, mkVM, strL, isx_cls, k4_1, k4_2, k4_3, k4_4, k4_5, k4_6, k4_7, k4_8, k4_9, k4_10, k4_11, k4_12, k4_13, k4_14, k4_15, k4_16, k4_17, k4_18, k4_19, k4_20, k4_ValueError, k4_LookupError, k4_ArithmeticError, addV, seqL] <;> rfl)).trans ?_
  refine (seq_nx (by simp only [seqS, ifS_ap, retS_ap, asgS_ap, exprS_ap, forS_ap, parS_ap, bindS_ap, nextS, orT, andT, notT, tstM, CC.tB, blM, CC.andM, CC.orM, CC.notM, ifM, b2, u1, fA, vM, cM, optR, R.bind, consM, nilM, tupM, lstM, newM, slM, noP, inP, chM, gNameM, gSubM, gFldM, optX, gPc, gTupM, gListM, setAll, oneC, tupC, yesT, itT, itL, itS, itR1, itEnT, callM, isiV, tagOf, truV, sm0, sm1, lmM, dnewM, objV, isNV, List.set, List.length_cons, List.length_nil, List.map_cons, List.map_nil, List.cons_append, List.nil_append, List.append_assoc, List.length_append, List.replicate, List.getElem?_cons_zero, List.getElem?_cons_succ, Option.bind_some, Option.map_some, Option.bind_none, Option.map_none, if_true, if_false, ↓reduceIte, Nat.zero_le, Nat.zero_add, Nat.reduceAdd, Nat.reduceSub, Nat.sub_self, List.append_nil, Nat.reduceLeDiff, Bool.false_eq_true, Bool.not_true, Bool.not_false, Bool.true_eq_false, propM, clsM, noX, mkKM, mkVM, strL, isx_cls, k4_1, k4_2, k4_3, k4_4, k4_5, k4_6, k4_7, k4_8, k4_9, k4_10, k4_11, k4_12, k4_13, k4_14, k4_15, k4_16, k4_17, k4_18, k4_19, k4_20, k4_ValueError, k4_LookupError, k4_ArithmeticError, addV, seqL] <;> rfl)).trans ?_
  refine (seq_nx (by simp only [seqS, ifS_ap, retS_ap, asgS_ap, exprS_ap, forS_ap, parS_ap, bindS_ap, nextS, orT, andT, notT, tstM, CC.tB, blM, CC.andM, CC.orM, CC.notM, ifM, b2, u1, fA, vM, cM, optR, R.bind, consM, nilM, tupM, lstM, newM, slM, noP, inP, chM, gNameM, gSubM, gFldM, optX, gPc, gTupM, gListM, setAll, oneC, tupC, yesT, itT, itL, itS, itR1, itEnT, callM, isiV, tagOf, truV, sm0, sm1, lmM, dnewM, objV, isNV, List.set, List.length_cons, List.length_nil, List.map_cons, List.map_nil, List.cons_append, List.nil_append, List.append_assoc, List.length_append, List.replicate, List.getElem?_cons_zero, List.getElem?_cons_succ, Option.bind_some, Option.map_some, Option.bind_none, Option.map_none, if_true, if_false, ↓reduceIte, Nat.zero_le, Nat.zero_add, Nat.reduceAdd, Nat.reduceSub, Nat.sub_self, List.append_nil, Nat.reduceLeDiff, Bool.false_eq_true, Bool.not_true, Bool.not_false, Bool.true_eq_false, propM, clsM, noX, mkKM, mkVM, strL, isx_cls, k4_1, k4_2, k4_3, k4_4, k4_5, k4_6, k4_7, k4_8, k4_9, k4_10, k4_11, k4_12, k4_13, k4_14, k4_15, k4_16, k4_17, k4_18, k4_19, k4_20, k4_ValueError, k4_LookupError, k4_ArithmeticError, addV, seqL] <;> rfl)).trans ?_
  have e : lcM (itL (vM 1)) [3, 4] (lstC 2) (tstM (vM 4)) (vM 3) [3, 4] [some (.vw (.ref a)), some (.lst (([(strN "room", false), (strN "door", false), (strN "walk", true), (strN "course", false), (strN "number", false), (strN "text", false), (strN "house", false), (strN "program", false), (strN "plan", false), (strN "courses", false), (strN "rooms", false), (strN "doors", false), (strN "programs", false), (strN "items", false), (strN "unknown", false), (strN "unjoined", false), (strN "other", false)] : List (List Nat × Bool)).map kg)), none, none, none] mu = .ok (.lst [.str (strN "walk")]) mu :=
    lcM_ok (xs := ([(strN "room", false), (strN "door", false), (strN "walk", true), (strN "course", false), (strN "number", false), (strN "text", false), (strN "house", false), (strN "program", false), (strN "plan", false), (strN "courses", false), (strN "rooms", false), (strN "doors", false), (strN "programs", false), (strN "items", false), (strN "unknown", false), (strN "unjoined", false), (strN "other", false)] : List (List Nat × Bool)).map kg) (ys := ([(strN "room", false), (strN "door", false), (strN "walk", true), (strN "course", false), (strN "number", false), (strN "text", false), (strN "house", false), (strN "program", false), (strN "plan", false), (strN "courses", false), (strN "rooms", false), (strN "doors", false), (strN "programs", false), (strN "items", false), (strN "unknown", false), (strN "unjoined", false), (strN "other", false)] : List (List Nat × Bool)).filterMap kh) (ok := allOk) (mu1 := mu) rfl (by simp) (lcL_fm trivial kg kh _ fun y _ => ⟨[.str y.1, .bl y.2], rfl, by
      cases h : y.2
      · exact .inl ⟨rfl, by simp [kh, h]⟩
      · exact .inr ⟨rfl, .str y.1, rfl, by simp [kh, h]⟩⟩)
  simp only [kg, List.map_cons, List.map_nil] at e
  refine (seq_nx (by simp only [seqS, ifS_ap, retS_ap, asgS_ap, exprS_ap, forS_ap, parS_ap, bindS_ap, nextS, orT, andT, notT, tstM, CC.tB, blM, CC.andM, CC.orM, CC.notM, ifM, b2, u1, fA, vM, cM, optR, R.bind, consM, nilM, tupM, lstM, newM, slM, noP, inP, chM, gNameM, gSubM, gFldM, optX, gPc, gTupM, gListM, setAll, oneC, tupC, yesT, itT, itL, itS, itR1, itEnT, callM, isiV, tagOf, truV, sm0, sm1, lmM, dnewM, objV, isNV, List.set, List.length_cons, List.length_nil, List.map_cons, List.map_nil, List.cons_append, List.nil_append, List.append_assoc, List.length_append, List.replicate, List.getElem?_cons_zero, List.getElem?_cons_succ, Option.bind_some, Option.map_some, Option.bind_none, Option.map_none, if_true, if_false, ↓reduceIte, Nat.zero_le, Nat.zero_add, Nat.reduceAdd, Nat.reduceSub, Nat.sub_self, List.append_nil, Nat.reduceLeDiff, Bool.false_eq_true, Bool.not_true, Bool.not_false, Bool.true_eq_false, propM, clsM, noX, mkKM, mkVM, strL, e] <;> rfl)).trans ?_
  have e1 : CC.eqV mu (.int ((1 : Nat) : Int)) (.int 1) = some (.bl true) := rfl
  have e2 : ixV mu (.lst [.str (strN "walk")]) (.int 0) = some (.str (strN "walk")) := rfl
  simp only [seqS, ifS_ap, retS_ap, asgS_ap, exprS_ap, forS_ap, parS_ap, bindS_ap, nextS, orT, andT, notT, tstM, CC.tB, blM, CC.andM, CC.orM, CC.notM, ifM, b2, u1, fA, vM, cM, optR, R.bind, consM, nilM, tupM, lstM, newM, slM, noP, inP, chM, gNameM, gSubM, gFldM, optX, gPc, gTupM, gListM, setAll, oneC, tupC, yesT, itT, itL, itS, itR1, itEnT, callM, isiV, tagOf, truV, sm0, sm1, lmM, dnewM, objV, isNV, List.set, List.length_cons, List.length_nil, List.map_cons, List.map_nil, List.cons_append, List.nil_append, List.append_assoc, List.length_append, List.replicate, List.getElem?_cons_zero, List.getElem?_cons_succ, Option.bind_some, Option.map_some, Option.bind_none, Option.map_none, if_true, if_false, ↓reduceIte, Nat.zero_le, Nat.zero_add, Nat.reduceAdd, Nat.reduceSub, Nat.sub_self, List.append_nil, Nat.reduceLeDiff, Bool.false_eq_true, Bool.not_true, Bool.not_false, Bool.true_eq_false, propM, clsM, noX, mkKM, mkVM, strL, len_lst, List.length_cons, List.length_nil, e1, e2]
theorem has_4 (a dx : Addr) (v : V) (mu : Store) : m_L_law_has a 4 [(dx, [(aN 0, v)])] [.vw (.ref a)] mu = .ok (.vw v) mu := by
  unfold m_L_law_has
  refine defK_rt rfl ?_
  unfold b_L_law_has
  have x0 : xatV a [(dx, [(aN 0, v)])] 0 mu (.vw (.ref a)) = some (.vw v) := by simp [xatV, List.lookup]
  refine (seq_nx (by simp only [seqS, ifS_ap, retS_ap, asgS_ap, exprS_ap, forS_ap, parS_ap, bindS_ap, nextS, orT, andT, notT, tstM, CC.tB, blM, CC.andM, CC.orM, CC.notM, ifM, b2, u1, fA, vM, cM, optR, R.bind, consM, nilM, tupM, lstM, newM, slM, noP, inP, chM, gNameM, gSubM, gFldM, optX, gPc, gTupM, gListM, setAll, oneC, tupC, yesT, itT, itL, itS, itR1, itEnT, callM, isiV, tagOf, truV, sm0, sm1, lmM, dnewM, objV, isNV, List.set, List.length_cons, List.length_nil, List.map_cons, List.map_nil, List.cons_append, List.nil_append, List.append_assoc, List.length_append, List.replicate, List.getElem?_cons_zero, List.getElem?_cons_succ, Option.bind_some, Option.map_some, Option.bind_none, Option.map_none, if_true, if_false, ↓reduceIte, Nat.zero_le, Nat.zero_add, Nat.reduceAdd, Nat.reduceSub, Nat.sub_self, List.append_nil, Nat.reduceLeDiff, Bool.false_eq_true, Bool.not_true, Bool.not_false, Bool.true_eq_false, propM, clsM, noX, mkKM, mkVM, strL, isx_tup, mapO, tgOf, anyK, k4_1, k4_2, k4_3, k4_4, k4_5, k4_6, k4_7, k4_8, k4_9, k4_10, k4_11, k4_12, k4_13, k4_14, k4_15, k4_16, k4_17, k4_18, k4_19, k4_20, k4_ValueError, k4_LookupError, k4_ArithmeticError] <;> rfl)).trans ?_
  simp only [seqS, ifS_ap, retS_ap, asgS_ap, exprS_ap, forS_ap, parS_ap, bindS_ap, nextS, orT, andT, notT, tstM, CC.tB, blM, CC.andM, CC.orM, CC.notM, ifM, b2, u1, fA, vM, cM, optR, R.bind, consM, nilM, tupM, lstM, newM, slM, noP, inP, chM, gNameM, gSubM, gFldM, optX, gPc, gTupM, gListM, setAll, oneC, tupC, yesT, itT, itL, itS, itR1, itEnT, callM, isiV, tagOf, truV, sm0, sm1, lmM, dnewM, objV, isNV, List.set, List.length_cons, List.length_nil, List.map_cons, List.map_nil, List.cons_append, List.nil_append, List.append_assoc, List.length_append, List.replicate, List.getElem?_cons_zero, List.getElem?_cons_succ, Option.bind_some, Option.map_some, Option.bind_none, Option.map_none, if_true, if_false, ↓reduceIte, Nat.zero_le, Nat.zero_add, Nat.reduceAdd, Nat.reduceSub, Nat.sub_self, List.append_nil, Nat.reduceLeDiff, Bool.false_eq_true, Bool.not_true, Bool.not_false, Bool.true_eq_false, propM, clsM, noX, mkKM, mkVM, strL, isx_tup, mapO, tgOf, anyK, k4_1, k4_2, k4_3, k4_4, k4_5, k4_6, k4_7, k4_8, k4_9, k4_10, k4_11, k4_12, k4_13, k4_14, k4_15, k4_16, k4_17, k4_18, k4_19, k4_20, k4_ValueError, k4_LookupError, k4_ArithmeticError, x0]
theorem sm_4 (a dx : Addr) (v : V) (mu : Store) : sm_L_law_error a 4 [(dx, [(aN 0, v)])] [none, none, some (.vw (.ref a)), none, none] mu = .rt (.lst [.str (strN "walk"), .vw v]) mu := by
  unfold sm_L_law_error
  refine (seq_nx (by simp only [seqS, ifS_ap, retS_ap, asgS_ap, exprS_ap, forS_ap, parS_ap, bindS_ap, nextS, orT, andT, notT, tstM, CC.tB, blM, CC.andM, CC.orM, CC.notM, ifM, b2, u1, fA, vM, cM, optR, R.bind, consM, nilM, tupM, lstM, newM, slM, noP, inP, chM, gNameM, gSubM, gFldM, optX, gPc, gTupM, gListM, setAll, oneC, tupC, yesT, itT, itL, itS, itR1, itEnT, callM, isiV, tagOf, truV, sm0, sm1, lmM, dnewM, objV, isNV, List.set, List.length_cons, List.length_nil, List.map_cons, List.map_nil, List.cons_append, List.nil_append, List.append_assoc, List.length_append, List.replicate, List.getElem?_cons_zero, List.getElem?_cons_succ, Option.bind_some, Option.map_some, Option.bind_none, Option.map_none, if_true, if_false, ↓reduceIte, Nat.zero_le, Nat.zero_add, Nat.reduceAdd, Nat.reduceSub, Nat.sub_self, List.append_nil, Nat.reduceLeDiff, Bool.false_eq_true, Bool.not_true, Bool.not_false, Bool.true_eq_false, propM, clsM, noX, mkKM, mkVM, strL, isx_cls, k4_1, k4_2, k4_3, k4_4, k4_5, k4_6, k4_7, k4_8, k4_9, k4_10, k4_11, k4_12, k4_13, k4_14, k4_15, k4_16, k4_17, k4_18, k4_19, k4_20, k4_ValueError, k4_LookupError, k4_ArithmeticError] <;> rfl)).trans ?_
  refine (seq_nx (by simp only [seqS, ifS_ap, retS_ap, asgS_ap, exprS_ap, forS_ap, parS_ap, bindS_ap, nextS, orT, andT, notT, tstM, CC.tB, blM, CC.andM, CC.orM, CC.notM, ifM, b2, u1, fA, vM, cM, optR, R.bind, consM, nilM, tupM, lstM, newM, slM, noP, inP, chM, gNameM, gSubM, gFldM, optX, gPc, gTupM, gListM, setAll, oneC, tupC, yesT, itT, itL, itS, itR1, itEnT, callM, isiV, tagOf, truV, sm0, sm1, lmM, dnewM, objV, isNV, List.set, List.length_cons, List.length_nil, List.map_cons, List.map_nil, List.cons_append, List.nil_append, List.append_assoc, List.length_append, List.replicate, List.getElem?_cons_zero, List.getElem?_cons_succ, Option.bind_some, Option.map_some, Option.bind_none, Option.map_none, if_true, if_false, ↓reduceIte, Nat.zero_le, Nat.zero_add, Nat.reduceAdd, Nat.reduceSub, Nat.sub_self, List.append_nil, Nat.reduceLeDiff, Bool.false_eq_true, Bool.not_true, Bool.not_false, Bool.true_eq_false, propM, clsM, noX, mkKM, mkVM, strL, isx_ty, k4_1, k4_2, k4_3, k4_4, k4_5, k4_6, k4_7, k4_8, k4_9, k4_10, k4_11, k4_12, k4_13, k4_14, k4_15, k4_16, k4_17, k4_18, k4_19, k4_20, k4_ValueError, k4_LookupError, k4_ArithmeticError] <;> rfl)).trans ?_
  have e1 := (plLst plB).eqV (mu := mu) (by decide) [true, false, false] [true, false, false]
  simp only [plLst, plB, List.map_cons, List.map_nil, eq_self, decide_true] at e1
  have e2 : ∀ bs : List Bool, bs = [true, false, false] → cntV (bs.map Val.bl) (.bl true) = some (.int 1) := fun bs e => by subst e; rfl
  have e2 := e2 _ rfl
  simp only [List.map_cons, List.map_nil] at e2
  have e3 : CC.eqV mu (.int 1) (.int 1) = some (.bl true) := rfl
  simp only [seqS, ifS_ap, retS_ap, asgS_ap, exprS_ap, forS_ap, parS_ap, bindS_ap, nextS, orT, andT, notT, tstM, CC.tB, blM, CC.andM, CC.orM, CC.notM, ifM, b2, u1, fA, vM, cM, optR, R.bind, consM, nilM, tupM, lstM, newM, slM, noP, inP, chM, gNameM, gSubM, gFldM, optX, gPc, gTupM, gListM, setAll, oneC, tupC, yesT, itT, itL, itS, itR1, itEnT, callM, isiV, tagOf, truV, sm0, sm1, lmM, dnewM, objV, isNV, List.set, List.length_cons, List.length_nil, List.map_cons, List.map_nil, List.cons_append, List.nil_append, List.append_assoc, List.length_append, List.replicate, List.getElem?_cons_zero, List.getElem?_cons_succ, Option.bind_some, Option.map_some, Option.bind_none, Option.map_none, if_true, if_false, ↓reduceIte, Nat.zero_le, Nat.zero_add, Nat.reduceAdd, Nat.reduceSub, Nat.sub_self, List.append_nil, Nat.reduceLeDiff, Bool.false_eq_true, Bool.not_true, Bool.not_false, Bool.true_eq_false, propM, clsM, noX, mkKM, mkVM, strL, e1, cntM, e2, e3, class_4, has_4 a dx v]
theorem suite_ok : SuiteOk wordL attL sm_L_law_error 5 := by
  refine ⟨fun C w m hw hm a dx v mu r hr => ?_, fun C w hw hm a xs mu r hr => ?_⟩
  all_goals subst hr
  · have hC := look_mem hw
    simp only [WL, List.map_cons, List.map_nil, List.mem_cons, List.not_mem_nil, or_false] at hC
    rcases hC with rfl | rfl
    · cases hw; cases hm; exact sm_2 a dx v mu
    · cases hw; cases hm; exact sm_4 a dx v mu
  · have hC := look_mem hw
    simp only [WL, List.map_cons, List.map_nil, List.mem_cons, List.not_mem_nil, or_false] at hC
    rcases hC with rfl | rfl
    · cases hm
    · cases hm
end K06

set_option Elab.async false
set_option linter.all false
set_option maxRecDepth 100000
set_option maxHeartbeats 2000000
namespace K06
open PySem PySem.Spec PyProof.Rows L2 CC
abbrev hC : List (List Nat) := [strN "hall", strN "yard"]
abbrev hG : List G := [(97, strN "hall", strN "yard"), (98, strN "hall", strN "yard"), (99, strN "hall", strN "hall")]
theorem hC_B : roomsB hC := by unfold roomsB; decide +kernel
theorem hG_B : doorsB hC hG := by unfold doorsB; decide +kernel
abbrev Rw : Type := List Nat × List Nat × List Nat × List Nat
abbrev rw4 (a b c d : Str) : Rw := (strN a, strN b, strN c, strN d)
def rowsA : List Rw := [rw4 "hall" "" "hall" "", rw4 "yard" "Aa" "yard" "", rw4 "hall" "cCcC" "hall" "", rw4 "hall" "aBbA" "hall" ""]
def rowsB : List Rw := [rw4 "yard" "AcCb" "yard" "Ab", rw4 "hall" "a" "yard" "a", rw4 "hall" "aBcbA" "hall" "aBcbA"]
abbrev rwV (p : Rw) : Val := .lst [.str p.1, .str p.2.1, .str p.2.2.1, .str p.2.2.2]
theorem rows_ok : ∀ p ∈ rowsA ++ rowsB, p.1 ∈ hC ∧ go hG p.1 p.2.1 = some p.2.2.1 ∧ (stk p.2.1 []).reverse = p.2.2.2 ∧ p.2.1.length ≤ 1000 ∧ ∀ x ∈ p.2.1, x < 128 := by unfold rowsA rowsB; decide +kernel
noncomputable abbrev lwBody : MS := (ifS (CC.tB (b2 CC.neV (lstM (consM (methM 0 m_House_end (vM 1) (consM (vM 3) (consM (vM 4) nilM))) (consM (methM 0 m_House_left (vM 1) (consM (vM 3) (consM (vM 4) nilM))) nilM))) (lstM (consM (vM 5) (consM (tupM (consM (vM 3) (consM (vM 6) nilM))) nilM))))) (retS (cM (.bl false))) nextS)
theorem row_turn {p : Rw} (hp : p ∈ rowsA ++ rowsB) (a0 a2 a7 : Option Val) (m : Store) : lwBody [a0, some (houseV hC hG), a2, some (.str p.1), some (.str p.2.1), some (.str p.2.2.1), some (.str p.2.2.2), a7] m = .nx [a0, some (houseV hC hG), a2, some (.str p.1), some (.str p.2.1), some (.str p.2.2.1), some (.str p.2.2.2), a7] m := by
  obtain ⟨h1, h2, h3, h4, h5⟩ := rows_ok p hp
  have e1 : m_House_end [houseV hC hG, .str p.1, .str p.2.1] m = .ok (.str p.2.2.1) m := fin_cl0 (hend_ok h1 h4 hG h2 m) rfl
  have e2 : m_House_left [houseV hC hG, .str p.1, .str p.2.1] m = .ok (.tup [.str p.1, .str p.2.2.2]) m := fin_cl0 (by rw [left_ok h1 h4 h5 hG h2 m, h3]) rfl
  have o : objV m (houseV hC hG) = some (0, [(3, roomsV hC), (4, doorsV hG), (5, .dct (startsD hG)), (6, .dct (goalsD hG))]) := rfl
  have ne : CC.neV m (.lst [.str p.2.2.1, .tup [.str p.1, .str p.2.2.2]]) (.lst [.str p.2.2.1, .tup [.str p.1, .str p.2.2.2]]) = some (.bl false) := by
    have td : toD1 m (.lst [.str p.2.2.1, .tup [.str p.1, .str p.2.2.2]]) = some (.list [.str (S p.2.2.1), .tuple [.str (S p.1), .str (S p.2.2.2)]]) := by
      refine toD1_td ?_
      rw [toD]
      simp only [mapO, toD_str]
      rw [toD]
      simp only [mapO, toD_str]
      rfl
    unfold CC.neV
    rw [td]
    simp only [eqv_lst, PyData.eqvAll, eqv_tup, eqv_str, decide_true, Bool.and_self, Bool.not_true]
  generalize houseV hC hG = hv at *
  simp only [seqS, ifS_ap, retS_ap, asgS_ap, exprS_ap, forS_ap, parS_ap, bindS_ap, nextS, orT, andT, notT, tstM, CC.tB, blM, CC.andM, CC.orM, CC.notM, ifM, b2, u1, fA, vM, cM, optR, R.bind, consM, nilM, tupM, lstM, newM, slM, noP, inP, chM, gNameM, gSubM, gFldM, optX, gPc, gTupM, gListM, setAll, oneC, tupC, yesT, itT, itL, itS, itR1, itEnT, callM, isiV, tagOf, truV, sm0, sm1, lmM, dnewM, isNV, List.set, List.length_cons, List.length_nil, List.map_cons, List.map_nil, List.cons_append, List.nil_append, List.append_assoc, List.length_append, List.replicate, List.getElem?_cons_zero, List.getElem?_cons_succ, Option.bind_some, Option.map_some, Option.bind_none, Option.map_none, if_true, if_false, ↓reduceIte, Nat.zero_le, Nat.zero_add, Nat.reduceAdd, Nat.reduceSub, Nat.sub_self, List.append_nil, Nat.reduceLeDiff, Bool.false_eq_true, Bool.not_true, Bool.not_false, Bool.true_eq_false, propM, clsM, noX, mkKM, mkVM, strL, methM, o, e1, e2, ne]
theorem plain (ns : List Int) (h1 : ns.length ≤ 63) (h2 : ∀ z ∈ ns, PySem.Builtin.Int.intBits z ≤ 1048576) : ∃ mu, m_law [.scr ns] [] = .ok (.bl true) mu := by
  suffices h : ∃ mu, m0_law [.scr ns] [] = .ok (.bl true) mu by
    obtain ⟨mu, e⟩ := h
    refine ⟨[], ?_⟩
    refine fin_pl (d := .bool true) (ex := mu) ?_ rfl
    rw [List.nil_append]
    exact e
  suffices h : ∃ mu, b_law [some (.scr ns), none, none, none, none, none, none, none] [] = .rt (.bl true) mu by
    obtain ⟨mu, e⟩ := h
    refine ⟨mu, ?_⟩
    unfold m0_law
    exact defK_rt rfl e
  have step1 : ∀ r : Env1, r[0]? = some (some (.scr ns)) → ∃ n : Nat, n ≤ 4 ∧ itR1 (consM (fA maxV (consM (cM (.int 2)) (consM (fA minV (consM (fA lenV (consM (vM 0) nilM)) (consM (cM (.int 4)) nilM))) nilM))) nilM) r [] = .ok (rngL 0 n, allOk) [] := fun r hr => by
    have hv : vM 0 r [] = .ok (.scr ns) [] := by simp only [vM, hr]
    by_cases c1 : (4 : Int) < ns.length
    · refine ⟨4, by decide, ?_⟩
      simp only [itR1, fA, consM, nilM, hv, R.bind, cM, len_scr, optR, minV, maxV, c1, if_true, if_false]
      rfl
    · by_cases c2 : (2 : Int) < ns.length
      · refine ⟨ns.length, by omega, ?_⟩
        simp only [itR1, fA, consM, nilM, hv, R.bind, cM, len_scr, optR, minV, maxV, c1, c2, if_true, if_false]
        rw [if_pos (by omega)]
        rfl
      · refine ⟨2, by omega, ?_⟩
        simp only [itR1, fA, consM, nilM, hv, R.bind, cM, len_scr, optR, minV, maxV, c1, c2, if_true, if_false]
        rfl
  have mk := house_mk hC hG [] hC_B hG_B
  have ad : addV [] (.lst (rowsA.map rwV)) (.lst (rowsB.map rwV)) = some (.lst ((rowsA ++ rowsB).map rwV)) := rfl
  have loop := for_ex (mi := itL (vM 2)) (g := gPc [3, 4, 5, 6] (lstC 4)) (body := lwBody) (r := [some (.scr ns), some (houseV hC hG), some (.lst ((rowsA ++ rowsB).map rwV)), none, none, none, none, none]) (mu := []) (xs := (rowsA ++ rowsB).map rwV) (ok := allOk) (mu0 := [])
    (fun i r' m' => (∃ a3 a4 a5 a6, r' = [some (.scr ns), some (houseV hC hG), some (.lst ((rowsA ++ rowsB).map rwV)), a3, a4, a5, a6, none]) ∧ m' = [])
    (I := fun r' m' => (∃ a3 a4 a5 a6, r' = [some (.scr ns), some (houseV hC hG), some (.lst ((rowsA ++ rowsB).map rwV)), a3, a4, a5, a6, none]) ∧ m' = []) rfl (fun _ _ _ _ => trivial) (fun i x r' m' hx ⟨⟨a3, a4, a5, a6, er⟩, em⟩ => by
      subst er em
      obtain ⟨p, hp, rfl⟩ := List.mem_map.mp (List.mem_of_getElem? hx)
      have t := row_turn hp (some (.scr ns)) (some (.lst ((rowsA ++ rowsB).map rwV))) none []
      exact ⟨_, _, rfl, _, _, t, ⟨_, _, _, _, rfl⟩, rfl⟩) ⟨⟨_, _, _, _, rfl⟩, rfl⟩ (fun r' m' h => h)
  obtain ⟨r1, m1, el, ⟨a3, a4, a5, a6, rfl⟩, rfl⟩ := loop
  obtain ⟨n, hn, hi⟩ := step1 [some (.scr ns), some (houseV hC hG), some (.lst ((rowsA ++ rowsB).map rwV)), a3, a4, a5, a6, none] rfl
  obtain ⟨mu2, e2, -⟩ := lcM_all (is := [7]) (f := oneC) (e := callM m_L_law_right (consM (callM m_L_law_well (consM (vM 0) (consM (vM 7) nilM))) nilM)) (vs := [7]) (fun _ => True) hi (by rw [rngL_len]; omega) (fun _ _ => trivial) (fun x m hx _ => by
    obtain ⟨k, hk, rfl⟩ := rngL_mem hx
    rw [show (0 : Int) + k = k by omega]
    obtain ⟨a', b', ew⟩ := well_ok ns k m
    obtain ⟨m2, er, -⟩ := right_ok (well_at m a' b')
    refine ⟨[.int k], rfl, m2, ?_, trivial⟩
    generalize houseV hC hG = hv
    simp only [seqS, ifS_ap, retS_ap, asgS_ap, exprS_ap, forS_ap, parS_ap, bindS_ap, nextS, orT, andT, notT, tstM, CC.tB, blM, CC.andM, CC.orM, CC.notM, ifM, b2, u1, fA, vM, cM, optR, R.bind, consM, nilM, tupM, lstM, newM, slM, noP, inP, chM, gNameM, gSubM, gFldM, optX, gPc, gTupM, gListM, setAll, oneC, tupC, yesT, itT, itL, itS, itR1, itEnT, callM, isiV, tagOf, truV, sm0, sm1, lmM, dnewM, objV, isNV, List.set, List.length_cons, List.length_nil, List.map_cons, List.map_nil, List.cons_append, List.nil_append, List.append_assoc, List.length_append, List.replicate, List.getElem?_cons_zero, List.getElem?_cons_succ, Option.bind_some, Option.map_some, Option.bind_none, Option.map_none, if_true, if_false, ↓reduceIte, Nat.zero_le, Nat.zero_add, Nat.reduceAdd, Nat.reduceSub, Nat.sub_self, List.append_nil, Nat.reduceLeDiff, Bool.false_eq_true, Bool.not_true, Bool.not_false, Bool.true_eq_false, propM, clsM, noX, mkKM, mkVM, strL, wipeE, ew, er]) trivial
  refine ⟨mu2, ?_⟩
  unfold b_law
  refine (seq_nx (r1 := [some (.scr ns), some (houseV hC hG), none, none, none, none, none, none]) (mu1 := []) (asg_nx (v := houseV hC hG) (mu1 := []) ?_ rfl)).trans ?_
  · generalize houseV hC hG = hv at *
    exact mk
  refine (seq_nx (r1 := [some (.scr ns), some (houseV hC hG), some (.lst (rowsA.map rwV)), none, none, none, none, none]) (mu1 := []) (asg_nx (v := .lst (rowsA.map rwV)) (mu1 := []) rfl rfl)).trans ?_
  refine (seq_nx (r1 := [some (.scr ns), some (houseV hC hG), some (.lst ((rowsA ++ rowsB).map rwV)), none, none, none, none, none]) (mu1 := []) (asg_nx (v := .lst ((rowsA ++ rowsB).map rwV)) (mu1 := []) rfl rfl)).trans ?_
  refine (seq_nx el).trans ?_
  rw [retS_ap, e2]
end K06

set_option Elab.async false
set_option linter.all false
set_option maxRecDepth 100000
set_option maxHeartbeats 0
namespace K06
open PySem PySem.Spec PyProof.Rows L2 CC LamX
theorem fac_of {K : PySem.W.Frag} {h : Heap} {mg : Str → Option Value} (X : K.In h) (G : h.Ns mainGlobals mg) (c : SaysC exs dds K) : Fac K mg where
  b_ArithmeticError := He.free_ok X G (c.fact 0 rfl)
  b_LookupError := He.free_ok X G (c.fact 1 rfl)
  b_ValueError := He.free_ok X G (c.fact 2 rfl)
  b_abs := He.free_ok X G (c.fact 3 rfl)
  b_all := He.free_ok X G (c.fact 4 rfl)
  b_enumerate := He.free_ok X G (c.fact 5 rfl)
  b_int := He.free_ok X G (c.fact 6 rfl)
  b_isinstance := He.free_ok X G (c.fact 7 rfl)
  b_len := He.free_ok X G (c.fact 8 rfl)
  b_list := He.free_ok X G (c.fact 9 rfl)
  b_max := He.free_ok X G (c.fact 10 rfl)
  b_min := He.free_ok X G (c.fact 11 rfl)
  b_range := He.free_ok X G (c.fact 12 rfl)
  b_repr := He.free_ok X G (c.fact 13 rfl)
  b_sorted := He.free_ok X G (c.fact 14 rfl)
  b_str := He.free_ok X G (c.fact 15 rfl)
  b_tuple := He.free_ok X G (c.fact 16 rfl)
  gs_LETTERS := He.str_ok X G (c.fact 17 rfl)
  gi_MOST_DOORS := He.int_ok X G (c.fact 18 rfl)
  gi_MOST_LETTERS := He.int_ok X G (c.fact 19 rfl)
  gi_MOST_ROOMS := He.int_ok X G (c.fact 20 rfl)
  gf__law_class := He.glo_ok X G (c.fact 21 rfl)
  kp__law_class := He.keep_ok (c.fact 22 rfl)
  gf__law_dip := He.glo_ok X G (c.fact 23 rfl)
  kp__law_dip := He.keep_ok (c.fact 24 rfl)
  gf__law_due := He.glo_ok X G (c.fact 25 rfl)
  kp__law_due := He.keep_ok (c.fact 26 rfl)
  gf__law_end := He.glo_ok X G (c.fact 27 rfl)
  kp__law_end := He.keep_ok (c.fact 28 rfl)
  gf__law_error := He.glo_ok X G (c.fact 29 rfl)
  kp__law_error := He.keep_ok (c.fact 30 rfl)
  gf__law_has := He.glo_ok X G (c.fact 31 rfl)
  kp__law_has := He.keep_ok (c.fact 32 rfl)
  gf__law_odd := He.glo_ok X G (c.fact 33 rfl)
  kp__law_odd := He.keep_ok (c.fact 34 rfl)
  gf__law_one := He.glo_ok X G (c.fact 35 rfl)
  kp__law_one := He.keep_ok (c.fact 36 rfl)
  gf__law_other := He.glo_ok X G (c.fact 37 rfl)
  kp__law_other := He.keep_ok (c.fact 38 rfl)
  gf__law_parts := He.glo_ok X G (c.fact 39 rfl)
  kp__law_parts := He.keep_ok (c.fact 40 rfl)
  gf__law_right := He.glo_ok X G (c.fact 41 rfl)
  kp__law_right := He.keep_ok (c.fact 42 rfl)
  gf__law_short := He.glo_ok X G (c.fact 43 rfl)
  kp__law_short := He.keep_ok (c.fact 44 rfl)
  gf__law_walk_from := He.glo_ok X G (c.fact 45 rfl)
  kp__law_walk_from := He.keep_ok (c.fact 46 rfl)
  gf__law_ways := He.glo_ok X G (c.fact 47 rfl)
  kp__law_ways := He.keep_ok (c.fact 48 rfl)
  gf__law_well := He.glo_ok X G (c.fact 49 rfl)
  kp__law_well := He.keep_ok (c.fact 50 rfl)
  gf__law_words := He.glo_ok X G (c.fact 51 rfl)
  kp__law_words := He.keep_ok (c.fact 52 rfl)
  gf_is_door := He.glo_ok X G (c.fact 53 rfl)
  kp_is_door := He.keep_ok (c.fact 54 rfl)
  gf_is_letter := He.glo_ok X G (c.fact 55 rfl)
  kp_is_letter := He.keep_ok (c.fact 56 rfl)
  gf_is_name := He.glo_ok X G (c.fact 57 rfl)
  kp_is_name := He.keep_ok (c.fact 58 rfl)
  gf_law := He.glo_ok X G (c.fact 59 rfl)
  kp_law := He.keep_ok (c.fact 60 rfl)
  gf_taken_in := He.glo_ok X G (c.fact 61 rfl)
  kp_taken_in := He.keep_ok (c.fact 62 rfl)
  gf_undo := He.glo_ok X G (c.fact 63 rfl)
  kp_undo := He.keep_ok (c.fact 64 rfl)
  gf_wrong_door := He.glo_ok X G (c.fact 65 rfl)
  kp_wrong_door := He.keep_ok (c.fact 66 rfl)
  gf_wrong_room := He.glo_ok X G (c.fact 67 rfl)
  kp_wrong_room := He.keep_ok (c.fact 68 rfl)
  gc_CannotBe := He.glo_ok X G (c.fact 69 rfl)
  gc_House := He.glo_ok X G (c.fact 70 rfl)
  gc_InvalidCourse := He.glo_ok X G (c.fact 71 rfl)
  gc_InvalidCourses := He.glo_ok X G (c.fact 72 rfl)
  gc_InvalidDoor := He.glo_ok X G (c.fact 73 rfl)
  gc_InvalidDoors := He.glo_ok X G (c.fact 74 rfl)
  gc_InvalidNumber := He.glo_ok X G (c.fact 75 rfl)
  gc_InvalidPrograms := He.glo_ok X G (c.fact 76 rfl)
  gc_InvalidRoom := He.glo_ok X G (c.fact 77 rfl)
  gc_InvalidRooms := He.glo_ok X G (c.fact 78 rfl)
  gc_InvalidText := He.glo_ok X G (c.fact 79 rfl)
  gc_InvalidWalk := He.glo_ok X G (c.fact 80 rfl)
  gc_NotAHouse := He.glo_ok X G (c.fact 81 rfl)
  gc_NotAPlan := He.glo_ok X G (c.fact 82 rfl)
  gc_NotAProgram := He.glo_ok X G (c.fact 83 rfl)
  gc_NotCourses := He.glo_ok X G (c.fact 84 rfl)
  gc_NotFit := He.glo_ok X G (c.fact 85 rfl)
  gc_NotThere := He.glo_ok X G (c.fact 86 rfl)
  gc_OtherHouse := He.glo_ok X G (c.fact 87 rfl)
  gc_Unjoined := He.glo_ok X G (c.fact 88 rfl)
  gc_UnknownProgram := He.glo_ok X G (c.fact 89 rfl)
  cl_House := He.cls_ok (c.fact 90 rfl)
  mk_House := He.mkr_ok (c.fact 91 rfl)
  ki := ki_of (c.fact (f := fun K => kiB (cA K) ktL icL K) 92 rfl)
  ex_InvalidRooms := exc_of X G (c.fact (f := fun K => excB K "InvalidRooms" 1) 93 rfl)
  ex_InvalidDoors := exc_of X G (c.fact (f := fun K => excB K "InvalidDoors" 1) 94 rfl)
  ex_InvalidRoom := exc_of X G (c.fact (f := fun K => excB K "InvalidRoom" 0) 95 rfl)
  ex_InvalidWalk := exc_of X G (c.fact (f := fun K => excB K "InvalidWalk" 0) 96 rfl)
  exk := exks_of (c.fact (f := fun K => exksB (cA K) [2, 4] K) 97 rfl)
  xat := xats_of (c.fact (f := fun K => xatsB (cA K) [2, 4] [0, 1] K) 98 rfl)
  exm := exm_of (c.fact (f := fun K => exmB (cA K) [2, 4] [1, 16, 18] K) 99 rfl)
  sys := sys_of (c.fact (f := fun K => sysB K) 100 rfl)
  tu := (c.fact 101 rfl)
  kf := kf_of (c.fact (f := fun K => kfB (cA K) naL K) 102 rfl)
  me_House_check_room := He.meth_ok (c.fact 103 rfl)
  me_House_end := He.meth_ok (c.fact 104 rfl)
  me_House_led := He.meth_ok (c.fact 105 rfl)
  me_House_left := He.meth_ok (c.fact 106 rfl)
theorem all_ok {P : Program} {w : World} {K : PySem.W.Frag} {h : Heap} {mg : Str → Option Value} {base : Heap} (X : K.In h) (G : h.Ns mainGlobals mg) (c : SaysC exs dds K) (tb : ∀ p ∈ tfs, TabB base mg (He.cT K p).1 (He.cT K p).2) : FnG P w K mg base (cA K) 9 (A_law K) m_law := by
  have Fc := fac_of X G c
  obtain ⟨fd_InvalidRooms, F_InvalidRooms⟩ := c.def_ 29 rfl
  have I_InvalidRooms : FnOk P w K mg base (L2N.CX P w) 1 (AI_InvalidRooms K) fd_InvalidRooms PI_InvalidRooms (SpI K (aN 1)) := excInit F_InvalidRooms ⟨rfl, rfl, rfl, by decide +kernel, rfl, by decide +kernel, by decide +kernel⟩
  have bI_InvalidRooms : Binds K fd_InvalidRooms PI_InvalidRooms [] := F_InvalidRooms.bindsN fun _ _ _ _ _ _ us hl => match us, hl with | [_, _], _ => rfl
  obtain ⟨fd_InvalidDoors, F_InvalidDoors⟩ := c.def_ 30 rfl
  have I_InvalidDoors : FnOk P w K mg base (L2N.CX P w) 1 (AI_InvalidDoors K) fd_InvalidDoors PI_InvalidDoors (SpI K (aN 1)) := excInit F_InvalidDoors ⟨rfl, rfl, rfl, by decide +kernel, rfl, by decide +kernel, by decide +kernel⟩
  have bI_InvalidDoors : Binds K fd_InvalidDoors PI_InvalidDoors [] := F_InvalidDoors.bindsN fun _ _ _ _ _ _ us hl => match us, hl with | [_, _], _ => rfl
  obtain ⟨fd_InvalidRoom, F_InvalidRoom⟩ := c.def_ 31 rfl
  have I_InvalidRoom : FnOk P w K mg base (L2N.CX P w) 1 (AI_InvalidRoom K) fd_InvalidRoom PI_InvalidRoom (SpI K (aN 0)) := excInit F_InvalidRoom ⟨rfl, rfl, rfl, by decide +kernel, rfl, by decide +kernel, by decide +kernel⟩
  have bI_InvalidRoom : Binds K fd_InvalidRoom PI_InvalidRoom [] := F_InvalidRoom.bindsN fun _ _ _ _ _ _ us hl => match us, hl with | [_, _], _ => rfl
  obtain ⟨fd_InvalidWalk, F_InvalidWalk⟩ := c.def_ 32 rfl
  have I_InvalidWalk : FnOk P w K mg base (L2N.CX P w) 1 (AI_InvalidWalk K) fd_InvalidWalk PI_InvalidWalk (SpI K (aN 0)) := excInit F_InvalidWalk ⟨rfl, rfl, rfl, by decide +kernel, rfl, by decide +kernel, by decide +kernel⟩
  have bI_InvalidWalk : Binds K fd_InvalidWalk PI_InvalidWalk [] := F_InvalidWalk.bindsN fun _ _ _ _ _ _ us hl => match us, hl with | [_, _], _ => rfl
  have sok := suite_ok
  obtain ⟨fd_is_name, F_is_name⟩ := c.def_ 0 rfl
  have G_is_name := ok_is_name (P := P) (w := w) (base := base) Fc F_is_name 
  obtain ⟨fd_is_letter, F_is_letter⟩ := c.def_ 1 rfl
  have G_is_letter := ok_is_letter (P := P) (w := w) (base := base) Fc F_is_letter 
  obtain ⟨fd_undo, F_undo⟩ := c.def_ 2 rfl
  have G_undo := ok_undo (P := P) (w := w) (base := base) Fc F_undo 
  obtain ⟨fd_taken_in, F_taken_in⟩ := c.def_ 3 rfl
  have G_taken_in := ok_taken_in (P := P) (w := w) (base := base) Fc F_taken_in G_undo
  obtain ⟨fd_wrong_room, F_wrong_room⟩ := c.def_ 4 rfl
  have G_wrong_room := ok_wrong_room (P := P) (w := w) (base := base) Fc F_wrong_room G_is_name
  obtain ⟨fd_is_door, F_is_door⟩ := c.def_ 5 rfl
  have G_is_door := ok_is_door (P := P) (w := w) (base := base) Fc F_is_door G_is_letter
  obtain ⟨fd_wrong_door, F_wrong_door⟩ := c.def_ 6 rfl
  have G_wrong_door := ok_wrong_door (P := P) (w := w) (base := base) Fc F_wrong_door G_is_door
  obtain ⟨fd_House_init, F_House_init⟩ := c.def_ 7 rfl
  have G_House_init := ok_House_init (P := P) (w := w) (base := base) Fc F_House_init G_wrong_room G_wrong_door I_InvalidRooms bI_InvalidRooms I_InvalidDoors bI_InvalidDoors
  obtain ⟨fd_House_check_room, F_House_check_room⟩ := c.def_ 8 rfl
  have G_House_check_room := ok_House_check_room (P := P) (w := w) (base := base) Fc F_House_check_room  I_InvalidRoom bI_InvalidRoom
  obtain ⟨fd_House_led, F_House_led⟩ := c.def_ 9 rfl
  have G_House_led := ok_House_led (P := P) (w := w) (base := base) Fc F_House_led 
  obtain ⟨fd_House_end, F_House_end⟩ := c.def_ 10 rfl
  have G_House_end := ok_House_end (P := P) (w := w) (base := base) Fc F_House_end G_House_check_room G_House_led I_InvalidWalk bI_InvalidWalk
  have OK_House_end := okFin (o_House_end (P := P) (w := w) (base := base) Fc F_House_end G_House_check_room G_House_led I_InvalidWalk bI_InvalidWalk)
  have kwm_House_end : KBn K fd_House_end P_House_end 1 ["passes", "room"] (fun us ws => us ++ ws.reverse) (fun vs zs => vs ++ zs.reverse) := kbn_of F_House_end (fun _ _ _ _ _ _ us ws l1 l2 => match us, ws, l1, l2 with | [_], [_, _], _, _ => rfl) (fun r1 r2 => r1.append r2.reverse)
  obtain ⟨fd_House_left, F_House_left⟩ := c.def_ 11 rfl
  have G_House_left := ok_House_left (P := P) (w := w) (base := base) Fc F_House_left G_House_end G_taken_in
  have OK_House_left := okFin (o_House_left (P := P) (w := w) (base := base) Fc F_House_left G_House_end G_taken_in)
  have kwm_House_left : KBn K fd_House_left P_House_left 1 ["passes", "room"] (fun us ws => us ++ ws.reverse) (fun vs zs => vs ++ zs.reverse) := kbn_of F_House_left (fun _ _ _ _ _ _ us ws l1 l2 => match us, ws, l1, l2 with | [_], [_, _], _, _ => rfl) (fun r1 r2 => r1.append r2.reverse)
  obtain ⟨fd_L_law_well, F_L_law_well⟩ := c.def_ 12 rfl
  have G_L_law_well := ok_L_law_well (P := P) (w := w) (base := base) Fc F_L_law_well 
  obtain ⟨fd_L_law_dip, F_L_law_dip⟩ := c.def_ 13 rfl
  have G_L_law_dip := ok_L_law_dip (P := P) (w := w) (base := base) Fc F_L_law_dip 
  obtain ⟨fd_L_law_one, F_L_law_one⟩ := c.def_ 14 rfl
  have G_L_law_one := ok_L_law_one (P := P) (w := w) (base := base) Fc F_L_law_one G_L_law_dip
  obtain ⟨fd_L_law_words, F_L_law_words⟩ := c.def_ 15 rfl
  have G_L_law_words := ok_L_law_words (P := P) (w := w) (base := base) Fc F_L_law_words G_L_law_one G_L_law_dip
  obtain ⟨fd_L_law_parts, F_L_law_parts⟩ := c.def_ 16 rfl
  have G_L_law_parts := ok_L_law_parts (P := P) (w := w) (base := base) Fc F_L_law_parts G_L_law_words G_L_law_dip G_L_law_one
  obtain ⟨fd_L_law_ways, F_L_law_ways⟩ := c.def_ 17 rfl
  have G_L_law_ways := ok_L_law_ways (P := P) (w := w) (base := base) Fc F_L_law_ways 
  obtain ⟨fd_L_law_other, F_L_law_other⟩ := c.def_ 18 rfl
  have G_L_law_other := ok_L_law_other (P := P) (w := w) (base := base) Fc F_L_law_other 
  obtain ⟨fd_L_law_short, F_L_law_short⟩ := c.def_ 19 rfl
  have G_L_law_short := ok_L_law_short (P := P) (w := w) (base := base) Fc F_L_law_short G_L_law_other
  obtain ⟨fd_L_law_end, F_L_law_end⟩ := c.def_ 20 rfl
  have G_L_law_end := ok_L_law_end (P := P) (w := w) (base := base) Fc F_L_law_end 
  obtain ⟨fd_L_law_walk_from, F_L_law_walk_from⟩ := c.def_ 21 rfl
  have G_L_law_walk_from := ok_L_law_walk_from (P := P) (w := w) (base := base) Fc F_L_law_walk_from G_L_law_dip G_L_law_one
  obtain ⟨fd_L_law_class, F_L_law_class⟩ := c.def_ 22 rfl
  have G_L_law_class := ok_L_law_class (P := P) (w := w) (base := base) Fc F_L_law_class 
  obtain ⟨fd_L_law_has, F_L_law_has⟩ := c.def_ 23 rfl
  have G_L_law_has := ok_L_law_has (P := P) (w := w) (base := base) Fc F_L_law_has 
  obtain ⟨fd_L_law_error, F_L_law_error⟩ := c.def_ 24 rfl
  obtain ⟨fd_L_law_odd, F_L_law_odd⟩ := c.def_ 25 rfl
  have G_L_law_odd := ok_L_law_odd (P := P) (w := w) (base := base) Fc F_L_law_odd G_L_law_dip
  obtain ⟨fd_L_law_due, F_L_law_due⟩ := c.def_ 26 rfl
  have G_L_law_due := ok_L_law_due (P := P) (w := w) (base := base) Fc F_L_law_due G_L_law_end G_L_law_ways G_L_law_short
  obtain ⟨fd_L_law_right, F_L_law_right⟩ := c.def_ 27 rfl
  have G_L_law_right := ok_L_law_right (P := P) (w := w) (base := base) Fc F_L_law_right G_L_law_parts G_L_law_ways G_House_init G_L_law_one G_L_law_walk_from G_L_law_dip G_L_law_odd G_L_law_due G_House_left OK_House_left kwm_House_left OK_House_end kwm_House_end tb F_L_law_error G_L_law_class G_L_law_has sok
  obtain ⟨fd_law, F_law⟩ := c.def_ 28 rfl
  have G_law := ok_law (P := P) (w := w) (base := base) Fc F_law G_House_init G_House_left G_House_end G_L_law_right G_L_law_well
  exact G_law
end K06
open PySem PySem.W PySem.Calls PyProof.Rows
theorem PySem.Challenge.cw_cablecourses_k06_walks_and_what_they_lea_holds : PySem.Challenge.rw_cablecourses_k06_walks_and_what_they_lea.Holds := by
  w_on; o_law
  refine HandSHeadRun.head_any (r := OpenLaw.row PySem.Challenge.rw_cablecourses_k06_walks_and_what_they_lea) (q := view (OpenLaw.row PySem.Challenge.rw_cablecourses_k06_walks_and_what_they_lea).prog [55]) (H := K06.hk) (ob := K06.ob) (M := 10000) (loose := K06.loose) (d := HandSHeadRun.topDef (OpenLaw.row PySem.Challenge.rw_cablecourses_k06_walks_and_what_they_lea).prog 55) (kwd := []) K06.ob_eq
    (by kernel_rfl) (fun s => by kernel_rfl) K06.run (by kernel_rfl) (by kernel_rfl) (by kernel_rfl) (by rfl) (by first | assumption | decide +kernel) (by decide +kernel) ⟨rfl, rfl, rfl, rfl, rfl, by decide +kernel⟩ ?hw ?hc
  case hw => w_witness2
  case hc =>
    refine CC.walk_endT (tf := K06.tfs) (l := PySem.Challenge.rw_cablecourses_k06_walks_and_what_they_lea) (n := 63) (k := 9) (m := K06.m_law) rfl (by decide) (by kernel_rfl) ⟨rfl, by decide, by decide⟩ ?F (fun ns h1 h2 => K06.plain ns h1 h2)
    intro w mg fa h Y G hmg0
    obtain ⟨K, KX, c, t⟩ := Y
    have hmg : mg ("law" : PySem.Str) = some (.ref fa) := by
      have e : (HandSHeadRun.topDef (OpenLaw.row PySem.Challenge.rw_cablecourses_k06_walks_and_what_they_lea).prog 55).name = ("law" : PySem.Str) := by kernel_rfl
      rw [← e]
      exact hmg0
    have e1 := (K06.fac_of KX G c).gf_law
    rw [hmg] at e1
    cases e1
    exact ⟨K, K06.cA K, KX, t, fun q hq => (by obtain ⟨p, hp, rfl⟩ := List.mem_map.mp hq; exact ⟨p, hp, rfl⟩), rfl, fun base _ _ tb => K06.all_ok KX G c tb⟩
