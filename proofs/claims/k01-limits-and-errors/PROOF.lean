import PyProof.Rows.All
import HandS.ForMost
import HandS.ForExc
import HandS.Lambda
import HandS.ExcCtx
import HandS.HotCalls
import HandS.ExcInit
import HandS.ExcValue
import HandS.TupAny
import HandS.Deep
import HandS.Text
import KE.DataEq
import HandS.IsInst
import HandS.RaiseMore
import HandS.Conv
import HandS.Dict
import HandS.Flow
import HandS.Style
import HandS.FStr
import HandS.WordsDict
import HandS.More
import PyProof.ReprReads
import HandS.Codes
import HandS.StrMore
import HandS.WordsExc
import HandS.CallSlots
import HandS.Walk
import HandS.NoneIn
import KE.GoesEnum
import HandS.ClsMeth
import HandS.SlotsOwn
import HandS.Property
import HandS.MakeKw
import KE.KCallOwn
import KE.KFmtOwn
import HandS.Small
import HandS.MakeKwOnly
import OpenK.KOps
import HandS.HeadHook4
import HandS.Head0
import HandS.Head1
import HandS.Head2
import HandS.HeadEnd
import HandS.EndBits
import KE.KTryMore
import HandS.ExcField
import KE.KExcIs
import HandS.SetFor
import PyProof.ListStr
import PyProof.ExcBaseAll.ArithmeticError
import OpenK.KOwn
import HandS.Star
import HandS.DictComp
import HandS.SetTxt0
import HandS.SetBool
import HandS.ReplaceList
import HandS.ReplaceLit
import PyProof.AutoSeq1
import HandS.OwnEq
import KE.KExcInit
import PyProof.ExcBaseAll.LookupError
import HandS.Strs
import KE.KIndexOf
import KE.GoesRaise
import PySem.Challenge.RW_cablecourses_k01_limits_and_errors
set_option Elab.async false
set_option linter.all false
set_option maxRecDepth 100000
set_option maxHeartbeats 2000000
namespace CC
open PySem PySem.Spec PyProof.Rows L2

/-- keys of dicts -/
inductive DKey where
  | non | int (i : Int) | str (s : List Nat) | tnil | tcons (a t : DKey)
  deriving DecidableEq
/-- data; a thing that is changed stands in the store, by its number -/
inductive Val where
  | non | bl (b : Bool) | int (i : Int) | str (s : List Nat)
  | tup (xs : List Val) | lst (xs : List Val)
  | dct (kvs : List (DKey × Val))
  | obj (C : Nat) (fs : List (Nat × Val))
  | ref (r : Nat) | cls (C : Nat) | ty (n : String) | scr (ns : List Int)
  | vw (v : V)
  | tupS (ts : List (List Nat))
  | err (C : Nat) (fs : List (Nat × Val))
inductive Cell where
  | lst (xs : List Val) | dct (kvs : List (DKey × Val)) | obj (C : Nat) (fs : List (Nat × Val))
abbrev Store := List Cell
abbrev Env1 := List (Option Val)

/-- what an expression comes to -/
inductive R (α : Type) where
  | ok (a : α) (mu : Store) | exc (C : Nat) (fs : List (Nat × Val)) (mu : Store) | bad
abbrev M (α : Type) := Env1 → Store → R α
/-- what a statement comes to -/
inductive SR where
  | nx (r : Env1) (mu : Store) | rt (v : Val) (mu : Store) | bk (r : Env1) (mu : Store) | ct (r : Env1) (mu : Store)
  | exc (C : Nat) (fs : List (Nat × Val)) (r : Env1) (mu : Store) | bad
abbrev MS := Env1 → Store → SR

def R.bind {α β : Type} (x : R α) (k : α → Store → R β) : R β := match x with
  | .ok a mu => k a mu
  | .exc C fs mu => .exc C fs mu
  | .bad => .bad

/-- a text as the layer has it -/
abbrev S (l : List Nat) : Str := ⟨l.toArray⟩
/-- the names of attributes -/
def attrN : List String := ["given", "index", "shown", "chambers", "gates", "starts", "goals", "rows", "at", "wording", "body", "place", "entries", "blocks", "numbers", "hollow", "arrows", "begins", "ends", "net", "behind", "one", "other", "word", "told", "known", "begun", "nodes", "signs", "into", "least", "ahead", "ways", "waiting", "nothings", "layers", "now", "past", "outer", "desk", "frame", "plains", "final", "places", "leaps"]
def attrL : List Str := attrN.map Str.ofString
def aN (n : Nat) : Str := attrL.getD n ⟨#[]⟩
theorem aN_inj : ∀ n m : _root_.Fin 45, aN n = aN m → n = m := by decide +kernel
theorem aN_ne {n m : Nat} (hn : n < 45) (hm : m < 45) (h : n ≠ m) : aN n ≠ aN m := fun e => h (congrArg _root_.Fin.val (aN_inj ⟨n, hn⟩ ⟨m, hm⟩ e))

/-- where the classes lie; tables of code objects; dicts of exceptions that are known -/
structure CI where
  c : Nat → Addr
  T : List (Addr × Str)
  x : List (Addr × List (Str × V))
instance : CoeFun CI fun _ => Nat → Addr := ⟨CI.c⟩
/-- what stands for good; what is hidden: it stands as it is told -/
structure Fz where
  f : Hp
  g : Hp
/-- an error that is held: with no attributes, or its dict at dx -/
def ErH (F : Hp) (C a : Addr) (gs : List (Str × V)) : Prop := (gs = [] ∧ F a = some (ExO (.ref C) a)) ∨ ∃ dx, F a = some (exo a C (some dx)) ∧ F dx = some (exd dx gs)
theorem ErH.sub {F F' : Hp} {C a : Addr} {gs : List (Str × V)} (s : ∀ x o, F x = some o → F' x = some o) : ErH F C a gs → ErH F' C a gs
  | .inl ⟨e, h⟩ => .inl ⟨e, s _ _ h⟩
  | .inr ⟨dx, h, g⟩ => .inr ⟨dx, s _ _ h, s _ _ g⟩
section
variable (K : PySem.W.Frag) (cA : CI)
def keyR : DKey → Key → Prop
  | .int i, k => k = .inl i
  | .str s, k => k = .inr (S s)
  | _, _ => False
mutual
/-- F: what stands for good; pi: where the store's cells lie -/
inductive VR (F : Fz) (pi : List Addr) : Val → V → Prop where
  | non : VR F pi .non .non
  | bl (b : Bool) : VR F pi (.bl b) (.bl b)
  | int (i : Int) : VR F pi (.int i) (.int i)
  | str (s : List Nat) : VR F pi (.str s) (.str (S s))
  | tup {a : Addr} {xs : List Val} {vs : List V} : SqT K F.f a vs → VRs F pi xs vs → VR F pi (.tup xs) (.ref a)
  | lst {a : Addr} {xs : List Val} {vs : List V} : F.f a = some (.lst vs) → VRs F pi xs vs → VR F pi (.lst xs) (.ref a)
  | dct {a : Addr} {kvs : List (DKey × Val)} {ks : List (Key × V)} : F.f a = some (.dK ks) → KVR F pi kvs ks → VR F pi (.dct kvs) (.ref a)
  | obj {a dx : Addr} {C : Nat} {fs : List (Nat × Val)} {gs : List (Str × V)} : F.f a = some (.ins (cA C) dx gs) → FVR F pi fs gs → VR F pi (.obj C fs) (.ref a)
  | ref {r : Nat} {a : Addr} : pi[r]? = some a → VR F pi (.ref r) (.ref a)
  | cls (C : Nat) : VR F pi (.cls C) (.ref (cA C))
  | ty (n : String) : VR F pi (.ty n) (.ty n)
  | scr {a : Addr} {ns : List Int} : SqL K F.f a (ns.map V.int) → VR F pi (.scr ns) (.ref a)
  | vw (v : V) : VR F pi (.vw v) v
  | tupS {a : Addr} {ts : List (List Nat)} {o : Obj} : F.f a = some (.frz o (.tup (ts.map fun t => V.str (S t)))) → o.cls = .type "tuple" → o.dict = none → VR F pi (.tupS ts) (.ref a)
  | err {a : Addr} {C : Nat} {fs : List (Nat × Val)} {gs : List (Str × V)} : ErH F.f (cA C) a gs → FVR F pi fs gs → VR F pi (.err C fs) (.ref a)
inductive VRs (F : Fz) (pi : List Addr) : List Val → List V → Prop where
  | nil : VRs F pi [] []
  | cons {x : Val} {xs : List Val} {v : V} {vs : List V} : VR F pi x v → VRs F pi xs vs → VRs F pi (x :: xs) (v :: vs)
inductive KVR (F : Fz) (pi : List Addr) : List (DKey × Val) → List (Key × V) → Prop where
  | nil : KVR F pi [] []
  | cons {k : DKey} {k' : Key} {x : Val} {xs : List (DKey × Val)} {v : V} {vs : List (Key × V)} : keyR k k' → VR F pi x v → KVR F pi xs vs → KVR F pi ((k, x) :: xs) ((k', v) :: vs)
inductive FVR (F : Fz) (pi : List Addr) : List (Nat × Val) → List (Str × V) → Prop where
  | nil : FVR F pi [] []
  | cons {n : Nat} {x : Val} {xs : List (Nat × Val)} {v : V} {vs : List (Str × V)} : n < 45 → VR F pi x v → FVR F pi xs vs → FVR F pi ((n, x) :: xs) ((aN n, v) :: vs)
end
end
def SubH (F F' : Hp) : Prop := ∀ a o, F a = some o → F' a = some o
theorem SubH.refl (F : Hp) : SubH F F := fun _ _ h => h
theorem SubH.trans {F G H : Hp} (a : SubH F G) (b : SubH G H) : SubH F H := fun x o h => b x o (a x o h)
theorem SubH.new {F : Hp} {p : Addr} {o : HO} (h : F p = none) : SubH F (upd F p o) := fun a u e => by
  rw [upd_ne (ne_of_none e h)]
  exact e
/-- more stands for good; what is hidden is the same -/
def Sub (F F' : Fz) : Prop := SubH F.f F'.f ∧ F.g = F'.g
theorem Sub.refl (F : Fz) : Sub F F := ⟨SubH.refl _, rfl⟩
theorem Sub.trans {F G H : Fz} (a : Sub F G) (b : Sub G H) : Sub F H := ⟨a.1.trans b.1, a.2.trans b.2⟩
def Fz.new (F : Fz) (p : Addr) (o : HO) : Fz := ⟨upd F.f p o, F.g⟩
theorem Sub.new {F : Fz} {p : Addr} {o : HO} (h : F.f p = none) : Sub F (F.new p o) := ⟨SubH.new h, rfl⟩
theorem sub_t {K : PySem.W.Frag} {F F' : Hp} {a : Addr} {xs : List V} (e : SubH F F') (h : SqT K F a xs) : SqT K F' a xs := by
  rcases h with (h | ⟨o, h⟩) | h
  · exact .inl (.inl (e _ _ h))
  · exact .inl (.inr ⟨o, e _ _ h⟩)
  · exact .inr h
theorem sub_l {K : PySem.W.Frag} {F F' : Hp} {a : Addr} {xs : List V} (e : SubH F F') (h : SqL K F a xs) : SqL K F' a xs := by
  rcases h with (h | ⟨o, h⟩) | h
  · exact .inl (.inl (e _ _ h))
  · exact .inl (.inr ⟨o, e _ _ h⟩)
  · exact .inr h
theorem pre_get {p q : List Addr} {r : Nat} {a : Addr} (h : p <+: q) (e : p[r]? = some a) : q[r]? = some a := by
  obtain ⟨t, rfl⟩ := h
  have hl := (List.getElem?_eq_some_iff.mp e).1
  rw [List.getElem?_append_left hl]
  exact e
section
variable {K : PySem.W.Frag} {cA : CI} {F F' : Fz} {p q : List Addr}
mutual
theorem VR.mono (s : Sub F F') (h : p <+: q) : ∀ {x : Val} {v : V}, VR K cA F p x v → VR K cA F' q x v
  | _, _, .non => .non
  | _, _, .bl b => .bl b
  | _, _, .int i => .int i
  | _, _, .str i => .str i
  | _, _, .tup a b => .tup (sub_t s.1 a) (VRs.mono s h b)
  | _, _, .lst a b => .lst (s.1 _ _ a) (VRs.mono s h b)
  | _, _, .dct a b => .dct (s.1 _ _ a) (KVR.mono s h b)
  | _, _, .obj a b => .obj (s.1 _ _ a) (FVR.mono s h b)
  | _, _, .ref e => .ref (pre_get h e)
  | _, _, .cls C => .cls C
  | _, _, .ty n => .ty n
  | _, _, .scr a => .scr (sub_l s.1 a)
  | _, _, .vw a => .vw a
  | _, _, .tupS a b c => .tupS (s.1 _ _ a) b c
  | _, _, .err a b => .err (a.sub s.1) (FVR.mono s h b)
theorem VRs.mono (s : Sub F F') (h : p <+: q) : ∀ {x : List Val} {v : List V}, VRs K cA F p x v → VRs K cA F' q x v
  | _, _, .nil => .nil
  | _, _, .cons a b => .cons (VR.mono s h a) (VRs.mono s h b)
theorem KVR.mono (s : Sub F F') (h : p <+: q) : ∀ {x : List (DKey × Val)} {v : List (Key × V)}, KVR K cA F p x v → KVR K cA F' q x v
  | _, _, .nil => .nil
  | _, _, .cons k a b => .cons k (VR.mono s h a) (KVR.mono s h b)
theorem FVR.mono (s : Sub F F') (h : p <+: q) : ∀ {x : List (Nat × Val)} {v : List (Str × V)}, FVR K cA F p x v → FVR K cA F' q x v
  | _, _, .nil => .nil
  | _, _, .cons k a b => .cons k (VR.mono s h a) (FVR.mono s h b)
end
theorem VRs.length : ∀ {x : List Val} {v : List V}, VRs K cA F p x v → x.length = v.length
  | _, _, .nil => rfl
  | _, _, .cons _ b => congrArg Nat.succ (VRs.length b)
theorem VRs.get : ∀ {xs : List Val} {vs : List V} {i : Nat} {x : Val}, VRs K cA F p xs vs → xs[i]? = some x → ∃ v, vs[i]? = some v ∧ VR K cA F p x v
  | _, _, _, _, .nil, e => by simp at e
  | _, _, 0, _, .cons a _, e => by simp at e; subst e; exact ⟨_, rfl, a⟩
  | _, _, i + 1, x, .cons _ b, e => by
    obtain ⟨v, h1, h2⟩ := VRs.get (i := i) b (by simpa using e)
    exact ⟨v, by simpa using h1, h2⟩
theorem VRs.append : ∀ {xs ys : List Val} {vs ws : List V}, VRs K cA F p xs vs → VRs K cA F p ys ws → VRs K cA F p (xs ++ ys) (vs ++ ws)
  | _, _, _, _, .nil, s => s
  | _, _, _, _, .cons r t, s => .cons r (VRs.append t s)
theorem VRs.take : ∀ {xs : List Val} {vs : List V} (n : Nat), VRs K cA F p xs vs → VRs K cA F p (xs.take n) (vs.take n)
  | _, _, 0, _ => .nil
  | _, _, _ + 1, .nil => .nil
  | _, _, n + 1, .cons r t => .cons r (VRs.take n t)
theorem VRs.drop : ∀ {xs : List Val} {vs : List V} (n : Nat), VRs K cA F p xs vs → VRs K cA F p (xs.drop n) (vs.drop n)
  | _, _, 0, r => r
  | _, _, _ + 1, .nil => .nil
  | _, _, n + 1, .cons _ t => VRs.drop n t
theorem VRs.set {x : Val} {v : V} (r : VR K cA F p x v) : ∀ {xs : List Val} {vs : List V} (i : Nat), VRs K cA F p xs vs → VRs K cA F p (xs.set i x) (vs.set i v)
  | _, _, _, .nil => .nil
  | _, _, 0, .cons _ t => .cons r t
  | _, _, i + 1, .cons q t => .cons q (VRs.set r i t)
theorem VRs.reverse : ∀ {xs : List Val} {vs : List V}, VRs K cA F p xs vs → VRs K cA F p xs.reverse vs.reverse
  | _, _, .nil => .nil
  | _, _, .cons r t => by
    rw [List.reverse_cons, List.reverse_cons]
    exact VRs.append (VRs.reverse t) (.cons r .nil)
theorem VRs.map_int : ∀ (ns : List Int), VRs K cA F p (ns.map Val.int) (ns.map V.int)
  | [] => .nil
  | n :: r => .cons (.int n) (VRs.map_int r)
theorem KVR.length : ∀ {x : List (DKey × Val)} {v : List (Key × V)}, KVR K cA F p x v → x.length = v.length
  | _, _, .nil => rfl
  | _, _, .cons _ _ b => congrArg Nat.succ (KVR.length b)
theorem FVR.length : ∀ {x : List (Nat × Val)} {v : List (Str × V)}, FVR K cA F p x v → x.length = v.length
  | _, _, .nil => rfl
  | _, _, .cons _ _ b => congrArg Nat.succ (FVR.length b)
/-- an attribute that is there -/
theorem FVR.look : ∀ {fs : List (Nat × Val)} {gs : List (Str × V)} {n : Nat} {x : Val}, n < 45 → FVR K cA F p fs gs → fs.lookup n = some x → ∃ v, gs.lookup (aN n) = some v ∧ VR K cA F p x v
  | _, _, _, _, _, .nil, e => by simp at e
  | _, _, n, x, hn, .cons (n := m) hm a b, e => by
    by_cases h : n = m
    · subst h
      simp only [List.lookup, beq_self_eq_true, Option.some.injEq] at e ⊢
      subst e
      exact ⟨_, rfl, a⟩
    · have h1 : (n == m) = false := beq_eq_false_iff_ne.mpr h
      have h2 : (aN n == aN m) = false := beq_eq_false_iff_ne.mpr (aN_ne hn hm h)
      simp only [List.lookup, h1, h2] at e ⊢
      exact FVR.look hn b e
end
/-- a field is set -/
def setF (n : Nat) (x : Val) : List (Nat × Val) → List (Nat × Val)
  | [] => [(n, x)]
  | (m, y) :: r => if m = n then (m, x) :: r else (m, y) :: setF n x r
theorem FVR.put {K : PySem.W.Frag} {cA : CI} {F : Fz} {p : List Addr} {n : Nat} {x : Val} {v : V} (hn : n < 45) (r : VR K cA F p x v) : ∀ {fs : List (Nat × Val)} {gs : List (Str × V)}, FVR K cA F p fs gs → FVR K cA F p (setF n x fs) (putF (aN n) v gs)
  | _, _, .nil => .cons hn r .nil
  | _, _, .cons (n := m) hm a b => by
    unfold setF putF
    by_cases h : m = n
    · subst h
      rw [if_pos rfl, if_pos rfl]
      exact .cons hm r b
    · rw [if_neg h, if_neg (aN_ne hm hn h)]
      exact .cons hm a (FVR.put hn r b)

theorem nodup_inj {α : Type} : ∀ {l : List α} {i j : Nat}, l.Nodup → ∀ (h1 : i < l.length) (h2 : j < l.length), l[i] = l[j] → i = j
  | [], i, j, _, h1, _, _ => absurd h1 (Nat.not_lt_zero _)
  | x :: r, 0, 0, _, _, _, _ => rfl
  | x :: r, 0, j + 1, nd, _, h2, e => by
    have hx := (List.nodup_cons.mp nd).1
    have e' : x = r[j]'(by simpa using h2) := by simpa using e
    exact absurd (e' ▸ List.getElem_mem _) hx
  | x :: r, i + 1, 0, nd, h1, _, e => by
    have hx := (List.nodup_cons.mp nd).1
    have e' : x = r[i]'(by simpa using h1) := by simpa using e.symm
    exact absurd (e' ▸ List.getElem_mem _) hx
  | x :: r, i + 1, j + 1, nd, h1, h2, e => by
    have := nodup_inj (List.nodup_cons.mp nd).2 (by simpa using h1) (by simpa using h2) (by simpa using e)
    omega
section
variable (K : PySem.W.Frag) (cA : CI)
def CR (F : Fz) (pi : List Addr) (H : Hp) (a : Addr) : Cell → Prop
  | .lst xs => ∃ vs, H a = some (.lst vs) ∧ VRs K cA F pi xs vs
  | .dct kvs => ∃ ks, H a = some (.dK ks) ∧ KVR K cA F pi kvs ks
  | .obj C fs => ∃ dx gs, H a = some (.ins (cA C) dx gs) ∧ FVR K cA F pi fs gs
structure Rel (F : Fz) (pi : List Addr) (mu : Store) (H : Hp) : Prop where
  sub : SubH F.f H
  len : pi.length = mu.length
  nd : pi.Nodup
  off : ∀ a ∈ pi, F.f a = none
  cell : ∀ (r : Nat) (a : Addr) (c : Cell), pi[r]? = some a → mu[r]? = some c → CR K cA F pi H a c
  hid : ∀ a o, F.g a = some o → H a = some o ∧ F.f a = none ∧ a ∉ pi
  tab : LamX.Tabs cA.T H
  xds : ∀ q ∈ cA.x, F.f q.1 = some (.xd q.2)
  nf : ∀ a ps, F.f a ≠ some (.tbl ps)
  ng : ∀ a ps, F.g a ≠ some (.tbl ps)
def EnvR (F : Fz) (pi : List Addr) (r : Env1) (s : L2.St) : Prop := r.length = s.length ∧ ∀ (i : Nat) (x : Val), r[i]? = some (some x) → ∃ v, s[i]? = some (some v) ∧ VR K cA F pi x v
end
section
variable {K : PySem.W.Frag} {cA : CI} {F F' : Fz} {p q : List Addr} {mu mu' : Store} {H H' : Hp}
/-- what is hidden plays no part -/
def Sub0 (F F' : Fz) : Prop := SubH F.f F'.f
mutual
theorem VR.up (s : Sub0 F F') : ∀ {x : Val} {v : V}, VR K cA F p x v → VR K cA F' p x v
  | _, _, .non => .non
  | _, _, .bl b => .bl b
  | _, _, .int i => .int i
  | _, _, .str i => .str i
  | _, _, .tup a b => .tup (sub_t s a) (VRs.up s b)
  | _, _, .lst a b => .lst (s _ _ a) (VRs.up s b)
  | _, _, .dct a b => .dct (s _ _ a) (KVR.up s b)
  | _, _, .obj a b => .obj (s _ _ a) (FVR.up s b)
  | _, _, .ref e => .ref e
  | _, _, .cls C => .cls C
  | _, _, .ty n => .ty n
  | _, _, .scr a => .scr (sub_l s a)
  | _, _, .vw a => .vw a
  | _, _, .tupS a b c => .tupS (s _ _ a) b c
  | _, _, .err a b => .err (a.sub s) (FVR.up s b)
theorem VRs.up (s : Sub0 F F') : ∀ {x : List Val} {v : List V}, VRs K cA F p x v → VRs K cA F' p x v
  | _, _, .nil => .nil
  | _, _, .cons a b => .cons (VR.up s a) (VRs.up s b)
theorem KVR.up (s : Sub0 F F') : ∀ {x : List (DKey × Val)} {v : List (Key × V)}, KVR K cA F p x v → KVR K cA F' p x v
  | _, _, .nil => .nil
  | _, _, .cons k a b => .cons k (VR.up s a) (KVR.up s b)
theorem FVR.up (s : Sub0 F F') : ∀ {x : List (Nat × Val)} {v : List (Str × V)}, FVR K cA F p x v → FVR K cA F' p x v
  | _, _, .nil => .nil
  | _, _, .cons k a b => .cons k (VR.up s a) (FVR.up s b)
end
theorem sub0 (F : Fz) (g : Hp) : Sub0 F ⟨F.f, g⟩ := SubH.refl _
theorem CR.hid {F : Fz} {g : Hp} {a : Addr} {c : Cell} (e : H' a = H a) (x : CR K cA F p H a c) : CR K cA ⟨F.f, g⟩ p H' a c := by
  cases c with
  | lst xs => obtain ⟨vs, h1, h2⟩ := x; exact ⟨vs, by rw [e]; exact h1, h2.up (sub0 F g)⟩
  | dct xs => obtain ⟨vs, h1, h2⟩ := x; exact ⟨vs, by rw [e]; exact h1, h2.up (sub0 F g)⟩
  | obj C xs => obtain ⟨dx, vs, h1, h2⟩ := x; exact ⟨dx, vs, by rw [e]; exact h1, h2.up (sub0 F g)⟩
theorem CR.mono {a : Addr} {c : Cell} (s : Sub F F') (h : p <+: q) (e : H' a = H a) (x : CR K cA F p H a c) : CR K cA F' q H' a c := by
  cases c with
  | lst xs => obtain ⟨vs, h1, h2⟩ := x; exact ⟨vs, by rw [e]; exact h1, h2.mono s h⟩
  | dct xs => obtain ⟨vs, h1, h2⟩ := x; exact ⟨vs, by rw [e]; exact h1, h2.mono s h⟩
  | obj C xs => obtain ⟨dx, vs, h1, h2⟩ := x; exact ⟨dx, vs, by rw [e]; exact h1, h2.mono s h⟩
theorem EnvR.mono {r : Env1} {s : L2.St} (a : Sub F F') (h : p <+: q) (e : EnvR K cA F p r s) : EnvR K cA F' q r s :=
  ⟨e.1, fun i x hx => let ⟨v, h1, h2⟩ := e.2 i x hx; ⟨v, h1, h2.mono a h⟩⟩
theorem upd_nt {G : Hp} {a : Addr} {o : HO} (h : ∀ b ps, G b ≠ some (.tbl ps)) (n : ∀ ps, o ≠ .tbl ps) : ∀ b ps, upd G a o b ≠ some (.tbl ps) := fun b ps e => by
  by_cases hb : b = a
  · rw [hb, upd_same] at e
    exact n ps (Option.some.inj e)
  · rw [upd_ne hb] at e
    exact h b ps e
/-- tables stay where what is changed is no table's part -/
theorem tabs_keep {T : List (Addr × Str)} {H H' : Hp} (t : LamX.Tabs T H) (e : ∀ b o, H b = some o → ((∃ ps, o = .tbl ps) ∨ ∃ φ, o = .ext φ) → H' b = some o) : LamX.Tabs T H' := fun p hp => by
  obtain ⟨ps, h1, h2, h3⟩ := t p hp
  refine ⟨ps, e _ _ h1 (.inl ⟨_, rfl⟩), h2, fun pos cv hc => ?_⟩
  obtain ⟨c, e1, e2⟩ := h3 pos cv hc
  exact ⟨c, e1, e _ _ e2 (.inr ⟨_, rfl⟩)⟩
/-- no part of a table -/
def NoT (o : HO) : Prop := (∀ ps, o ≠ .tbl ps) ∧ ∀ φ, o ≠ .ext φ
theorem tabs_upd {T : List (Addr × Str)} {H : Hp} {a : Addr} {o o' : HO} (t : LamX.Tabs T H) (h : H a = some o) (n : NoT o) : LamX.Tabs T (upd H a o') := tabs_keep t fun b u e k => by
  have hb : b ≠ a := fun z => by
    subst z
    rw [h] at e
    cases e
    rcases k with ⟨ps, k⟩ | ⟨φ, k⟩
    · exact n.1 _ k
    · exact n.2 _ k
  rw [upd_ne hb]
  exact e
theorem CR.noT {F : Fz} {a : Addr} {c : Cell} (x : CR K cA F p H a c) : ∃ o, H a = some o ∧ NoT o := by
  cases c with
  | lst xs => obtain ⟨vs, h1, _⟩ := x; exact ⟨_, h1, fun _ z => (by cases z), fun _ z => (by cases z)⟩
  | dct xs => obtain ⟨vs, h1, _⟩ := x; exact ⟨_, h1, fun _ z => (by cases z), fun _ z => (by cases z)⟩
  | obj C xs => obtain ⟨dx, vs, h1, _⟩ := x; exact ⟨_, h1, fun _ z => (by cases z), fun _ z => (by cases z)⟩
theorem Rel.at_some {r : Nat} {a : Addr} (x : Rel K cA F p mu H) (e : p[r]? = some a) : ∃ c, mu[r]? = some c ∧ CR K cA F p H a c := by
  have hl := (List.getElem?_eq_some_iff.mp e).1
  have hm : r < mu.length := by rw [← x.len]; exact hl
  exact ⟨mu[r], List.getElem?_eq_getElem hm, x.cell r a _ e (List.getElem?_eq_getElem hm)⟩
theorem Rel.tracked {a : Addr} (x : Rel K cA F p mu H) (h : a ∈ p) : ∃ o, H a = some o := by
  obtain ⟨r, hr⟩ := List.mem_iff_getElem?.mp h
  obtain ⟨c, _, hc⟩ := x.at_some hr
  cases c with
  | lst xs => obtain ⟨vs, h1, _⟩ := hc; exact ⟨_, h1⟩
  | dct xs => obtain ⟨vs, h1, _⟩ := hc; exact ⟨_, h1⟩
  | obj C xs => obtain ⟨dx, vs, h1, _⟩ := hc; exact ⟨_, h1⟩
theorem Rel.fresh {a : Addr} (x : Rel K cA F p mu H) (h : H a = none) : F.f a = none ∧ a ∉ p := by
  refine ⟨?_, fun z => ?_⟩
  · cases e : F.f a with
    | none => rfl
    | some o => rw [x.sub a o e] at h; cases h
  · obtain ⟨o, e⟩ := x.tracked z
    rw [e] at h; cases h
/-- the heap grows by what nobody knows -/
theorem Rel.grow (x : Rel K cA F p mu H) (e : SubH H H') : Rel K cA F p mu H' := by
  refine ⟨x.sub.trans e, x.len, x.nd, x.off, fun r a c h1 h2 => ?_, fun a o h => ⟨e _ _ (x.hid a o h).1, (x.hid a o h).2⟩, x.tab.ext e, x.xds, x.nf, x.ng⟩
  have hc := x.cell r a c h1 h2
  cases c with
  | lst xs => obtain ⟨vs, h1, h2⟩ := hc; exact ⟨vs, e _ _ h1, h2⟩
  | dct xs => obtain ⟨vs, h1, h2⟩ := hc; exact ⟨vs, e _ _ h1, h2⟩
  | obj C xs => obtain ⟨dx, vs, h1, h2⟩ := hc; exact ⟨dx, vs, e _ _ h1, h2⟩
/-- a new thing that stands for good -/
theorem Rel.frz {a : Addr} {o : HO} (x : Rel K cA F p mu H) (h : H a = none) (n : ∀ ps, o ≠ .tbl ps := by intro ps z; cases z) : Rel K cA (F.new a o) p mu (upd H a o) := by
  obtain ⟨hF, hp⟩ := x.fresh h
  refine ⟨fun b u e => ?_, x.len, x.nd, fun b hb => ?_, fun r b c h1 h2 => ?_, fun b u e => ?_, x.tab.ext (SubH.new h), fun q hq => (SubH.new (o := o) hF) _ _ (x.xds q hq), upd_nt x.nf n, x.ng⟩
  · have e' : upd F.f a o b = some u := e
    by_cases hb : b = a
    · subst hb; rw [upd_same] at e' ⊢; exact e'
    · rw [upd_ne hb] at e' ⊢; exact x.sub b u e'
  · have hb' : b ≠ a := fun z => hp (z ▸ hb)
    show upd F.f a o b = none
    rw [upd_ne hb']; exact x.off b hb
  · have hb' : b ≠ a := fun z => hp (z ▸ List.mem_of_getElem? h1)
    exact (x.cell r b c h1 h2).mono (Sub.new hF) (List.prefix_refl p) (upd_ne hb')
  · obtain ⟨h1, h2, h3⟩ := x.hid b u e
    have hb' : b ≠ a := fun z => by rw [z, h] at h1; cases h1
    refine ⟨by rw [upd_ne hb']; exact h1, ?_, h3⟩
    show upd F.f a o b = none
    rw [upd_ne hb']; exact h2
/-- a new cell -/
theorem Rel.alloc {a : Addr} {c : Cell} (x : Rel K cA F p mu H) (h : H a = none) (s : SubH H H') (hc : CR K cA F (p ++ [a]) H' a c) : Rel K cA F (p ++ [a]) (mu ++ [c]) H' := by
  obtain ⟨hF, hp⟩ := x.fresh h
  have x' := x.grow s
  refine ⟨x'.sub, by simp [x.len], ?_, fun b hb => ?_, fun r b d h1 h2 => ?_, fun b u e => ?_, x'.tab, x'.xds, x'.nf, x'.ng⟩
  · rw [List.nodup_append]
    exact ⟨x.nd, by simp, fun b hb d hd => by simp at hd; subst hd; exact fun z => hp (z ▸ hb)⟩
  · rcases List.mem_append.mp hb with hb | hb
    · exact x.off b hb
    · simp at hb; subst hb; exact hF
  · by_cases hr : r < p.length
    · rw [List.getElem?_append_left hr] at h1
      rw [List.getElem?_append_left (by rw [← x.len]; exact hr)] at h2
      exact (x'.cell r b d h1 h2).mono (Sub.refl F) (List.prefix_append p [a]) rfl
    · have hr' : r = p.length := by
        have := (List.getElem?_eq_some_iff.mp h1).1
        simp at this; omega
      subst hr'
      rw [List.getElem?_append_right (Nat.le_refl _)] at h1
      rw [x.len, List.getElem?_append_right (Nat.le_refl _)] at h2
      simp at h1 h2
      subst h1; subst h2
      exact hc
  · obtain ⟨h1, h2, h3⟩ := x'.hid b u e
    refine ⟨h1, h2, fun z => ?_⟩
    rcases List.mem_append.mp z with z | z
    · exact h3 z
    · simp at z
      have := (x.hid b u e).1
      rw [z, h] at this; cases this
/-- a cell is changed -/
theorem Rel.write {a : Addr} {o : HO} {r : Nat} {c : Cell} (x : Rel K cA F p mu H) (hr : p[r]? = some a) (hc : CR K cA F p (upd H a o) a c) : Rel K cA F p (mu.set r c) (upd H a o) := by
  have ha : a ∈ p := List.mem_of_getElem? hr
  have hF := x.off a ha
  refine ⟨fun b u e => ?_, by simp [x.len], x.nd, x.off, fun i b d h1 h2 => ?_, fun b u e => ?_, (let ⟨_, _, hc'⟩ := x.at_some hr; let ⟨_, e1, n1⟩ := hc'.noT; tabs_upd x.tab e1 n1), x.xds, x.nf, x.ng⟩
  · rw [upd_ne (ne_of_none e hF)]; exact x.sub b u e
  · by_cases hi : i = r
    · subst hi
      rw [hr] at h1; cases h1
      have hl : i < mu.length := by rw [← x.len]; exact (List.getElem?_eq_some_iff.mp hr).1
      rw [List.getElem?_set_self hl] at h2
      cases h2
      exact hc
    · have hb : b ≠ a := fun z => by
        subst z
        have i1 := (List.getElem?_eq_some_iff.mp h1)
        have i2 := (List.getElem?_eq_some_iff.mp hr)
        obtain ⟨l1, e1⟩ := i1
        obtain ⟨l2, e2⟩ := i2
        exact hi (nodup_inj x.nd l1 l2 (e1.trans e2.symm))
      rw [List.getElem?_set_ne (Ne.symm hi)] at h2
      exact (x.cell i b d h1 h2).mono (Sub.refl F) (List.prefix_refl p) (upd_ne hb)
  · obtain ⟨h1, h2, h3⟩ := x.hid b u e
    have hb' : b ≠ a := fun z => h3 (z ▸ ha)
    exact ⟨by rw [upd_ne hb']; exact h1, h2, h3⟩
/-- what is hidden begins -/
theorem Rel.hide {a : Addr} {o : HO} (x : Rel K cA F p mu H) (h : H a = none) (n : ∀ ps, o ≠ .tbl ps := by intro ps z; cases z) : Rel K cA ⟨F.f, upd F.g a o⟩ p mu (upd H a o) := by
  obtain ⟨hF, hp⟩ := x.fresh h
  refine ⟨fun b u e => ?_, x.len, x.nd, x.off, fun r b c h1 h2 => ?_, fun b u e => ?_, x.tab.ext (SubH.new h), x.xds, x.nf, upd_nt x.ng n⟩
  · rw [upd_ne (ne_of_none e hF)]; exact x.sub b u e
  · have hb' : b ≠ a := fun z => hp (z ▸ List.mem_of_getElem? h1)
    have hc := x.cell r b c h1 h2
    exact hc.hid (upd_ne hb')
  · have e' : upd F.g a o b = some u := e
    by_cases hb : b = a
    · subst hb
      rw [upd_same] at e' ⊢
      exact ⟨e', hF, hp⟩
    · rw [upd_ne hb] at e' ⊢
      exact x.hid b u e'
/-- what is hidden is changed -/
theorem Rel.hset {a : Addr} {o o' : HO} (x : Rel K cA F p mu H) (h : F.g a = some o) (n : NoT o) (n' : ∀ ps, o' ≠ .tbl ps := by intro ps z; cases z) : Rel K cA ⟨F.f, upd F.g a o'⟩ p mu (upd H a o') := by
  obtain ⟨h0, hF, hp⟩ := x.hid a o h
  refine ⟨fun b u e => ?_, x.len, x.nd, x.off, fun r b c h1 h2 => ?_, fun b u e => ?_, tabs_upd x.tab h0 n, x.xds, x.nf, upd_nt x.ng n'⟩
  · rw [upd_ne (ne_of_none e hF)]; exact x.sub b u e
  · have hb' : b ≠ a := fun z => hp (z ▸ List.mem_of_getElem? h1)
    exact (x.cell r b c h1 h2).hid (upd_ne hb')
  · have e' : upd F.g a o' b = some u := e
    by_cases hb : b = a
    · subst hb
      rw [upd_same] at e' ⊢
      exact ⟨e', hF, hp⟩
    · rw [upd_ne hb] at e' ⊢
      exact x.hid b u e'
/-- what was hidden stands for good -/
theorem Rel.show {a : Addr} {o : HO} {g : Hp} (x : Rel K cA F p mu H) (h : F.g a = some o) (hg : ∀ b u, g b = some u → b ≠ a ∧ F.g b = some u) : Rel K cA ⟨upd F.f a o, g⟩ p mu H := by
  obtain ⟨h0, hF, hp⟩ := x.hid a o h
  refine ⟨fun b u e => ?_, x.len, x.nd, fun b hb => ?_, fun r b c h1 h2 => ?_, fun b u e => ?_, x.tab, fun q hq => (SubH.new (o := o) hF) _ _ (x.xds q hq), upd_nt x.nf (fun ps z => x.ng a ps (z ▸ h)), fun b ps z => x.ng b ps (hg b _ z).2⟩
  · have e' : upd F.f a o b = some u := e
    by_cases hb : b = a
    · subst hb; rw [upd_same] at e'; cases e'; exact h0
    · rw [upd_ne hb] at e'; exact x.sub b u e'
  · have hb' : b ≠ a := fun z => hp (z ▸ hb)
    show upd F.f a o b = none
    rw [upd_ne hb']; exact x.off b hb
  · exact ((x.cell r b c h1 h2).mono (Sub.new (o := o) hF) (List.prefix_refl p) rfl).hid rfl
  · obtain ⟨n, e'⟩ := hg b u e
    obtain ⟨h1, h2, h3⟩ := x.hid b u e'
    refine ⟨h1, ?_, h3⟩
    show upd F.f a o b = none
    rw [upd_ne n]; exact h2
end
end CC

set_option Elab.async false
set_option linter.all false
set_option maxRecDepth 100000
set_option maxHeartbeats 2000000
namespace CC
open PySem PySem.Spec PyProof.Rows L2

section
variable (K : PySem.W.Frag) (cA : CI)
def ExR (F : Fz) (pi : List Addr) (C : Nat) (fs : List (Nat × Val)) (cls : Value) (d : Option Addr) : Prop :=
  cls = .ref (cA C) ∧ ((fs = [] ∧ d = none) ∨ ∃ dx gs, d = some dx ∧ F.f dx = some (.xd gs) ∧ FVR K cA F pi fs gs)
def Post {α β : Type} (rel : Fz → List Addr → α → β → Prop) (W : WX) (s : L2.St) (F : Fz) (pi : List Addr) (Q : β → Hp → Prop) : R α → Prop
  | .ok v mu => ∀ F' p' H' x, Sub F F' → pi <+: p' → Rel K cA F' p' mu H' → rel F' p' v x → Q x H'
  | .exc C fs mu => ∀ F' p' H' cls d, Sub F F' → pi <+: p' → Rel K cA F' p' mu H' → ExR K cA F' p' C fs cls d → W cls d s H'
  | .bad => False
def Den {α β : Type} (rel : Fz → List Addr → α → β → Prop) (W : WX) (m : M α) : L2.St → Hp → (β → Hp → Prop) → Prop :=
  fun s H Q => ∃ F pi r mu, Rel K cA F pi mu H ∧ EnvR K cA F pi r s ∧ Post K cA rel W s F pi Q (m r mu)
end
section
variable {K : PySem.W.Frag} {cA : CI} {F F' : Fz} {p q : List Addr} {mu mu' : Store} {H H' : Hp} {W : WX} {s : L2.St}
theorem Post.mono {α β : Type} {rel : Fz → List Addr → α → β → Prop} {Q : β → Hp → Prop} {x : R α} (a : Sub F F') (h : p <+: q) (e : Post K cA rel W s F p Q x) : Post K cA rel W s F' q Q x := by
  cases x with
  | ok v mu => exact fun G r H' y s1 s2 => e G r H' y (a.trans s1) (h.trans s2)
  | exc C fs mu => exact fun G r H' y d s1 s2 => e G r H' y d (a.trans s1) (h.trans s2)
  | bad => exact e
theorem Post.imp {α β : Type} {rel : Fz → List Addr → α → β → Prop} {Q Q' : β → Hp → Prop} {x : R α} (a : ∀ y H, Q y H → Q' y H) (e : Post K cA rel W s F p Q x) : Post K cA rel W s F p Q' x := by
  cases x with
  | ok v mu => exact fun G r H' y s1 s2 s3 s4 => a _ _ (e G r H' y s1 s2 s3 s4)
  | exc C fs mu => exact e
  | bad => exact e
/-- one after the other -/
theorem bindAt {α β γ δ : Type} {r1 : Fz → List Addr → α → β → Prop} {r2 : Fz → List Addr → γ → δ → Prop} {Q : δ → Hp → Prop} {m : M α} {k : α → Store → R γ} {T : β → Hp → Prop} {r : Env1}
    (h1 : Rel K cA F p mu H) (h2 : EnvR K cA F p r s) (h3 : Post K cA r2 W s F p Q ((m r mu).bind k))
    (t : ∀ F' p' mu' x y H', Sub F F' → p <+: p' → Rel K cA F' p' mu' H' → EnvR K cA F' p' r s → r1 F' p' x y → Post K cA r2 W s F' p' Q (k x mu') → T y H') : Den K cA r1 W m s H T := by
  refine ⟨F, p, r, mu, h1, h2, ?_⟩
  cases e : m r mu with
  | ok v mu1 =>
    rw [e] at h3
    intro F' p' H' y a b c d
    exact t F' p' mu1 v y H' a b c (h2.mono a b) d (Post.mono a b h3)
  | exc C fs mu1 =>
    rw [e] at h3
    exact h3
  | bad =>
    rw [e] at h3
    exact h3
end
abbrev DE (K : PySem.W.Frag) (cA : CI) (W : WX) (m : M Val) : TE := Den K cA (VR K cA) W m
abbrev DT (K : PySem.W.Frag) (cA : CI) (W : WX) (m : M Bool) : TT := Den K cA (fun _ _ (a b : Bool) => a = b) W m
abbrev DA (K : PySem.W.Frag) (cA : CI) (W : WX) (m : M (List Val)) : TA := Den K cA (VRs K cA) W m
def PEM (X : Cx) (cA : CI) (W : WX) (e : Expr) (m : M Val) : Prop := PE X e (DE X.K cA W m)
def PTM (X : Cx) (cA : CI) (W : WX) (e : Expr) (m : M Bool) : Prop := PT X e (DT X.K cA W m)
def PAM (X : Cx) (cA : CI) (W : WX) (es : List Expr) (m : M (List Val)) : Prop := PA X es (DA X.K cA W m)
theorem pe_weak {X : Cx} {e : Expr} {t t' : TE} (h : PE X e t) (w : ∀ s H Q, t' s H Q → t s H Q) : PE X e t' := ⟨fun pins s σ H Q I q => h.run pins s σ H Q I (w _ _ _ q)⟩
theorem pt_weak {X : Cx} {e : Expr} {t t' : TT} (h : PT X e t) (w : ∀ s H Q, t' s H Q → t s H Q) : PT X e t' := ⟨fun pins s σ H Q I q => h.run pins s σ H Q I (w _ _ _ q)⟩
theorem pa_weak {X : Cx} {e : List Expr} {t t' : TA} (h : PA X e t) (w : ∀ s H Q, t' s H Q → t s H Q) : PA X e t' := ⟨fun pos pins s σ H Q I q => h.run pos pins s σ H Q I (w _ _ _ q)⟩
theorem ps_weak {X : Cx} {e : Stmt} {t t' : TS} (h : PS X e t) (w : ∀ D s H, t' D s H → t D s H) : PS X e t' := ⟨fun pins s σ H Q I q => h.run pins s σ H Q I (w _ _ _ q)⟩
theorem pss_weak {X : Cx} {e : List Stmt} {t t' : TS} (h : PSs X e t) (w : ∀ D s H, t' D s H → t D s H) : PSs X e t' := ⟨fun pins s σ H Q I q => h.run pins s σ H Q I (w _ _ _ q)⟩

def optR {α : Type} (o : Option α) (mu : Store) : R α := match o with
  | some z => .ok z mu
  | none => .bad
def vM (i : Nat) : M Val := fun r mu => match r[i]? with
  | some (some v) => .ok v mu
  | _ => .bad
def cM (v : Val) : M Val := fun _ mu => .ok v mu
def u1 (g : Store → Val → Option Val) (ma : M Val) : M Val := fun r mu => (ma r mu).bind fun x mu1 => optR (g mu1 x) mu1
def b2 (g : Store → Val → Val → Option Val) (ma mb : M Val) : M Val := fun r mu => (ma r mu).bind fun x mu1 => (mb r mu1).bind fun y mu2 => optR (g mu2 x y) mu2
def nilM : M (List Val) := fun _ mu => .ok [] mu
def consM (ma : M Val) (mb : M (List Val)) : M (List Val) := fun r mu => (ma r mu).bind fun x mu1 => (mb r mu1).bind fun y mu2 => .ok (x :: y) mu2
def fA (g : Store → List Val → Option Val) (ma : M (List Val)) : M Val := fun r mu => (ma r mu).bind fun x mu1 => optR (g mu1 x) mu1
-- on values: what is asked of an operation that makes at most new things that stand for good
section
variable (K : PySem.W.Frag) (cA : CI)
def GQ (F : Fz) (pi : List Addr) (mu : Store) (z : Val) (Q : VK) : Prop := ∀ F' H' v, Sub F F' → Rel K cA F' pi mu H' → VR K cA F' pi z v → Q v H'
def G1 (g : Store → Val → Option Val) : V → Hp → VK → Prop := fun x H Q => ∃ F pi mu a z, Rel K cA F pi mu H ∧ VR K cA F pi a x ∧ g mu a = some z ∧ GQ K cA F pi mu z Q
def G2 (g : Store → Val → Val → Option Val) : R2 := fun x y H Q => ∃ F pi mu a b z, Rel K cA F pi mu H ∧ VR K cA F pi a x ∧ VR K cA F pi b y ∧ g mu a b = some z ∧ GQ K cA F pi mu z Q
def GA (g : Store → List Val → Option Val) : List V → Hp → VK → Prop := fun xs H Q => ∃ F pi mu as z, Rel K cA F pi mu H ∧ VRs K cA F pi as xs ∧ g mu as = some z ∧ GQ K cA F pi mu z Q
end
section
variable {X : Cx} {cA : CI} {W : WX} {a b c e : Expr} {es : List Expr} {ma mb mc : M Val} {ms : M (List Val)} {pos : Pos}
theorem post_opt {K : PySem.W.Frag} {cA : CI} {F : Fz} {p : List Addr} {s : L2.St} {Q : VK} {o : Option Val} {mu : Store} (h : Post K cA (VR K cA) W s F p Q (optR o mu)) : ∃ z, o = some z ∧ GQ K cA F p mu z Q := by
  cases o with
  | none => exact h.elim
  | some z => exact ⟨z, rfl, fun F' H' v a r q => h F' p H' v a (List.prefix_refl p) r q⟩
theorem GQ.now {K : PySem.W.Frag} {F : Fz} {p : List Addr} {mu : Store} {z : Val} {Q : VK} (h : GQ K cA F p mu z Q) {H : Hp} {v : V} (r : Rel K cA F p mu H) (q : VR K cA F p z v) : Q v H := h F H v (Sub.refl F) r q
theorem GQ.mono {K : PySem.W.Frag} {F F' : Fz} {p : List Addr} {mu : Store} {z : Val} {Q : VK} (h : GQ K cA F p mu z Q) (a : Sub F F') : GQ K cA F' p mu z Q := fun G H v b r q => h G H v (a.trans b) r q
/-- a new tuple -/
theorem GQ.tup {K : PySem.W.Frag} {F : Fz} {p : List Addr} {mu : Store} {zs : List Val} {Q : VK} (h : GQ K cA F p mu (.tup zs) Q) {H : Hp} {vs : List V} {a : Addr} (r : Rel K cA F p mu H) (q : VRs K cA F p zs vs) (hn : H a = none) : Q (.ref a) (upd H a (.tup vs)) :=
  h _ _ _ (Sub.new (r.fresh hn).1) (r.frz hn) (.tup (SqT.of upd_same) (q.mono (Sub.new (r.fresh hn).1) (List.prefix_refl p)))
/-- a new list that stands for good -/
theorem GQ.lst {K : PySem.W.Frag} {F : Fz} {p : List Addr} {mu : Store} {zs : List Val} {Q : VK} (h : GQ K cA F p mu (.lst zs) Q) {H : Hp} {vs : List V} {a : Addr} (r : Rel K cA F p mu H) (q : VRs K cA F p zs vs) (hn : H a = none) : Q (.ref a) (upd H a (.lst vs)) :=
  h _ _ _ (Sub.new (r.fresh hn).1) (r.frz hn) (.lst upd_same (q.mono (Sub.new (r.fresh hn).1) (List.prefix_refl p)))

theorem c_var {x : Str} (i : Nat) (hN : X.N[i]? = some x := by rfl) (hv : Vis X.env.scope x := by first | exact Or.inl rfl | exact Or.inr (Or.inl rfl) | exact Or.inr (Or.inr rfl)) (hd : (x == ("__debug__" : Str)) = false := by decide)
    (hcd : (x == ("__classdict__" : Str)) = false := by decide) : PEM X cA W (.Name x pos) (vM i) := by
  refine pe_weak (pe_var (i := i) hN hv hd hcd) fun s H Q h => ?_
  obtain ⟨F, p, r, mu, h1, h2, h3⟩ := h
  unfold vM at h3
  split at h3
  · rename_i v e
    obtain ⟨w, e1, e2⟩ := h2.2 i v e
    exact ⟨w, e1, h3 F p H w (Sub.refl F) (List.prefix_refl p) h1 e2⟩
  · exact h3.elim
/-- a value that is written -/
theorem c_of {v : Val} {w : V} (h : PE X e (tC w)) (hv : ∀ F p, VR X.K cA F p v w) : PEM X cA W e (cM v) := by
  refine pe_weak h fun s H Q h => ?_
  obtain ⟨F, p, r, mu, h1, h2, h3⟩ := h
  exact h3 F p H w (Sub.refl F) (List.prefix_refl p) h1 (hv F p)
theorem c_int {i : Int} {j} : PEM X cA W (.Constant (.int i) j pos) (cM (.int i)) := c_of pe_int fun _ _ => .int i
theorem c_bl {i : Bool} {j} : PEM X cA W (.Constant (.bool i) j pos) (cM (.bl i)) := c_of pe_bl fun _ _ => .bl i
theorem c_non {j} : PEM X cA W (.Constant .none j pos) (cM .non) := c_of pe_non fun _ _ => .non
theorem c_str {x : Str} {j} : PEM X cA W (.Constant (.str x) j pos) (cM (.str x.cps.toList)) := c_of pe_str fun _ _ => by
  have h : x = S x.cps.toList := by simp [S]
  conv => rhs; rw [h]
  exact .str _
theorem c_un {op : UnaryOp} {g : Store → Val → Option Val} (ho : UnR X (unaryOp op) (G1 X.K cA g)) (ha : PEM X cA W a ma) : PEM X cA W (.UnaryOp op a pos) (u1 g ma) :=
  pe_weak (pe_un ho ha) fun s H Q ⟨F, p, r, mu, h1, h2, h3⟩ => bindAt h1 h2 h3 fun F1 p1 mu1 x v H1 a1 b1 c1 d1 e1 f1 => by
    obtain ⟨z, e, q⟩ := post_opt f1
    exact ⟨F1, p1, mu1, x, z, c1, e1, e, q⟩
theorem den2 {K : PySem.W.Frag} {s : L2.St} {H : Hp} {Q : VK} {g : Store → Val → Val → Option Val} (h : DE K cA W (b2 g ma mb) s H Q) : tOp (G2 K cA g) (DE K cA W ma) (DE K cA W mb) s H Q := by
  obtain ⟨F, p, r, mu, h1, h2, h3⟩ := h
  refine bindAt h1 h2 h3 fun F1 p1 mu1 x v H1 a1 b1 c1 d1 e1 f1 => ?_
  refine bindAt c1 d1 f1 fun F2 p2 mu2 y w H2 a2 b2 c2 d2 e2 f2 => ?_
  obtain ⟨z, e, q⟩ := post_opt f2
  exact ⟨F2, p2, mu2, x, y, z, c2, e1.mono a2 b2, e2, e, q⟩
theorem c_bin {op : Operator} {g : Store → Val → Val → Option Val} (ho : OpR X (binaryOp op) (G2 X.K cA g)) (ha : PEM X cA W a ma) (hb : PEM X cA W b mb) : PEM X cA W (.BinOp a op b pos) (b2 g ma mb) :=
  pe_weak (pe_op ho ha hb) fun s H Q h => den2 h
theorem c_cmp {op : CmpOp} {g : Store → Val → Val → Option Val} (ho : OpR X (compareOp op) (G2 X.K cA g)) (ha : PEM X cA W a ma) (hb : PEM X cA W b mb) (hm : behindInMarks op b = false := by first | exact nobehind _ (by decide) (by decide) | rfl) : PEM X cA W (.Compare a [op] [b] pos) (b2 g ma mb) :=
  pe_weak (pe_cmpR ho ha hb hm) fun s H Q h => den2 h
theorem c_nil : PAM X cA W [] nilM := pa_weak pa_nil fun s H Q ⟨F, p, r, mu, h1, h2, h3⟩ => h3 F p H [] (Sub.refl F) (List.prefix_refl p) h1 .nil
theorem denc {K : PySem.W.Frag} {s : L2.St} {H : Hp} {Q : List V → Hp → Prop} (h : DA K cA W (consM ma ms) s H Q) : tCons (DE K cA W ma) (DA K cA W ms) s H Q := by
  obtain ⟨F, p, r, mu, h1, h2, h3⟩ := h
  refine bindAt h1 h2 h3 fun F1 p1 mu1 x v H1 a1 b1 c1 d1 e1 f1 => ?_
  refine bindAt c1 d1 f1 fun F2 p2 mu2 y w H2 a2 b2 c2 d2 e2 f2 => ?_
  exact f2 F2 p2 H2 (v :: w) (Sub.refl F2) (List.prefix_refl p2) c2 (.cons (e1.mono a2 b2) e2)
theorem c_cons (ha : PEM X cA W e ma) (hr : PAM X cA W es ms) (hs : starEach (e :: es) X.env = (false, eval e X.env) :: starEach es X.env := by rfl) : PAM X cA W (e :: es) (consM ma ms) :=
  pa_weak (pa_cons ha hr hs) fun s H Q h => denc h
/-- (a, b, ..) -/
def tupM (ms : M (List Val)) : M Val := fun r mu => (ms r mu).bind fun xs mu1 => if xs.length ≤ 100000 then .ok (.tup xs) mu1 else .bad
def lstM (ms : M (List Val)) : M Val := fun r mu => (ms r mu).bind fun xs mu1 => if xs.length ≤ 100000 then .ok (.lst xs) mu1 else .bad
/-- a list that will be changed -/
def newM (ms : M (List Val)) : M Val := fun r mu => (ms r mu).bind fun xs mu1 => if xs.length ≤ 100000 then .ok (.ref mu1.length) (mu1 ++ [.lst xs]) else .bad
theorem post_if {K : PySem.W.Frag} {F : Fz} {p : List Addr} {s : L2.St} {Q : VK} {c : Prop} [Decidable c] {z : Val} {mu : Store} (h : Post K cA (VR K cA) W s F p Q (if c then .ok z mu else .bad)) : c ∧ Post K cA (VR K cA) W s F p Q (.ok z mu) := by
  by_cases hc : c
  · rw [if_pos hc] at h
    exact ⟨hc, h⟩
  · rw [if_neg hc] at h
    exact h.elim
theorem post_gq {K : PySem.W.Frag} {F : Fz} {p : List Addr} {s : L2.St} {Q : VK} {z : Val} {mu : Store} (h : Post K cA (VR K cA) W s F p Q (.ok z mu)) : GQ K cA F p mu z Q := fun F' H' v a r q => h F' p H' v a (List.prefix_refl p) r q
theorem line5 {n : Nat} (h : n ≤ 100000) : n ≤ sizeLine := Nat.le_trans h (by decide)
theorem c_tup {x1} (h : PAM X cA W es ms) : PEM X cA W (.Tuple es x1 pos) (tupM ms) :=
  pe_weak (pe_tup h) fun s H Q ⟨F, p, r, mu, h1, h2, h3⟩ => bindAt h1 h2 h3 fun F1 p1 mu1 x v H1 a1 b1 c1 d1 e1 f1 => by
    obtain ⟨hl, q⟩ := post_if f1
    exact ⟨line5 (by rw [← e1.length]; exact hl), fun a ha => (post_gq q).tup c1 e1 ha⟩
theorem c_lst (h : PAM X cA W es ms) : PEM X cA W (.List es pos) (lstM ms) :=
  pe_weak (pe_lst h) fun s H Q ⟨F, p, r, mu, h1, h2, h3⟩ => bindAt h1 h2 h3 fun F1 p1 mu1 x v H1 a1 b1 c1 d1 e1 f1 => by
    obtain ⟨hl, q⟩ := post_if f1
    exact ⟨line5 (by rw [← e1.length]; exact hl), fun a ha => (post_gq q).lst c1 e1 ha⟩
theorem c_new (h : PAM X cA W es ms) : PEM X cA W (.List es pos) (newM ms) :=
  pe_weak (pe_lst h) fun s H Q ⟨F, p, r, mu, h1, h2, h3⟩ => bindAt h1 h2 h3 fun F1 p1 mu1 x v H1 a1 b1 c1 d1 e1 f1 => by
    obtain ⟨hl, q⟩ := post_if f1
    refine ⟨line5 (by rw [← e1.length]; exact hl), fun a ha => q F1 (p1 ++ [a]) _ _ (Sub.refl F1) (List.prefix_append p1 [a]) (c1.alloc ha (fun b u hb => ?_) ⟨v, upd_same, e1.mono (Sub.refl F1) (List.prefix_append p1 [a])⟩) (.ref ?_)⟩
    · rw [upd_ne (ne_of_none hb ha)]
      exact hb
    · rw [← c1.len, List.getElem?_append_right (Nat.le_refl _)]
      simp
end
end CC

set_option Elab.async false
set_option linter.all false
set_option maxRecDepth 100000
set_option maxHeartbeats 2000000
namespace CC
open PySem PySem.Spec PyProof.Rows L2

def seqL (mu : Store) : Val → Option (List Val)
  | .lst xs => some xs
  | .ref r => match mu[r]? with
    | some (.lst xs) => some xs
    | _ => none
  | _ => none
section
variable {K : PySem.W.Frag} {cA : CI} {F : Fz} {p : List Addr} {mu : Store} {H : Hp}
theorem seqL_ok {a : Val} {v : V} {xs : List Val} (R : Rel K cA F p mu H) (r : VR K cA F p a v) (e : seqL mu a = some xs) : ∃ l vs, v = .ref l ∧ H l = some (.lst vs) ∧ VRs K cA F p xs vs := by
  cases r with
  | lst h1 h2 => cases e; exact ⟨_, _, rfl, R.sub _ _ h1, h2⟩
  | ref h1 =>
    obtain ⟨c, h2, h3⟩ := R.at_some h1
    simp only [seqL, h2] at e
    cases c with
    | lst ys => cases e; obtain ⟨vs, q1, q2⟩ := h3; exact ⟨_, _, rfl, q1, q2⟩
    | dct ys => cases e
    | obj C ys => cases e
  | _ => cases e
end
theorem S_len (s : List Nat) : (S s).length = s.length := by simp [S, Str.length]
theorem S_app (s t : List Nat) : S s ++ S t = S (s ++ t) := by
  show (⟨s.toArray ++ t.toArray⟩ : Str) = ⟨(s ++ t).toArray⟩
  simp
theorem S_inj {s t : List Nat} : S s = S t ↔ s = t := by
  constructor
  · intro h
    have := congrArg (fun x : Str => x.cps.toList) h
    simpa [S] using this
  · intro h; rw [h]
theorem line5' {n : Nat} (h : n ≤ 100000) : n ≤ sizeLine := Nat.le_trans h (by decide)

def addV (mu : Store) (a b : Val) : Option Val := match a with
  | .int i => (match b with
    | .int j => some (.int (i + j))
    | _ => none)
  | .str s => (match b with
    | .str t => if s.length + t.length ≤ 100000 then some (.str (s ++ t)) else none
    | _ => none)
  | .tup xs => (match b with
    | .tup ys => if xs.length + ys.length ≤ 100000 then some (.tup (xs ++ ys)) else none
    | _ => none)
  | a => (match seqL mu a with
    | some xs => (match seqL mu b with
      | some ys => if xs.length + ys.length ≤ 100000 then some (.lst (xs ++ ys)) else none
      | none => none)
    | none => none)
theorem vrs_nil {K : PySem.W.Frag} {cA : CI} {F : Fz} {p : List Addr} {vs : List V} {xs : List Val} (h : VRs K cA F p xs vs) : vs = [] ↔ xs = [] := by cases h <;> simp
section
variable {X : Cx} {cA : CI}
theorem op_addV : OpR X (binaryOp .Add) (G2 X.K cA addV) := by
  intro pins s σ H x y v u Q I rv ru h
  obtain ⟨F, p, mu, a, b, z, R, ra, rb, e, q⟩ := h
  have lists : ∀ {a : Val}, VR X.K cA F p a x → (match seqL mu a with
    | some xs => (match seqL mu b with
      | some ys => if xs.length + ys.length ≤ 100000 then some (.lst (xs ++ ys)) else none
      | none => none)
    | none => none) = some z → wpAny (model X.prog X.w) X.A (binaryOp .Add v u) (EP X pins σ Q) X.xe s := by
    intro a ra e
    cases e1 : seqL mu a with
    | none => rw [e1] at e; cases e
    | some xs =>
      rw [e1] at e
      cases e2 : seqL mu b with
      | none => rw [e2] at e; cases e
      | some ys =>
        rw [e2] at e
        simp only at e
        by_cases hc : xs.length + ys.length ≤ 100000
        · rw [if_pos hc] at e
          cases e
          obtain ⟨l, vs, rfl, h1, h2⟩ := seqL_ok R ra e1
          obtain ⟨l', ws, rfl, h3, h4⟩ := seqL_ok R rb e2
          exact op_cat pins s σ H _ _ v u Q I rv ru ⟨l, l', vs, ws, rfl, rfl, h1, h3, line5' (by rw [← h2.length, ← h4.length]; exact hc), fun a ha => q.lst R (h2.append h4) ha⟩
        · rw [if_neg hc] at e; cases e
  cases ra with
  | int i =>
    cases rb with
    | int j => cases e; exact op_add pins s σ H _ _ v u Q I rv ru ⟨i, j, rfl, rfl, q.now R (.int _)⟩
    | _ => cases e
  | str i =>
    cases rb with
    | str j =>
      simp only [addV] at e
      by_cases hc : i.length + j.length ≤ 100000
      · rw [if_pos hc] at e; cases e
        refine op_add_str pins s σ H _ _ v u Q I rv ru ⟨S i, S j, rfl, rfl, line5' (by rw [S_len, S_len]; exact hc), ?_⟩
        rw [S_app]
        exact q.now R (.str _)
      · rw [if_neg hc] at e; cases e
    | _ => cases e
  | tup h1 h2 =>
    cases rb with
    | tup h3 h4 =>
      rename_i xs vs b ys ws
      simp only [addV] at e
      by_cases hc : xs.length + ys.length ≤ 100000
      · rw [if_pos hc] at e; cases e
        refine op_catA pins s σ H _ _ v u Q I rv ru ⟨_, _, _, _, rfl, rfl, sub_t R.sub h1, sub_t R.sub h3, line5' (by rw [← h2.length, ← h4.length]; exact hc), fun e1 => ?_, fun e1 e2 => ?_, fun e1 e2 a ha => q.tup R (h2.append h4) ha⟩
        · rw [vrs_nil h2] at e1
          rw [e1] at q
          exact q.now R (.tup h3 h4)
        · rw [vrs_nil h4] at e2
          rw [e2, List.append_nil] at q
          exact q.now R (.tup h1 h2)
      · rw [if_neg hc] at e; cases e
    | _ => cases e
  | lst h1 h2 => exact lists (.lst h1 h2) e
  | ref h1 => exact lists (.ref h1) e
  | non => cases e
  | bl _ => cases e
  | dct _ _ => cases e
  | obj _ _ => cases e
  | cls _ => cases e
  | ty _ => cases e
  | scr _ => cases e
  | vw _ => cases e
  | tupS _ _ _ => cases e
  | err _ _ => cases e
def mulV (mu : Store) (a b : Val) : Option Val := match b with
  | .int j => (match a with
    | .int i => if i.natAbs < 2 ^ 64 ∨ j.natAbs < 2 ^ 64 then some (.int (i * j)) else none
    | a => (match seqL mu a with
      | some xs => if xs.length ≤ 1000 ∧ 0 ≤ j ∧ j ≤ 1000 then some (.lst (List.replicate j.toNat xs).flatten) else none
      | none => none))
  | _ => none
theorem nat64 {i : Int} (h : i.natAbs < 2 ^ 64) : -(2 ^ 64) < i ∧ i < 2 ^ 64 := by omega
theorem vrs_rep {K : PySem.W.Frag} {F : Fz} {p : List Addr} {vs : List V} {xs : List Val} (h : VRs K cA F p xs vs) : ∀ n : Nat, VRs K cA F p (List.replicate n xs).flatten (List.replicate n vs).flatten
  | 0 => .nil
  | n + 1 => by
    rw [List.replicate_succ, List.replicate_succ, List.flatten_cons, List.flatten_cons]
    exact h.append (vrs_rep h n)
theorem op_mulV : OpR X (binaryOp .Mult) (G2 X.K cA mulV) := by
  intro pins s σ H x y v u Q I rv ru h
  obtain ⟨F, p, mu, a, b, z, R, ra, rb, e, q⟩ := h
  cases rb with
  | int j =>
    have lists : ∀ {a : Val}, VR X.K cA F p a x → (match seqL mu a with
      | some xs => if xs.length ≤ 1000 ∧ 0 ≤ j ∧ j ≤ 1000 then some (.lst (List.replicate j.toNat xs).flatten) else none
      | none => none) = some z → wpAny (model X.prog X.w) X.A (binaryOp .Mult v u) (EP X pins σ Q) X.xe s := by
      intro a ra e
      cases e1 : seqL mu a with
      | none => rw [e1] at e; cases e
      | some xs =>
        rw [e1] at e
        simp only at e
        by_cases hc : xs.length ≤ 1000 ∧ 0 ≤ j ∧ j ≤ 1000
        · rw [if_pos hc] at e
          cases e
          obtain ⟨l, vs, rfl, h1, h2⟩ := seqL_ok R ra e1
          refine op_rep pins s σ H _ _ v u Q I rv ru ⟨l, j, vs, rfl, rfl, h1, by omega, by omega, ?_, fun a ha => q.lst R (vrs_rep h2 _) ha⟩
          rw [← h2.length]
          have : xs.length * j.toNat ≤ 1000 * 1000 := Nat.mul_le_mul hc.1 (by omega)
          exact Nat.le_trans this (by decide)
        · rw [if_neg hc] at e; cases e
    cases ra with
    | int i =>
      simp only [mulV] at e
      by_cases hc : i.natAbs < 2 ^ 64 ∨ j.natAbs < 2 ^ 64
      · rw [if_pos hc] at e
        cases e
        exact op_mul pins s σ H _ _ v u Q I rv ru ⟨i, j, rfl, rfl, hc.elim (fun h => .inl (nat64 h)) (fun h => .inr (nat64 h)), q.now R (.int _)⟩
      · rw [if_neg hc] at e; cases e
    | lst h1 h2 => exact lists (.lst h1 h2) e
    | ref h1 => exact lists (.ref h1) e
    | _ => cases e
  | _ => cases e
def modV (_ : Store) (a b : Val) : Option Val := match a with
  | .int i => (match b with
    | .int j => if 0 < j then some (.int (i % j)) else none
    | _ => none)
  | _ => none
theorem op_modV : OpR X (binaryOp .Mod) (G2 X.K cA modV) := by
  intro pins s σ H x y v u Q I rv ru h
  obtain ⟨F, p, mu, a, b, z, R, ra, rb, e, q⟩ := h
  cases ra with
  | int i =>
    cases rb with
    | int j =>
      simp only [modV] at e
      by_cases hc : 0 < j
      · rw [if_pos hc] at e; cases e
        exact op_mod pins s σ H _ _ v u Q I rv ru ⟨i, j, rfl, rfl, hc, q.now R (.int _)⟩
      · rw [if_neg hc] at e; cases e
    | _ => cases e
  | _ => cases e
def fdivV (_ : Store) (a b : Val) : Option Val := match a with
  | .int i => (match b with
    | .int j => if 0 < j ∧ j < 1073741824 then some (.int (i / j)) else none
    | _ => none)
  | _ => none
theorem op_fdivV : OpR X (binaryOp .FloorDiv) (G2 X.K cA fdivV) := by
  intro pins s σ H x y v u Q I rv ru h
  obtain ⟨F, p, mu, a, b, z, R, ra, rb, e, q⟩ := h
  cases ra with
  | int i =>
    cases rb with
    | int j =>
      simp only [fdivV] at e
      by_cases hc : 0 < j ∧ j < 1073741824
      · rw [if_pos hc] at e; cases e
        exact op_fdiv pins s σ H _ _ v u Q I rv ru ⟨i, j, rfl, rfl, hc, q.now R (.int _)⟩
      · rw [if_neg hc] at e; cases e
    | _ => cases e
  | _ => cases e
def powV (_ : Store) (a b : Val) : Option Val := match a with
  | .int i => (match b with
    | .int j => if 0 ≤ j ∧ j ≤ 1000 ∧ i.natAbs < 1000 then some (.int (i ^ j.toNat)) else none
    | _ => none)
  | _ => none
theorem op_powV : OpR X (binaryOp .Pow) (G2 X.K cA powV) := by
  intro pins s σ H x y v u Q I rv ru h
  obtain ⟨F, p, mu, a, b, z, R, ra, rb, e, q⟩ := h
  cases ra with
  | int i =>
    cases rb with
    | int j =>
      simp only [powV] at e
      by_cases hc : 0 ≤ j ∧ j ≤ 1000 ∧ i.natAbs < 1000
      · rw [if_pos hc] at e; cases e
        exact op_pow pins s σ H _ _ v u Q I rv ru ⟨i, j, rfl, rfl, ⟨hc.1, by omega, by omega⟩, q.now R (.int _)⟩
      · rw [if_neg hc] at e; cases e
    | _ => cases e
  | _ => cases e
def negV (_ : Store) (a : Val) : Option Val := match a with
  | .int i => some (.int (-i))
  | _ => none
theorem un_negV : UnR X (unaryOp .USub) (G1 X.K cA negV) := by
  intro pins s σ H x v Q I rv h
  obtain ⟨F, p, mu, a, z, R, ra, e, q⟩ := h
  cases ra with
  | int i => cases e; exact un_neg pins s σ H _ v Q I rv ⟨i, rfl, q.now R (.int _)⟩
  | _ => cases e
def ordV (f : Int → Int → Bool) (g : List Nat → List Nat → Bool) (_ : Store) (a b : Val) : Option Val := match a with
  | .int i => (match b with
    | .int j => some (.bl (f i j))
    | _ => none)
  | .str s => (match b with
    | .str t => some (.bl (g s t))
    | _ => none)
  | _ => none
def ltV : Store → Val → Val → Option Val := ordV (fun i j => decide (i < j)) (fun s t => decide (s < t))
def gtV : Store → Val → Val → Option Val := ordV (fun i j => decide (j < i)) (fun s t => decide (t < s))
def geV : Store → Val → Val → Option Val := ordV (fun i j => decide (j ≤ i)) (fun s t => !decide (s < t))
theorem op_ordV {op : CmpOp} {f : Int → Int → Bool} {g : List Nat → List Nat → Bool} (h1 : OpR X (compareOp op) (rI0 fun i j => .bl (f i j))) (h2 : OpR X (compareOp op) (fun x y H Q => ∃ i j : Str, x = .str i ∧ y = .str j ∧ Q (.bl (g i.cps.toList j.cps.toList)) H)) :
    OpR X (compareOp op) (G2 X.K cA (ordV f g)) := by
  intro pins s σ H x y v u Q I rv ru h
  obtain ⟨F, p, mu, a, b, z, R, ra, rb, e, q⟩ := h
  cases ra with
  | int i =>
    cases rb with
    | int j => cases e; exact h1 pins s σ H _ _ v u Q I rv ru ⟨i, j, rfl, rfl, q.now R (.bl _)⟩
    | _ => cases e
  | str i =>
    cases rb with
    | str j => cases e; exact h2 pins s σ H _ _ v u Q I rv ru ⟨S i, S j, rfl, rfl, q.now R (.bl _)⟩
    | _ => cases e
  | _ => cases e
theorem op_ltV : OpR X (compareOp .Lt) (G2 X.K cA ltV) := op_ordV op_lt op_lt_str
theorem op_gtV : OpR X (compareOp .Gt) (G2 X.K cA gtV) := op_ordV op_gt op_gt_str
theorem op_geV : OpR X (compareOp .GtE) (G2 X.K cA geV) := op_ordV op_ge op_ge_str
end
end CC

set_option Elab.async false
set_option linter.all false
set_option maxRecDepth 100000
set_option maxHeartbeats 2000000
namespace CC
open PySem PySem.Spec PyProof.Rows L2

def mapO {α β : Type} (f : α → Option β) : List α → Option (List β)
  | [] => some []
  | x :: xs => match f x with
    | some y => (match mapO f xs with
      | some ys => some (y :: ys)
      | none => none)
    | none => none
theorem mapO_cons {α β : Type} {f : α → Option β} {x : α} {xs : List α} {zs : List β} (h : mapO f (x :: xs) = some zs) : ∃ y ys, f x = some y ∧ mapO f xs = some ys ∧ zs = y :: ys := by
  unfold mapO at h
  cases e : f x with
  | none => rw [e] at h; cases h
  | some y =>
    rw [e] at h
    simp only at h
    cases e2 : mapO f xs with
    | none => rw [e2] at h; cases h
    | some ys => rw [e2] at h; cases h; exact ⟨y, ys, rfl, rfl, rfl⟩
def toD : Nat → Val → Option PyData
  | _, .non => some .none
  | _, .bl b => some (.bool b)
  | _, .int i => some (.int i)
  | _, .str s => some (.str (S s))
  | n + 1, .tup xs => (mapO (toD n) xs).map .tuple
  | n + 1, .lst xs => (mapO (toD n) xs).map .list
  | _, _ => none
def toD1 (mu : Store) (v : Val) : Option PyData := match v with
  | .ref r => (match mu[r]? with
    | some (.lst xs) => (mapO (toD 30) xs).map .list
    | _ => none)
  | v => toD 31 v
theorem toD_plain : ∀ (n : Nat) (v : Val) (d : PyData), toD n v = some d → d.plain = true ∧ d.depth ≤ n := by
  intro n
  induction n with
  | zero =>
    intro v d h
    cases v <;> simp only [toD] at h <;> cases h <;> exact ⟨rfl, Nat.zero_le _⟩
  | succ n ih =>
    have all : ∀ (xs : List Val) (ds : List PyData), mapO (toD n) xs = some ds → PyData.plainAll ds = true ∧ PyData.depthAll ds ≤ n := by
      intro xs
      induction xs with
      | nil => intro ds h; cases h; exact ⟨rfl, Nat.zero_le _⟩
      | cons x xs ih2 =>
        intro ds h
        obtain ⟨y, ys, h1, h2, rfl⟩ := mapO_cons h
        obtain ⟨a1, a2⟩ := ih _ _ h1
        obtain ⟨b1, b2⟩ := ih2 _ h2
        refine ⟨?_, ?_⟩
        · simp only [PyData.plainAll, a1, b1, Bool.and_self]
        · simp only [PyData.depthAll]
          exact Nat.max_le.mpr ⟨a2, b2⟩
    intro v d h
    cases v with
    | tup xs =>
      simp only [toD] at h
      obtain ⟨ds, h1, rfl⟩ := Option.map_eq_some_iff.mp h
      obtain ⟨a, b⟩ := all _ _ h1
      exact ⟨by simp only [PyData.plain]; exact a, by simp only [PyData.depth]; omega⟩
    | lst xs =>
      simp only [toD] at h
      obtain ⟨ds, h1, rfl⟩ := Option.map_eq_some_iff.mp h
      obtain ⟨a, b⟩ := all _ _ h1
      exact ⟨by simp only [PyData.plain]; exact a, by simp only [PyData.depth]; omega⟩
    | _ => (simp only [toD] at h) <;> first | (cases h; done) | (cases h; exact ⟨rfl, Nat.zero_le _⟩)
section
variable {K : PySem.W.Frag} {cA : CI} {F : Fz} {H : Hp} {p : List Addr} {mu : Store}
theorem toD_dp (R : SubH F.f H) : ∀ (n : Nat) (v : Val) (d : PyData) (x : V), toD n v = some d → VR K cA F p v x → Dp K H x d := by
  intro n
  induction n with
  | zero =>
    intro v d x h r
    cases r <;> simp only [toD] at h <;> cases h <;> constructor
  | succ n ih =>
    have all : ∀ (xs : List Val) (ds : List PyData) (vs : List V), mapO (toD n) xs = some ds → VRs K cA F p xs vs → DpAll K H vs ds := by
      intro xs
      induction xs with
      | nil => intro ds vs h r; cases h; cases r; exact .nil
      | cons x xs ih2 =>
        intro ds vs h r
        obtain ⟨y, ys, h1, h2, rfl⟩ := mapO_cons h
        cases r with
        | cons r1 r2 => exact .cons (ih _ _ _ h1 r1) (ih2 _ _ h2 r2)
    intro v d x h r
    cases r with
    | tup h1 h2 =>
      simp only [toD] at h
      obtain ⟨ds, h3, rfl⟩ := Option.map_eq_some_iff.mp h
      exact .tup (sub_t R h1) (all _ _ _ h3 h2)
    | lst h1 h2 =>
      simp only [toD] at h
      obtain ⟨ds, h3, rfl⟩ := Option.map_eq_some_iff.mp h
      exact .lst (SqL.of (R _ _ h1)) (all _ _ _ h3 h2)
    | _ => (simp only [toD] at h) <;> first | (cases h; done) | (cases h; constructor)
theorem mapO_dp (R : SubH F.f H) (n : Nat) : ∀ (xs : List Val) (ds : List PyData) (vs : List V), mapO (toD n) xs = some ds → VRs K cA F p xs vs → DpAll K H vs ds := by
  intro xs
  induction xs with
  | nil => intro ds vs h r; cases h; cases r; exact .nil
  | cons x xs ih2 =>
    intro ds vs h r
    obtain ⟨y, ys, h1, h2, rfl⟩ := mapO_cons h
    cases r with
    | cons r1 r2 => exact .cons (toD_dp R _ _ _ _ h1 r1) (ih2 _ _ h2 r2)
theorem mapO_plain (n : Nat) : ∀ (xs : List Val) (ds : List PyData), mapO (toD n) xs = some ds → PyData.plainAll ds = true ∧ PyData.depthAll ds ≤ n := by
  intro xs
  induction xs with
  | nil => intro ds h; cases h; exact ⟨rfl, Nat.zero_le _⟩
  | cons x xs ih2 =>
    intro ds h
    obtain ⟨y, ys, h1, h2, rfl⟩ := mapO_cons h
    obtain ⟨a1, a2⟩ := toD_plain _ _ _ h1
    obtain ⟨b1, b2⟩ := ih2 _ h2
    refine ⟨?_, ?_⟩
    · simp only [PyData.plainAll, a1, b1, Bool.and_self]
    · simp only [PyData.depthAll]
      exact Nat.max_le.mpr ⟨a2, b2⟩
theorem toD1_ok (R : Rel K cA F p mu H) {v : Val} {d : PyData} {x : V} (h : toD1 mu v = some d) (r : VR K cA F p v x) : Dp K H x d ∧ d.plain = true ∧ d.depth ≤ 31 := by
  cases r with
  | ref h1 =>
    obtain ⟨c, h2, h3⟩ := R.at_some h1
    simp only [toD1, h2] at h
    cases c with
    | lst xs =>
      obtain ⟨ds, h4, rfl⟩ := Option.map_eq_some_iff.mp h
      obtain ⟨vs, q1, q2⟩ := h3
      obtain ⟨a, b⟩ := mapO_plain _ _ _ h4
      exact ⟨.lst (SqL.of q1) (mapO_dp R.sub _ _ _ _ h4 q2), by simp only [PyData.plain]; exact a, by simp only [PyData.depth]; omega⟩
    | dct _ => cases h
    | obj _ _ => cases h
  | tup h1 h2 => exact ⟨toD_dp (cA := cA) (p := p) R.sub _ _ _ _ h (.tup h1 h2), (toD_plain _ _ _ h).1, (toD_plain _ _ _ h).2⟩
  | lst h1 h2 => exact ⟨toD_dp (cA := cA) (p := p) R.sub _ _ _ _ h (.lst h1 h2), (toD_plain _ _ _ h).1, (toD_plain _ _ _ h).2⟩
  | non => exact ⟨toD_dp (cA := cA) (p := p) R.sub _ _ _ _ h .non, (toD_plain _ _ _ h).1, (toD_plain _ _ _ h).2⟩
  | bl b => exact ⟨toD_dp (cA := cA) (p := p) R.sub _ _ _ _ h (.bl b), (toD_plain _ _ _ h).1, (toD_plain _ _ _ h).2⟩
  | int b => exact ⟨toD_dp (cA := cA) (p := p) R.sub _ _ _ _ h (.int b), (toD_plain _ _ _ h).1, (toD_plain _ _ _ h).2⟩
  | str b => exact ⟨toD_dp (cA := cA) (p := p) R.sub _ _ _ _ h (.str b), (toD_plain _ _ _ h).1, (toD_plain _ _ _ h).2⟩
  | _ => cases h
end
def eqV (mu : Store) (a b : Val) : Option Val := match toD1 mu a with
  | some d => (match toD1 mu b with
    | some e => some (.bl (PyData.eqv d e))
    | none => none)
  | none => none
def neV (mu : Store) (a b : Val) : Option Val := match toD1 mu a with
  | some d => (match toD1 mu b with
    | some e => some (.bl (!PyData.eqv d e))
    | none => none)
  | none => none
theorem eqV_cases {f : PyData → PyData → Val} {mu : Store} {a b z : Val} (h : (match toD1 mu a with
  | some d => (match toD1 mu b with
    | some e => some (f d e)
    | none => none)
  | none => none) = some z) : ∃ d e, toD1 mu a = some d ∧ toD1 mu b = some e ∧ z = f d e := by
  cases h1 : toD1 mu a with
  | none => rw [h1] at h; cases h
  | some d =>
    rw [h1] at h
    simp only at h
    cases h2 : toD1 mu b with
    | none => rw [h2] at h; cases h
    | some e => rw [h2] at h; cases h; exact ⟨d, e, rfl, rfl, rfl⟩
section
variable {X : Cx} {cA : CI}
theorem op_eqV (hu : X.A.units + 64 < cLine) : OpR X (compareOp .Eq) (G2 X.K cA eqV) := by
  intro pins s σ H x y v u Q I rv ru h
  obtain ⟨F, p, mu, a, b, z, R, ra, rb, e, q⟩ := h
  obtain ⟨d, d', h1, h2, rfl⟩ := eqV_cases e
  obtain ⟨a1, a2, a3⟩ := toD1_ok R h1 ra
  obtain ⟨b1, b2, b3⟩ := toD1_ok R h2 rb
  obtain ⟨as, r1⟩ := Dp.reads I _ _ _ a1 rv
  obtain ⟨bs, r2⟩ := Dp.reads I _ _ _ b1 ru
  exact SeqAt.eq_plain r1 r2 a2 b2 (by omega) ⟨.bl _, H, I, rfl, q.now R (.bl _)⟩
theorem op_neV (hu : X.A.units + 64 < cLine) : OpR X (compareOp .NotEq) (G2 X.K cA neV) := by
  intro pins s σ H x y v u Q I rv ru h
  obtain ⟨F, p, mu, a, b, z, R, ra, rb, e, q⟩ := h
  obtain ⟨d, d', h1, h2, rfl⟩ := eqV_cases e
  obtain ⟨a1, a2, a3⟩ := toD1_ok R h1 ra
  obtain ⟨b1, b2, b3⟩ := toD1_ok R h2 rb
  obtain ⟨as, r1⟩ := Dp.reads I _ _ _ a1 rv
  obtain ⟨bs, r2⟩ := Dp.reads I _ _ _ b1 ru
  exact SeqAt.ne_plain r1 r2 a2 b2 (by omega) ⟨.bl _, H, I, rfl, q.now R (.bl _)⟩
def keyOf : Val → Option DKey
  | .int i => some (.int i)
  | .str s => some (.str s)
  | _ => none
def look (k : DKey) (kvs : List (DKey × Val)) : Option Val := kvs.lookup k
def dctV (mu : Store) : Val → Option (List (DKey × Val))
  | .dct kvs => some kvs
  | .ref r => match mu[r]? with
    | some (.dct kvs) => some kvs
    | _ => none
  | _ => none
theorem dctV_ok {K : PySem.W.Frag} {F : Fz} {H : Hp} {p : List Addr} {mu : Store} {a : Val} {v : V} {kvs : List (DKey × Val)} (R : Rel K cA F p mu H) (r : VR K cA F p a v) (e : dctV mu a = some kvs) : ∃ l ks, v = .ref l ∧ H l = some (.dK ks) ∧ KVR K cA F p kvs ks := by
  cases r with
  | dct h1 h2 => cases e; exact ⟨_, _, rfl, R.sub _ _ h1, h2⟩
  | ref h1 =>
    obtain ⟨c, h2, h3⟩ := R.at_some h1
    simp only [dctV, h2] at e
    cases c with
    | dct ys => cases e; obtain ⟨vs, q1, q2⟩ := h3; exact ⟨_, _, rfl, q1, q2⟩
    | lst ys => cases e
    | obj C ys => cases e
  | _ => cases e
theorem keyR_inj {k k' : DKey} {l l' : L2.Key} (h : keyR k l) (h' : keyR k' l') : (k = k') ↔ (l = l') := by
  cases k with
  | int i =>
    cases k' with
    | int j =>
      cases (show l = .inl i from h); cases (show l' = .inl j from h')
      exact ⟨fun e => (by cases e; rfl), fun e => (by cases e; rfl)⟩
    | str j =>
      cases (show l = .inl i from h); cases (show l' = .inr (S j) from h')
      exact ⟨fun e => (by cases e), fun e => (by cases e)⟩
    | _ => exact (show False from h').elim
  | str i =>
    cases k' with
    | int j =>
      cases (show l = .inr (S i) from h); cases (show l' = .inl j from h')
      exact ⟨fun e => (by cases e), fun e => (by cases e)⟩
    | str j =>
      cases (show l = .inr (S i) from h); cases (show l' = .inr (S j) from h')
      refine ⟨fun e => (by cases e; rfl), fun e => ?_⟩
      have := S_inj.mp (Sum.inr.inj e)
      rw [this]
    | _ => exact (show False from h').elim
  | _ => exact (show False from h).elim
theorem KVR.look {K : PySem.W.Frag} {F : Fz} {p : List Addr} {k : DKey} {l : L2.Key} (hk : keyR k l) : ∀ {kvs : List (DKey × Val)} {ks : List (L2.Key × V)}, KVR K cA F p kvs ks →
    (∀ x, kvs.lookup k = some x → ∃ v, valV ks l = some v ∧ VR K cA F p x v) ∧ (kvs.lookup k = none → valV ks l = none)
  | _, _, .nil => ⟨fun x h => by simp at h, fun _ => rfl⟩
  | _, _, .cons (k := k1) (k' := l1) h1 h2 h3 => by
    obtain ⟨i1, i2⟩ := KVR.look hk h3
    by_cases e : k = k1
    · have e' : l1 = l := ((keyR_inj hk h1).mp e).symm
      have eb : (k == k1) = true := beq_iff_eq.mpr e
      refine ⟨fun x h => ?_, fun h => ?_⟩
      · simp only [List.lookup, eb, Option.some.injEq] at h
        subst h
        exact ⟨_, by unfold valV; rw [List.find?_cons_of_pos (by simpa using e')]; rfl, h2⟩
      · simp only [List.lookup, eb] at h
        cases h
    · have e' : ¬ l1 = l := fun z => e ((keyR_inj hk h1).mpr z.symm)
      have eb : (k == k1) = false := beq_eq_false_iff_ne.mpr e
      have ev : ∀ {w : V} {r : List (L2.Key × V)}, valV ((l1, w) :: r) l = valV r l := fun {w r} => by
        unfold valV
        rw [List.find?_cons_of_neg (by simpa using e')]
      refine ⟨fun x h => ?_, fun h => ?_⟩
      · simp only [List.lookup, eb] at h
        rw [ev]; exact i1 x h
      · simp only [List.lookup, eb] at h
        rw [ev]; exact i2 h
theorem keyOf_ok {K : PySem.W.Frag} {F : Fz} {p : List Addr} {a : Val} {v : V} {k : DKey} (r : VR K cA F p a v) (e : keyOf a = some k) : ∃ l, v = kV l ∧ keyR k l := by
  cases r with
  | int i => cases e; exact ⟨.inl i, rfl, rfl⟩
  | str i => cases e; exact ⟨.inr (S i), rfl, rfl⟩
  | _ => cases e
end
end CC

set_option Elab.async false
set_option linter.all false
set_option maxRecDepth 100000
set_option maxHeartbeats 2000000
namespace CC
open PySem PySem.Spec PyProof.Rows L2
def inB (mu : Store) (a b : Val) : Option Bool := match b with
  | .str t => (match a with
    | .str [c] => some (decide (c ∈ t))
    | _ => none)
  | .tup ys => (match toD 30 a with
    | some d => (match mapO (toD 30) ys with
      | some ds => some (ds.any fun z => PyData.eqv z d)
      | none => none)
    | none => none)
  | b => (match seqL mu b with
    | some ys => (match toD 30 a with
      | some d => (match mapO (toD 30) ys with
        | some ds => some (ds.any fun z => PyData.eqv z d)
        | none => none)
      | none => none)
    | none => (match dctV mu b with
      | some kvs => (match keyOf a with
        | some k => some (kvs.lookup k).isSome
        | none => none)
      | none => none))
section
variable {X : Cx} {cA : CI}
def isNil : Val → Option Bool
  | .non => some true
  | .vw _ => none
  | _ => some false
def isNV (_ : Store) (a b : Val) : Option Val := match b with
  | .non => (isNil a).map .bl
  | _ => none
def truV (mu : Store) : Val → Option Bool
  | .non => some false
  | .bl b => some b
  | .int i => some (i != 0)
  | .str s => if s.length ≤ 100000 then some (!s.isEmpty) else none
  | .tup xs => some (!xs.isEmpty)
  | .lst xs => some (!xs.isEmpty)
  | .dct xs => some (!xs.isEmpty)
  | .ref r => (match mu[r]? with
    | some (.lst xs) => some (!xs.isEmpty)
    | some (.dct xs) => some (!xs.isEmpty)
    | _ => none)
  | _ => none
theorem vrs_emp {K : PySem.W.Frag} {F : Fz} {p : List Addr} {vs : List V} {xs : List Val} (h : VRs K cA F p xs vs) : (!xs.isEmpty) = !vs.isEmpty := by cases h <;> rfl
theorem kvr_emp {K : PySem.W.Frag} {F : Fz} {p : List Addr} {vs : List (L2.Key × V)} {xs : List (DKey × Val)} (h : KVR K cA F p xs vs) : (!xs.isEmpty) = !vs.isEmpty := by cases h <;> rfl
theorem truV_ok {K : PySem.W.Frag} {F : Fz} {H : Hp} {p : List Addr} {mu : Store} {a : Val} {v : V} {k : Bool} (R : Rel K cA F p mu H) (r : VR K cA F p a v) (e : truV mu a = some k) : TruV K v H k := by
  cases r with
  | non => cases e; rfl
  | bl b => cases e; rfl
  | int i => cases e; rfl
  | str s =>
    simp only [truV] at e
    by_cases hc : s.length ≤ 100000
    · rw [if_pos hc] at e
      cases e
      refine ⟨line5' (by rw [S_len]; exact hc), ?_⟩
      rw [S_len]
      cases s <;> simp
      omega
    · rw [if_neg hc] at e; cases e
  | tup h1 h2 => cases e; exact .inr (.inl ⟨_, sub_t R.sub h1, vrs_emp h2⟩)
  | lst h1 h2 => cases e; exact .inl ⟨_, SqL.of (R.sub _ _ h1), vrs_emp h2⟩
  | dct h1 h2 => cases e; exact .inr (.inr ⟨_, R.sub _ _ h1, kvr_emp h2⟩)
  | ref h1 =>
    obtain ⟨c, h2, h3⟩ := R.at_some h1
    simp only [truV, h2] at e
    cases c with
    | lst xs => cases e; obtain ⟨vs, q1, q2⟩ := h3; exact .inl ⟨_, SqL.of q1, vrs_emp q2⟩
    | dct xs => cases e; obtain ⟨vs, q1, q2⟩ := h3; exact .inr (.inr ⟨_, q1, kvr_emp q2⟩)
    | obj C xs => cases e
  | _ => cases e
def tstM (m : M Val) : M Bool := fun r mu => (m r mu).bind fun v mu1 => optR (truV mu1 v) mu1
def tB (m : M Val) : M Bool := fun r mu => (m r mu).bind fun v mu1 => match v with
  | .bl b => .ok b mu1
  | _ => .bad
variable {W : WX} {a b c e : Expr} {es : List Expr} {ma mb mc : M Val} {ms : M (List Val)} {mt mu' : M Bool} {pos : Pos}
theorem post_optB {K : PySem.W.Frag} {F : Fz} {p : List Addr} {s : L2.St} {Q : Bool → Hp → Prop} {o : Option Bool} {mu : Store} {H : Hp} (R : Rel K cA F p mu H) (h : Post K cA (fun _ _ (a b : Bool) => a = b) W s F p Q (optR o mu)) : ∃ z, o = some z ∧ Q z H := by
  cases o with
  | none => exact h.elim
  | some z => exact ⟨z, rfl, h F p H z (Sub.refl F) (List.prefix_refl p) R rfl⟩
/-- a value's truth -/
theorem c_test (ha : PEM X cA W a ma) (he : ∀ whole, isTrue a X.env whole = (do let v ← whole; standAt a.pos; holding [v] (truthy v)) := by intro _; rfl) : PTM X cA W a (tstM ma) :=
  pt_weak (pt_truth ha he) fun s H Q ⟨F, p, r, mu, h1, h2, h3⟩ => bindAt h1 h2 h3 fun F1 p1 mu1 x v H1 a1 b1 c1 d1 e1 f1 => by
    obtain ⟨z, e, q⟩ := post_optB c1 f1
    exact ⟨z, truV_ok c1 e1 e, q⟩
theorem denB {K : PySem.W.Frag} {s : L2.St} {H : Hp} {Q : Bool → Hp → Prop} {m : M Val} (h : DT K cA W (tB m) s H Q) : DE K cA W m s H (fun x H' => ∃ k, x = .bl k ∧ Q k H') := by
  obtain ⟨F, p, r, mu, h1, h2, h3⟩ := h
  refine bindAt h1 h2 h3 fun F1 p1 mu1 x v H1 a1 b1 c1 d1 e1 f1 => ?_
  cases e1 with
  | bl b => exact ⟨b, rfl, f1 F1 p1 H1 b (Sub.refl F1) (List.prefix_refl p1) c1 rfl⟩
  | _ => exact f1.elim
theorem c_tcmp {op : CmpOp} {g : Store → Val → Val → Option Val} (ho : OpR X (compareOp op) (G2 X.K cA g)) (ha : PEM X cA W a ma) (hb : PEM X cA W b mb) (hm : behindInMarks op b = false := by first | exact nobehind _ (by decide) (by decide) | rfl) : PTM X cA W (.Compare a [op] [b] pos) (tB (b2 g ma mb)) :=
  pt_weak (pt_cmpR ho ha hb hm) fun s H Q h => den2 (denB h)
def andT (ma mb : M Bool) : M Bool := fun r mu => (ma r mu).bind fun c mu1 => if c = true then mb r mu1 else .ok false mu1
def orT (ma mb : M Bool) : M Bool := fun r mu => (ma r mu).bind fun c mu1 => if c = true then .ok true mu1 else mb r mu1
def notT (ma : M Bool) : M Bool := fun r mu => (ma r mu).bind fun c mu1 => .ok (!c) mu1
def ifM {α : Type} (mt : M Bool) (ma mb : M α) : M α := fun r mu => (mt r mu).bind fun c mu1 => if c = true then ma r mu1 else mb r mu1
theorem c_tnot (ha : PTM X cA W a mt) : PTM X cA W (.UnaryOp .Not a pos) (notT mt) :=
  pt_weak (pt_not ha) fun s H Q ⟨F, p, r, mu, h1, h2, h3⟩ => bindAt h1 h2 h3 fun F1 p1 mu1 x v H1 a1 b1 c1 d1 e1 f1 => by
    subst e1
    exact f1 F1 p1 H1 _ (Sub.refl F1) (List.prefix_refl p1) c1 rfl
theorem c_if (hc : PTM X cA W c mt) (ha : PEM X cA W a ma) (hb : PEM X cA W b mb) : PEM X cA W (.IfExp c a b pos) (ifM mt ma mb) :=
  pe_weak (pe_ifExp hc ha hb) fun s H Q ⟨F, p, r, mu, h1, h2, h3⟩ => bindAt h1 h2 h3 fun F1 p1 mu1 x v H1 a1 b1 c1 d1 e1 f1 => by
    subst e1
    cases x with
    | true => exact ⟨F1, p1, r, mu1, c1, d1, f1⟩
    | false => exact ⟨F1, p1, r, mu1, c1, d1, f1⟩
/-- .. as values: truth values alone -/
def blM (m : M Bool) : M Val := fun r mu => (m r mu).bind fun c mu1 => .ok (.bl c) mu1
def andM (ma mb : M Val) : M Val := fun r mu => (ma r mu).bind fun x mu1 => match x with
  | .bl c => if c = true then mb r mu1 else .ok (.bl false) mu1
  | _ => .bad
def orM (ma mb : M Val) : M Val := fun r mu => (ma r mu).bind fun x mu1 => match x with
  | .bl c => if c = true then .ok (.bl true) mu1 else mb r mu1
  | _ => .bad
def notM (ma : M Val) : M Val := fun r mu => (ma r mu).bind fun x mu1 => match x with
  | .bl c => .ok (.bl (!c)) mu1
  | _ => .bad
theorem c_one {op} (ha : PEM X cA W a ma) : PEM X cA W (.BoolOp op [a] pos) ma := pe_one ha
theorem c_and {rest : List Expr} (ha : PEM X cA W a ma) (hb : PEM X cA W (.BoolOp .And (b :: rest) pos) mb) : PEM X cA W (.BoolOp .And (a :: b :: rest) pos) (andM ma mb) :=
  pe_weak (pe_and ha hb) fun s H Q ⟨F, p, r, mu, h1, h2, h3⟩ => bindAt h1 h2 h3 fun F1 p1 mu1 x v H1 a1 b1 c1 d1 e1 f1 => by
    cases e1 with
    | bl k =>
      refine ⟨k, rfl, ?_⟩
      cases k with
      | true => exact ⟨F1, p1, r, mu1, c1, d1, f1⟩
      | false => exact f1 F1 p1 H1 _ (Sub.refl F1) (List.prefix_refl p1) c1 (.bl _)
    | _ => exact f1.elim
end
end CC

set_option Elab.async false
set_option linter.all false
set_option maxRecDepth 100000
set_option maxHeartbeats 2000000
namespace CC
open PySem PySem.Spec PyProof.Rows L2
def ixV (mu : Store) (a b : Val) : Option Val := match dctV mu a with
  | some kvs => (match keyOf b with
    | some k => kvs.lookup k
    | none => none)
  | none => (match b with
    | .int i => (match a with
      | .tup xs => atI xs i
      | .str s => if s.length ≤ 100000 then (atI s i).map fun c => Val.str [c] else none
      | .scr ns => (atI ns i).map Val.int
      | a => (match seqL mu a with
        | some xs => atI xs i
        | none => none))
    | _ => none)
theorem atI_map {α β : Type} {f : α → β} {xs : List α} {i : Int} {z : α} (h : atI xs i = some z) : atI (xs.map f) i = some (f z) := by
  unfold atI at h ⊢
  rw [List.length_map]
  cases e : ixN xs.length i with
  | none => rw [e] at h; cases h
  | some j =>
    rw [e] at h
    show (xs.map f)[j]? = some (f z)
    rw [List.getElem?_map]
    have h' : xs[j]? = some z := h
    rw [h']
    rfl
theorem VRs.at {K : PySem.W.Frag} {cA : CI} {F : Fz} {p : List Addr} {xs : List Val} {vs : List V} {i : Int} {z : Val} (r : VRs K cA F p xs vs) (h : atI xs i = some z) : ∃ v, atI vs i = some v ∧ VR K cA F p z v := by
  unfold atI at h ⊢
  rw [← r.length]
  cases e : ixN xs.length i with
  | none => rw [e] at h; cases h
  | some j =>
    rw [e] at h
    exact r.get h
section
variable {X : Cx} {cA : CI} {W : WX} {a b c e : Expr} {es : List Expr} {ma mb mc : M Val} {ms : M (List Val)} {mt mt' : M Bool} {pos : Pos}
theorem ix_any (hu : X.A.units + 200 < cLine) : IxR X (G2 X.K cA ixV) := by
  intro value slice pins s σ H x y v u Q I rv ru h hs
  obtain ⟨F, p, mu, a, b, z, R, ra, rb, e, q⟩ := h
  unfold ixV at e
  cases e1 : dctV mu a with
  | some kvs =>
    rw [e1] at e
    simp only at e
    cases e2 : keyOf b with
    | none => rw [e2] at e; cases e
    | some k =>
      rw [e2] at e
      obtain ⟨l, ks, rfl, g1, g2⟩ := dctV_ok R ra e1
      obtain ⟨k', rfl, hk⟩ := keyOf_ok rb e2
      obtain ⟨w, ew, rw'⟩ := (KVR.look hk g2).1 z e
      obtain rfl : v = Value.ref l := rv
      have g : DGet H l (kV k') (some w) := by rw [← ew]; exact DGet.k g1
      exact tail_any (dict_typeIs I g) PySem.F.slot_dict_getitem.lookup (d_getItem (by omega) I g ru fun w' s' I' r' => ⟨w, H, I', r', q.now R rw'⟩) hs
  | none =>
    rw [e1] at e
    simp only at e
    cases rb with
    | int i =>
      have seqs : ∀ {a : Val}, VR X.K cA F p a x → (match seqL mu a with
        | some xs => atI xs i
        | none => none) = some z → wpAny (model X.prog X.w) X.A (subscriptTail value slice v u) (EP X pins σ Q) X.xe s := by
        intro a ra e
        cases e2 : seqL mu a with
        | none => rw [e2] at e; cases e
        | some xs =>
          rw [e2] at e
          obtain ⟨l, vs, rfl, g1, g2⟩ := seqL_ok R ra e2
          obtain ⟨w, ew, rw'⟩ := g2.at e
          exact ix_list value slice pins s σ H _ _ v u Q I rv ru ⟨l, vs, i, w, rfl, rfl, SqL.of g1, ew, q.now R rw'⟩ hs
      cases ra with
      | tup g1 g2 =>
        obtain ⟨w, ew, rw'⟩ := g2.at e
        exact ix_tup value slice pins s σ H _ _ v u Q I rv ru ⟨_, _, i, w, rfl, rfl, sub_t R.sub g1, ew, q.now R rw'⟩ hs
      | str t =>
        simp only at e
        by_cases hc : t.length ≤ 100000
        · rw [if_pos hc] at e
          obtain ⟨d, e2, rfl⟩ := Option.map_eq_some_iff.mp e
          exact ix_str value slice pins s σ H _ _ v u Q I rv ru ⟨S t, i, d, rfl, rfl, line5' (by rw [S_len]; exact hc), by simpa [S] using e2, q.now R (.str [d])⟩ hs
        · rw [if_neg hc] at e; cases e
      | scr g =>
        obtain ⟨d, e2, rfl⟩ := Option.map_eq_some_iff.mp e
        exact ix_list value slice pins s σ H _ _ v u Q I rv ru ⟨_, _, i, .int d, rfl, rfl, sub_l R.sub g, atI_map e2, q.now R (.int d)⟩ hs
      | lst g1 g2 => exact seqs (.lst g1 g2) e
      | ref g1 => exact seqs (.ref g1) e
      | _ => cases e
    | _ => cases e
theorem c_ix (hu : X.A.units + 200 < cLine) (ha : PEM X cA W a ma) (hb : PEM X cA W b mb) (hs : PlainIx b := by intro _ _; rfl) : PEM X cA W (.Subscript a b pos) (b2 ixV ma mb) :=
  pe_weak (pe_ix (ix_any hu) ha hb hs) fun s H Q h => den2 h
def cutL {α : Type} (xs : List α) (lo hi : Option Int) : List α := (xs.drop (HT.sIx xs.length 0 lo)).take (HT.sIx xs.length xs.length hi - HT.sIx xs.length 0 lo)
def slV (mu : Store) (a : Val) (lo hi : Option Int) : Option Val := match a with
  | .str s => if s.length ≤ 100000 then some (.str (cutL s lo hi)) else none
  | .tup xs => some (.tup (cutL xs lo hi))
  | .scr ns => some (.lst ((cutL ns lo hi).map Val.int))
  | a => (match seqL mu a with
    | some xs => some (.lst (cutL xs lo hi))
    | none => none)
theorem VRs.cut {K : PySem.W.Frag} {cA : CI} {F : Fz} {p : List Addr} {xs : List Val} {vs : List V} (r : VRs K cA F p xs vs) (lo hi : Option Int) : VRs K cA F p (cutL xs lo hi) (cutV vs lo hi) := by
  unfold cutL cutV
  rw [r.length]
  exact (r.drop _).take _
theorem cutL_all {α : Type} {xs : List α} {lo hi : Option Int} (h : HT.sIx xs.length 0 lo = 0 ∧ HT.sIx xs.length xs.length hi = xs.length) : cutL xs lo hi = xs := by
  unfold cutL
  rw [h.1, h.2, List.drop_zero, Nat.sub_zero, List.take_length]
theorem cutV_map {ns : List Int} {lo hi : Option Int} : cutV (ns.map V.int) lo hi = (cutL ns lo hi).map V.int := by
  unfold cutL cutV
  rw [List.length_map, List.map_take, List.map_drop]
def GSl (K : PySem.W.Frag) (cA : CI) (g : Store → Val → Option Int → Option Int → Option Val) : V → Option Int → Option Int → Hp → VK → Prop := fun x lo hi H Q => ∃ F p mu a z, Rel K cA F p mu H ∧ VR K cA F p a x ∧ g mu a lo hi = some z ∧ GQ K cA F p mu z Q
theorem sl_any : SlR X (GSl X.K cA slV) := by
  intro pins s σ H x v vl vu lo hi sl Q I rx hs pl pu h
  obtain ⟨F, p, mu, a, z, R, ra, e, q⟩ := h
  have seqs : ∀ {a : Val}, VR X.K cA F p a x → (match seqL mu a with
    | some xs => some (Val.lst (cutL xs lo hi))
    | none => none) = some z → ∃ T id, typeLookup (.type T) "__getitem__" = pure (some (.builtin id)) ∧ s.TypeIs v T ∧ wpAny (model X.prog X.w) X.A (getItem v (.ref sl)) (EP X pins σ Q) X.xe s := by
    intro a ra e
    cases e2 : seqL mu a with
    | none => rw [e2] at e; cases e
    | some xs =>
      rw [e2] at e
      cases e
      obtain ⟨l, vs, rfl, g1, g2⟩ := seqL_ok R ra e2
      exact sl_list pins s σ H _ v vl vu lo hi sl Q I rx hs pl pu ⟨l, vs, rfl, SqL.of g1, fun a ha => q.lst R (g2.cut lo hi) ha⟩
  cases ra with
  | str t =>
    simp only [slV] at e
    by_cases hc : t.length ≤ 100000
    · rw [if_pos hc] at e
      cases e
      refine sl_str pins s σ H _ v vl vu lo hi sl Q I rx hs pl pu ⟨S t, rfl, line5' (by rw [S_len]; exact hc), ?_⟩
      have : cutS (S t) lo hi = S (cutL t lo hi) := by
        unfold cutS cutL
        rw [S_len]
      rw [this]
      exact q.now R (.str _)
    · rw [if_neg hc] at e; cases e
  | tup g1 g2 =>
    cases e
    refine sl_tupA pins s σ H _ v vl vu lo hi sl Q I rx hs pl pu ⟨_, _, rfl, sub_t R.sub g1, fun hw => ?_, fun hw p hp => q.tup R (g2.cut lo hi) hp⟩
    rw [← g2.length] at hw
    rw [cutL_all hw] at q
    exact q.now R (.tup g1 g2)
  | scr g =>
    cases e
    refine sl_list pins s σ H _ v vl vu lo hi sl Q I rx hs pl pu ⟨_, _, rfl, sub_l R.sub g, fun a ha => ?_⟩
    rw [cutV_map]
    exact q.lst R (.map_int _) ha
  | lst g1 g2 => exact seqs (.lst g1 g2) e
  | ref g1 => exact seqs (.ref g1) e
  | _ => cases e
/-- a part of a slice -/
def POM (X : Cx) (cA : CI) (W : WX) (o : Option Expr) (m : M (Option Int)) : Prop := PO X o (Den X.K cA (fun _ _ (a b : Option Int) => a = b) W m)
def noP : M (Option Int) := fun _ mu => .ok none mu
def inP (m : M Val) : M (Option Int) := fun r mu => (m r mu).bind fun v mu1 => match v with
  | .int i => .ok (some i) mu1
  | _ => .bad
def slM (g : Store → Val → Option Int → Option Int → Option Val) (ma : M Val) (ml mh : M (Option Int)) : M Val := fun r mu => (ma r mu).bind fun x mu1 => (ml r mu1).bind fun l mu2 => (mh r mu2).bind fun h mu3 => optR (g mu3 x l h) mu3
theorem po_weak {o : Option Expr} {t t' : TO} (h : PO X o t) (w : ∀ s H Q, t' s H Q → t s H Q) : PO X o t' := ⟨fun pins s σ H Q I q => h.run pins s σ H Q I (w _ _ _ q)⟩
theorem c_noP : POM X cA W none noP := po_weak po_none fun s H Q ⟨F, p, r, mu, h1, h2, h3⟩ => h3 F p H none (Sub.refl F) (List.prefix_refl p) h1 rfl
theorem c_inP (ha : PEM X cA W a ma) : POM X cA W (some a) (inP ma) := po_weak (po_some ha) fun s H Q ⟨F, p, r, mu, h1, h2, h3⟩ => bindAt h1 h2 h3 fun F1 p1 mu1 x v H1 a1 b1 c1 d1 e1 f1 => by
  cases e1 with
  | int i => exact ⟨i, rfl, f1 F1 p1 H1 _ (Sub.refl F1) (List.prefix_refl p1) c1 rfl⟩
  | _ => exact f1.elim
theorem c_sl {lo hi : Option Expr} {ml mh : M (Option Int)} {p2 : Pos} (ha : PEM X cA W a ma) (hl : POM X cA W lo ml) (hh : POM X cA W hi mh) : PEM X cA W (.Subscript a (.Slice lo hi none p2) pos) (slM slV ma ml mh) :=
  pe_weak (pe_slice sl_any ha hl hh) fun s H Q ⟨F, p, r, mu, h1, h2, h3⟩ => by
    refine bindAt h1 h2 h3 fun F1 p1 mu1 x v H1 a1 b1 c1 d1 e1 f1 => ?_
    refine bindAt c1 d1 f1 fun F2 p2 mu2 y w H2 a2 b2 c2 d2 e2 f2 => ?_
    refine bindAt c2 d2 f2 fun F3 p3 mu3 y3 w3 H3 a3 b3 c3 d3 e3 f3 => ?_
    subst e2
    subst e3
    obtain ⟨z, e, q⟩ := post_opt f3
    exact ⟨F3, p3, mu3, x, z, c3, e1.mono (a2.trans a3) (b2.trans b3), e, q⟩
def chM (g g' : Store → Val → Val → Option Val) (ma mb mc : M Val) : M Val := fun r mu => (ma r mu).bind fun x mu1 => (mb r mu1).bind fun y mu2 => match g mu2 x y with
  | some (.bl k) => if k = true then (mc r mu2).bind fun w mu3 => optR (g' mu3 y w) mu3 else .ok (.bl false) mu2
  | _ => .bad
end
end CC

set_option Elab.async false
set_option linter.all false
set_option maxRecDepth 100000
set_option maxHeartbeats 2000000
namespace CC
open PySem PySem.Spec PyProof.Rows L2
section
variable {X : Cx} {cA : CI} {W : WX} {a b c e : Expr} {es : List Expr} {ma mb mc : M Val} {ms : M (List Val)} {pos : Pos}
theorem denA {K : PySem.W.Frag} {s : L2.St} {H : Hp} {Q : VK} {g : Store → List Val → Option Val} (h : DE K cA W (fA g ms) s H Q) : DA K cA W ms s H (fun vs H1 => GA K cA g vs H1 Q) := by
  obtain ⟨F, p, r, mu, h1, h2, h3⟩ := h
  refine bindAt h1 h2 h3 fun F1 p1 mu1 x v H1 a1 b1 c1 d1 e1 f1 => ?_
  obtain ⟨z, e, q⟩ := post_opt f1
  exact ⟨F1, p1, mu1, x, z, c1, e1, e, q⟩
theorem c_callB {id : String} {x : Str} {p : Pos} {g : Store → List Val → Option Val} (hc : CallR X (.builtin id) (GA X.K cA g)) (hm : X.mg x = none) (ha : PAM X cA W (e :: es) ms) (hg : Gl X x := by rfl) (hv : bootBuiltins x = some (.builtin id) := by rfl) (hn : x ≠ "__name__" := by decide) (hdb : (x == ("__debug__" : Str)) = false := by decide)
    (he : starEach (e :: es) X.env = (false, eval e X.env) :: starEach es X.env := by rfl) (hpl : (backTo pos (starEach es X.env)).any (·.1) = false := by rfl) : PEM X cA W (.Call (.Name x p) (e :: es) [] pos) (fA g ms) :=
  pe_weak (pe_callB hc hg hm hv ha hn hdb he hpl) fun s H Q h => denA h
theorem c_callTy {T : String} {x : Str} {p : Pos} {g : Store → List Val → Option Val} (hc : CallR X (.type T) (GA X.K cA g)) (hm : X.mg x = none) (ha : PAM X cA W (e :: es) ms) (hg : Gl X x := by rfl) (hv : bootBuiltins x = some (.type T) := by rfl) (hn : x ≠ "__name__" := by decide) (hdb : (x == ("__debug__" : Str)) = false := by decide)
    (he : starEach (e :: es) X.env = (false, eval e X.env) :: starEach es X.env := by rfl) (hpl : (backTo pos (starEach es X.env)).any (·.1) = false := by rfl) : PEM X cA W (.Call (.Name x p) (e :: es) [] pos) (fA g ms) :=
  pe_weak (pe_callTy hc hg hm hv ha hn hdb he hpl) fun s H Q h => denA h
end
section
variable {K : PySem.W.Frag} {cA : CI} {F : Fz} {H : Hp} {p : List Addr} {mu : Store}
theorem vrs1 {x : Val} {vs : List V} (r : VRs K cA F p [x] vs) : ∃ v, vs = [v] ∧ VR K cA F p x v := by
  cases r with
  | cons a b => cases b; exact ⟨_, rfl, a⟩
theorem vrs2 {x y : Val} {vs : List V} (r : VRs K cA F p [x, y] vs) : ∃ v w, vs = [v, w] ∧ VR K cA F p x v ∧ VR K cA F p y w := by
  cases r with
  | cons a b =>
    obtain ⟨w, rfl, h⟩ := vrs1 b
    exact ⟨_, _, rfl, a, h⟩
/-- a list of one kind -/
def intO : Val → Option Int
  | .int i => some i
  | _ => none
def blO : Val → Option Bool
  | .bl i => some i
  | _ => none
theorem mapO_ok {α : Type} {f : Val → Option α} {g : α → V} (h : ∀ x z v, f x = some z → VR K cA F p x v → v = g z) : ∀ {xs : List Val} {zs : List α} {vs : List V}, mapO f xs = some zs → VRs K cA F p xs vs → vs = zs.map g
  | [], zs, vs, e, r => by cases e; cases r; rfl
  | x :: xs, zs, vs, e, r => by
    obtain ⟨y, ys, h1, h2, rfl⟩ := mapO_cons e
    cases r with
    | cons r1 r2 => rw [h _ _ _ h1 r1, mapO_ok h h2 r2]; rfl
theorem intsO_ok {xs : List Val} {zs : List Int} {vs : List V} (e : mapO intO xs = some zs) (r : VRs K cA F p xs vs) : vs = zs.map V.int := mapO_ok (fun x z v h1 h2 => by cases h2 <;> cases h1; rfl) e r
theorem blsO_ok {xs : List Val} {zs : List Bool} {vs : List V} (e : mapO blO xs = some zs) (r : VRs K cA F p xs vs) : vs = zs.map V.bl := mapO_ok (fun x z v h1 h2 => by cases h2 <;> cases h1; rfl) e r
/-- a list or the script -/
def seqL2 (mu : Store) : Val → Option (List Val)
  | .scr ns => some (ns.map Val.int)
  | a => seqL mu a
theorem seqL2_ok {a : Val} {v : V} {xs : List Val} (R : Rel K cA F p mu H) (r : VR K cA F p a v) (e : seqL2 mu a = some xs) : ∃ l vs, v = .ref l ∧ SqL K H l vs ∧ VRs K cA F p xs vs := by
  have gen : ∀ {a : Val}, VR K cA F p a v → seqL mu a = some xs → ∃ l vs, v = .ref l ∧ SqL K H l vs ∧ VRs K cA F p xs vs := fun r e => by
    obtain ⟨l, vs, rfl, h1, h2⟩ := seqL_ok R r e
    exact ⟨l, vs, rfl, SqL.of h1, h2⟩
  cases r with
  | scr g => cases e; exact ⟨_, _, rfl, sub_l R.sub g, .map_int _⟩
  | lst h1 h2 => exact gen (.lst h1 h2) e
  | ref h1 => exact gen (.ref h1) e
  | _ => cases e
end
def lenV (mu : Store) : List Val → Option Val
  | [.str s] => if s.length ≤ 100000 then some (.int s.length) else none
  | [.tup xs] => some (.int xs.length)
  | [a] => (match seqL2 mu a with
    | some xs => some (.int xs.length)
    | none => (match dctV mu a with
      | some kvs => some (.int kvs.length)
      | none => none))
  | _ => none
section
variable {X : Cx} {cA : CI}
theorem b_len : CallR X (.builtin "len") (GA X.K cA lenV) := by
  intro pins s σ H xs us Q I r h
  obtain ⟨F, p, mu, as, z, R, ra, e, q⟩ := h
  have gen : ∀ (a : Val) (v : V), xs = [v] → VR X.K cA F p a v → (match seqL2 mu a with
    | some xs => some (Val.int xs.length)
    | none => (match dctV mu a with
      | some kvs => some (.int kvs.length)
      | none => none)) = some z → wpAny (model X.prog X.w) X.A (call (.builtin "len") us) (EP X pins σ Q) X.xe s := by
    intro a v ev rv e
    subst ev
    cases e1 : seqL2 mu a with
    | some ys =>
      rw [e1] at e
      cases e
      obtain ⟨l, vs, rfl, h1, h2⟩ := seqL2_ok R rv e1
      refine call_len pins s σ H _ us Q I r ⟨_, _, rfl, .inl ⟨vs, h1, rfl⟩, ?_⟩
      rw [← h2.length]
      exact q.now R (.int _)
    | none =>
      rw [e1] at e
      simp only at e
      cases e2 : dctV mu a with
      | none => rw [e2] at e; cases e
      | some kvs =>
        rw [e2] at e
        cases e
        obtain ⟨l, ks, rfl, h1, h2⟩ := dctV_ok R rv e2
        refine call_lenD pins s σ H _ us Q I r ⟨_, _, rfl, h1, ?_⟩
        rw [← h2.length]
        exact q.now R (.int _)
  cases ra with
  | nil => cases e
  | cons rv rn =>
    cases rn with
    | cons _ _ => simp [lenV] at e
    | nil =>
      cases rv with
      | str t =>
        simp only [lenV] at e
        by_cases hc : t.length ≤ 100000
        · rw [if_pos hc] at e
          cases e
          refine call_len pins s σ H _ us Q I r ⟨_, _, rfl, ⟨line5' (by rw [S_len]; exact hc), rfl⟩, ?_⟩
          rw [S_len]
          exact q.now R (.int _)
        · rw [if_neg hc] at e; cases e
      | tup h1 h2 =>
        cases e
        refine call_len pins s σ H _ us Q I r ⟨_, _, rfl, .inr ⟨_, sub_t R.sub h1, rfl⟩, ?_⟩
        rw [← h2.length]
        exact q.now R (.int _)
      | lst h1 h2 => exact gen _ _ rfl (.lst h1 h2) e
      | ref h1 => exact gen _ _ rfl (.ref h1) e
      | dct h1 h2 => exact gen _ _ rfl (.dct h1 h2) e
      | scr h1 => exact gen _ _ rfl (.scr h1) e
      | _ => cases e
def absV (_ : Store) : List Val → Option Val
  | [.int i] => some (.int (if i < 0 then -i else i))
  | _ => none
theorem b_abs : CallR X (.builtin "abs") (GA X.K cA absV) := by
  intro pins s σ H xs us Q I r h
  obtain ⟨F, p, mu, as, z, R, ra, e, q⟩ := h
  unfold absV at e
  split at e
  · cases e
    obtain ⟨v, rfl, rv⟩ := vrs1 ra
    cases rv
    exact call_abs pins s σ H _ us Q I r ⟨_, rfl, q.now R (.int _)⟩
  · cases e
def intV (_ : Store) : List Val → Option Val
  | [.int i] => some (.int i)
  | [.bl i] => some (.int (if i then 1 else 0))
  | _ => none
theorem b_int : CallR X (.type "int") (GA X.K cA intV) := by
  intro pins s σ H xs us Q I r h
  obtain ⟨F, p, mu, as, z, R, ra, e, q⟩ := h
  unfold intV at e
  split at e
  · cases e
    obtain ⟨v, rfl, rv⟩ := vrs1 ra
    cases rv
    exact call_int1 pins s σ H _ us Q I r (.inl ⟨_, rfl, q.now R (.int _)⟩)
  · cases e
    obtain ⟨v, rfl, rv⟩ := vrs1 ra
    cases rv
    exact call_int1 pins s σ H _ us Q I r (.inr ⟨_, rfl, q.now R (.int _)⟩)
  · cases e
def maxI : List Int → Option Int
  | [] => none
  | x :: xs => some (xs.foldl max x)
def minI : List Int → Option Int
  | [] => none
  | x :: xs => some (xs.foldl min x)
theorem foldl_max : ∀ (xs : List Int) (x : Int), (xs.foldl max x) ∈ x :: xs ∧ ∀ y ∈ x :: xs, y ≤ xs.foldl max x
  | [], x => ⟨by simp, by simp⟩
  | y :: ys, x => by
    obtain ⟨h1, h2⟩ := foldl_max ys (max x y)
    refine ⟨?_, fun z hz => ?_⟩
    · rcases List.mem_cons.mp h1 with h | h
      · rw [List.foldl_cons, h]
        rcases Int.le_total x y with g | g
        · rw [Int.max_eq_right g]; simp
        · rw [Int.max_eq_left g]; simp
      · rw [List.foldl_cons]; simp [h]
    · rw [List.foldl_cons]
      have h0 := h2 _ List.mem_cons_self
      rcases List.mem_cons.mp hz with e | h
      · subst e; exact Int.le_trans (Int.le_max_left _ _) h0
      · rcases List.mem_cons.mp h with e | h
        · subst e; exact Int.le_trans (Int.le_max_right _ _) h0
        · exact h2 _ (List.mem_cons_of_mem _ h)
theorem foldl_min : ∀ (xs : List Int) (x : Int), (xs.foldl min x) ∈ x :: xs ∧ ∀ y ∈ x :: xs, xs.foldl min x ≤ y
  | [], x => ⟨by simp, by simp⟩
  | y :: ys, x => by
    obtain ⟨h1, h2⟩ := foldl_min ys (min x y)
    refine ⟨?_, fun z hz => ?_⟩
    · rcases List.mem_cons.mp h1 with h | h
      · rw [List.foldl_cons, h]
        rcases Int.le_total x y with g | g
        · rw [Int.min_eq_left g]; simp
        · rw [Int.min_eq_right g]; simp
      · rw [List.foldl_cons]; simp [h]
    · rw [List.foldl_cons]
      have h0 := h2 _ List.mem_cons_self
      rcases List.mem_cons.mp hz with e | h
      · subst e; exact Int.le_trans h0 (Int.min_le_left _ _)
      · rcases List.mem_cons.mp h with e | h
        · subst e; exact Int.le_trans h0 (Int.min_le_right _ _)
        · exact h2 _ (List.mem_cons_of_mem _ h)
def maxV (mu : Store) : List Val → Option Val
  | [.int i, .int j] => some (.int (if j > i then j else i))
  | [a] => (match seqL2 mu a with
    | some xs => (match mapO intO xs with
      | some ns => (maxI ns).map Val.int
      | none => none)
    | none => none)
  | _ => none
theorem b_max (hc : X.calm = true) : CallR X (.builtin "max") (GA X.K cA maxV) := by
  intro pins s σ H xs us Q I r h
  obtain ⟨F, p, mu, as, z, R, ra, e, q⟩ := h
  unfold maxV at e
  split at e
  · cases e
    obtain ⟨v, w, rfl, rv, rw'⟩ := vrs2 ra
    cases rv
    cases rw'
    exact call_max2 hc pins s σ H _ us Q I r ⟨_, _, rfl, q.now R (.int _)⟩
  · obtain ⟨v, rfl, rv⟩ := vrs1 ra
    split at e
    · rename_i e1
      split at e
      · rename_i ns e2
        obtain ⟨m, e3, rfl⟩ := Option.map_eq_some_iff.mp e
        obtain ⟨l, vs, rfl, h1, h2⟩ := seqL2_ok R rv e1
        rw [intsO_ok e2 h2] at h1
        cases ns with
        | nil => cases e3
        | cons n ns =>
          cases e3
          obtain ⟨g1, g2⟩ := foldl_max ns n
          refine cr_max hc pins s σ H _ us Q I r ⟨l, _, rfl, h1, by simp, fun m hm hle => ?_⟩
          have : m = ns.foldl max n := Int.le_antisymm (g2 m hm) (hle _ g1)
          rw [this]
          exact q.now R (.int _)
      · cases e
    · cases e
  · cases e
def minV (mu : Store) : List Val → Option Val
  | [.int i, .int j] => some (.int (if j < i then j else i))
  | [a] => (match seqL2 mu a with
    | some xs => (match mapO intO xs with
      | some ns => (minI ns).map Val.int
      | none => none)
    | none => none)
  | _ => none
theorem b_min (hc : X.calm = true) : CallR X (.builtin "min") (GA X.K cA minV) := by
  intro pins s σ H xs us Q I r h
  obtain ⟨F, p, mu, as, z, R, ra, e, q⟩ := h
  unfold minV at e
  split at e
  · cases e
    obtain ⟨v, w, rfl, rv, rw'⟩ := vrs2 ra
    cases rv
    cases rw'
    exact call_min2 hc pins s σ H _ us Q I r ⟨_, _, rfl, q.now R (.int _)⟩
  · obtain ⟨v, rfl, rv⟩ := vrs1 ra
    split at e
    · rename_i e1
      split at e
      · rename_i ns e2
        obtain ⟨m, e3, rfl⟩ := Option.map_eq_some_iff.mp e
        obtain ⟨l, vs, rfl, h1, h2⟩ := seqL2_ok R rv e1
        rw [intsO_ok e2 h2] at h1
        cases ns with
        | nil => cases e3
        | cons n ns =>
          cases e3
          obtain ⟨g1, g2⟩ := foldl_min ns n
          refine cr_min hc pins s σ H _ us Q I r ⟨l, _, rfl, h1, by simp, fun m hm hle => ?_⟩
          have : m = ns.foldl min n := Int.le_antisymm (hle _ g1) (g2 m hm)
          rw [this]
          exact q.now R (.int _)
      · cases e
    · cases e
  · cases e
def allV (mu : Store) : List Val → Option Val
  | [a] => (match seqL2 mu a with
    | some xs => (mapO blO xs).map fun ns => Val.bl (ns.all id)
    | none => none)
  | _ => none
theorem b_all (hc : X.calm = true) : CallR X (.builtin "all") (GA X.K cA allV) := by
  intro pins s σ H xs us Q I r h
  obtain ⟨F, p, mu, as, z, R, ra, e, q⟩ := h
  unfold allV at e
  split at e
  · obtain ⟨v, rfl, rv⟩ := vrs1 ra
    split at e
    · rename_i e1
      obtain ⟨ns, e2, rfl⟩ := Option.map_eq_some_iff.mp e
      obtain ⟨l, vs, rfl, h1, h2⟩ := seqL2_ok R rv e1
      rw [blsO_ok e2 h2] at h1
      exact cr_all hc pins s σ H _ us Q I r ⟨l, _, rfl, h1, q.now R (.bl _)⟩
    · cases e
  · cases e
def shownL (d : PyData) : List Nat := d.shown.cps.toList
def reprV (mu : Store) : List Val → Option Val
  | [a] => (match toD1 mu a with
    | some d => if d.showable = true ∧ d.shown.length ≤ sizeLine then some (.str (shownL d)) else none
    | none => none)
  | _ => none
end
end CC

set_option Elab.async false
set_option linter.all false
set_option maxRecDepth 100000
set_option maxHeartbeats 2000000
namespace CC
open PySem PySem.Spec PyProof.Rows L2
theorem nodict : ∀ (n : Nat) (v : Val) (d : PyData), toD n v = some d → d.hasDict = false := by
  intro n
  induction n with
  | zero => intro v d h; cases v <;> simp only [toD] at h <;> cases h <;> rfl
  | succ n ih =>
    have all : ∀ (xs : List Val) (ds : List PyData), mapO (toD n) xs = some ds → PyData.hasDictAll ds = false := by
      intro xs
      induction xs with
      | nil => intro ds h; cases h; rfl
      | cons x xs ih2 =>
        intro ds h
        obtain ⟨y, ys, h1, h2, rfl⟩ := mapO_cons h
        simp only [PyData.hasDictAll, ih _ _ h1, ih2 _ h2, Bool.or_self]
    intro v d h
    cases v with
    | tup xs =>
      simp only [toD] at h
      obtain ⟨ds, h1, rfl⟩ := Option.map_eq_some_iff.mp h
      simpa only [PyData.hasDict] using all _ _ h1
    | lst xs =>
      simp only [toD] at h
      obtain ⟨ds, h1, rfl⟩ := Option.map_eq_some_iff.mp h
      simpa only [PyData.hasDict] using all _ _ h1
    | _ => (simp only [toD] at h) <;> first | (cases h; done) | (cases h; rfl)
theorem nodictAll (n : Nat) : ∀ (xs : List Val) (ds : List PyData), mapO (toD n) xs = some ds → PyData.hasDictAll ds = false := by
  intro xs
  induction xs with
  | nil => intro ds h; cases h; rfl
  | cons x xs ih2 =>
    intro ds h
    obtain ⟨y, ys, h1, h2, rfl⟩ := mapO_cons h
    simp only [PyData.hasDictAll, nodict _ _ _ h1, ih2 _ h2, Bool.or_self]
theorem nodict1 {mu : Store} {v : Val} {d : PyData} (h : toD1 mu v = some d) : d.hasDict = false := by
  cases v with
  | ref r =>
    simp only [toD1] at h
    split at h
    · obtain ⟨ds, h1, rfl⟩ := Option.map_eq_some_iff.mp h
      simpa only [PyData.hasDict] using nodictAll _ _ _ h1
    · cases h
  | _ => exact nodict _ _ _ h
theorem shownL_S (d : PyData) : d.shown = S (shownL d) := by simp [S, shownL]
section
variable {X : Cx} {cA : CI}
theorem b_repr (hg : X.A.guards = some []) (hu : X.A.units + 64 < cLine) : CallR X (.builtin "repr") (GA X.K cA reprV) := by
  intro pins s σ H xs us Q I r h
  obtain ⟨F, p, mu, as, z, R, ra, e, q⟩ := h
  unfold reprV at e
  split at e
  · obtain ⟨v, rfl, rv⟩ := vrs1 ra
    split at e
    · rename_i d e1
      by_cases hc : d.showable = true ∧ d.shown.length ≤ sizeLine
      · rw [if_pos hc] at e
        cases e
        obtain ⟨a1, a2, a3⟩ := toD1_ok R e1 rv
        obtain ⟨u, rfl, ru⟩ := vals1 r
        obtain ⟨bs, r1⟩ := Dp.reads I _ _ _ a1 ru
        have nd := nodict1 e1
        have fin : ∀ (k : Nat) (t : Tok), EP X pins σ Q (.str d.shown t) { s with toks := k } := fun k t => ⟨.str d.shown, H, I.tok k, ⟨t, rfl⟩, by rw [shownL_S d]; exact q.now R (.str _)⟩
        have kin := I.ok
        cases r1 with
        | none => exact PySem.P.repr_of_none (by simpa only [PyData.shown] using fin _ _)
        | bool b => exact PySem.P.repr_of_bool (by simpa only [PyData.shown] using fin _ _)
        | int i t => exact PySem.P.repr_of_int (by simpa [PyData.showable] using hc.1) (by simpa only [PyData.shown] using fin _ _)
        | str x t => exact PySem.P.repr_of_str (by simpa only [PyData.shown] using fin _ _) (by simpa only [PyData.shown] using hc.2)
        | list h1 h2 h3 h4 =>
          exact PySem.repr_of_reads' (.list h1 h2 h3 h4) hc.1 (PyData.noDict_hsm nd) hg (by omega) (fun _ _ e => e) (fun h' u tk hk => ⟨.str _, H, I.kept hk, ⟨u, rfl⟩, by rw [shownL_S]; exact q.now R (.str _)⟩) hc.2
        | tuple h1 h2 h3 h4 =>
          exact PySem.repr_of_reads' (.tuple h1 h2 h3 h4) hc.1 (PyData.noDict_hsm nd) hg (by omega) (fun _ _ e => e) (fun h' u tk hk => ⟨.str _, H, I.kept hk, ⟨u, rfl⟩, by rw [shownL_S]; exact q.now R (.str _)⟩) hc.2
        | dict _ _ _ _ _ => cases nd
      · rw [if_neg hc] at e; cases e
    · cases e
  · cases e
end
abbrev Tg := String ⊕ Nat
def tagV (cA : CI) : Tg → Value
  | .inl n => .type n
  | .inr C => .ref (cA C)
/-- what is known of the classes: kt, the answers; ic, those whose objects stand here -/
structure KI (K : PySem.W.Frag) (cA : CI) (kt : Tg → Tg → Option Bool) (ic : Nat → Bool) : Prop where
  ok : ∀ a b r, kt a b = some r → PySem.W.kitOne K (tagV cA a) (tagV cA b) = some r
  cl : ∀ C, ic C = true → Cls K (cA C)
  c1 : ∀ C, ic C = true → PySem.W.findIn K (.ref (cA C)) "__class__" = some (some (.builtin "object.__class__"))
  c4 : ∀ C, ic C = true → PySem.W.mroIn K (cA C) (.type "object") = some true
  c2 : PySem.W.specialIn K (.builtin "object.__class__") "__get__" = some (some (.builtin "getset_descriptor.__get__"))
  c3 : PySem.W.takesIn K (.builtin "object.__class__") = some true
def tagOf (ic : Nat → Bool) (mu : Store) : Val → Option Tg
  | .non => some (.inl "NoneType")
  | .bl _ => some (.inl "bool")
  | .int _ => some (.inl "int")
  | .str _ => some (.inl "str")
  | .tup _ => some (.inl "tuple")
  | .lst _ => some (.inl "list")
  | .dct _ => some (.inl "dict")
  | .obj C _ => if ic C = true then some (.inr C) else none
  | .ref r => (match mu[r]? with
    | some (.lst _) => some (.inl "list")
    | some (.dct _) => some (.inl "dict")
    | some (.obj C _) => if ic C = true then some (.inr C) else none
    | none => none)
  | _ => none
def isiV (kt : Tg → Tg → Option Bool) (ic : Nat → Bool) (mu : Store) : List Val → Option Val
  | [a, .ty n] => (tagOf ic mu a).bind fun t => (kt t (.inl n)).map Val.bl
  | [a, .cls C] => (tagOf ic mu a).bind fun t => (kt t (.inr C)).map Val.bl
  | _ => none
def sm0 (g : List Nat → Option Val) (mo : M Val) : M Val := fun r mu => (mo r mu).bind fun x mu1 => match x with
  | .str s => optR (g s) mu1
  | _ => .bad
def sm1 (g : Store → List Nat → Val → Option Val) (mo ma : M Val) : M Val := fun r mu => (mo r mu).bind fun x mu1 => match x with
  | .str s => (ma r mu1).bind fun y mu2 => optR (g mu2 s y) mu2
  | _ => .bad
section
variable {X : Cx} {cA : CI} {W : WX} {a b c e o : Expr} {es : List Expr} {ma mb mc mo : M Val} {ms : M (List Val)} {pos apos : Pos}
def lmM (g : Store → Nat → List Val → List Val → Option (Val × List Val)) (mo : M Val) (ms : M (List Val)) : M Val := fun r mu => (mo r mu).bind fun x mu1 => match x with
  | .ref k => (match mu1[k]? with
    | some (.lst _) => (ms r mu1).bind fun as mu2 => (match mu2[k]? with
      | some (.lst l) => (match g mu2 k l as with
        | some (z, l') => .ok z (mu2.set k (.lst l'))
        | none => .bad)
      | _ => .bad)
    | _ => .bad)
  | _ => .bad
def dnewM : M Val := fun _ mu => .ok (.ref mu.length) (mu ++ [.dct []])
theorem c_dnew : PEM X cA W (.Dict [] [] pos) dnewM :=
  pe_weak pe_dnewK fun s H Q ⟨F, p, r, mu, h1, h2, h3⟩ a ha => by
    refine h3 F (p ++ [a]) _ _ (Sub.refl F) (List.prefix_append p [a]) (h1.alloc ha (fun b u hb => ?_) ⟨[], upd_same, .nil⟩) (.ref ?_)
    · rw [upd_ne (ne_of_none hb ha)]
      exact hb
    · rw [← h1.len, List.getElem?_append_right (Nat.le_refl _)]
      simp
end
end CC

set_option Elab.async false
set_option linter.all false
set_option maxRecDepth 100000
set_option maxHeartbeats 2000000
namespace CC
open PySem PySem.Spec PyProof.Rows L2
def PostS (K : PySem.W.Frag) (cA : CI) (W : WX) (F : Fz) (p : List Addr) (D : Ends) : SR → Prop
  | .nx r mu => ∀ F' p' H' s', Sub F F' → p <+: p' → Rel K cA F' p' mu H' → EnvR K cA F' p' r s' → D.nx s' H'
  | .rt v mu => ∀ F' p' H' x, Sub F F' → p <+: p' → Rel K cA F' p' mu H' → VR K cA F' p' v x → D.rt x H'
  | .bk r mu => ∀ F' p' H' s', Sub F F' → p <+: p' → Rel K cA F' p' mu H' → EnvR K cA F' p' r s' → D.bk s' H'
  | .ct r mu => ∀ F' p' H' s', Sub F F' → p <+: p' → Rel K cA F' p' mu H' → EnvR K cA F' p' r s' → D.ct s' H'
  | .exc C fs r mu => ∀ F' p' H' s' cls d, Sub F F' → p <+: p' → Rel K cA F' p' mu H' → EnvR K cA F' p' r s' → ExR K cA F' p' C fs cls d → W cls d s' H'
  | .bad => False
def DS (K : PySem.W.Frag) (cA : CI) (W : WX) (m : MS) : TS := fun D s H => ∃ F p r mu, Rel K cA F p mu H ∧ EnvR K cA F p r s ∧ PostS K cA W F p D (m r mu)
def PSM (X : Cx) (cA : CI) (W : WX) (st : Stmt) (m : MS) : Prop := PS X st (DS X.K cA W m)
def PSSM (X : Cx) (cA : CI) (W : WX) (st : List Stmt) (m : MS) : Prop := PSs X st (DS X.K cA W m)
def bindS {α : Type} (m : M α) (k : α → Env1 → Store → SR) : MS := fun r mu => match m r mu with
  | .ok a mu1 => k a r mu1
  | .exc C fs mu1 => .exc C fs r mu1
  | .bad => .bad
theorem PostS.mono {K : PySem.W.Frag} {cA : CI} {W : WX} {F F' : Fz} {p q : List Addr} {D : Ends} {x : SR} (a : Sub F F') (h : p <+: q) (e : PostS K cA W F p D x) : PostS K cA W F' q D x := by
  cases x with
  | nx r mu => exact fun G r H' y s1 s2 => e G r H' y (a.trans s1) (h.trans s2)
  | rt r mu => exact fun G r H' y s1 s2 => e G r H' y (a.trans s1) (h.trans s2)
  | bk r mu => exact fun G r H' y s1 s2 => e G r H' y (a.trans s1) (h.trans s2)
  | ct r mu => exact fun G r H' y s1 s2 => e G r H' y (a.trans s1) (h.trans s2)
  | exc C fs r mu => exact fun G r H' y c d s1 s2 => e G r H' y c d (a.trans s1) (h.trans s2)
  | bad => exact e
theorem PostS.imp {K : PySem.W.Frag} {cA : CI} {W : WX} {F : Fz} {p : List Addr} {D D' : Ends} {x : SR} (h1 : ∀ s H, D.nx s H → D'.nx s H) (h2 : ∀ s H, D.rt s H → D'.rt s H) (h3 : ∀ s H, D.bk s H → D'.bk s H) (h4 : ∀ s H, D.ct s H → D'.ct s H) (e : PostS K cA W F p D x) : PostS K cA W F p D' x := by
  cases x with
  | nx r mu => exact fun G r H' y s1 s2 s3 s4 => h1 _ _ (e G r H' y s1 s2 s3 s4)
  | rt r mu => exact fun G r H' y s1 s2 s3 s4 => h2 _ _ (e G r H' y s1 s2 s3 s4)
  | bk r mu => exact fun G r H' y s1 s2 s3 s4 => h3 _ _ (e G r H' y s1 s2 s3 s4)
  | ct r mu => exact fun G r H' y s1 s2 s3 s4 => h4 _ _ (e G r H' y s1 s2 s3 s4)
  | exc C fs r mu => exact e
  | bad => exact e
section
variable {K : PySem.W.Frag} {cA : CI} {W : WX} {F : Fz} {p : List Addr} {mu : Store} {H : Hp} {s : L2.St} {D : Ends} {r : Env1}
theorem bindAtS {α β : Type} {rel : Fz → List Addr → α → β → Prop} {m : M α} {k : α → Env1 → Store → SR} {T : β → Hp → Prop} (h1 : Rel K cA F p mu H) (h2 : EnvR K cA F p r s) (h3 : PostS K cA W F p D (bindS m k r mu))
    (t : ∀ F' p' mu' x y H', Sub F F' → p <+: p' → Rel K cA F' p' mu' H' → EnvR K cA F' p' r s → rel F' p' x y → PostS K cA W F' p' D (k x r mu') → T y H') : Den K cA rel W m s H T := by
  refine ⟨F, p, r, mu, h1, h2, ?_⟩
  unfold bindS at h3
  cases e : m r mu with
  | ok v mu1 =>
    rw [e] at h3
    intro F' p' H' y a b c d
    exact t F' p' mu1 v y H' a b c (h2.mono a b) d (PostS.mono a b h3)
  | exc C fs mu1 =>
    rw [e] at h3
    exact fun F' p' H' cls d a b c x => h3 F' p' H' s cls d a b c (h2.mono a b) x
  | bad => rw [e] at h3; exact h3
end
abbrev TM := Val → Env1 → Store → Option (Env1 × Store)
def PostG (K : PySem.W.Frag) (cA : CI) (F : Fz) (p : List Addr) (Q : L2.St → Hp → Prop) : Option (Env1 × Store) → Prop
  | some (r, mu) => ∀ F' p' H' s', Sub F F' → p <+: p' → Rel K cA F' p' mu H' → EnvR K cA F' p' r s' → Q s' H'
  | none => False
def DG (K : PySem.W.Frag) (cA : CI) (g : TM) : TG := fun v s H Q => ∃ F p r mu x, Rel K cA F p mu H ∧ EnvR K cA F p r s ∧ VR K cA F p x v ∧ PostG K cA F p Q (g x r mu)
def PGM (X : Cx) (cA : CI) (tg : Expr) (g : TM) : Prop := PG X tg (DG X.K cA g)
def optX {α : Type} : R α → Option (α × Store)
  | .ok a mu => some (a, mu)
  | _ => none
theorem pg_weak {X : Cx} {tg : Expr} {t t' : TG} (h : PG X tg t) (w : ∀ v s H Q, t' v s H Q → t v s H Q) : PG X tg t' := ⟨fun pins s σ H v u Q I r q => h.run pins s σ H v u Q I r (w _ _ _ _ q)⟩
theorem PostG.mono {K : PySem.W.Frag} {cA : CI} {F F' : Fz} {p q : List Addr} {Q : L2.St → Hp → Prop} {x : Option (Env1 × Store)} (a : Sub F F') (h : p <+: q) (e : PostG K cA F p Q x) : PostG K cA F' q Q x := by
  cases x with
  | none => exact e
  | some x => obtain ⟨r, mu⟩ := x; exact fun G r H' y s1 s2 => e G r H' y (a.trans s1) (h.trans s2)
section
variable {K : PySem.W.Frag} {cA : CI} {W : WX} {F : Fz} {p : List Addr} {mu : Store} {H : Hp} {s : L2.St} {r : Env1} {Q : L2.St → Hp → Prop}
theorem bindAtG {α β : Type} {rel : Fz → List Addr → α → β → Prop} {m : M α} {k : α × Store → Option (Env1 × Store)} {T : β → Hp → Prop} (h1 : Rel K cA F p mu H) (h2 : EnvR K cA F p r s) (h3 : PostG K cA F p Q ((optX (m r mu)).bind k))
    (t : ∀ F' p' mu' x y H', Sub F F' → p <+: p' → Rel K cA F' p' mu' H' → EnvR K cA F' p' r s → rel F' p' x y → PostG K cA F' p' Q (k (x, mu')) → T y H') : Den K cA rel W m s H T := by
  refine ⟨F, p, r, mu, h1, h2, ?_⟩
  cases e : m r mu with
  | ok v mu1 =>
    rw [e] at h3
    intro F' p' H' y a b c d
    exact t F' p' mu1 v y H' a b c (h2.mono a b) d (PostG.mono a b h3)
  | exc C fs mu1 => rw [e] at h3; exact h3.elim
  | bad => rw [e] at h3; exact h3.elim
theorem EnvR.set {i : Nat} {x : Val} {v : V} (h : EnvR K cA F p r s) (q : VR K cA F p x v) : EnvR K cA F p (r.set i (some x)) (s.set i (some v)) := by
  refine ⟨by simp [h.1], fun j y e => ?_⟩
  by_cases hj : i = j
  · subst hj
    have hl : i < r.length := by
      have := (List.getElem?_eq_some_iff.mp e).1
      simpa using this
    rw [List.getElem?_set_self hl] at e
    cases e
    exact ⟨v, List.getElem?_set_self (by rw [← h.1]; exact hl), q⟩
  · rw [List.getElem?_set_ne hj] at e
    obtain ⟨w, h1, h2⟩ := h.2 j y e
    exact ⟨w, by rw [List.getElem?_set_ne hj]; exact h1, h2⟩
end
def gNameM (i : Nat) : TM := fun v r mu => some (r.set i (some v), mu)
def gListM : List TM → List Val → Env1 → Store → Option (Env1 × Store)
  | [], [], r, mu => some (r, mu)
  | g :: gs, x :: xs, r, mu => (g x r mu).bind fun q => gListM gs xs q.1 q.2
  | _, _, _, _ => none
def gTupM (gs : List TM) : TM := fun v r mu => match v with
  | .tup xs => gListM gs xs r mu
  | _ => none
/-- what o[i] = v does -/
def putD (k : DKey) (v : Val) (kvs : List (DKey × Val)) : List (DKey × Val) :=
  if (kvs.any fun q => decide (q.1 = k)) = true then kvs.map (fun q => if q.1 = k then (q.1, v) else q) else kvs ++ [(k, v)]
def storeV (mu : Store) (o i v : Val) : Option Store := match o with
  | .ref k => (match mu[k]? with
    | some (.lst xs) => (match i with
      | .int j => (ixN xs.length j).map fun n => mu.set k (.lst (xs.set n v))
      | _ => none)
    | some (.dct kvs) => (match keyOf i with
      | some y => if kvs.length < 100000 then some (mu.set k (.dct (putD y v kvs))) else none
      | none => none)
    | _ => none)
  | _ => none
def gSubM (mo mi : M Val) : TM := fun v r mu => (optX (mo r mu)).bind fun o => (optX (mi r o.2)).bind fun i => (storeV i.2 o.1 i.1 v).map fun mu' => (r, mu')
theorem KVR.any {K : PySem.W.Frag} {cA : CI} {F : Fz} {p : List Addr} {k : DKey} {l : L2.Key} (hk : keyR k l) : ∀ {kvs : List (DKey × Val)} {ks : List (L2.Key × V)}, KVR K cA F p kvs ks → (kvs.any fun q => decide (q.1 = k)) = ks.any fun q => decide (q.1 = l)
  | _, _, .nil => rfl
  | _, _, .cons h1 h2 h3 => by
    rw [List.any_cons, List.any_cons, KVR.any hk h3]
    congr 1
    exact decide_eq_decide.mpr (keyR_inj h1 hk)
theorem KVR.re {K : PySem.W.Frag} {cA : CI} {F : Fz} {p : List Addr} {k : DKey} {l : L2.Key} {x : Val} {v : V} (hk : keyR k l) (hv : VR K cA F p x v) : ∀ {kvs : List (DKey × Val)} {ks : List (L2.Key × V)}, KVR K cA F p kvs ks →
    KVR K cA F p (kvs.map (fun q => if q.1 = k then (q.1, x) else q)) (ks.map (fun q => if q.1 = l then (q.1, v) else q))
  | _, _, .nil => .nil
  | _, _, .cons (k := k1) (k' := l1) h1 h2 h3 => by
    rw [List.map_cons, List.map_cons]
    by_cases e : k1 = k
    · rw [if_pos e, if_pos (show l1 = l from (keyR_inj h1 hk).mp e)]
      exact .cons h1 hv (KVR.re hk hv h3)
    · rw [if_neg e, if_neg (show ¬ l1 = l from fun z => e ((keyR_inj h1 hk).mpr z))]
      exact .cons h1 h2 (KVR.re hk hv h3)
theorem KVR.snoc {K : PySem.W.Frag} {cA : CI} {F : Fz} {p : List Addr} {k : DKey} {l : L2.Key} {x : Val} {v : V} (hk : keyR k l) (hv : VR K cA F p x v) : ∀ {kvs : List (DKey × Val)} {ks : List (L2.Key × V)}, KVR K cA F p kvs ks → KVR K cA F p (kvs ++ [(k, x)]) (ks ++ [(l, v)])
  | _, _, .nil => .cons hk hv .nil
  | _, _, .cons h1 h2 h3 => .cons h1 h2 (KVR.snoc hk hv h3)
theorem KVR.put {K : PySem.W.Frag} {cA : CI} {F : Fz} {p : List Addr} {k : DKey} {l : L2.Key} {x : Val} {v : V} {kvs : List (DKey × Val)} {ks : List (L2.Key × V)} (hk : keyR k l) (hv : VR K cA F p x v) (h : KVR K cA F p kvs ks) : KVR K cA F p (putD k x kvs) (putK ks l v) := by
  unfold putD putK
  rw [KVR.any hk h]
  split
  · exact h.re hk hv
  · exact h.snoc hk hv
section
variable {X : Cx} {cA : CI} {W : WX}
def GSt (K : PySem.W.Frag) (cA : CI) : TSet := fun o i v H Q => ∃ F p mu a b c mu', Rel K cA F p mu H ∧ VR K cA F p a o ∧ VR K cA F p b i ∧ VR K cA F p c v ∧ storeV mu a b c = some mu' ∧ ∀ F' p' H', Sub F F' → p <+: p' → Rel K cA F' p' mu' H' → Q H'
theorem set_any (hu : X.A.units + 200 < cLine) : PSet X (GSt X.K cA) := by
  intro pins s σ H o i v ov iv u Q I ro ri rv ⟨F, p, mu, a, b, c, mu', R, ra, rb, rc, e, q⟩
  cases ra with
  | @ref k ad hk =>
    obtain ⟨cl, h2, h3⟩ := R.at_some hk
    simp only [storeV, h2] at e
    cases cl with
    | lst xs =>
      obtain ⟨vs, g1, g2⟩ := h3
      cases rb with
      | int j =>
        simp only at e
        obtain ⟨n, e1, rfl⟩ := Option.map_eq_some_iff.mp e
        refine set_list pins s σ H _ _ _ ov iv u Q I ro ri rv ⟨ad, vs, j, n, rfl, rfl, g1, by rw [← g2.length]; exact e1, ?_⟩
        exact q F p _ (Sub.refl F) (List.prefix_refl p) (R.write hk ⟨_, upd_same, g2.set rc n⟩)
      | _ => cases e
    | dct kvs =>
      obtain ⟨ks, g1, g2⟩ := h3
      simp only at e
      cases e1 : keyOf b with
      | none => rw [e1] at e; cases e
      | some y =>
        rw [e1] at e
        simp only at e
        by_cases hc : kvs.length < 100000
        · rw [if_pos hc] at e
          cases e
          obtain ⟨l, rfl, hl⟩ := keyOf_ok rb e1
          obtain rfl : ov = Value.ref ad := ro
          refine d_setItem (by omega) I (DPut.k g1 (by rw [← g2.length]; exact Nat.lt_of_lt_of_le hc (by decide))) ri rv fun s' I' => ⟨_, I', ?_⟩
          exact q F p _ (Sub.refl F) (List.prefix_refl p) (R.write hk ⟨_, upd_same, g2.put hl rc⟩)
        · rw [if_neg hc] at e; cases e
    | obj C fs => cases e
  | _ => cases e
variable {a b c e o : Expr} {ma mb mc mo mi : M Val} {g : TM} {gs : List TM} {pos pos' : Pos}
theorem g_name {i : Nat} {x : Str} (hN : X.N.Nodup) (hi : X.N[i]? = some x := by rfl) (hx : Loc X.env.scope x := by first | exact Or.inl rfl | exact Or.inr rfl) (hf : X.fn x = true ∨ X.env.scope.names.lookup x = some .local := by first | exact .inl rfl | exact .inr rfl) : PGM X cA (.Name x pos) (gNameM i) :=
  pg_weak (pg_name hN hi hx hf) fun v s H Q ⟨F, p, r, mu, x, h1, h2, h3, h4⟩ => h4 F p H _ (Sub.refl F) (List.prefix_refl p) h1 (h2.set h3)
theorem g_sub (hu : X.A.units + 200 < cLine) (ho : PEM X cA W o mo) (hi : PEM X cA W a mi) (ha : ∀ v, assign (.Subscript o a pos) X.env v = (do
      let ov ← holding [v] (eval o X.env)
      let iv ← holding [v, ov] (eval a X.env)
      standAt pos
      holding [v, ov, iv] (setItem ov iv v)
      release [v, ov, iv] []) := by intro _; rfl) : PGM X cA (.Subscript o a pos) (gSubM mo mi) :=
  pg_weak (pg_sub ho hi (set_any hu) ha) fun v s H Q ⟨F, p, r, mu, x, h1, h2, h3, h4⟩ => by
    refine bindAtG h1 h2 h4 fun F1 p1 mu1 y w H1 a1 b1 c1 d1 e1 f1 => ?_
    refine bindAtG c1 d1 f1 fun F2 p2 mu2 y2 w2 H2 a2 b2 c2 d2 e2 f2 => ?_
    cases e3 : storeV mu2 y y2 x with
    | none => rw [e3] at f2; exact f2.elim
    | some mu3 =>
      rw [e3] at f2
      exact ⟨F2, p2, mu2, y, y2, x, mu3, c2, e1.mono a2 b2, e2, h3.mono (a1.trans a2) (b1.trans b2), e3, fun F' p' H' q1 q2 q3 => f2 F' p' H' s q1 q2 q3 (d2.mono q1 q2)⟩
end
end CC

set_option Elab.async false
set_option linter.all false
set_option maxRecDepth 100000
set_option maxHeartbeats 2000000
namespace CC
open PySem PySem.Spec PyProof.Rows L2
def nextS : MS := fun r mu => .nx r mu
def seqS (a b : MS) : MS := fun r mu => match a r mu with
  | .nx r1 mu1 => b r1 mu1
  | x => x
def retS (m : M Val) : MS := bindS m fun v _ mu => .rt v mu
def exprS (m : M Val) : MS := bindS m fun _ r mu => .nx r mu
def asgS (m : M Val) (g : TM) : MS := bindS m fun v r mu => match g v r mu with
  | some (r', mu') => .nx r' mu'
  | none => .bad
def ifS (c : M Bool) (a b : MS) : MS := bindS c fun k r mu => if k = true then a r mu else b r mu
section
variable {X : Cx} {cA : CI} {W : WX} {a b c e o tg : Expr} {ma mb mc mo mi : M Val} {mt : M Bool} {g : TM} {m1 m2 : MS} {pos pos' : Pos} {st : Stmt} {rest body orelse : List Stmt}
theorem denSeq {K : PySem.W.Frag} {D : Ends} {s : L2.St} {H : Hp} (h : DS K cA W (seqS m1 m2) D s H) : tSeq (DS K cA W m1) (DS K cA W m2) D s H := by
  obtain ⟨F, p, r, mu, h1, h2, h3⟩ := h
  refine ⟨F, p, r, mu, h1, h2, ?_⟩
  unfold seqS at h3
  cases e : m1 r mu with
  | nx r1 mu1 =>
    rw [e] at h3
    exact fun F' p' H' s' a b c d => ⟨F', p', r1, mu1, c, d, PostS.mono a b h3⟩
  | rt v mu1 => rw [e] at h3; exact h3
  | bk r1 mu1 => rw [e] at h3; exact h3
  | ct r1 mu1 => rw [e] at h3; exact h3
  | exc C fs r1 mu1 => rw [e] at h3; exact h3
  | bad => rw [e] at h3; exact h3
theorem s_nil : PSSM X cA W [] nextS := pss_weak pss_nil fun D s H ⟨F, p, r, mu, h1, h2, h3⟩ => h3 F p H s (Sub.refl F) (List.prefix_refl p) h1 h2
theorem s_cons (h1 : PSM X cA W st m1) (h2 : PSSM X cA W rest m2) : PSSM X cA W (st :: rest) (seqS m1 m2) := pss_weak (pss_cons h1 h2) fun D s H h => denSeq h
theorem s_one (h1 : PSM X cA W st m1) : PSSM X cA W [st] m1 := pss_one h1
theorem s_ret (ha : PEM X cA W a ma) : PSM X cA W (.Return (some a) pos) (retS ma) := ps_weak (ps_ret ha) fun D s H ⟨F, p, r, mu, h1, h2, h3⟩ => bindAtS h1 h2 h3 fun F1 p1 mu1 x v H1 a1 b1 c1 d1 e1 f1 => f1 F1 p1 H1 v (Sub.refl F1) (List.prefix_refl p1) c1 e1
theorem denAsg {K : PySem.W.Frag} {D : Ends} {s : L2.St} {H : Hp} (h : DS K cA W (asgS ma g) D s H) : tAsg (DE K cA W ma) (DG K cA g) D s H := by
  obtain ⟨F, p, r, mu, h1, h2, h3⟩ := h
  refine bindAtS h1 h2 h3 fun F1 p1 mu1 x v H1 a1 b1 c1 d1 e1 f1 => ?_
  refine ⟨F1, p1, r, mu1, x, c1, d1, e1, ?_⟩
  cases e2 : g x r mu1 with
  | none => rw [e2] at f1; exact f1.elim
  | some q => rw [e2] at f1; exact f1
theorem s_asg (ha : PEM X cA W a ma) (hg : PGM X cA tg g) (hs : swapsWithSole [tg] a pos.line X.env = pure false := by rfl) (hw : swappedStores [tg] a X.env = pure none := by rfl) (h1 : (assignEach [tg] X.env).map (·.2) = [assign tg X.env] := by rfl) : PSM X cA W (.Assign [tg] a pos) (asgS ma g) :=
  ps_weak (ps_asg ha hg hs hw h1) fun D s H h => denAsg h
theorem s_set {i : Nat} {x : Str} (hN : X.N.Nodup) (ha : PEM X cA W a ma) (hi : X.N[i]? = some x := by rfl) (hx : Loc X.env.scope x := by first | exact Or.inl rfl | exact Or.inr rfl) (hs : swapsWith a (some (.Name x pos')) pos.line X.env = pure false := by rfl) (hf : X.fn x = true ∨ X.env.scope.names.lookup x = some .local := by first | exact .inl rfl | exact .inr rfl) : PSM X cA W (.Assign [.Name x pos'] a pos) (asgS ma (gNameM i)) :=
  ps_weak (ps_set hN hi hx ha hs hf) fun D s H h => by
    obtain ⟨F, p, r, mu, h1, h2, h3⟩ := h
    refine bindAtS h1 h2 h3 fun F1 p1 mu1 x v H1 a1 b1 c1 d1 e1 f1 => ?_
    exact f1 F1 p1 H1 _ (Sub.refl F1) (List.prefix_refl p1) c1 (d1.set e1)
/-- a, b = x, y: two names -/
def parS (i j : Nat) (ms : M (List Val)) : MS := bindS ms fun vs r mu => match vs with
  | [v, w] => .nx ((r.set i (some v)).set j (some w)) mu
  | _ => .bad
theorem s_par {i j : Nat} {x y : Str} {ms : M (List Val)} {px py pt : Pos} {kt k2 pt2} (hc : X.calm = true) (hN : X.N.Nodup) (ha : PAM X cA W [a, b] ms) (hi : X.N[i]? = some x := by rfl) (hj : X.N[j]? = some y := by rfl) (hij : i ≠ j := by decide)
    (hx : X.env.scope.names.lookup x = some .local := by rfl) (hy : X.env.scope.names.lookup y = some .local := by rfl)
    (hw : swappedStores [.Tuple [.Name x px, .Name y py] kt pt] (.Tuple [a, b] k2 pt2) X.env = pure (some [x, y]) := by rfl)
    (hs : swapsWithSole [.Tuple [.Name x px, .Name y py] kt pt] (.Tuple [a, b] k2 pt2) pos.line X.env = pure false := by rfl) : PSM X cA W (.Assign [.Tuple [.Name x px, .Name y py] kt pt] (.Tuple [a, b] k2 pt2) pos) (parS i j ms) :=
  ps_weak (ps_par hc hN hi hj hij hx hy ha hw hs) fun D s H ⟨F, p, r, mu, h1, h2, h3⟩ => bindAtS h1 h2 h3 fun F1 p1 mu1 xs vs H1 a1 b1 c1 d1 e1 f1 => by
    match xs, f1 with
    | [x, y], f1 =>
      obtain ⟨v, w, rfl, g1, g2⟩ := vrs2 e1
      exact ⟨v, w, rfl, f1 F1 p1 H1 _ (Sub.refl F1) (List.prefix_refl p1) c1 ((d1.set g1).set g2)⟩
theorem s_if (hc : PTM X cA W c mt) (h1 : PSSM X cA W body m1) (h2 : PSSM X cA W orelse m2) : PSM X cA W (.If c body orelse pos) (ifS mt m1 m2) :=
  ps_weak (ps_if hc h1 h2) fun D s H ⟨F, p, r, mu, h1, h2, h3⟩ => bindAtS h1 h2 h3 fun F1 p1 mu1 x v H1 a1 b1 c1 d1 e1 f1 => by
    subst e1
    cases x with
    | true => exact ⟨F1, p1, r, mu1, c1, d1, f1⟩
    | false => exact ⟨F1, p1, r, mu1, c1, d1, f1⟩
end
/-- na: the fields that a class's objects have, no attribute of the class -/
structure KF (K : PySem.W.Frag) (cA : CI) (na : Nat → Nat → Bool) : Prop where
  cl : ∀ C n, na C n = true → Cls K (cA C)
  no : ∀ C n, na C n = true → NoAttr K (cA C) (aN n)
def objV (mu : Store) : Val → Option (Nat × List (Nat × Val))
  | .obj C fs => some (C, fs)
  | .ref r => (match mu[r]? with
    | some (.obj C fs) => some (C, fs)
    | _ => none)
  | _ => none
theorem objV_ok {K : PySem.W.Frag} {cA : CI} {F : Fz} {H : Hp} {p : List Addr} {mu : Store} {a : Val} {v : V} {C : Nat} {fs : List (Nat × Val)} (R : Rel K cA F p mu H) (r : VR K cA F p a v) (e : objV mu a = some (C, fs)) : ∃ l dx gs, v = .ref l ∧ H l = some (.ins (cA C) dx gs) ∧ FVR K cA F p fs gs := by
  cases r with
  | obj h1 h2 => cases e; exact ⟨_, _, _, rfl, R.sub _ _ h1, h2⟩
  | ref h1 =>
    obtain ⟨c, h2, h3⟩ := R.at_some h1
    simp only [objV, h2] at e
    cases c with
    | obj C' fs' => cases e; obtain ⟨dx, gs, g1, g2⟩ := h3; exact ⟨_, dx, gs, rfl, g1, g2⟩
    | lst _ => cases e
    | dct _ => cases e
  | _ => cases e
def setV (na : Nat → Nat → Bool) (n : Nat) (mu : Store) (o v : Val) : Option Store := match o with
  | .ref k => (match mu[k]? with
    | some (.obj C fs) => if na C n = true ∧ fs.length < 1000 then some (mu.set k (.obj C (setF n v fs))) else none
    | _ => none)
  | _ => none
def gFldM (na : Nat → Nat → Bool) (n : Nat) (mo : M Val) : TM := fun v r mu => (optX (mo r mu)).bind fun o => (setV na n o.2 o.1 v).map fun mu' => (r, mu')
abbrev Ok := Store → Prop
structure ItR (K : PySem.W.Frag) (cA : CI) (F : Fz) (p : List Addr) (q : List Val × Ok) (J : It) : Prop where
  go : ∀ i F' p' mu' H', i < q.1.length → Sub0 F F' → p <+: p' → Rel K cA F' p' mu' H' → q.2 mu' → J.go i H'
  yld : ∀ i F' p' mu' H' x H'', i < q.1.length → Sub0 F F' → p <+: p' → Rel K cA F' p' mu' H' → q.2 mu' → J.yld i H' x H'' → ∃ F'' y, q.1[i]? = some y ∧ Sub F' F'' ∧ Rel K cA F'' p' mu' H'' ∧ VR K cA F'' p' y x
  stop : ∀ F' p' mu' H', Sub0 F F' → p <+: p' → Rel K cA F' p' mu' H' → q.2 mu' → J.stop q.1.length H'
def PIM (X : Cx) (cA : CI) (W : WX) (tg it : Expr) (m : M (List Val × Ok)) : Prop := PI X tg it (Den X.K cA (ItR X.K cA) W m)
theorem pi_weak {X : Cx} {tg it : Expr} {t t' : TI} (h : PI X tg it t) (w : ∀ s H Q, t' s H Q → t s H Q) : PI X tg it t' := ⟨fun pins s σ H Q I q => h.run pins s σ H Q I (w _ _ _ q)⟩
def allOk : Ok := fun _ => True
theorem VRs.at_nat {K : PySem.W.Frag} {cA : CI} {F : Fz} {p : List Addr} {xs : List Val} {vs : List V} {i : Nat} (r : VRs K cA F p xs vs) (h : i < xs.length) : ∃ y v, xs[i]? = some y ∧ vs[i]? = some v ∧ VR K cA F p y v := by
  obtain ⟨v, h1, h2⟩ := r.get (List.getElem?_eq_getElem h)
  exact ⟨_, v, List.getElem?_eq_getElem h, h1, h2⟩
section
variable {K : PySem.W.Frag} {cA : CI} {F : Fz} {p : List Addr} {mu : Store} {H : Hp}
theorem itr_lst {a : Addr} {xs : List Val} {vs : List V} (h1 : SqL K F.f a vs) (h2 : VRs K cA F p xs vs) : ItR K cA F p (xs, allOk) (Itl K a) where
  go := fun i F' p' mu' H' hi s b R _ => by
    obtain ⟨y, v, e1, e2, _⟩ := h2.at_nat hi
    exact ⟨vs, v, sub_l R.sub (sub_l s h1), e2⟩
  yld := fun i F' p' mu' H' x H'' hi s b R _ ⟨hH, hx⟩ => by
    subst hH
    obtain ⟨y, v, e1, e2, e3⟩ := h2.at_nat hi
    have := hx vs (sub_l R.sub (sub_l s h1))
    rw [e2] at this
    cases this
    exact ⟨F', y, e1, Sub.refl F', R, (e3.up s).mono (Sub.refl F') b⟩
  stop := fun F' p' mu' H' s b R _ => ⟨vs, sub_l R.sub (sub_l s h1), by rw [h2.length]; exact Nat.le_refl _⟩
theorem itr_cell {k : Nat} {a : Addr} {xs : List Val} (h1 : p[k]? = some a) : ItR K cA F p (xs, fun mu' => mu'[k]? = some (.lst xs)) (Itl K a) where
  go := fun i F' p' mu' H' hi s b R ok => by
    obtain ⟨vs, g1, g2⟩ := R.cell k a _ (pre_get b h1) ok
    obtain ⟨y, v, e1, e2, _⟩ := g2.at_nat hi
    exact ⟨vs, v, SqL.of g1, e2⟩
  yld := fun i F' p' mu' H' x H'' hi s b R ok ⟨hH, hx⟩ => by
    subst hH
    obtain ⟨vs, g1, g2⟩ := R.cell k a _ (pre_get b h1) ok
    obtain ⟨y, v, e1, e2, e3⟩ := g2.at_nat hi
    have := hx vs (SqL.of g1)
    rw [e2] at this
    cases this
    exact ⟨F', y, e1, Sub.refl F', R, e3⟩
  stop := fun F' p' mu' H' s b R ok => by
    obtain ⟨vs, g1, g2⟩ := R.cell k a _ (pre_get b h1) ok
    exact ⟨vs, SqL.of g1, by rw [g2.length]; exact Nat.le_refl _⟩
end
/-- range(n), range(lo, hi) -/
def rngL (lo : Int) (n : Nat) : List Val := (List.range n).map fun (i : Nat) => Val.int (lo + i)
def itL (ma : M Val) : M (List Val × Ok) := fun r mu => (ma r mu).bind fun x mu1 => match x with
  | .lst xs => .ok (xs, allOk) mu1
  | .scr ns => .ok (ns.map Val.int, allOk) mu1
  | .ref k => (match mu1[k]? with
    | some (.lst xs) => .ok (xs, fun mu' => mu'[k]? = some (.lst xs)) mu1
    | _ => .bad)
  | _ => .bad
def itT (ma : M Val) : M (List Val × Ok) := fun r mu => (ma r mu).bind fun x mu1 => match x with
  | .tup xs => .ok (xs, allOk) mu1
  | _ => .bad
def itS (ma : M Val) : M (List Val × Ok) := fun r mu => (ma r mu).bind fun x mu1 => match x with
  | .str s => .ok (s.map fun c => Val.str [c], allOk) mu1
  | _ => .bad
def itR1 (ms : M (List Val)) : M (List Val × Ok) := fun r mu => (ms r mu).bind fun xs mu1 => match xs with
  | [.int j] => if j.natAbs < 1000000000 then .ok (rngL 0 j.toNat, allOk) mu1 else .bad
  | _ => .bad
section
variable {X : Cx} {cA : CI} {W : WX} {a b c e o tg it : Expr} {ma mb mc mo mi : M Val} {pos pos' : Pos}
/-- a list, the script -/
theorem i_list (ha : PEM X cA W a ma) : PIM X cA W tg a (itL ma) :=
  pi_weak (pi_list ha) fun s H Q ⟨F, p, r, mu, h1, h2, h3⟩ => by
   unfold itL at h3
   exact bindAt h1 h2 h3 fun F1 p1 mu1 x v H1 a1 b1 c1 d1 e1 f1 => by
    cases e1 with
    | lst g1 g2 => exact ⟨_, rfl, ⟨_, SqL.of (c1.sub _ _ g1)⟩, f1 F1 p1 H1 _ (Sub.refl F1) (List.prefix_refl p1) c1 (itr_lst (SqL.of g1) g2)⟩
    | scr g1 => exact ⟨_, rfl, ⟨_, sub_l c1.sub g1⟩, f1 F1 p1 H1 _ (Sub.refl F1) (List.prefix_refl p1) c1 (itr_lst g1 (.map_int _))⟩
    | @ref k ad hk =>
      obtain ⟨cl, g1, g2⟩ := c1.at_some hk
      simp only [g1] at f1
      cases cl with
      | lst xs =>
        obtain ⟨vs, g3, g4⟩ := g2
        exact ⟨ad, rfl, ⟨vs, SqL.of g3⟩, f1 F1 p1 H1 _ (Sub.refl F1) (List.prefix_refl p1) c1 (itr_cell hk)⟩
      | dct _ => exact f1.elim
      | obj _ _ => exact f1.elim
    | _ => exact f1.elim
theorem itr_rng {K : PySem.W.Frag} {F : Fz} {p : List Addr} {lo : Int} {n : Nat} : ItR K cA F p (rngL lo n, allOk) (Itr lo n) where
  go := fun i F' p' mu' H' hi _ b R _ => by
    show i < n
    simpa [rngL] using hi
  yld := fun i F' p' mu' H' x H'' hi _ b R _ ⟨hH, hx⟩ => by
    subst hH
    subst hx
    have hi' : i < n := by simpa [rngL] using hi
    exact ⟨F', _, by simp [rngL, hi'], Sub.refl F', R, .int _⟩
  stop := fun F' p' mu' H' _ b R _ => by
    show n ≤ _
    simp [rngL]
theorem i_rng1 {p : Pos} {ms : M (List Val)} (hm : X.mg "range" = none) (ha : PAM X cA W [a] ms) (hg : Gl X "range" := by rfl) (hs : starEach [a] X.env = [(false, eval a X.env)] := by rfl) : PIM X cA W tg (.Call (.Name "range" p) [a] [] pos) (itR1 ms) :=
  pi_weak (pi_range1 hg hm ha hs) fun s H Q ⟨F, p, r, mu, h1, h2, h3⟩ => by
   unfold itR1 at h3
   exact bindAt h1 h2 h3 fun F1 p1 mu1 x v H1 a1 b1 c1 d1 e1 f1 => by
    match x, f1, e1 with
    | [.int j], f1, e1 =>
      obtain ⟨v, rfl, rv⟩ := vrs1 e1
      cases rv
      by_cases hc : j.natAbs < 1000000000
      · simp only [if_pos hc] at f1
        exact ⟨j, rfl, by omega, by omega, f1 F1 p1 H1 _ (Sub.refl F1) (List.prefix_refl p1) c1 itr_rng⟩
      · simp only [if_neg hc] at f1; exact f1.elim
end
open Classical in
noncomputable def forL (ok : Ok) (g : TM) (body : MS) : List Val → MS
  | [] => fun r mu => if ok mu then .nx r mu else .bad
  | x :: xs => fun r mu => if ok mu then (match g x r mu with
    | some (r1, mu1) => (match body r1 mu1 with
      | .nx r2 mu2 => forL ok g body xs r2 mu2
      | .ct r2 mu2 => forL ok g body xs r2 mu2
      | .bk r2 mu2 => .nx r2 mu2
      | .rt v mu2 => .rt v mu2
      | .exc C fs r2 mu2 => .exc C fs r2 mu2
      | .bad => .bad)
    | none => .bad) else .bad
noncomputable def forS (mi : M (List Val × Ok)) (g : TM) (body : MS) : MS := bindS mi fun q r mu => forL q.2 g body q.1 r mu
theorem getElem?_drop0 {α : Type} {l : List α} {i : Nat} (h : i < l.length) : l.drop i = l[i] :: l.drop (i + 1) := List.drop_eq_getElem_cons h
section
variable {X : Cx} {cA : CI} {W : WX} {it tg : Expr} {mi : M (List Val × Ok)} {g : TM} {m1 : MS} {body : List Stmt} {pos : Pos}
theorem denFor {K : PySem.W.Frag} {D : Ends} {s : L2.St} {H : Hp} (h : DS K cA W (forS mi g m1) D s H) : tFor (Den K cA (ItR K cA) W mi) (DG K cA g) (DS K cA W m1) D s H := by
  obtain ⟨F, p, r, mu, h1, h2, h3⟩ := h
  refine bindAtS h1 h2 h3 fun F1 p1 mu1 q J H1 a1 b1 c1 d1 e1 f1 => ?_
  refine ⟨fun i m s' H' => m = q.1.length - i ∧ i ≤ q.1.length ∧ ∃ F' p' r' mu', Sub0 F1 F' ∧ p1 <+: p' ∧ Rel K cA F' p' mu' H' ∧ EnvR K cA F' p' r' s' ∧ PostS K cA W F' p' D (forL q.2 g m1 (q.1.drop i) r' mu'), ⟨_, rfl, Nat.zero_le _, F1, p1, r, mu1, SubH.refl _, List.prefix_refl p1, c1, d1, f1⟩, ?_⟩
  rintro i m s' H' ⟨rfl, hi, F', p', r', mu', s1, s2, s3, s4, s5⟩
  by_cases hlt : i < q.1.length
  · rw [getElem?_drop0 hlt] at s5
    unfold forL at s5
    by_cases hok : q.2 mu'
    · rw [if_pos hok] at s5
      refine .inr ⟨e1.go i F' p' mu' H' hlt s1 s2 s3 hok, fun s'' H'' => i + 1 ≤ q.1.length ∧ ∃ F'' p'' r'' mu'', Sub0 F1 F'' ∧ p1 <+: p'' ∧ Rel K cA F'' p'' mu'' H'' ∧ EnvR K cA F'' p'' r'' s'' ∧ PostS K cA W F'' p'' D (forL q.2 g m1 (q.1.drop (i + 1)) r'' mu''), fun s'' H'' hN => ⟨_, by omega, rfl, hN.1, hN.2⟩, fun x H'' hy => ?_⟩
      obtain ⟨F2, y, g1, g2, g3, g4⟩ := e1.yld i F' p' mu' H' x H'' hlt s1 s2 s3 hok hy
      rw [List.getElem?_eq_getElem hlt] at g1
      cases g1
      refine ⟨F2, p', r', mu', _, g3, s4.mono g2 (List.prefix_refl p'), g4, ?_⟩
      cases e2 : g q.1[i] r' mu' with
      | none => rw [e2] at s5; exact s5.elim
      | some w =>
        obtain ⟨r2, mu2⟩ := w
        rw [e2] at s5
        simp only at s5
        intro F3 p3 H3 s6 k1 k2 k3 k4
        have s7 : Sub0 F1 F3 := SubH.trans s1 (SubH.trans g2.1 k1.1)
        refine ⟨F3, p3, r2, mu2, k3, k4, ?_⟩
        have go : ∀ {r5 : Env1} {mu5 : Store}, PostS K cA W F' p' D (forL q.2 g m1 (q.1.drop (i + 1)) r5 mu5) → ∀ F4 p4 H4 s8, Sub F3 F4 → p3 <+: p4 → Rel K cA F4 p4 mu5 H4 → EnvR K cA F4 p4 r5 s8 → i + 1 ≤ q.1.length ∧ ∃ F'' p'' r'' mu'', Sub0 F1 F'' ∧ p1 <+: p'' ∧ Rel K cA F'' p'' mu'' H4 ∧ EnvR K cA F'' p'' r'' s8 ∧ PostS K cA W F'' p'' D (forL q.2 g m1 (q.1.drop (i + 1)) r'' mu'') :=
          fun hp F4 p4 H4 s8 l1 l2 l3 l4 => ⟨hlt, F4, p4, _, _, SubH.trans s7 l1.1, s2.trans (k2.trans l2), l3, l4, PostS.mono (g2.trans (k1.trans l1)) (k2.trans l2) hp⟩
        have up : ∀ {x : SR}, PostS K cA W F' p' D x → PostS K cA W F3 p3 D x := fun hp => PostS.mono (g2.trans k1) k2 hp
        cases e3 : m1 r2 mu2 with
        | nx r5 mu5 => rw [e3] at s5; exact go s5
        | ct r5 mu5 => rw [e3] at s5; exact go s5
        | bk r5 mu5 => rw [e3] at s5; exact up s5
        | rt v mu5 => rw [e3] at s5; exact up s5
        | exc C fs r5 mu5 => rw [e3] at s5; exact up s5
        | bad => rw [e3] at s5; exact s5.elim
    · rw [if_neg hok] at s5; exact s5.elim
  · have hi' : i = q.1.length := by omega
    subst hi'
    rw [List.drop_length] at s5
    unfold forL at s5
    by_cases hok : q.2 mu'
    · rw [if_pos hok] at s5
      exact .inl ⟨e1.stop F' p' mu' H' s1 s2 s3 hok, s5 F' p' H' s' (Sub.refl F') (List.prefix_refl p') s3 s4⟩
    · rw [if_neg hok] at s5; exact s5.elim
theorem s_for (hp : PassesOwn (model X.prog X.w) X.A X.env X.xe) (hc : X.calm = true) (hi : PIM X cA W tg it mi) (hg : PGM X cA tg g) (hb : PSSM X cA W body m1) (hs : ∀ x, foldedSetIterable it X.env x = pure x := by intro _; rfl) : PSM X cA W (.For tg it body [] pos) (forS mi g m1) :=
  ps_weak (ps_for hp hc hi hg hb hs) fun D s H h => denFor h
end
end CC

set_option Elab.async false
set_option linter.all false
set_option maxRecDepth 100000
set_option maxHeartbeats 2000000
namespace CC
open PySem PySem.Spec PyProof.Rows L2
def wipeE (r : Env1) : List Nat → Env1
  | [] => r
  | v :: vs => (wipeE r vs).set v none
def setAll {α : Type} (s : List (Option α)) : List Nat → List α → List (Option α)
  | i :: is, v :: vs => setAll (s.set i (some v)) is vs
  | _, _ => s
theorem wipe_at (s : L2.St) : ∀ (vs : List Nat) (j : Nat), (wipe s vs)[j]? = if j ∈ vs then (if j < s.length then some none else none) else s[j]?
  | [], j => by simp [wipe]
  | v :: vs, j => by
    unfold wipe
    by_cases h : v = j
    · subst h
      simp only [List.mem_cons, true_or, if_true]
      by_cases hl : v < s.length
      · rw [if_pos hl, List.getElem?_set_self (by rw [wipe_length]; exact hl)]
      · rw [if_neg hl, List.getElem?_eq_none (by rw [List.length_set, wipe_length]; omega)]
    · rw [List.getElem?_set_ne h, wipe_at s vs j]
      by_cases hm : j ∈ vs
      · rw [if_pos hm, if_pos (List.mem_cons_of_mem _ hm)]
      · rw [if_neg hm, if_neg (by simp only [List.mem_cons, not_or]; exact ⟨Ne.symm h, hm⟩)]
theorem setAll_length {α : Type} : ∀ (is : List Nat) (vs : List α) (s : List (Option α)), (setAll s is vs).length = s.length
  | [], _, _ => rfl
  | _ :: _, [], _ => rfl
  | i :: is, v :: vs, s => by
    show (setAll (s.set i (some v)) is vs).length = _
    rw [setAll_length is vs, List.length_set]
theorem setAll_out {α : Type} : ∀ (is : List Nat) (vs : List α) (s : List (Option α)) (j : Nat), j ∉ is → (setAll s is vs)[j]? = s[j]?
  | [], _, _, _, _ => rfl
  | _ :: _, [], _, _, _ => rfl
  | i :: is, v :: vs, s, j, h => by
    simp only [List.mem_cons, not_or] at h
    show (setAll (s.set i (some v)) is vs)[j]? = _
    rw [setAll_out is vs _ j h.2, List.getElem?_set_ne (Ne.symm h.1)]
theorem wipe_setAll {s : L2.St} {is : List Nat} {vs : List V} {js : List Nat} (h : ∀ i ∈ is, i ∈ js) : wipe (setAll s is vs) js = wipe s js := by
  refine List.ext_getElem? fun j => ?_
  rw [wipe_at, wipe_at, setAll_length]
  by_cases hj : j ∈ js
  · rw [if_pos hj, if_pos hj]
  · rw [if_neg hj, if_neg hj]
    exact setAll_out _ _ _ _ fun z => hj (h _ z)
theorem wipe_wipe {s : L2.St} {js : List Nat} : wipe (wipe s js) js = wipe s js := by
  refine List.ext_getElem? fun j => ?_
  rw [wipe_at, wipe_at, wipe_length]
  by_cases hj : j ∈ js
  · rw [if_pos hj, if_pos hj]
  · rw [if_neg hj, if_neg hj]
section
variable {K : PySem.W.Frag} {cA : CI} {F : Fz} {p : List Addr} {r : Env1} {s : L2.St}
theorem EnvR.none {i : Nat} (h : EnvR K cA F p r s) : EnvR K cA F p (r.set i none) (s.set i none) := by
  refine ⟨by simp [h.1], fun j y e => ?_⟩
  by_cases hj : i = j
  · subst hj
    have hl : i < r.length := by
      have := (List.getElem?_eq_some_iff.mp e).1
      simpa using this
    rw [List.getElem?_set_self hl] at e
    cases e
  · rw [List.getElem?_set_ne hj] at e
    obtain ⟨w, h1, h2⟩ := h.2 j y e
    exact ⟨w, by rw [List.getElem?_set_ne hj]; exact h1, h2⟩
theorem EnvR.wipe (h : EnvR K cA F p r s) : ∀ vs : List Nat, EnvR K cA F p (wipeE r vs) (L2.wipe s vs)
  | [] => h
  | v :: vs => (EnvR.wipe h vs).none
theorem EnvR.all : ∀ {is : List Nat} {xs : List Val} {vs : List V} {r : Env1} {s : L2.St}, EnvR K cA F p r s → VRs K cA F p xs vs → EnvR K cA F p (setAll r is xs) (setAll s is vs)
  | [], _, _, _, _, h, _ => h
  | _ :: _, _, _, _, _, h, .nil => h
  | i :: is, _ :: xs, _ :: vs, _, _, h, .cons a b => EnvR.all (is := is) (xs := xs) (vs := vs) (h.set (i := i) a) b
end
def DC (K : PySem.W.Frag) (cA : CI) (is : List Nat) (f : Val → Option (List Val)) : TG := fun v s H Q => ∃ F p mu x as, Rel K cA F p mu H ∧ VR K cA F p x v ∧ f x = some as ∧ ∀ vs, VRs K cA F p as vs → Q (setAll s is vs) H
/-- f: what is stored, is: where -/
def PCM (X : Cx) (cA : CI) (tg : Expr) (is : List Nat) (f : Val → Option (List Val)) : Prop :=
  PG X tg (DC X.K cA is f)
def oneC : Val → Option (List Val) := fun v => some [v]
def tupC (n : Nat) : Val → Option (List Val)
  | .tup xs => if xs.length = n then some xs else none
  | _ => none
section
variable {X : Cx} {cA : CI} {pos : Pos}
theorem pc_name {i : Nat} {x : Str} (hN : X.N.Nodup) (hi : X.N[i]? = some x := by rfl) (hx : Loc X.env.scope x := by first | exact Or.inl rfl | exact Or.inr rfl) (hf : X.fn x = true ∨ X.env.scope.names.lookup x = some .local := by first | exact .inl rfl | exact .inr rfl) : PCM X cA (.Name x pos) [i] oneC :=
  pg_weak (pg_name hN hi hx hf) fun v s H Q ⟨F, p, mu, x, as, h1, h2, h3, h4⟩ => by
    cases h3
    exact h4 [v] (.cons h2 .nil)
/-- names one behind the other -/
inductive PNs (X : Cx) : List Expr → List Nat → Prop where
  | nil : PNs X [] []
  | cons {x : Str} {p : Pos} {i : Nat} {es : List Expr} {is : List Nat} (r : PNs X es is) (hi : X.N[i]? = some x := by rfl) (hx : Loc X.env.scope x := by first | exact Or.inl rfl | exact Or.inr rfl) (hf : X.fn x = true ∨ X.env.scope.names.lookup x = some .local := by first | exact .inl rfl | exact .inr rfl)
      (hs : (assignEach (.Name x p :: es) X.env).map (·.2) = assign (.Name x p) X.env :: (assignEach es X.env).map (·.2) := by rfl) : PNs X (.Name x p :: es) (i :: is)
theorem pns_run (hN : X.N.Nodup) : ∀ {es : List Expr} {is : List Nat}, PNs X es is → PGs X es (fun vs s H Q => vs.length = is.length ∧ Q (setAll s is vs) H)
  | _, _, .nil => ⟨fun pins s σ H vs us Q I rv ⟨h1, h2⟩ => by
    cases vs with
    | nil => exact pgs_nil.run pins s σ H _ us Q I rv ⟨rfl, h2⟩
    | cons _ _ => cases h1⟩
  | _, _, .cons r hi hx hf hs => ⟨fun pins s σ H vs us Q I rv ⟨h1, h2⟩ => by
    cases vs with
    | nil => cases h1
    | cons v vs => exact (pgs_cons (pg_name hN hi hx hf) (pns_run hN r) hs).run pins s σ H _ us Q I rv ⟨v, vs, rfl, Nat.succ.inj h1, h2⟩⟩
/-- the same over a list -/
def lstC (n : Nat) : Val → Option (List Val)
  | .lst xs => if xs.length = n then some xs else none
  | _ => none
theorem pc_lst {es : List Expr} {is : List Nat} {k : Nat} (hN : X.N.Nodup) (hc : X.calm = true) (h : PNs X es is) (hst : (assignEach es X.env).findIdx? (·.1) = none := by rfl) (hn : (assignEach es X.env).length = is.length := by rfl) : PCM X cA (.Tuple es k pos) is (lstC is.length) :=
  pg_weak (pg_unl hc (pns_run hN h) hn hst) fun v s H Q ⟨F, p, mu, x, as, h1, h2, h3, h4⟩ => by
    cases h2 with
    | @lst a xs vs g1 g2 =>
      simp only [lstC] at h3
      by_cases hl : xs.length = is.length
      · rw [if_pos hl] at h3
        cases h3
        exact ⟨a, vs, rfl, SqL.of (h1.sub _ _ g1), by rw [← g2.length]; exact hl, by rw [← g2.length]; exact hl, h4 vs g2⟩
      · rw [if_neg hl] at h3; cases h3
    | _ => cases h3
/-- as a target of for -/
def gPc (is : List Nat) (f : Val → Option (List Val)) : TM := fun v r mu => (f v).map fun as => (setAll r is as, mu)
theorem g_of_pc {tg : Expr} {is : List Nat} {f : Val → Option (List Val)} (h : PCM X cA tg is f) : PGM X cA tg (gPc is f) :=
  pg_weak h fun v s H Q ⟨F, p, r, mu, x, h1, h2, h3, h4⟩ => by
    cases e : f x with
    | none => simp only [gPc, e] at h4; exact h4.elim
    | some as =>
      simp only [gPc, e] at h4
      exact ⟨F, p, mu, x, as, h1, h3, e, fun vs hv => h4 F p H _ (Sub.refl F) (List.prefix_refl p) h1 (h2.all hv)⟩
end
def Wf (E : XK) : WX := fun cls d _ H => E cls d H
abbrev EF : XK := fun _ _ _ => False
abbrev WF : WX := Wf EF
def PTsM (X : Cx) (cA : CI) (ifs : List Expr) (m : M Bool) : Prop := PTs X ifs (DT X.K cA WF m)
def yesT : M Bool := fun _ mu => .ok true mu
section
variable {X : Cx} {cA : CI} {c : Expr} {mt : M Bool}
theorem pts_weak {ifs : List Expr} {t t' : TT} (h : PTs X ifs t) (w : ∀ s H Q, t' s H Q → t s H Q) : PTs X ifs t' := ⟨fun pins s σ H Q I q => h.run pins s σ H Q I (w _ _ _ q)⟩
theorem t_nil : PTsM X cA [] yesT := pts_weak pts_nil fun s H Q ⟨F, p, r, mu, h1, h2, h3⟩ => h3 F p H true (Sub.refl F) (List.prefix_refl p) h1 rfl
end
open Classical in
noncomputable def lcL (ok : Ok) (is : List Nat) (f : Val → Option (List Val)) (t : M Bool) (e : M Val) (vs : List Nat) : List Val → M (List Val)
  | [] => fun _ mu => if ok mu then .ok [] mu else .bad
  | x :: xs => fun r mu => if ok mu then (match f x with
    | some as => (match t (setAll (wipeE r vs) is as) mu with
      | .ok b mu2 => if b = true then (match e (setAll (wipeE r vs) is as) mu2 with
          | .ok y mu3 => (match lcL ok is f t e vs xs r mu3 with
            | .ok ys mu4 => .ok (y :: ys) mu4
            | _ => .bad)
          | _ => .bad) else lcL ok is f t e vs xs r mu2
      | _ => .bad)
    | none => .bad) else .bad
/-- the list, ahead of it what there is -/
noncomputable def lcA (ok : Ok) (is : List Nat) (f : Val → Option (List Val)) (t : M Bool) (e : M Val) (vs : List Nat) (acc : List Val) (xs : List Val) : M Val := fun r mu => match lcL ok is f t e vs xs r mu with
  | .ok ys mu2 => .ok (.lst (acc ++ ys)) mu2
  | _ => .bad
noncomputable def lcM (mi : M (List Val × Ok)) (is : List Nat) (f : Val → Option (List Val)) (t : M Bool) (e : M Val) (vs : List Nat) : M Val := fun r mu => (mi r mu).bind fun q mu1 => if q.1.length ≤ 100000 then lcA q.2 is f t e vs [] q.1 r mu1 else .bad
section
variable {K : PySem.W.Frag} {cA : CI} {W : WX} {F : Fz} {p : List Addr} {mu : Store} {H : Hp} {s : L2.St} {r : Env1} {Q : VK}
theorem lcA_cons {ok : Ok} {is : List Nat} {f : Val → Option (List Val)} {t : M Bool} {e : M Val} {vs : List Nat} {acc xs : List Val} {x : Val} (h : Post K cA (VR K cA) W s F p Q (lcA ok is f t e vs acc (x :: xs) r mu)) :
    ok mu ∧ ∃ as, f x = some as ∧ ∃ b mu2, t (setAll (wipeE r vs) is as) mu = .ok b mu2 ∧ (b = true → ∃ y mu3, e (setAll (wipeE r vs) is as) mu2 = .ok y mu3 ∧ Post K cA (VR K cA) W s F p Q (lcA ok is f t e vs (acc ++ [y]) xs r mu3)) ∧
      (b = false → Post K cA (VR K cA) W s F p Q (lcA ok is f t e vs acc xs r mu2)) := by
  unfold lcA lcL at h
  by_cases hok : ok mu
  · simp only [if_pos hok] at h
    refine ⟨hok, ?_⟩
    cases e1 : f x with
    | none => simp only [e1] at h; exact h.elim
    | some as =>
      simp only [e1] at h
      refine ⟨as, rfl, ?_⟩
      cases e2 : t (setAll (wipeE r vs) is as) mu with
      | bad => simp only [e2] at h; exact h.elim
      | exc C fs mu2 => simp only [e2] at h; exact h.elim
      | ok b mu2 =>
        simp only [e2] at h
        refine ⟨b, mu2, rfl, fun hb => ?_, fun hb => ?_⟩
        · subst hb
          simp only [if_true] at h
          cases e3 : e (setAll (wipeE r vs) is as) mu2 with
          | bad => simp only [e3] at h; exact h.elim
          | exc C fs mu2 => simp only [e3] at h; exact h.elim
          | ok y mu3 =>
            simp only [e3] at h
            refine ⟨y, mu3, rfl, ?_⟩
            unfold lcA
            cases e4 : lcL ok is f t e vs xs r mu3 with
            | ok ys mu4 =>
              simp only [e4] at h ⊢
              rw [List.append_assoc]
              exact h
            | bad => simp only [e4] at h; exact h.elim
            | exc C fs mu2 => simp only [e4] at h; exact h.elim
        · subst hb
          simp only [Bool.false_eq_true, if_false] at h
          exact h
  · simp only [if_neg hok] at h; exact h.elim
theorem den_lc {mi : M (List Val × Ok)} {is : List Nat} {f : Val → Option (List Val)} {t : M Bool} {e : M Val} {vs : List Nat} (his : ∀ i ∈ is, i ∈ vs) (h : DE K cA W (lcM mi is f t e vs) s H Q) :
    tLc (Den K cA (ItR K cA) W mi) (DC K cA is f) (DT K cA WF t) (DE K cA WF e) vs s H Q := by
  obtain ⟨F, p, r, mu, h1, h2, h3⟩ := h
  refine bindAt h1 h2 h3 fun F1 p1 mu1 q J H1 a1 b1 c1 d1 e1 f1 => ?_
  by_cases hlen : q.1.length ≤ 100000
  case neg => rw [if_neg hlen] at f1; exact f1.elim
  rw [if_pos hlen] at f1
  intro D hD
  have hg0 : F1.g D = none := by
    cases eg : F1.g D with
    | none => rfl
    | some o => have := (c1.hid D o eg).1; rw [hD] at this; cases this
  refine ⟨fun i m H' => m = q.1.length - i ∧ i ≤ q.1.length ∧ ∃ F' p' mu' acc accV, acc.length ≤ i ∧ F'.g = upd F1.g D (.lst accV) ∧ VRs K cA F' p' acc accV ∧ SubH F1.f F'.f ∧ p1 <+: p' ∧ Rel K cA F' p' mu' H' ∧ EnvR K cA F' p' r s ∧
    Post K cA (VR K cA) W s ⟨F'.f, F1.g⟩ p' Q (lcA q.2 is f t e vs acc (q.1.drop i) r mu'), ⟨_, rfl, Nat.zero_le _, ⟨F1.f, upd F1.g D (.lst [])⟩, p1, mu1, [], [], Nat.le_refl _, rfl, .nil, SubH.refl _, List.prefix_refl p1, c1.hide hD, ⟨d1.1, fun i x hx => ?_⟩, f1⟩, ?_⟩
  · obtain ⟨v, k1, k2⟩ := d1.2 i x hx
    exact ⟨v, k1, k2.up (sub0 F1 _)⟩
  rintro i m H' ⟨rfl, hi, F', p', mu', acc, accV, hacc, hg, hv, s1, s2, s3, s4, s5⟩
  have hHD : ∀ {F4 : Fz} {p4 : List Addr} {mu4 : Store} {H4 : Hp}, F4.g = upd F1.g D (.lst accV) → Rel K cA F4 p4 mu4 H4 → H4 D = some (.lst accV) := fun hg4 R4 => (R4.hid D _ (by rw [hg4, upd_same])).1
  by_cases hlt : i < q.1.length
  · rw [getElem?_drop0 hlt] at s5
    obtain ⟨hok, as, ef, b, mu2, et, hb1, hb2⟩ := lcA_cons s5
    refine .inr ⟨e1.go i F' p' mu' H' hlt s1 s2 s3 hok, fun H'' => i + 1 ≤ q.1.length ∧ ∃ F' p' mu' acc accV, acc.length ≤ i + 1 ∧ F'.g = upd F1.g D (.lst accV) ∧ VRs K cA F' p' acc accV ∧ SubH F1.f F'.f ∧ p1 <+: p' ∧ Rel K cA F' p' mu' H'' ∧ EnvR K cA F' p' r s ∧
      Post K cA (VR K cA) W s ⟨F'.f, F1.g⟩ p' Q (lcA q.2 is f t e vs acc (q.1.drop (i + 1)) r mu'), fun H'' hN => ⟨_, by omega, rfl, hN.1, hN.2⟩, fun x H'' hy => ?_⟩
    obtain ⟨F2, y, g1, g2, g3, g4⟩ := e1.yld i F' p' mu' H' x H'' hlt s1 s2 s3 hok hy
    rw [List.getElem?_eq_getElem hlt] at g1
    cases g1
    refine ⟨F2, p', mu', _, as, g3, g4, ef, fun ws hw => ⟨?_, ?_⟩⟩
    · rw [wipe_setAll his, wipe_wipe]
    · have env2 : EnvR K cA F2 p' (setAll (wipeE r vs) is as) (setAll (wipe s vs) is ws) := ((s4.mono g2 (List.prefix_refl p')).wipe vs).all hw
      refine ⟨F2, p', _, mu', g3, env2, ?_⟩
      rw [et]
      intro F3 p3 H3 k l1 l2 l3 l4
      subst l4
      have up3 : Sub ⟨F'.f, F1.g⟩ ⟨F3.f, F1.g⟩ := ⟨SubH.trans g2.1 l1.1, rfl⟩
      have hg3 : F3.g = upd F1.g D (.lst accV) := by rw [← l1.2, ← g2.2, hg]
      cases b with
      | false =>
        simp only [Bool.false_eq_true, if_false]
        exact ⟨hlt, F3, p3, mu2, acc, accV, by omega, hg3, (hv.mono g2 (List.prefix_refl p')).mono l1 l2, SubH.trans s1 (SubH.trans g2.1 l1.1), s2.trans l2, l3, (s4.mono g2 (List.prefix_refl p')).mono l1 l2, Post.mono up3 l2 (hb2 rfl)⟩
      | true =>
        simp only [if_true]
        obtain ⟨yv, mu3, ee, hp⟩ := hb1 rfl
        refine ⟨F3, p3, _, mu2, l3, env2.mono l1 l2, ?_⟩
        rw [ee]
        intro F4 p4 H4 w m1 m2 m3 m4
        have hg4 : F4.g = upd F1.g D (.lst accV) := by rw [← m1.2, hg3]
        have hD4 := hHD hg4 m3
        have v4 : VRs K cA F4 p4 acc accV := ((hv.mono g2 (List.prefix_refl p')).mono l1 l2).mono m1 m2
        have lacc : accV.length = acc.length := hv.length.symm
        refine ⟨accV, hD4, ?_, hlt, ⟨F4.f, upd F1.g D (.lst (accV ++ [w]))⟩, p4, mu3, acc ++ [yv], accV ++ [w], by simp; omega, rfl, ?_, SubH.trans s1 (SubH.trans g2.1 (SubH.trans l1.1 m1.1)), s2.trans (l2.trans m2), ?_, ?_, ?_⟩
        · have : (100001 : Nat) ≤ sizeLine := by decide
          omega
        · exact (v4.append (.cons m4 .nil)).up (sub0 F4 _)
        · have := m3.hset (o := .lst accV) (o' := .lst (accV ++ [w])) (a := D) (by rw [hg4, upd_same]) ⟨fun _ z => (by cases z), fun _ z => (by cases z)⟩
          have eg : upd F4.g D (.lst (accV ++ [w])) = upd F1.g D (.lst (accV ++ [w])) := by
            rw [hg4]
            funext z
            by_cases hz : z = D
            · subst hz; rw [upd_same, upd_same]
            · rw [upd_ne hz, upd_ne hz, upd_ne hz]
          rw [eg] at this
          exact this
        · have e4 := ((s4.mono g2 (List.prefix_refl p')).mono l1 l2).mono m1 m2
          exact ⟨e4.1, fun j x hx => by obtain ⟨v, k1, k2⟩ := e4.2 j x hx; exact ⟨v, k1, k2.up (sub0 F4 _)⟩⟩
        · exact Post.mono (F := ⟨F'.f, F1.g⟩) (F' := ⟨F4.f, F1.g⟩) ⟨SubH.trans g2.1 (SubH.trans l1.1 m1.1), rfl⟩ (l2.trans m2) hp
  · have hi' : i = q.1.length := by omega
    subst hi'
    rw [List.drop_length] at s5
    unfold lcA lcL at s5
    by_cases hok : q.2 mu'
    · simp only [if_pos hok, List.append_nil] at s5
      refine .inl ⟨e1.stop F' p' mu' H' s1 s2 s3 hok, ?_⟩
      have hgD : F'.g D = some (.lst accV) := by rw [hg, upd_same]
      have hfD := (s3.hid D _ hgD).2.1
      have R' := s3.show (g := F1.g) hgD fun b u hb => by
        have hne : b ≠ D := fun z => by rw [z, hg0] at hb; cases hb
        exact ⟨hne, by rw [hg, upd_ne hne]; exact hb⟩
      refine s5 ⟨upd F'.f D (.lst accV), F1.g⟩ p' H' _ ⟨SubH.new hfD, rfl⟩ (List.prefix_refl p') R' (.lst upd_same ?_)
      exact hv.up (show Sub0 F' ⟨upd F'.f D (.lst accV), F1.g⟩ from SubH.new hfD)
    · simp only [if_neg hok] at s5; exact s5.elim
end
section
variable {X : Cx} {cA : CI} {W : WX} {elt tg iter : Expr} {ifs : List Expr} {scope : Scope} {own : List (Str × Nat)} {pos spos py : Pos} {mi : M (List Val × Ok)} {is : List Nat} {f : Val → Option (List Val)} {t : M Bool} {e : M Val}
theorem c_lc (own : List (Str × Nat)) (hc : X.calm = true) (hN : X.N.Nodup) (hi : PIM X cA W tg iter mi)
    (hg : ∀ (s : Shared) (H : Hp) (C : Addr) (cl : List (Str × Addr)) (fp : List Addr), PCM (X.blk s H scope (compEnvC scope cl C X.env) fp) cA tg is f) (ht : ∀ (s : Shared) (H : Hp) (C : Addr) (cl : List (Str × Addr)) (fp : List Addr), PTsM (X.blk s H scope (compEnvC scope cl C X.env) fp) cA ifs t)
    (he : ∀ (s : Shared) (H : Hp) (C : Addr) (cl : List (Str × Addr)) (fp : List Addr), PEM (X.blk s H scope (compEnvC scope cl C X.env) fp) cA WF elt e) (ok : BlkOk X.N X.env.scope scope own) (his : ∀ i ∈ is, i ∈ own.map (·.2) := by decide) (hs : ∀ x, foldedSetIterable iter X.env x = pure x := by intro _; rfl) :
    PEM X cA W (.ListComp elt [⟨tg, iter, ifs, 0⟩] scope pos) (lcM mi is f t e (own.map (·.2))) :=
  pe_weak (pe_lc (g := DC X.K cA is f) (tt := DT X.K cA WF t) (te := DE X.K cA WF e) hc hN hi ok hg ht he hs) fun s H Q h => den_lc his h
theorem s_setLc {i : Nat} {y : Str} (own : List (Str × Nat)) (hc : X.calm = true) (hN : X.N.Nodup) (hi : PIM X cA W tg iter mi)
    (hg : ∀ (s : Shared) (H : Hp) (C : Addr) (cl : List (Str × Addr)) (fp : List Addr), PCM (X.blk s H scope (compEnvC scope cl C X.env) fp) cA tg is f) (ht : ∀ (s : Shared) (H : Hp) (C : Addr) (cl : List (Str × Addr)) (fp : List Addr), PTsM (X.blk s H scope (compEnvC scope cl C X.env) fp) cA ifs t)
    (he : ∀ (s : Shared) (H : Hp) (C : Addr) (cl : List (Str × Addr)) (fp : List Addr), PEM (X.blk s H scope (compEnvC scope cl C X.env) fp) cA WF elt e) (ok : BlkOk X.N X.env.scope scope own)
    (hsw : swapsWith (.ListComp elt [⟨tg, iter, ifs, 0⟩] scope pos) (some (.Name y py)) spos.line X.env = pure true) (hy : X.N[i]? = some y := by rfl) (hyl : X.env.scope.names.lookup y = some .local := by rfl) (his : ∀ i ∈ is, i ∈ own.map (·.2) := by decide) (hs : ∀ x, foldedSetIterable iter X.env x = pure x := by intro _; rfl) :
    PSM X cA W (.Assign [.Name y py] (.ListComp elt [⟨tg, iter, ifs, 0⟩] scope pos) spos) (asgS (lcM mi is f t e (own.map (·.2))) (gNameM i)) :=
  ps_weak (ps_setLc (g := DC X.K cA is f) (tt := DT X.K cA WF t) (te := DE X.K cA WF e) hc hN hy hyl hsw hi ok hg ht he hs) fun D s H ⟨F, p, r, mu, h1, h2, h3⟩ => by
    refine den_lc (W := W) his ?_
    refine bindAtS h1 h2 h3 fun F1 p1 mu1 x v H1 a1 b1 c1 d1 e1 f1 => ?_
    exact f1 F1 p1 H1 _ (Sub.refl F1) (List.prefix_refl p1) c1 (d1.set e1)
end

open PySem PySem.Spec PyProof.Rows L2
/-- the items with their numbers -/
def numL (xs : List Val) : List Val := xs.zipIdx.map fun q => Val.tup [.int q.2, q.1]
section
variable {X : Cx} {cA : CI} {W : WX} {a : Expr} {ms : M (List Val)} {pos p tpos : Pos} {elts : List Expr} {kk : Nat}
def itEnT (ms : M (List Val)) : M (List Val × Ok) := fun r mu => (ms r mu).bind fun xs mu1 => match xs with
  | [.tup xs] => .ok (numL xs, allOk) mu1
  | _ => .bad
end
end CC

set_option Elab.async false
set_option linter.all false
set_option maxRecDepth 100000
set_option maxHeartbeats 2000000
namespace CC
open PySem PySem.Spec PyProof.Rows L2
/-- a def's promise from its mirror -/
def SpM (K : PySem.W.Frag) (cA : CI) (m : List Val → Store → R Val) : Sp := fun vs H Q E => ∃ F p mu as, Rel K cA F p mu H ∧ VRs K cA F p as vs ∧ Post K cA (VR K cA) (Wf E) [] F p Q (m as mu)
def FnM (P : Program) (w : World) (K : PySem.W.Frag) (mg : Str → Option Value) (base : Heap) (cA : CI) (k : Nat) (f : Addr) (m : List Val → Store → R Val) : Prop := FnR P w K mg base (L2N.CX P w) k f (SpM K cA m)
theorem Post.slots {K : PySem.W.Frag} {cA : CI} {E : XK} {s s' : L2.St} {F : Fz} {p : List Addr} {α β : Type} {rel : Fz → List Addr → α → β → Prop} {Q : β → Hp → Prop} {x : R α} (h : Post K cA rel (Wf E) s F p Q x) : Post K cA rel (Wf E) s' F p Q x := by
  cases x with
  | ok v mu => exact h
  | exc C fs mu => exact h
  | bad => exact h
/-- the mirror of a def: np parameters, nn names -/
def defK (np nn : Nat) (mb : MS) : List Val → Store → R Val := fun as mu => if as.length = np then (match mb (as.map some ++ List.replicate (nn - np) none) mu with
  | .nx _ mu' => .ok .non mu'
  | .rt v mu' => .ok v mu'
  | .exc C fs _ mu' => .exc C fs mu'
  | _ => .bad) else .bad
theorem envR_start {K : PySem.W.Frag} {cA : CI} {F : Fz} {p : List Addr} {N : List Str} {as : List Val} {vs : List V} (h : VRs K cA F p as vs) : EnvR K cA F p (as.map some ++ List.replicate (N.length - as.length) none) (L2.start N vs) := by
  unfold L2.start
  refine ⟨by simp [h.length], fun i x e => ?_⟩
  by_cases hi : i < as.length
  · rw [List.getElem?_append_left (by simpa using hi), List.getElem?_map] at e
    obtain ⟨y, e1, e2⟩ := Option.map_eq_some_iff.mp e
    cases e2
    obtain ⟨v, e3, e4⟩ := h.get e1
    refine ⟨v, ?_, e4⟩
    rw [List.getElem?_append_left (by rw [List.length_map, ← h.length]; exact hi), List.getElem?_map, e3]
    rfl
  · rw [List.getElem?_append_right (by simpa using Nat.le_of_not_lt hi)] at e
    have := List.mem_of_getElem? e
    have := List.eq_of_mem_replicate this
    cases this
theorem def_okO {P : Program} {w : World} {K : PySem.W.Frag} {mg : Str → Option Value} {base : Heap} {cA : CI} {x qual : Str} {params : Arguments} {body : List Stmt} {scope : Scope} {kws : List (Str × V)} {f : Addr} {fd : FuncData} {N ps : List Str} {k np nn : Nat} {mb : MS}
    (F : FunD K x qual params body scope [] kws f fd) (S : FnScope N ps scope) (hp : ps.length = np) (hn : N.length = nn)
    (h : ∀ (cdv : Value) (A : Around) (outer : List Env) (s : Shared) (H : Hp) (E : XK), Room k (A.deeper (envOfC qual scope s.heap.objs.size f cdv)) → L2N.Takes (cxOf (L2N.CX P w) P w K mg base N qual scope f cdv A outer s H E) (Wf E) →
      PSSM (cxOf (L2N.CX P w) P w K mg base N qual scope f cdv A outer s H E) cA (Wf E) body mb) : FnOk P w K mg base (L2N.CX P w) (k + 1) f fd ps (SpM K cA (defK np nn mb)) := by
    subst hp
    subst hn
    refine F.ok S (fun vs H Q E ⟨F, p, mu, as, h1, h2, h3⟩ => ?_) fun cdv A outer s H vs Q E hr ⟨F, p, mu, as, h1, h2, h3⟩ => ⟨_, h cdv A outer s H E hr (L2N.takes_of rfl rfl rfl rfl), ?_⟩
    · unfold defK at h3
      by_cases hl : as.length = ps.length
      · rw [← h2.length]; exact hl
      · rw [if_neg hl] at h3; exact h3.elim
    · unfold defK at h3
      by_cases hl : as.length = ps.length
      · rw [if_pos hl] at h3
        refine ⟨F, p, _, mu, h1, envR_start h2, ?_⟩
        rw [hl]
        cases e : mb (as.map some ++ List.replicate (N.length - ps.length) none) mu with
        | nx r mu' => rw [e] at h3; exact fun F' p' H' s' a b c d => h3 F' p' H' _ a b c .non
        | rt v mu' => rw [e] at h3; exact h3
        | exc C fs r mu' => rw [e] at h3; exact fun F' p' H' s' cls d a b c _ x => h3 F' p' H' cls d a b c x
        | bk r mu' => rw [e] at h3; exact h3.elim
        | ct r mu' => rw [e] at h3; exact h3.elim
        | bad => rw [e] at h3; exact h3.elim
      · rw [if_neg hl] at h3; exact h3.elim
theorem FnM.of {P : Program} {w : World} {K : PySem.W.Frag} {mg : Str → Option Value} {base : Heap} {cA : CI} {f : Addr} {fd : FuncData} {ps : List Str} {k : Nat} {m : List Val → Store → R Val} (G : FnOk P w K mg base (L2N.CX P w) k f fd ps (SpM K cA m)) (hb : Binds K fd ps []) : FnM P w K mg base cA k f m := by
  refine (G.raw hb .nil).imp fun vs H Q E hs => ?_
  rw [List.append_nil]
  exact hs
def frz (mu : Store) (n : Nat) : Nat → Val → Option Val
  | 0, _ => none
  | k + 1, v => match v with
    | .tup xs => (mapO (frz mu n k) xs).map .tup
    | .lst xs => (mapO (frz mu n k) xs).map .lst
    | .dct kvs => (mapO (fun q => (frz mu n k q.2).map fun y => (q.1, y)) kvs).map .dct
    | .obj C fs => (mapO (fun q => (frz mu n k q.2).map fun y => (q.1, y)) fs).map (.obj C)
    | .err C fs => (mapO (fun q => (frz mu n k q.2).map fun y => (q.1, y)) fs).map (.err C)
    | .ref r => if r < n then some (.ref r) else (match mu[r]? with
      | some (.lst xs) => (mapO (frz mu n k) xs).map .lst
      | some (.dct kvs) => (mapO (fun q => (frz mu n k q.2).map fun y => (q.1, y)) kvs).map .dct
      | some (.obj C fs) => (mapO (fun q => (frz mu n k q.2).map fun y => (q.1, y)) fs).map (.obj C)
      | none => none)
    | v => some v
/-- every reference is below n -/
def rl (n : Nat) : Nat → Val → Bool
  | 0, _ => false
  | k + 1, v => match v with
    | .tup xs => xs.all (rl n k)
    | .lst xs => xs.all (rl n k)
    | .dct kvs => kvs.all fun q => rl n k q.2
    | .obj _ fs => fs.all fun q => rl n k q.2
    | .err _ fs => fs.all fun q => rl n k q.2
    | .ref r => decide (r < n)
    | _ => true
def rlC (n : Nat) : Cell → Bool
  | .lst xs => xs.all (rl n 140)
  | .dct kvs => kvs.all fun q => rl n 140 q.2
  | .obj _ fs => fs.all fun q => rl n 140 q.2
def okS (mu0 mu : Store) : Prop := mu0.length ≤ mu.length ∧ ∀ r c, r < mu0.length → mu[r]? = some c → mu0[r]? = some c ∨ rlC mu0.length c = true
open Classical in
noncomputable def finR (mu0 : Store) : R Val → R Val
  | .ok v mu => if okS mu0 mu then (match frz mu mu0.length 140 v with
    | some w => .ok w (mu.take mu0.length)
    | none => .bad) else .bad
  | .exc C fs mu => if okS mu0 mu then (match mapO (fun q => (frz mu mu0.length 140 q.2).map fun y => (q.1, y)) fs with
    | some gs => .exc C gs (mu.take mu0.length)
    | none => .bad) else .bad
  | .bad => .bad
def frzF (F : Fz) (p : List Addr) (H : Hp) (n : Nat) : Fz := ⟨fun a => if a ∈ p.drop n then H a else F.f a, F.g⟩
section
variable {K : PySem.W.Frag} {cA : CI} {F F' : Fz} {p q : List Addr} {mu mu' : Store} {H H' : Hp}
theorem frzF_sub (R : Rel K cA F p mu H) (n : Nat) : Sub0 F (frzF F p H n) := fun a o e => by
  show (if a ∈ p.drop n then H a else F.f a) = some o
  by_cases h : a ∈ p.drop n
  · have := R.off a (List.mem_of_mem_drop h)
    rw [this] at e; cases e
  · rw [if_neg h]; exact e
theorem frzF_at {n r : Nat} {a : Addr} (h : p[r]? = some a) (hr : n ≤ r) : (frzF F p H n).f a = H a := by
  show (if a ∈ p.drop n then H a else F.f a) = _
  rw [if_pos]
  obtain ⟨i, hi⟩ := Nat.le.dest hr
  refine List.mem_iff_getElem?.mpr ⟨i, ?_⟩
  rw [List.getElem?_drop, hi]
  exact h
mutual
theorem VR.cutp (s : p <+: q) : ∀ {x : Val} {v w : V}, VR K cA F p x v → VR K cA F' q x w → VR K cA F' p x w
  | _, _, _, .non, .non => .non
  | _, _, _, .bl _, .bl b => .bl b
  | _, _, _, .int _, .int i => .int i
  | _, _, _, .str _, .str i => .str i
  | _, _, _, .tup _ b, .tup c d => .tup c (VRs.cutp s b d)
  | _, _, _, .lst _ b, .lst c d => .lst c (VRs.cutp s b d)
  | _, _, _, .dct _ b, .dct c d => .dct c (KVR.cutp s b d)
  | _, _, _, .obj _ b, .obj c d => .obj c (FVR.cutp s b d)
  | _, _, _, .ref e, .ref e' => .ref (by rw [pre_get s e] at e'; cases e'; exact e)
  | _, _, _, .cls _, .cls C => .cls C
  | _, _, _, .ty _, .ty n => .ty n
  | _, _, _, .scr _, .scr a => .scr a
  | _, _, _, .vw _, .vw a => .vw a
  | _, _, _, .tupS _ _ _, .tupS a b c => .tupS a b c
  | _, _, _, .err _ b, .err c d => .err c (FVR.cutp s b d)
theorem VRs.cutp (s : p <+: q) : ∀ {x : List Val} {v w : List V}, VRs K cA F p x v → VRs K cA F' q x w → VRs K cA F' p x w
  | _, _, _, .nil, .nil => .nil
  | _, _, _, .cons a b, .cons c d => .cons (VR.cutp s a c) (VRs.cutp s b d)
theorem KVR.cutp (s : p <+: q) : ∀ {x : List (DKey × Val)} {v w : List (L2.Key × V)}, KVR K cA F p x v → KVR K cA F' q x w → KVR K cA F' p x w
  | _, _, _, .nil, .nil => .nil
  | _, _, _, .cons _ a b, .cons k c d => .cons k (VR.cutp s a c) (KVR.cutp s b d)
theorem FVR.cutp (s : p <+: q) : ∀ {x : List (Nat × Val)} {v w : List (Str × V)}, FVR K cA F p x v → FVR K cA F' q x w → FVR K cA F' p x w
  | _, _, _, .nil, .nil => .nil
  | _, _, _, .cons _ a b, .cons k c d => .cons k (VR.cutp s a c) (FVR.cutp s b d)
end
theorem CR.cutp {a : Addr} {c : Cell} (s : p <+: q) (h : CR K cA F p H a c) (h' : CR K cA F' q H' a c) : CR K cA F' p H' a c := by
  cases c with
  | lst xs => obtain ⟨_, _, g⟩ := h; obtain ⟨vs, h1, h2⟩ := h'; exact ⟨vs, h1, g.cutp s h2⟩
  | dct xs => obtain ⟨_, _, g⟩ := h; obtain ⟨vs, h1, h2⟩ := h'; exact ⟨vs, h1, g.cutp s h2⟩
  | obj C xs => obtain ⟨_, _, _, g⟩ := h; obtain ⟨dx, vs, h1, h2⟩ := h'; exact ⟨dx, vs, h1, g.cutp s h2⟩
theorem CR.up {a : Addr} {c : Cell} (s : Sub0 F F') (h : CR K cA F p H a c) : CR K cA F' p H a c := by
  cases c with
  | lst xs => obtain ⟨vs, h1, h2⟩ := h; exact ⟨vs, h1, h2.up s⟩
  | dct xs => obtain ⟨vs, h1, h2⟩ := h; exact ⟨vs, h1, h2.up s⟩
  | obj C xs => obtain ⟨dx, vs, h1, h2⟩ := h; exact ⟨dx, vs, h1, h2.up s⟩
theorem pre_low {n r : Nat} {a : Addr} (h : p[r]? = some a) (hr : r < n) : (p.take n)[r]? = some a := by
  rw [List.getElem?_take, if_pos hr]; exact h
/-- lists of them, for one that is known -/
theorem frz_all (n k : Nat) (G : Fz) (hk : ∀ x v y, VR K cA F p x v → frz mu n k x = some y → VR K cA G (p.take n) y v) : ∀ (xs ys : List Val) (vs : List V), VRs K cA F p xs vs → mapO (frz mu n k) xs = some ys → VRs K cA G (p.take n) ys vs
  | [], ys, vs, h, e => by cases h; cases e; exact .nil
  | x :: xs, ys, vs, h, e => by
    obtain ⟨z, zs, e1, e2, rfl⟩ := mapO_cons e
    cases h with
    | cons a b => exact .cons (hk _ _ _ a e1) (frz_all n k G hk xs zs _ b e2)
theorem frz_allK (n k : Nat) (G : Fz) (hk : ∀ x v y, VR K cA F p x v → frz mu n k x = some y → VR K cA G (p.take n) y v) : ∀ (xs ys : List (DKey × Val)) (vs : List (L2.Key × V)), KVR K cA F p xs vs → mapO (fun q => (frz mu n k q.2).map fun y => (q.1, y)) xs = some ys → KVR K cA G (p.take n) ys vs
  | [], ys, vs, h, e => by cases h; cases e; exact .nil
  | x :: xs, ys, vs, h, e => by
    obtain ⟨z, zs, e1, e2, rfl⟩ := mapO_cons e
    obtain ⟨y, e3, e4⟩ := Option.map_eq_some_iff.mp e1
    cases e4
    cases h with
    | cons kk a b => exact .cons kk (hk _ _ _ a e3) (frz_allK n k G hk xs zs _ b e2)
theorem frz_allF (n k : Nat) (G : Fz) (hk : ∀ x v y, VR K cA F p x v → frz mu n k x = some y → VR K cA G (p.take n) y v) : ∀ (xs ys : List (Nat × Val)) (vs : List (Str × V)), FVR K cA F p xs vs → mapO (fun q => (frz mu n k q.2).map fun y => (q.1, y)) xs = some ys → FVR K cA G (p.take n) ys vs
  | [], ys, vs, h, e => by cases h; cases e; exact .nil
  | x :: xs, ys, vs, h, e => by
    obtain ⟨z, zs, e1, e2, rfl⟩ := mapO_cons e
    obtain ⟨y, e3, e4⟩ := Option.map_eq_some_iff.mp e1
    cases e4
    cases h with
    | cons kk a b => exact .cons kk (hk _ _ _ a e3) (frz_allF n k G hk xs zs _ b e2)
theorem frz_ok (R : Rel K cA F p mu H) (n : Nat) : ∀ (k : Nat) (x : Val) (v : V) (y : Val), VR K cA F p x v → frz mu n k x = some y → VR K cA (frzF F p H n) (p.take n) y v := by
  intro k
  induction k with
  | zero => intro x v y h e; cases e
  | succ k ih =>
    have sb := frzF_sub R n
    have L := frz_all (mu := mu) n k (frzF F p H n) ih
    have LK := frz_allK (mu := mu) n k (frzF F p H n) ih
    have LF := frz_allF (mu := mu) n k (frzF F p H n) ih
    intro x v y h e
    cases h with
    | non => cases e; exact .non
    | bl b => cases e; exact .bl b
    | int b => cases e; exact .int b
    | str b => cases e; exact .str b
    | cls b => cases e; exact .cls b
    | ty b => cases e; exact .ty b
    | scr b => cases e; exact .scr (sub_l sb b)
    | vw _ => cases e; exact .vw _
    | tupS a b c => cases e; exact .tupS (sb _ _ a) b c
    | err a b =>
      simp only [frz] at e
      obtain ⟨ys, e1, rfl⟩ := Option.map_eq_some_iff.mp e
      exact .err (a.sub sb) (LF _ _ _ b e1)
    | tup a b =>
      simp only [frz] at e
      obtain ⟨ys, e1, rfl⟩ := Option.map_eq_some_iff.mp e
      exact .tup (sub_t sb a) (L _ _ _ b e1)
    | lst a b =>
      simp only [frz] at e
      obtain ⟨ys, e1, rfl⟩ := Option.map_eq_some_iff.mp e
      exact .lst (sb _ _ a) (L _ _ _ b e1)
    | dct a b =>
      simp only [frz] at e
      obtain ⟨ys, e1, rfl⟩ := Option.map_eq_some_iff.mp e
      exact .dct (sb _ _ a) (LK _ _ _ b e1)
    | obj a b =>
      simp only [frz] at e
      obtain ⟨ys, e1, rfl⟩ := Option.map_eq_some_iff.mp e
      exact .obj (sb _ _ a) (LF _ _ _ b e1)
    | @ref r a hr =>
      simp only [frz] at e
      by_cases hn : r < n
      · rw [if_pos hn] at e
        cases e
        exact .ref (pre_low hr hn)
      · rw [if_neg hn] at e
        obtain ⟨c, h2, h3⟩ := R.at_some hr
        have hat := frzF_at (F := F) (H := H) hr (Nat.le_of_not_lt hn)
        rw [h2] at e
        cases c with
        | lst xs =>
          obtain ⟨ys, e1, rfl⟩ := Option.map_eq_some_iff.mp e
          obtain ⟨vs, g1, g2⟩ := h3
          exact .lst (by rw [hat]; exact g1) (L _ _ _ g2 e1)
        | dct xs =>
          obtain ⟨ys, e1, rfl⟩ := Option.map_eq_some_iff.mp e
          obtain ⟨vs, g1, g2⟩ := h3
          exact .dct (by rw [hat]; exact g1) (LK _ _ _ g2 e1)
        | obj C xs =>
          obtain ⟨ys, e1, rfl⟩ := Option.map_eq_some_iff.mp e
          obtain ⟨dx, vs, g1, g2⟩ := h3
          exact .obj (by rw [hat]; exact g1) (LF _ _ _ g2 e1)
theorem rl_all (n k : Nat) (hk : ∀ x v, VR K cA F p x v → rl n k x = true → VR K cA F (p.take n) x v) : ∀ (xs : List Val) (vs : List V), VRs K cA F p xs vs → xs.all (rl n k) = true → VRs K cA F (p.take n) xs vs
  | [], vs, h, e => by cases h; exact .nil
  | x :: xs, vs, h, e => by
    rw [List.all_cons, Bool.and_eq_true] at e
    cases h with
    | cons a b => exact .cons (hk _ _ a e.1) (rl_all n k hk xs _ b e.2)
theorem rl_allK (n k : Nat) (hk : ∀ x v, VR K cA F p x v → rl n k x = true → VR K cA F (p.take n) x v) : ∀ (xs : List (DKey × Val)) (vs : List (L2.Key × V)), KVR K cA F p xs vs → (xs.all fun q => rl n k q.2) = true → KVR K cA F (p.take n) xs vs
  | [], vs, h, e => by cases h; exact .nil
  | x :: xs, vs, h, e => by
    rw [List.all_cons, Bool.and_eq_true] at e
    cases h with
    | cons kk a b => exact .cons kk (hk _ _ a e.1) (rl_allK n k hk xs _ b e.2)
theorem rl_allF (n k : Nat) (hk : ∀ x v, VR K cA F p x v → rl n k x = true → VR K cA F (p.take n) x v) : ∀ (xs : List (Nat × Val)) (vs : List (Str × V)), FVR K cA F p xs vs → (xs.all fun q => rl n k q.2) = true → FVR K cA F (p.take n) xs vs
  | [], vs, h, e => by cases h; exact .nil
  | x :: xs, vs, h, e => by
    rw [List.all_cons, Bool.and_eq_true] at e
    cases h with
    | cons kk a b => exact .cons kk (hk _ _ a e.1) (rl_allF n k hk xs _ b e.2)
theorem rl_ok (n : Nat) : ∀ (k : Nat) (x : Val) (v : V), VR K cA F p x v → rl n k x = true → VR K cA F (p.take n) x v := by
  intro k
  induction k with
  | zero => intro x v h e; cases e
  | succ k ih =>
    intro x v h e
    cases h with
    | non => exact .non
    | bl b => exact .bl b
    | int b => exact .int b
    | str b => exact .str b
    | cls b => exact .cls b
    | ty b => exact .ty b
    | scr b => exact .scr b
    | vw _ => exact .vw _
    | tupS a b c => exact .tupS a b c
    | err a b => exact .err a (rl_allF n k ih _ _ b e)
    | tup a b => exact .tup a (rl_all n k ih _ _ b e)
    | lst a b => exact .lst a (rl_all n k ih _ _ b e)
    | dct a b => exact .dct a (rl_allK n k ih _ _ b e)
    | obj a b => exact .obj a (rl_allF n k ih _ _ b e)
    | ref hr => exact .ref (pre_low hr (of_decide_eq_true e))
theorem rlC_ok {n : Nat} {a : Addr} {c : Cell} (h : CR K cA F p H a c) (e : rlC n c = true) : CR K cA F (p.take n) H a c := by
  cases c with
  | lst xs => obtain ⟨vs, h1, h2⟩ := h; exact ⟨vs, h1, rl_all n 140 (rl_ok n 140) _ _ h2 e⟩
  | dct xs => obtain ⟨vs, h1, h2⟩ := h; exact ⟨vs, h1, rl_allK n 140 (rl_ok n 140) _ _ h2 e⟩
  | obj C xs => obtain ⟨dx, vs, h1, h2⟩ := h; exact ⟨dx, vs, h1, rl_allF n 140 (rl_ok n 140) _ _ h2 e⟩
/-- back to the store as it was, new things stand for good -/
theorem Rel.fin {H0 : Hp} {F0 : Fz} {p0 : List Addr} {mu0 : Store} (R0 : Rel K cA F0 p0 mu0 H0) (R : Rel K cA F p mu H) (s : p0 <+: p) (ok : okS mu0 mu) : Rel K cA (frzF F p H mu0.length) p0 (mu.take mu0.length) H ∧ p.take mu0.length = p0 := by
  have ep : p.take mu0.length = p0 := by
    obtain ⟨t, rfl⟩ := s
    rw [← R0.len, List.take_left]
  have sb := frzF_sub R mu0.length
  have nodr : ∀ a ∈ p0, a ∉ p.drop mu0.length := fun a ha hd => by
    obtain ⟨t, rfl⟩ := s
    rw [← R0.len, List.drop_left] at hd
    exact (List.nodup_append.mp R.nd).2.2 a ha a hd rfl
  refine ⟨⟨fun a o e => ?_, by rw [List.length_take, R0.len]; exact (Nat.min_eq_left ok.1).symm, R0.nd, fun a ha => ?_, fun r a c h1 h2 => ?_, fun a o e => ?_, R.tab, fun q hq => sb _ _ (R.xds q hq), fun a ps e => ?_, R.ng⟩, ep⟩
  · have e' : (if a ∈ p.drop mu0.length then H a else F.f a) = some o := e
    by_cases hd : a ∈ p.drop mu0.length
    · rw [if_pos hd] at e'; exact e'
    · rw [if_neg hd] at e'; exact R.sub _ _ e'
  · show (if a ∈ p.drop mu0.length then H a else F.f a) = none
    rw [if_neg (nodr a ha)]
    exact R.off a (s.subset ha)
  · have hr : r < mu0.length := by rw [← R0.len]; exact (List.getElem?_eq_some_iff.mp h1).1
    rw [List.getElem?_take, if_pos hr] at h2
    have hc := R.cell r a c (pre_get s h1) h2
    rcases ok.2 r c hr h2 with h | h
    · exact ((R0.cell r a c h1 h).cutp s hc).up sb
    · have := rlC_ok hc h
      rw [ep] at this
      exact this.up sb
  · obtain ⟨h1, h2, h3⟩ := R.hid a o e
    refine ⟨h1, ?_, fun z => h3 (s.subset z)⟩
    show (if a ∈ p.drop mu0.length then H a else F.f a) = none
    rw [if_neg fun z => h3 (List.mem_of_mem_drop z)]
    exact h2
  · have e' : (if a ∈ p.drop mu0.length then H a else F.f a) = some (.tbl ps) := e
    by_cases hd : a ∈ p.drop mu0.length
    · rw [if_pos hd] at e'
      obtain ⟨r, hr⟩ := List.mem_iff_getElem?.mp (List.mem_of_mem_drop hd)
      obtain ⟨c, _, hc⟩ := R.at_some hr
      obtain ⟨o, e1, n1⟩ := hc.noT
      rw [e1] at e'
      exact n1.1 ps (Option.some.inj e')
    · rw [if_neg hd] at e'
      exact R.nf a ps e'
theorem post_fin {W : WX} {s : L2.St} {Q : VK} {x : R Val} (R0 : Rel K cA F p mu H) (h : Post K cA (VR K cA) W s F p Q (finR mu x)) : Post K cA (VR K cA) W s F p Q x := by
  cases x with
  | bad => exact h
  | ok v mu1 =>
    simp only [finR] at h
    by_cases ok : okS mu mu1
    · rw [if_pos ok] at h
      cases e : frz mu1 mu.length 140 v with
      | none => rw [e] at h; exact h.elim
      | some w =>
        rw [e] at h
        intro F' p' H' x a b c d
        obtain ⟨R', ep⟩ := Rel.fin R0 c b ok
        have hv := frz_ok c mu.length 140 v x w d e
        rw [ep] at hv
        exact h _ p H' x ⟨SubH.trans a.1 (frzF_sub c _), a.2⟩ (List.prefix_refl p) R' hv
    · rw [if_neg ok] at h; exact h.elim
  | exc C fs mu1 =>
    simp only [finR] at h
    by_cases ok : okS mu mu1
    · rw [if_pos ok] at h
      cases e : mapO (fun q => (frz mu1 mu.length 140 q.2).map fun y => (q.1, y)) fs with
      | none => rw [e] at h; exact h.elim
      | some gs =>
        rw [e] at h
        intro F' p' H' cls d a b c x
        obtain ⟨R', ep⟩ := Rel.fin R0 c b ok
        refine h _ p H' cls d ⟨SubH.trans a.1 (frzF_sub c _), a.2⟩ (List.prefix_refl p) R' ⟨x.1, ?_⟩
        rcases x.2 with ⟨h1, h2⟩ | ⟨dx, ds, h1, h2, h3⟩
        · subst h1
          cases e
          exact .inl ⟨rfl, h2⟩
        · have hv := frz_allF (mu := mu1) mu.length 140 (frzF F' p' H' mu.length) (frz_ok c mu.length 140) _ _ _ h3 e
          rw [ep] at hv
          exact .inr ⟨dx, ds, h1, frzF_sub c _ _ _ h2, hv⟩
    · rw [if_neg ok] at h; exact h.elim
end
/-- a def that leaves nothing behind that is changed -/
noncomputable def finM (m : List Val → Store → R Val) : List Val → Store → R Val := fun as mu => finR mu (m as mu)
theorem FnM.fin {P : Program} {w : World} {K : PySem.W.Frag} {mg : Str → Option Value} {base : Heap} {cA : CI} {k : Nat} {f : Addr} {m : List Val → Store → R Val} (h : FnM P w K mg base cA k f m) : FnM P w K mg base cA k f (finM m) :=
  h.imp fun vs H Q E ⟨F, p, mu, as, h1, h2, h3⟩ => ⟨F, p, mu, as, h1, h2, post_fin h1 h3⟩
theorem FnM.eq {P : Program} {w : World} {K : PySem.W.Frag} {mg : Str → Option Value} {base : Heap} {cA : CI} {k : Nat} {f : Addr} {m m' : List Val → Store → R Val} (h : FnM P w K mg base cA k f m) (e : ∀ as mu, m' as mu = .bad ∨ m' as mu = m as mu) : FnM P w K mg base cA k f m' :=
  h.imp fun vs H Q E ⟨F, p, mu, as, h1, h2, h3⟩ => ⟨F, p, mu, as, h1, h2, by
    rcases e as mu with z | z
    · rw [z] at h3; exact h3.elim
    · rw [z] at h3; exact h3⟩
end CC

set_option Elab.async false
set_option linter.all false
set_option maxRecDepth 100000
set_option maxHeartbeats 2000000
namespace CC
open PySem PySem.Spec PyProof.Rows L2
/-- a value of the module -/
theorem c_glob {X : Cx} {cA : CI} {W : WX} {x : Str} {v : Val} {w : V} {u : Value} {pos : Pos} (hm : X.mg x = some u) (r : RelV w u) (hv : ∀ F p, VR X.K cA F p v w) (hg : Gl X x := by rfl) (hd : (x == ("__debug__" : Str)) = false := by decide) : PEM X cA W (.Name x pos) (cM v) := c_of (pe_glob hg hm r hd) hv
theorem c_gint {X : Cx} {cA : CI} {W : WX} {x : Str} {i : Int} {pos : Pos} (hm : ∃ t, X.mg x = some (.int i t)) (hg : Gl X x := by rfl) (hd : (x == ("__debug__" : Str)) = false := by decide) : PEM X cA W (.Name x pos) (cM (.int i)) := by
  obtain ⟨t, ht⟩ := hm
  exact c_glob (w := .int i) ht ⟨t, rfl⟩ (fun _ _ => .int i) hg hd
theorem c_gcls {X : Cx} {cA : CI} {W : WX} {x : Str} {C : Nat} {pos : Pos} (hm : X.mg x = some (.ref (cA C))) (hg : Gl X x := by rfl) (hd : (x == ("__debug__" : Str)) = false := by decide) : PEM X cA W (.Name x pos) (cM (.cls C)) := c_glob (w := .ref (cA C)) hm rfl (fun _ _ => .cls C) hg hd
/-- a built-in type -/
theorem c_bty {X : Cx} {cA : CI} {W : WX} {x : Str} {n : String} {pos : Pos} (hm : X.mg x = none) (hv : bootBuiltins x = some (.type n) := by rfl) (hg : Gl X x := by rfl) (hn : x ≠ "__name__" := by decide) (hd : (x == ("__debug__" : Str)) = false := by decide) : PEM X cA W (.Name x pos) (cM (.ty n)) := c_of (w := .ty n) (pe_bltn (v := .ty n) hg hm hv rfl hn hd) fun _ _ => .ty n
def callM (m : List Val → Store → R Val) (ms : M (List Val)) : M Val := fun r mu => (ms r mu).bind m
section
variable {X : Cx} {cA : CI} {E : XK} {x : Str} {p pos apos : Pos} {e o : Expr} {es : List Expr} {f : Addr} {k : Nat} {m : List Val → Store → R Val} {ms : M (List Val)} {mo : M Val}
theorem sp_of {K : PySem.W.Frag} {F : Fz} {q : List Addr} {mu : Store} {H : Hp} {as : List Val} {vs : List V} {s : L2.St} {Q : VK} (h1 : Rel K cA F q mu H) (h2 : VRs K cA F q as vs) (h3 : Post K cA (VR K cA) (Wf E) s F q Q (m as mu)) : SpM K cA m vs H Q E := ⟨F, q, mu, as, h1, h2, h3.slots⟩
theorem pass_of (tk : L2N.Takes X (Wf E)) : Passes (L2N.CX X.prog X.w) X E := L2N.passes_call tk fun _ _ _ _ h => h
/-- f(e, ..) -/
theorem c_call (F : FnM X.prog X.w X.K X.mg X.base cA k f m) (hm : X.mg x = some (.ref f)) (hk : PySem.W.keepIn X.K (.ref f) = true) (hr : Room k X.A) (tk : L2N.Takes X (Wf E)) (ha : PAM X cA (Wf E) (e :: es) ms) (hg : Gl X x := by rfl)
    (hdb : (x == ("__debug__" : Str)) = false := by decide) (he : starEach (e :: es) X.env = (false, eval e X.env) :: starEach es X.env := by rfl) (hpl : (backTo pos (starEach es X.env)).any (·.1) = false := by rfl) : PEM X cA (Wf E) (.Call (.Name x p) (e :: es) [] pos) (callM m ms) := by
  refine ⟨fun pins s σ H Q I ⟨F1, p1, r, mu, h1, h2, h3⟩ => wpAny_Call_Name_kw (ld_glob I hg hm ?_ hdb)⟩
  have hd : DA X.K cA (Wf E) ms σ H fun vs H1 => SpM X.K cA m vs H1 Q E := bindAt h1 h2 h3 fun F2 p2 mu2 as vs H1 _ _ c1 _ e1 f1 => sp_of c1 e1 f1
  refine PySem.W.callWith_K (h₀ := X.base) I.ok.mod.kin hk (thn (ha.run pos pins s σ H _ I hd) fun us s1 ⟨vs, H1, I1, r1, q⟩ => ⟨I1.kIn, ?_⟩) he hpl
  exact wpAny_call (run_fnR F hr (pass_of tk) I1 r1 q)
def Leaves (K : PySem.W.Frag) (cA : CI) (E : XK) (g g' : List Val → Store → R Val) : Prop := ∀ (F : Fz) (q : List Addr) (mu : Store) (H : Hp) (as : List Val) (s : L2.St) (Q : VK), Rel K cA F q mu H → Post K cA (VR K cA) (Wf E) s F q Q (g' as mu) → Post K cA (VR K cA) (Wf E) s F q Q (g as mu)
theorem leaves {K : PySem.W.Frag} {g : List Val → Store → R Val} : Leaves K cA E g g := fun _ _ _ _ _ _ _ _ h => h
def mkVM (C : Nat) (g : List Val → Store → R Val) (mo : M Val) (ms : M (List Val)) : M Val := fun r mu => (mo r mu).bind fun c mu1 => match c with
  | .cls C' => if C' = C then callM g ms r mu1 else .bad
  | _ => .bad
theorem kbn_of {K : PySem.W.Frag} {y qual : Str} {params : Arguments} {body : List Stmt} {scope : Scope} {kws : List (Str × V)} {f : Addr} {fd : FuncData} {ps ks : List Str} {n : Nat} {g : List Value → List Value → List Value} {gV : List V → List V → List V} (F : FunD K y qual params body scope [] kws f fd)
    (h : ∀ (kV doc pm : Value) (an : Option Addr) (cdv ct : Value) (us ws : List Value), us.length = n → ws.length = ks.length → bindArgs (PySem.W.fnOf y qual params body scope .none kV doc pm an cdv ct) ⟨us, ks.zip ws⟩ = pure (ps.zip (g us ws)))
    (rel : ∀ {vs : List V} {us : List Value} {zs : List V} {ws : List Value}, Vals vs us → Vals zs ws → Vals (gV vs zs) (g us ws)) : KBn K fd ps n ks g gV := by
  obtain ⟨oc, od, dV, kV, doc, pm, an, cdv, ct, osl, rfl, lk, hcd, hD, hK⟩ := F.ex
  rcases hD with ⟨_, rfl⟩ | ⟨e, _⟩
  · exact ⟨fun s us ws _ l1 l2 => BindsTo.of_eq (h kV doc pm an cdv ct us ws l1 l2), rel⟩
  · exact absurd rfl e
def PKM (X : Cx) (cA : CI) (W : WX) (ks : List Keyword) (ms : M (List Val)) : Prop := PK X ks (DA X.K cA W ms)
theorem k_nil {W : WX} : PKM X cA W [] nilM := ⟨fun pos pins s σ H Q I ⟨F, p, r, mu, h1, h2, h3⟩ => pk_nil.run pos pins s σ H Q I (h3 F p H [] (Sub.refl F) (List.prefix_refl p) h1 .nil)⟩
theorem k_cons {W : WX} {nm : Option Str} {kpos : Pos} {kws : List Keyword} (ha : PEM X cA W e mo) (hr : PKM X cA W kws ms) : PKM X cA W (⟨nm, e, kpos⟩ :: kws) (consM mo ms) := ⟨fun pos pins s σ H Q I h => (pk_cons ha hr).run pos pins s σ H Q I (denc h)⟩
def mkKM (n : Nat) (g : List Val → Store → R Val) (ms : M (List Val)) : M Val := fun r mu => (ms r mu).bind fun as mu1 => if as.length = n then g as mu1 else .bad
/-- exceptions are not looked at -/
def noX {α : Type} : R α → R α
  | .ok a mu => .ok a mu
  | _ => .bad
def propM (C : Nat) (m : List Val → Store → R Val) (mo : M Val) : M Val := fun r mu => (mo r mu).bind fun x mu1 => match objV mu1 x with
  | some (C', _) => if C' = C then noX (m [x] mu1) else .bad
  | none => .bad
def clsM (C : Nat) (m : List Val → Store → R Val) (mo : M Val) (ms : M (List Val)) : M Val := fun r mu => (mo r mu).bind fun x mu1 => match x with
  | .cls C' => if C' = C then (ms r mu1).bind fun as mu2 => m (.cls C :: as) mu2 else .bad
  | _ => .bad
end
end CC

set_option Elab.async false
set_option linter.all false
set_option maxRecDepth 100000
set_option maxHeartbeats 2000000
namespace CC
open PySem PySem.Spec PyProof.Rows L2
section
variable {X : Cx} {pins : List (Addr × Obj)} {σ : L2.St} {H : Hp} {s : Shared} {M : Model}
/-- an instance as it stands -/
theorem inst_of (I : Inv X pins σ H s) {a dx C : Addr} {gs : List (Str × V)} (e : H a = some (.ins C dx gs)) : ∃ od, PySem.W.InstAt s.heap a (PySem.W.instObj C dx) C (some od) := by
  obtain ⟨mA, O, _, _, _, _⟩ := ins_get I.hok e
  obtain ⟨od, J, _⟩ := O.look
  exact ⟨od, J⟩
end
open Classical in
noncomputable def pureR (mu : Store) : R Val → Option Val
  | .ok v mu' => if mu' = mu then some v else none
  | _ => none
section
variable {K : PySem.W.Frag} {cA : CI} {F : Fz} {p : List Addr} {mu : Store} {H : Hp}
theorem pure_post {m : R Val} {z : Val} {Q : VK} {s : L2.St} (R0 : Rel K cA F p mu H) (e : pureR mu m = some z) (q : GQ K cA F p mu z Q) : Post K cA (VR K cA) (Wf fun _ _ _ => False) s F p Q m := by
  cases m with
  | ok v mu' =>
    simp only [pureR] at e
    by_cases h : mu' = mu
    · rw [if_pos h] at e
      cases e
      subst h
      intro F' p' H' x a b c d
      have : p' = p := by
        obtain ⟨t, rfl⟩ := b
        have h1 := c.len
        have h2 := R0.len
        rw [List.length_append] at h1
        have : t = [] := List.eq_nil_of_length_eq_zero (by omega)
        rw [this, List.append_nil]
      subst this
      exact q F' H' x a c d
    · rw [if_neg h] at e; cases e
  | exc C fs mu' => cases e
  | bad => cases e
end
/-- what is known of a class with an own def nm at f; nf: with these at the right it is asked first -/
structure OwnC (K : PySem.W.Frag) (cA : CI) (C : Nat) (nm : Str) (f : Addr) : Prop where
  at_ : PySem.W.findIn K (.ref (cA C)) nm = some (some (.ref f))
  fn : PySem.W.isFn K (.ref f) = true
noncomputable def eqO (ic : Nat → Bool) (nf : Tg → Bool) (C : Nat) (m : List Val → Store → R Val) (mu : Store) (a b : Val) : Option Val := match objV mu a with
  | some (C', _) => if C' = C then (match tagOf ic mu b with
    | some t => if nf t = true then pureR mu (m [a, b] mu) else none
    | none => none) else none
  | none => none
section
variable {X : Cx} {cA : CI} {ic : Nat → Bool} {kt : Tg → Tg → Option Bool} {nf : Tg → Bool} {C k : Nat} {f : Addr} {m : List Val → Store → R Val}
theorem pass_no {E : XK} (hE : ∀ c d H, ¬ E c d H) : Passes (L2N.CX X.prog X.w) X E := fun pins σ H s e s' I hq => by
  obtain ⟨_, _, _, _, _, _, _, _, _, _, _, _, z⟩ := hq
  exact (hE _ _ _ z).elim
noncomputable def ownV (C : Nat) (m : List Val → Store → R Val) (mu : Store) : List Val → Option Val
  | [a] => (match objV mu a with
    | some (C', _) => if C' = C then (pureR mu (m [a] mu)).bind fun z => (match z with
      | .str s => some (.str s)
      | _ => none) else none
    | none => none)
  | _ => none
theorem ownV_at {F0 : Fz} {p : List Addr} {mu : Store} {H : Hp} {as : List Val} {xs : List V} {z : Val} (R0 : Rel X.K cA F0 p mu H) (ra : VRs X.K cA F0 p as xs) (e : ownV C m mu as = some z) :
    ∃ l dx gs s, xs = [.ref l] ∧ H l = some (.ins (cA C) dx gs) ∧ z = .str s ∧ ∀ Q, GQ X.K cA F0 p mu z Q → SpM X.K cA m xs H Q (fun _ _ _ => False) := by
  unfold ownV at e
  split at e
  · rename_i a
    obtain ⟨x, rfl, rx⟩ := vrs1 ra
    cases e1 : objV mu a with
    | none => rw [e1] at e; cases e
    | some w =>
      obtain ⟨C', fs⟩ := w
      rw [e1] at e
      simp only at e
      by_cases hc : C' = C
      · rw [if_pos hc] at e
        subst hc
        obtain ⟨z0, e2, e3⟩ := Option.bind_eq_some_iff.mp e
        obtain ⟨l, dx, gs, rfl, g1, g2⟩ := objV_ok R0 rx e1
        cases z0 with
        | str s =>
          cases e3
          exact ⟨l, dx, gs, s, rfl, g1, rfl, fun Q q => ⟨F0, p, mu, [a], R0, .cons rx .nil, pure_post R0 e2 q⟩⟩
        | _ => cases e3
      · rw [if_neg hc] at e; cases e
  · cases e
end
def FnG (P : Program) (w : World) (K : PySem.W.Frag) (mg : Str → Option Value) (base : Heap) (cA : CI) (k : Nat) (f : Addr) (m : List Val → Store → R Val) : Prop :=
  ∀ (A : Around) (outer : List Env) (s : Shared) (H : Hp) (us : List Value) (vs : List V) (Q : VK) (E : XK), Room k A → A.guards = some [] → Env0 P w K mg base A outer s H → Vals vs us → SpM K cA m vs H Q E →
    codeAny (model P w) A (.call (.ref f) ⟨us, []⟩) (L2.CR (L2N.CX P w) outer P w H s Q E) s
theorem FnM.g {P : Program} {w : World} {K : PySem.W.Frag} {mg : Str → Option Value} {base : Heap} {cA : CI} {k : Nat} {f : Addr} {m : List Val → Store → R Val} (h : FnM P w K mg base cA k f m) : FnG P w K mg base cA k f m := fun A outer s H us vs Q E hr _ e0 r hs => h A outer s H us vs Q E hr e0 r hs
theorem FnG.fin {P : Program} {w : World} {K : PySem.W.Frag} {mg : Str → Option Value} {base : Heap} {cA : CI} {k : Nat} {f : Addr} {m : List Val → Store → R Val} (h : FnG P w K mg base cA k f m) : FnG P w K mg base cA k f (finM m) := fun A outer s H us vs Q E hr hg e0 r ⟨F, p, mu, as, h1, h2, h3⟩ => h A outer s H us vs Q E hr hg e0 r ⟨F, p, mu, as, h1, h2, post_fin h1 h3⟩
section
variable {X : Cx} {cA : CI} {E : XK} {x : Str} {p pos : Pos} {e : Expr} {es : List Expr} {f : Addr} {k : Nat} {m : List Val → Store → R Val} {ms : M (List Val)}
theorem c_callG (F : FnG X.prog X.w X.K X.mg X.base cA k f m) (hgd : X.A.guards = some []) (hm : X.mg x = some (.ref f)) (hk : PySem.W.keepIn X.K (.ref f) = true) (hr : Room k X.A) (tk : L2N.Takes X (Wf E)) (ha : PAM X cA (Wf E) (e :: es) ms) (hg : Gl X x := by rfl)
    (hdb : (x == ("__debug__" : Str)) = false := by decide) (he : starEach (e :: es) X.env = (false, eval e X.env) :: starEach es X.env := by rfl) (hpl : (backTo pos (starEach es X.env)).any (·.1) = false := by rfl) : PEM X cA (Wf E) (.Call (.Name x p) (e :: es) [] pos) (callM m ms) := by
  refine ⟨fun pins s σ H Q I ⟨F1, p1, r, mu, h1, h2, h3⟩ => wpAny_Call_Name_kw (ld_glob I hg hm ?_ hdb)⟩
  have hd : DA X.K cA (Wf E) ms σ H fun vs H1 => SpM X.K cA m vs H1 Q E := bindAt h1 h2 h3 fun F2 p2 mu2 as vs H1 _ _ c1 _ e1 f1 => sp_of c1 e1 f1
  refine PySem.W.callWith_K (h₀ := X.base) I.ok.mod.kin hk (thn (ha.run pos pins s σ H _ I hd) fun us s1 ⟨vs, H1, I1, r1, q⟩ => ⟨I1.kIn, ?_⟩) he hpl
  refine wpAny_call (codeAny_mono (F X.A X.stack s1 H1 us vs Q E hr hgd I1.env0 r1 q) fun res s' hq => ?_)
  cases res with
  | error er => exact pass_of tk pins σ H1 s1 er s' I1 hq
  | ok fl =>
    cases fl with
    | ret u => exact I1.after hq
    | next => exact False.elim hq
    | brk => exact False.elim hq
    | cont => exact False.elim hq
end
theorem def_okG {P : Program} {w : World} {K : PySem.W.Frag} {mg : Str → Option Value} {base : Heap} {cA : CI} {x qual : Str} {params : Arguments} {body : List Stmt} {scope : Scope} {kws : List (Str × V)} {f : Addr} {fd : FuncData} {N ps : List Str} {k np nn : Nat} {mb : MS}
    (F : FunD K x qual params body scope [] kws f fd) (S : FnScope N ps scope) (hb : Binds K fd ps []) (hp : ps.length = np) (hn : N.length = nn)
    (h : ∀ (cdv : Value) (hcdv : fd.code = cdv) (A : Around) (outer : List Env) (s : Shared) (H : Hp) (E : XK), Room k (A.deeper (envOfC qual scope s.heap.objs.size f cdv)) → A.guards = some [] → L2N.Takes (cxOf (L2N.CX P w) P w K mg base N qual scope f cdv A outer s H E) (Wf E) →
      PSSM (cxOf (L2N.CX P w) P w K mg base N qual scope f cdv A outer s H E) cA (Wf E) body mb) : FnG P w K mg base cA (k + 1) f (defK np nn mb) := by
  subst hp
  subst hn
  obtain ⟨oc, od, dV, kV, doc, pm, an, cdv, ct, osl, rfl, lk, hcd, hD, hK⟩ := F.ex
  intro A outer s H us vs Q E hr hgd e0 rv ⟨F0, p, mu, as, h1, h2, h3⟩
  unfold defK at h3
  by_cases hl : as.length = ps.length
  · rw [if_pos hl] at h3
    have lv : vs.length = ps.length := by rw [← h2.length]; exact hl
    have lu : us.length = ps.length := by rw [← rv.length]; exact lv
    have kin : K.In s.heap := e0.mod.kin.keeps fun b o e => (e0.bs b o e).1
    have lim : s.heap.NoLimit := e0.mod.nolimit.keeps fun b o e => (e0.bs b o e).1
    have kinds : ∀ y ∈ ps.zip us, scope.names.lookup y.1 = some .local ∨ (scope.names.lookup y.1 = some .cell ∧ ((cellsFrom (s.heap.objs.size + 1) scope.names []).lookup y.1).isSome = true) := fun y hy => by
      obtain ⟨n, v⟩ := y
      rcases S.par n (List.of_mem_zip hy).1 with q | q
      · exact .inl q
      · exact .inr ⟨q, PySem.W.cellsFrom_some _ _ _ (.inl q)⟩
    have bt := hb s us kin (by rw [List.append_nil]; exact lu)
    rw [List.append_nil] at bt
    refine codeAny_call_function hr.depth (kin _ _ lk) rfl S.co S.gen rfl (PySem.W.codeRec_of kin hcd) (bt _ _ _ _ ?_)
    refine wpAny_newFunctionEnv_cells S.kind kinds fun env he s1 ic => ?_
    subst he
    refine ⟨lim.keeps ic.toInCall.keep, codeAny_func ?_⟩
    have ht := h cdv rfl A outer s H E (hr.deeper _) hgd (L2N.takes_of rfl rfl rfl rfl)
    have I : Inv (cxOf (L2N.CX P w) P w K mg base N qual scope f cdv A outer s H E) [] (L2.start N vs) H s1 := inv_start S hr.hd e0 lv rv ic
    have hq : DS K cA (Wf E) mb { nx := fun _ H' => Q .non H', rt := Q } (L2.start N vs) H := by
      refine ⟨F0, p, _, mu, h1, envR_start h2, ?_⟩
      rw [hl]
      cases e : mb (as.map some ++ List.replicate (N.length - ps.length) none) mu with
      | nx r mu' => rw [e] at h3; exact fun F' p' H' s' a b c d => h3 F' p' H' _ a b c .non
      | rt v mu' => rw [e] at h3; exact h3
      | exc C fs r mu' => rw [e] at h3; exact fun F' p' H' s' cls d a b c _ x => h3 F' p' H' cls d a b c x
      | bk r mu' => rw [e] at h3; exact h3.elim
      | ct r mu' => rw [e] at h3; exact h3.elim
      | bad => rw [e] at h3; exact h3.elim
    refine wpAny_mono (ht.run [] s1 (L2.start N vs) H _ I hq) (fun fl s' hs => ?_) fun e s' hs => hs
    cases fl with
    | ret u => obtain ⟨v, σ', H', J, rv, q⟩ := hs; exact ⟨v, H', J.os, J.bare, J.base, J.hok, rv, q⟩
    | next => obtain ⟨σ', H', J, q⟩ := hs; exact ⟨.non, H', J.os, J.bare, J.base, J.hok, rfl, q⟩
    | brk => obtain ⟨_, _, _, q⟩ := hs; exact False.elim q
    | cont => obtain ⟨_, _, _, q⟩ := hs; exact False.elim q
  · rw [if_neg hl] at h3; exact h3.elim
end CC

set_option Elab.async false
set_option linter.all false
set_option maxRecDepth 100000
set_option maxHeartbeats 2000000
namespace CC
open PySem PySem.Spec PyProof.Rows L2
end CC

set_option Elab.async false
set_option linter.all false
set_option maxRecDepth 100000
set_option maxHeartbeats 2000000
namespace CC
open PySem PySem.Spec PyProof.Rows L2
abbrev strL (x : Str) : Val := .str x.cps.toList
theorem hu200 {k : Nat} {A : Around} (hr : Room k A) : A.units + 200 < cLine := Nat.lt_of_le_of_lt (by omega) hr.un
theorem hu64 {k : Nat} {A : Around} (hr : Room k A) : A.units + 64 < cLine := Nat.lt_of_le_of_lt (by omega) hr.un
structure DD where
  ad : PySem.W.Frag → Addr
  name : Str
  qual : Str
  params : Arguments
  body : List Stmt
  scope : Scope
def fnC (K : PySem.W.Frag) (a : Addr) : He.FnW := match K.lookup a with
  | some ⟨_, _, .func fd, _⟩ => some (fd.name, fd.qualname, fd.params, fd.body, fd.scope, fd.globals, fd.closure, fd.builtins)
  | _ => none
def DD.val (d : DD) : He.FnW := some (d.name, d.qual, d.params, .stmts d.body, d.scope, mainGlobals, [], builtinsNs)
def DD.ok (K : PySem.W.Frag) (d : DD) : Bool := PySem.W.keepIn K (.ref (d.ad K)) && (match K.lookup (d.ad K) with
  | some ⟨_, _, .func fd, _⟩ => PySem.W.codeIn K fd.code d.qual && (He.dflB K fd.defaults [] && He.kwdB K fd.kwdefaults [])
  | _ => false)
theorem DD.funD {K : PySem.W.Frag} {d : DD} (e : fnC K (d.ad K) = d.val) (c : d.ok K = true) : ∃ fd, FunD K d.name d.qual d.params d.body d.scope [] [] (d.ad K) fd := by
  obtain ⟨kp, c2⟩ := He.ba c
  unfold fnC at e
  cases q : K.lookup (d.ad K) with
  | none => rw [q] at c2; cases c2
  | some o =>
    obtain ⟨oc, od, dt, osl⟩ := o
    rw [q] at c2 e
    cases dt with
    | func fd =>
      obtain ⟨n1, n2, n3, n4, n5, n6, n7, n8, n9, n10, n11, n12, n13, n14, n15⟩ := fd
      have e2 : (some (n1, n2, n3, n4, n5, n6, n7, n15) : He.FnW) = some (d.name, d.qual, d.params, .stmts d.body, d.scope, mainGlobals, [], builtinsNs) := e
      simp only [Option.some.injEq, Prod.mk.injEq] at e2
      obtain ⟨h1, h2, h3, h4, h5, h6, h7, h8⟩ := e2
      subst h1 h2 h3 h4 h5 h6 h7 h8
      obtain ⟨k1, k2⟩ := He.ba (show (PySem.W.codeIn K n13 d.qual && (He.dflB K n8 [] && He.kwdB K n9 [])) = true from c2)
      obtain ⟨k3, k4⟩ := He.ba k2
      exact ⟨_, ⟨oc, od, n8, n9, n10, n11, n12, n13, n14, osl, rfl, q, k1, He.dflB_ok k3, He.kwdB_ok k4⟩, kp⟩
    | _ => cases c2
abbrev AlC : Type := Bool × List He.FnW
def obsC (ex : List (PySem.W.Frag → Bool)) (fn : List DD) (K : PySem.W.Frag) : AlC := ((ex.all fun f => f K) && fn.all fun d => d.ok K, fn.map fun d => fnC K (d.ad K))
def valC (fn : List DD) : AlC := (true, fn.map DD.val)
def SaysC (ex : List (PySem.W.Frag → Bool)) (fn : List DD) (K : PySem.W.Frag) : Prop := obsC ex fn K = valC fn
section
variable {ex : List (PySem.W.Frag → Bool)} {fn : List DD} {K : PySem.W.Frag}
theorem SaysC.fact (c : SaysC ex fn K) (i : Nat) {f : PySem.W.Frag → Bool} (h : ex[i]? = some f := by rfl) : f K = true := by
  have c1 := (He.ba (show ((ex.all fun f => f K) && fn.all fun d => d.ok K) = true from congrArg (fun z : AlC => z.1) c)).1
  exact List.all_eq_true.mp c1 f (List.mem_of_getElem? h)
theorem SaysC.def_ (c : SaysC ex fn K) (i : Nat) {d : DD} (h : fn[i]? = some d := by rfl) : ∃ fd, FunD K d.name d.qual d.params d.body d.scope [] [] (d.ad K) fd := by
  have c2 := (He.ba (show ((ex.all fun f => f K) && fn.all fun d => d.ok K) = true from congrArg (fun z : AlC => z.1) c)).2
  have e : fn.map (fun d => fnC K (d.ad K)) = fn.map DD.val := congrArg (fun z : AlC => z.2) c
  have e2 : (fn.map fun d => fnC K (d.ad K))[i]? = (fn.map DD.val)[i]? := by rw [e]
  rw [List.getElem?_map, List.getElem?_map, h] at e2
  exact DD.funD (Option.some.inj e2) (List.all_eq_true.mp c2 d (List.mem_of_getElem? h))
end
def baseT : List String := ["NoneType", "bool", "int", "str", "tuple", "list", "dict"]
def isB (a b : String) : Option Bool := if a ∈ baseT ∧ b ∈ baseT then some (a == b || (a == "bool" && b == "int")) else none
theorem isB_ok {K : PySem.W.Frag} {a b : String} {r : Bool} (h : isB a b = some r) : PySem.W.kitOne K (.type a) (.type b) = some r := by
  have key : ∀ a ∈ baseT, ∀ b ∈ baseT, kitB a b = some (a == b || (a == "bool" && b == "int")) := by decide +kernel
  unfold isB at h
  by_cases hc : a ∈ baseT ∧ b ∈ baseT
  · rw [if_pos hc] at h
    cases h
    exact kit_ty (key a hc.1 b hc.2)
  · rw [if_neg hc] at h; cases h
def ktOf (L : List ((Tg × Tg) × Bool)) : Tg → Tg → Option Bool
  | .inl a, .inl b => isB a b
  | a, b => (L.find? fun q => decide (q.1 = (a, b))).map (·.2)
def icOf (L : List Nat) (C : Nat) : Bool := L.contains C
def nfOf (L : List (Nat × Tg)) (C : Nat) (t : Tg) : Bool := L.any fun q => decide (q = (C, t))
def naOf (L : List (Nat × Nat)) (C n : Nat) : Bool := L.contains (C, n)
def clsB (K : PySem.W.Frag) (a : Addr) : Bool := PySem.W.plainGet K a Str.empty && (PySem.W.hasDictIn K a && (PySem.W.plainOver K a && He.eqO (PySem.W.findIn K (.ref a) "__setattr__") (some (some (.builtin "object.__setattr__")))))
theorem clsB_ok {K : PySem.W.Frag} {a : Addr} (h : clsB K a = true) : Cls K a := by
  obtain ⟨h1, h⟩ := He.ba h
  obtain ⟨h2, h⟩ := He.ba h
  obtain ⟨h3, h4⟩ := He.ba h
  exact ⟨h1, h2, h3, He.eqO_ok h4⟩
def kiB (cA : CI) (L : List ((Tg × Tg) × Bool)) (I : List Nat) (K : PySem.W.Frag) : Bool :=
  (L.all fun q => decide (PySem.W.kitOne K (tagV cA q.1.1) (tagV cA q.1.2) = some q.2)) && ((I.all fun C => clsB K (cA C) && (He.eqO (PySem.W.findIn K (.ref (cA C)) "__class__") (some (some (.builtin "object.__class__"))) && decide (PySem.W.mroIn K (cA C) (.type "object") = some true))) &&
    (He.eqO (PySem.W.specialIn K (.builtin "object.__class__") "__get__") (some (some (.builtin "getset_descriptor.__get__"))) && decide (PySem.W.takesIn K (.builtin "object.__class__") = some true)))
theorem ki_of {K : PySem.W.Frag} {cA : CI} {L : List ((Tg × Tg) × Bool)} {I : List Nat} (h : kiB cA L I K = true) : KI K cA (ktOf L) (icOf I) := by
  obtain ⟨h1, h⟩ := He.ba h
  obtain ⟨h2, h⟩ := He.ba h
  obtain ⟨h3, h4⟩ := He.ba h
  have each : ∀ C, icOf I C = true → Cls K (cA C) ∧ PySem.W.findIn K (.ref (cA C)) "__class__" = some (some (.builtin "object.__class__")) ∧ PySem.W.mroIn K (cA C) (.type "object") = some true := fun C hC => by
    obtain ⟨g1, g⟩ := He.ba (List.all_eq_true.mp h2 C (List.contains_iff_mem.mp hC))
    obtain ⟨g2, g3⟩ := He.ba g
    exact ⟨clsB_ok g1, He.eqO_ok g2, of_decide_eq_true g3⟩
  refine ⟨fun a b r e => ?_, fun C hC => (each C hC).1, fun C hC => (each C hC).2.1, fun C hC => (each C hC).2.2, He.eqO_ok h3, of_decide_eq_true h4⟩
  have tab : ∀ a b : Tg, (L.find? fun q => decide (q.1 = (a, b))).map (·.2) = some r → PySem.W.kitOne K (tagV cA a) (tagV cA b) = some r := fun a b e => by
    obtain ⟨q, e1, e2⟩ := Option.map_eq_some_iff.mp e
    have e3 : q.1 = (a, b) := of_decide_eq_true (by simpa using List.find?_some e1)
    have e4 := of_decide_eq_true (List.all_eq_true.mp h1 q (List.mem_of_find?_eq_some e1))
    rw [e3] at e4
    rw [← e2]
    exact e4
  cases a with
  | inl a =>
    cases b with
    | inl b => exact isB_ok e
    | inr b => exact tab _ _ e
  | inr a => exact tab _ _ e
def kfB (cA : CI) (L : List (Nat × Nat)) (K : PySem.W.Frag) : Bool := L.all fun q => clsB K (cA q.1) && He.eqO (PySem.W.findIn K (.ref (cA q.1)) (aN q.2)) (some none)
theorem kf_of {K : PySem.W.Frag} {cA : CI} {L : List (Nat × Nat)} (h : kfB cA L K = true) : KF K cA (naOf L) :=
  ⟨fun C n e => clsB_ok (He.ba (List.all_eq_true.mp h (C, n) (List.contains_iff_mem.mp e))).1, fun C n e => He.eqO_ok (He.ba (List.all_eq_true.mp h (C, n) (List.contains_iff_mem.mp e))).2⟩
end CC

set_option Elab.async false
set_option linter.all false
set_option maxRecDepth 100000
set_option maxHeartbeats 2000000
namespace CC
open PySem PySem.Spec PyProof.Rows L2
/-- the script's object, tracked where the written part does not have it -/
def scrH (K : PySem.W.Frag) (a : Addr) (vs : List Value) (ns : List Int) : Hp := fun b =>
  if b = a ∧ K.lookup a = none then some (.frz { cls := .type "list", data := .seq vs.toArray } (.lst (ns.map V.int))) else none
theorem scrH_at {K : PySem.W.Frag} {a b : Addr} {vs : List Value} {ns : List Int} {u : HO} (h : scrH K a vs ns b = some u) : b = a ∧ K.lookup a = none ∧ u = .frz { cls := .type "list", data := .seq vs.toArray } (.lst (ns.map V.int)) := by
  unfold scrH at h
  by_cases c : b = a ∧ K.lookup a = none
  · rw [if_pos c] at h
    cases h
    exact ⟨c.1, c.2, rfl⟩
  · rw [if_neg c] at h; cases h
end CC

set_option Elab.async false
set_option linter.all false
set_option maxRecDepth 100000
set_option maxHeartbeats 2000000
namespace CC
open PySem PySem.Spec PyProof.Rows L2
end CC

set_option Elab.async false
set_option linter.all false
set_option maxRecDepth 100000
set_option maxHeartbeats 2000000
namespace CC
open PySem PySem.Spec PyProof.Rows L2 LamX
end CC

set_option Elab.async false
set_option linter.all false
set_option maxRecDepth 100000
set_option maxHeartbeats 2000000
namespace CC
open PySem PySem.Spec PyProof.Rows L2 LamX
end CC

set_option Elab.async false
set_option linter.all false
set_option maxRecDepth 100000
set_option maxHeartbeats 2000000
namespace CC
open PySem PySem.Spec PyProof.Rows L2 LamX
/-- what a block's or a def's context has of the handled error -/
def HotB (X : Cx) : Prop := ∃ (x1 : Addr) (ob : Obj) (vs : Array Value), X.A.handled = some (.ref x1) ∧ X.s_0.heap.get? x1 = some ob ∧ X.H_0 x1 = none ∧ x1 ∉ frs X.outer ∧ x1 ∉ X.ex ∧ ob.data = .fields vs ∧ vs[2]? = some .none
theorem HotB.at {X : Cx} {pins : List (Addr × Obj)} {σ : L2.St} {H : Hp} {s : Shared} (h : HotB X) (I : Inv X pins σ H s) : ∃ x1, HotX.HotAt X.A x1 s.heap := by
  obtain ⟨x1, ob, vs, h1, h2, h3, h4, h5, h6, h7⟩ := h
  exact ⟨x1, h1, ob, vs, I.base.keep x1 ob h2 h3 h4 h5, h6, h7⟩
end CC

set_option Elab.async false
set_option linter.all false
set_option maxRecDepth 100000
set_option maxHeartbeats 2000000
namespace CC
open PySem PySem.Spec PyProof.Rows L2 LamX
/-- what own error classes have, for isinstance and attributes -/
structure ExK (K : PySem.W.Frag) (C : Addr) : Prop where
  cl : (PySem.W.clsIn K C).isSome = true
  ga : PySem.W.findIn K (.ref C) "__getattribute__" = some (some (.builtin "BaseException.__getattribute__"))
  gg : PySem.W.findIn K (.ref C) "__getattr__" = some none
  sub : PySem.W.subIn K (.ref C) (.type "BaseException") = some true
  hd : PySem.W.hasDictIn K C = true
  ca : PySem.W.findIn K (.ref C) "__class__" = some (some (.builtin "object.__class__"))
  sn : PySem.W.specialIn K (.builtin "object.__class__") "__get__" = some (some (.builtin "getset_descriptor.__get__"))
  tk : PySem.W.takesIn K (.builtin "object.__class__") = some true
  mo : PySem.W.mroIn K C (.type "object") = some true
section
variable {X : Cx} {cA : CI} {a : Addr} {d : Option Addr} {D : Addr}
/-- isinstance(e, c), isinstance(e, (c, ..)) -/
def tgOf : Val → Option Tg
  | .cls n => some (.inr n)
  | .ty t => some (.inl t)
  | _ => none
end
end CC

set_option Elab.async false
set_option linter.all false
set_option maxRecDepth 100000
set_option maxHeartbeats 2000000
namespace CC
open PySem PySem.Spec PyProof.Rows L2 LamX
abbrev MH := Addr → Nat → List (Addr × List (Str × V)) → List Val → Store → R Val
end CC

set_option Elab.async false
set_option linter.all false
set_option maxRecDepth 100000
set_option maxHeartbeats 2000000
namespace CC
open PySem PySem.Spec PyProof.Rows L2 LamX
section
variable {X : Cx} {cA : CI} {W : WX}
theorem takesN0 {X : Cx} : L2N.Takes X (fun _ _ _ _ => False) := fun _ _ x => by
  obtain ⟨_, _, _, _, _, _, _, _, _, _, _, _, _, _, _, _, z⟩ := x
  exact z.elim
end
end CC

set_option Elab.async false
set_option linter.all false
set_option maxRecDepth 100000
set_option maxHeartbeats 2000000
namespace CC
open PySem PySem.Spec PyProof.Rows L2 LamX
abbrev AlT2 : Type := AlC × Bool
def valCT (fn : List DD) : AlT2 := (valC fn, true)
/-- what is told of the tables -/
structure SaysT2 (tf : List He.Defn) (h : Heap) (K : PySem.W.Frag) : Prop where
  hd : ∀ p ∈ tf, PySem.W.codeHdIn K (He.cT K p).1 (He.cT K p).2 = true
  out : ∀ p ∈ tf, K.lookup (He.cT K p).2 = none
  empty : ∀ p ∈ tf, h.get? (He.cT K p).2 = some { cls := .none, data := .fields #[] }
theorem says2 {tf : List He.Defn} {h : Heap} {as : List Addr} (e : He.tabsB h.get? tf (He.frT h.get? as) = true) : SaysT2 tf h (He.frT h.get? as) := by
  have key : ∀ p ∈ tf, PySem.W.codeHdIn (He.frT h.get? as) (He.cT (He.frT h.get? as) p).1 (He.cT (He.frT h.get? as) p).2 = true ∧ ∃ o, h.get? (He.cT (He.frT h.get? as) p).2 = some o ∧ He.emptyTab o = true := fun p hp => by
    obtain ⟨h3, h4⟩ := He.ba (List.all_eq_true.mp e p hp)
    refine ⟨h3, ?_⟩
    cases q : h.get? (He.cT (He.frT h.get? as) p).2 with
    | none => rw [q] at h4; cases h4
    | some o => rw [q] at h4; exact ⟨o, rfl, h4⟩
  refine ⟨fun p hp => (key p hp).1, fun p hp => ?_, fun p hp => ?_⟩
  · obtain ⟨-, o, q, z⟩ := key p hp
    exact He.frT_none q z
  · obtain ⟨-, o, q, z⟩ := key p hp
    rw [q, He.emptyTab_eq z]
def scrT (K : PySem.W.Frag) (a : Addr) (vs : List Value) (ns : List Int) (ts : List Addr) : Hp := fun b => if b ∈ ts then some (.tbl #[]) else scrH K a vs ns b
theorem end_callT {P : Program} {w : World} {K : PySem.W.Frag} {cA : CI} {mg mb : Str → Option Value} {k : Nat} {f a : Addr} {m : List Val → Store → R Val} {s : Shared} {vs : List Value} {ns : List Int} {tf : List He.Defn}
    (kin : K.In s.heap) (glob : s.heap.Ns mainGlobals mg) (blt : s.heap.Ns builtinsNs mb) (bltB : ∀ y : Str, y ≠ "__name__" → mb y = bootBuiltins y) (lim : s.heap.NoLimit) (gens : s.gens = #[]) (tabs : SaysT2 tf s.heap K)
    (hbm : ∃ (bm : Addr) (ob : Obj), mg "__builtins__" = some (.ref bm) ∧ bm ≠ builtinsNs ∧ s.heap.get? bm = some ob ∧ ob.cls = .type "module" ∧ ob.dict = some builtinsNs ∧ ob.data = .plain)
    (obj : s.heap.get? a = some { cls := .type "list", data := .seq vs.toArray }) (hints : IntsAre vs ns) (few : ns.length ≤ sizeLine) (room : Room k callerA) (hT : ∀ q ∈ cA.T, ∃ p ∈ tf, q.1 = (He.cT K p).2) (hx : cA.x = [])
    (F : ∀ base : Heap, K.In base → base.Ns mainGlobals mg → (∀ p ∈ tf, TabB base mg (He.cT K p).1 (He.cT K p).2) → FnG P w K mg base cA k f m) (plain : ∃ mu, m [.scr ns] [] = .ok (.bl true) mu) :
    codeAny (model P w) callerA (.call (.ref f) ⟨[.ref a], []⟩) (fun r s' => r = .ok (.ret (.bool true)) ∧ OldK s.heap s'.heap ∧ s'.os = s.os ∧ AllBare s'.gens) s := by
  have rv := vals_ints hints
  generalize ets : tf.map (fun p => (He.cT K p).2) = ts
  have tsAt : ∀ b ∈ ts, s.heap.get? b = some { cls := .none, data := .fields #[] } := fun b hb => by
    subst ets
    obtain ⟨p, hp, rfl⟩ := List.mem_map.mp hb
    exact tabs.empty p hp
  have tsK : ∀ b ∈ ts, K.lookup b = none := fun b hb => by
    subst ets
    obtain ⟨p, hp, rfl⟩ := List.mem_map.mp hb
    exact tabs.out p hp
  have aT : a ∉ ts := fun z => by
    have q := tsAt a z
    rw [obj] at q
    have z' : Data.seq vs.toArray _ = Data.fields #[] := congrArg Obj.data (Option.some.inj q)
    cases z'
  have inT : ∀ b ∈ ts, scrT K a vs ns ts b = some (.tbl #[]) := fun b hb => if_pos hb
  have noT : ∀ b, b ∉ ts → scrT K a vs ns ts b = scrH K a vs ns b := fun b hb => if_neg hb
  have hidden : ∀ {b : Addr} {u : HO}, scrT K a vs ns ts b = some u → (b ∈ ts ∧ u = .tbl #[]) ∨ (b ∉ ts ∧ b = a ∧ K.lookup a = none ∧ u = .frz { cls := .type "list", data := .seq vs.toArray } (.lst (ns.map V.int))) := fun {b u} e => by
    by_cases hb : b ∈ ts
    · rw [inT b hb] at e
      cases e
      exact .inl ⟨hb, rfl⟩
    · rw [noT b hb] at e
      exact .inr ⟨hb, scrH_at e⟩
  have nHO : ∀ {b : Addr} {o : Obj}, s.heap.get? b = some o → (∀ v n, o.data ≠ .seq v n) → o.data ≠ .fields #[] → scrT K a vs ns ts b = none := fun {b o} e h1 h2 => by
    cases q : scrT K a vs ns ts b with
    | none => rfl
    | some u =>
      rcases hidden q with ⟨hb, _⟩ | ⟨_, eb, _⟩
      · rw [tsAt b hb] at e
        cases e
        exact (h2 rfl).elim
      · rw [eb, obj] at e
        cases e
        exact (h1 _ _ rfl).elim
  have names : ∀ {b : Addr} {mm : Str → Option Value}, s.heap.Ns b mm → (hidT s.heap (scrT K a vs ns ts)).Ns b mm := fun {b mm} ⟨o, es, ep, e, d, r⟩ => ⟨o, es, ep, hidT_get e (nHO e (fun v n z => by rw [d] at z; cases z) fun z => by rw [d] at z; cases z), d, r⟩
  have part : K.In (hidT s.heap (scrT K a vs ns ts)) := fun b o e => hidT_get (kin b o e) (by
    cases q : scrT K a vs ns ts b with
    | none => rfl
    | some u =>
      rcases hidden q with ⟨hb, _⟩ | ⟨_, eb, en, _⟩
      · rw [tsK b hb] at e; cases e
      · rw [eb, en] at e; cases e)
  have hok : HOk P w (scrT K a vs ns ts) s.heap := fun b u h => by
    rcases hidden h with ⟨hb, eu⟩ | ⟨_, eb, _, eu⟩
    · subst eu
      exact tsAt b hb
    · subst eb eu
      exact ⟨obj, by rw [List.length_map]; exact few, vs, _, rv, obj⟩
  have seq : SqL K (scrT K a vs ns ts) a (ns.map V.int) := by
    cases hk : K.lookup a with
    | none => exact .inl (.inr ⟨_, by rw [noT a aT]; exact if_pos ⟨rfl, hk⟩⟩)
    | some o =>
      have e := kin a o hk
      rw [obj] at e
      cases e
      exact .inr ⟨_, vs.toArray, _, hk, rfl, rfl, rfl, by rw [List.size_toArray, hints.length]; exact few, by simpa using rv⟩
  have md : L2.Mod K mg (hidT s.heap (scrT K a vs ns ts)) := ⟨part, names glob, ⟨mb, names blt, bltB⟩, let ⟨c, l1, l2⟩ := lim; ⟨c, names l1, l2⟩⟩
  have env : Env0 P w K mg (hidT s.heap (scrT K a vs ns ts)) callerA [] s (scrT K a vs ns ts) := ⟨rfl, md, fun b o e => of_hidT e, Nat.le_of_eq (hidT_size _ _), trivial, fun b hb => (by cases hb), hok, .of_eq gens⟩
  have gO : ∃ o es ep, s.heap.get? mainGlobals = some o ∧ o.data = .dict es ep := by
    obtain ⟨o, es, ep, e, d, _⟩ := glob
    exact ⟨o, es, ep, e, d⟩
  have TB : ∀ p ∈ tf, TabB (hidT s.heap (scrT K a vs ns ts)) mg (He.cT K p).1 (He.cT K p).2 := fun p hp => by
    have hP : s.heap.get? (He.cT K p).2 = some { cls := .none, data := .fields #[] } := tabs.empty p hp
    refine ⟨PySem.W.codeHd_of_K part (tabs.hd p hp), ?_, fun z => ?_⟩
    · obtain ⟨bm, ob, b1, b2, b3, b4, b5, b6⟩ := hbm
      have nG : bm ≠ mainGlobals := fun q => by
        obtain ⟨o, es, ep, e, d⟩ := gO
        rw [q, e] at b3
        cases b3
        rw [d] at b6
        cases b6
      have nP : bm ≠ (He.cT K p).2 := fun q => by
        rw [q, hP] at b3
        cases b3
        cases b6
      refine ⟨bm, ob, b1, b2, nG, nP, hidT_get b3 (nHO b3 (fun v n z => ?_) fun z => ?_), b4, b5, b6⟩
      · rw [b6] at z; cases z
      · rw [b6] at z; cases z
    · obtain ⟨o, es, ep, e, d⟩ := gO
      rw [z, hP] at e
      cases e
      cases d
  obtain ⟨mu, hm⟩ := plain
  have hsp : SpM K cA m [.ref a] (scrT K a vs ns ts) (fun v _ => v = .bl true) (fun _ _ _ => False) := by
    refine ⟨⟨scrH K a vs ns, fun _ => none⟩, [], [], [.scr ns], ⟨fun b u e => ?_, rfl, List.nodup_nil, fun b hb => (by cases hb), fun r b c h => (by cases h), fun b o h => (by cases h), fun q hq => ?_, fun q hq => (by rw [hx] at hq; cases hq), fun b ps e => (by obtain ⟨_, _, eu⟩ := scrH_at e; cases eu), fun b ps e => (by cases e)⟩, .cons (.scr ?_) .nil, ?_⟩
    · have hb : b ∉ ts := fun z => aT ((scrH_at e).1 ▸ z)
      rw [noT b hb]
      exact e
    · obtain ⟨p, hp, e⟩ := hT q hq
      refine TabS.nil ?_
      rw [e]
      exact inT _ (by subst ets; exact List.mem_map.mpr ⟨p, hp, rfl⟩)
    · rcases seq with (h | ⟨o, h⟩) | h
      · rw [noT a aT] at h; exact .inl (.inl h)
      · rw [noT a aT] at h; exact .inl (.inr ⟨o, h⟩)
      · exact .inr h
    · rw [hm]
      intro F' p' H' x _ _ _ d
      cases d
      rfl
  refine codeAny_mono (F _ part (names glob) TB callerA [] s (scrT K a vs ns ts) [.ref a] [.ref a] _ _ room rfl env (.cons rfl .nil) hsp) fun r s' h => ?_
  cases r with
  | error e => obtain ⟨_, _, _, _, _, _, _, _, _, _, _, _, z⟩ := h; exact z.elim
  | ok fl =>
    cases fl with
    | next => exact False.elim h
    | brk => exact False.elim h
    | cont => exact False.elim h
    | ret u =>
      obtain ⟨v, H', os, bare, un, hok', r', q⟩ := h
      obtain rfl : v = .bl true := q
      obtain rfl : u = Value.bool true := r'
      have kept : ∀ b o, b ∉ ts → s.heap.get? b = some o → s'.heap.get? b = some o := fun b o hb e => by
        cases q : scrT K a vs ns ts b with
        | none => exact un.keep b o e q (fun z => by cases z) (by simp)
        | some u =>
          rcases hidden q with ⟨hb', _⟩ | ⟨_, eb, _, eu⟩
          · exact (hb hb').elim
          · subst eu
            have z2 := un.frzs b _ _ q
            have e1 := (hok' b _ z2).1
            rw [eb] at e ⊢
            rw [eb] at e1
            rw [obj] at e
            cases e
            exact e1
      have grown : ∀ b ∈ ts, ∃ more : Array Value, s'.heap.get? b = some { cls := .none, data := .fields more } := fun b hb => by
        obtain ⟨more, z⟩ := un.tbls b #[] (inT b hb)
        exact ⟨_, hok' b _ z⟩
      refine ⟨rfl, ⟨fun b o e => ?_, fun b o e => ?_⟩, os, bare⟩
      · by_cases hb : b ∈ ts
        · obtain ⟨more, hmo⟩ := grown b hb
          have hb0 := hb
          subst ets
          obtain ⟨p, hp, rfl⟩ := List.mem_map.mp hb
          rw [tabs.empty p hp] at e
          cases e
          exact .inr (.inl ⟨((PySem.W.codeHd_of_K kin (tabs.hd p hp)).tab (tabs.empty p hp)).isCodeTable, rfl, #[], more, rfl, by rw [Array.empty_append]; exact hmo⟩)
        · exact .inl (kept b o hb e)
      · by_cases hb : b ∈ ts
        · obtain ⟨more, hmo⟩ := grown b hb
          exact ⟨_, hmo⟩
        · exact ⟨o, kept b o hb e⟩
/-- a law whose defs make lambdas -/
theorem walk_endT {l : PySem.W.OpenLaw} {n k : Nat} {q : Program} {loose : List Str} {XP : (Str → Option Value) → Heap → Prop} {YP : World → Heap → Prop} {d : DefRec} {m : List Val → Store → R Val} {tf : List He.Defn} (hn : l.most = some n) (hn2 : n ≤ sizeLine) (hdf : d.params.defaults = []) (room : Room k callerA)
    (F : ∀ (w : World) (mg : Str → Option Value) (fa : Addr) (h : Heap), YP w h → h.Ns mainGlobals mg → mg d.name = some (.ref fa) → ∃ (K : PySem.W.Frag) (cA : CI), K.In h ∧ SaysT2 tf h K ∧ (∀ q ∈ cA.T, ∃ p ∈ tf, q.1 = (He.cT K p).2) ∧ cA.x = [] ∧ ∀ base : Heap, K.In base → base.Ns mainGlobals mg → (∀ p ∈ tf, TabB base mg (He.cT K p).1 (He.cT K p).2) → FnG l.prog w K mg base cA k fa m)
    (plain : ∀ ns : List Int, ns.length ≤ n → (∀ z ∈ ns, Builtin.Int.intBits z ≤ 1048576) → ∃ mu, m [.scr ns] [] = .ok (.bl true) mu) : PySem.W.WalkO q loose XP YP l.row.toRowW d [] (fun f vs => PySem.call f vs) := by
  refine Att.attach_callB hn hdf fun w s₀ s₁ mg mb fa o pm cd doc a vs ns G Y ho hd hcd hmg hobj hints hlen hbits hg => ?_
  obtain ⟨K, cA, kin, tabs, hT, hx, hF⟩ := F w mg fa _ Y G.T.g hmg
  exact end_callT kin G.T.g G.T.b G.T.builtins G.T.nolimit hg tabs G.T.bmain hobj hints (Nat.le_trans hlen hn2) room hT hx hF (plain ns hlen hbits)
end CC

set_option Elab.async false
set_option linter.all false
set_option maxRecDepth 100000
set_option maxHeartbeats 2000000
namespace CC
open PySem PySem.Spec PyProof.Rows L2 LamX
def exkB (K : PySem.W.Frag) (C : Addr) : Bool := (PySem.W.clsIn K C).isSome && (decide (PySem.W.findIn K (.ref C) "__getattribute__" = some (some (.builtin "BaseException.__getattribute__"))) && (decide (PySem.W.findIn K (.ref C) "__getattr__" = some none) && (decide (PySem.W.subIn K (.ref C) (.type "BaseException") = some true) &&
  (PySem.W.hasDictIn K C && (decide (PySem.W.findIn K (.ref C) "__class__" = some (some (.builtin "object.__class__"))) && (decide (PySem.W.specialIn K (.builtin "object.__class__") "__get__" = some (some (.builtin "getset_descriptor.__get__"))) && (decide (PySem.W.takesIn K (.builtin "object.__class__") = some true) && decide (PySem.W.mroIn K C (.type "object") = some true))))))))
theorem exk_of {K : PySem.W.Frag} {C : Addr} (c : exkB K C = true) : ExK K C := by
  obtain ⟨h1, h⟩ := He.ba c
  obtain ⟨h2, h⟩ := He.ba h
  obtain ⟨h3, h⟩ := He.ba h
  obtain ⟨h4, h⟩ := He.ba h
  obtain ⟨h5, h⟩ := He.ba h
  obtain ⟨h6, h⟩ := He.ba h
  obtain ⟨h7, h⟩ := He.ba h
  obtain ⟨h8, h9⟩ := He.ba h
  exact ⟨h1, of_decide_eq_true h2, of_decide_eq_true h3, of_decide_eq_true h4, h5, of_decide_eq_true h6, of_decide_eq_true h7, of_decide_eq_true h8, of_decide_eq_true h9⟩
/-- all error classes whose errors are asked -/
structure ExKs (K : PySem.W.Frag) (cA : CI) (L : List Nat) : Prop where
  ok : ∀ C ∈ L, ExK K (cA C)
def exksB (cA : CI) (L : List Nat) (K : PySem.W.Frag) : Bool := L.all fun C => exkB K (cA C)
theorem exks_of {K : PySem.W.Frag} {cA : CI} {L : List Nat} (h : exksB cA L K = true) : ExKs K cA L := ⟨fun C hC => exk_of (List.all_eq_true.mp h C hC)⟩
end CC

set_option Elab.async false
set_option linter.all false
set_option maxRecDepth 100000
set_option maxHeartbeats 2000000
namespace CC
open PySem PySem.Spec PyProof.Rows L2
end CC

set_option Elab.async false
set_option linter.all false
set_option maxRecDepth 100000
set_option maxHeartbeats 2000000
namespace CC
open PySem PySem.Spec PyProof.Rows L2
def mergeD (l : List (DKey × Val)) (acc : List (DKey × Val)) : List (DKey × Val) := acc.foldl (fun l q => putD q.1 q.2 l) l
def dispM2 (r0 : Nat) : List (M Val × M Val) → List (DKey × Val) → M Val
  | [], acc => fun _ mu => match mu[r0]? with
    | some (.dct []) => if acc.length ≤ 15 then .ok (.ref r0) (mu.set r0 (.dct (mergeD [] acc))) else .bad
    | _ => .bad
  | (mk, mv) :: rest, acc => fun r mu => (mk r mu).bind fun x mu1 => match keyOf x with
    | some k => (mv r mu1).bind fun y mu2 => dispM2 r0 rest (acc ++ [(k, y)]) r mu2
    | none => .bad
def dispM (mps : List (M Val × M Val)) : M Val := fun r mu => dispM2 mu.length mps [] r (mu ++ [.dct []])
theorem KVR.fold {K : PySem.W.Frag} {cA : CI} {F : Fz} {p : List Addr} : ∀ {acc : List (DKey × Val)} {ks : List (L2.Key × V)} {l : List (DKey × Val)} {ls : List (L2.Key × V)}, KVR K cA F p acc ks → KVR K cA F p l ls → KVR K cA F p (mergeD l acc) (mergeK ls ks)
  | [], _, _, _, .nil, h => h
  | (_, _) :: _, _, _, _, .cons h1 h2 h3, h => by
    have z := KVR.fold h3 (h.put h1 h2)
    exact z
theorem KVR.len {K : PySem.W.Frag} {cA : CI} {F : Fz} {p : List Addr} : ∀ {acc : List (DKey × Val)} {ks : List (L2.Key × V)}, KVR K cA F p acc ks → ks.length = acc.length
  | _, _, .nil => rfl
  | _, _, .cons _ _ h => congrArg (· + 1) h.len
section
variable {X : Cx} {cA : CI} {W : WX} {pos : Pos}
theorem den_disp {K : PySem.W.Frag} {s : L2.St} {Q : VK} {r0 : Nat} {a : Addr} {r : Env1} : ∀ (mps : List (M Val × M Val)) (acc : List (DKey × Val)) (ks : List (L2.Key × V)) (F : Fz) (p : List Addr) (mu : Store) (H : Hp), Rel K cA F p mu H → EnvR K cA F p r s → KVR K cA F p acc ks → p[r0]? = some a → Post K cA (VR K cA) W s F p Q (dispM2 r0 mps acc r mu) →
    tPairs (mps.map fun q => (DE K cA W q.1, DE K cA W q.2)) s H (fun ps H2 => H2 a = some (.dK []) ∧ ∃ kvs : List (L2.Key × V), ks.map (fun kv => (kV kv.1, kv.2)) ++ ps = kvs.map (fun kv => (kV kv.1, kv.2)) ∧ kvs.length ≤ 15 ∧ Q (.ref a) (upd H2 a (.dK (mergeK [] kvs))))
  | [], acc, ks, F, p, mu, H, R, E, hk, hp, h => by
    obtain ⟨c, h2, h3⟩ := R.at_some hp
    unfold dispM2 at h
    rw [h2] at h
    match c, h3, h with
    | .dct [], ⟨vs, g1, g2⟩, h =>
      cases g2
      simp only at h
      by_cases hl : acc.length ≤ 15
      · rw [if_pos hl] at h
        refine ⟨g1, ks, by rw [List.append_nil], by rw [hk.len]; exact hl, ?_⟩
        exact h F p _ _ (Sub.refl F) (List.prefix_refl p) (R.write hp ⟨_, upd_same, hk.fold .nil⟩) (.ref hp)
      · rw [if_neg hl] at h; exact h.elim
    | .dct (_ :: _), _, h => exact h.elim
    | .lst _, _, h => exact h.elim
    | .obj _ _, _, h => exact h.elim
  | (mk, mv) :: rest, acc, ks, F, p, mu, H, R, E, hk, hp, h => by
    show DE K cA W mk s H _
    unfold dispM2 at h
    refine bindAt R E h fun F1 p1 mu1 x v H1 a1 b1 c1 d1 e1 f1 => ?_
    cases ek : keyOf x with
    | none => rw [ek] at f1; exact f1.elim
    | some k =>
      rw [ek] at f1
      obtain ⟨l, rfl, hl⟩ := keyOf_ok e1 ek
      refine bindAt c1 d1 f1 fun F2 p2 mu2 y w H2 a2 b2 c2 d2 e2 f2 => ?_
      have hp2 : p2[r0]? = some a := by
        obtain ⟨t, rfl⟩ := b1.trans b2
        exact (List.getElem?_append_left (List.getElem?_eq_some_iff.mp hp).1).trans hp
      have ih := den_disp rest (acc ++ [(k, y)]) (ks ++ [(l, w)]) F2 p2 mu2 H2 c2 d2 (KVR.snoc hl e2 (hk.mono (a1.trans a2) (b1.trans b2))) hp2 f2
      simpa [List.map_append, List.append_assoc] using ih
theorem dps_nil : PPs X pos [] [] (([] : List (M Val × M Val)).map fun q => (DE X.K cA W q.1, DE X.K cA W q.2)) := pps_nil
theorem dps_cons {k v : Expr} {ks : List (Option Expr)} {vs : List Expr} {mk mv : M Val} {mps : List (M Val × M Val)} (hk : PEM X cA W k mk) (hv : PEM X cA W v mv) (hr : PPs X pos ks vs (mps.map fun q => (DE X.K cA W q.1, DE X.K cA W q.2))) :
    PPs X pos (some k :: ks) (v :: vs) (((mk, mv) :: mps).map fun q => (DE X.K cA W q.1, DE X.K cA W q.2)) := pps_cons hk hv hr
theorem c_disp {keys : List (Option Expr)} {values : List Expr} {mps : List (M Val × M Val)} (h : PPs X pos keys values (mps.map fun q => (DE X.K cA W q.1, DE X.K cA W q.2))) (hall : keys.all (·.isSome) = true := by rfl) (hl : keys.length = values.length := by rfl) (h0 : keys ≠ [] := by simp)
    (h15 : keys.length ≤ 15 := by decide) : PEM X cA W (.Dict keys values pos) (dispM mps) :=
  pe_weak (pe_disp h hall hl h0 h15) fun s H Q ⟨F, p, r, mu, h1, h2, h3⟩ a ha => by
    have R1 : Rel X.K cA F (p ++ [a]) (mu ++ [.dct []]) (upd H a (.dK [])) := h1.alloc ha (fun b u hb => by rw [upd_ne (ne_of_none hb ha)]; exact hb) ⟨[], upd_same, .nil⟩
    have hp : (p ++ [a])[mu.length]? = some a := by
      rw [← h1.len, List.getElem?_append_right (Nat.le_refl _)]
      simp
    have := den_disp (cA := cA) (K := X.K) (s := s) (Q := Q) mps [] [] F (p ++ [a]) _ _ R1 (h2.mono (Sub.refl F) (List.prefix_append p [a])) .nil hp (Post.mono (Sub.refl F) (List.prefix_append p [a]) h3)
    simpa using this
end
end CC

set_option Elab.async false
set_option linter.all false
set_option maxRecDepth 100000
set_option maxHeartbeats 2000000
namespace CC
open PySem PySem.Spec PyProof.Rows L2 LamX
/-- the name of a lambda made in a def -/
def lq (p : He.Defn) : Str := (p.1 ++ ".<locals>.") ++ "<lambda>"
def tabL (K : PySem.W.Frag) (tfs : List He.Defn) : List (Addr × Str) := tfs.map fun p => ((He.cT K p).2, lq p)
def tuB (tfs : List He.Defn) (K : PySem.W.Frag) : Bool := decide (tfs.map fun p => (He.cT K p).2).Nodup
def xatsB (cA : CI) (L ns : List Nat) (K : PySem.W.Frag) : Bool := L.all fun C => ns.all fun n => decide (PySem.W.findIn K (.ref (cA C)) (aN n) = some none)
theorem xats_of {K : PySem.W.Frag} {cA : CI} {L ns : List Nat} (h : xatsB cA L ns K = true) : ∀ C ∈ L, ∀ n ∈ ns, PySem.W.findIn K (.ref (cA C)) (aN n) = some none := fun C hC n hn => of_decide_eq_true (List.all_eq_true.mp (List.all_eq_true.mp h C hC) n hn)
end CC

set_option Elab.async false
set_option linter.all false
set_option maxRecDepth 100000
set_option maxHeartbeats 2000000
namespace CC
open PySem PySem.Spec PyProof.Rows L2
end CC

set_option Elab.async false
set_option linter.all false
set_option maxRecDepth 100000
set_option maxHeartbeats 2000000
namespace CC
open PySem PySem.Spec PyProof.Rows L2
end CC

set_option Elab.async false
set_option linter.all false
set_option maxRecDepth 100000
set_option maxHeartbeats 2000000
namespace CC
open PySem PySem.Spec PyProof.Rows L2
end CC

set_option Elab.async false
set_option linter.all false
set_option maxRecDepth 100000
set_option maxHeartbeats 2000000
namespace CC
open PySem PySem.Spec PyProof.Rows L2
def kD : DKey → Option PyData
  | .int i => some (.int i)
  | .str s => some (.str (S s))
  | _ => none
def toDX : Nat → Val → Option PyData
  | _, .non => some .none
  | _, .bl b => some (.bool b)
  | _, .int i => some (.int i)
  | _, .str s => some (.str (S s))
  | n + 1, .tup xs => (mapO (toDX n) xs).map .tuple
  | n + 1, .lst xs => (mapO (toDX n) xs).map .list
  | n + 1, .dct kvs => (mapO (fun q => (kD q.1).bind fun k => (toDX n q.2).map fun v => (k, v)) kvs).map .dict
  | _, _ => none
def toDX1 (mu : Store) (v : Val) : Option PyData := match v with
  | .ref r => (match mu[r]? with
    | some (.lst xs) => toDX 31 (.lst xs)
    | some (.dct kvs) => toDX 31 (.dct kvs)
    | _ => none)
  | v => toDX 31 v
theorem toDX_depth : ∀ (n : Nat) (v : Val) (d : PyData), toDX n v = some d → d.depth ≤ n := by
  intro n
  induction n with
  | zero =>
    intro v d h
    cases v <;> simp only [toDX] at h <;> cases h <;> exact Nat.zero_le _
  | succ n ih =>
    have all : ∀ (xs : List Val) (ds : List PyData), mapO (toDX n) xs = some ds → PyData.depthAll ds ≤ n := by
      intro xs
      induction xs with
      | nil => intro ds h; cases h; exact Nat.zero_le _
      | cons x xs ih2 =>
        intro ds h
        obtain ⟨y, ys, h1, h2, rfl⟩ := mapO_cons h
        simp only [PyData.depthAll]
        exact Nat.max_le.mpr ⟨ih _ _ h1, ih2 _ h2⟩
    have kvs : ∀ (xs : List (DKey × Val)) (ds : List (PyData × PyData)), mapO (fun q : DKey × Val => (kD q.1).bind fun k => (toDX n q.2).map fun v => (k, v)) xs = some ds → PyData.depthKv ds ≤ n := by
      intro xs
      induction xs with
      | nil => intro ds h; cases h; exact Nat.zero_le _
      | cons x xs ih2 =>
        intro ds h
        obtain ⟨y, ys, h1, h2, rfl⟩ := mapO_cons h
        obtain ⟨kd, e3, e4⟩ := Option.bind_eq_some_iff.mp h1
        obtain ⟨vd, e5, rfl⟩ := Option.map_eq_some_iff.mp e4
        have k0 : kd.depth = 0 := by
          obtain ⟨k, v⟩ := x
          cases k <;> cases e3 <;> rfl
        have v0 := ih _ _ e5
        have r0 := ih2 _ h2
        simp only [PyData.depthKv]
        omega
    intro v d h
    cases v with
    | tup xs =>
      simp only [toDX] at h
      obtain ⟨ds, h1, rfl⟩ := Option.map_eq_some_iff.mp h
      have := all _ _ h1
      simp only [PyData.depth]; omega
    | lst xs =>
      simp only [toDX] at h
      obtain ⟨ds, h1, rfl⟩ := Option.map_eq_some_iff.mp h
      have := all _ _ h1
      simp only [PyData.depth]; omega
    | dct xs =>
      simp only [toDX] at h
      obtain ⟨ds, h1, rfl⟩ := Option.map_eq_some_iff.mp h
      have := kvs _ _ h1
      simp only [PyData.depth]; omega
    | _ => (simp only [toDX] at h) <;> first | (cases h; done) | (cases h; exact Nat.zero_le _)
theorem toDX1_depth {mu : Store} {v : Val} {d : PyData} (h : toDX1 mu v = some d) : d.depth ≤ 31 := by
  unfold toDX1 at h
  split at h
  · split at h
    · exact toDX_depth 31 _ _ h
    · exact toDX_depth 31 _ _ h
    · cases h
  · exact toDX_depth 31 _ _ h
/-- sys.modules stands, it is a dict -/
def SysOk (h : Heap) : Prop := ∃ o, h.get? sysModules = some o ∧ o.cls = .type "dict"
theorem not_sys {h : Heap} (hs : SysOk h) {a : Addr} {o : Obj} (ho : h.get? a = some o) (hc : o.cls ≠ .type "dict") : sysModules ≠ a := fun e => by
  obtain ⟨o', h1, h2⟩ := hs
  rw [e, ho] at h1
  cases h1
  exact hc h2
section
variable {X : Cx} {cA : CI} {F : Fz} {p : List Addr} {pins : List (Addr × Obj)} {σ : L2.St} {H : Hp} {s : Shared}
def RdX (s : Shared) (d : PyData) (u : Value) : Prop := ∃ as, PySem.Reads s.heap u d as ∧ sysModules ∉ as
def RdXs (s : Shared) (ds : List PyData) (us : List Value) : Prop := ∃ as, PySem.ReadsAll s.heap us ds as ∧ sysModules ∉ as
theorem RdXs.nil : RdXs s [] [] := ⟨[], .nil, by simp⟩
theorem RdXs.cons {d : PyData} {ds : List PyData} {u : Value} {us : List Value} (h : RdX s d u) (t : RdXs s ds us) : RdXs s (d :: ds) (u :: us) := by
  obtain ⟨as, h1, h2⟩ := h
  obtain ⟨bs, t1, t2⟩ := t
  exact ⟨as ++ bs, .cons h1 t1, fun z => (List.mem_append.mp z).elim h2 t2⟩
theorem rdx_all {n : Nat} (ih : ∀ (v : Val) (d : PyData) (x : V) (u : Value), toDX n v = some d → VR X.K cA F p v x → L2.RelV x u → RdX s d u) : ∀ {xs : List Val} {ds : List PyData} {vs : List V} {us : List Value}, mapO (toDX n) xs = some ds → VRs X.K cA F p xs vs → L2.Vals vs us → RdXs s ds us
  | [], _, _, _, e, .nil, .nil => by cases e; exact .nil
  | x :: xs, _, _, _, e, .cons h t, .cons g r => by
    obtain ⟨y, ys, e1, e2, rfl⟩ := mapO_cons e
    exact .cons (ih x y _ _ e1 h g) (rdx_all ih e2 t r)
theorem keyD {k : DKey} {l : L2.Key} {d : PyData} {u : Value} (h : keyR k l) (e : kD k = some d) (r : L2.RelV (kV l) u) : PySem.Reads s.heap u d [] := by
  cases k with
  | int i =>
    cases e
    cases (show l = .inl i from h)
    obtain ⟨t, rfl⟩ := r
    exact .int i t
  | str i =>
    cases e
    cases (show l = .inr (S i) from h)
    obtain ⟨t, rfl⟩ := r
    exact .str _ t
  | _ => cases e
theorem rdx_kvs {n : Nat} (ih : ∀ (v : Val) (d : PyData) (x : V) (u : Value), toDX n v = some d → VR X.K cA F p v x → L2.RelV x u → RdX s d u) : ∀ {kvs : List (DKey × Val)} {ds : List (PyData × PyData)} {ks : List (L2.Key × V)} {vs : List (L2.Key × Value)} {es : List DictEntry},
    mapO (fun q : DKey × Val => (kD q.1).bind fun k => (toDX n q.2).map fun v => (k, v)) kvs = some ds → KVR X.K cA F p kvs ks → L2.KV ks vs → Pairs (mixKind X.prog X.w) es vs → (∃ as, PySem.ReadsAll s.heap (es.map (·.key)) (ds.map (·.1)) as ∧ sysModules ∉ as) ∧ ∃ as, PySem.ReadsAll s.heap (es.map (·.val)) (ds.map (·.2)) as ∧ sysModules ∉ as
  | [], _, _, _, _, e, .nil, hv, hp => by
    cases e
    cases hv
    cases hp
    exact ⟨⟨[], .nil, by simp⟩, ⟨[], .nil, by simp⟩⟩
  | (k, v) :: kvs, _, _, _, _, e, .cons h1 h2 h3, hv, hp => by
    obtain ⟨y, ys, e1, e2, rfl⟩ := mapO_cons e
    obtain ⟨kd, e3, e4⟩ := Option.bind_eq_some_iff.mp e1
    obtain ⟨vd, e5, rfl⟩ := Option.map_eq_some_iff.mp e4
    cases hv with
    | cons q1 q2 =>
      cases hp with
      | cons p1 p2 p3 =>
        obtain ⟨i1, i2⟩ := rdx_kvs ih e2 h3 q2 p3
        obtain ⟨g1, g2⟩ := q1
        refine ⟨RdXs.cons ⟨[], ?_, by simp⟩ i1, RdXs.cons ?_ i2⟩
        · refine keyD h1 e3 ?_
          have := keyIs_rel p1
          rw [← g1] at this
          exact this
        · show RdX s vd (DictEntry.val _)
          rw [p2]
          exact ih v vd _ _ e5 h2 g2
theorem toDX_rd (I : Inv X pins σ H s) (R : SubH F.f H) (hs : SysOk s.heap) : ∀ (n : Nat) (v : Val) (d : PyData) (x : V) (u : Value), toDX n v = some d → VR X.K cA F p v x → L2.RelV x u → RdX s d u := by
  have leaf : ∀ {d : PyData} {u : Value}, PySem.Reads s.heap u d [] → RdX s d u := fun h => ⟨[], h, by simp⟩
  intro n
  induction n with
  | zero =>
    intro v d x u h r ru
    cases r <;> simp only [toDX] at h <;> cases h
    · cases ru; exact leaf .none
    · cases ru; exact leaf (.bool _)
    · obtain ⟨t, rfl⟩ := ru; exact leaf (.int _ t)
    · obtain ⟨t, rfl⟩ := ru; exact leaf (.str _ t)
  | succ n ih =>
    intro v d x u h r ru
    cases r with
    | non => cases h; cases ru; exact leaf .none
    | bl b => cases h; cases ru; exact leaf (.bool _)
    | int i => cases h; obtain ⟨t, rfl⟩ := ru; exact leaf (.int _ t)
    | str i => cases h; obtain ⟨t, rfl⟩ := ru; exact leaf (.str _ t)
    | tup h1 h2 =>
      simp only [toDX] at h
      obtain ⟨ds, h3, rfl⟩ := Option.map_eq_some_iff.mp h
      cases ru
      obtain ⟨its, rv, ⟨o, ho, hc, k, hd⟩, -⟩ := I.tuple (sub_t R h1)
      obtain ⟨as, q1, q2⟩ := rdx_all ih h3 h2 rv
      exact ⟨as, .tuple ho hc hd q1, q2⟩
    | lst h1 h2 =>
      simp only [toDX] at h
      obtain ⟨ds, h3, rfl⟩ := Option.map_eq_some_iff.mp h
      cases ru
      obtain ⟨its, rv, ⟨o, k, ho, hc, -, hd⟩, -⟩ := I.list (SqL.of (R _ _ h1))
      obtain ⟨as, q1, q2⟩ := rdx_all ih h3 h2 rv
      exact ⟨_ :: as, .list ho hc hd q1, fun z => (List.mem_cons.mp z).elim (not_sys hs ho (by rw [hc]; decide)) q2⟩
    | dct h1 h2 =>
      simp only [toDX] at h
      obtain ⟨ds, h3, rfl⟩ := Option.map_eq_some_iff.mp h
      cases ru
      obtain ⟨-, ne, vs0, kv, o, es, ep, ho, hx, hd, -, hp, -⟩ := dk_of I.hok (R _ _ h1)
      obtain ⟨⟨as, q1, q2⟩, bs, q3, q4⟩ := rdx_kvs ih h3 h2 kv hp
      refine ⟨_ :: as ++ bs, .dict ho hx.1 hd q1 q3, fun z => ?_⟩
      rcases List.mem_append.mp z with z | z
      · rcases List.mem_cons.mp z with z | z
        · rw [← z] at ne; simp at ne
        · exact q2 z
      · exact q4 z
    | _ => cases h
theorem toDX1_rd {mu : Store} (I : Inv X pins σ H s) (R : Rel X.K cA F p mu H) (hs : SysOk s.heap) {v : Val} {d : PyData} {x : V} {u : Value} (h : toDX1 mu v = some d) (r : VR X.K cA F p v x) (ru : L2.RelV x u) : RdX s d u := by
  cases r with
  | ref h1 =>
    obtain ⟨c, h2, h3⟩ := R.at_some h1
    simp only [toDX1, h2] at h
    cases c with
    | lst xs =>
      obtain ⟨vs, q1, q2⟩ := h3
      simp only [toDX] at h
      obtain ⟨ds, h4, rfl⟩ := Option.map_eq_some_iff.mp h
      cases ru
      obtain ⟨its, rv, ⟨o, k, ho, hc, -, hd⟩, -⟩ := I.list (SqL.of q1)
      obtain ⟨as, q3, q4⟩ := rdx_all (toDX_rd I R.sub hs 30) h4 q2 rv
      exact ⟨_ :: as, .list ho hc hd q3, fun z => (List.mem_cons.mp z).elim (not_sys hs ho (by rw [hc]; decide)) q4⟩
    | dct kvs =>
      obtain ⟨ks, q1, q2⟩ := h3
      simp only [toDX] at h
      obtain ⟨ds, h4, rfl⟩ := Option.map_eq_some_iff.mp h
      cases ru
      obtain ⟨-, ne, vs0, kv, o, es, ep, ho, hx, hd, -, hp, -⟩ := dk_of I.hok q1
      obtain ⟨⟨as, q3, q4⟩, bs, q5, q6⟩ := rdx_kvs (toDX_rd I R.sub hs 30) h4 q2 kv hp
      refine ⟨_ :: as ++ bs, .dict ho hx.1 hd q3 q5, fun z => ?_⟩
      rcases List.mem_append.mp z with z | z
      · rcases List.mem_cons.mp z with z | z
        · rw [← z] at ne; simp at ne
        · exact q4 z
      · exact q6 z
    | obj _ _ => cases h
  | tup h1 h2 => exact toDX_rd I R.sub hs 31 _ d _ u h (.tup (cA := cA) (pi := p) h1 h2) ru
  | lst h1 h2 => exact toDX_rd I R.sub hs 31 _ d _ u h (.lst (cA := cA) (pi := p) h1 h2) ru
  | dct h1 h2 => exact toDX_rd I R.sub hs 31 _ d _ u h (.dct (cA := cA) (pi := p) h1 h2) ru
  | non => exact toDX_rd (cA := cA) (p := p) I R.sub hs 31 _ d _ u h .non ru
  | bl b => exact toDX_rd (cA := cA) (p := p) I R.sub hs 31 _ d _ u h (.bl b) ru
  | int b => exact toDX_rd (cA := cA) (p := p) I R.sub hs 31 _ d _ u h (.int b) ru
  | str b => exact toDX_rd (cA := cA) (p := p) I R.sub hs 31 _ d _ u h (.str b) ru
  | _ => cases h
end
def reprX (mu : Store) : List Val → Option Val
  | [a] => (match toDX1 mu a with
    | some d => if d.showable = true ∧ d.shown.length ≤ sizeLine then some (.str (shownL d)) else none
    | none => none)
  | _ => none
/-- the fragment holds sys.modules -/
structure SysK (K : PySem.W.Frag) : Prop where
  ok : ∃ o, K.lookup sysModules = some o ∧ o.cls = .type "dict"
def sysB (K : PySem.W.Frag) : Bool := match K.lookup sysModules with
  | some o => decide (o.cls = .type "dict")
  | none => false
theorem sys_of {K : PySem.W.Frag} (h : sysB K = true) : SysK K := by
  unfold sysB at h
  split at h
  · rename_i o e
    exact ⟨o, e, of_decide_eq_true h⟩
  · cases h
section
variable {X : Cx} {cA : CI}
theorem b_reprX (sk : SysK X.K) (hg : X.A.guards = some []) (hu : X.A.units + 64 < cLine) : CallR X (.builtin "repr") (GA X.K cA reprX) := by
  intro pins s σ H xs us Q I r h
  obtain ⟨F, p, mu, as, z, R, ra, e, q⟩ := h
  unfold reprX at e
  split at e
  · obtain ⟨v, rfl, rv⟩ := vrs1 ra
    split at e
    · rename_i d e1
      by_cases hc : d.showable = true ∧ d.shown.length ≤ sizeLine
      · rw [if_pos hc] at e
        cases e
        obtain ⟨u, rfl, ru⟩ := vals1 r
        have hs : SysOk s.heap := let ⟨o, h1, h2⟩ := sk.ok; ⟨o, I.kIn _ _ h1, h2⟩
        obtain ⟨bs, r1, hsm⟩ := toDX1_rd I R hs e1 rv ru
        have dp := toDX1_depth e1
        have fin : ∀ (k : Nat) (t : Tok), EP X pins σ Q (.str d.shown t) { s with toks := k } := fun k t => ⟨.str d.shown, H, I.tok k, ⟨t, rfl⟩, by rw [shownL_S d]; exact q.now R (.str _)⟩
        cases r1 with
        | none => exact PySem.P.repr_of_none (by simpa only [PyData.shown] using fin _ _)
        | bool b => exact PySem.P.repr_of_bool (by simpa only [PyData.shown] using fin _ _)
        | int i t => exact PySem.P.repr_of_int (by simpa [PyData.showable] using hc.1) (by simpa only [PyData.shown] using fin _ _)
        | str x t => exact PySem.P.repr_of_str (by simpa only [PyData.shown] using fin _ _) (by simpa only [PyData.shown] using hc.2)
        | list h1 h2 h3 h4 =>
          exact PySem.repr_of_reads' (.list h1 h2 h3 h4) hc.1 (fun _ => hsm) hg (by omega) (fun _ _ e => e) (fun h' u tk hk => ⟨.str _, H, I.kept hk, ⟨u, rfl⟩, by rw [shownL_S]; exact q.now R (.str _)⟩) hc.2
        | tuple h1 h2 h3 h4 =>
          exact PySem.repr_of_reads' (.tuple h1 h2 h3 h4) hc.1 (fun _ => hsm) hg (by omega) (fun _ _ e => e) (fun h' u tk hk => ⟨.str _, H, I.kept hk, ⟨u, rfl⟩, by rw [shownL_S]; exact q.now R (.str _)⟩) hc.2
        | dict h1 h2 h3 h4 h5 =>
          exact PySem.repr_of_reads' (.dict h1 h2 h3 h4 h5) hc.1 (fun _ => hsm) hg (by omega) (fun _ _ e => e) (fun h' u tk hk => ⟨.str _, H, I.kept hk, ⟨u, rfl⟩, by rw [shownL_S]; exact q.now R (.str _)⟩) hc.2
      · rw [if_neg hc] at e; cases e
    · cases e
  · cases e
end
def obsCS (n : Nat) (ex : List (PySem.W.Frag → Bool)) (fn : List DD) (tf : List He.Defn) (g : Addr → Option Obj) : AlT2 := (obsC ex fn (He.frT g (He.asD g n ++ [cStatics, sysModules])), He.tabsB g tf (He.frT g (He.asD g n ++ [cStatics, sysModules])))
def hookCS (n : Nat) (ex : List (PySem.W.Frag → Bool)) (fn : List DD) (tf : List He.Defn) : PySem.W.Hook where
  α := AlT2
  obs := fun s => obsCS n ex fn tf s.heap.get?
  val := fun _ => valCT fn
  says := fun _ h => ∃ K : PySem.W.Frag, K.In h ∧ SaysC ex fn K ∧ SaysT2 tf h K
  of := fun _ _ e => ⟨_, He.frT_in, congrArg (fun z : AlT2 => z.1) e, says2 (congrArg (fun z : AlT2 => z.2) e)⟩
  keeps := fun _ _ _ ⟨K, hK, c, t⟩ k => ⟨K, PySem.W.Frag.In.keeps hK k, c, t.hd, t.out, fun p hp => k _ _ (t.empty p hp)⟩
theorem obsCS_eq {n : Nat} {ex : List (PySem.W.Frag → Bool)} {fn : List DD} {tf : List He.Defn} {g : Addr → Option Obj} {s : Shared} (h : ∀ a, g a = s.heap.get? a) : obsCS n ex fn tf g = (hookCS n ex fn tf).obs s := by
  have e : g = s.heap.get? := funext h
  rw [e]
  rfl
end CC

set_option Elab.async false
set_option linter.all false
set_option maxRecDepth 100000
set_option maxHeartbeats 2000000
namespace CC
open PySem PySem.Spec PyProof.Rows L2
def sw1 (c : Nat) : Nat := if 65 ≤ c ∧ c ≤ 90 then c + 32 else if 97 ≤ c ∧ c ≤ 122 then c - 32 else c
end CC

set_option Elab.async false
set_option linter.all false
set_option maxRecDepth 100000
set_option maxHeartbeats 2000000
namespace CC
open PySem PySem.Spec PyProof.Rows L2
end CC

set_option Elab.async false
set_option linter.all false
set_option maxRecDepth 100000
set_option maxHeartbeats 2000000
namespace CC
open PySem PySem.Spec PyProof.Rows L2
end CC

set_option Elab.async false
set_option linter.all false
set_option maxRecDepth 100000
set_option maxHeartbeats 2000000
namespace CC
open PySem PySem.Spec PyProof.Rows L2
end CC

set_option Elab.async false
set_option linter.all false
set_option maxRecDepth 100000
set_option maxHeartbeats 2000000
namespace CC
open PySem PySem.Spec PyProof.Rows L2
end CC

set_option Elab.async false
set_option linter.all false
set_option maxRecDepth 100000
set_option maxHeartbeats 2000000
namespace CC
open PySem PySem.Spec PyProof.Rows L2
end CC

set_option Elab.async false
set_option linter.all false
set_option maxRecDepth 100000
set_option maxHeartbeats 2000000
namespace CC
open PySem PySem.Spec PyProof.Rows L2
end CC

set_option Elab.async false
set_option linter.all false
set_option maxRecDepth 100000
set_option maxHeartbeats 2000000
namespace CC
open PySem PySem.Spec PyProof.Rows L2
end CC

set_option Elab.async false
set_option linter.all false
set_option maxRecDepth 100000
set_option maxHeartbeats 2000000
namespace CC
open PySem PySem.Spec PyProof.Rows L2
/-- the set of the texts l (no text twice) at a; its table can be walked -/
def SXok (P : Program) (w : World) (h : Heap) (a : Addr) (l : List Str) : Prop :=
  ∃ D : Froz.SD, h.get? a = some (Froz.sObj "set" D) ∧ Froz.TxOk P w D l ∧ l.Nodup ∧ Ris D.2.2.place.toList ∧ (w.params.followText "set-order" = true ∨ D.2.2.led = true)
theorem SXok.at {P : Program} {w : World} {h h' : Heap} {a : Addr} {l : List Str} (R : SXok P w h a l) (k : ∀ o, h.get? a = some o → h'.get? a = some o) : SXok P w h' a l := by
  obtain ⟨D, h1, r⟩ := R
  exact ⟨D, k _ h1, r⟩
end CC

set_option Elab.async false
set_option linter.all false
set_option maxRecDepth 100000
set_option maxHeartbeats 2000000
namespace CC
open PySem PySem.Spec PyProof.Rows L2
abbrev bare (w : World) : Obj := ⟨.type "set", none, .set #[] 0 (.fresh 0 0 (!w.params.followText "set-order")), #[]⟩
end CC

set_option Elab.async false
set_option linter.all false
set_option maxRecDepth 100000
set_option maxHeartbeats 2000000
namespace CC
open PySem PySem.Spec PyProof.Rows L2
end CC

set_option Elab.async false
set_option linter.all false
set_option maxRecDepth 100000
set_option maxHeartbeats 2000000
namespace CC
open PySem PySem.Spec PyProof.Rows L2
end CC

set_option Elab.async false
set_option linter.all false
set_option maxRecDepth 100000
set_option maxHeartbeats 2000000
namespace CC
open PySem PySem.Spec PyProof.Rows L2
end CC

set_option Elab.async false
set_option linter.all false
set_option maxRecDepth 100000
set_option maxHeartbeats 2000000
namespace CC
open PySem PySem.Spec PyProof.Rows L2
open PySem.StrLaws (replL replace_list)
def PEMT (X : Cx) (cA : CI) (W : WX) (e : Expr) (m : M Val) : Prop := PET X e (DE X.K cA W m)
def PSMT (X : Cx) (cA : CI) (W : WX) (st : Stmt) (m : MS) : Prop := PST X st (DS X.K cA W m)
def PSSMT (X : Cx) (cA : CI) (W : WX) (ss : List Stmt) (m : MS) : Prop := PSsT X ss (DS X.K cA W m)
section
variable {X : Cx} {cA : CI} {W : WX} {a b c e o f tg : Expr} {es : List Expr} {ma mb mc mo : M Val} {mt : M Bool} {ms : M (List Val)} {m m1 m2 : MS} {g : TM} {st : Stmt} {rest body orelse : List Stmt} {pos pos' apos p : Pos}
theorem PEMT.of (h : PEM X cA W e ma) : PEMT X cA W e ma := fun pins s σ H Q _ I q => h.run pins s σ H Q I q
theorem PSMT.of (h : PSM X cA W st m) : PSMT X cA W st m := fun pins s σ H D _ I q => h.run pins s σ H D I q
theorem PSSMT.of (h : PSSM X cA W rest m) : PSSMT X cA W rest m := fun pins s σ H D _ I q => h.run pins s σ H D I q
end
end CC

set_option Elab.async false
set_option linter.all false
set_option maxRecDepth 100000
set_option maxHeartbeats 2000000
namespace CC
open PySem PySem.Spec PyProof.Rows L2
open PySem.AutoSeq1
end CC

set_option Elab.async false
set_option linter.all false
set_option maxRecDepth 100000
set_option maxHeartbeats 2000000
namespace CC
open PySem PySem.Spec PyProof.Rows L2
open AutoSeq1 (wpAny_loadPart')
open MeetsSeq MeetsSeq2 MeetsSeq3 SeqRoads2
section
variable {prog : Program} {w : World} {A : Around} {R : Result → Shared → Prop}
/-- what a body's end leaves -/
abbrev Ends (prog : Program) (w : World) (A : Around) (R : Result → Shared → Prop) : Fin → Shared → Prop := GQ.FinOf prog w A R
end

end CC

set_option Elab.async false
set_option linter.all false
set_option maxRecDepth 100000
set_option maxHeartbeats 2000000
namespace CC
open PySem PySem.Spec PyProof.Rows L2
/-- what is known of a built-in class of errors -/
structure BaseE (B newId initId : String) (bmB : List Value) : Prop where
  base : ExcBaseFacts B newId initId bmB
  store : StoreFacts B bmB "object.__setattr__" "object"
theorem baseLE : BaseE "LookupError" "LookupError.__new__" "LookupError.__init__" [.type "LookupError", .type "Exception", .type "BaseException", .type "object"] := ⟨PySem.F.excBase_LookupError, PySem.F.store_LookupError⟩
/-- what is known of an own class over it -/
structure OexT (K : PySem.W.Frag) (C : Addr) (newId : String) (bmB : List Value) : Prop where
  ini : PySem.W.excInitIn K C bmB newId = true
  ovr : PySem.W.excOver K C bmB = true
  dct : ((PySem.W.clsIn K C).any fun cd => cd.hasDict) = true
  sa : PySem.W.findIn K (.ref C) "__setattr__" = some (some (.builtin "object.__setattr__"))
  exC : PySem.W.subIn K (.ref C) (.type "BaseException") = some true
  tyC : PySem.W.typeIn K (.ref C) = some (.type "type")
  kC : PySem.W.keepIn K (.ref C) = true
section
variable {X : Cx} {pins : List (Addr × Obj)} {σ : L2.St} {H : Hp} {s : Shared} {a C dx : Addr} {f : Str} {y : V} {u : Value} {fs : List (Str × V)} {Q : Unit → Shared → Prop} {E : Value → Shared → Prop} {A : Around}
variable {B newId initId : String} {bmB : List Value}
open Builtin Builtin.ObjectAttr
/-- self.f = y on an error that has no dict yet -/
theorem ost_newT (Bk : BaseE B newId initId bmB) (T : OexT X.K C newId bmB) (I : Inv X pins σ H s) (e : H a = some (exo a C none)) (hno : PySem.W.findIn X.K (.ref C) f = some none) (ry : RelV y u)
    (h : ∀ dx s', H dx = none → dx ≠ a → Inv X pins σ (upd (upd H dx (exd dx [(f, y)])) a (exo a C (some dx))) s' → Q () s') : wpAny (model X.prog X.w) A (setAttr (.ref a) f u) Q E s := by
  obtain ⟨t1, ho⟩ := exo_at I.hok e
  obtain ⟨cd, hcd⟩ : ∃ cd, PySem.W.clsIn X.K C = some cd := by
    have q := T.dct
    cases z : PySem.W.clsIn X.K C with
    | none => rw [z] at q; cases q
    | some cd => exact ⟨cd, rfl⟩
  have hd : cd.hasDict = true := by
    have q := T.dct
    rw [hcd] at q
    simpa using q
  obtain ⟨hp, g, d, t, os⟩ := s
  have inst : PySem.W.InstAt hp a { cls := .ref C, dict := none, data := .fields #[.ref t1, .none, .none, .none, .bool false, .none] } C none := ⟨ho, rfl, rfl, trivial⟩
  have hps : a ≠ hp.objs.size := Nat.ne_of_lt (Heap.lt_size ho)
  refine PySem.W.set_plain I.kIn inst T.sa ?_
  refine PySem.W.osa_openX (r := none) Bk.store I.kIn inst T.ovr (by unfold PySem.W.takerIn; rw [hno]; rfl) fun b => ?_
  have look : PySem.W.Looks (model X.prog X.w) hp (classData C) cd := PySem.W.looks_clsIn I.kIn hcd
  have endW : ∀ h' tk', h'.Ns1 hp.objs.size (fun n => if n = f then some u else none) → h'.get? a = some { cls := .ref C, dict := some hp.objs.size, data := .fields #[.ref t1, .none, .none, .none, .bool false, .none] } →
      (∀ b o, b ≠ a → hp.get? b = some o → h'.get? b = some o) → Q () ⟨h', g, d, tk', os⟩ := by
    intro h' tk' hn hx keep
    have fresh : H hp.objs.size = none := I.hok.fresh (Nat.le_refl _)
    have na : ∀ {b : Addr}, H b = none → b ≠ a := fun {b} n z => by
      rw [z, e] at n
      cases n
    have nd : ∀ {b : Addr} {o : Obj}, hp.get? b = some o → b ≠ hp.objs.size := fun {b o} q => Nat.ne_of_lt (Heap.lt_size q)
    have un : Un X.fs [] H (upd (upd H hp.objs.size (exd hp.objs.size [(f, y)])) a (exo a C (some hp.objs.size))) hp h' := {
      keep := fun b o q n _ _ => keep b o (na n) q
      slot := fun b o q n _ _ => ⟨o.slots, keep b o (na n) q⟩
      free := fun b o q n _ => by rw [upd_ne (na n), upd_ne (nd q)]; exact n
      there := fun b o q _ => by
        by_cases hb : b = a
        · exact ⟨_, hb ▸ hx⟩
        · exact ⟨o, keep b o hb q⟩
      tups := fun b xs q => by rw [upd_ne (at_ne e q exo_tup), upd_ne (ne_of_none q fresh)]; exact q
      frzs := fun b o v q => by rw [upd_ne (at_ne e q exo_frz), upd_ne (ne_of_none q fresh)]; exact q
      tbls := fun b ps q => ⟨#[], by rw [upd_ne (at_ne e q exo_tbl), upd_ne (ne_of_none q fresh), q]; simp⟩ }
    refine h hp.objs.size _ fresh hps.symm (I.un (t' := tk') un fun b o q => ?_)
    by_cases hb : b = a
    · subst hb
      rw [upd_same] at q
      cases q
      exact exo_ok hx
    · rw [upd_ne hb] at q
      by_cases hd : b = hp.objs.size
      · subst hd
        rw [upd_same] at q
        cases q
        exact exd_ok hn (relO_put (fs := []) ry fun _ => True.intro)
      · rw [upd_ne hd] at q
        refine (I.hok b o q).stay (fun c v hc z => keep c v (fun w => ?_) z) (fun c hc => ?_) (fun c xs hc => ?_)
        · rcases hc with hc | hc
          · exact hb (hc ▸ w)
          · exact at_ne e hc exo_own w
        · rw [upd_ne (at_ne e hc exo_own), upd_ne (ne_of_none hc fresh)]; exact hc
        · rw [upd_ne (at_ne e hc exo_tup), upd_ne (ne_of_none hc fresh)]; exact hc
  obtain ⟨nm, bs, mro, ns, qn, hdc, sn, sb, ab, col, del⟩ := cd
  dsimp only at hd
  subst hd
  show wpAny _ _ (storeInOwnDict (.ref a) (.ref C) _ f u b) _ _ _
  unfold storeInOwnDict ownDictForStores
  repeat (first | with_reducible refine PySem.HandSPX.store_in_new ?_ ?_ | with_reducible refine wpAny_loadPart_at ho ?_ | with_reducible refine look.at ?_ | wp_step)
  · exact ⟨_, #[], _, (Heap.get?_update_ne _ _ _ _ hps.symm).trans (Heap.get?_push_at rfl rfl), rfl, fun e he => absurd he (by simp), fun _ => rfl⟩
  · intro h' tk' hn same
    have there : (hp.push { cls := .type "dict", data := .dict #[] }).get? a = some { cls := .ref C, dict := none, data := .fields #[.ref t1, .none, .none, .none, .bool false, .none] } := Heap.get?_push_of_some _ ho
    refine endW h' tk' hn ((same.2 a hps).trans (Heap.get?_update_self _ there rfl)) fun b o hb q => ?_
    exact (same.2 b (Nat.ne_of_lt (Heap.lt_size q))).trans ((Heap.get?_update_ne _ _ _ _ hb).trans (Heap.get?_push_of_some _ q))
end

/-- what self.f = y needs, the first store -/
def tOsT (K : PySem.W.Frag) (newId : String) (bmB : List Value) (f : Str) (to te : TE) : TS := fun D σ H => te σ H fun y H1 => to σ H1 fun x H2 => ∃ a C : Addr, x = .ref a ∧ OexT K C newId bmB ∧ PySem.W.findIn K (.ref C) f = some none ∧
  H2 a = some (exo a C none) ∧ ∀ dx, H2 dx = none → dx ≠ a → D.nx σ (upd (upd H2 dx (exd dx [(f, y)])) a (exo a C (some dx)))
section
variable {X : Cx} {o e : Expr} {to te : TE} {f : Str} {p' pos p : Pos} {B newId initId : String} {bmB : List Value}
theorem ps_osT (Bk : BaseE B newId initId bmB) (ho : PE X o to) (he : PE X e te) (hs : swapsWith e (some (.Attribute o f p')) pos.line X.env = pure false := by rfl) : PS X (.Assign [.Attribute o f p'] e pos) (tOsT X.K newId bmB f to te) := by
  refine ⟨fun pins s σ H D I h => ?_⟩
  refine plainObj_wpAny_Assign_Attribute (thn (he.run pins s σ H _ I h) fun v s1 q1 => thn (ho.run pins s1 σ q1.choose_spec.choose _ q1.choose_spec.choose_spec.1 q1.choose_spec.choose_spec.2.2) fun u s2 q2 => ?_) hs
  obtain ⟨x, H2, I2, r2, a, C, rfl, T, hno, ea, q⟩ := q2
  obtain rfl : u = Value.ref a := r2
  exact ost_newT Bk T I2 ea hno q1.choose_spec.choose_spec.2.1 fun dx s' n ne J => ⟨σ, _, J, q dx n ne⟩
end
/-- what such an __init__ promises -/
def SpT (K : PySem.W.Frag) (newId : String) (bmB : List Value) (f : Str) : Sp := fun vs H Q _ => ∃ (a C : Addr) (y : V), vs = [.ref a, y] ∧ OexT K C newId bmB ∧ PySem.W.findIn K (.ref C) f = some none ∧ H a = some (exo a C none) ∧ ∀ dx, H dx = none → dx ≠ a → Q .non (upd (upd H dx (exd dx [(f, y)])) a (exo a C (some dx)))
theorem excInitT {B newId initId : String} {bmB : List Value} (Bk : BaseE B newId initId bmB) {P : Program} {w : World} {K : PySem.W.Frag} {mg : Str → Option Value} {base : Heap} {x qual n0 n1 f : Str} {params : Arguments} {scope : Scope} {g : Addr} {fd : FuncData} {p1 p2 p3 p4 : Pos}
    (F : FunD K x qual params [.Assign [.Attribute (.Name n0 p1) f p2] (.Name n1 p3) p4] scope [] [] g fd) (S : FnScope [n0, n1] [n0, n1] scope) (h0 : (n0 == ("__debug__" : Str)) = false := by decide) (h1 : (n1 == ("__debug__" : Str)) = false := by decide) (c0 : (n0 == ("__classdict__" : Str)) = false := by decide) (c1 : (n1 == ("__classdict__" : Str)) = false := by decide)
    (v0 : scope.names.lookup n0 = some .local := by rfl) (v1 : scope.names.lookup n1 = some .local := by rfl) :
    FnOk P w K mg base (L2N.CX P w) 1 g fd [n0, n1] (SpT K newId bmB f) :=
  F.ok S (fun vs H Q E ⟨a, C, y, e, _⟩ => by rw [e]; rfl) fun cdv A outer s H vs Q E hr ⟨a, C, y, e, T, no, ha, q⟩ => by
    subst e
    exact ⟨_, pss_one (ps_osT Bk (pe_var (i := 0) rfl (.inl v0) h0 c0) (pe_var (i := 1) rfl (.inl v1) h1 c1)), y, rfl, .ref a, rfl, a, C, rfl, T, no, ha, fun dx z1 z2 => q dx z1 z2⟩
/-- what is known of such a class -/
structure ExT (K : PySem.W.Frag) (mg : Str → Option Value) (C fI : Addr) (x f : Str) (newId : String) (bmB : List Value) : Prop where
  ox : OexT K C newId bmB
  ini : PySem.W.findIn K (.ref C) "__init__" = some (some (.ref fI))
  tyI : PySem.W.typeIn K (.ref fI) = some (.type "function")
  att : PySem.W.findIn K (.ref C) f = some none
  glo : mg x = some (.ref C)
def oexTB (K : PySem.W.Frag) (C : Addr) (newId : String) (bmB : List Value) : Bool := PySem.W.excInitIn K C bmB newId && (PySem.W.excOver K C bmB && (((PySem.W.clsIn K C).any fun cd => cd.hasDict) && (decide (PySem.W.findIn K (.ref C) "__setattr__" = some (some (.builtin "object.__setattr__"))) && (decide (PySem.W.subIn K (.ref C) (.type "BaseException") = some true) && (decide (PySem.W.typeIn K (.ref C) = some (.type "type")) && PySem.W.keepIn K (.ref C))))))
theorem oexTB_ok {K : PySem.W.Frag} {C : Addr} {newId : String} {bmB : List Value} (h : oexTB K C newId bmB = true) : OexT K C newId bmB := by
  obtain ⟨h0, h⟩ := He.ba h
  obtain ⟨h1, h⟩ := He.ba h
  obtain ⟨h2, h⟩ := He.ba h
  obtain ⟨h3, h⟩ := He.ba h
  obtain ⟨h4, h⟩ := He.ba h
  obtain ⟨h5, h6⟩ := He.ba h
  exact ⟨h0, h1, h2, of_decide_eq_true h3, of_decide_eq_true h4, of_decide_eq_true h5, h6⟩
def excTB (K : PySem.W.Frag) (x : Str) (n : Nat) (newId : String) (bmB : List Value) : Bool := oexTB K (He.ga K x) newId bmB && (decide (PySem.W.findIn K (.ref (He.ga K x)) "__init__" = some (some (.ref (He.fAd K (x, some "__init__"))))) && (decide (PySem.W.typeIn K (.ref (He.fAd K (x, some "__init__"))) = some (.type "function")) && (decide (PySem.W.findIn K (.ref (He.ga K x)) (aN n) = some none) && (He.Fa.glo x).ok K)))
theorem excT_of {K : PySem.W.Frag} {h : Heap} {mg : Str → Option Value} {x : Str} {n : Nat} {newId : String} {bmB : List Value} (X : K.In h) (G : h.Ns mainGlobals mg) (c : excTB K x n newId bmB = true) : ExT K mg (He.ga K x) (He.fAd K (x, some "__init__")) x (aN n) newId bmB := by
  obtain ⟨h1, h⟩ := He.ba c
  obtain ⟨h2, h⟩ := He.ba h
  obtain ⟨h3, h⟩ := He.ba h
  obtain ⟨h4, h5⟩ := He.ba h
  exact ⟨oexTB_ok h1, of_decide_eq_true h2, of_decide_eq_true h3, of_decide_eq_true h4, He.glo_ok X G h5⟩
abbrev leN : String := "LookupError.__new__"
abbrev leM : List Value := [.type "LookupError", .type "Exception", .type "BaseException", .type "object"]
end CC

set_option Elab.async false
set_option linter.all false
set_option maxRecDepth 100000
set_option maxHeartbeats 2000000
namespace CC
open PySem PySem.Spec PyProof.Rows L2
end CC

set_option Elab.async false
set_option linter.all false
set_option maxRecDepth 100000
set_option maxHeartbeats 2000000
namespace CC
open PySem PySem.Spec PyProof.Rows L2 LamX
end CC

set_option Elab.async false
set_option linter.all false
set_option maxRecDepth 100000
set_option maxHeartbeats 2000000
namespace CC
open PySem PySem.Spec PyProof.Rows L2
end CC

set_option Elab.async false
set_option linter.all false
set_option maxRecDepth 100000
set_option maxHeartbeats 2000000
namespace CC
open PySem PySem.Spec PyProof.Rows L2
end CC

set_option Elab.async false
set_option linter.all false
set_option maxRecDepth 100000
set_option maxHeartbeats 2000000
namespace CC
open PySem PySem.Spec PyProof.Rows L2
end CC

set_option Elab.async false
set_option linter.all false
set_option maxRecDepth 100000
set_option maxHeartbeats 2000000
namespace CC
open PySem PySem.Spec PyProof.Rows L2
end CC

set_option Elab.async false
set_option linter.all false
set_option maxRecDepth 100000
set_option maxHeartbeats 2000000
namespace CC
open PySem PySem.Spec PyProof.Rows L2
end CC

set_option Elab.async false
set_option linter.all false
set_option maxRecDepth 100000
set_option maxHeartbeats 1000000
namespace CC
open PySem PySem.Spec PyProof.Rows L2
end CC

set_option Elab.async false
set_option linter.all false
set_option maxRecDepth 100000
set_option maxHeartbeats 2000000
namespace CC
open PySem PySem.Spec PyProof.Rows L2
/-- how deep lists and tuples lie within one another -/
def dep (K : PySem.W.Frag) (f : Hp) : Nat → V → Prop
  | 0, x => ∀ a, x = .ref a → (∀ vs, ¬ SqT K f a vs) ∧ ∀ vs, ¬ SqL K f a vs
  | n + 1, x => ∀ a, x = .ref a → (∀ vs, SqT K f a vs → ∀ y ∈ vs, dep K f n y) ∧ ∀ vs, SqL K f a vs → ∀ y ∈ vs, dep K f n y
theorem dep_up {K : PySem.W.Frag} {f : Hp} : ∀ {n : Nat} {x : V}, dep K f n x → dep K f (n + 1) x := by
  intro n
  induction n with
  | zero =>
    intro x h a e
    obtain ⟨h1, h2⟩ := h a e
    exact ⟨fun vs h => absurd h (h1 vs), fun vs h => absurd h (h2 vs)⟩
  | succ n ih =>
    intro x h a e
    obtain ⟨h1, h2⟩ := h a e
    exact ⟨fun vs h y hy => ih (h1 vs h y hy), fun vs h y hy => ih (h2 vs h y hy)⟩
theorem dep_le {K : PySem.W.Frag} {f : Hp} {n m : Nat} {x : V} (h : dep K f n x) (l : n ≤ m) : dep K f m x := by
  induction l with
  | refl => exact h
  | step _ ih => exact dep_up ih
theorem room_under {A : Around} {k : Nat} {c : Code} (r : Room (k + 1) A) (h1 : (A.under c).handled = A.handled) (h2 : (A.under c).depth ≤ A.depth + 3) (h3 : (A.under c).units ≤ A.units + 16) : Room k (A.under c) :=
  ⟨by rw [h1]; exact r.hd, by have := r.dp; omega, by have := r.un; omega⟩
section
variable (X : Cx) (cA : CI) (rk : Nat) (F0 : Fz) (p : List Addr) (mu : Store)
/-- u is shown as t, whatever is handed over beside -/
def ItemR (d : Nat) (u : Value) (t : Str) : Prop :=
  ∀ (base : Nat), base + t.length ≤ sizeLine → ∀ (A : Around) (g : List Code) (E : Value → Shared → Prop) (pins : List (Addr × Obj)) (σ : L2.St) (F : Fz) (H : Hp) (s : Shared) (Q : Str → Shared → Prop),
    Inv X pins σ H s → Rel X.K cA F p mu H → Sub F0 F → A.frames = X.A.frames → Room (rk + d) A → A.guards = some g → (∀ b, dep X.K F0.f d (.ref b) → Clear g b) → (∀ e s', X.xe e s' → E e s') →
    (∀ F' H' s', Sub F F' → Inv X pins σ H' s' → Rel X.K cA F' p mu H' → Q t s') → wpAny (model X.prog X.w) A (pyReprUnder base u) Q E s
end
section
variable {X : Cx} {cA : CI} {rk : Nat} {F0 : Fz} {p : List Addr} {mu : Store} {d : Nat} {u : Value} {t : Str}
theorem ItemR.is (h : ReprIs X.prog X.w u t) : ItemR X cA rk F0 p mu d u t := fun base hb A g E pins σ F H s Q I R _ _ _ _ _ _ hQ => h base hb A E s Q fun tk => hQ F H _ (Sub.refl F) (I.tok tk) R
theorem ItemR.up {e : Nat} (h : ItemR X cA rk F0 p mu d u t) (l : d ≤ e) : ItemR X cA rk F0 p mu e u t := fun base hb A g E pins σ F H s Q I R S hf hr hg hc hE hQ =>
  h base hb A g E pins σ F H s Q I R S hf (hr.mono (by omega)) hg (fun b hd => hc b (dep_le hd l)) hE hQ
theorem ifBoundBy_K {M : Model} {A : Around} {K : PySem.W.Frag} {s : Shared} {E : Value → Shared → Prop} {x C f : Addr} {ox : Obj} {od : Option Obj} {name : Str} {last : Value → List Value → Sem Value} {Q : Option Value → Shared → Prop} (X : K.In s.heap) (I : PySem.W.InstAt s.heap x ox C od) (hs : PySem.W.findIn K (.ref C) name = some (some (.ref f))) (hf : PySem.W.isFn K (.ref f) = true)
    (h : wpAny M A (last (.ref f) [.ref x]) (fun v => Q (some v)) E s) : wpAny M A (callSpecialIfBoundBy? last (.ref x) name) Q E s := by
  simp only [callSpecialIfBoundBy?, bindSpecialIfBound?]
  refine wpAny_holding (wpAny_bind (wpAny_bind (wpAny_bind (I.type.here ((PySem.W.looks_findIn X hs).here ?_)))))
  refine wpAny_bind (wpAny_askSetting (wpAny_ite ?_))
  have fin : wpAny M A (last (.ref f) [.ref x] >>= fun v => pure (some v)) Q E s := wpAny_bind (wpAny_mono h (fun v s' h' => wpAny_pure h') fun _ _ h' => h')
  split
  · exact wpAny_bind ((PySem.W.bind_fn X _ (beq_iff_eq.mp hf)).here (wpAny_pure (by exact fin)))
  · exact wpAny_tryCatch (wpAny_bind ((PySem.W.bind_fn X _ (beq_iff_eq.mp hf)).here (wpAny_pure (by exact fin))))
/-- an object with its own __repr__ -/
theorem ItemR.own {C k : Nat} {f l : Addr} {m : List Val → Store → R Val} {v : Val} {s0 : List Nat} (O : OwnC X.K cA C "__repr__" f) (Fm : FnM X.prog X.w X.K X.mg X.base cA k f m) (hk : k + 1 ≤ rk) (rv : VR X.K cA F0 p v (.ref l)) (e : ownV C m mu [v] = some (.str s0)) : ItemR X cA rk F0 p mu d (.ref l) (S s0) := by
  intro base hb A g E pins σ F H s Q I R Su hf hr hg hc hE hQ
  obtain ⟨l', dx, gs, t', e1, g1, e2, g2⟩ := ownV_at R (.cons (rv.mono Su (List.prefix_refl p)) .nil) e
  cases e1
  cases e2
  obtain ⟨od, J⟩ := inst_of I g1
  have hu : A.units < cLine := by have := hr.un; omega
  have e0 : Env0 X.prog X.w X.K X.mg X.base A X.stack s H := by
    have z := I.env0
    exact ⟨by rw [hf]; exact z.frames, z.mod, z.bs, z.bsz, z.funs, z.frf, z.hok, z.bare⟩
  have hsp := g2 (fun w H' => ∃ F', Sub F F' ∧ Rel X.K cA F' p mu H' ∧ w = .str (S s0)) fun F' H' v' sb R' r' => by
    cases r'
    exact ⟨F', sb, R', rfl⟩
  refine wpAny_pyReprUnder_ref (by omega) ?_
  unfold pyReprObjUnder pyReprObjBy
  refine wpAny_bind (wpAny_cRoomFor hu ?_)
  refine wpAny_bind (wpAny_bind (J.type.here ((PySem.W.looks_findIn I.kIn O.at_).here ?_)))
  show wpAny _ _ (if (some (Value.ref f)).isNone = true then _ else _) _ _ _
  rw [if_neg (by simp)]
  refine wpAny_bind (ifBoundBy_K I.kIn J O.at_ O.fn ?_)
  show wpAny _ _ (call (.ref f) [.ref l]) _ _ _
  refine wpAny_mono (wpAny_call (SlX.run_at (us := [.ref l]) (ws := [.ref l]) (A := A) Fm (hr.mono (by omega)) e0 (pass_no fun _ _ _ z => z) I (.cons rfl .nil) hsp)) (fun w s' z => ?_) fun e s' x => hE e s' x
  obtain ⟨z', H', I', rz, F', sb, R', ez⟩ := z
  subst ez
  obtain ⟨tk, rfl⟩ := rz
  refine wpAny_bind (wpAny_isInstance (typeIs_str _ _ _) isSubtype_str_str ?_)
  rw [if_pos rfl]
  exact wpAny_pure ⟨_, _, rfl, hQ F' H' s' sb I' R'⟩
end
end CC

set_option Elab.async false
set_option linter.all false
set_option maxRecDepth 100000
set_option maxHeartbeats 2000000
namespace CC
open PySem PySem.Spec PyProof.Rows L2
section
variable {X : Cx} {cA : CI} {rk : Nat} {F0 : Fz} {p : List Addr} {mu : Store} {d : Nat}
theorem under_loop (A : Around) (args : Args) : (A.under (.builtin "list.__repr__.loop" args)).handled = A.handled ∧ (A.under (.builtin "list.__repr__.loop" args)).depth ≤ A.depth + 3 ∧ (A.under (.builtin "list.__repr__.loop" args)).units ≤ A.units + 16 ∧ (A.under (.builtin "list.__repr__.loop" args)).frames = A.frames := by
  refine ⟨rfl, ?_, ?_, ?_⟩
  · show A.depth + (Code.builtin "list.__repr__.loop" args).weight ≤ A.depth + 3
    have : (Code.builtin "list.__repr__.loop" args).weight ≤ 3 := by
      first
        | (have h : (Code.builtin "list.__repr__.loop" args).weight = 1 := rfl; omega)
        | simp [Code.weight, Code.isGuard, Code.isCaller, Code.frames, Code.isFrame, guardIds]
    omega
  · rw [units_under_list_loop]; omega
  · simp [Around.under, Code.envs, Code.isFrame, pushEnvs]
/-- the loop of list.__repr__ -/
theorem loopO {a P : Addr} {vs : List V} {ts : List Str} {base : Nat} {A : Around} {g : List Code} {pins : List (Addr × Obj)} {σ : L2.St} {R : Result → Shared → Prop}
    (h1 : SqL X.K F0.f a vs) (hnd : ¬ dep X.K F0.f d (.ref a)) (hlen : ts.length = vs.length) (hT : ∀ (i : Nat) (v : V), vs[i]? = some v → ∃ t, ts[i]? = some t ∧ ∀ u, RelV v u → ItemR X cA rk F0 p mu d u t)
    (hf : A.frames = X.A.frames) (hr : Room (rk + d + 1) A) (hg : A.guards = some g) (hc : ∀ b, dep X.K F0.f (d + 1) (.ref b) → Clear g b) (hE : ∀ e s', X.xe e s' → R (.error e) s') (hsz : base + (listText ts).length ≤ sizeLine) :
    ∀ (k i : Nat) (F : Fz) (H : Hp) (s : Shared) (acc : Array Value) (c : Nat) (done : List (Str × Tok)), vs.length - i = k → i ≤ vs.length → Inv X ((P, { cls := .type "list", dict := none, data := .seq acc c, slots := #[] }) :: pins) σ H s → FpOk X pins H P → Rel X.K cA F p mu H → Sub F0 F →
    acc.toList = strValues done → done.map (·.1) = ts.take i →
    (∀ F' H' s' tk, Sub F F' → Inv X pins σ H' s' → Rel X.K cA F' p mu H' → R (.ok (.ret (.str (listText ts) tk))) s') →
    codeAny (model X.prog X.w) A (.builtin "list.__repr__.loop" ⟨[.ref a, rawInt i, .ref P, rawInt ((base + piled (ts.take i) : Nat) : Int)], []⟩) R s := by
  have hX : (listText ts).length = (textFrom 0 "[" ts).length + 1 := by
    show (textFrom 0 "[" ts ++ "]").length = _
    rw [strLen_append]; rfl
  have hL := textFrom_len ts 0 "["
  have hsz1 : vs.length ≤ sizeLine := by
    have h1 := hL.1
    rw [if_neg (Nat.lt_irrefl 0)] at h1
    omega
  have hsz2 : ∀ t ∈ ts, t.length ≤ sizeLine := fun t ht => by
    have h2 := hL.2.1 t ht
    omega
  have hsz3 : (listText ts).length ≤ sizeLine := by omega
  have hp3 := piled_le_listText ts
  intro k
  induction k with
  | zero =>
    intro i F H s acc c done hk hi I fp R0 Su hacc hdone hR
    have hin : i = vs.length := by omega
    obtain ⟨hP, hPn, -⟩ := I.pin (P, { cls := .type "list", dict := none, data := .seq acc c, slots := #[] }) (List.mem_append_right _ List.mem_cons_self)
    have I2 : Inv X pins σ H s := I.pins_of fun q hq => I.pin q (List.mem_append_right _ (List.mem_cons_of_mem _ hq))
    obtain ⟨its, rv, ⟨o, n, ho, ho2, -, hd⟩, -⟩ := I2.list (sub_l (SubH.trans Su.1 R0.sub) h1)
    have il := rv.length
    refine codeAny_builtin PySem.F.entry_list_repr_loop ?_
    show wpAny _ _ (Builtin.«list.__repr__.loop» ⟨[.ref a, .int i 0, .ref P, .int ((base + piled (ts.take i) : Nat) : Int) 0], []⟩) _ _ s
    rw [repr_loop_tree]
    refine wpAny_bind (wpAny_listItems ho hd ?_)
    have hnone : its.toArray[(i : Int).toNat]? = none := by simp [hin]; omega
    simp only [hnone]
    unfold reprEnd
    refine wpAny_bind (wpAny_listItems hP rfl ?_)
    rw [hacc, repr_fold]
    refine wpAny_bind (wpAny_pure ?_)
    have hall : done.map (·.1) = ts := by rw [hdone, hin, ← hlen, List.take_length]
    rw [hall]
    refine wpAny_bind (wpAny_mkStr (wpAny_pure ?_) hsz3)
    exact hR F H _ _ (Sub.refl F) (I2.tok _) R0
  | succ k ih =>
    intro i F H s acc c done hk hi I fp R0 Su hacc hdone hR
    have hlt : i < vs.length := by omega
    obtain ⟨t, ht, hrep⟩ := hT i vs[i] (by simp [hlt])
    have hp1 := piled_take_succ ht
    have hp2 := piled_take_le ts (i + 1)
    obtain ⟨its, rv, ⟨o, n, ho, ho2, -, hd⟩, -⟩ := I.list (sub_l (SubH.trans Su.1 R0.sub) h1)
    have il := rv.length
    have hi2 : i < its.length := by omega
    obtain ⟨u1, u2, u3, u4⟩ := under_loop A ⟨[.ref a, .int i 0, .ref P, .int ((base + piled (ts.take i) : Nat) : Int) 0], []⟩
    refine codeAny_builtin PySem.F.entry_list_repr_loop ?_
    show wpAny _ _ (Builtin.«list.__repr__.loop» ⟨[.ref a, .int i 0, .ref P, .int ((base + piled (ts.take i) : Nat) : Int) 0], []⟩) _ _ s
    rw [repr_loop_tree]
    refine wpAny_bind (wpAny_listItems ho hd ?_)
    have hsome : its.toArray[(i : Int).toNat]? = some its[i] := by simp [hi2]
    simp only [hsome]
    rw [Int.toNat_natCast]
    have rel : RelV vs[i] its[i] := by
      obtain ⟨u, g1, g2⟩ := rv.get (i := i) (List.getElem?_eq_getElem hlt)
      rw [List.getElem?_eq_getElem hi2] at g1
      cases g1
      exact g2
    refine wpAny_bind (wpAny_holding (hrep its[i] rel (base + piled (ts.take i) + 1) (by omega) _ _ _ _ _ F H _ _ I R0 Su (u4.trans hf) (room_under hr u1 u2 u3) (guards_under_guard (isGuard_list_loop _) hg) (fun b hb => (hc b (dep_up hb)).cons (a := a) fun e => hnd (e ▸ hb)) hE fun F' H' s' sb I' R' => ?_))
    refine wpAny_bind (wpAny_mkStr ?_ (hsz2 t (List.mem_of_getElem? ht)))
    refine wpAny_bind ?_
    show wpAny _ _ (updateSeq P _) _ _ _
    have hasz : acc.size ≤ sizeLine := by
      have e1 : acc.toList.length = acc.size := by simp
      have e2 : (strValues done).length = done.length := by simp [strValues]
      have e3 : done.length = (ts.take i).length := by rw [← hdone, List.length_map]
      have e4 : (ts.take i).length ≤ i := by rw [List.length_take]; omega
      rw [hacc] at e1; omega
    obtain ⟨hP, hPn, hPL, hPf, -⟩ := I'.pin (P, { cls := .type "list", dict := none, data := .seq acc c, slots := #[] }) (List.mem_append_right _ List.mem_cons_self)
    refine wpAny_updateSeq hP rfl (wpAny_pure ⟨PySem.F.quiet_list_repr_loop _, ?_⟩) hasz
    have e1 : ((i : Int) + 1) = ((i + 1 : Nat) : Int) := by omega
    have e2 : base + piled (ts.take i) + (t.length + 2) = base + piled (ts.take (i + 1)) := by omega
    rw [e1, e2]
    have I2 : Inv X pins σ H' s' := I'.pins_of fun q hq => I'.pin q (List.mem_append_right _ (List.mem_cons_of_mem _ hq))
    have fp' : FpOk X pins H' P := ⟨hPn, fp.2⟩
    have I3 := I2.turned (it := P) (h' := s'.heap.update P (Obj.mapSeq fun x => x.push (.str t s'.toks))) (t' := s'.toks + 1) (fun b o hb e => (Heap.get?_update_other _ _ (fun h : P = b => hb h.symm)).trans e) hPn hPL fp.2.2.2.1 fp.2.2.2.2.1 fp.2.2.2.2.2
    have I4 := I3.pins_of (pins' := (P, { cls := .type "list", dict := none, data := .seq (acc.push (.str t s'.toks)) _, slots := #[] }) :: pins) (fun q hq => by
      rcases List.mem_cons.mp hq with rfl | hq
      · exact ⟨Heap.get?_update_self _ hP rfl, hPn, hPL, hPf, fun v z => by cases z⟩
      · exact I3.pin q (List.mem_append_right _ hq))
    exact ih (i + 1) F' H' _ (acc.push (.str t s'.toks)) _ (done ++ [(t, s'.toks)]) (by omega) hlt I4 fp' R' (Su.trans sb) (by simp [hacc, strValues]) (by simp [List.take_add_one, ht, hdone]) fun F'' H'' s'' tk sb' I'' R'' => hR F'' H'' s'' tk (sb.trans sb') I'' R''
end
end CC

set_option Elab.async false
set_option linter.all false
set_option maxRecDepth 100000
set_option maxHeartbeats 2000000
namespace CC
open PySem PySem.Spec PyProof.Rows L2
section
variable {X : Cx} {cA : CI} {rk : Nat} {F0 : Fz} {p : List Addr} {mu : Store} {d : Nat}
/-- what the parts are shown as -/
def PartsR (X : Cx) (cA : CI) (rk : Nat) (F0 : Fz) (p : List Addr) (mu : Store) (d : Nat) (vs : List V) (ts : List Str) : Prop :=
  ts.length = vs.length ∧ ∀ (i : Nat) (v : V), vs[i]? = some v → ∃ t, ts[i]? = some t ∧ ∀ u, RelV v u → ItemR X cA rk F0 p mu d u t
theorem list_atO {a : Addr} {vs : List V} {ts : List Str} {base : Nat} {A : Around} {g : List Code} {pins : List (Addr × Obj)} {σ : L2.St} {R : Result → Shared → Prop} {F : Fz} {H : Hp} {s : Shared}
    (h1 : SqL X.K F0.f a vs) (hnd : ¬ dep X.K F0.f d (.ref a)) (hda : dep X.K F0.f (d + 1) (.ref a)) (hT : PartsR X cA rk F0 p mu d vs ts) (hne : vs ≠ [])
    (hf : A.frames = X.A.frames) (hr : Room (rk + d + 1) A) (hg : A.guards = some g) (hc : ∀ b, dep X.K F0.f (d + 1) (.ref b) → Clear g b) (hE : ∀ e s', X.xe e s' → R (.error e) s') (hsz : base + (listText ts).length ≤ sizeLine)
    (I : Inv X pins σ H s) (R0 : Rel X.K cA F p mu H) (Su : Sub F0 F) (hR : ∀ F' H' s' tk, Sub F F' → Inv X pins σ H' s' → Rel X.K cA F' p mu H' → R (.ok (.ret (.str (listText ts) tk))) s') :
    wpAny (model X.prog X.w) A.in1 (Builtin.listReprAt base ⟨[.ref a], []⟩) (fun fin s' => match fin with | .done f => R (.ok f) s' | .again c' => c'.quiet = true ∧ codeAny (model X.prog X.w) A c' R s') (fun e s' => R (.error e) s') s := by
  obtain ⟨its, rv, ⟨o, n, ho, ho2, -, hd⟩, -⟩ := I.list (sub_l (SubH.trans Su.1 R0.sub) h1)
  obtain ⟨x, l, rfl⟩ : ∃ x l, its = x :: l := by
    cases its with
    | nil => exact absurd (List.length_eq_zero_iff.mp (by rw [rv.length]; rfl)) hne
    | cons x l => exact ⟨x, l, rfl⟩
  have hca : Clear g a := hc a hda
  refine wpAny_list_repr_head (A := A.in1) hg (fun v rest kw hm => listSameRef_of_ne (hca _ _ _ _ hm)) ho hd ?_
  refine wpAny_bind (m := newList []) (wpAny_newObj_type ?_)
  refine wpAny_pure ⟨PySem.F.quiet_list_repr_loop _, ?_⟩
  have hn : H s.heap.objs.size = none := I.hok.fresh (Nat.le_refl _)
  have fp := I.fpOk (H' := H) (b := s.heap.objs.size) (Nat.le_refl _) hn
  have I1 := I.kept (t' := s.toks) (h' := s.heap.push { cls := .type "list", dict := none, data := .seq #[] 0 }) fun b u e => Heap.get?_push_of_some _ e
  have I2 := I1.pins_of (pins' := (s.heap.objs.size, { cls := .type "list", dict := none, data := .seq #[] 0, slots := #[] }) :: pins) fun q hq => by
    rcases List.mem_cons.mp hq with rfl | hq
    · exact ⟨Heap.get?_push_size _ rfl, hn, fp.2.1, fp.2.2.1, fun v z => by cases z⟩
    · exact I1.pin q (List.mem_append_right _ hq)
  exact loopO h1 hnd hT.1 hT.2 hf hr hg hc hE hsz _ 0 F H _ #[] 0 [] rfl (Nat.zero_le _) I2 fp R0 Su rfl (by simp) hR
theorem ItemR.lst {a : Addr} {vs : List V} {ts : List Str} (h1 : SqL X.K F0.f a vs) (hnd : ¬ dep X.K F0.f d (.ref a)) (hda : dep X.K F0.f (d + 1) (.ref a)) (hT : PartsR X cA rk F0 p mu d vs ts) : ItemR X cA rk F0 p mu (d + 1) (.ref a) (listText ts) := by
  intro base hb A g E pins σ F H s Q I R Su hf hr hg hc hE hQ
  obtain ⟨its, rv, ⟨o, n, ho, ho2, hdi, hd⟩, -⟩ := I.list (sub_l (SubH.trans Su.1 R.sub) h1)
  have hu : A.units < cLine := by have := hr.un; omega
  by_cases hne : vs = []
  · subst hne
    have e0 : its = [] := List.length_eq_zero_iff.mp (by rw [← rv.length]; rfl)
    subst e0
    have t0 : ts = [] := List.length_eq_zero_iff.mp hT.1
    subst t0
    rw [listText_nil] at hQ hb
    exact wpAny_pyReprUnder_ref (by omega) (wpAny_pyReprObjUnder_list_empty ⟨o, ho, ho2⟩ (by omega) ho hd ⟨_, _, rfl, hQ F H _ (Sub.refl F) (I.tok _) R⟩)
  · refine wpAny_pyReprUnder_ref (by omega) (wpAny_pyReprObjUnder_twin (twin := "list.__repr__.under") ⟨o, ho, ho2⟩ PySem.F.slot_list_repr.toG rfl hu ?_)
    exact call_twin_plain PySem.F.plain_list_repr_under PySem.F.entry_list_repr_under PySem.F.check_list_repr_under ⟨o, ho, ho2⟩ PySem.F.slot_list_repr.toG (PySem.F.args_list_repr_1 _)
      (list_atO (R := callEnd _ E) h1 hnd hda hT hne hf (hr.mono (by omega)) hg hc hE hb I R Su fun F' H' s' tk sb I' R' => ⟨⟨_, _, rfl⟩, _, _, rfl, hQ F' H' s' sb I' R'⟩)
/-- the parts of a tuple -/
theorem tupFoldO {A : Around} {g : List Code} {E : Value → Shared → Prop} {pins : List (Addr × Obj)} {σ : L2.St} (hf : A.frames = X.A.frames) (hr : Room (rk + d) A) (hg : A.guards = some g) (hc : ∀ b, dep X.K F0.f d (.ref b) → Clear g b) (hE : ∀ e s', X.xe e s' → E e s') :
    ∀ (l : List Value) (vs : List V) (ts : List Str) (acc : Array Str) (n : Nat) (F : Fz) (H : Hp) (s : Shared) (Q : (Array Str × Nat) → Shared → Prop), Vals vs l → PartsR X cA rk F0 p mu d vs ts → n + piled ts ≤ sizeLine → Inv X pins σ H s → Rel X.K cA F p mu H → Sub F0 F →
    (∀ F' H' s', Sub F F' → Inv X pins σ H' s' → Rel X.K cA F' p mu H' → Q ⟨acc ++ ts.toArray, n + piled ts⟩ s') → wpAny (model X.prog X.w) A (forIn l (⟨acc, n⟩ : (Array Str × Nat)) tupBody) Q E s := by
  intro l
  induction l with
  | nil =>
    intro vs ts acc n F H s Q rv hT _ I R Su h
    have v0 : vs = [] := List.length_eq_zero_iff.mp (by rw [rv.length]; rfl)
    subst v0
    have t0 : ts = [] := List.length_eq_zero_iff.mp hT.1
    subst t0
    simp only [List.forIn_nil]
    have h0 := h F H s (Sub.refl F) I R
    exact wpAny_pure (by simpa [piled] using h0)
  | cons x l ih =>
    intro vs ts acc n F H s Q rv hT hn I R Su h
    cases rv with
    | cons r1 r2 =>
      rename_i v vs
      cases ts with
      | nil => have := hT.1; simp at this
      | cons t ts =>
        obtain ⟨t', e1, hx⟩ := hT.2 0 v rfl
        cases e1
        have hT2 : PartsR X cA rk F0 p mu d vs ts := ⟨by have := hT.1; simpa using this, fun i w hw => hT.2 (i + 1) w hw⟩
        rw [piled_cons] at hn
        rw [List.forIn_cons]
        refine wpAny_bind (wpAny_bind (hx x r1 (n + 1) (by omega) _ _ _ _ _ F H _ _ I R Su hf hr hg hc hE fun F' H' s' sb I' R' => wpAny_pure ?_))
        refine ih vs ts (acc.push t) (n + (t.length + 2)) F' H' s' Q r2 hT2 (by omega) I' R' (Su.trans sb) fun F'' H'' s'' sb' I'' R'' => ?_
        have h1 := h F'' H'' s'' (sb.trans sb') I'' R''
        have e : n + piled (t :: ts) = n + (t.length + 2) + piled ts := by rw [piled_cons]; omega
        rw [e] at h1
        simpa using h1
theorem tup_atO {a : Addr} {vs : List V} {ts : List Str} {base : Nat} {A : Around} {g : List Code} {pins : List (Addr × Obj)} {σ : L2.St} {R : Result → Shared → Prop} {F : Fz} {H : Hp} {s : Shared} {id : String} {rest : List Value}
    (hcg : (Code.builtin id ⟨.ref a :: rest, []⟩).isGuard = true) (u1 : (A.under (.builtin id ⟨.ref a :: rest, []⟩)).handled = A.handled) (u2 : (A.under (.builtin id ⟨.ref a :: rest, []⟩)).depth ≤ A.depth + 3) (u3 : (A.under (.builtin id ⟨.ref a :: rest, []⟩)).units ≤ A.units + 16) (u4 : (A.under (.builtin id ⟨.ref a :: rest, []⟩)).frames = A.frames)
    (h1 : SqT X.K F0.f a vs) (hnd : ¬ dep X.K F0.f d (.ref a)) (hda : dep X.K F0.f (d + 1) (.ref a)) (hT : PartsR X cA rk F0 p mu d vs ts)
    (hf : A.frames = X.A.frames) (hr : Room (rk + d + 1) A) (hg : A.guards = some g) (hc : ∀ b, dep X.K F0.f (d + 1) (.ref b) → Clear g b) (hE : ∀ e s', X.xe e s' → R (.error e) s') (hsz : base + (tupleText ts).length ≤ sizeLine)
    (I : Inv X pins σ H s) (R0 : Rel X.K cA F p mu H) (Su : Sub F0 F) (hR : ∀ F' H' s' tk, Sub F F' → Inv X pins σ H' s' → Rel X.K cA F' p mu H' → R (.ok (.ret (.str (tupleText ts) tk))) s') :
    wpOwn (model X.prog X.w) A (.builtin id ⟨.ref a :: rest, []⟩) (Builtin.tupleReprAt base ⟨[.ref a], []⟩) (fun fin s' => match fin with | .done f => R (.ok f) s' | .again c' => c'.quiet = true ∧ codeAny (model X.prog X.w) A c' R s') (fun e s' => R (.error e) s') s := by
  have hca : Clear g a := hc a hda
  have hp := piled_le_tupleText ts
  have hsz0 : (tupleText ts).length ≤ sizeLine := by omega
  obtain ⟨its, rv, ⟨o, ho, ho2, n, hd⟩, -⟩ := I.tuple (sub_t (SubH.trans Su.1 R0.sub) h1)
  have hlen : ts.length = its.length := hT.1.trans rv.length
  rw [tuple_repr_tree, tupleReprUnderWay_eq]
  refine wpOwn_bind (wpOwn_stackTailAny hg (tupGuardF_off _) (tupGuardF_pos _) ?_)
  have hn : (g.any fun c => tupGuardF (.ref a) (c, default)) = false := by
    rw [List.any_eq_false]
    intro c hcm
    rw [tupGuardF_of_clear hca c hcm]
    exact Bool.false_ne_true
  rw [hn]
  refine wpOwn_of_wpAny ?_
  show wpAny _ _ (tupleReprRest base (.ref a)) _ _ s
  unfold tupleReprRest Builtin.Tuple.tupleItemsOf
  refine wpAny_bind (wpAny_bind (wpAny_seqItems ho hd (wpAny_pure ?_)))
  rw [← Array.forIn_toList]
  refine wpAny_bind (tupFoldO (u4.trans hf) (room_under hr u1 u2 u3) (guards_under_guard hcg hg) (fun b hb => (hc b (dep_up hb)).cons (a := a) fun e => hnd (e ▸ hb)) hE _ vs ts _ _ F H _ _ rv hT (by omega) I R0 Su fun F' H' s' sb I' R' => ?_)
  refine wpAny_bind (wpAny_mkStr (wpAny_pure ?_) (by simpa [tupleText, hlen] using hsz0))
  have h1 := hR F' H' { s' with toks := s'.toks + 1 } s'.toks sb (I'.tok _) R'
  simpa [tupleText, hlen] using h1
theorem weight_rep (args : Args) : (Code.builtin "tuple.__repr__" args).weight ≤ 3 ∧ (Code.builtin "tuple.__repr__.under" args).weight ≤ 3 := by
  constructor
  · first
      | (have h : (Code.builtin "tuple.__repr__" args).weight = 1 := rfl; omega)
      | simp [Code.weight, Code.isGuard, Code.isCaller, Code.frames, Code.isFrame, guardIds]
  · first
      | (have h : (Code.builtin "tuple.__repr__.under" args).weight = 1 := rfl; omega)
      | simp [Code.weight, Code.isGuard, Code.isCaller, Code.frames, Code.isFrame, guardIds]
theorem under_tupU (A : Around) (args : Args) : (A.under (.builtin "tuple.__repr__.under" args)).handled = A.handled ∧ (A.under (.builtin "tuple.__repr__.under" args)).depth ≤ A.depth + 3 ∧ (A.under (.builtin "tuple.__repr__.under" args)).units ≤ A.units + 16 ∧ (A.under (.builtin "tuple.__repr__.under" args)).frames = A.frames := by
  refine ⟨rfl, ?_, ?_, ?_⟩
  · show A.depth + (Code.builtin "tuple.__repr__.under" args).weight ≤ A.depth + 3
    have := (weight_rep args).2
    omega
  · rw [units_under_tuple_repr_under]; omega
  · simp [Around.under, Code.envs, Code.isFrame, pushEnvs]
theorem ItemR.tup {a : Addr} {vs : List V} {ts : List Str} (h1 : SqT X.K F0.f a vs) (hnd : ¬ dep X.K F0.f d (.ref a)) (hda : dep X.K F0.f (d + 1) (.ref a)) (hT : PartsR X cA rk F0 p mu d vs ts) : ItemR X cA rk F0 p mu (d + 1) (.ref a) (tupleText ts) := by
  intro base hb A g E pins σ F H s Q I R Su hf hr hg hc hE hQ
  obtain ⟨its, rv, ⟨o, ho, ho2, n, hd⟩, -⟩ := I.tuple (sub_t (SubH.trans Su.1 R.sub) h1)
  have hu : A.units < cLine := by have := hr.un; omega
  obtain ⟨u1, u2, u3, u4⟩ := under_tupU A ⟨[.ref a, rawInt base], []⟩
  refine wpAny_pyReprUnder_ref (by omega) (wpAny_pyReprObjUnder_twin (twin := "tuple.__repr__.under") ⟨o, ho, ho2⟩ PySem.F.slot_tuple_repr rfl hu ?_)
  exact call_twin_own (PySem.F.quiet_tuple_repr_under _) PySem.F.entry_tuple_repr_under PySem.F.check_tuple_repr_under ⟨o, ho, ho2⟩ PySem.F.slot_tuple_repr (PySem.F.args_tuple_repr_1 _)
    (tup_atO (R := callEnd _ E) (isGuard_tuple_repr_under _) u1 u2 u3 u4 h1 hnd hda hT hf (hr.mono (by omega)) hg hc hE hb I R Su fun F' H' s' tk sb I' R' => ⟨⟨_, _, rfl⟩, _, _, rfl, hQ F' H' s' sb I' R'⟩)
end
end CC

set_option Elab.async false
set_option linter.all false
set_option maxRecDepth 100000
set_option maxHeartbeats 2000000
namespace CC
open PySem PySem.Spec PyProof.Rows L2
end CC

set_option Elab.async false
set_option linter.all false
set_option maxRecDepth 100000
set_option maxHeartbeats 1000000
namespace CC
open PySem PySem.Spec PyProof.Rows L2
end CC

set_option Elab.async false
set_option linter.all false
set_option maxRecDepth 100000
set_option maxHeartbeats 2000000
namespace CC
open PySem PySem.Spec PyProof.Rows L2
theorem baseVE : BaseE "ValueError" "ValueError.__new__" "ValueError.__init__" [.type "ValueError", .type "Exception", .type "BaseException", .type "object"] := ⟨PySem.F.excBase_ValueError, PySem.F.store_ValueError⟩
theorem baseAE : BaseE "ArithmeticError" "ArithmeticError.__new__" "ArithmeticError.__init__" [.type "ArithmeticError", .type "Exception", .type "BaseException", .type "object"] := ⟨PySem.F.excBase_ArithmeticError, PySem.F.store_ArithmeticError⟩
section
variable {X : Cx} {pins : List (Addr × Obj)} {σ : L2.St} {H : Hp} {s : Shared} {a C dx : Addr} {f : Str} {y : V} {u : Value} {fs : List (Str × V)} {Q : Unit → Shared → Prop} {E : Value → Shared → Prop} {A : Around}
variable {B newId initId : String} {bmB : List Value}
open Builtin Builtin.ObjectAttr
/-- self.f = y, the dict is there -/
theorem ost_more (Bk : BaseE B newId initId bmB) (T : OexT X.K C newId bmB) (I : Inv X pins σ H s) (e : H a = some (exo a C (some dx))) (ed : H dx = some (exd dx fs)) (hl : fs.length ≤ 900) (hno : PySem.W.findIn X.K (.ref C) f = some none) (ry : RelV y u)
    (h : ∀ s', Inv X pins σ (upd H dx (exd dx ((f, y) :: fs))) s' → Q () s') : wpAny (model X.prog X.w) A (setAttr (.ref a) f u) Q E s := by
  obtain ⟨cd, hcd⟩ : ∃ cd, PySem.W.clsIn X.K C = some cd := by
    have q := T.dct
    cases z : PySem.W.clsIn X.K C with
    | none => rw [z] at q; cases q
    | some cd => exact ⟨cd, rfl⟩
  have hd : cd.hasDict = true := by
    have q := T.dct
    rw [hcd] at q
    simpa using q
  obtain ⟨t1, ho⟩ := exo_at I.hok e
  obtain ⟨mA, hns, rel⟩ := exd_at I.hok ed
  have within := within_of rel
  obtain ⟨hp, g, d, t, os⟩ := s
  obtain ⟨oD, _, _, hoD, _, _⟩ := hns.count within
  have inst : PySem.W.InstAt hp a { cls := .ref C, dict := some dx, data := .fields #[.ref t1, .none, .none, .none, .bool false, .none] } C (some oD) := ⟨ho, rfl, rfl, hoD⟩
  refine PySem.W.set_plain I.kIn inst T.sa ?_
  refine PySem.W.osa_openX (r := none) Bk.store I.kIn inst T.ovr (by unfold PySem.W.takerIn; rw [hno]; rfl) fun b => ?_
  have look : PySem.W.Looks (model X.prog X.w) hp (classData C) cd := PySem.W.looks_clsIn I.kIn hcd
  obtain ⟨nm, bs, mro, ns, qn, hdc, sn, sb, ab, col, del⟩ := cd
  dsimp only at hd
  subst hd
  show wpAny _ _ (storeInOwnDict (.ref a) (.ref C) _ f u b) _ _ _
  unfold storeInOwnDict ownDictForStores
  repeat (first | with_reducible refine PySem.OEX.store_in_old hns within (by rw [List.length_map]; omega) ?_ | with_reducible refine wpAny_loadPart_at ho ?_ | with_reducible refine look.at ?_ | wp_step)
  intro h' tk' hn' same
  refine h _ (I.write (t' := tk') (x := dx) (e := dx) (o := exd dx ((f, y) :: fs)) (by rw [ed]; exact True.intro) (.inl rfl) (fun b o hb q => (same.2 b hb).trans q) ?_ (exd_ok hn' (relO_put ry rel)))
  obtain ⟨o, _, _, e', _⟩ := hn'
  exact ⟨o, e'⟩
end
end CC

set_option Elab.async false
set_option linter.all false
set_option maxRecDepth 100000
set_option maxHeartbeats 2000000
namespace CC
open PySem PySem.Spec L2
open PySem.HandSPX PySem.Builtin PySem.Builtin.ObjectAttr
section
variable {prog : Program} {w : World} {A : Around} {E : Value → Shared → Prop} {R : Result → Shared → Prop} {h : Heap} {g : Array GenState} {d : Drawn} {t : Nat} {os : OsState}
variable {nm q : Str} {C N : Addr} {bs bm bmB : List Value} {hdct : Bool} {sn : List Str} {sub : List Value} {ab : Bool} {col : Option Bool} {dd : Option Addr} {k0 k1 k2 k3 k5 : Option Value} {B newId initId : String}
variable {us : List Value} {kw : List (Str × Value)}
/-- what may be handed to B.__new__ -/
theorem new_let (Fk : ExcBaseFacts B newId initId bmB) (sup : ∀ T : String, bm.contains (.type T) = bmB.contains (.type T)) {Q : Unit → Shared → Prop}
    (at_ : h.get? C = some (excClassObj nm q C N bs bm hdct sn sub ab col dd k0 k1 k2 k3 k5 newId)) (fin : Q () ⟨h, g, d, t, os⟩) : wpAny (model prog w) A (checkBuiltinCall newId ⟨.ref C :: us, kw⟩) Q E ⟨h, g, d, t, os⟩ := by
  have below : (Value.ref C :: bm).contains (.type B) = true := by rw [List.contains_cons, sup, Fk.hasB, Bool.or_true]
  have := Fk.noStar
  simp only [checkBuiltinCall, Fk.newKind, Fk.newSplit, Fk.newRow]
  repeat (first | refine wpAny_loadPart_at at_ ?_ | (refine wpAny_isSubtype_exc at_ ?_; rw [below]) | refine wpAny_staticBase_exc at_ ?_ | refine wpAny_madeBy_exc at_ ?_ | simp only [bne_self_eq_false, Bool.false_eq_true, if_false] | wp_step)
  exact fin
/-- B.__new__ makes it, the keywords are not looked at -/
theorem new_kw (Fk : ExcBaseFacts B newId initId bmB) (sup : ∀ T : String, bm.contains (.type T) = bmB.contains (.type T))
    (at_ : h.get? C = some (excClassObj nm q C N bs bm hdct sn sub ab col dd k0 k1 k2 k3 k5 newId))
    (fin : R (.ok (.ret (.ref (h.objs.size + 1)))) ⟨(h.push (PySem.W.kdv_tup us)).push (excO C h.objs.size), g, d, t, os⟩) (len : us.length ≤ sizeLine) :
    codeAny (model prog w) A (.builtin newId ⟨.ref C :: us, kw⟩) R ⟨h, g, d, t, os⟩ := by
  have := Fk.ends
  have isB : (Value.ref C :: bm).contains (.type B) = true := by rw [List.contains_cons, sup, Fk.hasB, Bool.or_true]
  have noA : (Value.ref C :: bm).contains (.type "AttributeError") = false := by rw [List.contains_cons, sup, Fk.noAttr]; rfl
  have noN : (Value.ref C :: bm).contains (.type "NameError") = false := by rw [List.contains_cons, sup, Fk.noName]; rfl
  refine codeAny_builtinAt Fk.entry ?_
  unfold Builtin.«BaseException.__new__»
  refine wpAt_bind ?_
  show wpAt _ _ _ (stack >>= _) _ _ _
  refine wpAt_bind (wpAt_stack fun _ _ => wpAt_of_wpAny ?_)
  wp_walk
  refine wpAt_of_wpAny ?_
  rw [Fk.owner]
  repeat (first | with_reducible refine wpAny_madeHere_exc Fk.canon at_ ?_ | with_reducible refine wpAny_loadPart_at at_ ?_ | (with_reducible refine wpAny_isSubtype_exc at_ ?_; first | rw [isB] | rw [noA] | rw [noN]) | wp_step)
  show R _ _
  rw [Heap.size_push]
  exact fin
/-- type.__call__: made, then the own __init__ -/
theorem type_kw (Fk : ExcBaseFacts B newId initId bmB) (sup : ∀ T : String, bm.contains (.type T) = bmB.contains (.type T)) {i : Addr} {Q : Fin → Shared → Prop}
    (at_ : h.get? C = some (excClassObj nm q C N bs bm hdct sn sub ab col dd k0 k1 k2 k3 k5 newId))
    (ini : PySem.W.Looks (model prog w) h (typeLookup (.ref C) "__init__") (some (.ref i))) (bnd : ∀ self, PySem.W.Looks (model prog w) h (bindSpecial (.ref i) self) (.ref i, [self])) (len : us.length ≤ sizeLine)
    (run : codeAny (model prog w) A (.call (.ref i) ⟨.ref (h.objs.size + 1) :: us, kw⟩)
      (fun r s' => match r with | .ok (.ret v) => v = .none ∧ Q (.done (.ret (.ref (h.objs.size + 1)))) s' | .ok _ => False | .error e => E e s')
      ⟨(h.push (PySem.W.kdv_tup us)).push (excO C h.objs.size), g, d, t, os⟩) :
    wpAny (model prog w) A (Builtin.«type.__call__» ⟨.ref C :: us, kw⟩) Q E ⟨h, g, d, t, os⟩ := by
  repeat (first | with_reducible refine wpAny_loadPart_at at_ ?_ | with_reducible refine wpAny_madeBy_exc at_ ?_ | wp_step)
  refine codeAny_call_builtin_code (Code.quiet_builtin _ Fk.quiet) (new_let Fk sup at_ ?_)
  refine new_kw Fk sup at_ ?_ len
  show wpAny _ _ _ _ _ _
  have up : ∀ b o, h.get? b = some o → ((h.push (PySem.W.kdv_tup us)).push (excO C h.objs.size)).get? b = some o := fun b o e => Heap.get?_push_of_some _ (Heap.get?_push_of_some _ e)
  have at1 := up _ _ at_
  have new : ((h.push (PySem.W.kdv_tup us)).push (excO C h.objs.size)).get? (h.objs.size + 1) = some (excO C h.objs.size) := by heap_get
  have self_ : (Value.ref C :: bm).contains (.ref C) = true := by simp
  have ini1 := ini.keeps up
  have bnd1 := (bnd (.ref (h.objs.size + 1))).keeps up
  unfold isInstance
  repeat (first | with_reducible refine wpAny_loadPart_at new ?_ | (with_reducible refine wpAny_isSubtype_exc at1 ?_; rw [self_]) | wp_step)
  show wpAny _ _ (typeLookup (.ref C) _) _ _ _
  refine ini1.at ?_
  refine wpAny_holding (wpAny_bind (bnd1.at ?_))
  refine wpAny_bind (wpAny_call (codeAny_mono run fun r s' z => ?_))
  rcases r with e | (v | _ | _ | _) <;> first | exact z | exact z.elim | skip
  obtain ⟨rfl, z⟩ := z
  first
    | exact wpAny_pure (wpAny_pure z)
    | (wp_walk; exact z)
/-- C(.., k = v): the call -/
theorem call_kw (Fk : ExcBaseFacts B newId initId bmB) (sup : ∀ T : String, bm.contains (.type T) = bmB.contains (.type T)) {i : Addr}
    (at_ : h.get? C = some (excClassObj nm q C N bs bm hdct sn sub ab col dd k0 k1 k2 k3 k5 newId))
    (ini : PySem.W.Looks (model prog w) h (typeLookup (.ref C) "__init__") (some (.ref i))) (bnd : ∀ self, PySem.W.Looks (model prog w) h (bindSpecial (.ref i) self) (.ref i, [self])) (len : us.length ≤ sizeLine)
    (run : codeAny (model prog w) (A.under (.builtin "type.__call__" ⟨.ref C :: us, kw⟩)) (.call (.ref i) ⟨.ref (h.objs.size + 1) :: us, kw⟩) (PySem.W.InitBack (h.objs.size + 1) R)
      ⟨(h.push (PySem.W.kdv_tup us)).push (excO C h.objs.size), g, d, t, os⟩) :
    codeAny (model prog w) A (.call (.ref C) ⟨us, kw⟩) R ⟨h, g, d, t, os⟩ := by
  have f1 := tc_lookup
  have f2 := tc_bind (.ref C)
  have f3 : (⟨h, g, d, t, os⟩ : Shared).TypeIs (.ref C) "type" := ⟨_, at_, rfl⟩
  refine codeAny_of_tree ?_
  show wpAny _ _ (callAny (.ref C) _) _ _ _
  repeat (any_goals (first | assumption | with_reducible refine wpAny_loadPart_at at_ ?_ | wp_step))
  refine ⟨rfl, ?_⟩
  refine codeAny_call_builtin_at (Code.quiet_builtin _ (by decide +kernel)) entry_typeCall (wpAny_check_type_call_sub at_ (type_kw Fk sup at_ ini bnd len ?_))
  refine codeAny_mono run fun r s' z => ?_
  rcases r with e | (v | _ | _ | _) <;> exact z
end
end CC

set_option Elab.async false
set_option linter.all false
set_option maxRecDepth 100000
set_option maxHeartbeats 2000000
namespace CC
open PySem PySem.Spec PyProof.Rows L2
/-- C(e, .., k = v, ..): the error is made, then its own __init__ -/
def tErr (C : Addr) (n m : Nat) (sp : Sp) (gV : List V → List V → List V) (t tk : TA) : TE := fun σ H Q => t σ H fun vs H1 => tk σ H1 fun zs H2 => vs.length = n ∧ zs.length = m ∧
  ∀ a, H2 a = none → sp (gV (.ref a :: vs) zs) (upd H2 a (exo a C none)) (fun v H3 => v = .non ∧ Q (.ref a) H3) (fun _ _ _ => False)
section
variable {X : Cx} {CX : CXT} {k n : Nat} {f C : Addr} {fd : FuncData} {ps ks : List Str} {sp : Sp} {x : Str} {p pos : Pos} {e : Expr} {es : List Expr} {kws : List Keyword} {t tk : TA} {g : List Value → List Value → List Value} {gV : List V → List V → List V}
variable {B newId initId : String} {bmB : List Value}
theorem run_err {pins : List (Addr × Obj)} {σ : L2.St} {H : Hp} {s : Shared} {Q : VK} {us ws : List Value} {vs zs : List V} (Bk : BaseE B newId initId bmB) (T : OexT X.K C newId bmB) (iC : PySem.W.findIn X.K (.ref C) "__init__" = some (some (.ref f))) (tI : PySem.W.typeIn X.K (.ref f) = some (.type "function"))
    (F : FnOk X.prog X.w X.K X.mg X.base CX k f fd ps sp) (hr : Room (k + 1) X.A) (hb : KBn X.K fd ps (n + 1) ks g gV) (hx : Passes CX X (fun _ _ _ => False))
    (I : Inv X pins σ H s) (r : Vals vs us) (rz : Vals zs ws) (l1 : vs.length = n) (l2 : zs.length = ks.length) (small : n ≤ 1000)
    (h : ∀ a, H a = none → sp (gV (.ref a :: vs) zs) (upd H a (exo a C none)) (fun v H3 => v = .non ∧ Q (.ref a) H3) (fun _ _ _ => False)) :
    wpAny (model X.prog X.w) X.A (call (.ref C) us (ks.zip ws)) (EP X pins σ Q) X.xe s := by
  obtain ⟨nm, N, qn, bs, bm, hdct, sn, sub, ab, col, dd, j0, j1, j2, j3, j5, cls, mro⟩ := PySem.W.excInit_of I.kIn T.ini
  obtain ⟨hp, gs, dr, tk, os⟩ := s
  generalize ea : hp.objs.size + 1 = a
  have above : hp.objs.size ≤ a := by omega
  have asked := h a (I.hok.fresh above)
  generalize eh : ((hp.push (PySem.W.kdv_tup us)).push (PySem.HandSPX.excO C hp.objs.size)) = hp2
  have keep : ∀ b o, hp.get? b = some o → hp2.get? b = some o := fun b o z => eh ▸ Heap.get?_push_of_some _ (Heap.get?_push_of_some _ z)
  have atA : hp2.get? a = some (PySem.HandSPX.excO C hp.objs.size) := by subst eh ea; heap_get
  have I2 : Inv X pins σ (upd H a (exo a C none)) ⟨hp2, gs, dr, tk, os⟩ := I.laid (t' := tk) keep above (exo_ok atA)
  have rv2 : Vals (V.ref a :: vs) (Value.ref a :: us) := .cons rfl r
  have r2 := hb.rel rv2 rz
  have n1 : (Value.ref a :: us).length = n + 1 := by rw [List.length_cons, ← r.length, l1]
  have many : us.length ≤ sizeLine := by
    have z : sizeLine = 16777216 := by decide
    rw [← r.length, l1, z]
    omega
  have ran := F.run _ X.stack _ _ ⟨Value.ref a :: us, ks.zip ws⟩ (g (Value.ref a :: us) ws) _ _ (fun _ _ _ => False) (hr.make C us (ks.zip ws)) (I2.env0.make C us (ks.zip ws)) (hb.to _ (Value.ref a :: us) ws I2.kIn n1 (rz.length.symm.trans l2)) r2 asked
  subst ea eh
  refine wpAny_call (call_kw Bk.base mro cls (PySem.W.looks_findIn I.kIn iC) (fun self => PySem.W.bind_fn I.kIn self tI) many (codeAny_mono ran fun res s' fate => ?_))
  cases res with
  | error er => exact hx pins σ _ _ er s' I2 fate
  | ok fl =>
    cases fl with
    | next => exact fate.elim
    | brk => exact fate.elim
    | cont => exact fate.elim
    | ret u =>
      obtain ⟨v, H', I3, rv, ev, q3⟩ := I2.after fate
      subst ev
      exact ⟨rv, ⟨V.ref (hp.objs.size + 1), H', I3, rfl, q3⟩⟩
theorem pe_errP (Bk : BaseE B newId initId bmB) (T : OexT X.K C newId bmB) (iC : PySem.W.findIn X.K (.ref C) "__init__" = some (some (.ref f))) (tI : PySem.W.typeIn X.K (.ref f) = some (.type "function"))
    (F : FnOk X.prog X.w X.K X.mg X.base CX k f fd ps sp) (hr : Room (k + 1) X.A) (hb : KBn X.K fd ps (n + 1) [] g gV) (hx : Passes CX X (fun _ _ _ => False)) (small : n ≤ 1000) (hg : Gl X x) (hm : X.mg x = some (.ref C)) (ha : PA X (e :: es) t)
    (hdb : (x == ("__debug__" : Str)) = false := by decide) (he : starEach (e :: es) X.env = (false, eval e X.env) :: starEach es X.env := by rfl) (hpl : (backTo pos (starEach es X.env)).any (·.1) = false := by rfl) :
    PE X (.Call (.Name x p) (e :: es) [] pos) (tErr C n 0 sp gV t tNil) := by
  refine ⟨fun pins s σ H Q I h => ?_⟩
  refine wpAny_Call_Name_kw (ld_glob I hg hm (PySem.W.callWith_K (h₀ := X.base) I.ok.mod.kin T.kC (thn (ha.run pos pins s σ H _ I h) fun us s1 ⟨vs, H1, I1, r, q⟩ => ⟨I1.kIn, ?_⟩) he hpl) hdb)
  exact run_err (ks := []) (ws := []) (zs := []) Bk T iC tI F hr hb hx I1 r .nil q.1 rfl small q.2.2
theorem pe_errK (Bk : BaseE B newId initId bmB) (T : OexT X.K C newId bmB) (iC : PySem.W.findIn X.K (.ref C) "__init__" = some (some (.ref f))) (tI : PySem.W.typeIn X.K (.ref f) = some (.type "function"))
    (F : FnOk X.prog X.w X.K X.mg X.base CX k f fd ps sp) (hr : Room (k + 1) X.A) (hb : KBn X.K fd ps 1 ks g gV) (hx : Passes CX X (fun _ _ _ => False)) (hg : Gl X x) (hm : X.mg x = some (.ref C)) (hkw : PK X kws tk)
    (hall : (backToKw pos (keywordEach kws X.env)).all (·.1.isSome) = true := by rfl) (hks : (backToKw pos (keywordEach kws X.env)).filterMap (·.1) = ks := by rfl) (hdb : (x == ("__debug__" : Str)) = false := by decide)
    (hpl : ((backTo pos (starEach [] X.env)).any (·.1) || (backToKw pos (keywordEach kws X.env)).any (·.1.isNone)) = false := by rfl) :
    PE X (.Call (.Name x p) [] kws pos) (tErr C 0 ks.length sp gV tNil tk) := by
  refine ⟨fun pins s σ H Q I h => ?_⟩
  refine wpAny_Call_Name_kw (ld_glob I hg hm ?_ hdb)
  refine PySem.W.callWith_KW0 (h₀ := X.base) I.ok.mod.kin T.kC hall ?_ hpl
  refine thn (hkw.run pos pins s σ H _ I h) fun ws s2 ⟨zs, H2, I2, rz, q⟩ => ⟨I2.kIn, ?_⟩
  rw [hks]
  exact run_err (us := []) (vs := []) (n := 0) Bk T iC tI F hr hb hx I2 .nil rz rfl q.2.1 (by decide) q.2.2
end
end CC

set_option Elab.async false
set_option linter.all false
set_option maxRecDepth 100000
set_option maxHeartbeats 2000000
namespace CC
open PySem PySem.Spec PyProof.Rows L2
/-- self.g = e, the dict is there -/
def tOsM (K : PySem.W.Frag) (newId : String) (bmB : List Value) (f : Str) (to te : TE) : TS := fun D σ H => te σ H fun y H1 => to σ H1 fun x H2 => ∃ (a C dx : Addr) (fs : List (Str × V)), x = .ref a ∧ OexT K C newId bmB ∧ PySem.W.findIn K (.ref C) f = some none ∧
  H2 a = some (exo a C (some dx)) ∧ H2 dx = some (exd dx fs) ∧ fs.length ≤ 900 ∧ D.nx σ (upd H2 dx (exd dx ((f, y) :: fs)))
section
variable {X : Cx} {o e : Expr} {to te : TE} {f : Str} {p' pos p : Pos} {B newId initId : String} {bmB : List Value}
theorem ps_osM (Bk : BaseE B newId initId bmB) (ho : PE X o to) (he : PE X e te) (hs : swapsWith e (some (.Attribute o f p')) pos.line X.env = pure false := by rfl) : PS X (.Assign [.Attribute o f p'] e pos) (tOsM X.K newId bmB f to te) := by
  refine ⟨fun pins s σ H D I h => ?_⟩
  refine plainObj_wpAny_Assign_Attribute (thn (he.run pins s σ H _ I h) fun v s1 q1 => thn (ho.run pins s1 σ q1.choose_spec.choose _ q1.choose_spec.choose_spec.1 q1.choose_spec.choose_spec.2.2) fun u s2 q2 => ?_) hs
  obtain ⟨x, H2, I2, r2, a, C, dx, fs, rfl, T, hno, ea, ed, hl, q⟩ := q2
  obtain rfl : u = Value.ref a := r2
  exact ost_more Bk T I2 ea ed hl hno q1.choose_spec.choose_spec.2.1 fun s' J => ⟨σ, _, J, q⟩
end
/-- what an __init__ with two attributes promises -/
def SpT2 (K : PySem.W.Frag) (newId : String) (bmB : List Value) (f g : Str) : Sp := fun vs H Q _ => ∃ (a C : Addr) (y z : V), vs = [.ref a, y, z] ∧ OexT K C newId bmB ∧ PySem.W.findIn K (.ref C) f = some none ∧ PySem.W.findIn K (.ref C) g = some none ∧ H a = some (exo a C none) ∧
  ∀ dx, H dx = none → dx ≠ a → Q .non (upd (upd (upd H dx (exd dx [(f, y)])) a (exo a C (some dx))) dx (exd dx [(g, z), (f, y)]))
theorem excInitT2 {B newId initId : String} {bmB : List Value} (Bk : BaseE B newId initId bmB) {P : Program} {w : World} {K : PySem.W.Frag} {mg : Str → Option Value} {base : Heap} {x qual n0 n1 n2 f g : Str} {params : Arguments} {scope : Scope} {i : Addr} {fd : FuncData} {p1 p2 p3 p4 p5 p6 p7 p8 : Pos}
    (F : FunD K x qual params [.Assign [.Attribute (.Name n0 p1) f p2] (.Name n1 p3) p4, .Assign [.Attribute (.Name n0 p5) g p6] (.Name n2 p7) p8] scope [] [] i fd) (S : FnScope [n0, n1, n2] [n0, n1, n2] scope) (h0 : (n0 == ("__debug__" : Str)) = false := by decide) (h1 : (n1 == ("__debug__" : Str)) = false := by decide) (h2 : (n2 == ("__debug__" : Str)) = false := by decide)
    (c0 : (n0 == ("__classdict__" : Str)) = false := by decide) (c1 : (n1 == ("__classdict__" : Str)) = false := by decide) (c2 : (n2 == ("__classdict__" : Str)) = false := by decide)
    (v0 : scope.names.lookup n0 = some .local := by rfl) (v1 : scope.names.lookup n1 = some .local := by rfl) (v2 : scope.names.lookup n2 = some .local := by rfl) :
    FnOk P w K mg base (L2N.CX P w) 1 i fd [n0, n1, n2] (SpT2 K newId bmB f g) :=
  F.ok S (fun vs H Q E ⟨a, C, y, z, e, _⟩ => by rw [e]; rfl) fun cdv A outer s H vs Q E hr ⟨a, C, y, z, e, T, no, no2, ha, q⟩ => by
    subst e
    refine ⟨_, pss_cons (ps_osT Bk (pe_var (i := 0) rfl (.inl v0) h0 c0) (pe_var (i := 1) rfl (.inl v1) h1 c1)) (pss_one (ps_osM Bk (pe_var (i := 0) rfl (.inl v0) h0 c0) (pe_var (i := 2) rfl (.inl v2) h2 c2))), y, rfl, .ref a, rfl, a, C, rfl, T, no, ha, fun dx d1 d2 => ?_⟩
    exact ⟨z, rfl, .ref a, rfl, a, C, dx, [(f, y)], rfl, T, no2, upd_same, by rw [upd_ne d2, upd_same], by simp, q dx d1 d2⟩
/-- the error as a value -/
def errV (C : Nat) : List Nat → List Val → Option Val
  | [n], [v] => some (.err C [(n, v)])
  | [n, m], [v, w] => some (.err C [(m, w), (n, v)])
  | _, _ => none
theorem errV_long {C n m : Nat} : ∀ {L : List Val}, 3 ≤ L.length → errV C [n, m] L = none
  | [], h => absurd h (by decide)
  | [_], h => absurd h (by simp)
  | [_, _], h => absurd h (by simp)
  | _ :: _ :: _ :: _, _ => rfl
def mkE (C : Nat) (ns : List Nat) (ms : M (List Val)) : M Val := fun r mu => (ms r mu).bind fun vs mu1 => match errV C ns vs with
  | some z => .ok z mu1
  | none => .bad
def mkE0 (C : Nat) : M Val := fun _ mu => .ok (.err C []) mu
theorem kbn_pos {K : PySem.W.Frag} {fd : FuncData} {ps : List Str} {n : Nat} (b : Binds K fd ps []) (hn : ps.length = n) : KBn K fd ps n [] (fun us _ => us) (fun vs _ => vs) := by
  refine ⟨fun s us ws kin l1 l2 => ?_, fun r _ => r⟩
  have q := b s us kin (by rw [List.append_nil, hn]; exact l1)
  rw [List.append_nil] at q
  exact q
section
variable {K : PySem.W.Frag} {mg : Str → Option Value} {cA : CI} {F : Fz} {p : List Addr} {mu : Store} {H : Hp} {s : L2.St} {W : WX} {Q : VK} {B newId initId : String} {bmB : List Value}
/-- what is made with one attribute -/
theorem err_one {C n : Nat} {fI : Addr} {x : Str} {y : Val} {v : V} (T : ExT K mg (cA C) fI x (aN n) newId bmB) (hn : n < 45) (R : Rel K cA F p mu H) (r : VR K cA F p y v) (h : Post K cA (VR K cA) W s F p Q (.ok (.err C [(n, y)]) mu)) (a : Addr) (ha : H a = none) :
    SpT K newId bmB (aN n) [.ref a, v] (upd H a (exo a (cA C) none)) (fun u H3 => u = .non ∧ Q (.ref a) H3) (fun _ _ _ => False) := by
  refine ⟨a, cA C, v, rfl, T.ox, T.att, upd_same, fun dx hdx ne => ⟨rfl, ?_⟩⟩
  have free : H dx = none := by rw [upd_ne ne] at hdx; exact hdx
  have same : upd (upd (upd H a (exo a (cA C) none)) dx (exd dx [(aN n, v)])) a (exo a (cA C) (some dx)) = upd (upd H dx (exd dx [(aN n, v)])) a (exo a (cA C) (some dx)) := by
    funext b
    by_cases hb : b = a
    · rw [hb, upd_same, upd_same]
    · rw [upd_ne hb, upd_ne hb]
      by_cases hb2 : b = dx
      · rw [hb2, upd_same, upd_same]
      · rw [upd_ne hb2, upd_ne hb2, upd_ne hb]
  rw [same]
  have R1 := R.frz (o := exd dx [(aN n, v)]) free (fun ps z => by cases z)
  have s1 := Sub.new (o := exd dx [(aN n, v)]) (R.fresh free).1
  have free2 : upd H dx (exd dx [(aN n, v)]) a = none := by rw [upd_ne (Ne.symm ne)]; exact ha
  have R2 := R1.frz (o := exo a (cA C) (some dx)) free2 (fun ps z => by cases z)
  have s2 := Sub.new (o := exo a (cA C) (some dx)) (R1.fresh free2).1
  have s12 := s1.trans s2
  refine h _ p _ (.ref a) s12 (List.prefix_refl p) R2 (.err (gs := [(aN n, v)]) (.inr ⟨dx, upd_same, ?_⟩) (.cons hn (r.mono s12 (List.prefix_refl p)) .nil))
  show upd (upd F.f dx _) a _ dx = _
  rw [upd_ne ne, upd_same]
/-- with two -/
theorem err_two {C n m : Nat} {fI : Addr} {x : Str} {y z : Val} {v u : V} (T : ExT K mg (cA C) fI x (aN n) newId bmB) (at2 : PySem.W.findIn K (.ref (cA C)) (aN m) = some none) (hn : n < 45) (hm : m < 45) (R : Rel K cA F p mu H) (r : VR K cA F p y v) (r2 : VR K cA F p z u) (h : Post K cA (VR K cA) W s F p Q (.ok (.err C [(m, z), (n, y)]) mu)) (a : Addr) (ha : H a = none) :
    SpT2 K newId bmB (aN n) (aN m) [.ref a, v, u] (upd H a (exo a (cA C) none)) (fun u H3 => u = .non ∧ Q (.ref a) H3) (fun _ _ _ => False) := by
  refine ⟨a, cA C, v, u, rfl, T.ox, T.att, at2, upd_same, fun dx hdx ne => ⟨rfl, ?_⟩⟩
  have free : H dx = none := by rw [upd_ne ne] at hdx; exact hdx
  generalize hgs : [(aN m, u), (aN n, v)] = gs
  have same : upd (upd (upd (upd H a (exo a (cA C) none)) dx (exd dx [(aN n, v)])) a (exo a (cA C) (some dx))) dx (exd dx gs) = upd (upd H dx (exd dx gs)) a (exo a (cA C) (some dx)) := by
    funext b
    by_cases hb : b = a
    · have : b ≠ dx := fun z => ne (z ▸ hb)
      rw [upd_ne this, hb, upd_same, upd_same]
    · by_cases hb2 : b = dx
      · rw [hb2, upd_same, upd_ne (fun z => ne z), upd_same]
      · rw [upd_ne hb2, upd_ne hb, upd_ne hb2, upd_ne hb, upd_ne hb, upd_ne hb2]
  rw [same]
  have R1 := R.frz (o := exd dx gs) free (fun ps z => by cases z)
  have s1 := Sub.new (o := exd dx gs) (R.fresh free).1
  have free2 : upd H dx (exd dx gs) a = none := by rw [upd_ne (Ne.symm ne)]; exact ha
  have R2 := R1.frz (o := exo a (cA C) (some dx)) free2 (fun ps z => by cases z)
  have s2 := Sub.new (o := exo a (cA C) (some dx)) (R1.fresh free2).1
  have s12 := s1.trans s2
  refine h _ p _ (.ref a) s12 (List.prefix_refl p) R2 (.err (gs := gs) (.inr ⟨dx, upd_same, ?_⟩) ?_)
  · show upd (upd F.f dx _) a _ dx = _
    rw [upd_ne ne, upd_same]
  · subst hgs
    exact .cons hm (r2.mono s12 (List.prefix_refl p)) (.cons hn (r.mono s12 (List.prefix_refl p)) .nil)
end
theorem no_pass {X : Cx} : Passes (L2N.CX X.prog X.w) X (fun _ _ _ => False) := fun pins σ H s e' s' I hq => by
  obtain ⟨_, _, _, _, _, _, _, _, _, _, _, _, z⟩ := hq
  exact z.elim
section
variable {X : Cx} {cA : CI} {W : WX} {e e2 : Expr} {m m2 : M Val} {ms : M (List Val)} {pos p : Pos} {B newId initId : String} {bmB : List Value} {C n n' k : Nat} {fI : Addr} {fd : FuncData} {ps ks : List Str} {x : Str} {kws : List Keyword}
/-- C(e) -/
theorem c_err (Bk : BaseE B newId initId bmB) (hn : n < 45) (T : ExT X.K X.mg (cA C) fI x (aN n) newId bmB) (F : FnOk X.prog X.w X.K X.mg X.base (L2N.CX X.prog X.w) k fI fd ps (SpT X.K newId bmB (aN n))) (hr : Room (k + 1) X.A) (bnd : Binds X.K fd ps []) (l2 : ps.length = 2)
    (ha : PEM X cA W e m) (hg : Gl X x := by rfl) (hdb : (x == ("__debug__" : Str)) = false := by decide) (he : starEach [e] X.env = (false, eval e X.env) :: starEach [] X.env := by rfl) (hpl : (backTo pos (starEach [] X.env)).any (·.1) = false := by rfl) :
    PEM X cA W (.Call (.Name x p) [e] [] pos) (mkE C [n] (consM m nilM)) :=
  pe_weak (pe_errP Bk T.ox T.ini T.tyI F hr (kbn_pos bnd l2) no_pass (by decide : 1 ≤ 1000) hg T.glo (c_cons ha c_nil he) hdb he hpl) fun s H Q ⟨F1, p1, r, mu, h1, h2, h3⟩ => by
    unfold mkE at h3
    refine bindAt h1 h2 h3 fun F2 p2 mu2 as vs H1 _ _ c1 _ e1 f1 => ?_
    cases e1 with
    | nil => exact f1.elim
    | cons g1 g2 =>
      cases g2 with
      | cons g2 g3 => cases g3 <;> exact f1.elim
      | nil => exact ⟨rfl, rfl, fun a ha => err_one T hn c1 g1 f1 a ha⟩
/-- C(e, e') -/
theorem c_err2 (Bk : BaseE B newId initId bmB) (hn : n < 45) (hn' : n' < 45) (T : ExT X.K X.mg (cA C) fI x (aN n) newId bmB) (at2 : PySem.W.findIn X.K (.ref (cA C)) (aN n') = some none) (F : FnOk X.prog X.w X.K X.mg X.base (L2N.CX X.prog X.w) k fI fd ps (SpT2 X.K newId bmB (aN n) (aN n'))) (hr : Room (k + 1) X.A) (bnd : Binds X.K fd ps []) (l3 : ps.length = 3)
    (ha : PEM X cA W e m) (hb : PEM X cA W e2 m2) (hg : Gl X x := by rfl) (hdb : (x == ("__debug__" : Str)) = false := by decide) (he : starEach [e, e2] X.env = (false, eval e X.env) :: starEach [e2] X.env := by rfl) (he2 : starEach [e2] X.env = (false, eval e2 X.env) :: starEach [] X.env := by rfl) (hpl : (backTo pos (starEach [e2] X.env)).any (·.1) = false := by rfl) :
    PEM X cA W (.Call (.Name x p) [e, e2] [] pos) (mkE C [n, n'] (consM m (consM m2 nilM))) :=
  pe_weak (pe_errP Bk T.ox T.ini T.tyI F hr (kbn_pos bnd l3) no_pass (by decide : 2 ≤ 1000) hg T.glo (c_cons ha (c_cons hb c_nil he2) he) hdb he hpl) fun s H Q ⟨F1, p1, r, mu, h1, h2, h3⟩ => by
    unfold mkE at h3
    refine bindAt h1 h2 h3 fun F2 p2 mu2 as vs H1 _ _ c1 _ e1 f1 => ?_
    cases e1 with
    | nil => exact f1.elim
    | cons g1 g2 =>
      cases g2 with
      | nil => exact f1.elim
      | cons g2 g3 =>
        cases g3 with
        | cons _ _ => exact f1.elim
        | nil => exact ⟨rfl, rfl, fun a ha => err_two T at2 hn hn' c1 g1 g2 f1 a ha⟩
/-- C(k = e) -/
theorem c_errK (Bk : BaseE B newId initId bmB) (hn : n < 45) (T : ExT X.K X.mg (cA C) fI x (aN n) newId bmB) (F : FnOk X.prog X.w X.K X.mg X.base (L2N.CX X.prog X.w) k fI fd ps (SpT X.K newId bmB (aN n))) (hr : Room (k + 1) X.A) (l1 : ks.length = 1)
    (hb : KBn X.K fd ps 1 ks (fun us ws => us ++ ws) (fun vs zs => vs ++ zs)) (hkw : PKM X cA W kws ms) (hg : Gl X x := by rfl)
    (hall : (backToKw pos (keywordEach kws X.env)).all (·.1.isSome) = true := by rfl) (hks : (backToKw pos (keywordEach kws X.env)).filterMap (·.1) = ks := by rfl) (hdb : (x == ("__debug__" : Str)) = false := by decide)
    (hpl : ((backTo pos (starEach [] X.env)).any (·.1) || (backToKw pos (keywordEach kws X.env)).any (·.1.isNone)) = false := by rfl) :
    PEM X cA W (.Call (.Name x p) [] kws pos) (mkE C [n] ms) :=
  pe_weak (pe_errK Bk T.ox T.ini T.tyI F hr hb no_pass hg T.glo hkw hall hks hdb hpl) fun s H Q ⟨F1, p1, r, mu, h1, h2, h3⟩ => by
    show tErr _ _ _ _ _ _ _ _ _ _
    unfold mkE at h3
    refine bindAt h1 h2 h3 fun F2 p2 mu2 as vs H1 _ _ c1 _ e1 f1 => ?_
    cases e1 with
    | nil => exact f1.elim
    | cons g1 g2 =>
      cases g2 with
      | cons g2 g3 => cases g3 <;> exact f1.elim
      | nil => exact ⟨rfl, l1.symm, fun a ha => err_one T hn c1 g1 f1 a ha⟩
/-- C(k' = e', k = e): the names the other way round -/
theorem c_errK2 (Bk : BaseE B newId initId bmB) (hn : n < 45) (hn' : n' < 45) (T : ExT X.K X.mg (cA C) fI x (aN n) newId bmB) (at2 : PySem.W.findIn X.K (.ref (cA C)) (aN n') = some none) (F : FnOk X.prog X.w X.K X.mg X.base (L2N.CX X.prog X.w) k fI fd ps (SpT2 X.K newId bmB (aN n) (aN n'))) (hr : Room (k + 1) X.A) (l2 : ks.length = 2)
    (hb : KBn X.K fd ps 1 ks (fun us ws => us ++ ws.reverse) (fun vs zs => vs ++ zs.reverse)) (hkw : PKM X cA W kws ms) (hg : Gl X x := by rfl)
    (hall : (backToKw pos (keywordEach kws X.env)).all (·.1.isSome) = true := by rfl) (hks : (backToKw pos (keywordEach kws X.env)).filterMap (·.1) = ks := by rfl) (hdb : (x == ("__debug__" : Str)) = false := by decide)
    (hpl : ((backTo pos (starEach [] X.env)).any (·.1) || (backToKw pos (keywordEach kws X.env)).any (·.1.isNone)) = false := by rfl) :
    PEM X cA W (.Call (.Name x p) [] kws pos) (fun r mu => (ms r mu).bind fun vs mu1 => match errV C [n, n'] vs.reverse with
      | some z => .ok z mu1
      | none => .bad) :=
  pe_weak (pe_errK Bk T.ox T.ini T.tyI F hr hb no_pass hg T.glo hkw hall hks hdb hpl) fun s H Q ⟨F1, p1, r, mu, h1, h2, h3⟩ => by
    show tErr _ _ _ _ _ _ _ _ _ _
    refine bindAt h1 h2 h3 fun F2 p2 mu2 as vs H1 _ _ c1 _ e1 f1 => ?_
    cases e1 with
    | nil => exact f1.elim
    | cons g1 g2 =>
      cases g2 with
      | nil => exact f1.elim
      | cons g2 g3 =>
        cases g3 with
        | nil => exact ⟨rfl, l2.symm, fun a ha => err_two T at2 hn hn' c1 g2 g1 f1 a ha⟩
        | cons g3 g4 =>
          rw [errV_long (by simp)] at f1
          exact f1.elim
/-- C(), C without __init__ of its own -/
theorem c_err0 (Fb : ExcBaseFacts B newId initId bmB) (q : PySem.W.excIn X.K (cA C) bmB newId = true) (gC : X.mg x = some (.ref (cA C))) (kC : PySem.W.keepIn X.K (.ref (cA C)) = true) (hg : Gl X x := by rfl) (hdb : (x == ("__debug__" : Str)) = false := by decide) :
    PEM X cA W (.Call (.Name x p) [] [] pos) (mkE0 C) := by
  refine ⟨fun pins s σ H Q I ⟨F, pl, r, mu, h1, h2, h3⟩ => ?_⟩
  refine wpAny_Call_Name_kw (ld_glob I hg gC ?_ hdb)
  refine PySem.W.callWith_K0 I.kIn kC ?_
  show wpAny _ _ (call (.ref (cA C)) []) _ _ _
  obtain ⟨bm, N, nm, qn, bs, hdct, sn, sub, ab, col, dd, k0, k1, k2, k3, k5, mN, hC, hN, hni, T⟩ := exc_obj I.kIn q
  refine wpAny_call_exc_subT Fb T hC hN hni (fun h' a hm => ?_) (Nat.zero_le _)
  have hn : H a = none := I.hok.gone hm.new
  obtain ⟨t, ht, _, _⟩ := hm.there
  have sb := Sub.new (o := ExO (.ref (cA C)) a) (h1.fresh hn).1
  exact ⟨.ref a, upd H a (ExO (.ref (cA C)) a), I.laidN hm.keeps hm.new hn (exO_ok ht ⟨rfl, rfl⟩ rfl rfl rfl (show 4 < 6 by decide)), rfl,
    h3 _ pl _ (.ref a) sb (List.prefix_refl pl) (h1.frz hn (fun ps z => by cases z)) (.err (gs := []) (.inl ⟨rfl, upd_same⟩) .nil)⟩
end
end CC

set_option Elab.async false
set_option linter.all false
set_option maxRecDepth 100000
set_option maxHeartbeats 2000000
namespace CC
open PySem PySem.Spec PyProof.Rows L2
def isiE (kt : Tg → Tg → Option Bool) (ec : Nat → Bool) (_ : Store) : List Val → Option Val
  | [.err C _, c] => if ec C = true then (tgOf c).bind fun t => (kt (.inr C) t).map Val.bl else none
  | _ => none
def fldE (eo : Nat → Nat → Bool) (n : Nat) (_ : Store) : Val → Option Val
  | .err C fs => if eo C n = true then fs.lookup n else none
  | _ => none
/-- what is known of the classes of errors that are held -/
structure EK (K : PySem.W.Frag) (cA : CI) (ec : Nat → Bool) : Prop where
  ok : ∀ C, ec C = true → ExK K (cA C)
structure EO (K : PySem.W.Frag) (cA : CI) (eo : Nat → Nat → Bool) : Prop where
  ok : ∀ C n, eo C n = true → ExK K (cA C) ∧ PySem.W.findIn K (.ref (cA C)) (aN n) = some none
section
variable {X : Cx} {cA : CI} {kt : Tg → Tg → Option Bool} {ic ec : Nat → Bool} {eo : Nat → Nat → Bool}
theorem err_inst {pins : List (Addr × Obj)} {σ : L2.St} {H : Hp} {s : Shared} {F : Fz} {p : List Addr} {mu : Store} {C a : Addr} {gs : List (Str × V)} (I : Inv X pins σ H s) (R : Rel X.K cA F p mu H) (h : ErH F.f C a gs) : ∃ oe od, PySem.W.InstAt s.heap a oe C od := by
  rcases h with ⟨rfl, h⟩ | ⟨dx, h, hd⟩
  · obtain ⟨⟨oe, vs, ho, hz, hv, _⟩, _, _⟩ := I.hok a _ (R.sub _ _ h)
    exact ⟨oe, none, ho, hz.1, by unfold PySem.W.notCls; rw [hv] <;> rfl, by rw [hz.2]; trivial⟩
  · obtain ⟨t1, ho⟩ := exo_at I.hok (R.sub _ _ h)
    obtain ⟨mA, hns, rel⟩ := exd_at I.hok (R.sub _ _ hd)
    obtain ⟨oD, _, _, hoD, _, _⟩ := hns.count (within_of rel)
    exact ⟨_, some oD, ho, rfl, rfl, hoD⟩
theorem b_isE (T : KI X.K cA kt ic) (E : EK X.K cA ec) : CallR X (.builtin "isinstance") (GA X.K cA (isiE kt ec)) := by
  intro pins s σ H xs us Q I r h
  obtain ⟨F, p, mu, as, z, R, ra, e, q⟩ := h
  unfold isiE at e
  split at e
  · rename_i C fs c
    by_cases hc : ec C = true
    · rw [if_pos hc] at e
      obtain ⟨t, e1, e2⟩ := Option.bind_eq_some_iff.mp e
      obtain ⟨k, e3, e4⟩ := Option.map_eq_some_iff.mp e2
      obtain ⟨v, w, rfl, rv, rw'⟩ := vrs2 ra
      cases rv with
      | err he hf =>
        obtain ⟨oe, od, J⟩ := err_inst I R he
        have Ek := E.ok C hc
        obtain ⟨u1, u2, rfl, r1, r2⟩ := vals2 r
        cases r1
        have ev : u2 = tagV cA t := by
          cases c with
          | cls n => cases e1; cases rw'; cases r2; rfl
          | ty n => cases e1; cases rw'; cases r2; rfl
          | _ => cases e1
        subst ev
        subst e4
        exact PySem.W.kia_one (PySem.W.kitx_exc Ek.cl Ek.ga Ek.gg Ek.sub Ek.ca Ek.sn Ek.tk Ek.mo) I.kIn J (T.ok (.inr C) t k e3) (fun z => nomatch z) fun tk => ⟨.bl k, H, I.tok tk, rfl, q.now R (.bl k)⟩
    · rw [if_neg hc] at e; cases e
  · cases e
/-- e.f -/
theorem c_fldE {W : WX} {e : Expr} {m : M Val} {pos : Pos} {n : Nat} {f : Str} (T : EO X.K cA eo) (ha : PEM X cA W e m) (hn : n < 45 := by decide) (hf : f = aN n := by decide +kernel) (hb : attributeBase e f X.env (eval e X.env) = eval e X.env := by rfl) : PEM X cA W (.Attribute e f pos) (u1 (fldE eo n) m) := by
  subst hf
  refine ⟨fun pins s σ H Q I ⟨F, p, r, mu, h1, h2, h3⟩ => ?_⟩
  have hd : DE X.K cA W m σ H fun v H1 => ∃ F1 p1 mu1 y, Rel X.K cA F1 p1 mu1 H1 ∧ VR X.K cA F1 p1 y v ∧ Post X.K cA (VR X.K cA) W σ F1 p1 Q (optR (fldE eo n mu1 y) mu1) := bindAt h1 h2 h3 fun F1 p1 mu1 y v H1 _ _ c1 d1 e1 f1 => ⟨F1, p1, mu1, y, c1, e1, f1⟩
  refine attr_of hb (thn (ha.run pins s σ H _ I hd) fun u s1 ⟨v, H1, I1, rx, F1, p1, mu1, y, R, ry, f1⟩ => ?_)
  obtain ⟨z, e1, q⟩ := post_opt f1
  unfold fldE at e1
  split at e1
  · rename_i C fs
    by_cases hc : eo C n = true
    · rw [if_pos hc] at e1
      obtain ⟨Ek, no⟩ := T.ok C n hc
      cases ry with
      | err he hfv =>
        obtain ⟨w, g5, g6⟩ := hfv.look hn e1
        rcases he with ⟨rfl, _⟩ | ⟨dx, he, hdx⟩
        · cases g5
        · rename_i a gs
          obtain rfl : u = Value.ref a := rx
          obtain ⟨t1, ho⟩ := exo_at I1.hok (R.sub _ _ he)
          obtain ⟨mA, hns, rel⟩ := exd_at I1.hok (R.sub _ _ hdx)
          obtain ⟨od, hod, hl⟩ := lookIn_ns hns
          obtain ⟨u, hu, ru⟩ := RelO.some_of (v := w) (o := mA (aN n)) (by rw [← g5]; exact rel (aN n))
          exact PySem.HandSPX.exc_get I1.kIn ⟨ho, rfl, rfl, hod⟩ Ek.ga Ek.gg Ek.sub (PySem.W.findObj_own Ek.hd no rfl (by rw [hl, hu])) (handed_of ru) ⟨w, H1, I1.tok _, ru, q.now R g6⟩
    · rw [if_neg hc] at e1; cases e1
  · cases e1
end
end CC

set_option Elab.async false
set_option linter.all false
set_option maxRecDepth 100000
set_option maxHeartbeats 2000000
namespace CC
open PySem PySem.Spec PyProof.Rows L2
def mulN (mu : Store) (a b : Val) : R Val := match seqL mu a, b with
  | some xs, .int j => if xs.length ≤ 1000 ∧ 0 ≤ j ∧ j ≤ 1000 then .ok (.ref mu.length) (mu ++ [.lst (List.replicate j.toNat xs).flatten]) else .bad
  | _, _ => .bad
def mulNM (ma mb : M Val) : M Val := fun r mu => (ma r mu).bind fun a mu1 => (mb r mu1).bind fun b mu2 => mulN mu2 a b
/-- a list in the store, or one that stands -/
def toDr (mu : Store) : Val → Option PyData
  | .ref r => (match mu[r]? with
    | some (.lst xs) => (mapO (toD 20) xs).map .list
    | _ => none)
  | v => toD 21 v
def toD2 (mu : Store) : Val → Option PyData
  | .lst xs => (mapO (toDr mu) xs).map .list
  | _ => none
def eqR (mu : Store) (a b : Val) : Option Val := match toD1 mu a with
  | some d => (match toD2 mu b with
    | some e => some (.bl (PyData.eqv d e))
    | none => none)
  | none => none
section
variable {K : PySem.W.Frag} {cA : CI} {F : Fz} {H : Hp} {p : List Addr} {mu : Store}
theorem toDr_ok (R : Rel K cA F p mu H) {v : Val} {d : PyData} {x : V} (h : toDr mu v = some d) (r : VR K cA F p v x) : Dp K H x d ∧ d.plain = true ∧ d.depth ≤ 21 := by
  have std : toD 21 v = some d → Dp K H x d ∧ d.plain = true ∧ d.depth ≤ 21 := fun h => ⟨toD_dp (cA := cA) (p := p) R.sub _ _ _ _ h r, (toD_plain _ _ _ h).1, (toD_plain _ _ _ h).2⟩
  cases r with
  | ref h1 =>
    obtain ⟨c, h2, h3⟩ := R.at_some h1
    simp only [toDr, h2] at h
    cases c with
    | lst xs =>
      obtain ⟨ds, h4, rfl⟩ := Option.map_eq_some_iff.mp h
      obtain ⟨vs, q1, q2⟩ := h3
      obtain ⟨a, b⟩ := mapO_plain _ _ _ h4
      exact ⟨.lst (SqL.of q1) (mapO_dp R.sub _ _ _ _ h4 q2), by simp only [PyData.plain]; exact a, by simp only [PyData.depth]; omega⟩
    | dct _ => cases h
    | obj _ _ => cases h
  | _ => exact std h
theorem toD2_ok (R : Rel K cA F p mu H) {v : Val} {d : PyData} {x : V} (h : toD2 mu v = some d) (r : VR K cA F p v x) : Dp K H x d ∧ d.plain = true ∧ d.depth ≤ 22 := by
  have all : ∀ (xs : List Val) (ds : List PyData) (vs : List V), mapO (toDr mu) xs = some ds → VRs K cA F p xs vs → DpAll K H vs ds ∧ PyData.plainAll ds = true ∧ PyData.depthAll ds ≤ 21 := by
    intro xs
    induction xs with
    | nil => intro ds vs h r; cases h; cases r; exact ⟨.nil, rfl, Nat.zero_le _⟩
    | cons y ys ih =>
      intro ds vs h r
      obtain ⟨e, es, h1, h2, rfl⟩ := mapO_cons h
      cases r with
      | cons r1 r2 =>
        obtain ⟨a1, a2, a3⟩ := toDr_ok R h1 r1
        obtain ⟨b1, b2, b3⟩ := ih _ _ h2 r2
        refine ⟨.cons a1 b1, ?_, ?_⟩
        · simp only [PyData.plainAll, a2, b2, Bool.and_self]
        · simp only [PyData.depthAll]
          exact Nat.max_le.mpr ⟨a3, b3⟩
  cases r with
  | lst h1 h2 =>
    obtain ⟨ds, h3, rfl⟩ := Option.map_eq_some_iff.mp h
    obtain ⟨a, b, c⟩ := all _ _ _ h3 h2
    exact ⟨.lst (SqL.of (R.sub _ _ h1)) a, by simp only [PyData.plain]; exact b, by simp only [PyData.depth]; omega⟩
  | _ => cases h
end
section
variable {X : Cx} {cA : CI} {W : WX} {a b : Expr} {ma mb : M Val} {pos : Pos}
theorem op_eqR (hu : X.A.units + 64 < cLine) : OpR X (compareOp .Eq) (G2 X.K cA eqR) := by
  intro pins s σ H x y v u Q I rv ru h
  obtain ⟨F, p, mu, a, b, z, R, ra, rb, e, q⟩ := h
  unfold eqR at e
  cases h1 : toD1 mu a with
  | none => rw [h1] at e; cases e
  | some d =>
    rw [h1] at e
    simp only at e
    cases h2 : toD2 mu b with
    | none => rw [h2] at e; cases e
    | some d' =>
      rw [h2] at e
      cases e
      obtain ⟨a1, a2, a3⟩ := toD1_ok R h1 ra
      obtain ⟨b1, b2, b3⟩ := toD2_ok R h2 rb
      obtain ⟨as, r1⟩ := Dp.reads I _ _ _ a1 rv
      obtain ⟨bs, r2⟩ := Dp.reads I _ _ _ b1 ru
      exact SeqAt.eq_plain r1 r2 a2 b2 (by omega) ⟨.bl _, H, I, rfl, q.now R (.bl _)⟩
theorem c_mulN (ha : PEM X cA W a ma) (hb : PEM X cA W b mb) : PEM X cA W (.BinOp a .Mult b pos) (mulNM ma mb) :=
  pe_weak (pe_op op_rep ha hb) fun s H Q ⟨F, p, r, mu, h1, h2, h3⟩ => bindAt h1 h2 h3 fun F1 p1 mu1 x v H1 a1 b1 c1 d1 e1 f1 => by
    refine bindAt c1 d1 f1 fun F2 p2 mu2 y w H2 a2 b2 c2 d2 e2 f2 => ?_
    have e1 := e1.mono a2 b2
    unfold mulN at f2
    split at f2
    · rename_i xs j q1
      by_cases hc : xs.length ≤ 1000 ∧ 0 ≤ j ∧ j ≤ 1000
      · rw [if_pos hc] at f2
        obtain ⟨l, vs, rfl, g1, g2⟩ := seqL_ok c2 e1 q1
        cases e2
        have small : vs.length * j.toNat ≤ 1000 * 1000 := by rw [← g2.length]; exact Nat.mul_le_mul hc.1 (by omega)
        refine ⟨l, j, vs, rfl, rfl, g1, by omega, by omega, Nat.le_trans small (by decide), fun k hk => ?_⟩
        refine f2 F2 (p2 ++ [k]) _ _ (Sub.refl F2) (List.prefix_append p2 [k]) (c2.alloc hk (fun c u hc => ?_) ⟨_, upd_same, (vrs_rep g2 _).mono (Sub.refl F2) (List.prefix_append p2 [k])⟩) (.ref ?_)
        · rw [upd_ne (ne_of_none hc hk)]
          exact hc
        · rw [← c2.len, List.getElem?_append_right (Nat.le_refl _)]
          simp
      · rw [if_neg hc] at f2; exact f2.elim
    · exact f2.elim
end
def ecOf (L : List Nat) : Nat → Bool := fun C => L.contains C
def eoOf (L ns : List Nat) : Nat → Nat → Bool := fun C n => L.contains C && ns.contains n
theorem ek_of {K : PySem.W.Frag} {cA : CI} {L : List Nat} (h : ExKs K cA L) : EK K cA (ecOf L) := ⟨fun C hC => h.ok C (List.contains_iff_mem.mp hC)⟩
theorem eo_of {K : PySem.W.Frag} {cA : CI} {L ns : List Nat} (h : ExKs K cA L) (g : ∀ C ∈ L, ∀ n ∈ ns, PySem.W.findIn K (.ref (cA C)) (aN n) = some none) : EO K cA (eoOf L ns) := ⟨fun C n e => by
  unfold eoOf at e
  rw [Bool.and_eq_true] at e
  exact ⟨h.ok C (List.contains_iff_mem.mp e.1), g C (List.contains_iff_mem.mp e.1) n (List.contains_iff_mem.mp e.2)⟩⟩
abbrev veN : String := "ValueError.__new__"
abbrev veM : List Value := [.type "ValueError", .type "Exception", .type "BaseException", .type "object"]
abbrev arN : String := "ArithmeticError.__new__"
abbrev arM : List Value := [.type "ArithmeticError", .type "Exception", .type "BaseException", .type "object"]
def mkEr (C n n' : Nat) (ms : M (List Val)) : M Val := fun r mu => (ms r mu).bind fun vs mu1 => match errV C [n, n'] vs.reverse with
  | some z => .ok z mu1
  | none => .bad
end CC

set_option Elab.async false
set_option linter.all false
set_option maxRecDepth 100000
set_option maxHeartbeats 4000000
namespace K01
open PySem PySem.Spec PyProof.Rows L2 CC LamX
abbrev top (i : Nat) : Stmt := PySem.Challenge.pw_cablecourses_k01_limits_and_errors.main.body.getD i (.Pass ⟨0, 0, 0, 0⟩)
abbrev met (i j : Nat) : Stmt := (C8.clsBody (top i)).getD j (.Pass ⟨0, 0, 0, 0⟩)
def clsN : List Str := (["", "NotFit", "InvalidRoom", "InvalidDoor", "InvalidWalk", "InvalidCourse", "InvalidNumber", "InvalidText", "NotAHouse", "NotAProgram", "NotAPlan", "NotCourses", "InvalidRooms", "InvalidDoors", "InvalidPrograms", "InvalidCourses"] : List Str) ++ (["NotThere", "UnknownProgram", "CannotBe", "Unjoined", "OtherHouse", "InvalidTable", "InvalidClaim", "InvalidClaims", "InvalidChanges", "UnknownClaim", "NothingToUndo", "Broken"] : List Str)
def tfs : List He.Defn := []

def cA (K : PySem.W.Frag) : CI := ⟨fun n => He.ga K (clsN.getD n ""), tabL K tfs, []⟩
abbrev AI_InvalidRoom (K : PySem.W.Frag) : Addr := He.fAd K ("InvalidRoom", some "__init__")
abbrev AI_InvalidDoor (K : PySem.W.Frag) : Addr := He.fAd K ("InvalidDoor", some "__init__")
abbrev AI_InvalidWalk (K : PySem.W.Frag) : Addr := He.fAd K ("InvalidWalk", some "__init__")
abbrev AI_InvalidCourse (K : PySem.W.Frag) : Addr := He.fAd K ("InvalidCourse", some "__init__")
abbrev AI_InvalidNumber (K : PySem.W.Frag) : Addr := He.fAd K ("InvalidNumber", some "__init__")
abbrev AI_InvalidText (K : PySem.W.Frag) : Addr := He.fAd K ("InvalidText", some "__init__")
abbrev AI_NotAHouse (K : PySem.W.Frag) : Addr := He.fAd K ("NotAHouse", some "__init__")
abbrev AI_NotAProgram (K : PySem.W.Frag) : Addr := He.fAd K ("NotAProgram", some "__init__")
abbrev AI_NotAPlan (K : PySem.W.Frag) : Addr := He.fAd K ("NotAPlan", some "__init__")
abbrev AI_NotCourses (K : PySem.W.Frag) : Addr := He.fAd K ("NotCourses", some "__init__")
abbrev AI_InvalidRooms (K : PySem.W.Frag) : Addr := He.fAd K ("InvalidRooms", some "__init__")
abbrev AI_InvalidDoors (K : PySem.W.Frag) : Addr := He.fAd K ("InvalidDoors", some "__init__")
abbrev AI_InvalidPrograms (K : PySem.W.Frag) : Addr := He.fAd K ("InvalidPrograms", some "__init__")
abbrev AI_InvalidCourses (K : PySem.W.Frag) : Addr := He.fAd K ("InvalidCourses", some "__init__")
abbrev AI_UnknownProgram (K : PySem.W.Frag) : Addr := He.fAd K ("UnknownProgram", some "__init__")
abbrev AI_InvalidTable (K : PySem.W.Frag) : Addr := He.fAd K ("InvalidTable", some "__init__")
abbrev AI_InvalidClaim (K : PySem.W.Frag) : Addr := He.fAd K ("InvalidClaim", some "__init__")
abbrev AI_InvalidClaims (K : PySem.W.Frag) : Addr := He.fAd K ("InvalidClaims", some "__init__")
abbrev AI_InvalidChanges (K : PySem.W.Frag) : Addr := He.fAd K ("InvalidChanges", some "__init__")
abbrev AI_UnknownClaim (K : PySem.W.Frag) : Addr := He.fAd K ("UnknownClaim", some "__init__")
abbrev AI_Broken (K : PySem.W.Frag) : Addr := He.fAd K ("Broken", some "__init__")
abbrev sI_InvalidRoom : Stmt := (met 2 0)
abbrev sI_InvalidDoor : Stmt := (met 3 0)
abbrev sI_InvalidWalk : Stmt := (met 4 0)
abbrev sI_InvalidCourse : Stmt := (met 5 0)
abbrev sI_InvalidNumber : Stmt := (met 6 0)
abbrev sI_InvalidText : Stmt := (met 7 0)
abbrev sI_NotAHouse : Stmt := (met 10 0)
abbrev sI_NotAProgram : Stmt := (met 11 0)
abbrev sI_NotAPlan : Stmt := (met 12 0)
abbrev sI_NotCourses : Stmt := (met 13 0)
abbrev sI_InvalidRooms : Stmt := (met 14 0)
abbrev sI_InvalidDoors : Stmt := (met 15 0)
abbrev sI_InvalidPrograms : Stmt := (met 16 0)
abbrev sI_InvalidCourses : Stmt := (met 17 0)
abbrev sI_UnknownProgram : Stmt := (met 21 0)
abbrev sI_InvalidTable : Stmt := (met 8 0)
abbrev sI_InvalidClaim : Stmt := (met 9 0)
abbrev sI_InvalidClaims : Stmt := (met 18 0)
abbrev sI_InvalidChanges : Stmt := (met 19 0)
abbrev sI_UnknownClaim : Stmt := (met 22 0)
abbrev sI_Broken : Stmt := (met 27 0)
abbrev PI_InvalidRoom : List Str := ["self", "given"]
abbrev PI_InvalidDoor : List Str := ["self", "given"]
abbrev PI_InvalidWalk : List Str := ["self", "given"]
abbrev PI_InvalidCourse : List Str := ["self", "given"]
abbrev PI_InvalidNumber : List Str := ["self", "given"]
abbrev PI_InvalidText : List Str := ["self", "given"]
abbrev PI_NotAHouse : List Str := ["self", "given"]
abbrev PI_NotAProgram : List Str := ["self", "given"]
abbrev PI_NotAPlan : List Str := ["self", "given"]
abbrev PI_NotCourses : List Str := ["self", "given"]
abbrev PI_InvalidRooms : List Str := ["self", "index"]
abbrev PI_InvalidDoors : List Str := ["self", "index"]
abbrev PI_InvalidPrograms : List Str := ["self", "index"]
abbrev PI_InvalidCourses : List Str := ["self", "index"]
abbrev PI_UnknownProgram : List Str := ["self", "given"]
abbrev PI_InvalidTable : List Str := ["self", "given"]
abbrev PI_InvalidClaim : List Str := ["self", "given"]
abbrev PI_InvalidClaims : List Str := ["self", "index"]
abbrev PI_InvalidChanges : List Str := ["self", "index"]
abbrev PI_UnknownClaim : List Str := ["self", "given"]
abbrev PI_Broken : List Str := ["self", "index", "shown"]
def ktL : List ((Tg × Tg) × Bool) := [((.inr 1, .inr 1), true), ((.inr 1, .inr 2), false), ((.inr 1, .inr 3), false), ((.inr 1, .inr 4), false), ((.inr 1, .inr 5), false), ((.inr 1, .inr 6), false), ((.inr 1, .inr 7), false), ((.inr 1, .inr 8), false), ((.inr 1, .inr 9), false), ((.inr 1, .inr 10), false), ((.inr 1, .inr 11), false), ((.inr 1, .inr 12), false), ((.inr 1, .inr 13), false), ((.inr 1, .inr 14), false), ((.inr 1, .inr 15), false), ((.inr 1, .inr 16), false), ((.inr 1, .inr 17), false), ((.inr 1, .inr 18), false), ((.inr 1, .inr 19), false), ((.inr 1, .inr 20), false), ((.inr 1, .inr 21), false), ((.inr 1, .inr 22), false), ((.inr 1, .inr 23), false), ((.inr 1, .inr 24), false), ((.inr 1, .inr 25), false), ((.inr 1, .inr 26), false), ((.inr 1, .inr 27), false), ((.inr 1, .inl "ValueError"), true), ((.inr 1, .inl "LookupError"), false), ((.inr 1, .inl "ArithmeticError"), false), ((.inr 2, .inr 1), true), ((.inr 2, .inr 2), true), ((.inr 2, .inr 3), false), ((.inr 2, .inr 4), false), ((.inr 2, .inr 5), false), ((.inr 2, .inr 6), false), ((.inr 2, .inr 7), false), ((.inr 2, .inr 8), false), ((.inr 2, .inr 9), false), ((.inr 2, .inr 10), false), ((.inr 2, .inr 11), false), ((.inr 2, .inr 12), false), ((.inr 2, .inr 13), false), ((.inr 2, .inr 14), false), ((.inr 2, .inr 15), false), ((.inr 2, .inr 16), false), ((.inr 2, .inr 17), false), ((.inr 2, .inr 18), false), ((.inr 2, .inr 19), false), ((.inr 2, .inr 20), false), ((.inr 2, .inr 21), false), ((.inr 2, .inr 22), false), ((.inr 2, .inr 23), false), ((.inr 2, .inr 24), false), ((.inr 2, .inr 25), false), ((.inr 2, .inr 26), false), ((.inr 2, .inr 27), false), ((.inr 2, .inl "ValueError"), true), ((.inr 2, .inl "LookupError"), false), ((.inr 2, .inl "ArithmeticError"), false), ((.inr 3, .inr 1), true), ((.inr 3, .inr 2), false), ((.inr 3, .inr 3), true), ((.inr 3, .inr 4), false), ((.inr 3, .inr 5), false), ((.inr 3, .inr 6), false), ((.inr 3, .inr 7), false), ((.inr 3, .inr 8), false), ((.inr 3, .inr 9), false), ((.inr 3, .inr 10), false), ((.inr 3, .inr 11), false), ((.inr 3, .inr 12), false), ((.inr 3, .inr 13), false), ((.inr 3, .inr 14), false), ((.inr 3, .inr 15), false), ((.inr 3, .inr 16), false), ((.inr 3, .inr 17), false), ((.inr 3, .inr 18), false), ((.inr 3, .inr 19), false), ((.inr 3, .inr 20), false), ((.inr 3, .inr 21), false), ((.inr 3, .inr 22), false), ((.inr 3, .inr 23), false), ((.inr 3, .inr 24), false), ((.inr 3, .inr 25), false), ((.inr 3, .inr 26), false), ((.inr 3, .inr 27), false), ((.inr 3, .inl "ValueError"), true), ((.inr 3, .inl "LookupError"), false), ((.inr 3, .inl "ArithmeticError"), false), ((.inr 4, .inr 1), true), ((.inr 4, .inr 2), false), ((.inr 4, .inr 3), false), ((.inr 4, .inr 4), true), ((.inr 4, .inr 5), false), ((.inr 4, .inr 6), false), ((.inr 4, .inr 7), false), ((.inr 4, .inr 8), false), ((.inr 4, .inr 9), false), ((.inr 4, .inr 10), false), ((.inr 4, .inr 11), false), ((.inr 4, .inr 12), false), ((.inr 4, .inr 13), false), ((.inr 4, .inr 14), false), ((.inr 4, .inr 15), false), ((.inr 4, .inr 16), false), ((.inr 4, .inr 17), false), ((.inr 4, .inr 18), false), ((.inr 4, .inr 19), false), ((.inr 4, .inr 20), false), ((.inr 4, .inr 21), false), ((.inr 4, .inr 22), false), ((.inr 4, .inr 23), false), ((.inr 4, .inr 24), false), ((.inr 4, .inr 25), false), ((.inr 4, .inr 26), false), ((.inr 4, .inr 27), false), ((.inr 4, .inl "ValueError"), true), ((.inr 4, .inl "LookupError"), false), ((.inr 4, .inl "ArithmeticError"), false), ((.inr 5, .inr 1), true), ((.inr 5, .inr 2), false), ((.inr 5, .inr 3), false), ((.inr 5, .inr 4), false), ((.inr 5, .inr 5), true), ((.inr 5, .inr 6), false), ((.inr 5, .inr 7), false), ((.inr 5, .inr 8), false), ((.inr 5, .inr 9), false), ((.inr 5, .inr 10), false), ((.inr 5, .inr 11), false), ((.inr 5, .inr 12), false), ((.inr 5, .inr 13), false), ((.inr 5, .inr 14), false), ((.inr 5, .inr 15), false), ((.inr 5, .inr 16), false), ((.inr 5, .inr 17), false), ((.inr 5, .inr 18), false), ((.inr 5, .inr 19), false), ((.inr 5, .inr 20), false), ((.inr 5, .inr 21), false), ((.inr 5, .inr 22), false), ((.inr 5, .inr 23), false), ((.inr 5, .inr 24), false), ((.inr 5, .inr 25), false), ((.inr 5, .inr 26), false), ((.inr 5, .inr 27), false), ((.inr 5, .inl "ValueError"), true), ((.inr 5, .inl "LookupError"), false), ((.inr 5, .inl "ArithmeticError"), false), ((.inr 6, .inr 1), true), ((.inr 6, .inr 2), false), ((.inr 6, .inr 3), false), ((.inr 6, .inr 4), false), ((.inr 6, .inr 5), false), ((.inr 6, .inr 6), true), ((.inr 6, .inr 7), false), ((.inr 6, .inr 8), false), ((.inr 6, .inr 9), false), ((.inr 6, .inr 10), false), ((.inr 6, .inr 11), false), ((.inr 6, .inr 12), false), ((.inr 6, .inr 13), false), ((.inr 6, .inr 14), false), ((.inr 6, .inr 15), false), ((.inr 6, .inr 16), false), ((.inr 6, .inr 17), false), ((.inr 6, .inr 18), false), ((.inr 6, .inr 19), false), ((.inr 6, .inr 20), false), ((.inr 6, .inr 21), false), ((.inr 6, .inr 22), false), ((.inr 6, .inr 23), false), ((.inr 6, .inr 24), false), ((.inr 6, .inr 25), false), ((.inr 6, .inr 26), false), ((.inr 6, .inr 27), false), ((.inr 6, .inl "ValueError"), true), ((.inr 6, .inl "LookupError"), false), ((.inr 6, .inl "ArithmeticError"), false), ((.inr 7, .inr 1), true), ((.inr 7, .inr 2), false), ((.inr 7, .inr 3), false), ((.inr 7, .inr 4), false), ((.inr 7, .inr 5), false), ((.inr 7, .inr 6), false), ((.inr 7, .inr 7), true), ((.inr 7, .inr 8), false), ((.inr 7, .inr 9), false), ((.inr 7, .inr 10), false), ((.inr 7, .inr 11), false), ((.inr 7, .inr 12), false), ((.inr 7, .inr 13), false), ((.inr 7, .inr 14), false), ((.inr 7, .inr 15), false), ((.inr 7, .inr 16), false), ((.inr 7, .inr 17), false), ((.inr 7, .inr 18), false), ((.inr 7, .inr 19), false), ((.inr 7, .inr 20), false), ((.inr 7, .inr 21), false), ((.inr 7, .inr 22), false), ((.inr 7, .inr 23), false), ((.inr 7, .inr 24), false), ((.inr 7, .inr 25), false), ((.inr 7, .inr 26), false), ((.inr 7, .inr 27), false), ((.inr 7, .inl "ValueError"), true), ((.inr 7, .inl "LookupError"), false), ((.inr 7, .inl "ArithmeticError"), false), ((.inr 8, .inr 1), true), ((.inr 8, .inr 2), false), ((.inr 8, .inr 3), false), ((.inr 8, .inr 4), false), ((.inr 8, .inr 5), false), ((.inr 8, .inr 6), false), ((.inr 8, .inr 7), false), ((.inr 8, .inr 8), true), ((.inr 8, .inr 9), false), ((.inr 8, .inr 10), false), ((.inr 8, .inr 11), false), ((.inr 8, .inr 12), false), ((.inr 8, .inr 13), false), ((.inr 8, .inr 14), false), ((.inr 8, .inr 15), false), ((.inr 8, .inr 16), false), ((.inr 8, .inr 17), false), ((.inr 8, .inr 18), false), ((.inr 8, .inr 19), false), ((.inr 8, .inr 20), false), ((.inr 8, .inr 21), false), ((.inr 8, .inr 22), false), ((.inr 8, .inr 23), false), ((.inr 8, .inr 24), false), ((.inr 8, .inr 25), false), ((.inr 8, .inr 26), false), ((.inr 8, .inr 27), false), ((.inr 8, .inl "ValueError"), true), ((.inr 8, .inl "LookupError"), false), ((.inr 8, .inl "ArithmeticError"), false), ((.inr 9, .inr 1), true), ((.inr 9, .inr 2), false), ((.inr 9, .inr 3), false), ((.inr 9, .inr 4), false), ((.inr 9, .inr 5), false), ((.inr 9, .inr 6), false), ((.inr 9, .inr 7), false), ((.inr 9, .inr 8), false), ((.inr 9, .inr 9), true), ((.inr 9, .inr 10), false), ((.inr 9, .inr 11), false), ((.inr 9, .inr 12), false), ((.inr 9, .inr 13), false), ((.inr 9, .inr 14), false), ((.inr 9, .inr 15), false), ((.inr 9, .inr 16), false), ((.inr 9, .inr 17), false), ((.inr 9, .inr 18), false), ((.inr 9, .inr 19), false), ((.inr 9, .inr 20), false), ((.inr 9, .inr 21), false), ((.inr 9, .inr 22), false), ((.inr 9, .inr 23), false), ((.inr 9, .inr 24), false), ((.inr 9, .inr 25), false), ((.inr 9, .inr 26), false), ((.inr 9, .inr 27), false), ((.inr 9, .inl "ValueError"), true), ((.inr 9, .inl "LookupError"), false), ((.inr 9, .inl "ArithmeticError"), false), ((.inr 10, .inr 1), true), ((.inr 10, .inr 2), false), ((.inr 10, .inr 3), false), ((.inr 10, .inr 4), false), ((.inr 10, .inr 5), false), ((.inr 10, .inr 6), false), ((.inr 10, .inr 7), false), ((.inr 10, .inr 8), false), ((.inr 10, .inr 9), false), ((.inr 10, .inr 10), true), ((.inr 10, .inr 11), false), ((.inr 10, .inr 12), false), ((.inr 10, .inr 13), false), ((.inr 10, .inr 14), false), ((.inr 10, .inr 15), false), ((.inr 10, .inr 16), false), ((.inr 10, .inr 17), false), ((.inr 10, .inr 18), false), ((.inr 10, .inr 19), false), ((.inr 10, .inr 20), false), ((.inr 10, .inr 21), false), ((.inr 10, .inr 22), false), ((.inr 10, .inr 23), false), ((.inr 10, .inr 24), false), ((.inr 10, .inr 25), false), ((.inr 10, .inr 26), false), ((.inr 10, .inr 27), false), ((.inr 10, .inl "ValueError"), true), ((.inr 10, .inl "LookupError"), false), ((.inr 10, .inl "ArithmeticError"), false), ((.inr 11, .inr 1), true), ((.inr 11, .inr 2), false), ((.inr 11, .inr 3), false), ((.inr 11, .inr 4), false), ((.inr 11, .inr 5), false), ((.inr 11, .inr 6), false), ((.inr 11, .inr 7), false), ((.inr 11, .inr 8), false), ((.inr 11, .inr 9), false), ((.inr 11, .inr 10), false), ((.inr 11, .inr 11), true), ((.inr 11, .inr 12), false), ((.inr 11, .inr 13), false), ((.inr 11, .inr 14), false), ((.inr 11, .inr 15), false), ((.inr 11, .inr 16), false), ((.inr 11, .inr 17), false), ((.inr 11, .inr 18), false), ((.inr 11, .inr 19), false), ((.inr 11, .inr 20), false), ((.inr 11, .inr 21), false), ((.inr 11, .inr 22), false), ((.inr 11, .inr 23), false), ((.inr 11, .inr 24), false), ((.inr 11, .inr 25), false), ((.inr 11, .inr 26), false), ((.inr 11, .inr 27), false), ((.inr 11, .inl "ValueError"), true), ((.inr 11, .inl "LookupError"), false), ((.inr 11, .inl "ArithmeticError"), false), ((.inr 12, .inr 1), true), ((.inr 12, .inr 2), false), ((.inr 12, .inr 3), false), ((.inr 12, .inr 4), false), ((.inr 12, .inr 5), false), ((.inr 12, .inr 6), false), ((.inr 12, .inr 7), false), ((.inr 12, .inr 8), false), ((.inr 12, .inr 9), false), ((.inr 12, .inr 10), false), ((.inr 12, .inr 11), false), ((.inr 12, .inr 12), true), ((.inr 12, .inr 13), false), ((.inr 12, .inr 14), false), ((.inr 12, .inr 15), false), ((.inr 12, .inr 16), false), ((.inr 12, .inr 17), false), ((.inr 12, .inr 18), false), ((.inr 12, .inr 19), false), ((.inr 12, .inr 20), false), ((.inr 12, .inr 21), false), ((.inr 12, .inr 22), false), ((.inr 12, .inr 23), false), ((.inr 12, .inr 24), false), ((.inr 12, .inr 25), false), ((.inr 12, .inr 26), false), ((.inr 12, .inr 27), false), ((.inr 12, .inl "ValueError"), true), ((.inr 12, .inl "LookupError"), false), ((.inr 12, .inl "ArithmeticError"), false), ((.inr 13, .inr 1), true), ((.inr 13, .inr 2), false), ((.inr 13, .inr 3), false), ((.inr 13, .inr 4), false), ((.inr 13, .inr 5), false), ((.inr 13, .inr 6), false), ((.inr 13, .inr 7), false), ((.inr 13, .inr 8), false), ((.inr 13, .inr 9), false), ((.inr 13, .inr 10), false), ((.inr 13, .inr 11), false), ((.inr 13, .inr 12), false), ((.inr 13, .inr 13), true), ((.inr 13, .inr 14), false), ((.inr 13, .inr 15), false), ((.inr 13, .inr 16), false), ((.inr 13, .inr 17), false), ((.inr 13, .inr 18), false), ((.inr 13, .inr 19), false), ((.inr 13, .inr 20), false), ((.inr 13, .inr 21), false), ((.inr 13, .inr 22), false), ((.inr 13, .inr 23), false), ((.inr 13, .inr 24), false), ((.inr 13, .inr 25), false), ((.inr 13, .inr 26), false), ((.inr 13, .inr 27), false), ((.inr 13, .inl "ValueError"), true), ((.inr 13, .inl "LookupError"), false), ((.inr 13, .inl "ArithmeticError"), false), ((.inr 14, .inr 1), true), ((.inr 14, .inr 2), false), ((.inr 14, .inr 3), false), ((.inr 14, .inr 4), false), ((.inr 14, .inr 5), false), ((.inr 14, .inr 6), false), ((.inr 14, .inr 7), false), ((.inr 14, .inr 8), false), ((.inr 14, .inr 9), false), ((.inr 14, .inr 10), false), ((.inr 14, .inr 11), false), ((.inr 14, .inr 12), false), ((.inr 14, .inr 13), false), ((.inr 14, .inr 14), true), ((.inr 14, .inr 15), false), ((.inr 14, .inr 16), false), ((.inr 14, .inr 17), false), ((.inr 14, .inr 18), false), ((.inr 14, .inr 19), false), ((.inr 14, .inr 20), false), ((.inr 14, .inr 21), false), ((.inr 14, .inr 22), false), ((.inr 14, .inr 23), false), ((.inr 14, .inr 24), false), ((.inr 14, .inr 25), false), ((.inr 14, .inr 26), false), ((.inr 14, .inr 27), false), ((.inr 14, .inl "ValueError"), true), ((.inr 14, .inl "LookupError"), false), ((.inr 14, .inl "ArithmeticError"), false), ((.inr 15, .inr 1), true), ((.inr 15, .inr 2), false), ((.inr 15, .inr 3), false), ((.inr 15, .inr 4), false), ((.inr 15, .inr 5), false), ((.inr 15, .inr 6), false), ((.inr 15, .inr 7), false), ((.inr 15, .inr 8), false), ((.inr 15, .inr 9), false), ((.inr 15, .inr 10), false), ((.inr 15, .inr 11), false), ((.inr 15, .inr 12), false), ((.inr 15, .inr 13), false), ((.inr 15, .inr 14), false), ((.inr 15, .inr 15), true), ((.inr 15, .inr 16), false), ((.inr 15, .inr 17), false), ((.inr 15, .inr 18), false), ((.inr 15, .inr 19), false), ((.inr 15, .inr 20), false), ((.inr 15, .inr 21), false), ((.inr 15, .inr 22), false), ((.inr 15, .inr 23), false), ((.inr 15, .inr 24), false), ((.inr 15, .inr 25), false), ((.inr 15, .inr 26), false), ((.inr 15, .inr 27), false), ((.inr 15, .inl "ValueError"), true), ((.inr 15, .inl "LookupError"), false), ((.inr 15, .inl "ArithmeticError"), false), ((.inr 16, .inr 1), false), ((.inr 16, .inr 2), false), ((.inr 16, .inr 3), false), ((.inr 16, .inr 4), false), ((.inr 16, .inr 5), false), ((.inr 16, .inr 6), false), ((.inr 16, .inr 7), false), ((.inr 16, .inr 8), false), ((.inr 16, .inr 9), false), ((.inr 16, .inr 10), false), ((.inr 16, .inr 11), false), ((.inr 16, .inr 12), false), ((.inr 16, .inr 13), false), ((.inr 16, .inr 14), false), ((.inr 16, .inr 15), false), ((.inr 16, .inr 16), true), ((.inr 16, .inr 17), false), ((.inr 16, .inr 18), false), ((.inr 16, .inr 19), false), ((.inr 16, .inr 20), false), ((.inr 16, .inr 21), false), ((.inr 16, .inr 22), false), ((.inr 16, .inr 23), false), ((.inr 16, .inr 24), false), ((.inr 16, .inr 25), false), ((.inr 16, .inr 26), false), ((.inr 16, .inr 27), false), ((.inr 16, .inl "ValueError"), false), ((.inr 16, .inl "LookupError"), true), ((.inr 16, .inl "ArithmeticError"), false), ((.inr 17, .inr 1), false), ((.inr 17, .inr 2), false), ((.inr 17, .inr 3), false), ((.inr 17, .inr 4), false), ((.inr 17, .inr 5), false), ((.inr 17, .inr 6), false), ((.inr 17, .inr 7), false), ((.inr 17, .inr 8), false), ((.inr 17, .inr 9), false), ((.inr 17, .inr 10), false), ((.inr 17, .inr 11), false), ((.inr 17, .inr 12), false), ((.inr 17, .inr 13), false), ((.inr 17, .inr 14), false), ((.inr 17, .inr 15), false), ((.inr 17, .inr 16), true), ((.inr 17, .inr 17), true), ((.inr 17, .inr 18), false), ((.inr 17, .inr 19), false), ((.inr 17, .inr 20), false), ((.inr 17, .inr 21), false), ((.inr 17, .inr 22), false), ((.inr 17, .inr 23), false), ((.inr 17, .inr 24), false), ((.inr 17, .inr 25), false), ((.inr 17, .inr 26), false), ((.inr 17, .inr 27), false), ((.inr 17, .inl "ValueError"), false), ((.inr 17, .inl "LookupError"), true), ((.inr 17, .inl "ArithmeticError"), false), ((.inr 18, .inr 1), false), ((.inr 18, .inr 2), false), ((.inr 18, .inr 3), false), ((.inr 18, .inr 4), false), ((.inr 18, .inr 5), false), ((.inr 18, .inr 6), false), ((.inr 18, .inr 7), false), ((.inr 18, .inr 8), false), ((.inr 18, .inr 9), false), ((.inr 18, .inr 10), false), ((.inr 18, .inr 11), false), ((.inr 18, .inr 12), false), ((.inr 18, .inr 13), false), ((.inr 18, .inr 14), false), ((.inr 18, .inr 15), false), ((.inr 18, .inr 16), false), ((.inr 18, .inr 17), false), ((.inr 18, .inr 18), true), ((.inr 18, .inr 19), false), ((.inr 18, .inr 20), false), ((.inr 18, .inr 21), false), ((.inr 18, .inr 22), false), ((.inr 18, .inr 23), false), ((.inr 18, .inr 24), false), ((.inr 18, .inr 25), false), ((.inr 18, .inr 26), false), ((.inr 18, .inr 27), false), ((.inr 18, .inl "ValueError"), false), ((.inr 18, .inl "LookupError"), false), ((.inr 18, .inl "ArithmeticError"), true), ((.inr 19, .inr 1), false), ((.inr 19, .inr 2), false), ((.inr 19, .inr 3), false), ((.inr 19, .inr 4), false), ((.inr 19, .inr 5), false), ((.inr 19, .inr 6), false), ((.inr 19, .inr 7), false), ((.inr 19, .inr 8), false), ((.inr 19, .inr 9), false), ((.inr 19, .inr 10), false), ((.inr 19, .inr 11), false), ((.inr 19, .inr 12), false), ((.inr 19, .inr 13), false), ((.inr 19, .inr 14), false), ((.inr 19, .inr 15), false), ((.inr 19, .inr 16), false), ((.inr 19, .inr 17), false), ((.inr 19, .inr 18), true), ((.inr 19, .inr 19), true), ((.inr 19, .inr 20), false), ((.inr 19, .inr 21), false), ((.inr 19, .inr 22), false), ((.inr 19, .inr 23), false), ((.inr 19, .inr 24), false), ((.inr 19, .inr 25), false), ((.inr 19, .inr 26), false), ((.inr 19, .inr 27), false), ((.inr 19, .inl "ValueError"), false), ((.inr 19, .inl "LookupError"), false), ((.inr 19, .inl "ArithmeticError"), true), ((.inr 20, .inr 1), false), ((.inr 20, .inr 2), false), ((.inr 20, .inr 3), false), ((.inr 20, .inr 4), false), ((.inr 20, .inr 5), false), ((.inr 20, .inr 6), false), ((.inr 20, .inr 7), false), ((.inr 20, .inr 8), false), ((.inr 20, .inr 9), false), ((.inr 20, .inr 10), false), ((.inr 20, .inr 11), false), ((.inr 20, .inr 12), false), ((.inr 20, .inr 13), false), ((.inr 20, .inr 14), false), ((.inr 20, .inr 15), false), ((.inr 20, .inr 16), false), ((.inr 20, .inr 17), false), ((.inr 20, .inr 18), true), ((.inr 20, .inr 19), false), ((.inr 20, .inr 20), true), ((.inr 20, .inr 21), false), ((.inr 20, .inr 22), false), ((.inr 20, .inr 23), false), ((.inr 20, .inr 24), false), ((.inr 20, .inr 25), false), ((.inr 20, .inr 26), false), ((.inr 20, .inr 27), false), ((.inr 20, .inl "ValueError"), false), ((.inr 20, .inl "LookupError"), false), ((.inr 20, .inl "ArithmeticError"), true), ((.inr 21, .inr 1), true), ((.inr 21, .inr 2), false), ((.inr 21, .inr 3), false), ((.inr 21, .inr 4), false), ((.inr 21, .inr 5), false), ((.inr 21, .inr 6), false), ((.inr 21, .inr 7), false), ((.inr 21, .inr 8), false), ((.inr 21, .inr 9), false), ((.inr 21, .inr 10), false), ((.inr 21, .inr 11), false), ((.inr 21, .inr 12), false), ((.inr 21, .inr 13), false), ((.inr 21, .inr 14), false), ((.inr 21, .inr 15), false), ((.inr 21, .inr 16), false), ((.inr 21, .inr 17), false), ((.inr 21, .inr 18), false), ((.inr 21, .inr 19), false), ((.inr 21, .inr 20), false), ((.inr 21, .inr 21), true), ((.inr 21, .inr 22), false), ((.inr 21, .inr 23), false), ((.inr 21, .inr 24), false), ((.inr 21, .inr 25), false), ((.inr 21, .inr 26), false), ((.inr 21, .inr 27), false), ((.inr 21, .inl "ValueError"), true), ((.inr 21, .inl "LookupError"), false), ((.inr 21, .inl "ArithmeticError"), false), ((.inr 22, .inr 1), true), ((.inr 22, .inr 2), false), ((.inr 22, .inr 3), false), ((.inr 22, .inr 4), false), ((.inr 22, .inr 5), false), ((.inr 22, .inr 6), false), ((.inr 22, .inr 7), false), ((.inr 22, .inr 8), false), ((.inr 22, .inr 9), false), ((.inr 22, .inr 10), false), ((.inr 22, .inr 11), false), ((.inr 22, .inr 12), false), ((.inr 22, .inr 13), false), ((.inr 22, .inr 14), false), ((.inr 22, .inr 15), false), ((.inr 22, .inr 16), false), ((.inr 22, .inr 17), false), ((.inr 22, .inr 18), false), ((.inr 22, .inr 19), false), ((.inr 22, .inr 20), false), ((.inr 22, .inr 21), false), ((.inr 22, .inr 22), true), ((.inr 22, .inr 23), false), ((.inr 22, .inr 24), false), ((.inr 22, .inr 25), false), ((.inr 22, .inr 26), false), ((.inr 22, .inr 27), false), ((.inr 22, .inl "ValueError"), true), ((.inr 22, .inl "LookupError"), false), ((.inr 22, .inl "ArithmeticError"), false), ((.inr 23, .inr 1), true), ((.inr 23, .inr 2), false), ((.inr 23, .inr 3), false), ((.inr 23, .inr 4), false), ((.inr 23, .inr 5), false), ((.inr 23, .inr 6), false), ((.inr 23, .inr 7), false), ((.inr 23, .inr 8), false), ((.inr 23, .inr 9), false), ((.inr 23, .inr 10), false), ((.inr 23, .inr 11), false), ((.inr 23, .inr 12), false), ((.inr 23, .inr 13), false), ((.inr 23, .inr 14), false), ((.inr 23, .inr 15), false), ((.inr 23, .inr 16), false), ((.inr 23, .inr 17), false), ((.inr 23, .inr 18), false), ((.inr 23, .inr 19), false), ((.inr 23, .inr 20), false), ((.inr 23, .inr 21), false), ((.inr 23, .inr 22), false), ((.inr 23, .inr 23), true), ((.inr 23, .inr 24), false), ((.inr 23, .inr 25), false), ((.inr 23, .inr 26), false), ((.inr 23, .inr 27), false), ((.inr 23, .inl "ValueError"), true), ((.inr 23, .inl "LookupError"), false), ((.inr 23, .inl "ArithmeticError"), false), ((.inr 24, .inr 1), true), ((.inr 24, .inr 2), false), ((.inr 24, .inr 3), false), ((.inr 24, .inr 4), false), ((.inr 24, .inr 5), false), ((.inr 24, .inr 6), false), ((.inr 24, .inr 7), false), ((.inr 24, .inr 8), false), ((.inr 24, .inr 9), false), ((.inr 24, .inr 10), false), ((.inr 24, .inr 11), false), ((.inr 24, .inr 12), false), ((.inr 24, .inr 13), false), ((.inr 24, .inr 14), false), ((.inr 24, .inr 15), false), ((.inr 24, .inr 16), false), ((.inr 24, .inr 17), false), ((.inr 24, .inr 18), false), ((.inr 24, .inr 19), false), ((.inr 24, .inr 20), false), ((.inr 24, .inr 21), false), ((.inr 24, .inr 22), false), ((.inr 24, .inr 23), false), ((.inr 24, .inr 24), true), ((.inr 24, .inr 25), false), ((.inr 24, .inr 26), false), ((.inr 24, .inr 27), false), ((.inr 24, .inl "ValueError"), true), ((.inr 24, .inl "LookupError"), false), ((.inr 24, .inl "ArithmeticError"), false), ((.inr 25, .inr 1), false), ((.inr 25, .inr 2), false), ((.inr 25, .inr 3), false), ((.inr 25, .inr 4), false), ((.inr 25, .inr 5), false), ((.inr 25, .inr 6), false), ((.inr 25, .inr 7), false), ((.inr 25, .inr 8), false), ((.inr 25, .inr 9), false), ((.inr 25, .inr 10), false), ((.inr 25, .inr 11), false), ((.inr 25, .inr 12), false), ((.inr 25, .inr 13), false), ((.inr 25, .inr 14), false), ((.inr 25, .inr 15), false), ((.inr 25, .inr 16), true), ((.inr 25, .inr 17), false), ((.inr 25, .inr 18), false), ((.inr 25, .inr 19), false), ((.inr 25, .inr 20), false), ((.inr 25, .inr 21), false), ((.inr 25, .inr 22), false), ((.inr 25, .inr 23), false), ((.inr 25, .inr 24), false), ((.inr 25, .inr 25), true), ((.inr 25, .inr 26), false), ((.inr 25, .inr 27), false), ((.inr 25, .inl "ValueError"), false), ((.inr 25, .inl "LookupError"), true), ((.inr 25, .inl "ArithmeticError"), false), ((.inr 26, .inr 1), false), ((.inr 26, .inr 2), false), ((.inr 26, .inr 3), false), ((.inr 26, .inr 4), false), ((.inr 26, .inr 5), false), ((.inr 26, .inr 6), false), ((.inr 26, .inr 7), false), ((.inr 26, .inr 8), false), ((.inr 26, .inr 9), false), ((.inr 26, .inr 10), false), ((.inr 26, .inr 11), false), ((.inr 26, .inr 12), false), ((.inr 26, .inr 13), false), ((.inr 26, .inr 14), false), ((.inr 26, .inr 15), false), ((.inr 26, .inr 16), true), ((.inr 26, .inr 17), false), ((.inr 26, .inr 18), false), ((.inr 26, .inr 19), false), ((.inr 26, .inr 20), false), ((.inr 26, .inr 21), false), ((.inr 26, .inr 22), false), ((.inr 26, .inr 23), false), ((.inr 26, .inr 24), false), ((.inr 26, .inr 25), false), ((.inr 26, .inr 26), true), ((.inr 26, .inr 27), false), ((.inr 26, .inl "ValueError"), false), ((.inr 26, .inl "LookupError"), true), ((.inr 26, .inl "ArithmeticError"), false), ((.inr 27, .inr 1), false), ((.inr 27, .inr 2), false), ((.inr 27, .inr 3), false), ((.inr 27, .inr 4), false), ((.inr 27, .inr 5), false), ((.inr 27, .inr 6), false), ((.inr 27, .inr 7), false), ((.inr 27, .inr 8), false), ((.inr 27, .inr 9), false), ((.inr 27, .inr 10), false), ((.inr 27, .inr 11), false), ((.inr 27, .inr 12), false), ((.inr 27, .inr 13), false), ((.inr 27, .inr 14), false), ((.inr 27, .inr 15), false), ((.inr 27, .inr 16), false), ((.inr 27, .inr 17), false), ((.inr 27, .inr 18), true), ((.inr 27, .inr 19), false), ((.inr 27, .inr 20), false), ((.inr 27, .inr 21), false), ((.inr 27, .inr 22), false), ((.inr 27, .inr 23), false), ((.inr 27, .inr 24), false), ((.inr 27, .inr 25), false), ((.inr 27, .inr 26), false), ((.inr 27, .inr 27), true), ((.inr 27, .inl "ValueError"), false), ((.inr 27, .inl "LookupError"), false), ((.inr 27, .inl "ArithmeticError"), true)]
def icL : List Nat := []
def nfL : List (Nat × Tg) := []
def naL : List (Nat × Nat) := []
def ecL : List Nat := [1, 2, 3, 4, 5, 6, 7, 8, 9, 10, 11, 12, 13, 14, 15, 16, 17, 18, 19, 20, 21, 22, 23, 24, 25, 26, 27]
def kt : Tg → Tg → Option Bool := ktOf ktL
def ic : Nat → Bool := icOf icL
def nf : Nat → Tg → Bool := nfOf nfL
def na : Nat → Nat → Bool := naOf naL
def ec : Nat → Bool := ecOf ecL
def eo : Nat → Nat → Bool := eoOf ecL [0, 1, 2]
structure Fac (K : PySem.W.Frag) (mg : Str → Option Value) : Prop where
  b_ArithmeticError : mg "ArithmeticError" = none
  b_LookupError : mg "LookupError" = none
  b_ValueError : mg "ValueError" = none
  b_abs : mg "abs" = none
  b_all : mg "all" = none
  b_int : mg "int" = none
  b_isinstance : mg "isinstance" = none
  b_len : mg "len" = none
  b_max : mg "max" = none
  b_min : mg "min" = none
  b_range : mg "range" = none
  b_repr : mg "repr" = none
  gi_MOST_CHANGES : ∃ t, mg "MOST_CHANGES" = some (.int 6 t)
  gi_MOST_COUNT : ∃ t, mg "MOST_COUNT" = some (.int 1000 t)
  gi_MOST_DEEP : ∃ t, mg "MOST_DEEP" = some (.int 5 t)
  gi_MOST_DOORS : ∃ t, mg "MOST_DOORS" = some (.int 5 t)
  gi_MOST_LINES : ∃ t, mg "MOST_LINES" = some (.int 40 t)
  gi_MOST_NEEDED : ∃ t, mg "MOST_NEEDED" = some (.int 200 t)
  gi_MOST_PLAIN : ∃ t, mg "MOST_PLAIN" = some (.int 200 t)
  gi_MOST_PROGRAMS : ∃ t, mg "MOST_PROGRAMS" = some (.int 6 t)
  gi_MOST_ROOMS : ∃ t, mg "MOST_ROOMS" = some (.int 4 t)
  gf__law_bases : mg "_law_bases" = some (.ref (He.fAd K ("_law_bases", none)))
  kp__law_bases : PySem.W.keepIn K (.ref (He.fAd K ("_law_bases", none))) = true
  gf__law_dip : mg "_law_dip" = some (.ref (He.fAd K ("_law_dip", none)))
  kp__law_dip : PySem.W.keepIn K (.ref (He.fAd K ("_law_dip", none))) = true
  gf__law_kinds : mg "_law_kinds" = some (.ref (He.fAd K ("_law_kinds", none)))
  kp__law_kinds : PySem.W.keepIn K (.ref (He.fAd K ("_law_kinds", none))) = true
  gf__law_made : mg "_law_made" = some (.ref (He.fAd K ("_law_made", none)))
  kp__law_made : PySem.W.keepIn K (.ref (He.fAd K ("_law_made", none))) = true
  gf__law_odd : mg "_law_odd" = some (.ref (He.fAd K ("_law_odd", none)))
  kp__law_odd : PySem.W.keepIn K (.ref (He.fAd K ("_law_odd", none))) = true
  gf__law_one_class : mg "_law_one_class" = some (.ref (He.fAd K ("_law_one_class", none)))
  kp__law_one_class : PySem.W.keepIn K (.ref (He.fAd K ("_law_one_class", none))) = true
  gf__law_right : mg "_law_right" = some (.ref (He.fAd K ("_law_right", none)))
  kp__law_right : PySem.W.keepIn K (.ref (He.fAd K ("_law_right", none))) = true
  gf__law_well : mg "_law_well" = some (.ref (He.fAd K ("_law_well", none)))
  kp__law_well : PySem.W.keepIn K (.ref (He.fAd K ("_law_well", none))) = true
  gf_law : mg "law" = some (.ref (He.fAd K ("law", none)))
  kp_law : PySem.W.keepIn K (.ref (He.fAd K ("law", none))) = true
  gc_Broken : mg "Broken" = some (.ref (cA K 27))
  gc_CannotBe : mg "CannotBe" = some (.ref (cA K 18))
  gc_InvalidChanges : mg "InvalidChanges" = some (.ref (cA K 24))
  gc_InvalidClaim : mg "InvalidClaim" = some (.ref (cA K 22))
  gc_InvalidClaims : mg "InvalidClaims" = some (.ref (cA K 23))
  gc_InvalidCourse : mg "InvalidCourse" = some (.ref (cA K 5))
  gc_InvalidCourses : mg "InvalidCourses" = some (.ref (cA K 15))
  gc_InvalidDoor : mg "InvalidDoor" = some (.ref (cA K 3))
  gc_InvalidDoors : mg "InvalidDoors" = some (.ref (cA K 13))
  gc_InvalidNumber : mg "InvalidNumber" = some (.ref (cA K 6))
  gc_InvalidPrograms : mg "InvalidPrograms" = some (.ref (cA K 14))
  gc_InvalidRoom : mg "InvalidRoom" = some (.ref (cA K 2))
  gc_InvalidRooms : mg "InvalidRooms" = some (.ref (cA K 12))
  gc_InvalidTable : mg "InvalidTable" = some (.ref (cA K 21))
  gc_InvalidText : mg "InvalidText" = some (.ref (cA K 7))
  gc_InvalidWalk : mg "InvalidWalk" = some (.ref (cA K 4))
  gc_NotAHouse : mg "NotAHouse" = some (.ref (cA K 8))
  gc_NotAPlan : mg "NotAPlan" = some (.ref (cA K 10))
  gc_NotAProgram : mg "NotAProgram" = some (.ref (cA K 9))
  gc_NotCourses : mg "NotCourses" = some (.ref (cA K 11))
  gc_NotFit : mg "NotFit" = some (.ref (cA K 1))
  gc_NotThere : mg "NotThere" = some (.ref (cA K 16))
  gc_NothingToUndo : mg "NothingToUndo" = some (.ref (cA K 26))
  gc_OtherHouse : mg "OtherHouse" = some (.ref (cA K 20))
  gc_Unjoined : mg "Unjoined" = some (.ref (cA K 19))
  gc_UnknownClaim : mg "UnknownClaim" = some (.ref (cA K 25))
  gc_UnknownProgram : mg "UnknownProgram" = some (.ref (cA K 17))
  ki : KI K (cA K) kt ic
  ex_InvalidCourse : ExT K mg (cA K 5) (AI_InvalidCourse K) "InvalidCourse" (aN 0) veN veM
  ex_InvalidWalk : ExT K mg (cA K 4) (AI_InvalidWalk K) "InvalidWalk" (aN 0) veN veM
  ex_InvalidDoor : ExT K mg (cA K 3) (AI_InvalidDoor K) "InvalidDoor" (aN 0) veN veM
  ex_InvalidRoom : ExT K mg (cA K 2) (AI_InvalidRoom K) "InvalidRoom" (aN 0) veN veM
  ex_InvalidClaim : ExT K mg (cA K 22) (AI_InvalidClaim K) "InvalidClaim" (aN 0) veN veM
  ex_InvalidTable : ExT K mg (cA K 21) (AI_InvalidTable K) "InvalidTable" (aN 0) veN veM
  ex_InvalidText : ExT K mg (cA K 7) (AI_InvalidText K) "InvalidText" (aN 0) veN veM
  ex_InvalidNumber : ExT K mg (cA K 6) (AI_InvalidNumber K) "InvalidNumber" (aN 0) veN veM
  ex_NotCourses : ExT K mg (cA K 11) (AI_NotCourses K) "NotCourses" (aN 0) veN veM
  ex_NotAPlan : ExT K mg (cA K 10) (AI_NotAPlan K) "NotAPlan" (aN 0) veN veM
  ex_NotAProgram : ExT K mg (cA K 9) (AI_NotAProgram K) "NotAProgram" (aN 0) veN veM
  ex_NotAHouse : ExT K mg (cA K 8) (AI_NotAHouse K) "NotAHouse" (aN 0) veN veM
  ex_InvalidCourses : ExT K mg (cA K 15) (AI_InvalidCourses K) "InvalidCourses" (aN 1) veN veM
  ex_InvalidPrograms : ExT K mg (cA K 14) (AI_InvalidPrograms K) "InvalidPrograms" (aN 1) veN veM
  ex_InvalidDoors : ExT K mg (cA K 13) (AI_InvalidDoors K) "InvalidDoors" (aN 1) veN veM
  ex_InvalidRooms : ExT K mg (cA K 12) (AI_InvalidRooms K) "InvalidRooms" (aN 1) veN veM
  ex_InvalidChanges : ExT K mg (cA K 24) (AI_InvalidChanges K) "InvalidChanges" (aN 1) veN veM
  ex_InvalidClaims : ExT K mg (cA K 23) (AI_InvalidClaims K) "InvalidClaims" (aN 1) veN veM
  ex_UnknownClaim : ExT K mg (cA K 25) (AI_UnknownClaim K) "UnknownClaim" (aN 0) leN leM
  ex_UnknownProgram : ExT K mg (cA K 17) (AI_UnknownProgram K) "UnknownProgram" (aN 0) leN leM
  ex_Broken : ExT K mg (cA K 27) (AI_Broken K) "Broken" (aN 1) arN arM
  at2_Broken : PySem.W.findIn K (.ref (cA K 27)) (aN 2) = some none
  e0v_NothingToUndo : PySem.W.excIn K (cA K 26) leM leN = true
  e0k_NothingToUndo : PySem.W.keepIn K (.ref (cA K 26)) = true
  e0v_OtherHouse : PySem.W.excIn K (cA K 20) arM arN = true
  e0k_OtherHouse : PySem.W.keepIn K (.ref (cA K 20)) = true
  e0v_Unjoined : PySem.W.excIn K (cA K 19) arM arN = true
  e0k_Unjoined : PySem.W.keepIn K (.ref (cA K 19)) = true
  exk : ExKs K (cA K) ecL
  xat : ∀ C ∈ ecL, ∀ n ∈ [0, 1, 2], PySem.W.findIn K (.ref (cA K C)) (aN n) = some none
  sys : SysK K
  tu : tuB tfs K = true
  kf : KF K (cA K) na
theorem Fac.ek {K : PySem.W.Frag} {mg : Str → Option Value} (F : Fac K mg) : EK K (cA K) ec := ek_of F.exk
theorem Fac.eo {K : PySem.W.Frag} {mg : Str → Option Value} (F : Fac K mg) : EO K (cA K) eo := eo_of F.exk F.xat
section
variable {P : Program} {w : World} {K : PySem.W.Frag} {mg : Str → Option Value} {base : Heap}
abbrev s_L_law_well : Stmt := (top 38)
abbrev N_L_law_well : List Str := ["script", "turn", "entry", "stirred", "each"]
theorem nd_L_law_well : N_L_law_well.Nodup := by decide +kernel
abbrev P_L_law_well : List Str := ["script", "turn"]
abbrev A_L_law_well (K : PySem.W.Frag) : Addr := He.fAd K ("_law_well", none)
noncomputable def b_L_law_well : MS :=
    (seqS (asgS (ifM (tB (b2 ltV (vM 1) (fA lenV (consM (vM 0) nilM)))) (fA intV (consM (b2 ixV (vM 0) (vM 1)) nilM)) (b2 addV (b2 mulV (cM (.int 37)) (vM 1)) (cM (.int 5)))) (gNameM 2))
    (seqS (asgS (b2 addV (cM (.int 8191)) (b2 mulV (cM (.int 613)) (vM 1))) (gNameM 3))
    (seqS (forS (itL (slM slV (vM 0) noP (inP (cM (.int 8))))) (gNameM 4) (asgS (b2 modV (fA intV (consM (b2 addV (b2 addV (b2 mulV (vM 3) (cM (.int 48271))) (b2 modV (fA intV (consM (vM 4) nilM)) (cM (.int 1000033)))) (vM 1)) nilM)) (cM (.int 2147483647))) (gNameM 3)))
    (seqS (asgS (b2 modV (fA intV (consM (b2 addV (b2 mulV (vM 3) (cM (.int 48271))) (b2 modV (fA intV (consM (vM 2) nilM)) (cM (.int 1000033)))) nilM)) (cM (.int 2147483647))) (gNameM 3))
    (retS (newM (consM (ifM (tB (b2 geV (fA absV (consM (vM 2) nilM)) (b2 powV (cM (.int 10)) (cM (.int 18))))) (fA absV (consM (vM 2) nilM)) (cM (.int 0))) (consM (vM 3) (consM (cM (.int 0)) nilM)))))))))
noncomputable def m0_L_law_well : List Val → Store → R Val := defK 2 5 b_L_law_well
noncomputable def m_L_law_well : List Val → Store → R Val := m0_L_law_well
theorem o_L_law_well (Fc : Fac K mg) {fd : FuncData} (F : FunD K "_law_well" "_law_well" (defArgs s_L_law_well) (defBody s_L_law_well) (defScope s_L_law_well) [] [] (A_L_law_well K) fd) : FnOk P w K mg base (L2N.CX P w) 1 (A_L_law_well K) fd P_L_law_well (SpM K (cA K) m0_L_law_well) :=
  def_okO (N := N_L_law_well) (ps := P_L_law_well) (k := 0) (np := 2) (nn := 5) (mb := b_L_law_well) F ⟨rfl, rfl, rfl, by decide +kernel, rfl, by decide +kernel, by decide +kernel⟩ rfl rfl fun cdv A outer s H E hr tk =>
      (s_cons (s_set (i := 2) nd_L_law_well (c_if (c_tcmp op_ltV (c_var 1) (c_callB b_len Fc.b_len (c_cons (c_var 0) c_nil))) (c_callTy b_int Fc.b_int (c_cons (c_ix (hu200 hr) (c_var 0) (c_var 1)) c_nil)) (c_bin op_addV (c_bin op_mulV c_int (c_var 1)) c_int)))
      (s_cons (s_set (i := 3) nd_L_law_well (c_bin op_addV c_int (c_bin op_mulV c_int (c_var 1))))
      (s_cons (s_for (passes_of rfl) rfl (i_list (c_sl (c_var 0) c_noP (c_inP c_int))) (g_name nd_L_law_well) (s_one (s_set (i := 3) nd_L_law_well (c_bin op_modV (c_callTy b_int Fc.b_int (c_cons (c_bin op_addV (c_bin op_addV (c_bin op_mulV (c_var 3) c_int) (c_bin op_modV (c_callTy b_int Fc.b_int (c_cons (c_var 4) c_nil)) c_int)) (c_var 1)) c_nil)) c_int))))
      (s_cons (s_set (i := 3) nd_L_law_well (c_bin op_modV (c_callTy b_int Fc.b_int (c_cons (c_bin op_addV (c_bin op_mulV (c_var 3) c_int) (c_bin op_modV (c_callTy b_int Fc.b_int (c_cons (c_var 2) c_nil)) c_int)) c_nil)) c_int))
      (s_one (s_ret (c_new (c_cons (c_if (c_tcmp op_geV (c_callB b_abs Fc.b_abs (c_cons (c_var 2) c_nil)) (c_bin op_powV c_int c_int)) (c_callB b_abs Fc.b_abs (c_cons (c_var 2) c_nil)) c_int) (c_cons (c_var 3) (c_cons c_int c_nil))))))))))
theorem ok_L_law_well (Fc : Fac K mg) {fd : FuncData} (F : FunD K "_law_well" "_law_well" (defArgs s_L_law_well) (defBody s_L_law_well) (defScope s_L_law_well) [] [] (A_L_law_well K) fd) : FnM P w K mg base (cA K) 1 (A_L_law_well K) m_L_law_well := (FnM.of (o_L_law_well Fc F ) (F.bindsN fun _ _ _ _ _ _ us hl => match us, hl with | [_, _], _ => rfl))
abbrev s_L_law_dip : Stmt := (top 39)
abbrev N_L_law_dip : List Str := ["well", "size", "digit"]
theorem nd_L_law_dip : N_L_law_dip.Nodup := by decide +kernel
abbrev P_L_law_dip : List Str := ["well", "size"]
abbrev A_L_law_dip (K : PySem.W.Frag) : Addr := He.fAd K ("_law_dip", none)
noncomputable def b_L_law_dip : MS :=
    (seqS (asgS (b2 addV (b2 ixV (vM 0) (cM (.int 2))) (cM (.int 1))) (gSubM (vM 0) (cM (.int 2))))
    (seqS (ifS (tB (b2 gtV (b2 ixV (vM 0) (cM (.int 0))) (cM (.int 0)))) (seqS (asgS (b2 modV (fA intV (consM (b2 ixV (vM 0) (cM (.int 0))) nilM)) (vM 1)) (gNameM 2))
    (seqS (asgS (b2 fdivV (fA intV (consM (b2 ixV (vM 0) (cM (.int 0))) nilM)) (vM 1)) (gSubM (vM 0) (cM (.int 0))))
    (retS (vM 2)))) nextS)
    (seqS (asgS (b2 modV (fA intV (consM (b2 addV (b2 addV (b2 mulV (b2 ixV (vM 0) (cM (.int 1))) (cM (.int 48271))) (b2 mulV (cM (.int 7919)) (b2 ixV (vM 0) (cM (.int 2))))) (cM (.int 11))) nilM)) (cM (.int 2147483647))) (gSubM (vM 0) (cM (.int 1))))
    (retS (b2 modV (fA intV (consM (b2 fdivV (b2 ixV (vM 0) (cM (.int 1))) (cM (.int 1024))) nilM)) (vM 1))))))
noncomputable def m0_L_law_dip : List Val → Store → R Val := defK 2 3 b_L_law_dip
noncomputable def m_L_law_dip : List Val → Store → R Val := finM m0_L_law_dip
theorem o_L_law_dip (Fc : Fac K mg) {fd : FuncData} (F : FunD K "_law_dip" "_law_dip" (defArgs s_L_law_dip) (defBody s_L_law_dip) (defScope s_L_law_dip) [] [] (A_L_law_dip K) fd) : FnOk P w K mg base (L2N.CX P w) 1 (A_L_law_dip K) fd P_L_law_dip (SpM K (cA K) m0_L_law_dip) :=
  def_okO (N := N_L_law_dip) (ps := P_L_law_dip) (k := 0) (np := 2) (nn := 3) (mb := b_L_law_dip) F ⟨rfl, rfl, rfl, by decide +kernel, rfl, by decide +kernel, by decide +kernel⟩ rfl rfl fun cdv A outer s H E hr tk =>
      (s_cons (s_asg (c_bin op_addV (c_ix (hu200 hr) (c_var 0) c_int) c_int) (g_sub (W := Wf E) (hu200 hr) (c_var 0) c_int))
      (s_cons (s_if (c_tcmp op_gtV (c_ix (hu200 hr) (c_var 0) c_int) c_int) (s_cons (s_set (i := 2) nd_L_law_dip (c_bin op_modV (c_callTy b_int Fc.b_int (c_cons (c_ix (hu200 hr) (c_var 0) c_int) c_nil)) (c_var 1)))
      (s_cons (s_asg (c_bin op_fdivV (c_callTy b_int Fc.b_int (c_cons (c_ix (hu200 hr) (c_var 0) c_int) c_nil)) (c_var 1)) (g_sub (W := Wf E) (hu200 hr) (c_var 0) c_int))
      (s_one (s_ret (c_var 2))))) s_nil)
      (s_cons (s_asg (c_bin op_modV (c_callTy b_int Fc.b_int (c_cons (c_bin op_addV (c_bin op_addV (c_bin op_mulV (c_ix (hu200 hr) (c_var 0) c_int) c_int) (c_bin op_mulV c_int (c_ix (hu200 hr) (c_var 0) c_int))) c_int) c_nil)) c_int) (g_sub (W := Wf E) (hu200 hr) (c_var 0) c_int))
      (s_one (s_ret (c_bin op_modV (c_callTy b_int Fc.b_int (c_cons (c_bin op_fdivV (c_ix (hu200 hr) (c_var 0) c_int) c_int) c_nil)) (c_var 1)))))))
theorem ok_L_law_dip (Fc : Fac K mg) {fd : FuncData} (F : FunD K "_law_dip" "_law_dip" (defArgs s_L_law_dip) (defBody s_L_law_dip) (defScope s_L_law_dip) [] [] (A_L_law_dip K) fd) : FnM P w K mg base (cA K) 1 (A_L_law_dip K) m_L_law_dip := (FnM.of (o_L_law_dip Fc F ) (F.bindsN fun _ _ _ _ _ _ us hl => match us, hl with | [_, _], _ => rfl)).fin
abbrev s_L_law_odd : Stmt := (top 40)
abbrev N_L_law_odd : List Str := ["well", "some"]
theorem nd_L_law_odd : N_L_law_odd.Nodup := by decide +kernel
abbrev P_L_law_odd : List Str := ["well"]
abbrev A_L_law_odd (K : PySem.W.Frag) : Addr := He.fAd K ("_law_odd", none)
noncomputable def b_L_law_odd : MS :=
    (seqS (asgS (lstM (consM (cM .non) (consM (cM (.bl true)) (consM (cM (.bl false)) (consM (cM (.int 0)) (consM (cM (.int 1)) (consM (u1 (fun _ => negV default) (cM (.int 1))) (consM (b2 powV (cM (.int 10)) (cM (.int 39))) (consM (cM (strL "")) (consM (cM (strL "a")) (consM (cM (strL "A")) (consM (cM (strL "hall")) (consM (cM (strL "Hall")) (consM (cM (strL "ab cd")) (consM (cM (strL "go a")) (consM (cM (strL "or")) (consM (cM (strL "a\n")) (consM (cM (strL "1")) nilM)))))))))))))))))) (gNameM 1))
    (seqS (asgS (b2 addV (vM 1) (lstM (consM (cM (strL "ninesigns")) (consM (cM (strL "hall yard")) (consM (tupM nilM) (consM (tupM (consM (cM .non) nilM)) (consM (tupM (consM (cM (strL "hall")) nilM)) (consM (tupM (consM (cM (strL "hall")) (consM (cM (strL "")) nilM))) (consM (tupM (consM (cM (strL "hall")) (consM (cM (strL "a")) nilM))) (consM (tupM (consM (cM (strL "a")) (consM (cM (strL "hall")) (consM (cM (strL "hall")) nilM)))) nilM)))))))))) (gNameM 1))
    (seqS (asgS (b2 addV (vM 1) (lstM (consM (lstM nilM) (consM (lstM (consM (cM (strL "hall")) nilM)) (consM (lstM (consM (cM (strL "hall")) (consM (cM (strL "")) nilM))) (consM dnewM (consM (dispM [((cM (strL "a")), (cM (.int 1)))]) (consM (tupM (consM (tupM nilM) nilM)) (consM (tupM (consM (lstM nilM) nilM)) (consM (tupM (consM (cM (strL "hall")) (consM (lstM nilM) nilM))) (consM (tupM (consM (cM (strL "")) (consM (cM (strL "hall")) (consM (cM (strL "hall")) nilM)))) (consM (tupM (consM (cM (.int 0)) (consM (cM (.int 1)) nilM))) nilM)))))))))))) (gNameM 1))
    (retS (b2 ixV (vM 1) (callM m_L_law_dip (consM (vM 0) (consM (fA lenV (consM (vM 1) nilM)) nilM))))))))
noncomputable def m0_L_law_odd : List Val → Store → R Val := defK 1 2 b_L_law_odd
noncomputable def m_L_law_odd : List Val → Store → R Val := finM m0_L_law_odd
theorem o_L_law_odd (Fc : Fac K mg) {fd : FuncData} (F : FunD K "_law_odd" "_law_odd" (defArgs s_L_law_odd) (defBody s_L_law_odd) (defScope s_L_law_odd) [] [] (A_L_law_odd K) fd) (G_L_law_dip : FnM P w K mg base (cA K) 1 (A_L_law_dip K) m_L_law_dip) : FnOk P w K mg base (L2N.CX P w) 2 (A_L_law_odd K) fd P_L_law_odd (SpM K (cA K) m0_L_law_odd) :=
  def_okO (N := N_L_law_odd) (ps := P_L_law_odd) (k := 1) (np := 1) (nn := 2) (mb := b_L_law_odd) F ⟨rfl, rfl, rfl, by decide +kernel, rfl, by decide +kernel, by decide +kernel⟩ rfl rfl fun cdv A outer s H E hr tk =>
      (s_cons (s_set (i := 1) nd_L_law_odd (c_lst (c_cons c_non (c_cons c_bl (c_cons c_bl (c_cons c_int (c_cons c_int (c_cons (c_un un_negV c_int) (c_cons (c_bin op_powV c_int c_int) (c_cons c_str (c_cons c_str (c_cons c_str (c_cons c_str (c_cons c_str (c_cons c_str (c_cons c_str (c_cons c_str (c_cons c_str (c_cons c_str c_nil)))))))))))))))))))
      (s_cons (s_set (i := 1) nd_L_law_odd (c_bin op_addV (c_var 1) (c_lst (c_cons c_str (c_cons c_str (c_cons (c_tup c_nil) (c_cons (c_tup (c_cons c_non c_nil)) (c_cons (c_tup (c_cons c_str c_nil)) (c_cons (c_tup (c_cons c_str (c_cons c_str c_nil))) (c_cons (c_tup (c_cons c_str (c_cons c_str c_nil))) (c_cons (c_tup (c_cons c_str (c_cons c_str (c_cons c_str c_nil)))) c_nil)))))))))))
      (s_cons (s_set (i := 1) nd_L_law_odd (c_bin op_addV (c_var 1) (c_lst (c_cons (c_lst c_nil) (c_cons (c_lst (c_cons c_str c_nil)) (c_cons (c_lst (c_cons c_str (c_cons c_str c_nil))) (c_cons c_dnew (c_cons (c_disp (mps := [((cM (strL "a")), (cM (.int 1)))]) (dps_cons c_str c_int dps_nil)) (c_cons (c_tup (c_cons (c_tup c_nil) c_nil)) (c_cons (c_tup (c_cons (c_lst c_nil) c_nil)) (c_cons (c_tup (c_cons c_str (c_cons (c_lst c_nil) c_nil))) (c_cons (c_tup (c_cons c_str (c_cons c_str (c_cons c_str c_nil)))) (c_cons (c_tup (c_cons c_int (c_cons c_int c_nil))) c_nil)))))))))))))
      (s_one (s_ret (c_ix (hu200 hr) (c_var 1) (c_call G_L_law_dip Fc.gf__law_dip Fc.kp__law_dip (hr.mono (by decide)) tk (c_cons (c_var 0) (c_cons (c_callB b_len Fc.b_len (c_cons (c_var 1) c_nil)) c_nil)))))))))
theorem ok_L_law_odd (Fc : Fac K mg) {fd : FuncData} (F : FunD K "_law_odd" "_law_odd" (defArgs s_L_law_odd) (defBody s_L_law_odd) (defScope s_L_law_odd) [] [] (A_L_law_odd K) fd) (G_L_law_dip : FnM P w K mg base (cA K) 1 (A_L_law_dip K) m_L_law_dip) : FnM P w K mg base (cA K) 2 (A_L_law_odd K) m_L_law_odd := (FnM.of (o_L_law_odd Fc F G_L_law_dip) (F.bindsN fun _ _ _ _ _ _ us hl => match us, hl with | [_], _ => rfl)).fin
end
end K01

set_option Elab.async false
set_option linter.all false
set_option maxRecDepth 100000
set_option maxHeartbeats 4000000
namespace K01
open PySem PySem.Spec PyProof.Rows L2 CC LamX
section
variable {P : Program} {w : World} {K : PySem.W.Frag} {mg : Str → Option Value} {base : Heap}
abbrev s_L_law_made : Stmt := (top 41)
abbrev N_L_law_made : List Str := ["thing", "by_given", "by_index"]
theorem nd_L_law_made : N_L_law_made.Nodup := by decide +kernel
abbrev P_L_law_made : List Str := ["thing"]
abbrev A_L_law_made (K : PySem.W.Frag) : Addr := He.fAd K ("_law_made", none)
noncomputable def b_L_law_made : MS :=
    (seqS (asgS (lstM (consM (mkE 2 [0] (consM (vM 0) nilM)) (consM (mkE 3 [0] (consM (vM 0) nilM)) (consM (mkE 4 [0] (consM (vM 0) nilM)) (consM (mkE 5 [0] (consM (vM 0) nilM)) nilM))))) (gNameM 1))
    (seqS (asgS (b2 addV (vM 1) (lstM (consM (mkE 6 [0] (consM (vM 0) nilM)) (consM (mkE 7 [0] (consM (vM 0) nilM)) (consM (mkE 21 [0] (consM (vM 0) nilM)) (consM (mkE 22 [0] (consM (vM 0) nilM)) nilM)))))) (gNameM 1))
    (seqS (asgS (b2 addV (vM 1) (lstM (consM (mkE 8 [0] (consM (vM 0) nilM)) (consM (mkE 9 [0] (consM (vM 0) nilM)) (consM (mkE 10 [0] (consM (vM 0) nilM)) (consM (mkE 11 [0] (consM (vM 0) nilM)) nilM)))))) (gNameM 1))
    (seqS (asgS (lstM (consM (mkE 12 [1] (consM (vM 0) nilM)) (consM (mkE 13 [1] (consM (vM 0) nilM)) (consM (mkE 14 [1] (consM (vM 0) nilM)) (consM (mkE 15 [1] (consM (vM 0) nilM)) nilM))))) (gNameM 2))
    (retS (lstM (consM (vM 1) (consM (b2 addV (vM 2) (lstM (consM (mkE 23 [1] (consM (vM 0) nilM)) (consM (mkE 24 [1] (consM (vM 0) nilM)) nilM)))) nilM))))))))
noncomputable def m0_L_law_made : List Val → Store → R Val := defK 1 3 b_L_law_made
noncomputable def m_L_law_made : List Val → Store → R Val := finM m0_L_law_made
theorem o_L_law_made (Fc : Fac K mg) {fd : FuncData} (F : FunD K "_law_made" "_law_made" (defArgs s_L_law_made) (defBody s_L_law_made) (defScope s_L_law_made) [] [] (A_L_law_made K) fd) {fd_InvalidCourse : FuncData} (I_InvalidCourse : FnOk P w K mg base (L2N.CX P w) 1 (AI_InvalidCourse K) fd_InvalidCourse PI_InvalidCourse (SpT K veN veM (aN 0))) (bI_InvalidCourse : Binds K fd_InvalidCourse PI_InvalidCourse []) (kwI_InvalidCourse : KBn K fd_InvalidCourse PI_InvalidCourse 1 ["given"] (fun us ws => us ++ ws) (fun vs zs => vs ++ zs)) {fd_InvalidWalk : FuncData} (I_InvalidWalk : FnOk P w K mg base (L2N.CX P w) 1 (AI_InvalidWalk K) fd_InvalidWalk PI_InvalidWalk (SpT K veN veM (aN 0))) (bI_InvalidWalk : Binds K fd_InvalidWalk PI_InvalidWalk []) {fd_InvalidDoor : FuncData} (I_InvalidDoor : FnOk P w K mg base (L2N.CX P w) 1 (AI_InvalidDoor K) fd_InvalidDoor PI_InvalidDoor (SpT K veN veM (aN 0))) (bI_InvalidDoor : Binds K fd_InvalidDoor PI_InvalidDoor []) (kwI_InvalidDoor : KBn K fd_InvalidDoor PI_InvalidDoor 1 ["given"] (fun us ws => us ++ ws) (fun vs zs => vs ++ zs)) {fd_InvalidRoom : FuncData} (I_InvalidRoom : FnOk P w K mg base (L2N.CX P w) 1 (AI_InvalidRoom K) fd_InvalidRoom PI_InvalidRoom (SpT K veN veM (aN 0))) (bI_InvalidRoom : Binds K fd_InvalidRoom PI_InvalidRoom []) {fd_InvalidClaim : FuncData} (I_InvalidClaim : FnOk P w K mg base (L2N.CX P w) 1 (AI_InvalidClaim K) fd_InvalidClaim PI_InvalidClaim (SpT K veN veM (aN 0))) (bI_InvalidClaim : Binds K fd_InvalidClaim PI_InvalidClaim []) (kwI_InvalidClaim : KBn K fd_InvalidClaim PI_InvalidClaim 1 ["given"] (fun us ws => us ++ ws) (fun vs zs => vs ++ zs)) {fd_InvalidTable : FuncData} (I_InvalidTable : FnOk P w K mg base (L2N.CX P w) 1 (AI_InvalidTable K) fd_InvalidTable PI_InvalidTable (SpT K veN veM (aN 0))) (bI_InvalidTable : Binds K fd_InvalidTable PI_InvalidTable []) {fd_InvalidText : FuncData} (I_InvalidText : FnOk P w K mg base (L2N.CX P w) 1 (AI_InvalidText K) fd_InvalidText PI_InvalidText (SpT K veN veM (aN 0))) (bI_InvalidText : Binds K fd_InvalidText PI_InvalidText []) (kwI_InvalidText : KBn K fd_InvalidText PI_InvalidText 1 ["given"] (fun us ws => us ++ ws) (fun vs zs => vs ++ zs)) {fd_InvalidNumber : FuncData} (I_InvalidNumber : FnOk P w K mg base (L2N.CX P w) 1 (AI_InvalidNumber K) fd_InvalidNumber PI_InvalidNumber (SpT K veN veM (aN 0))) (bI_InvalidNumber : Binds K fd_InvalidNumber PI_InvalidNumber []) {fd_NotCourses : FuncData} (I_NotCourses : FnOk P w K mg base (L2N.CX P w) 1 (AI_NotCourses K) fd_NotCourses PI_NotCourses (SpT K veN veM (aN 0))) (bI_NotCourses : Binds K fd_NotCourses PI_NotCourses []) (kwI_NotCourses : KBn K fd_NotCourses PI_NotCourses 1 ["given"] (fun us ws => us ++ ws) (fun vs zs => vs ++ zs)) {fd_NotAPlan : FuncData} (I_NotAPlan : FnOk P w K mg base (L2N.CX P w) 1 (AI_NotAPlan K) fd_NotAPlan PI_NotAPlan (SpT K veN veM (aN 0))) (bI_NotAPlan : Binds K fd_NotAPlan PI_NotAPlan []) {fd_NotAProgram : FuncData} (I_NotAProgram : FnOk P w K mg base (L2N.CX P w) 1 (AI_NotAProgram K) fd_NotAProgram PI_NotAProgram (SpT K veN veM (aN 0))) (bI_NotAProgram : Binds K fd_NotAProgram PI_NotAProgram []) (kwI_NotAProgram : KBn K fd_NotAProgram PI_NotAProgram 1 ["given"] (fun us ws => us ++ ws) (fun vs zs => vs ++ zs)) {fd_NotAHouse : FuncData} (I_NotAHouse : FnOk P w K mg base (L2N.CX P w) 1 (AI_NotAHouse K) fd_NotAHouse PI_NotAHouse (SpT K veN veM (aN 0))) (bI_NotAHouse : Binds K fd_NotAHouse PI_NotAHouse []) {fd_InvalidCourses : FuncData} (I_InvalidCourses : FnOk P w K mg base (L2N.CX P w) 1 (AI_InvalidCourses K) fd_InvalidCourses PI_InvalidCourses (SpT K veN veM (aN 1))) (bI_InvalidCourses : Binds K fd_InvalidCourses PI_InvalidCourses []) (kwI_InvalidCourses : KBn K fd_InvalidCourses PI_InvalidCourses 1 ["index"] (fun us ws => us ++ ws) (fun vs zs => vs ++ zs)) {fd_InvalidPrograms : FuncData} (I_InvalidPrograms : FnOk P w K mg base (L2N.CX P w) 1 (AI_InvalidPrograms K) fd_InvalidPrograms PI_InvalidPrograms (SpT K veN veM (aN 1))) (bI_InvalidPrograms : Binds K fd_InvalidPrograms PI_InvalidPrograms []) {fd_InvalidDoors : FuncData} (I_InvalidDoors : FnOk P w K mg base (L2N.CX P w) 1 (AI_InvalidDoors K) fd_InvalidDoors PI_InvalidDoors (SpT K veN veM (aN 1))) (bI_InvalidDoors : Binds K fd_InvalidDoors PI_InvalidDoors []) (kwI_InvalidDoors : KBn K fd_InvalidDoors PI_InvalidDoors 1 ["index"] (fun us ws => us ++ ws) (fun vs zs => vs ++ zs)) {fd_InvalidRooms : FuncData} (I_InvalidRooms : FnOk P w K mg base (L2N.CX P w) 1 (AI_InvalidRooms K) fd_InvalidRooms PI_InvalidRooms (SpT K veN veM (aN 1))) (bI_InvalidRooms : Binds K fd_InvalidRooms PI_InvalidRooms []) {fd_InvalidChanges : FuncData} (I_InvalidChanges : FnOk P w K mg base (L2N.CX P w) 1 (AI_InvalidChanges K) fd_InvalidChanges PI_InvalidChanges (SpT K veN veM (aN 1))) (bI_InvalidChanges : Binds K fd_InvalidChanges PI_InvalidChanges []) (kwI_InvalidChanges : KBn K fd_InvalidChanges PI_InvalidChanges 1 ["index"] (fun us ws => us ++ ws) (fun vs zs => vs ++ zs)) {fd_InvalidClaims : FuncData} (I_InvalidClaims : FnOk P w K mg base (L2N.CX P w) 1 (AI_InvalidClaims K) fd_InvalidClaims PI_InvalidClaims (SpT K veN veM (aN 1))) (bI_InvalidClaims : Binds K fd_InvalidClaims PI_InvalidClaims []) : FnOk P w K mg base (L2N.CX P w) 3 (A_L_law_made K) fd P_L_law_made (SpM K (cA K) m0_L_law_made) :=
  def_okO (N := N_L_law_made) (ps := P_L_law_made) (k := 2) (np := 1) (nn := 3) (mb := b_L_law_made) F ⟨rfl, rfl, rfl, by decide +kernel, rfl, by decide +kernel, by decide +kernel⟩ rfl rfl fun cdv A outer s H E hr tk =>
      (s_cons (s_set (i := 1) nd_L_law_made (c_lst (c_cons (c_err (C := 2) (n := 0) baseVE (by decide) Fc.ex_InvalidRoom I_InvalidRoom (hr.mono (by decide)) bI_InvalidRoom rfl (c_var 0)) (c_cons (c_errK (C := 3) (n := 0) (ks := ["given"]) baseVE (by decide) Fc.ex_InvalidDoor I_InvalidDoor (hr.mono (by decide)) rfl kwI_InvalidDoor (k_cons (c_var 0) k_nil)) (c_cons (c_err (C := 4) (n := 0) baseVE (by decide) Fc.ex_InvalidWalk I_InvalidWalk (hr.mono (by decide)) bI_InvalidWalk rfl (c_var 0)) (c_cons (c_errK (C := 5) (n := 0) (ks := ["given"]) baseVE (by decide) Fc.ex_InvalidCourse I_InvalidCourse (hr.mono (by decide)) rfl kwI_InvalidCourse (k_cons (c_var 0) k_nil)) c_nil))))))
      (s_cons (s_set (i := 1) nd_L_law_made (c_bin op_addV (c_var 1) (c_lst (c_cons (c_err (C := 6) (n := 0) baseVE (by decide) Fc.ex_InvalidNumber I_InvalidNumber (hr.mono (by decide)) bI_InvalidNumber rfl (c_var 0)) (c_cons (c_errK (C := 7) (n := 0) (ks := ["given"]) baseVE (by decide) Fc.ex_InvalidText I_InvalidText (hr.mono (by decide)) rfl kwI_InvalidText (k_cons (c_var 0) k_nil)) (c_cons (c_err (C := 21) (n := 0) baseVE (by decide) Fc.ex_InvalidTable I_InvalidTable (hr.mono (by decide)) bI_InvalidTable rfl (c_var 0)) (c_cons (c_errK (C := 22) (n := 0) (ks := ["given"]) baseVE (by decide) Fc.ex_InvalidClaim I_InvalidClaim (hr.mono (by decide)) rfl kwI_InvalidClaim (k_cons (c_var 0) k_nil)) c_nil)))))))
      (s_cons (s_set (i := 1) nd_L_law_made (c_bin op_addV (c_var 1) (c_lst (c_cons (c_err (C := 8) (n := 0) baseVE (by decide) Fc.ex_NotAHouse I_NotAHouse (hr.mono (by decide)) bI_NotAHouse rfl (c_var 0)) (c_cons (c_errK (C := 9) (n := 0) (ks := ["given"]) baseVE (by decide) Fc.ex_NotAProgram I_NotAProgram (hr.mono (by decide)) rfl kwI_NotAProgram (k_cons (c_var 0) k_nil)) (c_cons (c_err (C := 10) (n := 0) baseVE (by decide) Fc.ex_NotAPlan I_NotAPlan (hr.mono (by decide)) bI_NotAPlan rfl (c_var 0)) (c_cons (c_errK (C := 11) (n := 0) (ks := ["given"]) baseVE (by decide) Fc.ex_NotCourses I_NotCourses (hr.mono (by decide)) rfl kwI_NotCourses (k_cons (c_var 0) k_nil)) c_nil)))))))
      (s_cons (s_set (i := 2) nd_L_law_made (c_lst (c_cons (c_err (C := 12) (n := 1) baseVE (by decide) Fc.ex_InvalidRooms I_InvalidRooms (hr.mono (by decide)) bI_InvalidRooms rfl (c_var 0)) (c_cons (c_errK (C := 13) (n := 1) (ks := ["index"]) baseVE (by decide) Fc.ex_InvalidDoors I_InvalidDoors (hr.mono (by decide)) rfl kwI_InvalidDoors (k_cons (c_var 0) k_nil)) (c_cons (c_err (C := 14) (n := 1) baseVE (by decide) Fc.ex_InvalidPrograms I_InvalidPrograms (hr.mono (by decide)) bI_InvalidPrograms rfl (c_var 0)) (c_cons (c_errK (C := 15) (n := 1) (ks := ["index"]) baseVE (by decide) Fc.ex_InvalidCourses I_InvalidCourses (hr.mono (by decide)) rfl kwI_InvalidCourses (k_cons (c_var 0) k_nil)) c_nil))))))
      (s_one (s_ret (c_lst (c_cons (c_var 1) (c_cons (c_bin op_addV (c_var 2) (c_lst (c_cons (c_err (C := 23) (n := 1) baseVE (by decide) Fc.ex_InvalidClaims I_InvalidClaims (hr.mono (by decide)) bI_InvalidClaims rfl (c_var 0)) (c_cons (c_errK (C := 24) (n := 1) (ks := ["index"]) baseVE (by decide) Fc.ex_InvalidChanges I_InvalidChanges (hr.mono (by decide)) rfl kwI_InvalidChanges (k_cons (c_var 0) k_nil)) c_nil)))) c_nil)))))))))
theorem ok_L_law_made (Fc : Fac K mg) {fd : FuncData} (F : FunD K "_law_made" "_law_made" (defArgs s_L_law_made) (defBody s_L_law_made) (defScope s_L_law_made) [] [] (A_L_law_made K) fd) {fd_InvalidCourse : FuncData} (I_InvalidCourse : FnOk P w K mg base (L2N.CX P w) 1 (AI_InvalidCourse K) fd_InvalidCourse PI_InvalidCourse (SpT K veN veM (aN 0))) (bI_InvalidCourse : Binds K fd_InvalidCourse PI_InvalidCourse []) (kwI_InvalidCourse : KBn K fd_InvalidCourse PI_InvalidCourse 1 ["given"] (fun us ws => us ++ ws) (fun vs zs => vs ++ zs)) {fd_InvalidWalk : FuncData} (I_InvalidWalk : FnOk P w K mg base (L2N.CX P w) 1 (AI_InvalidWalk K) fd_InvalidWalk PI_InvalidWalk (SpT K veN veM (aN 0))) (bI_InvalidWalk : Binds K fd_InvalidWalk PI_InvalidWalk []) {fd_InvalidDoor : FuncData} (I_InvalidDoor : FnOk P w K mg base (L2N.CX P w) 1 (AI_InvalidDoor K) fd_InvalidDoor PI_InvalidDoor (SpT K veN veM (aN 0))) (bI_InvalidDoor : Binds K fd_InvalidDoor PI_InvalidDoor []) (kwI_InvalidDoor : KBn K fd_InvalidDoor PI_InvalidDoor 1 ["given"] (fun us ws => us ++ ws) (fun vs zs => vs ++ zs)) {fd_InvalidRoom : FuncData} (I_InvalidRoom : FnOk P w K mg base (L2N.CX P w) 1 (AI_InvalidRoom K) fd_InvalidRoom PI_InvalidRoom (SpT K veN veM (aN 0))) (bI_InvalidRoom : Binds K fd_InvalidRoom PI_InvalidRoom []) {fd_InvalidClaim : FuncData} (I_InvalidClaim : FnOk P w K mg base (L2N.CX P w) 1 (AI_InvalidClaim K) fd_InvalidClaim PI_InvalidClaim (SpT K veN veM (aN 0))) (bI_InvalidClaim : Binds K fd_InvalidClaim PI_InvalidClaim []) (kwI_InvalidClaim : KBn K fd_InvalidClaim PI_InvalidClaim 1 ["given"] (fun us ws => us ++ ws) (fun vs zs => vs ++ zs)) {fd_InvalidTable : FuncData} (I_InvalidTable : FnOk P w K mg base (L2N.CX P w) 1 (AI_InvalidTable K) fd_InvalidTable PI_InvalidTable (SpT K veN veM (aN 0))) (bI_InvalidTable : Binds K fd_InvalidTable PI_InvalidTable []) {fd_InvalidText : FuncData} (I_InvalidText : FnOk P w K mg base (L2N.CX P w) 1 (AI_InvalidText K) fd_InvalidText PI_InvalidText (SpT K veN veM (aN 0))) (bI_InvalidText : Binds K fd_InvalidText PI_InvalidText []) (kwI_InvalidText : KBn K fd_InvalidText PI_InvalidText 1 ["given"] (fun us ws => us ++ ws) (fun vs zs => vs ++ zs)) {fd_InvalidNumber : FuncData} (I_InvalidNumber : FnOk P w K mg base (L2N.CX P w) 1 (AI_InvalidNumber K) fd_InvalidNumber PI_InvalidNumber (SpT K veN veM (aN 0))) (bI_InvalidNumber : Binds K fd_InvalidNumber PI_InvalidNumber []) {fd_NotCourses : FuncData} (I_NotCourses : FnOk P w K mg base (L2N.CX P w) 1 (AI_NotCourses K) fd_NotCourses PI_NotCourses (SpT K veN veM (aN 0))) (bI_NotCourses : Binds K fd_NotCourses PI_NotCourses []) (kwI_NotCourses : KBn K fd_NotCourses PI_NotCourses 1 ["given"] (fun us ws => us ++ ws) (fun vs zs => vs ++ zs)) {fd_NotAPlan : FuncData} (I_NotAPlan : FnOk P w K mg base (L2N.CX P w) 1 (AI_NotAPlan K) fd_NotAPlan PI_NotAPlan (SpT K veN veM (aN 0))) (bI_NotAPlan : Binds K fd_NotAPlan PI_NotAPlan []) {fd_NotAProgram : FuncData} (I_NotAProgram : FnOk P w K mg base (L2N.CX P w) 1 (AI_NotAProgram K) fd_NotAProgram PI_NotAProgram (SpT K veN veM (aN 0))) (bI_NotAProgram : Binds K fd_NotAProgram PI_NotAProgram []) (kwI_NotAProgram : KBn K fd_NotAProgram PI_NotAProgram 1 ["given"] (fun us ws => us ++ ws) (fun vs zs => vs ++ zs)) {fd_NotAHouse : FuncData} (I_NotAHouse : FnOk P w K mg base (L2N.CX P w) 1 (AI_NotAHouse K) fd_NotAHouse PI_NotAHouse (SpT K veN veM (aN 0))) (bI_NotAHouse : Binds K fd_NotAHouse PI_NotAHouse []) {fd_InvalidCourses : FuncData} (I_InvalidCourses : FnOk P w K mg base (L2N.CX P w) 1 (AI_InvalidCourses K) fd_InvalidCourses PI_InvalidCourses (SpT K veN veM (aN 1))) (bI_InvalidCourses : Binds K fd_InvalidCourses PI_InvalidCourses []) (kwI_InvalidCourses : KBn K fd_InvalidCourses PI_InvalidCourses 1 ["index"] (fun us ws => us ++ ws) (fun vs zs => vs ++ zs)) {fd_InvalidPrograms : FuncData} (I_InvalidPrograms : FnOk P w K mg base (L2N.CX P w) 1 (AI_InvalidPrograms K) fd_InvalidPrograms PI_InvalidPrograms (SpT K veN veM (aN 1))) (bI_InvalidPrograms : Binds K fd_InvalidPrograms PI_InvalidPrograms []) {fd_InvalidDoors : FuncData} (I_InvalidDoors : FnOk P w K mg base (L2N.CX P w) 1 (AI_InvalidDoors K) fd_InvalidDoors PI_InvalidDoors (SpT K veN veM (aN 1))) (bI_InvalidDoors : Binds K fd_InvalidDoors PI_InvalidDoors []) (kwI_InvalidDoors : KBn K fd_InvalidDoors PI_InvalidDoors 1 ["index"] (fun us ws => us ++ ws) (fun vs zs => vs ++ zs)) {fd_InvalidRooms : FuncData} (I_InvalidRooms : FnOk P w K mg base (L2N.CX P w) 1 (AI_InvalidRooms K) fd_InvalidRooms PI_InvalidRooms (SpT K veN veM (aN 1))) (bI_InvalidRooms : Binds K fd_InvalidRooms PI_InvalidRooms []) {fd_InvalidChanges : FuncData} (I_InvalidChanges : FnOk P w K mg base (L2N.CX P w) 1 (AI_InvalidChanges K) fd_InvalidChanges PI_InvalidChanges (SpT K veN veM (aN 1))) (bI_InvalidChanges : Binds K fd_InvalidChanges PI_InvalidChanges []) (kwI_InvalidChanges : KBn K fd_InvalidChanges PI_InvalidChanges 1 ["index"] (fun us ws => us ++ ws) (fun vs zs => vs ++ zs)) {fd_InvalidClaims : FuncData} (I_InvalidClaims : FnOk P w K mg base (L2N.CX P w) 1 (AI_InvalidClaims K) fd_InvalidClaims PI_InvalidClaims (SpT K veN veM (aN 1))) (bI_InvalidClaims : Binds K fd_InvalidClaims PI_InvalidClaims []) : FnM P w K mg base (cA K) 3 (A_L_law_made K) m_L_law_made := (FnM.of (o_L_law_made Fc F  I_InvalidCourse bI_InvalidCourse kwI_InvalidCourse I_InvalidWalk bI_InvalidWalk I_InvalidDoor bI_InvalidDoor kwI_InvalidDoor I_InvalidRoom bI_InvalidRoom I_InvalidClaim bI_InvalidClaim kwI_InvalidClaim I_InvalidTable bI_InvalidTable I_InvalidText bI_InvalidText kwI_InvalidText I_InvalidNumber bI_InvalidNumber I_NotCourses bI_NotCourses kwI_NotCourses I_NotAPlan bI_NotAPlan I_NotAProgram bI_NotAProgram kwI_NotAProgram I_NotAHouse bI_NotAHouse I_InvalidCourses bI_InvalidCourses kwI_InvalidCourses I_InvalidPrograms bI_InvalidPrograms I_InvalidDoors bI_InvalidDoors kwI_InvalidDoors I_InvalidRooms bI_InvalidRooms I_InvalidChanges bI_InvalidChanges kwI_InvalidChanges I_InvalidClaims bI_InvalidClaims) (F.bindsN fun _ _ _ _ _ _ us hl => match us, hl with | [_], _ => rfl)).fin
abbrev s_L_law_kinds : Stmt := (top 42)
abbrev N_L_law_kinds : List Str := ["e", "first", "second", "third"]
theorem nd_L_law_kinds : N_L_law_kinds.Nodup := by decide +kernel
abbrev P_L_law_kinds : List Str := ["e"]
abbrev A_L_law_kinds (K : PySem.W.Frag) : Addr := He.fAd K ("_law_kinds", none)
noncomputable def b_L_law_kinds : MS :=
    (seqS (asgS (lstM (consM (fA (isiE kt ec) (consM (vM 0) (consM (cM (.cls 2)) nilM))) (consM (fA (isiE kt ec) (consM (vM 0) (consM (cM (.cls 3)) nilM))) (consM (fA (isiE kt ec) (consM (vM 0) (consM (cM (.cls 4)) nilM))) nilM)))) (gNameM 1))
    (seqS (asgS (b2 addV (vM 1) (lstM (consM (fA (isiE kt ec) (consM (vM 0) (consM (cM (.cls 5)) nilM))) (consM (fA (isiE kt ec) (consM (vM 0) (consM (cM (.cls 6)) nilM))) nilM)))) (gNameM 1))
    (seqS (asgS (b2 addV (vM 1) (lstM (consM (fA (isiE kt ec) (consM (vM 0) (consM (cM (.cls 7)) nilM))) (consM (fA (isiE kt ec) (consM (vM 0) (consM (cM (.cls 21)) nilM))) nilM)))) (gNameM 1))
    (seqS (asgS (b2 addV (vM 1) (lstM (consM (fA (isiE kt ec) (consM (vM 0) (consM (cM (.cls 22)) nilM))) (consM (fA (isiE kt ec) (consM (vM 0) (consM (cM (.cls 8)) nilM))) (consM (fA (isiE kt ec) (consM (vM 0) (consM (cM (.cls 9)) nilM))) nilM))))) (gNameM 1))
    (seqS (asgS (b2 addV (vM 1) (lstM (consM (fA (isiE kt ec) (consM (vM 0) (consM (cM (.cls 10)) nilM))) (consM (fA (isiE kt ec) (consM (vM 0) (consM (cM (.cls 11)) nilM))) (consM (fA (isiE kt ec) (consM (vM 0) (consM (cM (.cls 12)) nilM))) nilM))))) (gNameM 1))
    (seqS (asgS (b2 addV (vM 1) (lstM (consM (fA (isiE kt ec) (consM (vM 0) (consM (cM (.cls 13)) nilM))) (consM (fA (isiE kt ec) (consM (vM 0) (consM (cM (.cls 14)) nilM))) (consM (fA (isiE kt ec) (consM (vM 0) (consM (cM (.cls 15)) nilM))) nilM))))) (gNameM 1))
    (seqS (asgS (b2 addV (vM 1) (lstM (consM (fA (isiE kt ec) (consM (vM 0) (consM (cM (.cls 23)) nilM))) (consM (fA (isiE kt ec) (consM (vM 0) (consM (cM (.cls 24)) nilM))) nilM)))) (gNameM 1))
    (seqS (asgS (lstM (consM (fA (isiE kt ec) (consM (vM 0) (consM (cM (.cls 17)) nilM))) (consM (fA (isiE kt ec) (consM (vM 0) (consM (cM (.cls 25)) nilM))) (consM (fA (isiE kt ec) (consM (vM 0) (consM (cM (.cls 26)) nilM))) nilM)))) (gNameM 2))
    (seqS (asgS (lstM (consM (fA (isiE kt ec) (consM (vM 0) (consM (cM (.cls 19)) nilM))) (consM (fA (isiE kt ec) (consM (vM 0) (consM (cM (.cls 20)) nilM))) (consM (fA (isiE kt ec) (consM (vM 0) (consM (cM (.cls 27)) nilM))) nilM)))) (gNameM 3))
    (retS (lstM (consM (vM 1) (consM (vM 2) (consM (vM 3) nilM))))))))))))))
noncomputable def m0_L_law_kinds : List Val → Store → R Val := defK 1 4 b_L_law_kinds
noncomputable def m_L_law_kinds : List Val → Store → R Val := finM m0_L_law_kinds
theorem o_L_law_kinds (Fc : Fac K mg) {fd : FuncData} (F : FunD K "_law_kinds" "_law_kinds" (defArgs s_L_law_kinds) (defBody s_L_law_kinds) (defScope s_L_law_kinds) [] [] (A_L_law_kinds K) fd) : FnOk P w K mg base (L2N.CX P w) 1 (A_L_law_kinds K) fd P_L_law_kinds (SpM K (cA K) m0_L_law_kinds) :=
  def_okO (N := N_L_law_kinds) (ps := P_L_law_kinds) (k := 0) (np := 1) (nn := 4) (mb := b_L_law_kinds) F ⟨rfl, rfl, rfl, by decide +kernel, rfl, by decide +kernel, by decide +kernel⟩ rfl rfl fun cdv A outer s H E hr tk =>
      (s_cons (s_set (i := 1) nd_L_law_kinds (c_lst (c_cons (c_callB (b_isE Fc.ki Fc.ek) Fc.b_isinstance (c_cons (c_var 0) (c_cons (c_gcls Fc.gc_InvalidRoom) c_nil))) (c_cons (c_callB (b_isE Fc.ki Fc.ek) Fc.b_isinstance (c_cons (c_var 0) (c_cons (c_gcls Fc.gc_InvalidDoor) c_nil))) (c_cons (c_callB (b_isE Fc.ki Fc.ek) Fc.b_isinstance (c_cons (c_var 0) (c_cons (c_gcls Fc.gc_InvalidWalk) c_nil))) c_nil)))))
      (s_cons (s_set (i := 1) nd_L_law_kinds (c_bin op_addV (c_var 1) (c_lst (c_cons (c_callB (b_isE Fc.ki Fc.ek) Fc.b_isinstance (c_cons (c_var 0) (c_cons (c_gcls Fc.gc_InvalidCourse) c_nil))) (c_cons (c_callB (b_isE Fc.ki Fc.ek) Fc.b_isinstance (c_cons (c_var 0) (c_cons (c_gcls Fc.gc_InvalidNumber) c_nil))) c_nil)))))
      (s_cons (s_set (i := 1) nd_L_law_kinds (c_bin op_addV (c_var 1) (c_lst (c_cons (c_callB (b_isE Fc.ki Fc.ek) Fc.b_isinstance (c_cons (c_var 0) (c_cons (c_gcls Fc.gc_InvalidText) c_nil))) (c_cons (c_callB (b_isE Fc.ki Fc.ek) Fc.b_isinstance (c_cons (c_var 0) (c_cons (c_gcls Fc.gc_InvalidTable) c_nil))) c_nil)))))
      (s_cons (s_set (i := 1) nd_L_law_kinds (c_bin op_addV (c_var 1) (c_lst (c_cons (c_callB (b_isE Fc.ki Fc.ek) Fc.b_isinstance (c_cons (c_var 0) (c_cons (c_gcls Fc.gc_InvalidClaim) c_nil))) (c_cons (c_callB (b_isE Fc.ki Fc.ek) Fc.b_isinstance (c_cons (c_var 0) (c_cons (c_gcls Fc.gc_NotAHouse) c_nil))) (c_cons (c_callB (b_isE Fc.ki Fc.ek) Fc.b_isinstance (c_cons (c_var 0) (c_cons (c_gcls Fc.gc_NotAProgram) c_nil))) c_nil))))))
      (s_cons (s_set (i := 1) nd_L_law_kinds (c_bin op_addV (c_var 1) (c_lst (c_cons (c_callB (b_isE Fc.ki Fc.ek) Fc.b_isinstance (c_cons (c_var 0) (c_cons (c_gcls Fc.gc_NotAPlan) c_nil))) (c_cons (c_callB (b_isE Fc.ki Fc.ek) Fc.b_isinstance (c_cons (c_var 0) (c_cons (c_gcls Fc.gc_NotCourses) c_nil))) (c_cons (c_callB (b_isE Fc.ki Fc.ek) Fc.b_isinstance (c_cons (c_var 0) (c_cons (c_gcls Fc.gc_InvalidRooms) c_nil))) c_nil))))))
      (s_cons (s_set (i := 1) nd_L_law_kinds (c_bin op_addV (c_var 1) (c_lst (c_cons (c_callB (b_isE Fc.ki Fc.ek) Fc.b_isinstance (c_cons (c_var 0) (c_cons (c_gcls Fc.gc_InvalidDoors) c_nil))) (c_cons (c_callB (b_isE Fc.ki Fc.ek) Fc.b_isinstance (c_cons (c_var 0) (c_cons (c_gcls Fc.gc_InvalidPrograms) c_nil))) (c_cons (c_callB (b_isE Fc.ki Fc.ek) Fc.b_isinstance (c_cons (c_var 0) (c_cons (c_gcls Fc.gc_InvalidCourses) c_nil))) c_nil))))))
      (s_cons (s_set (i := 1) nd_L_law_kinds (c_bin op_addV (c_var 1) (c_lst (c_cons (c_callB (b_isE Fc.ki Fc.ek) Fc.b_isinstance (c_cons (c_var 0) (c_cons (c_gcls Fc.gc_InvalidClaims) c_nil))) (c_cons (c_callB (b_isE Fc.ki Fc.ek) Fc.b_isinstance (c_cons (c_var 0) (c_cons (c_gcls Fc.gc_InvalidChanges) c_nil))) c_nil)))))
      (s_cons (s_set (i := 2) nd_L_law_kinds (c_lst (c_cons (c_callB (b_isE Fc.ki Fc.ek) Fc.b_isinstance (c_cons (c_var 0) (c_cons (c_gcls Fc.gc_UnknownProgram) c_nil))) (c_cons (c_callB (b_isE Fc.ki Fc.ek) Fc.b_isinstance (c_cons (c_var 0) (c_cons (c_gcls Fc.gc_UnknownClaim) c_nil))) (c_cons (c_callB (b_isE Fc.ki Fc.ek) Fc.b_isinstance (c_cons (c_var 0) (c_cons (c_gcls Fc.gc_NothingToUndo) c_nil))) c_nil)))))
      (s_cons (s_set (i := 3) nd_L_law_kinds (c_lst (c_cons (c_callB (b_isE Fc.ki Fc.ek) Fc.b_isinstance (c_cons (c_var 0) (c_cons (c_gcls Fc.gc_Unjoined) c_nil))) (c_cons (c_callB (b_isE Fc.ki Fc.ek) Fc.b_isinstance (c_cons (c_var 0) (c_cons (c_gcls Fc.gc_OtherHouse) c_nil))) (c_cons (c_callB (b_isE Fc.ki Fc.ek) Fc.b_isinstance (c_cons (c_var 0) (c_cons (c_gcls Fc.gc_Broken) c_nil))) c_nil)))))
      (s_one (s_ret (c_lst (c_cons (c_var 1) (c_cons (c_var 2) (c_cons (c_var 3) c_nil)))))))))))))))
theorem ok_L_law_kinds (Fc : Fac K mg) {fd : FuncData} (F : FunD K "_law_kinds" "_law_kinds" (defArgs s_L_law_kinds) (defBody s_L_law_kinds) (defScope s_L_law_kinds) [] [] (A_L_law_kinds K) fd) : FnM P w K mg base (cA K) 1 (A_L_law_kinds K) m_L_law_kinds := (FnM.of (o_L_law_kinds Fc F ) (F.bindsN fun _ _ _ _ _ _ us hl => match us, hl with | [_], _ => rfl)).fin
abbrev s_L_law_bases : Stmt := (top 43)
abbrev N_L_law_bases : List Str := ["e", "mine"]
theorem nd_L_law_bases : N_L_law_bases.Nodup := by decide +kernel
abbrev P_L_law_bases : List Str := ["e"]
abbrev A_L_law_bases (K : PySem.W.Frag) : Addr := He.fAd K ("_law_bases", none)
noncomputable def b_L_law_bases : MS :=
    (seqS (asgS (lstM (consM (fA (isiE kt ec) (consM (vM 0) (consM (cM (.cls 1)) nilM))) (consM (fA (isiE kt ec) (consM (vM 0) (consM (cM (.cls 16)) nilM))) (consM (fA (isiE kt ec) (consM (vM 0) (consM (cM (.cls 18)) nilM))) nilM)))) (gNameM 1))
    (retS (lstM (consM (vM 1) (consM (lstM (consM (fA (isiE kt ec) (consM (vM 0) (consM (cM (.ty "ValueError")) nilM))) (consM (fA (isiE kt ec) (consM (vM 0) (consM (cM (.ty "LookupError")) nilM))) (consM (fA (isiE kt ec) (consM (vM 0) (consM (cM (.ty "ArithmeticError")) nilM))) nilM)))) nilM)))))
noncomputable def m0_L_law_bases : List Val → Store → R Val := defK 1 2 b_L_law_bases
noncomputable def m_L_law_bases : List Val → Store → R Val := finM m0_L_law_bases
theorem o_L_law_bases (Fc : Fac K mg) {fd : FuncData} (F : FunD K "_law_bases" "_law_bases" (defArgs s_L_law_bases) (defBody s_L_law_bases) (defScope s_L_law_bases) [] [] (A_L_law_bases K) fd) : FnOk P w K mg base (L2N.CX P w) 1 (A_L_law_bases K) fd P_L_law_bases (SpM K (cA K) m0_L_law_bases) :=
  def_okO (N := N_L_law_bases) (ps := P_L_law_bases) (k := 0) (np := 1) (nn := 2) (mb := b_L_law_bases) F ⟨rfl, rfl, rfl, by decide +kernel, rfl, by decide +kernel, by decide +kernel⟩ rfl rfl fun cdv A outer s H E hr tk =>
      (s_cons (s_set (i := 1) nd_L_law_bases (c_lst (c_cons (c_callB (b_isE Fc.ki Fc.ek) Fc.b_isinstance (c_cons (c_var 0) (c_cons (c_gcls Fc.gc_NotFit) c_nil))) (c_cons (c_callB (b_isE Fc.ki Fc.ek) Fc.b_isinstance (c_cons (c_var 0) (c_cons (c_gcls Fc.gc_NotThere) c_nil))) (c_cons (c_callB (b_isE Fc.ki Fc.ek) Fc.b_isinstance (c_cons (c_var 0) (c_cons (c_gcls Fc.gc_CannotBe) c_nil))) c_nil)))))
      (s_one (s_ret (c_lst (c_cons (c_var 1) (c_cons (c_lst (c_cons (c_callB (b_isE Fc.ki Fc.ek) Fc.b_isinstance (c_cons (c_var 0) (c_cons (c_bty Fc.b_ValueError) c_nil))) (c_cons (c_callB (b_isE Fc.ki Fc.ek) Fc.b_isinstance (c_cons (c_var 0) (c_cons (c_bty Fc.b_LookupError) c_nil))) (c_cons (c_callB (b_isE Fc.ki Fc.ek) Fc.b_isinstance (c_cons (c_var 0) (c_cons (c_bty Fc.b_ArithmeticError) c_nil))) c_nil)))) c_nil))))))
theorem ok_L_law_bases (Fc : Fac K mg) {fd : FuncData} (F : FunD K "_law_bases" "_law_bases" (defArgs s_L_law_bases) (defBody s_L_law_bases) (defScope s_L_law_bases) [] [] (A_L_law_bases K) fd) : FnM P w K mg base (cA K) 1 (A_L_law_bases K) m_L_law_bases := (FnM.of (o_L_law_bases Fc F ) (F.bindsN fun _ _ _ _ _ _ us hl => match us, hl with | [_], _ => rfl)).fin
abbrev s_L_law_one_class : Stmt := (top 44)
abbrev N_L_law_one_class : List Str := ["e", "part", "at", "base", "k", "kinds"]
theorem nd_L_law_one_class : N_L_law_one_class.Nodup := by decide +kernel
abbrev P_L_law_one_class : List Str := ["e", "part", "at"]
abbrev A_L_law_one_class (K : PySem.W.Frag) : Addr := He.fAd K ("_law_one_class", none)
noncomputable def b_L_law_one_class : MS :=
    (seqS (asgS (lcM (itR1 (consM (cM (.int 3)) nilM)) [4] oneC yesT (b2 eqV (vM 4) (vM 1)) [4]) (gNameM 3))
    (seqS (asgS (lstM (consM (mulNM (lstM (consM (cM (.bl false)) nilM)) (cM (.int 18))) (consM (mulNM (lstM (consM (cM (.bl false)) nilM)) (cM (.int 3))) (consM (mulNM (lstM (consM (cM (.bl false)) nilM)) (cM (.int 3))) nilM)))) (gNameM 5))
    (seqS (asgS (cM (.bl true)) (gSubM (b2 ixV (vM 5) (vM 1)) (vM 2)))
    (retS (andM (b2 eqR (callM m_L_law_kinds (consM (vM 0) nilM)) (vM 5)) (b2 eqV (callM m_L_law_bases (consM (vM 0) nilM)) (lstM (consM (vM 3) (consM (vM 3) nilM)))))))))
noncomputable def m0_L_law_one_class : List Val → Store → R Val := defK 3 6 b_L_law_one_class
noncomputable def m_L_law_one_class : List Val → Store → R Val := finM m0_L_law_one_class
theorem o_L_law_one_class (Fc : Fac K mg) {fd : FuncData} (F : FunD K "_law_one_class" "_law_one_class" (defArgs s_L_law_one_class) (defBody s_L_law_one_class) (defScope s_L_law_one_class) [] [] (A_L_law_one_class K) fd) (G_L_law_bases : FnM P w K mg base (cA K) 1 (A_L_law_bases K) m_L_law_bases) (G_L_law_kinds : FnM P w K mg base (cA K) 1 (A_L_law_kinds K) m_L_law_kinds) : FnOk P w K mg base (L2N.CX P w) 2 (A_L_law_one_class K) fd P_L_law_one_class (SpM K (cA K) m0_L_law_one_class) :=
  def_okO (N := N_L_law_one_class) (ps := P_L_law_one_class) (k := 1) (np := 3) (nn := 6) (mb := b_L_law_one_class) F ⟨rfl, rfl, rfl, by decide +kernel, rfl, by decide +kernel, by decide +kernel⟩ rfl rfl fun cdv A outer s H E hr tk =>
      (s_cons (s_setLc (i := 3) [("k", 4)] rfl nd_L_law_one_class (i_rng1 Fc.b_range (c_cons c_int c_nil)) (fun _ _ _ _ _ => (pc_name nd_L_law_one_class)) (fun _ _ _ _ _ => t_nil) (fun _ _ _ _ _ => (c_cmp (op_eqV (hu64 hr)) (c_var 4) (c_var 1))) (blkOk_by (N := N_L_law_one_class) (sc := (defScope (top 44))) (by decide +kernel)) (sw_true rfl rfl rfl (by decide +kernel)))
      (s_cons (s_set (i := 5) nd_L_law_one_class (c_lst (c_cons (c_mulN (c_lst (c_cons c_bl c_nil)) c_int) (c_cons (c_mulN (c_lst (c_cons c_bl c_nil)) c_int) (c_cons (c_mulN (c_lst (c_cons c_bl c_nil)) c_int) c_nil)))))
      (s_cons (s_asg c_bl (g_sub (W := Wf E) (hu200 hr) (c_ix (hu200 hr) (c_var 5) (c_var 1)) (c_var 2)))
      (s_one (s_ret (c_and (c_cmp (op_eqR (hu64 hr)) (c_call G_L_law_kinds Fc.gf__law_kinds Fc.kp__law_kinds (hr.mono (by decide)) tk (c_cons (c_var 0) c_nil)) (c_var 5)) (c_one (c_cmp (op_eqV (hu64 hr)) (c_call G_L_law_bases Fc.gf__law_bases Fc.kp__law_bases (hr.mono (by decide)) tk (c_cons (c_var 0) c_nil)) (c_lst (c_cons (c_var 3) (c_cons (c_var 3) c_nil)))))))))))
theorem ok_L_law_one_class (Fc : Fac K mg) {fd : FuncData} (F : FunD K "_law_one_class" "_law_one_class" (defArgs s_L_law_one_class) (defBody s_L_law_one_class) (defScope s_L_law_one_class) [] [] (A_L_law_one_class K) fd) (G_L_law_bases : FnM P w K mg base (cA K) 1 (A_L_law_bases K) m_L_law_bases) (G_L_law_kinds : FnM P w K mg base (cA K) 1 (A_L_law_kinds K) m_L_law_kinds) : FnM P w K mg base (cA K) 2 (A_L_law_one_class K) m_L_law_one_class := (FnM.of (o_L_law_one_class Fc F G_L_law_bases G_L_law_kinds) (F.bindsN fun _ _ _ _ _ _ us hl => match us, hl with | [_, _, _], _ => rfl)).fin
end
end K01

set_option Elab.async false
set_option linter.all false
set_option maxRecDepth 100000
set_option maxHeartbeats 4000000
namespace K01
open PySem PySem.Spec PyProof.Rows L2 CC LamX
section
variable {P : Program} {w : World} {K : PySem.W.Frag} {mg : Str → Option Value} {base : Heap}
abbrev s_L_law_right : Stmt := (top 45)
abbrev N_L_law_right : List Str := ["well", "thing", "more", "by_given", "by_index", "e", "errors", "k", "rest", "last"]
theorem nd_L_law_right : N_L_law_right.Nodup := by decide +kernel
abbrev P_L_law_right : List Str := ["well"]
abbrev A_L_law_right (K : PySem.W.Frag) : Addr := He.fAd K ("_law_right", none)
noncomputable def b_L_law_right : MS :=
    (seqS (parS 1 2 (consM (callM m_L_law_odd (consM (vM 0) nilM)) (consM (callM m_L_law_odd (consM (vM 0) nilM)) nilM)))
    (seqS (asgS (callM m_L_law_made (consM (vM 1) nilM)) (gPc [3, 4] (lstC 2)))
    (seqS (ifS (tB (b2 neV (fA reprX (consM (b2 addV (lcM (itL (vM 3)) [5] oneC yesT (u1 (fldE eo 0) (vM 5)) [5]) (lcM (itL (vM 4)) [5] oneC yesT (u1 (fldE eo 1) (vM 5)) [5])) nilM)) (fA reprX (consM (b2 mulV (lstM (consM (vM 1) nilM)) (cM (.int 18))) nilM)))) (retS (cM (.bl false))) nextS)
    (seqS (asgS (b2 addV (vM 3) (vM 4)) (gNameM 6))
    (seqS (ifS (notT (tstM (fA allV (consM (lcM (itR1 (consM (cM (.int 18)) nilM)) [7] oneC yesT (callM m_L_law_one_class (consM (b2 ixV (vM 6) (vM 7)) (consM (cM (.int 0)) (consM (vM 7) nilM)))) [7]) nilM)))) (retS (cM (.bl false))) nextS)
    (seqS (asgS (lstM (consM (mkE 17 [0] (consM (vM 1) nilM)) (consM (mkE 25 [0] (consM (vM 1) nilM)) (consM (mkE0 26) nilM)))) (gNameM 8))
    (seqS (ifS (tB (b2 neV (fA reprX (consM (lstM (consM (u1 (fldE eo 0) (b2 ixV (vM 8) (cM (.int 0)))) (consM (u1 (fldE eo 0) (b2 ixV (vM 8) (cM (.int 1)))) nilM))) nilM)) (fA reprX (consM (lstM (consM (vM 1) (consM (vM 1) nilM))) nilM)))) (retS (cM (.bl false))) nextS)
    (seqS (ifS (notT (tstM (fA allV (consM (lcM (itR1 (consM (cM (.int 3)) nilM)) [7] oneC yesT (callM m_L_law_one_class (consM (b2 ixV (vM 8) (vM 7)) (consM (cM (.int 1)) (consM (vM 7) nilM)))) [7]) nilM)))) (retS (cM (.bl false))) nextS)
    (seqS (asgS (lstM (consM (mkE0 19) (consM (mkE0 20) (consM (mkEr 27 1 2 (consM (vM 2) (consM (vM 1) nilM))) nilM)))) (gNameM 9))
    (seqS (ifS (tB (b2 neV (fA reprX (consM (lstM (consM (u1 (fldE eo 1) (b2 ixV (vM 9) (cM (.int 2)))) (consM (u1 (fldE eo 2) (b2 ixV (vM 9) (cM (.int 2)))) (consM (u1 (fldE eo 1) (mkE 27 [1, 2] (consM (vM 2) (consM (vM 1) nilM)))) nilM)))) nilM)) (fA reprX (consM (lstM (consM (vM 1) (consM (vM 2) (consM (vM 2) nilM)))) nilM)))) (retS (cM (.bl false))) nextS)
    (retS (fA allV (consM (lcM (itR1 (consM (cM (.int 3)) nilM)) [7] oneC yesT (callM m_L_law_one_class (consM (b2 ixV (vM 9) (vM 7)) (consM (cM (.int 2)) (consM (vM 7) nilM)))) [7]) nilM)))))))))))))
noncomputable def m0_L_law_right : List Val → Store → R Val := defK 1 10 b_L_law_right
noncomputable def m_L_law_right : List Val → Store → R Val := finM m0_L_law_right
theorem ok_L_law_right (Fc : Fac K mg) {fd : FuncData} (F : FunD K "_law_right" "_law_right" (defArgs s_L_law_right) (defBody s_L_law_right) (defScope s_L_law_right) [] [] (A_L_law_right K) fd) (G_L_law_odd : FnM P w K mg base (cA K) 2 (A_L_law_odd K) m_L_law_odd) (G_L_law_made : FnM P w K mg base (cA K) 3 (A_L_law_made K) m_L_law_made) (G_L_law_one_class : FnM P w K mg base (cA K) 2 (A_L_law_one_class K) m_L_law_one_class) {fd_UnknownClaim : FuncData} (I_UnknownClaim : FnOk P w K mg base (L2N.CX P w) 1 (AI_UnknownClaim K) fd_UnknownClaim PI_UnknownClaim (SpT K leN leM (aN 0))) (bI_UnknownClaim : Binds K fd_UnknownClaim PI_UnknownClaim []) (kwI_UnknownClaim : KBn K fd_UnknownClaim PI_UnknownClaim 1 ["given"] (fun us ws => us ++ ws) (fun vs zs => vs ++ zs)) {fd_UnknownProgram : FuncData} (I_UnknownProgram : FnOk P w K mg base (L2N.CX P w) 1 (AI_UnknownProgram K) fd_UnknownProgram PI_UnknownProgram (SpT K leN leM (aN 0))) (bI_UnknownProgram : Binds K fd_UnknownProgram PI_UnknownProgram []) {fd_Broken : FuncData} (I_Broken : FnOk P w K mg base (L2N.CX P w) 1 (AI_Broken K) fd_Broken PI_Broken (SpT2 K arN arM (aN 1) (aN 2))) (bI_Broken : Binds K fd_Broken PI_Broken []) (kwI_Broken : KBn K fd_Broken PI_Broken 1 ["shown", "index"] (fun us ws => us ++ ws.reverse) (fun vs zs => vs ++ zs.reverse)) : FnG P w K mg base (cA K) 4 (A_L_law_right K) m_L_law_right :=
  (def_okG (N := N_L_law_right) (ps := P_L_law_right) (k := 3) (np := 1) (nn := 10) (mb := b_L_law_right) F ⟨rfl, rfl, rfl, by decide +kernel, rfl, by decide +kernel, by decide +kernel⟩ (F.bindsN fun _ _ _ _ _ _ us hl => match us, hl with | [_], _ => rfl) rfl rfl fun cdv hcdv A outer s H E hr hgd tk =>
      (s_cons (s_par (i := 1) (j := 2) rfl nd_L_law_right (c_cons (c_call G_L_law_odd Fc.gf__law_odd Fc.kp__law_odd (hr.mono (by decide)) tk (c_cons (c_var 0) c_nil)) (c_cons (c_call G_L_law_odd Fc.gf__law_odd Fc.kp__law_odd (hr.mono (by decide)) tk (c_cons (c_var 0) c_nil)) c_nil)))
      (s_cons (s_asg (c_call G_L_law_made Fc.gf__law_made Fc.kp__law_made (hr.mono (by decide)) tk (c_cons (c_var 1) c_nil)) (g_of_pc (pc_lst nd_L_law_right rfl (.cons (.cons .nil)))))
      (s_cons (s_if (c_tcmp (op_neV (hu64 hr)) (c_callB (b_reprX Fc.sys hgd (hu64 hr)) Fc.b_repr (c_cons (c_bin op_addV (c_lc [("e", 5)] rfl nd_L_law_right (i_list (c_var 3)) (fun _ _ _ _ _ => (pc_name nd_L_law_right)) (fun _ _ _ _ _ => t_nil) (fun _ _ _ _ _ => (c_fldE (n := 0) Fc.eo (c_var 5))) (blkOk_by (N := N_L_law_right) (sc := (defScope (top 45))) (by decide +kernel))) (c_lc [("e", 5)] rfl nd_L_law_right (i_list (c_var 4)) (fun _ _ _ _ _ => (pc_name nd_L_law_right)) (fun _ _ _ _ _ => t_nil) (fun _ _ _ _ _ => (c_fldE (n := 1) Fc.eo (c_var 5))) (blkOk_by (N := N_L_law_right) (sc := (defScope (top 45))) (by decide +kernel)))) c_nil)) (c_callB (b_reprX Fc.sys hgd (hu64 hr)) Fc.b_repr (c_cons (c_bin op_mulV (c_lst (c_cons (c_var 1) c_nil)) c_int) c_nil))) (s_one (s_ret c_bl)) s_nil)
      (s_cons (s_set (i := 6) nd_L_law_right (c_bin op_addV (c_var 3) (c_var 4)))
      (s_cons (s_if (c_tnot (c_test (c_callB (b_all rfl) Fc.b_all (c_cons (c_lc [("k", 7)] rfl nd_L_law_right (i_rng1 Fc.b_range (c_cons c_int c_nil)) (fun _ _ _ _ _ => (pc_name nd_L_law_right)) (fun _ _ _ _ _ => t_nil) (fun _ _ _ _ _ => (c_call (E := EF) G_L_law_one_class Fc.gf__law_one_class Fc.kp__law_one_class (hr.mono (by decide)) takesN0 (c_cons (c_ix (hu200 hr) (c_var 6) (c_var 7)) (c_cons c_int (c_cons (c_var 7) c_nil))))) (blkOk_by (N := N_L_law_right) (sc := (defScope (top 45))) (by decide +kernel))) c_nil)))) (s_one (s_ret c_bl)) s_nil)
      (s_cons (s_set (i := 8) nd_L_law_right (c_lst (c_cons (c_err (C := 17) (n := 0) baseLE (by decide) Fc.ex_UnknownProgram I_UnknownProgram (hr.mono (by decide)) bI_UnknownProgram rfl (c_var 1)) (c_cons (c_errK (C := 25) (n := 0) (ks := ["given"]) baseLE (by decide) Fc.ex_UnknownClaim I_UnknownClaim (hr.mono (by decide)) rfl kwI_UnknownClaim (k_cons (c_var 1) k_nil)) (c_cons (c_err0 (C := 26) baseLE.base Fc.e0v_NothingToUndo Fc.gc_NothingToUndo Fc.e0k_NothingToUndo) c_nil)))))
      (s_cons (s_if (c_tcmp (op_neV (hu64 hr)) (c_callB (b_reprX Fc.sys hgd (hu64 hr)) Fc.b_repr (c_cons (c_lst (c_cons (c_fldE (n := 0) Fc.eo (c_ix (hu200 hr) (c_var 8) c_int)) (c_cons (c_fldE (n := 0) Fc.eo (c_ix (hu200 hr) (c_var 8) c_int)) c_nil))) c_nil)) (c_callB (b_reprX Fc.sys hgd (hu64 hr)) Fc.b_repr (c_cons (c_lst (c_cons (c_var 1) (c_cons (c_var 1) c_nil))) c_nil))) (s_one (s_ret c_bl)) s_nil)
      (s_cons (s_if (c_tnot (c_test (c_callB (b_all rfl) Fc.b_all (c_cons (c_lc [("k", 7)] rfl nd_L_law_right (i_rng1 Fc.b_range (c_cons c_int c_nil)) (fun _ _ _ _ _ => (pc_name nd_L_law_right)) (fun _ _ _ _ _ => t_nil) (fun _ _ _ _ _ => (c_call (E := EF) G_L_law_one_class Fc.gf__law_one_class Fc.kp__law_one_class (hr.mono (by decide)) takesN0 (c_cons (c_ix (hu200 hr) (c_var 8) (c_var 7)) (c_cons c_int (c_cons (c_var 7) c_nil))))) (blkOk_by (N := N_L_law_right) (sc := (defScope (top 45))) (by decide +kernel))) c_nil)))) (s_one (s_ret c_bl)) s_nil)
      (s_cons (s_set (i := 9) nd_L_law_right (c_lst (c_cons (c_err0 (C := 19) baseAE.base Fc.e0v_Unjoined Fc.gc_Unjoined Fc.e0k_Unjoined) (c_cons (c_err0 (C := 20) baseAE.base Fc.e0v_OtherHouse Fc.gc_OtherHouse Fc.e0k_OtherHouse) (c_cons (c_errK2 (C := 27) (n := 1) (n' := 2) (ks := ["shown", "index"]) baseAE (by decide) (by decide) Fc.ex_Broken Fc.at2_Broken I_Broken (hr.mono (by decide)) rfl kwI_Broken (k_cons (c_var 2) (k_cons (c_var 1) k_nil))) c_nil)))))
      (s_cons (s_if (c_tcmp (op_neV (hu64 hr)) (c_callB (b_reprX Fc.sys hgd (hu64 hr)) Fc.b_repr (c_cons (c_lst (c_cons (c_fldE (n := 1) Fc.eo (c_ix (hu200 hr) (c_var 9) c_int)) (c_cons (c_fldE (n := 2) Fc.eo (c_ix (hu200 hr) (c_var 9) c_int)) (c_cons (c_fldE (n := 1) Fc.eo (c_err2 (C := 27) (n := 1) (n' := 2) baseAE (by decide) (by decide) Fc.ex_Broken Fc.at2_Broken I_Broken (hr.mono (by decide)) bI_Broken rfl (c_var 2) (c_var 1))) c_nil)))) c_nil)) (c_callB (b_reprX Fc.sys hgd (hu64 hr)) Fc.b_repr (c_cons (c_lst (c_cons (c_var 1) (c_cons (c_var 2) (c_cons (c_var 2) c_nil)))) c_nil))) (s_one (s_ret c_bl)) s_nil)
      (s_one (s_ret (c_callB (b_all rfl) Fc.b_all (c_cons (c_lc [("k", 7)] rfl nd_L_law_right (i_rng1 Fc.b_range (c_cons c_int c_nil)) (fun _ _ _ _ _ => (pc_name nd_L_law_right)) (fun _ _ _ _ _ => t_nil) (fun _ _ _ _ _ => (c_call (E := EF) G_L_law_one_class Fc.gf__law_one_class Fc.kp__law_one_class (hr.mono (by decide)) takesN0 (c_cons (c_ix (hu200 hr) (c_var 9) (c_var 7)) (c_cons c_int (c_cons (c_var 7) c_nil))))) (blkOk_by (N := N_L_law_right) (sc := (defScope (top 45))) (by decide +kernel))) c_nil))))))))))))))).fin
abbrev s_law : Stmt := (top 46)
abbrev N_law : List Str := ["script", "told", "turn"]
theorem nd_law : N_law.Nodup := by decide +kernel
abbrev P_law : List Str := ["script"]
abbrev A_law (K : PySem.W.Frag) : Addr := He.fAd K ("law", none)
noncomputable def b_law : MS :=
    (seqS (asgS (lstM (consM (cM (.int 4)) (consM (cM (.int 5)) (consM (cM (.int 40)) (consM (cM (.int 5)) (consM (cM (.int 6)) nilM)))))) (gNameM 1))
    (seqS (asgS (b2 addV (vM 1) (lstM (consM (cM (.int 200)) (consM (cM (.int 6)) (consM (cM (.int 200)) (consM (cM (.int 1000)) nilM)))))) (gNameM 1))
    (seqS (ifS (tB (b2 neV (fA reprX (consM (vM 1) nilM)) (fA reprX (consM (lstM (consM (cM (.int 4)) (consM (cM (.int 5)) (consM (cM (.int 40)) (consM (cM (.int 5)) (consM (cM (.int 6)) (consM (cM (.int 200)) (consM (cM (.int 6)) (consM (cM (.int 200)) (consM (cM (.int 1000)) nilM)))))))))) nilM)))) (retS (cM (.bl false))) nextS)
    (retS (fA allV (consM (lcM (itR1 (consM (fA maxV (consM (cM (.int 2)) (consM (fA minV (consM (fA lenV (consM (vM 0) nilM)) (consM (cM (.int 3)) nilM))) nilM))) nilM)) [2] oneC yesT (callM m_L_law_right (consM (callM m_L_law_well (consM (vM 0) (consM (vM 2) nilM))) nilM)) [2]) nilM))))))
noncomputable def m0_law : List Val → Store → R Val := defK 1 3 b_law
noncomputable def m_law : List Val → Store → R Val := finM m0_law
theorem ok_law (Fc : Fac K mg) {fd : FuncData} (F : FunD K "law" "law" (defArgs s_law) (defBody s_law) (defScope s_law) [] [] (A_law K) fd) (G_L_law_right : FnG P w K mg base (cA K) 4 (A_L_law_right K) m_L_law_right) (G_L_law_well : FnM P w K mg base (cA K) 1 (A_L_law_well K) m_L_law_well) : FnG P w K mg base (cA K) 5 (A_law K) m_law :=
  (def_okG (N := N_law) (ps := P_law) (k := 4) (np := 1) (nn := 3) (mb := b_law) F ⟨rfl, rfl, rfl, by decide +kernel, rfl, by decide +kernel, by decide +kernel⟩ (F.bindsN fun _ _ _ _ _ _ us hl => match us, hl with | [_], _ => rfl) rfl rfl fun cdv hcdv A outer s H E hr hgd tk =>
      (s_cons (s_set (i := 1) nd_law (c_lst (c_cons (c_gint Fc.gi_MOST_ROOMS) (c_cons (c_gint Fc.gi_MOST_DOORS) (c_cons (c_gint Fc.gi_MOST_LINES) (c_cons (c_gint Fc.gi_MOST_DEEP) (c_cons (c_gint Fc.gi_MOST_PROGRAMS) c_nil)))))))
      (s_cons (s_set (i := 1) nd_law (c_bin op_addV (c_var 1) (c_lst (c_cons (c_gint Fc.gi_MOST_PLAIN) (c_cons (c_gint Fc.gi_MOST_CHANGES) (c_cons (c_gint Fc.gi_MOST_NEEDED) (c_cons (c_gint Fc.gi_MOST_COUNT) c_nil)))))))
      (s_cons (s_if (c_tcmp (op_neV (hu64 hr)) (c_callB (b_reprX Fc.sys hgd (hu64 hr)) Fc.b_repr (c_cons (c_var 1) c_nil)) (c_callB (b_reprX Fc.sys hgd (hu64 hr)) Fc.b_repr (c_cons (c_lst (c_cons c_int (c_cons c_int (c_cons c_int (c_cons c_int (c_cons c_int (c_cons c_int (c_cons c_int (c_cons c_int (c_cons c_int c_nil)))))))))) c_nil))) (s_one (s_ret c_bl)) s_nil)
      (s_one (s_ret (c_callB (b_all rfl) Fc.b_all (c_cons (c_lc [("turn", 2)] rfl nd_law (i_rng1 Fc.b_range (c_cons (c_callB (b_max rfl) Fc.b_max (c_cons c_int (c_cons (c_callB (b_min rfl) Fc.b_min (c_cons (c_callB b_len Fc.b_len (c_cons (c_var 0) c_nil)) (c_cons c_int c_nil))) c_nil))) c_nil)) (fun _ _ _ _ _ => (pc_name nd_law)) (fun _ _ _ _ _ => t_nil) (fun _ _ _ _ _ => (c_callG (E := EF) G_L_law_right hgd Fc.gf__law_right Fc.kp__law_right (hr.mono (by decide)) takesN0 (c_cons (c_call (E := EF) G_L_law_well Fc.gf__law_well Fc.kp__law_well (hr.mono (by decide)) takesN0 (c_cons (c_var 0) (c_cons (c_var 2) c_nil))) c_nil))) (blkOk_by (N := N_law) (sc := (defScope (top 46))) (by decide +kernel))) c_nil)))))))).fin
end
end K01

set_option Elab.async false
set_option linter.all false
set_option maxRecDepth 100000
set_option maxHeartbeats 0
namespace K01
open PySem PySem.Spec PyProof.Rows L2 CC LamX
def exs : List (PySem.W.Frag → Bool) := [
  fun K => (He.Fa.free "ArithmeticError").ok K,
  fun K => (He.Fa.free "LookupError").ok K,
  fun K => (He.Fa.free "ValueError").ok K,
  fun K => (He.Fa.free "abs").ok K,
  fun K => (He.Fa.free "all").ok K,
  fun K => (He.Fa.free "int").ok K,
  fun K => (He.Fa.free "isinstance").ok K,
  fun K => (He.Fa.free "len").ok K,
  fun K => (He.Fa.free "max").ok K,
  fun K => (He.Fa.free "min").ok K,
  fun K => (He.Fa.free "range").ok K,
  fun K => (He.Fa.free "repr").ok K,
  fun K => (He.Fa.int "MOST_CHANGES" 6).ok K,
  fun K => (He.Fa.int "MOST_COUNT" 1000).ok K,
  fun K => (He.Fa.int "MOST_DEEP" 5).ok K,
  fun K => (He.Fa.int "MOST_DOORS" 5).ok K,
  fun K => (He.Fa.int "MOST_LINES" 40).ok K,
  fun K => (He.Fa.int "MOST_NEEDED" 200).ok K,
  fun K => (He.Fa.int "MOST_PLAIN" 200).ok K,
  fun K => (He.Fa.int "MOST_PROGRAMS" 6).ok K,
  fun K => (He.Fa.int "MOST_ROOMS" 4).ok K,
  fun K => (He.Fa.glo "_law_bases").ok K,
  fun K => (He.Fa.keep "_law_bases").ok K,
  fun K => (He.Fa.glo "_law_dip").ok K,
  fun K => (He.Fa.keep "_law_dip").ok K,
  fun K => (He.Fa.glo "_law_kinds").ok K,
  fun K => (He.Fa.keep "_law_kinds").ok K,
  fun K => (He.Fa.glo "_law_made").ok K,
  fun K => (He.Fa.keep "_law_made").ok K,
  fun K => (He.Fa.glo "_law_odd").ok K,
  fun K => (He.Fa.keep "_law_odd").ok K,
  fun K => (He.Fa.glo "_law_one_class").ok K,
  fun K => (He.Fa.keep "_law_one_class").ok K,
  fun K => (He.Fa.glo "_law_right").ok K,
  fun K => (He.Fa.keep "_law_right").ok K,
  fun K => (He.Fa.glo "_law_well").ok K,
  fun K => (He.Fa.keep "_law_well").ok K,
  fun K => (He.Fa.glo "law").ok K,
  fun K => (He.Fa.keep "law").ok K,
  fun K => (He.Fa.glo "Broken").ok K,
  fun K => (He.Fa.glo "CannotBe").ok K,
  fun K => (He.Fa.glo "InvalidChanges").ok K,
  fun K => (He.Fa.glo "InvalidClaim").ok K,
  fun K => (He.Fa.glo "InvalidClaims").ok K,
  fun K => (He.Fa.glo "InvalidCourse").ok K,
  fun K => (He.Fa.glo "InvalidCourses").ok K,
  fun K => (He.Fa.glo "InvalidDoor").ok K,
  fun K => (He.Fa.glo "InvalidDoors").ok K,
  fun K => (He.Fa.glo "InvalidNumber").ok K,
  fun K => (He.Fa.glo "InvalidPrograms").ok K,
  fun K => (He.Fa.glo "InvalidRoom").ok K,
  fun K => (He.Fa.glo "InvalidRooms").ok K,
  fun K => (He.Fa.glo "InvalidTable").ok K,
  fun K => (He.Fa.glo "InvalidText").ok K,
  fun K => (He.Fa.glo "InvalidWalk").ok K,
  fun K => (He.Fa.glo "NotAHouse").ok K,
  fun K => (He.Fa.glo "NotAPlan").ok K,
  fun K => (He.Fa.glo "NotAProgram").ok K,
  fun K => (He.Fa.glo "NotCourses").ok K,
  fun K => (He.Fa.glo "NotFit").ok K,
  fun K => (He.Fa.glo "NotThere").ok K,
  fun K => (He.Fa.glo "NothingToUndo").ok K,
  fun K => (He.Fa.glo "OtherHouse").ok K,
  fun K => (He.Fa.glo "Unjoined").ok K,
  fun K => (He.Fa.glo "UnknownClaim").ok K,
  fun K => (He.Fa.glo "UnknownProgram").ok K,
  fun K => kiB (cA K) ktL icL K,
  fun K => excTB K "InvalidCourse" 0 veN veM,
  fun K => excTB K "InvalidWalk" 0 veN veM,
  fun K => excTB K "InvalidDoor" 0 veN veM,
  fun K => excTB K "InvalidRoom" 0 veN veM,
  fun K => excTB K "InvalidClaim" 0 veN veM,
  fun K => excTB K "InvalidTable" 0 veN veM,
  fun K => excTB K "InvalidText" 0 veN veM,
  fun K => excTB K "InvalidNumber" 0 veN veM,
  fun K => excTB K "NotCourses" 0 veN veM,
  fun K => excTB K "NotAPlan" 0 veN veM,
  fun K => excTB K "NotAProgram" 0 veN veM,
  fun K => excTB K "NotAHouse" 0 veN veM,
  fun K => excTB K "InvalidCourses" 1 veN veM,
  fun K => excTB K "InvalidPrograms" 1 veN veM,
  fun K => excTB K "InvalidDoors" 1 veN veM,
  fun K => excTB K "InvalidRooms" 1 veN veM,
  fun K => excTB K "InvalidChanges" 1 veN veM,
  fun K => excTB K "InvalidClaims" 1 veN veM,
  fun K => excTB K "UnknownClaim" 0 leN leM,
  fun K => excTB K "UnknownProgram" 0 leN leM,
  fun K => excTB K "Broken" 1 arN arM,
  fun K => He.eqO (PySem.W.findIn K (.ref (cA K 27)) (aN 2)) (some none),
  fun K => PySem.W.excIn K (cA K 26) leM leN,
  fun K => PySem.W.keepIn K (.ref (cA K 26)),
  fun K => PySem.W.excIn K (cA K 20) arM arN,
  fun K => PySem.W.keepIn K (.ref (cA K 20)),
  fun K => PySem.W.excIn K (cA K 19) arM arN,
  fun K => PySem.W.keepIn K (.ref (cA K 19)),
  fun K => exksB (cA K) ecL K,
  fun K => xatsB (cA K) ecL [0, 1, 2] K,
  fun K => sysB K,
  fun K => tuB tfs K,
  fun K => kfB (cA K) naL K]
def dds : List DD := [
  ⟨A_L_law_well, "_law_well", "_law_well", defArgs s_L_law_well, defBody s_L_law_well, defScope s_L_law_well⟩,
  ⟨A_L_law_dip, "_law_dip", "_law_dip", defArgs s_L_law_dip, defBody s_L_law_dip, defScope s_L_law_dip⟩,
  ⟨A_L_law_odd, "_law_odd", "_law_odd", defArgs s_L_law_odd, defBody s_L_law_odd, defScope s_L_law_odd⟩,
  ⟨A_L_law_made, "_law_made", "_law_made", defArgs s_L_law_made, defBody s_L_law_made, defScope s_L_law_made⟩,
  ⟨A_L_law_kinds, "_law_kinds", "_law_kinds", defArgs s_L_law_kinds, defBody s_L_law_kinds, defScope s_L_law_kinds⟩,
  ⟨A_L_law_bases, "_law_bases", "_law_bases", defArgs s_L_law_bases, defBody s_L_law_bases, defScope s_L_law_bases⟩,
  ⟨A_L_law_one_class, "_law_one_class", "_law_one_class", defArgs s_L_law_one_class, defBody s_L_law_one_class, defScope s_L_law_one_class⟩,
  ⟨A_L_law_right, "_law_right", "_law_right", defArgs s_L_law_right, defBody s_L_law_right, defScope s_L_law_right⟩,
  ⟨A_law, "law", "law", defArgs s_law, defBody s_law, defScope s_law⟩,
  ⟨AI_InvalidCourse, "__init__", "InvalidCourse.__init__", defArgs sI_InvalidCourse, defBody sI_InvalidCourse, defScope sI_InvalidCourse⟩,
  ⟨AI_InvalidWalk, "__init__", "InvalidWalk.__init__", defArgs sI_InvalidWalk, defBody sI_InvalidWalk, defScope sI_InvalidWalk⟩,
  ⟨AI_InvalidDoor, "__init__", "InvalidDoor.__init__", defArgs sI_InvalidDoor, defBody sI_InvalidDoor, defScope sI_InvalidDoor⟩,
  ⟨AI_InvalidRoom, "__init__", "InvalidRoom.__init__", defArgs sI_InvalidRoom, defBody sI_InvalidRoom, defScope sI_InvalidRoom⟩,
  ⟨AI_InvalidClaim, "__init__", "InvalidClaim.__init__", defArgs sI_InvalidClaim, defBody sI_InvalidClaim, defScope sI_InvalidClaim⟩,
  ⟨AI_InvalidTable, "__init__", "InvalidTable.__init__", defArgs sI_InvalidTable, defBody sI_InvalidTable, defScope sI_InvalidTable⟩,
  ⟨AI_InvalidText, "__init__", "InvalidText.__init__", defArgs sI_InvalidText, defBody sI_InvalidText, defScope sI_InvalidText⟩,
  ⟨AI_InvalidNumber, "__init__", "InvalidNumber.__init__", defArgs sI_InvalidNumber, defBody sI_InvalidNumber, defScope sI_InvalidNumber⟩,
  ⟨AI_NotCourses, "__init__", "NotCourses.__init__", defArgs sI_NotCourses, defBody sI_NotCourses, defScope sI_NotCourses⟩,
  ⟨AI_NotAPlan, "__init__", "NotAPlan.__init__", defArgs sI_NotAPlan, defBody sI_NotAPlan, defScope sI_NotAPlan⟩,
  ⟨AI_NotAProgram, "__init__", "NotAProgram.__init__", defArgs sI_NotAProgram, defBody sI_NotAProgram, defScope sI_NotAProgram⟩,
  ⟨AI_NotAHouse, "__init__", "NotAHouse.__init__", defArgs sI_NotAHouse, defBody sI_NotAHouse, defScope sI_NotAHouse⟩,
  ⟨AI_InvalidCourses, "__init__", "InvalidCourses.__init__", defArgs sI_InvalidCourses, defBody sI_InvalidCourses, defScope sI_InvalidCourses⟩,
  ⟨AI_InvalidPrograms, "__init__", "InvalidPrograms.__init__", defArgs sI_InvalidPrograms, defBody sI_InvalidPrograms, defScope sI_InvalidPrograms⟩,
  ⟨AI_InvalidDoors, "__init__", "InvalidDoors.__init__", defArgs sI_InvalidDoors, defBody sI_InvalidDoors, defScope sI_InvalidDoors⟩,
  ⟨AI_InvalidRooms, "__init__", "InvalidRooms.__init__", defArgs sI_InvalidRooms, defBody sI_InvalidRooms, defScope sI_InvalidRooms⟩,
  ⟨AI_InvalidChanges, "__init__", "InvalidChanges.__init__", defArgs sI_InvalidChanges, defBody sI_InvalidChanges, defScope sI_InvalidChanges⟩,
  ⟨AI_InvalidClaims, "__init__", "InvalidClaims.__init__", defArgs sI_InvalidClaims, defBody sI_InvalidClaims, defScope sI_InvalidClaims⟩,
  ⟨AI_UnknownClaim, "__init__", "UnknownClaim.__init__", defArgs sI_UnknownClaim, defBody sI_UnknownClaim, defScope sI_UnknownClaim⟩,
  ⟨AI_UnknownProgram, "__init__", "UnknownProgram.__init__", defArgs sI_UnknownProgram, defBody sI_UnknownProgram, defScope sI_UnknownProgram⟩,
  ⟨AI_Broken, "__init__", "Broken.__init__", defArgs sI_Broken, defBody sI_Broken, defScope sI_Broken⟩]
abbrev RQ : PySem.W.OpenRow := PySem.W.OpenLaw.row PySem.Challenge.rw_cablecourses_k01_limits_and_errors
abbrev hk : PySem.W.Hook := hookCS 6 exs dds tfs
def ob (s : PySem.W.SharedT) : AlT2 := obsCS 6 exs dds tfs (HandSHeadRun.getT s)
theorem ob_eq (s : PySem.W.SharedT) : ob s = hk.obs s.abs := obsCS_eq (HandSHeadRun.getT_eq s)
def loose : List Str := (["NotFit", "InvalidRoom", "InvalidDoor", "InvalidWalk", "InvalidCourse", "InvalidNumber", "InvalidText", "InvalidTable", "InvalidClaim", "NotAHouse", "NotAProgram", "NotAPlan", "NotCourses", "InvalidRooms", "InvalidDoors", "InvalidPrograms"] : List Str) ++ (["InvalidCourses", "InvalidClaims", "InvalidChanges", "NotThere", "UnknownProgram", "UnknownClaim", "NothingToUndo", "CannotBe", "Unjoined", "OtherHouse", "Broken", "MOST_ROOMS", "MOST_DOORS", "MOST_LINES", "MOST_DEEP", "MOST_PROGRAMS"] : List Str) ++ (["MOST_PLAIN", "MOST_CHANGES", "MOST_NEEDED", "MOST_COUNT", "_law_well", "_law_dip", "_law_odd", "_law_made", "_law_kinds", "_law_bases", "_law_one_class", "_law_right"] : List Str)
theorem run (w : World) : HandSHeadRun.RunEq RQ (PySem.W.view RQ.prog [46]) hk ob 10000 loose w := by
  intro os
  kernel_rfl
end K01

set_option Elab.async false
set_option linter.all false
set_option maxRecDepth 100000
set_option maxHeartbeats 2000000
namespace CC
open PySem PySem.Spec PyProof.Rows L2

theorem mapO_some {α β : Type} {f : α → Option β} {g : α → β} : ∀ {xs : List α}, (∀ x ∈ xs, f x = some (g x)) → mapO f xs = some (xs.map g)
  | [], _ => rfl
  | x :: xs, h => by
    unfold mapO
    rw [h x (by simp), mapO_some (xs := xs) fun y hy => h y (List.mem_cons_of_mem _ hy)]
    rfl
theorem mapO_id {α : Type} {f : α → Option α} {xs : List α} (h : ∀ x ∈ xs, f x = some x) : mapO f xs = some xs := by
  rw [mapO_some (g := fun x => x) h, List.map_id'']
  exact fun x => rfl
theorem mapO_mem {α β : Type} {f : α → Option β} : ∀ {xs : List α} {zs : List β}, mapO f xs = some zs → ∀ x ∈ xs, ∃ z, f x = some z
  | [], _, _, x, hx => by cases hx
  | y :: ys, zs, h, x, hx => by
    obtain ⟨z, zz, h1, h2, _⟩ := mapO_cons h
    cases hx with
    | head => exact ⟨z, h1⟩
    | tail _ hx => exact mapO_mem h2 x hx
theorem map_some {α β : Type} {f : α → β} {o : Option α} {b : β} (h : o.map f = some b) : ∃ a, o = some a := by
  cases o with
  | none => cases h
  | some a => exact ⟨a, rfl⟩
/-- plain data stands as it is -/
theorem frz_toD {mu : Store} {n : Nat} : ∀ (k : Nat) (v : Val) (d : PyData) (j : Nat), toD k v = some d → k < j → frz mu n j v = some v
  | k, v, d, 0, _, hj => absurd hj (Nat.not_lt_zero _)
  | k, v, d, j + 1, h, hj => by
    cases v with
    | tup xs =>
      cases k with
      | zero => cases h
      | succ k =>
        simp only [toD] at h
        obtain ⟨zs, e⟩ := map_some h
        simp only [frz]
        rw [mapO_id fun x hx => ?_]
        · rfl
        · obtain ⟨z, hz⟩ := mapO_mem e x hx
          exact frz_toD k x z j hz (by omega)
    | lst xs =>
      cases k with
      | zero => cases h
      | succ k =>
        simp only [toD] at h
        obtain ⟨zs, e⟩ := map_some h
        simp only [frz]
        rw [mapO_id fun x hx => ?_]
        · rfl
        · obtain ⟨z, hz⟩ := mapO_mem e x hx
          exact frz_toD k x z j hz (by omega)
    | dct _ => cases k <;> cases h
    | obj _ _ => cases k <;> cases h
    | err _ _ => cases k <;> cases h
    | ref _ => cases k <;> cases h
    | cls _ => cases k <;> cases h
    | ty _ => cases k <;> cases h
    | scr _ => cases k <;> cases h
    | _ => rfl
theorem toD_str (k : Nat) (s : List Nat) : toD k (.str s) = some (.str (S s)) := by cases k <;> rfl
theorem toD_int (k : Nat) (i : Int) : toD k (.int i) = some (.int i) := by cases k <;> rfl
theorem toDs_map {α : Type} {k : Nat} {ys : List α} {f : α → Val} {g : α → PyData} (h : ∀ y ∈ ys, toD k (f y) = some (g y)) : mapO (toD k) (ys.map f) = some (ys.map g) := by
  induction ys with
  | nil => rfl
  | cons y ys ih =>
    simp only [List.map_cons]
    unfold mapO
    rw [h y (by simp), ih fun z hz => h z (List.mem_cons_of_mem _ hz)]
theorem okS_app (mu ex : Store) : okS mu (mu ++ ex) := ⟨by simp, fun r c h e => .inl (by rwa [List.getElem?_append_left h] at e)⟩
theorem fin_ok {m : List Val → Store → R Val} {as : List Val} {mu ex : Store} {v w : Val} (h : m as mu = .ok v (mu ++ ex)) (e : frz (mu ++ ex) mu.length 140 v = some w) : finM m as mu = .ok w mu := by
  unfold finM
  rw [h]
  simp only [finR]
  rw [if_pos (okS_app mu ex), e]
  simp
theorem fin_id {m : List Val → Store → R Val} {as : List Val} {mu : Store} {v w : Val} (h : m as mu = .ok v mu) (e : frz mu mu.length 140 v = some w) : finM m as mu = .ok w mu :=
  fin_ok (ex := []) (by rw [List.append_nil]; exact h) (by rw [List.append_nil]; exact e)
/-- plain data out, whatever was laid meanwhile -/
theorem fin_pl {m : List Val → Store → R Val} {as : List Val} {mu ex : Store} {v : Val} {d : PyData} (h : m as mu = .ok v (mu ++ ex)) (e : toD 31 v = some d) : finM m as mu = .ok v mu := fin_ok h (frz_toD 31 v d 140 e (by decide))
theorem forL_idx {ok : Ok} {g : TM} {body : MS} {xs : List Val} {r : Env1} {mu : Store} (I : Nat → Env1 → Store → Prop) (hok : ∀ i r mu, I i r mu → ok mu)
    (step : ∀ i x r mu, xs[i]? = some x → I i r mu → ∃ r1 mu1, g x r mu = some (r1, mu1) ∧ ∃ r2 mu2, body r1 mu1 = .nx r2 mu2 ∧ I (i + 1) r2 mu2) (h0 : I 0 r mu) :
    ∃ r' mu', forL ok g body xs r mu = .nx r' mu' ∧ I xs.length r' mu' := by
  have gen : ∀ (n i : Nat) (r : Env1) (mu : Store), i + n = xs.length → I i r mu → ∃ r' mu', forL ok g body (xs.drop i) r mu = .nx r' mu' ∧ I xs.length r' mu' := by
    intro n
    induction n with
    | zero =>
      intro i r mu e hi
      have : xs.drop i = [] := List.drop_eq_nil_of_le (by omega)
      rw [this]
      refine ⟨r, mu, ?_, by rw [← e]; exact hi⟩
      unfold forL
      rw [if_pos (hok _ _ _ hi)]
    | succ n ih =>
      intro i r mu e hi
      have hl : i < xs.length := by omega
      rw [List.drop_eq_getElem_cons hl]
      obtain ⟨r1, mu1, h1, r2, mu2, h2, h3⟩ := step i xs[i] r mu (List.getElem?_eq_getElem hl) hi
      obtain ⟨r', mu', h4, h5⟩ := ih (i + 1) r2 mu2 (by omega) h3
      refine ⟨r', mu', ?_, h5⟩
      simp only [forL]
      rw [if_pos (hok _ _ _ hi), h1]
      simp only [h2]
      exact h4
  have := gen xs.length 0 r mu (by omega) h0
  rwa [List.drop_zero] at this
/-- a comprehension that leaves the store as it is -/
theorem lcL_fm {α : Type} {ok : Ok} {is : List Nat} {f : Val → Option (List Val)} {t : M Bool} {e : M Val} {vs : List Nat} {r : Env1} {mu : Store} (hok : ok mu) (g : α → Val) (h : α → Option Val) : ∀ (ys : List α),
    (∀ y ∈ ys, ∃ as, f (g y) = some as ∧ ((t (setAll (wipeE r vs) is as) mu = .ok false mu ∧ h y = none) ∨ (t (setAll (wipeE r vs) is as) mu = .ok true mu ∧ ∃ z, e (setAll (wipeE r vs) is as) mu = .ok z mu ∧ h y = some z))) →
    lcL ok is f t e vs (ys.map g) r mu = .ok (ys.filterMap h) mu
  | [], _ => by
    simp only [List.map_nil, lcL]
    rw [if_pos hok]
    rfl
  | y :: ys, hh => by
    obtain ⟨as, h1, h2⟩ := hh y (by simp)
    have ih := lcL_fm hok g h ys fun z hz => hh z (List.mem_cons_of_mem _ hz)
    simp only [List.map_cons, lcL]
    rw [if_pos hok, h1]
    rcases h2 with ⟨h2, h3⟩ | ⟨h2, z, h3, h4⟩
    · simp only [h2, Bool.false_eq_true, if_false]
      rw [ih, List.filterMap_cons_none h3]
    · simp only [h2, if_true, h3, ih]
      rw [List.filterMap_cons_some h4]
theorem lcL_map {α : Type} {ok : Ok} {is : List Nat} {f : Val → Option (List Val)} {e : M Val} {vs : List Nat} {r : Env1} {mu : Store} (hok : ok mu) (g : α → Val) (h : α → Val) (ys : List α)
    (hh : ∀ y ∈ ys, ∃ as, f (g y) = some as ∧ e (setAll (wipeE r vs) is as) mu = .ok (h y) mu) : lcL ok is f yesT e vs (ys.map g) r mu = .ok (ys.map h) mu := by
  rw [lcL_fm hok g (fun y => some (h y)) ys fun y hy => ?_]
  · rw [List.filterMap_eq_map' ]
  · obtain ⟨as, h1, h2⟩ := hh y hy
    exact ⟨as, h1, .inr ⟨rfl, _, h2, rfl⟩⟩
theorem lcM_ok {mi : M (List Val × Ok)} {is : List Nat} {f : Val → Option (List Val)} {t : M Bool} {e : M Val} {vs : List Nat} {r : Env1} {mu mu1 mu2 : Store} {xs ys : List Val} {ok : Ok} (h1 : mi r mu = .ok (xs, ok) mu1) (hl : xs.length ≤ 100000) (h2 : lcL ok is f t e vs xs r mu1 = .ok ys mu2) : lcM mi is f t e vs r mu = .ok (.lst ys) mu2 := by
  unfold lcM
  rw [h1]
  simp only [R.bind]
  rw [if_pos hl]
  unfold lcA
  rw [h2]
  rfl
theorem S_beq {a b : List Nat} : (S a == S b) = decide (a = b) := by
  by_cases h : a = b
  · subst h
    simp
  · simp only [h, decide_false, beq_eq_false_iff_ne, ne_eq]
    intro e
    apply h
    have := congrArg (fun z : Str => z.cps.toList) e
    simpa using this
theorem eqv_str {a b : List Nat} : PyData.eqv (.str (S a)) (.str (S b)) = decide (a = b) := by
  unfold PyData.eqv
  exact S_beq
theorem eqv_int {a b : Int} : PyData.eqv (.int a) (.int b) = decide (a = b) := by
  unfold PyData.eqv
  by_cases h : a = b <;> simp [h]
theorem bindS_ap {α : Type} (m : M α) (k : α → Env1 → Store → SR) (r : Env1) (mu : Store) : bindS m k r mu = (match m r mu with
  | .ok a mu1 => k a r mu1
  | .exc C fs mu1 => .exc C fs r mu1
  | .bad => .bad) := by
  unfold bindS
  cases m r mu <;> rfl
theorem ifS_ap (c : M Bool) (a b : MS) (r : Env1) (mu : Store) : ifS c a b r mu = (match c r mu with
  | .ok k mu1 => if k = true then a r mu1 else b r mu1
  | .exc C fs mu1 => .exc C fs r mu1
  | .bad => .bad) := by
  unfold ifS bindS
  cases c r mu <;> rfl
theorem retS_ap (m : M Val) (r : Env1) (mu : Store) : retS m r mu = (match m r mu with
  | .ok a mu1 => .rt a mu1
  | .exc C fs mu1 => .exc C fs r mu1
  | .bad => .bad) := by
  unfold retS bindS
  cases m r mu <;> rfl
theorem exprS_ap (m : M Val) (r : Env1) (mu : Store) : exprS m r mu = (match m r mu with
  | .ok a mu1 => .nx r mu1
  | .exc C fs mu1 => .exc C fs r mu1
  | .bad => .bad) := by
  unfold exprS bindS
  cases m r mu <;> rfl
theorem asgS_ap (m : M Val) (g : TM) (r : Env1) (mu : Store) : asgS m g r mu = (match m r mu with
  | .ok v mu1 => (match g v r mu1 with
    | some (r2, mu2) => .nx r2 mu2
    | none => .bad)
  | .exc C fs mu1 => .exc C fs r mu1
  | .bad => .bad) := by
  unfold asgS bindS
  cases m r mu <;> rfl
theorem forS_ap (mi : M (List Val × Ok)) (g : TM) (body : MS) (r : Env1) (mu : Store) : forS mi g body r mu = (match mi r mu with
  | .ok q mu1 => forL q.2 g body q.1 r mu1
  | .exc C fs mu1 => .exc C fs r mu1
  | .bad => .bad) := by
  unfold forS bindS
  cases mi r mu <;> rfl
theorem parS_ap (i j : Nat) (ms : M (List Val)) (r : Env1) (mu : Store) : parS i j ms r mu = (match ms r mu with
  | .ok vs mu1 => (match vs with
    | [x, y] => .nx ((r.set i (some x)).set j (some y)) mu1
    | _ => .bad)
  | .exc C fs mu1 => .exc C fs r mu1
  | .bad => .bad) := by
  unfold parS bindS
  cases ms r mu <;> rfl
end CC

set_option Elab.async false
set_option linter.all false
set_option maxRecDepth 100000
set_option maxHeartbeats 2000000
namespace CC
open PySem PySem.Spec PyProof.Rows L2
section
variable {a b : MS} {r r1 : Env1} {mu mu1 : Store} {v : Val} {y : SR}
theorem seq_nx (h : a r mu = .nx r1 mu1) : seqS a b r mu = b r1 mu1 := by simp only [seqS, h]
theorem seq_ex {I : Env1 → Store → Prop} (h : ∃ r1 mu1, a r mu = .nx r1 mu1 ∧ I r1 mu1) (k : ∀ r1 mu1, I r1 mu1 → b r1 mu1 = y) : seqS a b r mu = y := by
  obtain ⟨r1, mu1, e, i⟩ := h
  rw [seq_nx e]
  exact k r1 mu1 i
theorem defK_rt {np nn : Nat} {as : List Val} (hl : as.length = np) (h : b (as.map some ++ List.replicate (nn - np) none) mu = .rt v mu1) : defK np nn b as mu = .ok v mu1 := by
  unfold defK
  rw [if_pos hl, h]
/-- a loop that goes through -/
theorem for_ex {mi : M (List Val × Ok)} {g : TM} {body : MS} {mu0 : Store} {xs : List Val} {ok : Ok} (J : Nat → Env1 → Store → Prop) {I : Env1 → Store → Prop} (hi : mi r mu = .ok (xs, ok) mu0) (hok : ∀ i r mu, J i r mu → ok mu)
    (step : ∀ i x r mu, xs[i]? = some x → J i r mu → ∃ r1 mu1, g x r mu = some (r1, mu1) ∧ ∃ r2 mu2, body r1 mu1 = .nx r2 mu2 ∧ J (i + 1) r2 mu2) (h0 : J 0 r mu0) (fin : ∀ r1 mu1, J xs.length r1 mu1 → I r1 mu1) :
    ∃ r1 mu1, forS mi g body r mu = .nx r1 mu1 ∧ I r1 mu1 := by
  obtain ⟨r', mu', h1, h2⟩ := forL_idx (g := g) (body := body) J hok step h0
  refine ⟨r', mu', ?_, fin _ _ h2⟩
  rw [forS_ap, hi]
  exact h1
structure Pl (α : Type) [DecidableEq α] where
  v : α → Val
  d : α → PyData
  k : Nat
  td : ∀ j a, k ≤ j → toD j (v a) = some (d a)
  eq : ∀ a b, PyData.eqv (d a) (d b) = decide (a = b)
theorem toD1_td {mu : Store} {v : Val} {d : PyData} (h : toD 31 v = some d) : toD1 mu v = some d := by
  cases v <;> first | exact h | cases h
section
variable {α β γ : Type} [DecidableEq α] [DecidableEq β] [DecidableEq γ] (p : Pl α) {mu : Store}
theorem Pl.td1 (hk : p.k ≤ 31) (a : α) : toD1 mu (p.v a) = some (p.d a) := toD1_td (p.td 31 a hk)
theorem Pl.eqV (hk : p.k ≤ 31) (a b : α) : CC.eqV mu (p.v a) (p.v b) = some (.bl (decide (a = b))) := by
  unfold CC.eqV
  rw [p.td1 hk, p.td1 hk]
  simp only [p.eq]
theorem Pl.neV (hk : p.k ≤ 31) (a b : α) : CC.neV mu (p.v a) (p.v b) = some (.bl (!decide (a = b))) := by
  unfold CC.neV
  rw [p.td1 hk, p.td1 hk]
  simp only [p.eq]
theorem Pl.any (a : α) (xs : List α) : ((xs.map p.d).any fun z => PyData.eqv z (p.d a)) = decide (a ∈ xs) := by
  induction xs with
  | nil => rfl
  | cons c cs ih =>
    simp only [List.map_cons, List.any_cons, ih, p.eq, List.mem_cons]
    by_cases h1 : c = a
    · subst h1; simp
    · have : a ≠ c := fun e => h1 e.symm
      simp [h1, this]
theorem Pl.inT (hk : p.k ≤ 30) (a : α) (xs : List α) : CC.inB mu (p.v a) (.tup (xs.map p.v)) = some (decide (a ∈ xs)) := by
  simp only [inB, p.td 30 a hk]
  rw [toDs_map (k := 30) (g := p.d) fun y _ => p.td 30 y hk]
  simp only [p.any]
def plS : Pl (List Nat) := ⟨.str, fun s => .str (S s), 0, fun j a _ => toD_str j a, fun _ _ => eqv_str⟩
def plI : Pl Int := ⟨.int, .int, 0, fun j a _ => toD_int j a, fun _ _ => eqv_int⟩
end
end
theorem atI_n {α : Type} (xs : List α) (d : Nat) : atI xs (d : Int) = xs[d]? := by
  unfold atI ixN
  rw [if_pos (by omega)]
  by_cases h : d < xs.length
  · rw [if_pos (by omega)]
    simp
  · rw [if_neg (by omega), List.getElem?_eq_none (by omega)]
    rfl
theorem ix_tup {mu : Store} (xs : List Val) (d : Nat) : ixV mu (.tup xs) (.int d) = xs[d]? := by
  simp only [ixV, dctV, atI_n]
theorem ix_lst {mu : Store} (xs : List Val) (d : Nat) : ixV mu (.lst xs) (.int d) = xs[d]? := by
  simp only [ixV, dctV, seqL, atI_n]
theorem cut_fore {α : Type} (xs : List α) (i : Nat) : cutL xs none (some (i : Int)) = xs.take i := by
  unfold cutL
  rw [HT.sIx_nat, HT.sIx_none]
  simp only [List.drop_zero, Nat.sub_zero]
  by_cases h : i ≤ xs.length
  · rw [Nat.min_eq_left h]
  · rw [Nat.min_eq_right (by omega), List.take_of_length_le (Nat.le_refl _), List.take_of_length_le (by omega)]
theorem lcL_run {ok : Ok} {is : List Nat} {f : Val → Option (List Val)} {t : M Bool} {e : M Val} {vs : List Nat} {r : Env1} : ∀ (xs : List Val) (P : Nat → List Val → Store → Prop) (i0 : Nat) (acc : List Val) (mu : Store),
    (∀ i x acc mu, xs[i]? = some x → P (i0 + i) acc mu → ok mu ∧ ∃ as, f x = some as ∧ ∃ b mu1, t (setAll (wipeE r vs) is as) mu = .ok b mu1 ∧ ((b = true ∧ ∃ y mu2, e (setAll (wipeE r vs) is as) mu1 = .ok y mu2 ∧ P (i0 + i + 1) (acc ++ [y]) mu2) ∨ (b = false ∧ P (i0 + i + 1) acc mu1))) →
    (∀ acc mu, P (i0 + xs.length) acc mu → ok mu) → P i0 acc mu → ∃ ys mu', lcL ok is f t e vs xs r mu = .ok ys mu' ∧ P (i0 + xs.length) (acc ++ ys) mu'
  | [], P, i0, acc, mu, _, hk, h0 => ⟨[], mu, by
      have := hk acc mu h0
      simp only [lcL]
      rw [if_pos this], by simpa using h0⟩
  | x :: xs, P, i0, acc, mu, step, hk, h0 => by
    obtain ⟨o, as, e1, b, mu1, e2, h⟩ := step 0 x acc mu rfl h0
    have ih := fun acc mu => lcL_run (ok := ok) (is := is) (f := f) (t := t) (e := e) (vs := vs) (r := r) xs P (i0 + 1) acc mu (fun i x acc mu hx hp => by
      have := step (i + 1) x acc mu (by simpa using hx) (by rw [show i0 + (i + 1) = i0 + 1 + i by omega]; exact hp)
      rw [show i0 + (i + 1) = i0 + 1 + i by omega] at this
      exact this) (fun acc mu hp => hk acc mu (by rw [List.length_cons, show i0 + (xs.length + 1) = i0 + 1 + xs.length by omega]; exact hp))
    simp only [lcL]
    rw [if_pos o, e1]
    simp only [e2]
    rcases h with ⟨rfl, y, mu2, e3, h3⟩ | ⟨rfl, h3⟩
    · obtain ⟨ys, mu', e4, h4⟩ := ih _ _ h3
      simp only [if_true, e3, e4]
      refine ⟨_, _, rfl, ?_⟩
      rw [List.length_cons, show i0 + (xs.length + 1) = i0 + 1 + xs.length by omega]
      simpa using h4
    · obtain ⟨ys, mu', e4, h4⟩ := ih _ _ h3
      simp only [Bool.false_eq_true, if_false, e4]
      refine ⟨_, _, rfl, ?_⟩
      rw [List.length_cons, show i0 + (xs.length + 1) = i0 + 1 + xs.length by omega]
      exact h4
/-- all of what laws ask, a store that grows -/
theorem lcM_all {mi : M (List Val × Ok)} {is : List Nat} {f : Val → Option (List Val)} {e : M Val} {vs : List Nat} {r : Env1} {mu mu1 : Store} {xs : List Val} {ok : Ok} (P : Store → Prop) (h1 : mi r mu = .ok (xs, ok) mu1) (hl : xs.length ≤ 100000) (hok : ∀ m, P m → ok m)
    (step : ∀ (x : Val) (m : Store), x ∈ xs → P m → ∃ as, f x = some as ∧ ∃ m2, e (setAll (wipeE r vs) is as) m = .ok (.bl true) m2 ∧ P m2) (h0 : P mu1) :
    ∃ mu2, fA allV (consM (lcM mi is f yesT e vs) nilM) r mu = .ok (.bl true) mu2 ∧ P mu2 := by
  obtain ⟨ys, mu', e1, h2, h3⟩ := lcL_run (ok := ok) (is := is) (f := f) (t := yesT) (e := e) (vs := vs) (r := r) xs (fun _ acc m => (∀ y ∈ acc, y = Val.bl true) ∧ P m) 0 [] mu1 (fun i x acc m hx hp => by
    obtain ⟨as, a1, m2, a2, a3⟩ := step x m (List.mem_of_getElem? hx) hp.2
    refine ⟨hok _ hp.2, as, a1, true, m, rfl, .inl ⟨rfl, _, m2, a2, fun y hy => ?_, a3⟩⟩
    rcases List.mem_append.mp hy with hy | hy
    · exact hp.1 y hy
    · exact List.mem_singleton.mp hy) (fun acc m hp => hok m hp.2) ⟨fun y hy => (by cases hy), h0⟩
  refine ⟨mu', ?_, h3⟩
  have e2 := lcM_ok h1 hl e1
  have al : mapO blO ys = some (ys.map fun _ => true) := mapO_some fun y hy => by rw [h2 y hy]; rfl
  simp only [fA, consM, e2, nilM, R.bind, optR, allV, seqL2, seqL, al, Option.map_some]
  simp
theorem rngL_mem {lo : Int} {n : Nat} {x : Val} (h : x ∈ rngL lo n) : ∃ k : Nat, k < n ∧ x = .int (lo + k) := by
  obtain ⟨k, hk, rfl⟩ := List.mem_map.mp h
  exact ⟨k, List.mem_range.mp hk, rfl⟩
theorem rngL_len {lo : Int} {n : Nat} : (rngL lo n).length = n := by simp [rngL]
theorem len_scr {mu : Store} {ns : List Int} : lenV mu [.scr ns] = some (.int ns.length) := by simp only [lenV, seqL2, List.length_map]
theorem len_lst {mu : Store} {xs : List Val} : lenV mu [.lst xs] = some (.int xs.length) := by simp only [lenV, seqL2, seqL]
end CC

set_option Elab.async false
set_option linter.all false
set_option maxRecDepth 100000
set_option maxHeartbeats 2000000
namespace CC
open PySem PySem.Spec PyProof.Rows L2
/-- no reference within -/
def clB : Nat → Val → Bool
  | 0, v => (match v with
    | .tup _ => false
    | .lst _ => false
    | .dct _ => false
    | .obj _ _ => false
    | .err _ _ => false
    | .ref _ => false
    | _ => true)
  | n + 1, v => (match v with
    | .tup xs => xs.all (clB n)
    | .lst xs => xs.all (clB n)
    | .dct kvs => kvs.all fun q => clB n q.2
    | .obj _ fs => fs.all fun q => clB n q.2
    | .err _ fs => fs.all fun q => clB n q.2
    | .ref _ => false
    | _ => true)
theorem frz_cl {mu : Store} {n : Nat} : ∀ (k : Nat) (v : Val) (j : Nat), clB k v = true → k < j → frz mu n j v = some v := by
  intro k
  induction k with
  | zero =>
    intro v j h hj
    obtain ⟨j, rfl⟩ : ∃ i, j = i + 1 := ⟨j - 1, by omega⟩
    cases v <;> first | rfl | cases h
  | succ k ih =>
    intro v j h hj
    obtain ⟨j, rfl⟩ : ∃ i, j = i + 1 := ⟨j - 1, by omega⟩
    have key : ∀ xs : List Val, xs.all (clB k) = true → mapO (frz mu n j) xs = some xs := fun xs hx => mapO_id fun x hx2 => ih x j (List.all_eq_true.mp hx x hx2) (by omega)
    cases v with
    | tup xs => simp only [clB] at h; simp only [frz]; rw [key xs h]; rfl
    | lst xs => simp only [clB] at h; simp only [frz]; rw [key xs h]; rfl
    | dct kvs =>
      simp only [clB] at h
      have : mapO (fun q : DKey × Val => (frz mu n j q.2).map fun y => (q.1, y)) kvs = some kvs := mapO_id fun q hq => by rw [ih q.2 j (List.all_eq_true.mp h q hq) (by omega)]; rfl
      simp only [frz, this]
      rfl
    | obj C fs =>
      simp only [clB] at h
      have : mapO (fun q : Nat × Val => (frz mu n j q.2).map fun y => (q.1, y)) fs = some fs := mapO_id fun q hq => by rw [ih q.2 j (List.all_eq_true.mp h q hq) (by omega)]; rfl
      simp only [frz, this]
      rfl
    | err C fs =>
      simp only [clB] at h
      have : mapO (fun q : Nat × Val => (frz mu n j q.2).map fun y => (q.1, y)) fs = some fs := mapO_id fun q hq => by rw [ih q.2 j (List.all_eq_true.mp h q hq) (by omega)]; rfl
      simp only [frz, this]
      rfl
    | ref r => cases h
    | _ => rfl
theorem clB_mono : ∀ (k : Nat) (v : Val) (j : Nat), clB k v = true → k ≤ j → clB j v = true := by
  intro k
  induction k with
  | zero =>
    intro v j h hj
    cases j with
    | zero => exact h
    | succ j => cases v <;> first | rfl | cases h
  | succ k ih =>
    intro v j h hj
    obtain ⟨j, rfl⟩ : ∃ i, j = i + 1 := ⟨j - 1, by omega⟩
    cases v <;> first | rfl | (simp only [clB, List.all_eq_true] at h ⊢; exact fun x hx => ih _ j (h x hx) (by omega)) | cases h
theorem fin_cl0 {m : List Val → Store → R Val} {as : List Val} {mu : Store} {v : Val} (h : m as mu = .ok v mu) (e : clB 30 v = true) : finM m as mu = .ok v mu := fin_id h (frz_cl 30 v 140 e (by decide))
abbrev W3 (a b c : Int) : Cell := .lst [.int a, .int b, .int c]
def Well (w : Nat) (mu : Store) : Prop := ∃ a b c, mu[w]? = some (W3 a b c)
/-- nothing but the well has changed -/
structure Dip (w : Nat) (mu mu' : Store) : Prop where
  was : Well w mu
  set : ∃ a b c, mu' = mu.set w (W3 a b c)
theorem at_setW {mu : Store} {w : Nat} {c d : Cell} (h : mu[w]? = some d) : (mu.set w c)[w]? = some c := by
  rw [List.getElem?_set_self', h]
  rfl
theorem Well.lt {w : Nat} {mu : Store} (h : Well w mu) : w < mu.length := let ⟨_, _, _, e⟩ := h; (List.getElem?_eq_some_iff.mp e).1
theorem Dip.well {w : Nat} {mu mu' : Store} (D : Dip w mu mu') : Well w mu' := by
  obtain ⟨⟨a, b, c, h⟩, x, y, z, rfl⟩ := D
  exact ⟨x, y, z, at_setW h⟩
theorem Dip.len {w : Nat} {mu mu' : Store} (D : Dip w mu mu') : mu'.length = mu.length := by
  obtain ⟨_, x, y, z, rfl⟩ := D
  simp
theorem okS_refl (mu : Store) : okS mu mu := ⟨Nat.le_refl _, fun r c _ e => .inl e⟩
theorem okS_set {mu m : Store} {w : Nat} {c : Cell} (h : okS mu m) (hc : rlC mu.length c = true) : okS mu (m.set w c) := by
  refine ⟨by rw [List.length_set]; exact h.1, fun r d hr e => ?_⟩
  by_cases e1 : w = r
  · subst e1
    rw [List.getElem?_set_self' ] at e
    cases q : m[w]? with
    | none => rw [q] at e; cases e
    | some x => rw [q] at e; cases e; exact .inr hc
  · rw [List.getElem?_set_ne e1] at e
    exact h.2 r d hr e
theorem okS_ext {mu m ex : Store} (h : okS mu m) (l : m.length = mu.length) : okS mu (m ++ ex) := ⟨by rw [List.length_append]; omega, fun r d hr e => h.2 r d hr (by rwa [List.getElem?_append_left (by omega)] at e)⟩
theorem Dip.ok {w : Nat} {mu mu' : Store} (D : Dip w mu mu') : okS mu mu' := by
  obtain ⟨_, x, y, z, rfl⟩ := D
  exact okS_set (okS_refl _) rfl
theorem Dip.refl {w : Nat} {mu : Store} (h : Well w mu) : Dip w mu mu := ⟨h, by
  obtain ⟨a, b, c, e⟩ := h
  refine ⟨a, b, c, ?_⟩
  obtain ⟨hl, e2⟩ := List.getElem?_eq_some_iff.mp e
  rw [← e2, List.set_getElem_self]⟩
theorem Dip.trans {w : Nat} {a b c : Store} (h1 : Dip w a b) (h2 : Dip w b c) : Dip w a c := by
  obtain ⟨q, x, y, z, rfl⟩ := h1
  obtain ⟨-, x', y', z', rfl⟩ := h2
  exact ⟨q, x', y', z', by rw [List.set_set]⟩
/-- a dip on a longer store -/
theorem Dip.ext {w : Nat} {mu ex m : Store} (h : Well w mu) (D : Dip w (mu ++ ex) m) : ∃ mu1, m = mu1 ++ ex ∧ Dip w mu mu1 := by
  obtain ⟨-, x, y, z, rfl⟩ := D
  exact ⟨mu.set w (W3 x y z), by rw [List.set_append_left _ _ h.lt], h, x, y, z, rfl⟩
theorem Well.ext {w : Nat} {mu : Store} (h : Well w mu) (ex : Store) : Well w (mu ++ ex) := by
  obtain ⟨a, b, c, e⟩ := h
  exact ⟨a, b, c, by rw [List.getElem?_append_left (List.getElem?_eq_some_iff.mp e).1]; exact e⟩
theorem fin_D {m : List Val → Store → R Val} {as : List Val} {w : Nat} {mu mu1 ex : Store} {v z : Val} (h : m as mu = .ok v (mu1 ++ ex)) (D : Dip w mu mu1) (e : frz (mu1 ++ ex) mu.length 140 v = some z) : finM m as mu = .ok z mu1 := by
  unfold finM
  rw [h]
  simp only [finR]
  rw [if_pos (okS_ext D.ok D.len), e]
  simp only
  rw [← D.len, List.take_left]
theorem fin_D0 {m : List Val → Store → R Val} {as : List Val} {w : Nat} {mu mu1 : Store} {v : Val} (h : m as mu = .ok v mu1) (D : Dip w mu mu1) (e : clB 30 v = true) : finM m as mu = .ok v mu1 :=
  fin_D (ex := []) (by rw [List.append_nil]; exact h) D (frz_cl 30 v 140 e (by decide))
theorem fin_dip {m : List Val → Store → R Val} {as : List Val} {w : Nat} {mu mu' : Store} {v : Val} {d : PyData} (h : m as mu = .ok v mu') (D : Dip w mu mu') (e : toD 31 v = some d) : finM m as mu = .ok v mu' :=
  fin_D (ex := []) (by rw [List.append_nil]; exact h) D (frz_toD 31 v d 140 e (by decide))
end CC

set_option Elab.async false
set_option linter.all false
set_option maxRecDepth 100000
set_option maxHeartbeats 1000000
namespace CC
open PySem PySem.Spec PyProof.Rows L2
def isL (c : Nat) : Prop := (65 ≤ c ∧ c ≤ 90) ∨ (97 ≤ c ∧ c ≤ 122)
/-- the stack, its top first -/
def pushS (c : Nat) : List Nat → List Nat
  | [] => [c]
  | d :: t => if d = sw1 c then t else c :: d :: t
theorem pushS_cons (c d : Nat) (t : List Nat) : pushS c (d :: t) = if d = sw1 c then t else c :: d :: t := rfl
def stk (s : List Nat) (st : List Nat) : List Nat := s.foldl (fun st c => pushS c st) st
end CC

set_option Elab.async false
set_option linter.all false
set_option maxRecDepth 100000
set_option maxHeartbeats 1000000
namespace CC
open PySem PySem.Spec PyProof.Rows L2
end CC

set_option Elab.async false
set_option linter.all false
set_option maxRecDepth 100000
set_option maxHeartbeats 1000000
namespace CC
open PySem PySem.Spec PyProof.Rows L2
/-- a thing of depth k at most that has a repr; w: its weight -/
def Rp (k w : Nat) (v : Val) : Prop := ∃ d, (∀ n, k ≤ n → toDX n v = some d) ∧ d.showable = true ∧ d.leavesShort 50 = true ∧ d.weight ≤ w
theorem Rp.le {k k' w w' : Nat} {v : Val} (h : Rp k w v) (hk : k ≤ k') (hw : w ≤ w') : Rp k' w' v := by
  obtain ⟨d, h1, h2, h3, h4⟩ := h
  exact ⟨d, fun n hn => h1 n (by omega), h2, h3, by omega⟩
theorem toDX_non (n : Nat) : toDX n .non = some .none := by cases n <;> rfl
theorem toDX_bl (n : Nat) (b : Bool) : toDX n (.bl b) = some (.bool b) := by cases n <;> rfl
theorem toDX_int (n : Nat) (i : Int) : toDX n (.int i) = some (.int i) := by cases n <;> rfl
theorem toDX_str (n : Nat) (s : List Nat) : toDX n (.str s) = some (.str (S s)) := by cases n <;> rfl
theorem Rp.non {k w : Nat} : Rp k w .non := ⟨.none, fun n _ => toDX_non n, rfl, rfl, Nat.zero_le _⟩
theorem Rp.bl {k w : Nat} (b : Bool) : Rp k w (.bl b) := ⟨.bool b, fun n _ => toDX_bl n b, rfl, rfl, Nat.zero_le _⟩
theorem Rp.str {k w : Nat} {s : List Nat} (h : ∀ c ∈ s, c < 16 ^ 8) (hw : s.length ≤ w) : Rp k w (.str s) :=
  ⟨.str (S s), fun n _ => toDX_str n s, rfl, by
    simp only [PyData.leavesShort, List.all_eq_true, decide_eq_true_eq]
    exact h, by simpa [PyData.weight] using hw⟩
theorem Rp.int {k w : Nat} (i : Int) (h : decide ((PyData.shown (.int i)).length ≤ 50) = true) (h2 : decide (i.natAbs.log2 < w) = true) (h3 : w ≤ 1920) : Rp k w (.int i) :=
  ⟨.int i, fun n _ => toDX_int n i, by
    simp only [PyData.showable, decide_eq_true_eq] at h2 ⊢
    omega, by simpa only [PyData.leavesShort] using h, by
    simp only [PyData.weight, decide_eq_true_eq] at h2 ⊢
    split <;> omega⟩
theorem rp_all {k w : Nat} : ∀ {xs : List Val}, (∀ x ∈ xs, Rp k w x) → ∃ ds, (∀ n, k ≤ n → mapO (toDX n) xs = some ds) ∧ PyData.showableAll ds = true ∧ PyData.leavesShortAll 50 ds = true ∧ PyData.weightAll ds ≤ xs.length * (w + 1)
  | [], _ => ⟨[], fun _ _ => rfl, rfl, rfl, Nat.zero_le _⟩
  | x :: xs, h => by
    obtain ⟨d, h1, h2, h3, h4⟩ := h x List.mem_cons_self
    obtain ⟨ds, g1, g2, g3, g4⟩ := rp_all (xs := xs) fun y hy => h y (List.mem_cons_of_mem _ hy)
    refine ⟨d :: ds, fun n hn => ?_, ?_, ?_, ?_⟩
    · unfold mapO
      rw [h1 n hn, g1 n hn]
    · simp only [PyData.showableAll, h2, g2, Bool.and_self]
    · simp only [PyData.leavesShortAll, h3, g3, Bool.and_self]
    · simp only [PyData.weightAll, List.length_cons, Nat.add_mul, Nat.one_mul]
      omega
theorem Rp.lst {k w : Nat} {xs : List Val} (h : ∀ x ∈ xs, Rp k w x) : Rp (k + 1) (xs.length * (w + 1)) (.lst xs) := by
  obtain ⟨ds, g1, g2, g3, g4⟩ := rp_all h
  refine ⟨.list ds, fun n hn => ?_, ?_, ?_, ?_⟩
  · obtain ⟨n, rfl⟩ : ∃ m, n = m + 1 := ⟨n - 1, by omega⟩
    simp only [toDX, g1 n (by omega), Option.map_some]
  · simp only [PyData.showable, g2]
  · simp only [PyData.leavesShort, g3]
  · simpa only [PyData.weight] using g4
theorem Rp.tup {k w : Nat} {xs : List Val} (h : ∀ x ∈ xs, Rp k w x) : Rp (k + 1) (xs.length * (w + 1)) (.tup xs) := by
  obtain ⟨ds, g1, g2, g3, g4⟩ := rp_all h
  refine ⟨.tuple ds, fun n hn => ?_, ?_, ?_, ?_⟩
  · obtain ⟨n, rfl⟩ : ∃ m, n = m + 1 := ⟨n - 1, by omega⟩
    simp only [toDX, g1 n (by omega), Option.map_some]
  · simp only [PyData.showable, g2]
  · simp only [PyData.leavesShort, g3]
  · simpa only [PyData.weight] using g4
theorem Rp.lst' {k w W : Nat} {xs : List Val} (h : ∀ x ∈ xs, Rp k w x) (hw : xs.length * (w + 1) ≤ W) : Rp (k + 1) W (.lst xs) := (Rp.lst h).le (Nat.le_refl _) hw
/-- by running, for what is written -/
def rpB (w : Nat) (v : Val) : Bool := match toDX 5 v with
  | some d => d.showable && (d.leavesShort 50 && decide (d.weight ≤ w))
  | none => false
theorem toDX_mono : ∀ (n : Nat) (v : Val) (d : PyData) (m : Nat), toDX n v = some d → n ≤ m → toDX m v = some d := by
  intro n
  induction n with
  | zero =>
    intro v d m h hm
    cases v with
    | non => rw [toDX_non] at h ⊢; exact h
    | bl b => rw [toDX_bl] at h ⊢; exact h
    | int b => rw [toDX_int] at h ⊢; exact h
    | str b => rw [toDX_str] at h ⊢; exact h
    | _ => cases h
  | succ n ih =>
    intro v d m h hm
    obtain ⟨m, rfl⟩ : ∃ k, m = k + 1 := ⟨m - 1, by omega⟩
    have hm : n ≤ m := by omega
    have all : ∀ (xs : List Val) (ds : List PyData), mapO (toDX n) xs = some ds → mapO (toDX m) xs = some ds := by
      intro xs
      induction xs with
      | nil => intro ds h; exact h
      | cons x xs ihx =>
        intro ds h
        obtain ⟨y, ys, e1, e2, rfl⟩ := mapO_cons h
        unfold mapO
        rw [ih x y m e1 hm, ihx ys e2]
    cases v with
    | tup xs =>
      simp only [toDX] at h ⊢
      obtain ⟨ds, e, rfl⟩ := Option.map_eq_some_iff.mp h
      rw [all xs ds e]
      rfl
    | lst xs =>
      simp only [toDX] at h ⊢
      obtain ⟨ds, e, rfl⟩ := Option.map_eq_some_iff.mp h
      rw [all xs ds e]
      rfl
    | dct kvs =>
      simp only [toDX] at h ⊢
      obtain ⟨ds, e, rfl⟩ := Option.map_eq_some_iff.mp h
      have : ∀ (kvs : List (DKey × Val)) (ds : List (PyData × PyData)), mapO (fun q : DKey × Val => (kD q.1).bind fun k => (toDX n q.2).map fun v => (k, v)) kvs = some ds → mapO (fun q : DKey × Val => (kD q.1).bind fun k => (toDX m q.2).map fun v => (k, v)) kvs = some ds := by
        intro kvs
        induction kvs with
        | nil => intro ds h; exact h
        | cons q kvs ihx =>
          intro ds h
          obtain ⟨y, ys, e1, e2, rfl⟩ := mapO_cons h
          obtain ⟨k, hk, e1⟩ := Option.bind_eq_some_iff.mp e1
          obtain ⟨z, hz, rfl⟩ := Option.map_eq_some_iff.mp e1
          unfold mapO
          rw [ihx ys e2]
          simp only [hk, Option.bind_some, ih q.2 z m hz hm, Option.map_some]
      rw [this kvs ds e]
      rfl
    | non => rw [toDX_non] at h ⊢; exact h
    | bl b => rw [toDX_bl] at h ⊢; exact h
    | int b => rw [toDX_int] at h ⊢; exact h
    | str b => rw [toDX_str] at h ⊢; exact h
    | _ => cases h
theorem rp_of {w : Nat} {v : Val} (h : rpB w v = true) : Rp 5 w v := by
  unfold rpB at h
  split at h
  · rename_i d e
    simp only [Bool.and_eq_true, decide_eq_true_eq] at h
    exact ⟨d, fun n hn => toDX_mono 5 v d n e hn, h.1, h.2.1, h.2.2⟩
  · cases h
theorem repr_rp {v : Val} (h : Rp 31 100000 v) (mu : Store) : ∃ t, reprX mu [v] = some (.str t) := by
  obtain ⟨d, h1, h2, h3, h4⟩ := h
  have e : toDX1 mu v = some d := by
    have := h1 31 (Nat.le_refl _)
    cases v with
    | ref r => cases this
    | _ => exact this
  have hs := PyData.shown_le 50 (by decide) d h3
  have hz : sizeLine = 16777216 := by decide
  refine ⟨shownL d, ?_⟩
  simp only [reprX, e]
  rw [if_pos ⟨h2, by omega⟩]
end CC

set_option Elab.async false
set_option linter.all false
set_option maxRecDepth 100000
set_option maxHeartbeats 1000000
namespace CC
open PySem PySem.Spec PyProof.Rows L2
def taut (s : List Nat) : Prop := (stk s []).reverse = s
instance (s : List Nat) : Decidable (taut s) := inferInstanceAs (Decidable (_ = _))
def ALt (s : List Nat) : Prop := ∀ c ∈ s, isL c
theorem ALt.stk {s : List Nat} (h : ALt s) : ∀ {st : List Nat}, ALt st → ALt (CC.stk s st) := by
  induction s with
  | nil => intro st hs; exact hs
  | cons c s ih =>
    intro st hs
    refine ih (fun x hx => h x (List.mem_cons_of_mem _ hx)) (st := pushS c st) ?_
    intro x hx
    cases st with
    | nil => rw [show pushS c [] = [c] from rfl] at hx; rw [List.mem_singleton.mp hx]; exact h c List.mem_cons_self
    | cons d t =>
      rw [pushS_cons] at hx
      split at hx
      · exact hs x (List.mem_cons_of_mem _ hx)
      · rcases List.mem_cons.mp hx with rfl | hx
        · exact h _ List.mem_cons_self
        · exact hs x hx
end CC

set_option Elab.async false
set_option linter.all false
set_option maxRecDepth 100000
set_option maxHeartbeats 1000000
namespace CC
open PySem PySem.Spec PyProof.Rows L2
def choN : List Nat := [99, 104, 111, 111, 115, 101]
def orN : List Nat := [111, 114]
def repN : List Nat := [114, 101, 112, 101, 97, 116]
def endN : List Nat := [101, 110, 100]
def goN : List Nat := [103, 111]
def doN : List Nat := [100, 111]
def backN : List Nat := [98, 97, 99, 107]
inductive Itm where
  | one (w x : List Nat) | rep (b : List Itm) | cho (bs : List (List Itm))
abbrev Toks := List (List Nat)
end CC

set_option Elab.async false
set_option linter.all false
set_option maxRecDepth 100000
set_option maxHeartbeats 1000000
namespace CC
open PySem PySem.Spec PyProof.Rows L2
end CC

set_option Elab.async false
set_option linter.all false
set_option maxRecDepth 100000
set_option maxHeartbeats 1000000
namespace CC
open PySem PySem.Spec PyProof.Rows L2
mutual
def linI : Itm → Toks
  | .one w x => [w ++ [32] ++ x]
  | .rep b => repN :: (linB b ++ [endN])
  | .cho bs => linC choN bs ++ [endN]
def linB : List Itm → Toks
  | [] => []
  | i :: r => linI i ++ linB r
def linC (t : List Nat) : List (List Itm) → Toks
  | [] => []
  | b :: r => t :: (linB b ++ linC orN r)
end
/-- what inn does with an item that has lines of its own -/
def Reads (inn : List Nat → Toks → Option Itm × Toks) (i : Itm) : Prop := (∃ w x, i = .one w x ∧ w ∈ [goN, doN, backN] ∧ x ≠ []) ∨ ∃ t tl, linI i = t :: tl ∧ (t = choN ∨ t = repN) ∧ ∀ r, inn t (tl ++ r) = (some i, r)
end CC

set_option Elab.async false
set_option linter.all false
set_option maxRecDepth 100000
set_option maxHeartbeats 1000000
namespace K01
open PySem PySem.Spec PyProof.Rows L2 CC
theorem at_new (mu : Store) (c : Cell) : (mu ++ [c])[mu.length]? = some c := by simp
theorem set_new (mu : Store) (c d : Cell) : (mu ++ [c]).set mu.length d = mu ++ [d] := by simp
abbrev strN (s : Str) : List Nat := s.cps.toList
theorem dip_ok {w : Nat} {mu : Store} {n : Nat} (h : Well w mu) (h1 : 0 < n) (h2 : n < 1073741824) : ∃ (d : Nat) (mu' : Store), m_L_law_dip [.ref w, .int n] mu = .ok (.int d) mu' ∧ d < n ∧ Dip w mu mu' := by
  obtain ⟨a, b, c, hw⟩ := h
  have ix0 : ∀ m a b c, m[w]? = some (W3 a b c) → ixV m (.ref w) (.int 0) = some (.int a) := fun m a b c e => by simp only [ixV, dctV, seqL, e]; rfl
  have ix1 : ∀ m a b c, m[w]? = some (W3 a b c) → ixV m (.ref w) (.int 1) = some (.int b) := fun m a b c e => by simp only [ixV, dctV, seqL, e]; rfl
  have ix2 : ∀ m a b c, m[w]? = some (W3 a b c) → ixV m (.ref w) (.int 2) = some (.int c) := fun m a b c e => by simp only [ixV, dctV, seqL, e]; rfl
  have st0 : ∀ m a b c x, m[w]? = some (W3 a b c) → storeV m (.ref w) (.int 0) (.int x) = some (m.set w (W3 x b c)) := fun m a b c x e => by simp only [storeV, e]; rfl
  have st1 : ∀ m a b c x, m[w]? = some (W3 a b c) → storeV m (.ref w) (.int 1) (.int x) = some (m.set w (W3 a x c)) := fun m a b c x e => by simp only [storeV, e]; rfl
  have st2 : ∀ m a b c x, m[w]? = some (W3 a b c) → storeV m (.ref w) (.int 2) (.int x) = some (m.set w (W3 a b x)) := fun m a b c x e => by simp only [storeV, e]; rfl
  have hn : (0 : Int) < n := by omega
  have hn2 : (n : Int) < 1073741824 := by omega
  have rl3 : ∀ n x y z, rlC n (W3 x y z) = true := fun n x y z => rfl
  have md : ∀ m (x : Int), modV m (.int x) (.int n) = some (.int (x % n)) := fun m x => by simp only [modV, hn, if_true]
  have dv : ∀ m (x : Int), fdivV m (.int x) (.int n) = some (.int (x / n)) := fun m x => by simp only [fdivV, hn, hn2, and_self, if_true]
  have k1 := at_setW (c := W3 a b (c + 1)) hw
  have posm : ∀ x : Int, ∃ d : Nat, x % n = d ∧ d < n := fun x => ⟨(x % n).toNat, by have := Int.emod_nonneg x (show (n : Int) ≠ 0 by omega); omega, by have := Int.emod_lt_of_pos x hn; have := Int.emod_nonneg x (show (n : Int) ≠ 0 by omega); omega⟩
  by_cases ha : 0 < a
  · obtain ⟨d, e, hd⟩ := posm a
    have k2 := at_setW (c := W3 (a / n) b (c + 1)) k1
    refine ⟨d, _, fin_dip (w := w) (d := .int d) (mu' := (mu.set w (W3 a b (c + 1))).set w (W3 (a / n) b (c + 1))) ?_ ?_ rfl, hd, ?_⟩
    · simp only [m0_L_law_dip, defK, b_L_law_dip, seqS, ifS_ap, retS_ap, asgS_ap, exprS_ap, forS_ap, parS_ap, bindS_ap, nextS, orT, andT, notT, tstM, CC.tB, blM, CC.andM, CC.orM, CC.notM, ifM, b2, u1, fA, vM, cM, optR, R.bind, consM, nilM, tupM, lstM, newM, slM, noP, inP, chM, gNameM, gSubM, gFldM, optX, gPc, gTupM, gListM, setAll, oneC, tupC, yesT, itT, itL, itS, itR1, itEnT, callM, isiV, tagOf, truV, sm0, sm1, lmM, dnewM, objV, isNV, List.set, List.length_cons, List.length_nil, List.map_cons, List.map_nil, List.cons_append, List.nil_append, List.append_assoc, List.length_append, List.replicate, List.getElem?_cons_zero, List.getElem?_cons_succ, Option.bind_some, Option.map_some, Option.bind_none, Option.map_none, if_true, if_false, ↓reduceIte, Nat.zero_le, Nat.zero_add, Nat.reduceAdd, Nat.reduceSub, Nat.sub_self, List.append_nil, Nat.reduceLeDiff, Bool.false_eq_true, Bool.not_true, Bool.not_false, Bool.true_eq_false, propM, clsM, noX, mkKM, mkVM, strL, ix2 _ _ _ _ hw, addV, st2 _ _ _ _ _ hw, ix0 _ _ _ _ k1, gtV, ordV, ha, decide_true, intV, md, dv, st0 _ _ _ _ _ k1, e]
    · exact ⟨⟨_, _, _, hw⟩, _, _, _, List.set_set ..⟩
    · exact ⟨⟨_, _, _, hw⟩, _, _, _, List.set_set ..⟩
  · have k2 := fun x => at_setW (c := W3 a x (c + 1)) k1
    obtain ⟨d, e, hd⟩ := posm (((b * 48271 + 7919 * (c + 1) + 11) % 2147483647) / 1024)
    refine ⟨d, _, fin_dip (w := w) (d := .int d) (mu' := (mu.set w (W3 a b (c + 1))).set w (W3 a ((b * 48271 + 7919 * (c + 1) + 11) % 2147483647) (c + 1))) ?_ ?_ rfl, hd, ?_⟩
    · have md2 : ∀ m (x : Int), modV m (.int x) (.int 2147483647) = some (.int (x % 2147483647)) := fun m x => rfl
      have dv2 : ∀ m (x : Int), fdivV m (.int x) (.int 1024) = some (.int (x / 1024)) := fun m x => rfl
      have ml : ∀ m (x : Int), mulV m (.int x) (.int 48271) = some (.int (x * 48271)) := fun m x => by simp only [mulV]; rw [if_pos (.inr (by decide))]
      have ml2 : ∀ m (y : Int), mulV m (.int 7919) (.int y) = some (.int (7919 * y)) := fun m y => by simp only [mulV]; rw [if_pos (.inl (by decide))]
      simp only [m0_L_law_dip, defK, b_L_law_dip, seqS, ifS_ap, retS_ap, asgS_ap, exprS_ap, forS_ap, parS_ap, bindS_ap, nextS, orT, andT, notT, tstM, CC.tB, blM, CC.andM, CC.orM, CC.notM, ifM, b2, u1, fA, vM, cM, optR, R.bind, consM, nilM, tupM, lstM, newM, slM, noP, inP, chM, gNameM, gSubM, gFldM, optX, gPc, gTupM, gListM, setAll, oneC, tupC, yesT, itT, itL, itS, itR1, itEnT, callM, isiV, tagOf, truV, sm0, sm1, lmM, dnewM, objV, isNV, List.set, List.length_cons, List.length_nil, List.map_cons, List.map_nil, List.cons_append, List.nil_append, List.append_assoc, List.length_append, List.replicate, List.getElem?_cons_zero, List.getElem?_cons_succ, Option.bind_some, Option.map_some, Option.bind_none, Option.map_none, if_true, if_false, ↓reduceIte, Nat.zero_le, Nat.zero_add, Nat.reduceAdd, Nat.reduceSub, Nat.sub_self, List.append_nil, Nat.reduceLeDiff, Bool.false_eq_true, Bool.not_true, Bool.not_false, Bool.true_eq_false, propM, clsM, noX, mkKM, mkVM, strL, ix2 _ _ _ _ hw, addV, st2 _ _ _ _ _ hw, ix0 _ _ _ _ k1, ix1 _ _ _ _ k1, ix2 _ _ _ _ k1, gtV, ordV, ha, decide_false, intV, md2, dv2, ml, ml2, st1 _ _ _ _ _ k1, ix1 _ _ _ _ (k2 _), md, e]
    · exact ⟨⟨_, _, _, hw⟩, _, _, _, List.set_set ..⟩
    · exact ⟨⟨_, _, _, hw⟩, _, _, _, List.set_set ..⟩
def stir (t : Int) (s : Int) (zs : List Int) : Int := zs.foldl (fun s z => (s * 48271 + z % 1000033 + t) % 2147483647) s
theorem well_ok (ns : List Int) (t : Nat) (mu : Store) : ∃ a b, m_L_law_well [.scr ns, .int t] mu = .ok (.ref mu.length) (mu ++ [W3 a b 0]) := by
  have ml : ∀ m (x : Int), mulV m (.int x) (.int 48271) = some (.int (x * 48271)) := fun m x => by simp only [mulV]; rw [if_pos (.inr (by decide))]
  have ml37 : ∀ m (y : Int), mulV m (.int 37) (.int y) = some (.int (37 * y)) := fun m y => by simp only [mulV]; rw [if_pos (.inl (by decide))]
  have ml613 : ∀ m (y : Int), mulV m (.int 613) (.int y) = some (.int (613 * y)) := fun m y => by simp only [mulV]; rw [if_pos (.inl (by decide))]
  have md1 : ∀ m (x : Int), modV m (.int x) (.int 1000033) = some (.int (x % 1000033)) := fun m x => rfl
  have md2 : ∀ m (x : Int), modV m (.int x) (.int 2147483647) = some (.int (x % 2147483647)) := fun m x => rfl
  have pw : ∀ m, powV m (.int 10) (.int 18) = some (.int (10 ^ 18)) := fun m => rfl
  have sl : slV mu (.scr ns) none (some 8) = some (.lst ((ns.take 8).map Val.int)) := by
    show some (Val.lst ((cutL ns none (some ((8 : Nat) : Int))).map Val.int)) = _
    rw [cut_fore]
  have ent : ∃ e : Int, ifM (CC.tB (b2 ltV (vM 1) (fA lenV (consM (vM 0) nilM)))) (fA intV (consM (b2 ixV (vM 0) (vM 1)) nilM)) (b2 addV (b2 mulV (cM (.int 37)) (vM 1)) (cM (.int 5))) [some (.scr ns), some (.int t), none, none, none] mu = .ok (.int e) mu := by
    by_cases h : t < ns.length
    · have ix : ixV mu (.scr ns) (.int t) = some (.int ns[t]) := by
        simp only [ixV, dctV, atI_n, List.getElem?_eq_getElem h, Option.map_some]
      have h' : (t : Int) < ns.length := by omega
      refine ⟨ns[t], ?_⟩
      simp only [seqS, ifS_ap, retS_ap, asgS_ap, exprS_ap, forS_ap, parS_ap, bindS_ap, nextS, orT, andT, notT, tstM, CC.tB, blM, CC.andM, CC.orM, CC.notM, ifM, b2, u1, fA, vM, cM, optR, R.bind, consM, nilM, tupM, lstM, newM, slM, noP, inP, chM, gNameM, gSubM, gFldM, optX, gPc, gTupM, gListM, setAll, oneC, tupC, yesT, itT, itL, itS, itR1, itEnT, callM, isiV, tagOf, truV, sm0, sm1, lmM, dnewM, objV, isNV, List.set, List.length_cons, List.length_nil, List.map_cons, List.map_nil, List.cons_append, List.nil_append, List.append_assoc, List.length_append, List.replicate, List.getElem?_cons_zero, List.getElem?_cons_succ, Option.bind_some, Option.map_some, Option.bind_none, Option.map_none, if_true, if_false, ↓reduceIte, Nat.zero_le, Nat.zero_add, Nat.reduceAdd, Nat.reduceSub, Nat.sub_self, List.append_nil, Nat.reduceLeDiff, Bool.false_eq_true, Bool.not_true, Bool.not_false, Bool.true_eq_false, propM, clsM, noX, mkKM, mkVM, strL, ltV, ordV, len_scr, h', decide_true, ix, intV]
    · have h' : ¬ (t : Int) < ns.length := by omega
      refine ⟨37 * t + 5, ?_⟩
      simp only [seqS, ifS_ap, retS_ap, asgS_ap, exprS_ap, forS_ap, parS_ap, bindS_ap, nextS, orT, andT, notT, tstM, CC.tB, blM, CC.andM, CC.orM, CC.notM, ifM, b2, u1, fA, vM, cM, optR, R.bind, consM, nilM, tupM, lstM, newM, slM, noP, inP, chM, gNameM, gSubM, gFldM, optX, gPc, gTupM, gListM, setAll, oneC, tupC, yesT, itT, itL, itS, itR1, itEnT, callM, isiV, tagOf, truV, sm0, sm1, lmM, dnewM, objV, isNV, List.set, List.length_cons, List.length_nil, List.map_cons, List.map_nil, List.cons_append, List.nil_append, List.append_assoc, List.length_append, List.replicate, List.getElem?_cons_zero, List.getElem?_cons_succ, Option.bind_some, Option.map_some, Option.bind_none, Option.map_none, if_true, if_false, ↓reduceIte, Nat.zero_le, Nat.zero_add, Nat.reduceAdd, Nat.reduceSub, Nat.sub_self, List.append_nil, Nat.reduceLeDiff, Bool.false_eq_true, Bool.not_true, Bool.not_false, Bool.true_eq_false, propM, clsM, noX, mkKM, mkVM, strL, ltV, ordV, len_scr, h', decide_false, ml37, addV]
  obtain ⟨e, he⟩ := ent
  have fin : ∃ a b, b_L_law_well [some (.scr ns), some (.int t), none, none, none] mu = .rt (.ref mu.length) (mu ++ [W3 a b 0]) := by
    unfold b_L_law_well
    refine ⟨if 10 ^ 18 ≤ (if e < 0 then -e else e) then (if e < 0 then -e else e) else 0, ((stir t (8191 + 613 * t) (ns.take 8)) * 48271 + e % 1000033) % 2147483647, ?_⟩
    refine (seq_nx (by rw [asgS_ap, he]; rfl)).trans ?_
    refine (seq_nx (by simp only [seqS, ifS_ap, retS_ap, asgS_ap, exprS_ap, forS_ap, parS_ap, bindS_ap, nextS, orT, andT, notT, tstM, CC.tB, blM, CC.andM, CC.orM, CC.notM, ifM, b2, u1, fA, vM, cM, optR, R.bind, consM, nilM, tupM, lstM, newM, slM, noP, inP, chM, gNameM, gSubM, gFldM, optX, gPc, gTupM, gListM, setAll, oneC, tupC, yesT, itT, itL, itS, itR1, itEnT, callM, isiV, tagOf, truV, sm0, sm1, lmM, dnewM, objV, isNV, List.set, List.length_cons, List.length_nil, List.map_cons, List.map_nil, List.cons_append, List.nil_append, List.append_assoc, List.length_append, List.replicate, List.getElem?_cons_zero, List.getElem?_cons_succ, Option.bind_some, Option.map_some, Option.bind_none, Option.map_none, if_true, if_false, ↓reduceIte, Nat.zero_le, Nat.zero_add, Nat.reduceAdd, Nat.reduceSub, Nat.sub_self, List.append_nil, Nat.reduceLeDiff, Bool.false_eq_true, Bool.not_true, Bool.not_false, Bool.true_eq_false, propM, clsM, noX, mkKM, mkVM, strL, ml613, addV] <;> rfl)).trans ?_
    refine seq_ex (I := fun r' m' => (∃ y, r' = [some (.scr ns), some (.int t), some (.int e), some (.int (stir t (8191 + 613 * t) (ns.take 8))), y]) ∧ m' = mu) ?_ ?_
    · refine for_ex (xs := (ns.take 8).map Val.int) (ok := allOk) (mu0 := mu) (fun i r' m' => (∃ y, r' = [some (.scr ns), some (.int t), some (.int e), some (.int (stir t (8191 + 613 * t) ((ns.take 8).take i))), y]) ∧ m' = mu) ?_ (fun _ _ _ _ => trivial) ?_ ⟨⟨none, rfl⟩, rfl⟩ ?_
      · simp only [seqS, ifS_ap, retS_ap, asgS_ap, exprS_ap, forS_ap, parS_ap, bindS_ap, nextS, orT, andT, notT, tstM, CC.tB, blM, CC.andM, CC.orM, CC.notM, ifM, b2, u1, fA, vM, cM, optR, R.bind, consM, nilM, tupM, lstM, newM, slM, noP, inP, chM, gNameM, gSubM, gFldM, optX, gPc, gTupM, gListM, setAll, oneC, tupC, yesT, itT, itL, itS, itR1, itEnT, callM, isiV, tagOf, truV, sm0, sm1, lmM, dnewM, objV, isNV, List.set, List.length_cons, List.length_nil, List.map_cons, List.map_nil, List.cons_append, List.nil_append, List.append_assoc, List.length_append, List.replicate, List.getElem?_cons_zero, List.getElem?_cons_succ, Option.bind_some, Option.map_some, Option.bind_none, Option.map_none, if_true, if_false, ↓reduceIte, Nat.zero_le, Nat.zero_add, Nat.reduceAdd, Nat.reduceSub, Nat.sub_self, List.append_nil, Nat.reduceLeDiff, Bool.false_eq_true, Bool.not_true, Bool.not_false, Bool.true_eq_false, propM, clsM, noX, mkKM, mkVM, strL, sl]
      · rintro i x r' m' hx ⟨⟨y, rfl⟩, rfl⟩
        rw [List.getElem?_map] at hx
        obtain ⟨z, hz, rfl⟩ := Option.map_eq_some_iff.mp hx
        refine ⟨_, _, rfl, _, _, by simp only [seqS, ifS_ap, retS_ap, asgS_ap, exprS_ap, forS_ap, parS_ap, bindS_ap, nextS, orT, andT, notT, tstM, CC.tB, blM, CC.andM, CC.orM, CC.notM, ifM, b2, u1, fA, vM, cM, optR, R.bind, consM, nilM, tupM, lstM, newM, slM, noP, inP, chM, gNameM, gSubM, gFldM, optX, gPc, gTupM, gListM, setAll, oneC, tupC, yesT, itT, itL, itS, itR1, itEnT, callM, isiV, tagOf, truV, sm0, sm1, lmM, dnewM, objV, isNV, List.set, List.length_cons, List.length_nil, List.map_cons, List.map_nil, List.cons_append, List.nil_append, List.append_assoc, List.length_append, List.replicate, List.getElem?_cons_zero, List.getElem?_cons_succ, Option.bind_some, Option.map_some, Option.bind_none, Option.map_none, if_true, if_false, ↓reduceIte, Nat.zero_le, Nat.zero_add, Nat.reduceAdd, Nat.reduceSub, Nat.sub_self, List.append_nil, Nat.reduceLeDiff, Bool.false_eq_true, Bool.not_true, Bool.not_false, Bool.true_eq_false, propM, clsM, noX, mkKM, mkVM, strL, ml, addV, md1, intV, md2] <;> rfl, ⟨some (.int z), ?_⟩, rfl⟩
        rw [List.take_succ (l := List.take 8 ns) (i := i), hz, Option.toList_some]
        unfold stir
        rw [List.foldl_append]
        rfl
      · rintro r' m' ⟨⟨y, rfl⟩, rfl⟩
        rw [List.length_map, List.take_length]
        exact ⟨⟨y, rfl⟩, rfl⟩
    · rintro r' m' ⟨⟨y, rfl⟩, rfl⟩
      refine (seq_nx (by simp only [seqS, ifS_ap, retS_ap, asgS_ap, exprS_ap, forS_ap, parS_ap, bindS_ap, nextS, orT, andT, notT, tstM, CC.tB, blM, CC.andM, CC.orM, CC.notM, ifM, b2, u1, fA, vM, cM, optR, R.bind, consM, nilM, tupM, lstM, newM, slM, noP, inP, chM, gNameM, gSubM, gFldM, optX, gPc, gTupM, gListM, setAll, oneC, tupC, yesT, itT, itL, itS, itR1, itEnT, callM, isiV, tagOf, truV, sm0, sm1, lmM, dnewM, objV, isNV, List.set, List.length_cons, List.length_nil, List.map_cons, List.map_nil, List.cons_append, List.nil_append, List.append_assoc, List.length_append, List.replicate, List.getElem?_cons_zero, List.getElem?_cons_succ, Option.bind_some, Option.map_some, Option.bind_none, Option.map_none, if_true, if_false, ↓reduceIte, Nat.zero_le, Nat.zero_add, Nat.reduceAdd, Nat.reduceSub, Nat.sub_self, List.append_nil, Nat.reduceLeDiff, Bool.false_eq_true, Bool.not_true, Bool.not_false, Bool.true_eq_false, propM, clsM, noX, mkKM, mkVM, strL, ml, addV, md1, intV, md2] <;> rfl)).trans ?_
      by_cases h : 10 ^ 18 ≤ (if e < 0 then -e else e)
      · simp only [seqS, ifS_ap, retS_ap, asgS_ap, exprS_ap, forS_ap, parS_ap, bindS_ap, nextS, orT, andT, notT, tstM, CC.tB, blM, CC.andM, CC.orM, CC.notM, ifM, b2, u1, fA, vM, cM, optR, R.bind, consM, nilM, tupM, lstM, newM, slM, noP, inP, chM, gNameM, gSubM, gFldM, optX, gPc, gTupM, gListM, setAll, oneC, tupC, yesT, itT, itL, itS, itR1, itEnT, callM, isiV, tagOf, truV, sm0, sm1, lmM, dnewM, objV, isNV, List.set, List.length_cons, List.length_nil, List.map_cons, List.map_nil, List.cons_append, List.nil_append, List.append_assoc, List.length_append, List.replicate, List.getElem?_cons_zero, List.getElem?_cons_succ, Option.bind_some, Option.map_some, Option.bind_none, Option.map_none, if_true, if_false, ↓reduceIte, Nat.zero_le, Nat.zero_add, Nat.reduceAdd, Nat.reduceSub, Nat.sub_self, List.append_nil, Nat.reduceLeDiff, Bool.false_eq_true, Bool.not_true, Bool.not_false, Bool.true_eq_false, propM, clsM, noX, mkKM, mkVM, strL, CC.absV, geV, ordV, pw, h, decide_true]
      · simp only [seqS, ifS_ap, retS_ap, asgS_ap, exprS_ap, forS_ap, parS_ap, bindS_ap, nextS, orT, andT, notT, tstM, CC.tB, blM, CC.andM, CC.orM, CC.notM, ifM, b2, u1, fA, vM, cM, optR, R.bind, consM, nilM, tupM, lstM, newM, slM, noP, inP, chM, gNameM, gSubM, gFldM, optX, gPc, gTupM, gListM, setAll, oneC, tupC, yesT, itT, itL, itS, itR1, itEnT, callM, isiV, tagOf, truV, sm0, sm1, lmM, dnewM, objV, isNV, List.set, List.length_cons, List.length_nil, List.map_cons, List.map_nil, List.cons_append, List.nil_append, List.append_assoc, List.length_append, List.replicate, List.getElem?_cons_zero, List.getElem?_cons_succ, Option.bind_some, Option.map_some, Option.bind_none, Option.map_none, if_true, if_false, ↓reduceIte, Nat.zero_le, Nat.zero_add, Nat.reduceAdd, Nat.reduceSub, Nat.sub_self, List.append_nil, Nat.reduceLeDiff, Bool.false_eq_true, Bool.not_true, Bool.not_false, Bool.true_eq_false, propM, clsM, noX, mkKM, mkVM, strL, CC.absV, geV, ordV, pw, h, decide_false]
  obtain ⟨a, b, hf⟩ := fin
  refine ⟨a, b, ?_⟩
  show m0_L_law_well _ _ = _
  unfold m0_L_law_well
  exact defK_rt rfl hf
theorem well_at (mu : Store) (a b : Int) : Well mu.length (mu ++ [W3 a b 0]) := ⟨a, b, 0, at_new _ _⟩
theorem at2a (mu : Store) (a b : Cell) : (mu ++ [a, b])[mu.length]? = some a := by simp
theorem at2b (mu : Store) (a b : Cell) : (mu ++ [a, b])[mu.length + 1]? = some b := by simp [List.getElem?_append_right]
def oddA : List Val := [.non, .bl true, .bl false, .int 0, .int 1, .int (-1), .int (10 ^ 39), strL "", strL "a", strL "A", strL "hall", strL "Hall", strL "ab cd", strL "go a", strL "or", strL "a\n", strL "1", strL "ninesigns", strL "hall yard", .tup [], .tup [.non], .tup [strL "hall"], .tup [strL "hall", strL ""], .tup [strL "hall", strL "a"], .tup [strL "a", strL "hall", strL "hall"], .lst [], .lst [strL "hall"], .lst [strL "hall", strL ""]]
def oddB : List Val := [.tup [.tup []], .tup [.lst []], .tup [strL "hall", .lst []], .tup [strL "", strL "hall", strL "hall"], .tup [.int 0, .int 1]]
def oddR (n : Nat) : List Val := oddA ++ (.ref n :: .ref (n + 1) :: oddB)
abbrev oddD : List (DKey × Val) := [(.str (strN "a"), .int 1)]
def oddF : List Val := oddA ++ (.dct [] :: .dct oddD :: oddB)
theorem oddF_ok : (oddF.all fun z => clB 10 z && rpB 2000 z) = true := by decide +kernel
theorem odd_cl {z : Val} (h : z ∈ oddF) : clB 10 z = true := by
  have := List.all_eq_true.mp oddF_ok z h
  rw [Bool.and_eq_true] at this
  exact this.1
theorem odd_rp {z : Val} (h : z ∈ oddF) : Rp 5 2000 z := by
  have := List.all_eq_true.mp oddF_ok z h
  rw [Bool.and_eq_true] at this
  exact rp_of this.2
theorem frz_refD {mu : Store} {n k r : Nat} {d : List (DKey × Val)} (h1 : ¬ r < n) (h2 : mu[r]? = some (.dct d)) : frz mu n (k + 1) (.ref r) = (mapO (fun q => (frz mu n k q.2).map fun y => (q.1, y)) d).map .dct := by
  rw [frz]
  simp only [h1, if_false, h2]
theorem odd_ok {w : Nat} {mu : Store} (h : Well w mu) : ∃ z mu', m_L_law_odd [.ref w] mu = .ok z mu' ∧ z ∈ oddF ∧ Dip w mu mu' := by
  have pw : ∀ m, powV m (.int 10) (.int 39) = some (.int (10 ^ 39)) := fun m => rfl
  have ed : ∀ r, dispM [(cM (strL "a"), cM (.int 1))] r (mu ++ [.dct []]) = .ok (.ref (mu.length + 1)) (mu ++ [.dct [], .dct oddD]) := fun r => by
    have e1 := at_new (mu ++ [.dct []]) (.dct [])
    have e2 := set_new (mu ++ [.dct []]) (.dct []) (.dct oddD)
    simp only [List.length_append, List.length_cons, List.length_nil, Nat.zero_add, List.append_assoc, List.cons_append, List.nil_append] at e1 e2
    simp only [dispM, dispM2, cM, R.bind, CC.keyOf, strL, List.nil_append, List.length_append, List.length_cons, List.length_nil, Nat.zero_add, List.append_assoc, List.cons_append, e1]
    rw [if_pos (by decide)]
    show R.ok _ ((mu ++ [Cell.dct [], Cell.dct []]).set (mu.length + 1) (Cell.dct oddD)) = _
    rw [e2]
  generalize eex : ([Cell.dct [], Cell.dct oddD] : List Cell) = ex at ed
  obtain ⟨d, mu3, x1, x2, x3⟩ := dip_ok (n := 35) (h.ext ex) (by decide) (by decide)
  obtain ⟨mu1, rfl, D⟩ := x3.ext h
  have hl : (oddR mu.length).length = 35 := rfl
  have hd : d < (oddR mu.length).length := by rw [hl]; exact x2
  have e0 : m0_L_law_odd [.ref w] mu = .ok ((oddR mu.length)[d]) (mu1 ++ ex) := by
    unfold m0_L_law_odd
    refine defK_rt rfl ?_
    unfold b_L_law_odd
    refine (seq_nx (by simp only [seqS, ifS_ap, retS_ap, asgS_ap, exprS_ap, forS_ap, parS_ap, bindS_ap, nextS, orT, andT, notT, tstM, CC.tB, blM, CC.andM, CC.orM, CC.notM, ifM, b2, u1, fA, vM, cM, optR, R.bind, consM, nilM, tupM, lstM, newM, slM, noP, inP, chM, gNameM, gSubM, gFldM, optX, gPc, gTupM, gListM, setAll, oneC, tupC, yesT, itT, itL, itS, itR1, itEnT, callM, isiV, tagOf, truV, sm0, sm1, lmM, dnewM, objV, isNV, List.set, List.length_cons, List.length_nil, List.map_cons, List.map_nil, List.cons_append, List.nil_append, List.append_assoc, List.length_append, List.replicate, List.getElem?_cons_zero, List.getElem?_cons_succ, Option.bind_some, Option.map_some, Option.bind_none, Option.map_none, if_true, if_false, ↓reduceIte, Nat.zero_le, Nat.zero_add, Nat.reduceAdd, Nat.reduceSub, Nat.sub_self, List.append_nil, Nat.reduceLeDiff, Bool.false_eq_true, Bool.not_true, Bool.not_false, Bool.true_eq_false, propM, clsM, noX, mkKM, mkVM, strL, negV, pw] <;> rfl)).trans ?_
    refine (seq_nx (by simp only [seqS, ifS_ap, retS_ap, asgS_ap, exprS_ap, forS_ap, parS_ap, bindS_ap, nextS, orT, andT, notT, tstM, CC.tB, blM, CC.andM, CC.orM, CC.notM, ifM, b2, u1, fA, vM, cM, optR, R.bind, consM, nilM, tupM, lstM, newM, slM, noP, inP, chM, gNameM, gSubM, gFldM, optX, gPc, gTupM, gListM, setAll, oneC, tupC, yesT, itT, itL, itS, itR1, itEnT, callM, isiV, tagOf, truV, sm0, sm1, lmM, dnewM, objV, isNV, List.set, List.length_cons, List.length_nil, List.map_cons, List.map_nil, List.cons_append, List.nil_append, List.append_assoc, List.length_append, List.replicate, List.getElem?_cons_zero, List.getElem?_cons_succ, Option.bind_some, Option.map_some, Option.bind_none, Option.map_none, if_true, if_false, ↓reduceIte, Nat.zero_le, Nat.zero_add, Nat.reduceAdd, Nat.reduceSub, Nat.sub_self, List.append_nil, Nat.reduceLeDiff, Bool.false_eq_true, Bool.not_true, Bool.not_false, Bool.true_eq_false, propM, clsM, noX, mkKM, mkVM, strL, addV, seqL] <;> rfl)).trans ?_
    refine (seq_nx (r1 := [some (.ref w), some (.lst (oddR mu.length))]) (mu1 := mu ++ ex) (by simp only [seqS, ifS_ap, retS_ap, asgS_ap, exprS_ap, forS_ap, parS_ap, bindS_ap, nextS, orT, andT, notT, tstM, CC.tB, blM, CC.andM, CC.orM, CC.notM, ifM, b2, u1, fA, vM, cM, optR, R.bind, consM, nilM, tupM, lstM, newM, slM, noP, inP, chM, gNameM, gSubM, gFldM, optX, gPc, gTupM, gListM, setAll, oneC, tupC, yesT, itT, itL, itS, itR1, itEnT, callM, isiV, tagOf, truV, sm0, sm1, lmM, dnewM, objV, isNV, List.set, List.length_cons, List.length_nil, List.map_cons, List.map_nil, List.cons_append, List.nil_append, List.append_assoc, List.length_append, List.replicate, List.getElem?_cons_zero, List.getElem?_cons_succ, Option.bind_some, Option.map_some, Option.bind_none, Option.map_none, if_true, if_false, ↓reduceIte, Nat.zero_le, Nat.zero_add, Nat.reduceAdd, Nat.reduceSub, Nat.sub_self, List.append_nil, Nat.reduceLeDiff, Bool.false_eq_true, Bool.not_true, Bool.not_false, Bool.true_eq_false, propM, clsM, noX, mkKM, mkVM, strL, addV, seqL, ed] <;> rfl)).trans ?_
    have l1 : lenV (mu ++ ex) [.lst (oddR mu.length)] = some (.int (35 : Nat)) := by rw [len_lst, hl]
    have i1 : ixV (mu1 ++ ex) (.lst (oddR mu.length)) (.int d) = some ((oddR mu.length)[d]) := by rw [ix_lst]; exact List.getElem?_eq_getElem hd
    simp only [seqS, ifS_ap, retS_ap, asgS_ap, exprS_ap, forS_ap, parS_ap, bindS_ap, nextS, orT, andT, notT, tstM, CC.tB, blM, CC.andM, CC.orM, CC.notM, ifM, b2, u1, fA, vM, cM, optR, R.bind, consM, nilM, tupM, lstM, newM, slM, noP, inP, chM, gNameM, gSubM, gFldM, optX, gPc, gTupM, gListM, setAll, oneC, tupC, yesT, itT, itL, itS, itR1, itEnT, callM, isiV, tagOf, truV, sm0, sm1, lmM, dnewM, objV, isNV, List.set, List.length_cons, List.length_nil, List.map_cons, List.map_nil, List.cons_append, List.nil_append, List.append_assoc, List.length_append, List.replicate, List.getElem?_cons_zero, List.getElem?_cons_succ, Option.bind_some, Option.map_some, Option.bind_none, Option.map_none, if_true, if_false, ↓reduceIte, Nat.zero_le, Nat.zero_add, Nat.reduceAdd, Nat.reduceSub, Nat.sub_self, List.append_nil, Nat.reduceLeDiff, Bool.false_eq_true, Bool.not_true, Bool.not_false, Bool.true_eq_false, propM, clsM, noX, mkKM, mkVM, strL, l1, x1, i1]
  have key : ∃ z ∈ oddF, frz (mu1 ++ ex) mu.length 140 ((oddR mu.length)[d]) = some z := by
    have hm : (oddR mu.length)[d] ∈ oddR mu.length := List.getElem_mem hd
    revert hm
    generalize (oddR mu.length)[d] = v
    intro hm
    have cl : v ∈ oddF → ∃ z ∈ oddF, frz (mu1 ++ ex) mu.length 140 v = some z := fun hv => ⟨v, hv, frz_cl 10 v 140 (odd_cl hv) (by decide)⟩
    subst eex
    rcases List.mem_append.mp hm with q | q
    · exact cl (List.mem_append_left _ q)
    · rcases List.mem_cons.mp q with rfl | q
      · refine ⟨.dct [], List.mem_append_right _ (by simp), ?_⟩
        rw [frz_refD (k := 139) (d := []) (by omega) (by rw [← D.len]; exact at2a _ _ _)]
        rfl
      · rcases List.mem_cons.mp q with rfl | q
        · refine ⟨.dct oddD, List.mem_append_right _ (by simp), ?_⟩
          rw [frz_refD (k := 139) (d := oddD) (by omega) (by rw [← D.len]; exact at2b _ _ _)]
          rfl
        · exact cl (List.mem_append_right _ (List.mem_cons_of_mem _ (List.mem_cons_of_mem _ q)))
  obtain ⟨z, hz, hf⟩ := key
  exact ⟨z, mu1, fin_D e0 D hf, hz, D⟩
end K01

set_option Elab.async false
set_option linter.all false
set_option maxRecDepth 100000
set_option maxHeartbeats 1000000
namespace K01
open PySem PySem.Spec PyProof.Rows L2 CC
def G12 : List Nat := [2, 3, 4, 5, 6, 7, 21, 22, 8, 9, 10, 11]
def I6 : List Nat := [12, 13, 14, 15, 23, 24]
def L18 : List Nat := [2, 3, 4, 5, 6, 7, 21, 22, 8, 9, 10, 11, 12, 13, 14, 15, 23, 24]
def L3a : List Nat := [17, 25, 26]
def L3b : List Nat := [19, 20, 27]
def L24 : List Nat := [2, 3, 4, 5, 6, 7, 21, 22, 8, 9, 10, 11, 12, 13, 14, 15, 23, 24, 17, 25, 26, 19, 20, 27]
abbrev givV (z : Val) : Val := .lst (G12.map fun C => .err C [(0, z)])
abbrev indV (z : Val) : Val := .lst (I6.map fun C => .err C [(1, z)])
theorem made_ok (z : Val) (mu : Store) (h : clB 20 z = true) : m_L_law_made [z] mu = .ok (.lst [givV z, indV z]) mu := by
  have cl : clB 30 (.lst [givV z, indV z]) = true := by
    have e : ∀ n C, clB 28 (.err C [(n, z)]) = true := fun n C => by
      show ([(n, z)] : List (Nat × Val)).all (fun q => clB 27 q.2) = true
      rw [List.all_cons, List.all_nil, clB_mono 20 z 27 h (by decide)]
      rfl
    have a : clB 29 (givV z) = true := by
      show (G12.map fun C => Val.err C [(0, z)]).all (clB 28) = true
      rw [List.all_eq_true]
      intro y hy
      obtain ⟨C, -, rfl⟩ := List.mem_map.mp hy
      exact e 0 C
    have b : clB 29 (indV z) = true := by
      show (I6.map fun C => Val.err C [(1, z)]).all (clB 28) = true
      rw [List.all_eq_true]
      intro y hy
      obtain ⟨C, -, rfl⟩ := List.mem_map.mp hy
      exact e 1 C
    show [givV z, indV z].all (clB 29) = true
    rw [List.all_cons, List.all_cons, List.all_nil, a, b]
    rfl
  exact fin_cl0 (defK_rt rfl rfl) cl
theorem kt_all : (L24.all fun C => L24.all fun D => decide (kt (.inr C) (.inr D) = some (C == D))) = true := by decide +kernel
theorem kt_at {C D : Nat} (hC : C ∈ L24) (hD : D ∈ L24) : kt (.inr C) (.inr D) = some (C == D) := of_decide_eq_true (List.all_eq_true.mp (List.all_eq_true.mp kt_all C hC) D hD)
theorem ec_all : (L24.all ec) = true := by decide +kernel
theorem is_at {C D : Nat} (hC : C ∈ L24) (hD : D ∈ L24) (fs : List (Nat × Val)) (mu : Store) : isiE kt ec mu [.err C fs, .cls D] = some (.bl (C == D)) := by
  have e := List.all_eq_true.mp ec_all C hC
  simp only [isiE, e, if_true, tgOf, Option.bind_some, kt_at hC hD, Option.map_some]
abbrev kV (C : Nat) : Val := .lst [.lst (L18.map fun D => .bl (C == D)), .lst (L3a.map fun D => .bl (C == D)), .lst (L3b.map fun D => .bl (C == D))]
theorem kinds_ok {C : Nat} (hC : C ∈ L24) (fs : List (Nat × Val)) (mu : Store) : m_L_law_kinds [.err C fs] mu = .ok (kV C) mu := by
  have i : ∀ D ∈ L24, isiE kt ec mu [.err C fs, .cls D] = some (.bl (C == D)) := fun D hD => is_at hC hD fs mu
  refine fin_cl0 (defK_rt rfl ?_) rfl
  show b_L_law_kinds [some (.err C fs), none, none, none] mu = _
  unfold b_L_law_kinds
  generalize Val.err C fs = e at *
  have i2 := i 2 (by decide)
  have i3 := i 3 (by decide)
  have i4 := i 4 (by decide)
  have i5 := i 5 (by decide)
  have i6 := i 6 (by decide)
  have i7 := i 7 (by decide)
  have i21 := i 21 (by decide)
  have i22 := i 22 (by decide)
  have i8 := i 8 (by decide)
  have i9 := i 9 (by decide)
  have i10 := i 10 (by decide)
  have i11 := i 11 (by decide)
  have i12 := i 12 (by decide)
  have i13 := i 13 (by decide)
  have i14 := i 14 (by decide)
  have i15 := i 15 (by decide)
  have i23 := i 23 (by decide)
  have i24 := i 24 (by decide)
  have i17 := i 17 (by decide)
  have i25 := i 25 (by decide)
  have i26 := i 26 (by decide)
  have i19 := i 19 (by decide)
  have i20 := i 20 (by decide)
  have i27 := i 27 (by decide)
  refine (seq_nx (r1 := [some e, some (.lst [.bl (C == 2), .bl (C == 3), .bl (C == 4)]), none, none]) (mu1 := mu) (by simp only [seqS, ifS_ap, retS_ap, asgS_ap, exprS_ap, forS_ap, parS_ap, bindS_ap, nextS, orT, andT, notT, tstM, CC.tB, blM, CC.andM, CC.orM, CC.notM, ifM, b2, u1, fA, vM, cM, optR, R.bind, consM, nilM, tupM, lstM, newM, slM, noP, inP, chM, gNameM, gSubM, gFldM, optX, gPc, gTupM, gListM, setAll, oneC, tupC, yesT, itT, itL, itS, itR1, itEnT, callM, isiV, tagOf, truV, sm0, sm1, lmM, dnewM, objV, isNV, List.set, List.length_cons, List.length_nil, List.map_cons, List.map_nil, List.cons_append, List.nil_append, List.append_assoc, List.length_append, List.replicate, List.getElem?_cons_zero, List.getElem?_cons_succ, Option.bind_some, Option.map_some, Option.bind_none, Option.map_none, if_true, if_false, ↓reduceIte, Nat.zero_le, Nat.zero_add, Nat.reduceAdd, Nat.reduceSub, Nat.sub_self, List.append_nil, Nat.reduceLeDiff, Bool.false_eq_true, Bool.not_true, Bool.not_false, Bool.true_eq_false, propM, clsM, noX, mkKM, mkVM, strL, i2, i3, i4])).trans ?_
  refine (seq_nx (r1 := [some e, some (.lst [.bl (C == 2), .bl (C == 3), .bl (C == 4), .bl (C == 5), .bl (C == 6)]), none, none]) (mu1 := mu) (by simp only [seqS, ifS_ap, retS_ap, asgS_ap, exprS_ap, forS_ap, parS_ap, bindS_ap, nextS, orT, andT, notT, tstM, CC.tB, blM, CC.andM, CC.orM, CC.notM, ifM, b2, u1, fA, vM, cM, optR, R.bind, consM, nilM, tupM, lstM, newM, slM, noP, inP, chM, gNameM, gSubM, gFldM, optX, gPc, gTupM, gListM, setAll, oneC, tupC, yesT, itT, itL, itS, itR1, itEnT, callM, isiV, tagOf, truV, sm0, sm1, lmM, dnewM, objV, isNV, List.set, List.length_cons, List.length_nil, List.map_cons, List.map_nil, List.cons_append, List.nil_append, List.append_assoc, List.length_append, List.replicate, List.getElem?_cons_zero, List.getElem?_cons_succ, Option.bind_some, Option.map_some, Option.bind_none, Option.map_none, if_true, if_false, ↓reduceIte, Nat.zero_le, Nat.zero_add, Nat.reduceAdd, Nat.reduceSub, Nat.sub_self, List.append_nil, Nat.reduceLeDiff, Bool.false_eq_true, Bool.not_true, Bool.not_false, Bool.true_eq_false, propM, clsM, noX, mkKM, mkVM, strL, i5, i6, addV, seqL])).trans ?_
  refine (seq_nx (r1 := [some e, some (.lst [.bl (C == 2), .bl (C == 3), .bl (C == 4), .bl (C == 5), .bl (C == 6), .bl (C == 7), .bl (C == 21)]), none, none]) (mu1 := mu) (by simp only [seqS, ifS_ap, retS_ap, asgS_ap, exprS_ap, forS_ap, parS_ap, bindS_ap, nextS, orT, andT, notT, tstM, CC.tB, blM, CC.andM, CC.orM, CC.notM, ifM, b2, u1, fA, vM, cM, optR, R.bind, consM, nilM, tupM, lstM, newM, slM, noP, inP, chM, gNameM, gSubM, gFldM, optX, gPc, gTupM, gListM, setAll, oneC, tupC, yesT, itT, itL, itS, itR1, itEnT, callM, isiV, tagOf, truV, sm0, sm1, lmM, dnewM, objV, isNV, List.set, List.length_cons, List.length_nil, List.map_cons, List.map_nil, List.cons_append, List.nil_append, List.append_assoc, List.length_append, List.replicate, List.getElem?_cons_zero, List.getElem?_cons_succ, Option.bind_some, Option.map_some, Option.bind_none, Option.map_none, if_true, if_false, ↓reduceIte, Nat.zero_le, Nat.zero_add, Nat.reduceAdd, Nat.reduceSub, Nat.sub_self, List.append_nil, Nat.reduceLeDiff, Bool.false_eq_true, Bool.not_true, Bool.not_false, Bool.true_eq_false, propM, clsM, noX, mkKM, mkVM, strL, i7, i21, addV, seqL])).trans ?_
  refine (seq_nx (r1 := [some e, some (.lst [.bl (C == 2), .bl (C == 3), .bl (C == 4), .bl (C == 5), .bl (C == 6), .bl (C == 7), .bl (C == 21), .bl (C == 22), .bl (C == 8), .bl (C == 9)]), none, none]) (mu1 := mu) (by simp only [seqS, ifS_ap, retS_ap, asgS_ap, exprS_ap, forS_ap, parS_ap, bindS_ap, nextS, orT, andT, notT, tstM, CC.tB, blM, CC.andM, CC.orM, CC.notM, ifM, b2, u1, fA, vM, cM, optR, R.bind, consM, nilM, tupM, lstM, newM, slM, noP, inP, chM, gNameM, gSubM, gFldM, optX, gPc, gTupM, gListM, setAll, oneC, tupC, yesT, itT, itL, itS, itR1, itEnT, callM, isiV, tagOf, truV, sm0, sm1, lmM, dnewM, objV, isNV, List.set, List.length_cons, List.length_nil, List.map_cons, List.map_nil, List.cons_append, List.nil_append, List.append_assoc, List.length_append, List.replicate, List.getElem?_cons_zero, List.getElem?_cons_succ, Option.bind_some, Option.map_some, Option.bind_none, Option.map_none, if_true, if_false, ↓reduceIte, Nat.zero_le, Nat.zero_add, Nat.reduceAdd, Nat.reduceSub, Nat.sub_self, List.append_nil, Nat.reduceLeDiff, Bool.false_eq_true, Bool.not_true, Bool.not_false, Bool.true_eq_false, propM, clsM, noX, mkKM, mkVM, strL, i22, i8, i9, addV, seqL])).trans ?_
  refine (seq_nx (r1 := [some e, some (.lst [.bl (C == 2), .bl (C == 3), .bl (C == 4), .bl (C == 5), .bl (C == 6), .bl (C == 7), .bl (C == 21), .bl (C == 22), .bl (C == 8), .bl (C == 9), .bl (C == 10), .bl (C == 11), .bl (C == 12)]), none, none]) (mu1 := mu) (by simp only [seqS, ifS_ap, retS_ap, asgS_ap, exprS_ap, forS_ap, parS_ap, bindS_ap, nextS, orT, andT, notT, tstM, CC.tB, blM, CC.andM, CC.orM, CC.notM, ifM, b2, u1, fA, vM, cM, optR, R.bind, consM, nilM, tupM, lstM, newM, slM, noP, inP, chM, gNameM, gSubM, gFldM, optX, gPc, gTupM, gListM, setAll, oneC, tupC, yesT, itT, itL, itS, itR1, itEnT, callM, isiV, tagOf, truV, sm0, sm1, lmM, dnewM, objV, isNV, List.set, List.length_cons, List.length_nil, List.map_cons, List.map_nil, List.cons_append, List.nil_append, List.append_assoc, List.length_append, List.replicate, List.getElem?_cons_zero, List.getElem?_cons_succ, Option.bind_some, Option.map_some, Option.bind_none, Option.map_none, if_true, if_false, ↓reduceIte, Nat.zero_le, Nat.zero_add, Nat.reduceAdd, Nat.reduceSub, Nat.sub_self, List.append_nil, Nat.reduceLeDiff, Bool.false_eq_true, Bool.not_true, Bool.not_false, Bool.true_eq_false, propM, clsM, noX, mkKM, mkVM, strL, i10, i11, i12, addV, seqL])).trans ?_
  refine (seq_nx (r1 := [some e, some (.lst [.bl (C == 2), .bl (C == 3), .bl (C == 4), .bl (C == 5), .bl (C == 6), .bl (C == 7), .bl (C == 21), .bl (C == 22), .bl (C == 8), .bl (C == 9), .bl (C == 10), .bl (C == 11), .bl (C == 12), .bl (C == 13), .bl (C == 14), .bl (C == 15)]), none, none]) (mu1 := mu) (by simp only [seqS, ifS_ap, retS_ap, asgS_ap, exprS_ap, forS_ap, parS_ap, bindS_ap, nextS, orT, andT, notT, tstM, CC.tB, blM, CC.andM, CC.orM, CC.notM, ifM, b2, u1, fA, vM, cM, optR, R.bind, consM, nilM, tupM, lstM, newM, slM, noP, inP, chM, gNameM, gSubM, gFldM, optX, gPc, gTupM, gListM, setAll, oneC, tupC, yesT, itT, itL, itS, itR1, itEnT, callM, isiV, tagOf, truV, sm0, sm1, lmM, dnewM, objV, isNV, List.set, List.length_cons, List.length_nil, List.map_cons, List.map_nil, List.cons_append, List.nil_append, List.append_assoc, List.length_append, List.replicate, List.getElem?_cons_zero, List.getElem?_cons_succ, Option.bind_some, Option.map_some, Option.bind_none, Option.map_none, if_true, if_false, ↓reduceIte, Nat.zero_le, Nat.zero_add, Nat.reduceAdd, Nat.reduceSub, Nat.sub_self, List.append_nil, Nat.reduceLeDiff, Bool.false_eq_true, Bool.not_true, Bool.not_false, Bool.true_eq_false, propM, clsM, noX, mkKM, mkVM, strL, i13, i14, i15, addV, seqL])).trans ?_
  refine (seq_nx (r1 := [some e, some (.lst (L18.map fun D => .bl (C == D))), none, none]) (mu1 := mu) (by simp only [seqS, ifS_ap, retS_ap, asgS_ap, exprS_ap, forS_ap, parS_ap, bindS_ap, nextS, orT, andT, notT, tstM, CC.tB, blM, CC.andM, CC.orM, CC.notM, ifM, b2, u1, fA, vM, cM, optR, R.bind, consM, nilM, tupM, lstM, newM, slM, noP, inP, chM, gNameM, gSubM, gFldM, optX, gPc, gTupM, gListM, setAll, oneC, tupC, yesT, itT, itL, itS, itR1, itEnT, callM, isiV, tagOf, truV, sm0, sm1, lmM, dnewM, objV, isNV, List.set, List.length_cons, List.length_nil, List.map_cons, List.map_nil, List.cons_append, List.nil_append, List.append_assoc, List.length_append, List.replicate, List.getElem?_cons_zero, List.getElem?_cons_succ, Option.bind_some, Option.map_some, Option.bind_none, Option.map_none, if_true, if_false, ↓reduceIte, Nat.zero_le, Nat.zero_add, Nat.reduceAdd, Nat.reduceSub, Nat.sub_self, List.append_nil, Nat.reduceLeDiff, Bool.false_eq_true, Bool.not_true, Bool.not_false, Bool.true_eq_false, propM, clsM, noX, mkKM, mkVM, strL, i23, i24, addV, seqL] <;> rfl)).trans ?_
  refine (seq_nx (r1 := [some e, some (.lst (L18.map fun D => .bl (C == D))), some (.lst (L3a.map fun D => .bl (C == D))), none]) (mu1 := mu) (by simp only [seqS, ifS_ap, retS_ap, asgS_ap, exprS_ap, forS_ap, parS_ap, bindS_ap, nextS, orT, andT, notT, tstM, CC.tB, blM, CC.andM, CC.orM, CC.notM, ifM, b2, u1, fA, vM, cM, optR, R.bind, consM, nilM, tupM, lstM, newM, slM, noP, inP, chM, gNameM, gSubM, gFldM, optX, gPc, gTupM, gListM, setAll, oneC, tupC, yesT, itT, itL, itS, itR1, itEnT, callM, isiV, tagOf, truV, sm0, sm1, lmM, dnewM, objV, isNV, List.set, List.length_cons, List.length_nil, List.map_cons, List.map_nil, List.cons_append, List.nil_append, List.append_assoc, List.length_append, List.replicate, List.getElem?_cons_zero, List.getElem?_cons_succ, Option.bind_some, Option.map_some, Option.bind_none, Option.map_none, if_true, if_false, ↓reduceIte, Nat.zero_le, Nat.zero_add, Nat.reduceAdd, Nat.reduceSub, Nat.sub_self, List.append_nil, Nat.reduceLeDiff, Bool.false_eq_true, Bool.not_true, Bool.not_false, Bool.true_eq_false, propM, clsM, noX, mkKM, mkVM, strL, i17, i25, i26] <;> rfl)).trans ?_
  refine (seq_nx (r1 := [some e, some (.lst (L18.map fun D => .bl (C == D))), some (.lst (L3a.map fun D => .bl (C == D))), some (.lst (L3b.map fun D => .bl (C == D)))]) (mu1 := mu) (by simp only [seqS, ifS_ap, retS_ap, asgS_ap, exprS_ap, forS_ap, parS_ap, bindS_ap, nextS, orT, andT, notT, tstM, CC.tB, blM, CC.andM, CC.orM, CC.notM, ifM, b2, u1, fA, vM, cM, optR, R.bind, consM, nilM, tupM, lstM, newM, slM, noP, inP, chM, gNameM, gSubM, gFldM, optX, gPc, gTupM, gListM, setAll, oneC, tupC, yesT, itT, itL, itS, itR1, itEnT, callM, isiV, tagOf, truV, sm0, sm1, lmM, dnewM, objV, isNV, List.set, List.length_cons, List.length_nil, List.map_cons, List.map_nil, List.cons_append, List.nil_append, List.append_assoc, List.length_append, List.replicate, List.getElem?_cons_zero, List.getElem?_cons_succ, Option.bind_some, Option.map_some, Option.bind_none, Option.map_none, if_true, if_false, ↓reduceIte, Nat.zero_le, Nat.zero_add, Nat.reduceAdd, Nat.reduceSub, Nat.sub_self, List.append_nil, Nat.reduceLeDiff, Bool.false_eq_true, Bool.not_true, Bool.not_false, Bool.true_eq_false, propM, clsM, noX, mkKM, mkVM, strL, i19, i20, i27] <;> rfl)).trans ?_
  unfold kV
  generalize L18.map (fun D => Val.bl (C == D)) = A
  generalize L3a.map (fun D => Val.bl (C == D)) = B
  generalize L3b.map (fun D => Val.bl (C == D)) = D
  rfl
/-- class, part, place -/
def tab : List (Nat × Nat × Nat) := [(2, 0, 0), (3, 0, 1), (4, 0, 2), (5, 0, 3), (6, 0, 4), (7, 0, 5), (21, 0, 6), (22, 0, 7), (8, 0, 8), (9, 0, 9), (10, 0, 10), (11, 0, 11), (12, 0, 12), (13, 0, 13), (14, 0, 14), (15, 0, 15), (23, 0, 16), (24, 0, 17), (17, 1, 0), (25, 1, 1), (26, 1, 2), (19, 2, 0), (20, 2, 1), (27, 2, 2)]
abbrev bV (p : Nat) : Val := .lst ([0, 1, 2].map fun k : Nat => .bl (decide (k = p)))
def baseQ (q : Nat × Nat × Nat) : Bool := ec q.1 && (decide (q.1 ∈ L24) && ((decide (kt (.inr q.1) (.inr 1) = some (decide (0 = q.2.1))) && (decide (kt (.inr q.1) (.inr 16) = some (decide (1 = q.2.1))) && decide (kt (.inr q.1) (.inr 18) = some (decide (2 = q.2.1))))) && (decide (kt (.inr q.1) (.inl "ValueError") = some (decide (0 = q.2.1))) && (decide (kt (.inr q.1) (.inl "LookupError") = some (decide (1 = q.2.1))) && decide (kt (.inr q.1) (.inl "ArithmeticError") = some (decide (2 = q.2.1)))))))
theorem base_all : (tab.all baseQ) = true := by decide +kernel
theorem bases_ok {q : Nat × Nat × Nat} (hq : q ∈ tab) (fs : List (Nat × Val)) (mu : Store) : m_L_law_bases [.err q.1 fs] mu = .ok (.lst [bV q.2.1, bV q.2.1]) mu := by
  obtain ⟨C, p, a⟩ := q
  have b := List.all_eq_true.mp base_all _ hq
  unfold baseQ at b
  simp only [Bool.and_eq_true, decide_eq_true_eq] at b
  obtain ⟨e, -, ⟨b1, b2, b3⟩, b4, b5, b6⟩ := b
  have i1 : isiE kt ec mu [.err C fs, .cls 1] = some (.bl (decide (0 = p))) := by simp only [isiE, e, if_true, tgOf, Option.bind_some, b1, Option.map_some]
  have i2 : isiE kt ec mu [.err C fs, .cls 16] = some (.bl (decide (1 = p))) := by simp only [isiE, e, if_true, tgOf, Option.bind_some, b2, Option.map_some]
  have i3 : isiE kt ec mu [.err C fs, .cls 18] = some (.bl (decide (2 = p))) := by simp only [isiE, e, if_true, tgOf, Option.bind_some, b3, Option.map_some]
  have i4 : isiE kt ec mu [.err C fs, .ty "ValueError"] = some (.bl (decide (0 = p))) := by simp only [isiE, e, if_true, tgOf, Option.bind_some, b4, Option.map_some]
  have i5 : isiE kt ec mu [.err C fs, .ty "LookupError"] = some (.bl (decide (1 = p))) := by simp only [isiE, e, if_true, tgOf, Option.bind_some, b5, Option.map_some]
  have i6 : isiE kt ec mu [.err C fs, .ty "ArithmeticError"] = some (.bl (decide (2 = p))) := by simp only [isiE, e, if_true, tgOf, Option.bind_some, b6, Option.map_some]
  refine fin_cl0 (defK_rt rfl ?_) rfl
  show b_L_law_bases [some (.err C fs), none] mu = _
  unfold b_L_law_bases
  generalize Val.err C fs = v at *
  refine (seq_nx (r1 := [some v, some (bV p)]) (mu1 := mu) (by simp only [seqS, ifS_ap, retS_ap, asgS_ap, exprS_ap, forS_ap, parS_ap, bindS_ap, nextS, orT, andT, notT, tstM, CC.tB, blM, CC.andM, CC.orM, CC.notM, ifM, b2, u1, fA, vM, cM, optR, R.bind, consM, nilM, tupM, lstM, newM, slM, noP, inP, chM, gNameM, gSubM, gFldM, optX, gPc, gTupM, gListM, setAll, oneC, tupC, yesT, itT, itL, itS, itR1, itEnT, callM, isiV, tagOf, truV, sm0, sm1, lmM, dnewM, objV, isNV, List.set, List.length_cons, List.length_nil, List.map_cons, List.map_nil, List.cons_append, List.nil_append, List.append_assoc, List.length_append, List.replicate, List.getElem?_cons_zero, List.getElem?_cons_succ, Option.bind_some, Option.map_some, Option.bind_none, Option.map_none, if_true, if_false, ↓reduceIte, Nat.zero_le, Nat.zero_add, Nat.reduceAdd, Nat.reduceSub, Nat.sub_self, List.append_nil, Nat.reduceLeDiff, Bool.false_eq_true, Bool.not_true, Bool.not_false, Bool.true_eq_false, propM, clsM, noX, mkKM, mkVM, strL, i1, i2, i3] <;> rfl)).trans ?_
  have e : bV p = .lst [.bl (decide (0 = p)), .bl (decide (1 = p)), .bl (decide (2 = p))] := rfl
  rw [e]
  generalize decide (0 = p) = d0 at *
  generalize decide (1 = p) = d1 at *
  generalize decide (2 = p) = d2 at *
  simp only [seqS, ifS_ap, retS_ap, asgS_ap, exprS_ap, forS_ap, parS_ap, bindS_ap, nextS, orT, andT, notT, tstM, CC.tB, blM, CC.andM, CC.orM, CC.notM, ifM, b2, u1, fA, vM, cM, optR, R.bind, consM, nilM, tupM, lstM, newM, slM, noP, inP, chM, gNameM, gSubM, gFldM, optX, gPc, gTupM, gListM, setAll, oneC, tupC, yesT, itT, itL, itS, itR1, itEnT, callM, isiV, tagOf, truV, sm0, sm1, lmM, dnewM, objV, isNV, List.set, List.length_cons, List.length_nil, List.map_cons, List.map_nil, List.cons_append, List.nil_append, List.append_assoc, List.length_append, List.replicate, List.getElem?_cons_zero, List.getElem?_cons_succ, Option.bind_some, Option.map_some, Option.bind_none, Option.map_none, if_true, if_false, ↓reduceIte, Nat.zero_le, Nat.zero_add, Nat.reduceAdd, Nat.reduceSub, Nat.sub_self, List.append_nil, Nat.reduceLeDiff, Bool.false_eq_true, Bool.not_true, Bool.not_false, Bool.true_eq_false, propM, clsM, noX, mkKM, mkVM, strL, i4, i5, i6]
end K01

set_option Elab.async false
set_option linter.all false
set_option maxRecDepth 100000
set_option maxHeartbeats 1000000
namespace K01
open PySem PySem.Spec PyProof.Rows L2 CC
def fl (n : Nat) : List Val := List.replicate n (.bl false)
/-- the row of part j: all are false but one, in part p at a -/
def rw_ (n p a j : Nat) : List Val := if j = p then (fl n).set a (.bl true) else fl n
def chk (q : Nat × Nat × Nat) : Bool := match toD 31 (kV q.1), mapO (toD 20) (rw_ 18 q.2.1 q.2.2 0), mapO (toD 20) (rw_ 3 q.2.1 q.2.2 1), mapO (toD 20) (rw_ 3 q.2.1 q.2.2 2) with
  | some d, some x, some y, some z => PyData.eqv d (.list [.list x, .list y, .list z])
  | _, _, _, _ => false
theorem chk_all : (tab.all chk) = true := by decide +kernel
def small (q : Nat × Nat × Nat) : Bool := decide (q.2.1 < 3) && (decide (q.1 ∈ L24) && decide (q.2.2 < (if q.2.1 = 0 then 18 else 3)))
theorem small_all : (tab.all small) = true := by decide +kernel
theorem mul_fl (mu : Store) {n : Nat} (hn : n ≤ 1000) : mulN mu (.lst [.bl false]) (.int (n : Int)) = .ok (.ref mu.length) (mu ++ [.lst (fl n)]) := by
  have e : (List.replicate n [Val.bl false]).flatten = fl n := by
    unfold fl
    induction n with
    | zero => rfl
    | succ n ih => rw [List.replicate_succ, List.flatten_cons, ih (by omega), List.replicate_succ]; rfl
  simp only [mulN, seqL]
  rw [if_pos ⟨(show 1 ≤ 1000 by decide), by omega, by omega⟩, Int.toNat_natCast, e]
theorem fl_len (n : Nat) : (fl n).length = n := by unfold fl; rw [List.length_replicate]
abbrev cells (p a : Nat) : Store := [.lst (rw_ 18 p a 0), .lst (rw_ 3 p a 1), .lst (rw_ 3 p a 2)]
theorem store_ok (mu : Store) {p a : Nat} (hp : p < 3) (ha : a < (if p = 0 then 18 else 3)) : storeV (mu ++ [.lst (fl 18), .lst (fl 3), .lst (fl 3)]) (.ref (mu.length + p)) (.int (a : Int)) (.bl true) = some (mu ++ cells p a) := by
  have ix : ∀ n, a < n → ixN n (a : Int) = some a := fun n h => by
    unfold ixN
    rw [if_pos (by omega), if_pos (by omega)]
    rfl
  have h3 : p = 0 ∨ p = 1 ∨ p = 2 := by omega
  rcases h3 with rfl | rfl | rfl
  · have e : (mu ++ [.lst (fl 18), .lst (fl 3), .lst (fl 3)])[mu.length + 0]? = some (Cell.lst (fl 18)) := by simp
    simp only [storeV, e, fl_len, ix 18 ha, Option.map_some]
    rw [List.set_append_right _ _ (by omega)]
    rw [show mu.length + 0 - mu.length = 0 by omega]
    rfl
  · have e : (mu ++ [.lst (fl 18), .lst (fl 3), .lst (fl 3)])[mu.length + 1]? = some (Cell.lst (fl 3)) := by
      rw [List.getElem?_append_right (by omega), show mu.length + 1 - mu.length = 1 by omega]
      rfl
    simp only [storeV, e, fl_len, ix 3 ha, Option.map_some]
    rw [List.set_append_right _ _ (by omega), show mu.length + 1 - mu.length = 1 by omega]
    rfl
  · have e : (mu ++ [.lst (fl 18), .lst (fl 3), .lst (fl 3)])[mu.length + 2]? = some (Cell.lst (fl 3)) := by
      rw [List.getElem?_append_right (by omega), show mu.length + 2 - mu.length = 2 by omega]
      rfl
    simp only [storeV, e, fl_len, ix 3 ha, Option.map_some]
    rw [List.set_append_right _ _ (by omega), show mu.length + 2 - mu.length = 2 by omega]
    rfl
theorem cell_at (mu : Store) (a b c : Cell) : (mu ++ [a, b, c])[mu.length]? = some a ∧ (mu ++ [a, b, c])[mu.length + 1]? = some b ∧ (mu ++ [a, b, c])[mu.length + 2]? = some c := by
  refine ⟨by simp, ?_, ?_⟩
  · rw [List.getElem?_append_right (by omega), show mu.length + 1 - mu.length = 1 by omega]
    rfl
  · rw [List.getElem?_append_right (by omega), show mu.length + 2 - mu.length = 2 by omega]
    rfl
abbrev refsV (n : Nat) : Val := .lst [.ref n, .ref (n + 1), .ref (n + 2)]
theorem eqR_ok {q : Nat × Nat × Nat} (hq : q ∈ tab) (mu : Store) : eqR (mu ++ cells q.2.1 q.2.2) (kV q.1) (refsV mu.length) = some (.bl true) := by
  have c := List.all_eq_true.mp chk_all q hq
  obtain ⟨h0, h1, h2⟩ := cell_at mu (.lst (rw_ 18 q.2.1 q.2.2 0)) (.lst (rw_ 3 q.2.1 q.2.2 1)) (.lst (rw_ 3 q.2.1 q.2.2 2))
  have d1 : toD1 (mu ++ cells q.2.1 q.2.2) (kV q.1) = toD 31 (kV q.1) := rfl
  unfold chk at c
  unfold eqR
  rw [d1]
  cases e : toD 31 (kV q.1) with
  | none => rw [e] at c; cases c
  | some d =>
    rw [e] at c
    cases e0 : mapO (toD 20) (rw_ 18 q.2.1 q.2.2 0) with
    | none => rw [e0] at c; cases c
    | some x =>
      rw [e0] at c
      cases e1 : mapO (toD 20) (rw_ 3 q.2.1 q.2.2 1) with
      | none => rw [e1] at c; cases c
      | some y =>
        rw [e1] at c
        cases e2 : mapO (toD 20) (rw_ 3 q.2.1 q.2.2 2) with
        | none => rw [e2] at c; cases c
        | some z =>
          rw [e2] at c
          have t2 : toD2 (mu ++ cells q.2.1 q.2.2) (refsV mu.length) = some (.list [.list x, .list y, .list z]) := by
            simp only [toD2, mapO, toDr, h0, h1, h2, e0, e1, e2, Option.map_some]
          rw [t2]
          simp only at c ⊢
          rw [c]
def bq (p : Nat) : Bool := match CC.eqV [] (.lst [bV p, bV p]) (.lst [bV p, bV p]) with
  | some (.bl b) => b
  | _ => false
theorem base_all3 : ([0, 1, 2].all bq) = true := by decide +kernel
theorem base_eq (mu : Store) {p : Nat} (hp : p < 3) : CC.eqV mu (.lst [bV p, bV p]) (.lst [bV p, bV p]) = some (.bl true) := by
  have e : CC.eqV mu (.lst [bV p, bV p]) (.lst [bV p, bV p]) = CC.eqV [] (.lst [bV p, bV p]) (.lst [bV p, bV p]) := rfl
  have h3 : p = 0 ∨ p = 1 ∨ p = 2 := by omega
  have b := List.all_eq_true.mp base_all3 p (by rcases h3 with rfl | rfl | rfl <;> decide)
  rw [e]
  unfold bq at b
  split at b
  · rename_i c h
    rw [h, b]
  · cases b
theorem eq_int {mu : Store} {a b : Int} : CC.eqV mu (.int a) (.int b) = some (.bl (decide (a = b))) := plI.eqV (by decide) a b
theorem eq_nat (mu : Store) (a b : Nat) : CC.eqV mu (.int (a : Int)) (.int (b : Int)) = some (.bl (decide (a = b))) := by
  rw [eq_int]
  congr 2
  exact decide_eq_decide.mpr (by omega)
noncomputable abbrev oc1 : MS := (asgS (lcM (itR1 (consM (cM (.int 3)) nilM)) [4] oneC yesT (b2 CC.eqV (vM 4) (vM 1)) [4]) (gNameM 3))
noncomputable abbrev oc2 : MS := (asgS (lstM (consM (mulNM (lstM (consM (cM (.bl false)) nilM)) (cM (.int 18))) (consM (mulNM (lstM (consM (cM (.bl false)) nilM)) (cM (.int 3))) (consM (mulNM (lstM (consM (cM (.bl false)) nilM)) (cM (.int 3))) nilM)))) (gNameM 5))
noncomputable abbrev oc3 : MS := (asgS (cM (.bl true)) (gSubM (b2 ixV (vM 5) (vM 1)) (vM 2)))
noncomputable abbrev oc4 : MS := (retS (CC.andM (b2 eqR (callM m_L_law_kinds (consM (vM 0) nilM)) (vM 5)) (b2 CC.eqV (callM m_L_law_bases (consM (vM 0) nilM)) (lstM (consM (vM 3) (consM (vM 3) nilM))))))
theorem one_class {q : Nat × Nat × Nat} (hq : q ∈ tab) (fs : List (Nat × Val)) (mu : Store) : m_L_law_one_class [.err q.1 fs, .int (q.2.1 : Int), .int (q.2.2 : Int)] mu = .ok (.bl true) mu := by
  have sm := List.all_eq_true.mp small_all q hq
  unfold small at sm
  simp only [Bool.and_eq_true, decide_eq_true_eq] at sm
  obtain ⟨hp, hC, ha⟩ := sm
  have ko := fun m => kinds_ok hC fs m
  have bo := fun m => bases_ok hq fs m
  have er := eqR_ok hq mu
  have be := base_eq (mu ++ cells q.2.1 q.2.2) hp
  have so := store_ok mu hp ha
  generalize q.2.1 = p at *
  generalize q.2.2 = a at *
  generalize q.1 = C at *
  generalize Val.err C fs = e at *
  have f1 : oc1 [some e, some (.int (p : Int)), some (.int (a : Int)), none, none, none] mu = .nx [some e, some (.int (p : Int)), some (.int (a : Int)), some (bV p), none, none] mu := by
    have lc : lcM (itR1 (consM (cM (.int 3)) nilM)) [4] oneC yesT (b2 CC.eqV (vM 4) (vM 1)) [4] [some e, some (.int (p : Int)), some (.int (a : Int)), none, none, none] mu = .ok (bV p) mu :=
      lcM_ok (mi := itR1 (consM (cM (.int 3)) nilM)) (is := [4]) (f := oneC) (t := yesT) (e := b2 CC.eqV (vM 4) (vM 1)) (vs := [4]) (xs := [0, 1, 2].map fun k : Nat => Val.int (k : Int)) (ok := allOk) (mu1 := mu) rfl (by decide) (lcL_map trivial (fun k : Nat => Val.int (k : Int)) (fun k : Nat => .bl (decide (k = p))) [0, 1, 2] fun k hk => ⟨[.int (k : Int)], rfl, by
        have := eq_nat mu k p
        simp only [seqS, ifS_ap, retS_ap, asgS_ap, exprS_ap, forS_ap, parS_ap, bindS_ap, nextS, orT, andT, notT, tstM, CC.tB, blM, CC.andM, CC.orM, CC.notM, ifM, b2, u1, fA, vM, cM, optR, R.bind, consM, nilM, tupM, lstM, newM, slM, noP, inP, chM, gNameM, gSubM, gFldM, optX, gPc, gTupM, gListM, setAll, oneC, tupC, yesT, itT, itL, itS, itR1, itEnT, callM, isiV, tagOf, truV, sm0, sm1, lmM, dnewM, objV, isNV, List.set, List.length_cons, List.length_nil, List.map_cons, List.map_nil, List.cons_append, List.nil_append, List.append_assoc, List.length_append, List.replicate, List.getElem?_cons_zero, List.getElem?_cons_succ, Option.bind_some, Option.map_some, Option.bind_none, Option.map_none, if_true, if_false, ↓reduceIte, Nat.zero_le, Nat.zero_add, Nat.reduceAdd, Nat.reduceSub, Nat.sub_self, List.append_nil, Nat.reduceLeDiff, Bool.false_eq_true, Bool.not_true, Bool.not_false, Bool.true_eq_false, propM, clsM, noX, mkKM, mkVM, strL, wipeE, this]⟩)
    unfold oc1
    generalize bV p = bp at *
    simp only [seqS, ifS_ap, retS_ap, asgS_ap, exprS_ap, forS_ap, parS_ap, bindS_ap, nextS, orT, andT, notT, tstM, CC.tB, blM, CC.andM, CC.orM, CC.notM, ifM, b2, u1, fA, vM, cM, optR, R.bind, consM, nilM, tupM, lstM, newM, slM, noP, inP, chM, gNameM, gSubM, gFldM, optX, gPc, gTupM, gListM, setAll, oneC, tupC, yesT, itT, itL, itS, itR1, itEnT, callM, isiV, tagOf, truV, sm0, sm1, lmM, dnewM, objV, isNV, List.set, List.length_cons, List.length_nil, List.map_cons, List.map_nil, List.cons_append, List.nil_append, List.append_assoc, List.length_append, List.replicate, List.getElem?_cons_zero, List.getElem?_cons_succ, Option.bind_some, Option.map_some, Option.bind_none, Option.map_none, if_true, if_false, ↓reduceIte, Nat.zero_le, Nat.zero_add, Nat.reduceAdd, Nat.reduceSub, Nat.sub_self, List.append_nil, Nat.reduceLeDiff, Bool.false_eq_true, Bool.not_true, Bool.not_false, Bool.true_eq_false, propM, clsM, noX, mkKM, mkVM, strL, lc]
  have f2 : oc2 [some e, some (.int (p : Int)), some (.int (a : Int)), some (bV p), none, none] mu = .nx [some e, some (.int (p : Int)), some (.int (a : Int)), some (bV p), none, some (refsV mu.length)] (mu ++ [.lst (fl 18), .lst (fl 3), .lst (fl 3)]) := by
    have m1 : mulN mu (.lst [.bl false]) (.int 18) = .ok (.ref mu.length) (mu ++ [.lst (fl 18)]) := mul_fl mu (n := 18) (by decide)
    have m2 : mulN (mu ++ [.lst (fl 18)]) (.lst [.bl false]) (.int 3) = .ok (.ref (mu.length + 1)) (mu ++ [.lst (fl 18), .lst (fl 3)]) := by
      have := mul_fl (mu ++ [.lst (fl 18)]) (n := 3) (by decide)
      rw [List.length_append, List.append_assoc] at this
      exact this
    have m3 : mulN (mu ++ [.lst (fl 18), .lst (fl 3)]) (.lst [.bl false]) (.int 3) = .ok (.ref (mu.length + 2)) (mu ++ [.lst (fl 18), .lst (fl 3), .lst (fl 3)]) := by
      have := mul_fl (mu ++ [.lst (fl 18), .lst (fl 3)]) (n := 3) (by decide)
      rw [List.length_append, List.append_assoc] at this
      exact this
    generalize mu ++ [.lst (fl 18), .lst (fl 3), .lst (fl 3)] = M3 at *
    generalize mu ++ [.lst (fl 18), .lst (fl 3)] = M2 at *
    generalize mu ++ [.lst (fl 18)] = M1 at *
    generalize bV p = bp at *
    simp only [seqS, ifS_ap, retS_ap, asgS_ap, exprS_ap, forS_ap, parS_ap, bindS_ap, nextS, orT, andT, notT, tstM, CC.tB, blM, CC.andM, CC.orM, CC.notM, ifM, b2, u1, fA, vM, cM, optR, R.bind, consM, nilM, tupM, lstM, newM, slM, noP, inP, chM, gNameM, gSubM, gFldM, optX, gPc, gTupM, gListM, setAll, oneC, tupC, yesT, itT, itL, itS, itR1, itEnT, callM, isiV, tagOf, truV, sm0, sm1, lmM, dnewM, objV, isNV, List.set, List.length_cons, List.length_nil, List.map_cons, List.map_nil, List.cons_append, List.nil_append, List.length_append, List.replicate, List.getElem?_cons_zero, List.getElem?_cons_succ, Option.bind_some, Option.map_some, Option.bind_none, Option.map_none, if_true, if_false, ↓reduceIte, Nat.zero_le, Nat.zero_add, Nat.reduceAdd, Nat.reduceSub, Nat.sub_self, List.append_nil, Nat.reduceLeDiff, Bool.false_eq_true, Bool.not_true, Bool.not_false, Bool.true_eq_false, propM, clsM, noX, mkKM, mkVM, strL, mulNM, m1, m2, m3]
  have f3 : oc3 [some e, some (.int (p : Int)), some (.int (a : Int)), some (bV p), none, some (refsV mu.length)] (mu ++ [.lst (fl 18), .lst (fl 3), .lst (fl 3)]) = .nx [some e, some (.int (p : Int)), some (.int (a : Int)), some (bV p), none, some (refsV mu.length)] (mu ++ cells p a) := by
    have ix : ∀ m, ixV m (refsV mu.length) (.int (p : Int)) = some (.ref (mu.length + p)) := fun m => by
      have h3 : p = 0 ∨ p = 1 ∨ p = 2 := by omega
      rcases h3 with rfl | rfl | rfl <;> rfl
    generalize mu ++ [.lst (fl 18), .lst (fl 3), .lst (fl 3)] = M3 at *
    generalize mu ++ cells p a = M4 at *
    generalize bV p = bp at *
    generalize refsV mu.length = rv at *
    simp only [seqS, ifS_ap, retS_ap, asgS_ap, exprS_ap, forS_ap, parS_ap, bindS_ap, nextS, orT, andT, notT, tstM, CC.tB, blM, CC.andM, CC.orM, CC.notM, ifM, b2, u1, fA, vM, cM, optR, R.bind, consM, nilM, tupM, lstM, newM, slM, noP, inP, chM, gNameM, gSubM, gFldM, optX, gPc, gTupM, gListM, setAll, oneC, tupC, yesT, itT, itL, itS, itR1, itEnT, callM, isiV, tagOf, truV, sm0, sm1, lmM, dnewM, objV, isNV, List.set, List.length_cons, List.length_nil, List.map_cons, List.map_nil, List.cons_append, List.nil_append, List.append_assoc, List.length_append, List.replicate, List.getElem?_cons_zero, List.getElem?_cons_succ, Option.bind_some, Option.map_some, Option.bind_none, Option.map_none, if_true, if_false, ↓reduceIte, Nat.zero_le, Nat.zero_add, Nat.reduceAdd, Nat.reduceSub, Nat.sub_self, List.append_nil, Nat.reduceLeDiff, Bool.false_eq_true, Bool.not_true, Bool.not_false, Bool.true_eq_false, propM, clsM, noX, mkKM, mkVM, strL, ix, so]
  have f4 : oc4 [some e, some (.int (p : Int)), some (.int (a : Int)), some (bV p), none, some (refsV mu.length)] (mu ++ cells p a) = .rt (.bl true) (mu ++ cells p a) := by
    have k1 := ko (mu ++ cells p a)
    have b1 := bo (mu ++ cells p a)
    generalize mu ++ cells p a = M4 at *
    generalize kV C = kc at *
    generalize bV p = bp at *
    generalize refsV mu.length = rv at *
    simp only [seqS, ifS_ap, retS_ap, asgS_ap, exprS_ap, forS_ap, parS_ap, bindS_ap, nextS, orT, andT, notT, tstM, CC.tB, blM, CC.andM, CC.orM, CC.notM, ifM, b2, u1, fA, vM, cM, optR, R.bind, consM, nilM, tupM, lstM, newM, slM, noP, inP, chM, gNameM, gSubM, gFldM, optX, gPc, gTupM, gListM, setAll, oneC, tupC, yesT, itT, itL, itS, itR1, itEnT, callM, isiV, tagOf, truV, sm0, sm1, lmM, dnewM, objV, isNV, List.set, List.length_cons, List.length_nil, List.map_cons, List.map_nil, List.cons_append, List.nil_append, List.append_assoc, List.length_append, List.replicate, List.getElem?_cons_zero, List.getElem?_cons_succ, Option.bind_some, Option.map_some, Option.bind_none, Option.map_none, if_true, if_false, ↓reduceIte, Nat.zero_le, Nat.zero_add, Nat.reduceAdd, Nat.reduceSub, Nat.sub_self, List.append_nil, Nat.reduceLeDiff, Bool.false_eq_true, Bool.not_true, Bool.not_false, Bool.true_eq_false, propM, clsM, noX, mkKM, mkVM, strL, k1, b1, er, be, truV]
  refine fin_ok (ex := cells p a) (v := .bl true) (defK_rt rfl ?_) (frz_cl 1 _ _ rfl (by decide))
  show b_L_law_one_class [some e, some (.int (p : Int)), some (.int (a : Int)), none, none, none] mu = _
  unfold b_L_law_one_class
  exact (seq_nx f1).trans ((seq_nx f2).trans ((seq_nx f3).trans f4))
end K01

set_option Elab.async false
set_option linter.all false
set_option maxRecDepth 100000
set_option maxHeartbeats 1000000
namespace K01
open PySem PySem.Spec PyProof.Rows L2 CC
theorem rp_lst {xs : List Val} (h : ∀ x ∈ xs, Rp 5 2000 x) (hl : xs.length ≤ 40) (mu : Store) : ∃ t, reprX mu [.lst xs] = some (.str t) :=
  repr_rp ((Rp.lst' (k := 5) (w := 2000) (W := 100000) h (by
    have : xs.length * 2001 ≤ 40 * 2001 := Nat.mul_le_mul_right _ hl
    omega)).le (by decide) (by decide)) mu
theorem neS (mu : Store) (a : List Nat) : CC.neV mu (.str a) (.str a) = some (.bl false) := by
  have := CC.plS.neV (mu := mu) (by decide) a a
  rw [decide_eq_true rfl] at this
  exact this
theorem eo_all : ((L24.all fun C => eo C 0) && ((L24.all fun C => eo C 1) && (L24.all fun C => eo C 2))) = true := by decide +kernel
theorem eo_at {C : Nat} (h : C ∈ L24) : eo C 0 = true ∧ eo C 1 = true ∧ eo C 2 = true := by
  have e := eo_all
  simp only [Bool.and_eq_true] at e
  exact ⟨List.all_eq_true.mp e.1 C h, List.all_eq_true.mp e.2.1 C h, List.all_eq_true.mp e.2.2 C h⟩
/-- all errors of a list are of the right class -/
theorem loop_ok {Lv : List Val} {p n i : Nat} {r : Env1} {m : Store} (hn : n ≤ 18) (h : ∀ k, k < n → ∃ C fs, Lv[k]? = some (.err C fs) ∧ (C, p, k) ∈ tab) (hv : ∀ v, vM i (setAll (wipeE r [7]) [7] [v]) m = .ok (.lst Lv) m) (hk : ∀ v, vM 7 (setAll (wipeE r [7]) [7] [v]) m = .ok v m) :
    lcM (itR1 (consM (cM (.int (n : Int))) nilM)) [7] oneC yesT (callM m_L_law_one_class (consM (b2 ixV (vM i) (vM 7)) (consM (cM (.int (p : Int))) (consM (vM 7) nilM)))) [7] r m = .ok (.lst ((List.range n).map fun _ => .bl true)) m := by
  have it : itR1 (consM (cM (.int (n : Int))) nilM) r m = .ok ((List.range n).map fun k : Nat => Val.int (0 + (k : Int)), allOk) m := by
    show (if ((n : Nat) : Int).natAbs < 1000000000 then _ else _) = _
    rw [if_pos (by omega)]
    rfl
  refine lcM_ok it (by rw [List.length_map, List.length_range]; omega) (lcL_map (show allOk m from trivial) (fun k : Nat => Val.int (0 + (k : Int))) (fun _ => .bl true) (List.range n) fun k hkn => ⟨[.int (0 + (k : Int))], rfl, ?_⟩)
  have hk' := List.mem_range.mp hkn
  obtain ⟨C, fs, e1, e2⟩ := h k hk'
  have oc := one_class e2 fs m
  have v1 := hv (.int (0 + (k : Int)))
  have v2 := hk (.int (0 + (k : Int)))
  rw [show (0 : Int) + (k : Int) = (k : Int) by omega] at v1 v2 ⊢
  have ix : ixV m (.lst Lv) (.int (k : Int)) = some (.err C fs) := by rw [CC.ix_lst]; exact e1
  have oc : m_L_law_one_class [.err C fs, .int (p : Int), .int (k : Int)] m = .ok (.bl true) m := oc
  simp only [callM, consM, nilM, b2, v1, v2, R.bind, ix, cM, optR, oc]
/-- class, attribute -/
def P18 : List (Nat × Nat) := G12.map (fun C => (C, 0)) ++ I6.map (fun C => (C, 1))
abbrev errsV (z : Val) : List Val := P18.map fun q => .err q.1 [(q.2, z)]
theorem p18_tab : ∀ k : _root_.Fin 18, ((P18.getD k (0, 0)).1, 0, (k : Nat)) ∈ tab := by decide +kernel
theorem errs_at (z : Val) : ∀ k, k < 18 → ∃ C fs, (errsV z)[k]? = some (.err C fs) ∧ (C, 0, k) ∈ tab := fun k hk => by
  have l : P18.length = 18 := by decide
  have e : P18[k]? = some P18[k] := List.getElem?_eq_getElem (by omega)
  have t := p18_tab ⟨k, hk⟩
  rw [show P18.getD ((⟨k, hk⟩ : _root_.Fin 18) : Nat) (0, 0) = P18[k] by
    rw [List.getD_eq_getElem?_getD]
    show (P18[k]?).getD (0, 0) = _
    rw [e]
    rfl] at t
  exact ⟨P18[k].1, [(P18[k].2, z)], by rw [List.getElem?_map, e]; rfl, t⟩
abbrev restV (z : Val) : List Val := [.err 17 [(0, z)], .err 25 [(0, z)], .err 26 []]
theorem rest_at (z : Val) : ∀ k, k < 3 → ∃ C fs, (restV z)[k]? = some (.err C fs) ∧ (C, 1, k) ∈ tab := fun k hk => by
  have h3 : k = 0 ∨ k = 1 ∨ k = 2 := by omega
  rcases h3 with rfl | rfl | rfl
  · exact ⟨17, _, rfl, by decide⟩
  · exact ⟨25, _, rfl, by decide⟩
  · exact ⟨26, _, rfl, by decide⟩
abbrev lastV (z y : Val) : List Val := [.err 19 [], .err 20 [], .err 27 [(2, y), (1, z)]]
theorem last_at (z y : Val) : ∀ k, k < 3 → ∃ C fs, (lastV z y)[k]? = some (.err C fs) ∧ (C, 2, k) ∈ tab := fun k hk => by
  have h3 : k = 0 ∨ k = 1 ∨ k = 2 := by omega
  rcases h3 with rfl | rfl | rfl
  · exact ⟨19, _, rfl, by decide⟩
  · exact ⟨20, _, rfl, by decide⟩
  · exact ⟨27, _, rfl, by decide⟩
noncomputable abbrev ri1 : MS := (parS 1 2 (consM (callM m_L_law_odd (consM (vM 0) nilM)) (consM (callM m_L_law_odd (consM (vM 0) nilM)) nilM)))
noncomputable abbrev ri2 : MS := (asgS (callM m_L_law_made (consM (vM 1) nilM)) (gPc [3, 4] (lstC 2)))
noncomputable abbrev lcA : M Val := (lcM (itL (vM 3)) [5] oneC yesT (u1 (fldE eo 0) (vM 5)) [5])
noncomputable abbrev lcB : M Val := (lcM (itL (vM 4)) [5] oneC yesT (u1 (fldE eo 1) (vM 5)) [5])
noncomputable abbrev ri3 : MS := (ifS (CC.tB (b2 CC.neV (fA reprX (consM (b2 addV lcA lcB) nilM)) (fA reprX (consM (b2 mulV (lstM (consM (vM 1) nilM)) (cM (.int 18))) nilM)))) (retS (cM (.bl false))) nextS)
noncomputable abbrev ri4 : MS := (asgS (b2 addV (vM 3) (vM 4)) (gNameM 6))
noncomputable abbrev lcC : M Val := (lcM (itR1 (consM (cM (.int 18)) nilM)) [7] oneC yesT (callM m_L_law_one_class (consM (b2 ixV (vM 6) (vM 7)) (consM (cM (.int 0)) (consM (vM 7) nilM)))) [7])
noncomputable abbrev ri5 : MS := (ifS (notT (tstM (fA allV (consM lcC nilM)))) (retS (cM (.bl false))) nextS)
noncomputable abbrev ri6 : MS := (asgS (lstM (consM (mkE 17 [0] (consM (vM 1) nilM)) (consM (mkE 25 [0] (consM (vM 1) nilM)) (consM (mkE0 26) nilM)))) (gNameM 8))
noncomputable abbrev ri7 : MS := (ifS (CC.tB (b2 CC.neV (fA reprX (consM (lstM (consM (u1 (fldE eo 0) (b2 ixV (vM 8) (cM (.int 0)))) (consM (u1 (fldE eo 0) (b2 ixV (vM 8) (cM (.int 1)))) nilM))) nilM)) (fA reprX (consM (lstM (consM (vM 1) (consM (vM 1) nilM))) nilM)))) (retS (cM (.bl false))) nextS)
noncomputable abbrev lcD : M Val := (lcM (itR1 (consM (cM (.int 3)) nilM)) [7] oneC yesT (callM m_L_law_one_class (consM (b2 ixV (vM 8) (vM 7)) (consM (cM (.int 1)) (consM (vM 7) nilM)))) [7])
noncomputable abbrev ri8 : MS := (ifS (notT (tstM (fA allV (consM lcD nilM)))) (retS (cM (.bl false))) nextS)
noncomputable abbrev ri9 : MS := (asgS (lstM (consM (mkE0 19) (consM (mkE0 20) (consM (mkEr 27 1 2 (consM (vM 2) (consM (vM 1) nilM))) nilM)))) (gNameM 9))
noncomputable abbrev riA : MS := (ifS (CC.tB (b2 CC.neV (fA reprX (consM (lstM (consM (u1 (fldE eo 1) (b2 ixV (vM 9) (cM (.int 2)))) (consM (u1 (fldE eo 2) (b2 ixV (vM 9) (cM (.int 2)))) (consM (u1 (fldE eo 1) (mkE 27 [1, 2] (consM (vM 2) (consM (vM 1) nilM)))) nilM)))) nilM)) (fA reprX (consM (lstM (consM (vM 1) (consM (vM 2) (consM (vM 2) nilM)))) nilM)))) (retS (cM (.bl false))) nextS)
noncomputable abbrev lcE : M Val := (lcM (itR1 (consM (cM (.int 3)) nilM)) [7] oneC yesT (callM m_L_law_one_class (consM (b2 ixV (vM 9) (vM 7)) (consM (cM (.int 2)) (consM (vM 7) nilM)))) [7])
noncomputable abbrev riB : MS := (retS (fA allV (consM lcE nilM)))
abbrev riE (w : Nat) (a1 a2 a3 a4 a6 a8 a9 : Option Val) : Env1 := [some (.ref w), a1, a2, a3, a4, none, a6, none, a8, a9]
theorem right_ok {w : Nat} {m : Store} (hw : Well w m) : ∃ m', m_L_law_right [.ref w] m = .ok (.bl true) m' ∧ Dip w m m' := by
  obtain ⟨z, m1, e1, hz, D1⟩ := odd_ok hw
  obtain ⟨y, m2, e2, hy, D2⟩ := odd_ok D1.well
  have D := D1.trans D2
  have rz := odd_rp hz
  have ry := odd_rp hy
  have f1 : ri1 (riE w none none none none none none none) m = .nx (riE w (some z) (some y) none none none none none) m2 := by
    simp only [seqS, ifS_ap, retS_ap, asgS_ap, exprS_ap, forS_ap, parS_ap, bindS_ap, nextS, orT, andT, notT, tstM, CC.tB, blM, CC.andM, CC.orM, CC.notM, ifM, b2, u1, fA, vM, cM, optR, R.bind, consM, nilM, tupM, lstM, newM, slM, noP, inP, chM, gNameM, gSubM, gFldM, optX, gPc, gTupM, gListM, setAll, oneC, tupC, yesT, itT, itL, itS, itR1, itEnT, callM, isiV, tagOf, truV, sm0, sm1, lmM, dnewM, objV, isNV, List.set, List.length_cons, List.length_nil, List.map_cons, List.map_nil, List.cons_append, List.nil_append, List.append_assoc, List.length_append, List.replicate, List.getElem?_cons_zero, List.getElem?_cons_succ, Option.bind_some, Option.map_some, Option.bind_none, Option.map_none, if_true, if_false, ↓reduceIte, Nat.zero_le, Nat.zero_add, Nat.reduceAdd, Nat.reduceSub, Nat.sub_self, List.append_nil, Nat.reduceLeDiff, Bool.false_eq_true, Bool.not_true, Bool.not_false, Bool.true_eq_false, propM, clsM, noX, mkKM, mkVM, strL, parS, e1, e2]
  have f2 : ri2 (riE w (some z) (some y) none none none none none) m2 = .nx (riE w (some z) (some y) (some (givV z)) (some (indV z)) none none none) m2 := by
    have mk := made_ok z m2 (clB_mono 10 z 20 (odd_cl hz) (by decide))
    generalize givV z = gv at *
    generalize indV z = iv at *
    simp only [seqS, ifS_ap, retS_ap, asgS_ap, exprS_ap, forS_ap, parS_ap, bindS_ap, nextS, orT, andT, notT, tstM, CC.tB, blM, CC.andM, CC.orM, CC.notM, ifM, b2, u1, fA, vM, cM, optR, R.bind, consM, nilM, tupM, lstM, newM, slM, noP, inP, chM, gNameM, gSubM, gFldM, optX, gPc, gTupM, gListM, setAll, oneC, tupC, yesT, itT, itL, itS, itR1, itEnT, callM, isiV, tagOf, truV, sm0, sm1, lmM, dnewM, objV, isNV, List.set, List.length_cons, List.length_nil, List.map_cons, List.map_nil, List.cons_append, List.nil_append, List.append_assoc, List.length_append, List.replicate, List.getElem?_cons_zero, List.getElem?_cons_succ, Option.bind_some, Option.map_some, Option.bind_none, Option.map_none, if_true, if_false, ↓reduceIte, Nat.zero_le, Nat.zero_add, Nat.reduceAdd, Nat.reduceSub, Nat.sub_self, List.append_nil, Nat.reduceLeDiff, Bool.false_eq_true, Bool.not_true, Bool.not_false, Bool.true_eq_false, propM, clsM, noX, mkKM, mkVM, strL, lstC, mk]
  have f3 : ri3 (riE w (some z) (some y) (some (givV z)) (some (indV z)) none none none) m2 = .nx (riE w (some z) (some y) (some (givV z)) (some (indV z)) none none none) m2 := by
    have la : lcA (riE w (some z) (some y) (some (givV z)) (some (indV z)) none none none) m2 = .ok (.lst (List.replicate 12 z)) m2 :=
      lcM_ok (mi := itL (vM 3)) (is := [5]) (f := oneC) (t := yesT) (e := u1 (fldE eo 0) (vM 5)) (vs := [5]) (xs := G12.map fun C => Val.err C [(0, z)]) (ok := allOk) (mu1 := m2) rfl (by rw [List.length_map]; decide) (lcL_map trivial (fun C => Val.err C [(0, z)]) (fun _ => z) G12 fun C hC => ⟨[.err C [(0, z)]], rfl, by
        have c : C ∈ L24 := by
          have : ∀ C ∈ G12, C ∈ L24 := by decide
          exact this C hC
        have e := (eo_at c).1
        have f : fldE eo 0 m2 (.err C [(0, z)]) = some z := by simp only [fldE, e, if_true]; rfl
        show u1 (fldE eo 0) (vM 5) [some (.ref w), some z, some y, some (givV z), some (indV z), some (.err C [(0, z)]), none, none, none, none] m2 = _
        show optR (fldE eo 0 m2 (.err C [(0, z)])) m2 = _
        rw [f]
        rfl⟩)
    have lb : lcB (riE w (some z) (some y) (some (givV z)) (some (indV z)) none none none) m2 = .ok (.lst (List.replicate 6 z)) m2 :=
      lcM_ok (mi := itL (vM 4)) (is := [5]) (f := oneC) (t := yesT) (e := u1 (fldE eo 1) (vM 5)) (vs := [5]) (xs := I6.map fun C => Val.err C [(1, z)]) (ok := allOk) (mu1 := m2) rfl (by rw [List.length_map]; decide) (lcL_map trivial (fun C => Val.err C [(1, z)]) (fun _ => z) I6 fun C hC => ⟨[.err C [(1, z)]], rfl, by
        have c : C ∈ L24 := by
          have : ∀ C ∈ I6, C ∈ L24 := by decide
          exact this C hC
        have e := (eo_at c).2.1
        have f : fldE eo 1 m2 (.err C [(1, z)]) = some z := by simp only [fldE, e, if_true]; rfl
        show optR (fldE eo 1 m2 (.err C [(1, z)])) m2 = _
        rw [f]
        rfl⟩)
    have ad : addV m2 (.lst (List.replicate 12 z)) (.lst (List.replicate 6 z)) = some (.lst (List.replicate 18 z)) := rfl
    have mu : mulV m2 (.lst [z]) (.int 18) = some (.lst (List.replicate 18 z)) := rfl
    obtain ⟨t, ht⟩ := rp_lst (xs := List.replicate 18 z) (fun x hx => by rw [List.eq_of_mem_replicate hx]; exact rz) (by rw [List.length_replicate]; decide) m2
    have ne := neS m2 t
    unfold ri3
    generalize lcA = mA at *
    generalize lcB = mB at *
    generalize givV z = gv at *
    generalize indV z = iv at *
    generalize List.replicate 18 z = L18v at *
    generalize List.replicate 12 z = L12v at *
    generalize List.replicate 6 z = L6v at *
    simp only [seqS, ifS_ap, retS_ap, asgS_ap, exprS_ap, forS_ap, parS_ap, bindS_ap, nextS, orT, andT, notT, tstM, CC.tB, blM, CC.andM, CC.orM, CC.notM, ifM, b2, u1, fA, vM, cM, optR, R.bind, consM, nilM, tupM, lstM, newM, slM, noP, inP, chM, gNameM, gSubM, gFldM, optX, gPc, gTupM, gListM, setAll, oneC, tupC, yesT, itT, itL, itS, itR1, itEnT, callM, isiV, tagOf, truV, sm0, sm1, lmM, dnewM, objV, isNV, List.set, List.length_cons, List.length_nil, List.map_cons, List.map_nil, List.cons_append, List.nil_append, List.append_assoc, List.length_append, List.replicate, List.getElem?_cons_zero, List.getElem?_cons_succ, Option.bind_some, Option.map_some, Option.bind_none, Option.map_none, if_true, if_false, ↓reduceIte, Nat.zero_le, Nat.zero_add, Nat.reduceAdd, Nat.reduceSub, Nat.sub_self, List.append_nil, Nat.reduceLeDiff, Bool.false_eq_true, Bool.not_true, Bool.not_false, Bool.true_eq_false, propM, clsM, noX, mkKM, mkVM, strL, la, lb, ad, mu, ht, ne]
  have f4 : ri4 (riE w (some z) (some y) (some (givV z)) (some (indV z)) none none none) m2 = .nx (riE w (some z) (some y) (some (givV z)) (some (indV z)) (some (.lst (errsV z))) none none) m2 := by
    have ad : addV m2 (givV z) (indV z) = some (.lst (errsV z)) := rfl
    generalize givV z = gv at *
    generalize indV z = iv at *
    generalize errsV z = ev at *
    simp only [seqS, ifS_ap, retS_ap, asgS_ap, exprS_ap, forS_ap, parS_ap, bindS_ap, nextS, orT, andT, notT, tstM, CC.tB, blM, CC.andM, CC.orM, CC.notM, ifM, b2, u1, fA, vM, cM, optR, R.bind, consM, nilM, tupM, lstM, newM, slM, noP, inP, chM, gNameM, gSubM, gFldM, optX, gPc, gTupM, gListM, setAll, oneC, tupC, yesT, itT, itL, itS, itR1, itEnT, callM, isiV, tagOf, truV, sm0, sm1, lmM, dnewM, objV, isNV, List.set, List.length_cons, List.length_nil, List.map_cons, List.map_nil, List.cons_append, List.nil_append, List.append_assoc, List.length_append, List.replicate, List.getElem?_cons_zero, List.getElem?_cons_succ, Option.bind_some, Option.map_some, Option.bind_none, Option.map_none, if_true, if_false, ↓reduceIte, Nat.zero_le, Nat.zero_add, Nat.reduceAdd, Nat.reduceSub, Nat.sub_self, List.append_nil, Nat.reduceLeDiff, Bool.false_eq_true, Bool.not_true, Bool.not_false, Bool.true_eq_false, propM, clsM, noX, mkKM, mkVM, strL, ad]
  have f5 : ri5 (riE w (some z) (some y) (some (givV z)) (some (indV z)) (some (.lst (errsV z))) none none) m2 = .nx (riE w (some z) (some y) (some (givV z)) (some (indV z)) (some (.lst (errsV z))) none none) m2 := by
    have lc : lcC (riE w (some z) (some y) (some (givV z)) (some (indV z)) (some (.lst (errsV z))) none none) m2 = _ := loop_ok (i := 6) (p := 0) (n := 18) (by decide) (errs_at z) (fun v => rfl) (fun v => rfl)
    have al : allV m2 [.lst ((List.range 18).map fun _ => Val.bl true)] = some (.bl true) := rfl
    unfold ri5
    generalize lcC = mC at *
    generalize (List.range 18).map (fun _ => Val.bl true) = TT at *
    generalize errsV z = ev at *
    generalize givV z = gv at *
    generalize indV z = iv at *
    simp only [seqS, ifS_ap, retS_ap, asgS_ap, exprS_ap, forS_ap, parS_ap, bindS_ap, nextS, orT, andT, notT, tstM, CC.tB, blM, CC.andM, CC.orM, CC.notM, ifM, b2, u1, fA, vM, cM, optR, R.bind, consM, nilM, tupM, lstM, newM, slM, noP, inP, chM, gNameM, gSubM, gFldM, optX, gPc, gTupM, gListM, setAll, oneC, tupC, yesT, itT, itL, itS, itR1, itEnT, callM, isiV, tagOf, truV, sm0, sm1, lmM, dnewM, objV, isNV, List.set, List.length_cons, List.length_nil, List.map_cons, List.map_nil, List.cons_append, List.nil_append, List.append_assoc, List.length_append, List.replicate, List.getElem?_cons_zero, List.getElem?_cons_succ, Option.bind_some, Option.map_some, Option.bind_none, Option.map_none, if_true, if_false, ↓reduceIte, Nat.zero_le, Nat.zero_add, Nat.reduceAdd, Nat.reduceSub, Nat.sub_self, List.append_nil, Nat.reduceLeDiff, Bool.false_eq_true, Bool.not_true, Bool.not_false, Bool.true_eq_false, propM, clsM, noX, mkKM, mkVM, strL, lc, al]
  have f6 : ri6 (riE w (some z) (some y) (some (givV z)) (some (indV z)) (some (.lst (errsV z))) none none) m2 = .nx (riE w (some z) (some y) (some (givV z)) (some (indV z)) (some (.lst (errsV z))) (some (.lst (restV z))) none) m2 := by
    generalize errsV z = ev at *
    generalize givV z = gv at *
    generalize indV z = iv at *
    simp only [seqS, ifS_ap, retS_ap, asgS_ap, exprS_ap, forS_ap, parS_ap, bindS_ap, nextS, orT, andT, notT, tstM, CC.tB, blM, CC.andM, CC.orM, CC.notM, ifM, b2, u1, fA, vM, cM, optR, R.bind, consM, nilM, tupM, lstM, newM, slM, noP, inP, chM, gNameM, gSubM, gFldM, optX, gPc, gTupM, gListM, setAll, oneC, tupC, yesT, itT, itL, itS, itR1, itEnT, callM, isiV, tagOf, truV, sm0, sm1, lmM, dnewM, objV, isNV, List.set, List.length_cons, List.length_nil, List.map_cons, List.map_nil, List.cons_append, List.nil_append, List.append_assoc, List.length_append, List.replicate, List.getElem?_cons_zero, List.getElem?_cons_succ, Option.bind_some, Option.map_some, Option.bind_none, Option.map_none, if_true, if_false, ↓reduceIte, Nat.zero_le, Nat.zero_add, Nat.reduceAdd, Nat.reduceSub, Nat.sub_self, List.append_nil, Nat.reduceLeDiff, Bool.false_eq_true, Bool.not_true, Bool.not_false, Bool.true_eq_false, propM, clsM, noX, mkKM, mkVM, strL, mkE, mkE0, errV] <;> rfl
  have f7 : ri7 (riE w (some z) (some y) (some (givV z)) (some (indV z)) (some (.lst (errsV z))) (some (.lst (restV z))) none) m2 = .nx (riE w (some z) (some y) (some (givV z)) (some (indV z)) (some (.lst (errsV z))) (some (.lst (restV z))) none) m2 := by
    have i0 : ixV m2 (.lst (restV z)) (.int 0) = some (.err 17 [(0, z)]) := rfl
    have i1 : ixV m2 (.lst (restV z)) (.int 1) = some (.err 25 [(0, z)]) := rfl
    have a0 : fldE eo 0 m2 (.err 17 [(0, z)]) = some z := by simp only [fldE, (eo_at (C := 17) (by decide)).1, if_true]; rfl
    have a1 : fldE eo 0 m2 (.err 25 [(0, z)]) = some z := by simp only [fldE, (eo_at (C := 25) (by decide)).1, if_true]; rfl
    obtain ⟨t, ht⟩ := rp_lst (xs := [z, z]) (fun x hx => by
      simp only [List.mem_cons, List.not_mem_nil, or_false] at hx
      rcases hx with rfl | rfl <;> exact rz) (by simp) m2
    have ne := neS m2 t
    generalize errsV z = ev at *
    generalize givV z = gv at *
    generalize indV z = iv at *
    generalize Val.lst (restV z) = rv at *
    generalize Val.err 17 [(0, z)] = x0 at *
    generalize Val.err 25 [(0, z)] = x1 at *
    simp only [seqS, ifS_ap, retS_ap, asgS_ap, exprS_ap, forS_ap, parS_ap, bindS_ap, nextS, orT, andT, notT, tstM, CC.tB, blM, CC.andM, CC.orM, CC.notM, ifM, b2, u1, fA, vM, cM, optR, R.bind, consM, nilM, tupM, lstM, newM, slM, noP, inP, chM, gNameM, gSubM, gFldM, optX, gPc, gTupM, gListM, setAll, oneC, tupC, yesT, itT, itL, itS, itR1, itEnT, callM, isiV, tagOf, truV, sm0, sm1, lmM, dnewM, objV, isNV, List.set, List.length_cons, List.length_nil, List.map_cons, List.map_nil, List.cons_append, List.nil_append, List.append_assoc, List.length_append, List.replicate, List.getElem?_cons_zero, List.getElem?_cons_succ, Option.bind_some, Option.map_some, Option.bind_none, Option.map_none, if_true, if_false, ↓reduceIte, Nat.zero_le, Nat.zero_add, Nat.reduceAdd, Nat.reduceSub, Nat.sub_self, List.append_nil, Nat.reduceLeDiff, Bool.false_eq_true, Bool.not_true, Bool.not_false, Bool.true_eq_false, propM, clsM, noX, mkKM, mkVM, strL, i0, i1, a0, a1, ht, ne]
  have f8 : ri8 (riE w (some z) (some y) (some (givV z)) (some (indV z)) (some (.lst (errsV z))) (some (.lst (restV z))) none) m2 = .nx (riE w (some z) (some y) (some (givV z)) (some (indV z)) (some (.lst (errsV z))) (some (.lst (restV z))) none) m2 := by
    have lc : lcD (riE w (some z) (some y) (some (givV z)) (some (indV z)) (some (.lst (errsV z))) (some (.lst (restV z))) none) m2 = _ := loop_ok (i := 8) (p := 1) (n := 3) (by decide) (rest_at z) (fun v => rfl) (fun v => rfl)
    have al : allV m2 [.lst ((List.range 3).map fun _ => Val.bl true)] = some (.bl true) := rfl
    unfold ri8
    generalize lcD = mC at *
    generalize (List.range 3).map (fun _ => Val.bl true) = TT at *
    generalize errsV z = ev at *
    generalize givV z = gv at *
    generalize indV z = iv at *
    generalize restV z = rv at *
    simp only [seqS, ifS_ap, retS_ap, asgS_ap, exprS_ap, forS_ap, parS_ap, bindS_ap, nextS, orT, andT, notT, tstM, CC.tB, blM, CC.andM, CC.orM, CC.notM, ifM, b2, u1, fA, vM, cM, optR, R.bind, consM, nilM, tupM, lstM, newM, slM, noP, inP, chM, gNameM, gSubM, gFldM, optX, gPc, gTupM, gListM, setAll, oneC, tupC, yesT, itT, itL, itS, itR1, itEnT, callM, isiV, tagOf, truV, sm0, sm1, lmM, dnewM, objV, isNV, List.set, List.length_cons, List.length_nil, List.map_cons, List.map_nil, List.cons_append, List.nil_append, List.append_assoc, List.length_append, List.replicate, List.getElem?_cons_zero, List.getElem?_cons_succ, Option.bind_some, Option.map_some, Option.bind_none, Option.map_none, if_true, if_false, ↓reduceIte, Nat.zero_le, Nat.zero_add, Nat.reduceAdd, Nat.reduceSub, Nat.sub_self, List.append_nil, Nat.reduceLeDiff, Bool.false_eq_true, Bool.not_true, Bool.not_false, Bool.true_eq_false, propM, clsM, noX, mkKM, mkVM, strL, lc, al]
  have f9 : ri9 (riE w (some z) (some y) (some (givV z)) (some (indV z)) (some (.lst (errsV z))) (some (.lst (restV z))) none) m2 = .nx (riE w (some z) (some y) (some (givV z)) (some (indV z)) (some (.lst (errsV z))) (some (.lst (restV z))) (some (.lst (lastV z y)))) m2 := by
    generalize errsV z = ev at *
    generalize givV z = gv at *
    generalize indV z = iv at *
    generalize restV z = rv at *
    simp only [seqS, ifS_ap, retS_ap, asgS_ap, exprS_ap, forS_ap, parS_ap, bindS_ap, nextS, orT, andT, notT, tstM, CC.tB, blM, CC.andM, CC.orM, CC.notM, ifM, b2, u1, fA, vM, cM, optR, R.bind, consM, nilM, tupM, lstM, newM, slM, noP, inP, chM, gNameM, gSubM, gFldM, optX, gPc, gTupM, gListM, setAll, oneC, tupC, yesT, itT, itL, itS, itR1, itEnT, callM, isiV, tagOf, truV, sm0, sm1, lmM, dnewM, objV, isNV, List.set, List.length_cons, List.length_nil, List.map_cons, List.map_nil, List.cons_append, List.nil_append, List.append_assoc, List.length_append, List.replicate, List.getElem?_cons_zero, List.getElem?_cons_succ, Option.bind_some, Option.map_some, Option.bind_none, Option.map_none, if_true, if_false, ↓reduceIte, Nat.zero_le, Nat.zero_add, Nat.reduceAdd, Nat.reduceSub, Nat.sub_self, List.append_nil, Nat.reduceLeDiff, Bool.false_eq_true, Bool.not_true, Bool.not_false, Bool.true_eq_false, propM, clsM, noX, mkKM, mkVM, strL, mkEr, mkE0, errV, List.reverse_cons, List.reverse_nil] <;> rfl
  have fA_ : riA (riE w (some z) (some y) (some (givV z)) (some (indV z)) (some (.lst (errsV z))) (some (.lst (restV z))) (some (.lst (lastV z y)))) m2 = .nx (riE w (some z) (some y) (some (givV z)) (some (indV z)) (some (.lst (errsV z))) (some (.lst (restV z))) (some (.lst (lastV z y)))) m2 := by
    have i2 : ixV m2 (.lst (lastV z y)) (.int 2) = some (.err 27 [(2, y), (1, z)]) := rfl
    have a1 : fldE eo 1 m2 (.err 27 [(2, y), (1, z)]) = some z := by simp only [fldE, (eo_at (C := 27) (by decide)).2.1, if_true]; rfl
    have a2 : fldE eo 2 m2 (.err 27 [(2, y), (1, z)]) = some y := by simp only [fldE, (eo_at (C := 27) (by decide)).2.2, if_true]; rfl
    have a3 : fldE eo 1 m2 (.err 27 [(2, z), (1, y)]) = some y := by simp only [fldE, (eo_at (C := 27) (by decide)).2.1, if_true]; rfl
    obtain ⟨t, ht⟩ := rp_lst (xs := [z, y, y]) (fun x hx => by
      simp only [List.mem_cons, List.not_mem_nil, or_false] at hx
      rcases hx with rfl | rfl | rfl
      · exact rz
      · exact ry
      · exact ry) (by simp) m2
    have ne := neS m2 t
    generalize errsV z = ev at *
    generalize givV z = gv at *
    generalize indV z = iv at *
    generalize restV z = rv at *
    generalize Val.lst (lastV z y) = lv at *
    simp only [seqS, ifS_ap, retS_ap, asgS_ap, exprS_ap, forS_ap, parS_ap, bindS_ap, nextS, orT, andT, notT, tstM, CC.tB, blM, CC.andM, CC.orM, CC.notM, ifM, b2, u1, fA, vM, cM, optR, R.bind, consM, nilM, tupM, lstM, newM, slM, noP, inP, chM, gNameM, gSubM, gFldM, optX, gPc, gTupM, gListM, setAll, oneC, tupC, yesT, itT, itL, itS, itR1, itEnT, callM, isiV, tagOf, truV, sm0, sm1, lmM, dnewM, objV, isNV, List.set, List.length_cons, List.length_nil, List.map_cons, List.map_nil, List.cons_append, List.nil_append, List.append_assoc, List.length_append, List.replicate, List.getElem?_cons_zero, List.getElem?_cons_succ, Option.bind_some, Option.map_some, Option.bind_none, Option.map_none, if_true, if_false, ↓reduceIte, Nat.zero_le, Nat.zero_add, Nat.reduceAdd, Nat.reduceSub, Nat.sub_self, List.append_nil, Nat.reduceLeDiff, Bool.false_eq_true, Bool.not_true, Bool.not_false, Bool.true_eq_false, propM, clsM, noX, mkKM, mkVM, strL, mkE, errV, i2, a1, a2, a3, ht, ne]
  have fB : riB (riE w (some z) (some y) (some (givV z)) (some (indV z)) (some (.lst (errsV z))) (some (.lst (restV z))) (some (.lst (lastV z y)))) m2 = .rt (.bl true) m2 := by
    have lc : lcE (riE w (some z) (some y) (some (givV z)) (some (indV z)) (some (.lst (errsV z))) (some (.lst (restV z))) (some (.lst (lastV z y)))) m2 = _ := loop_ok (i := 9) (p := 2) (n := 3) (by decide) (last_at z y) (fun v => rfl) (fun v => rfl)
    have al : allV m2 [.lst ((List.range 3).map fun _ => Val.bl true)] = some (.bl true) := rfl
    unfold riB
    generalize lcE = mC at *
    generalize (List.range 3).map (fun _ => Val.bl true) = TT at *
    generalize errsV z = ev at *
    generalize givV z = gv at *
    generalize indV z = iv at *
    generalize restV z = rv at *
    generalize lastV z y = lv at *
    simp only [seqS, ifS_ap, retS_ap, asgS_ap, exprS_ap, forS_ap, parS_ap, bindS_ap, nextS, orT, andT, notT, tstM, CC.tB, blM, CC.andM, CC.orM, CC.notM, ifM, b2, u1, fA, vM, cM, optR, R.bind, consM, nilM, tupM, lstM, newM, slM, noP, inP, chM, gNameM, gSubM, gFldM, optX, gPc, gTupM, gListM, setAll, oneC, tupC, yesT, itT, itL, itS, itR1, itEnT, callM, isiV, tagOf, truV, sm0, sm1, lmM, dnewM, objV, isNV, List.set, List.length_cons, List.length_nil, List.map_cons, List.map_nil, List.cons_append, List.nil_append, List.append_assoc, List.length_append, List.replicate, List.getElem?_cons_zero, List.getElem?_cons_succ, Option.bind_some, Option.map_some, Option.bind_none, Option.map_none, if_true, if_false, ↓reduceIte, Nat.zero_le, Nat.zero_add, Nat.reduceAdd, Nat.reduceSub, Nat.sub_self, List.append_nil, Nat.reduceLeDiff, Bool.false_eq_true, Bool.not_true, Bool.not_false, Bool.true_eq_false, propM, clsM, noX, mkKM, mkVM, strL, lc, al]
  refine ⟨m2, fin_D0 (v := .bl true) (defK_rt rfl ?_) D rfl, D⟩
  show b_L_law_right (riE w none none none none none none none) m = _
  unfold b_L_law_right
  exact (seq_nx f1).trans ((seq_nx f2).trans ((seq_nx f3).trans ((seq_nx f4).trans ((seq_nx f5).trans ((seq_nx f6).trans ((seq_nx f7).trans ((seq_nx f8).trans ((seq_nx f9).trans ((seq_nx fA_).trans fB)))))))))
end K01

set_option Elab.async false
set_option linter.all false
set_option maxRecDepth 100000
set_option maxHeartbeats 1000000
namespace K01
open PySem PySem.Spec PyProof.Rows L2 CC
abbrev toldL9 : List Val := [.int 4, .int 5, .int 40, .int 5, .int 6, .int 200, .int 6, .int 200, .int 1000]
noncomputable abbrev lw1 : MS := (asgS (lstM (consM (cM (.int 4)) (consM (cM (.int 5)) (consM (cM (.int 40)) (consM (cM (.int 5)) (consM (cM (.int 6)) nilM)))))) (gNameM 1))
noncomputable abbrev lw2 : MS := (asgS (b2 addV (vM 1) (lstM (consM (cM (.int 200)) (consM (cM (.int 6)) (consM (cM (.int 200)) (consM (cM (.int 1000)) nilM)))))) (gNameM 1))
noncomputable abbrev lw3 : MS := (ifS (CC.tB (b2 CC.neV (fA reprX (consM (vM 1) nilM)) (fA reprX (consM (lstM (consM (cM (.int 4)) (consM (cM (.int 5)) (consM (cM (.int 40)) (consM (cM (.int 5)) (consM (cM (.int 6)) (consM (cM (.int 200)) (consM (cM (.int 6)) (consM (cM (.int 200)) (consM (cM (.int 1000)) nilM)))))))))) nilM)))) (retS (cM (.bl false))) nextS)
theorem st_1 (a0 a1 a2 : Option Val) : lw1 [a0, a1, a2] [] = .nx [a0, some (.lst [.int 4, .int 5, .int 40, .int 5, .int 6]), a2] [] := rfl
theorem st_2 (a0 a2 : Option Val) : lw2 [a0, some (.lst [.int 4, .int 5, .int 40, .int 5, .int 6]), a2] [] = .nx [a0, some (.lst toldL9), a2] [] := rfl
theorem st_3 (a0 a2 : Option Val) : lw3 [a0, some (.lst toldL9), a2] [] = .nx [a0, some (.lst toldL9), a2] [] := by
  obtain ⟨t, ht⟩ := rp_lst (xs := toldL9) (fun x hx => rp_of (by
    have : (toldL9.all (rpB 2000)) = true := by decide +kernel
    exact List.all_eq_true.mp this x hx)) (by decide) []
  have ne := neS [] t
  generalize hT : Val.lst toldL9 = T at *
  simp only [seqS, ifS_ap, retS_ap, asgS_ap, exprS_ap, forS_ap, parS_ap, bindS_ap, nextS, orT, andT, notT, tstM, CC.tB, blM, CC.andM, CC.orM, CC.notM, ifM, b2, u1, fA, vM, cM, optR, R.bind, consM, nilM, tupM, lstM, newM, slM, noP, inP, chM, gNameM, gSubM, gFldM, optX, gPc, gTupM, gListM, setAll, oneC, tupC, yesT, itT, itL, itS, itR1, itEnT, callM, isiV, tagOf, truV, sm0, sm1, lmM, dnewM, objV, isNV, List.set, List.length_cons, List.length_nil, List.map_cons, List.map_nil, List.cons_append, List.nil_append, List.append_assoc, List.length_append, List.replicate, List.getElem?_cons_zero, List.getElem?_cons_succ, Option.bind_some, Option.map_some, Option.bind_none, Option.map_none, if_true, if_false, ↓reduceIte, Nat.zero_le, Nat.zero_add, Nat.reduceAdd, Nat.reduceSub, Nat.sub_self, List.append_nil, Nat.reduceLeDiff, Bool.false_eq_true, Bool.not_true, Bool.not_false, Bool.true_eq_false, propM, clsM, noX, mkKM, mkVM, strL, hT, ht, ne]
theorem plain (ns : List Int) (h1 : ns.length ≤ 63) (h2 : ∀ z ∈ ns, PySem.Builtin.Int.intBits z ≤ 1048576) : ∃ mu, m_law [.scr ns] [] = .ok (.bl true) mu := by
  suffices h : ∃ mu, m0_law [.scr ns] [] = .ok (.bl true) mu by
    obtain ⟨mu, e⟩ := h
    refine ⟨[], ?_⟩
    refine fin_pl (d := .bool true) (ex := mu) ?_ rfl
    rw [List.nil_append]
    exact e
  have step1 : ∀ r : Env1, r[0]? = some (some (.scr ns)) → ∃ n : Nat, n ≤ 3 ∧ itR1 (consM (fA maxV (consM (cM (.int 2)) (consM (fA minV (consM (fA lenV (consM (vM 0) nilM)) (consM (cM (.int 3)) nilM))) nilM))) nilM) r [] = .ok (rngL 0 n, allOk) [] := fun r hr => by
    have hv : vM 0 r [] = .ok (.scr ns) [] := by simp only [vM, hr]
    by_cases c1 : (3 : Int) < ns.length
    · refine ⟨3, by decide, ?_⟩
      simp only [itR1, fA, consM, nilM, hv, R.bind, cM, len_scr, optR, minV, maxV, c1, if_true, if_false]
      rfl
    · by_cases c2 : (2 : Int) < ns.length
      · refine ⟨ns.length, by omega, ?_⟩
        simp only [itR1, fA, consM, nilM, hv, R.bind, cM, len_scr, optR, minV, maxV, c1, c2, if_true, if_false]
        rw [if_pos (by omega)]
        rfl
      · refine ⟨2, by decide, ?_⟩
        simp only [itR1, fA, consM, nilM, hv, R.bind, cM, len_scr, optR, minV, maxV, c1, c2, if_true, if_false]
        rfl
  obtain ⟨n, hn, hi⟩ := step1 [some (.scr ns), some (.lst toldL9), none] rfl
  obtain ⟨mu2, e2, -⟩ := lcM_all (is := [2]) (f := oneC) (e := callM m_L_law_right (consM (callM m_L_law_well (consM (vM 0) (consM (vM 2) nilM))) nilM)) (vs := [2]) (fun _ => True) hi (by rw [rngL_len]; omega) (fun _ _ => trivial) (fun x m hx _ => by
    obtain ⟨k, hk, rfl⟩ := rngL_mem hx
    rw [show (0 : Int) + k = k by omega]
    obtain ⟨a', b', ew⟩ := well_ok ns k m
    obtain ⟨m2, er, -⟩ := right_ok (well_at m a' b')
    refine ⟨[.int k], rfl, m2, ?_, trivial⟩
    generalize toldL9 = p0
    simp only [seqS, ifS_ap, retS_ap, asgS_ap, exprS_ap, forS_ap, parS_ap, bindS_ap, nextS, orT, andT, notT, tstM, CC.tB, blM, CC.andM, CC.orM, CC.notM, ifM, b2, u1, fA, vM, cM, optR, R.bind, consM, nilM, tupM, lstM, newM, slM, noP, inP, chM, gNameM, gSubM, gFldM, optX, gPc, gTupM, gListM, setAll, oneC, tupC, yesT, itT, itL, itS, itR1, itEnT, callM, isiV, tagOf, truV, sm0, sm1, lmM, dnewM, objV, isNV, List.set, List.length_cons, List.length_nil, List.map_cons, List.map_nil, List.cons_append, List.nil_append, List.append_assoc, List.length_append, List.replicate, List.getElem?_cons_zero, List.getElem?_cons_succ, Option.bind_some, Option.map_some, Option.bind_none, Option.map_none, if_true, if_false, ↓reduceIte, Nat.zero_le, Nat.zero_add, Nat.reduceAdd, Nat.reduceSub, Nat.sub_self, List.append_nil, Nat.reduceLeDiff, Bool.false_eq_true, Bool.not_true, Bool.not_false, Bool.true_eq_false, propM, clsM, noX, mkKM, mkVM, strL, wipeE, ew, er]) trivial
  refine ⟨mu2, ?_⟩
  unfold m0_law
  refine defK_rt rfl ?_
  unfold b_law
  show seqS _ _ [some (.scr ns), none, none] [] = _
  refine (seq_nx (st_1 _ _ _)).trans ((seq_nx (st_2 _ _)).trans ((seq_nx (st_3 _ _)).trans ?_))
  rw [retS_ap, e2]
end K01

set_option Elab.async false
set_option linter.all false
set_option maxRecDepth 100000
set_option maxHeartbeats 0
namespace K01
open PySem PySem.Spec PyProof.Rows L2 CC LamX
theorem fac_of {K : PySem.W.Frag} {h : Heap} {mg : Str → Option Value} (X : K.In h) (G : h.Ns mainGlobals mg) (c : SaysC exs dds K) : Fac K mg where
  b_ArithmeticError := He.free_ok X G (c.fact 0 rfl)
  b_LookupError := He.free_ok X G (c.fact 1 rfl)
  b_ValueError := He.free_ok X G (c.fact 2 rfl)
  b_abs := He.free_ok X G (c.fact 3 rfl)
  b_all := He.free_ok X G (c.fact 4 rfl)
  b_int := He.free_ok X G (c.fact 5 rfl)
  b_isinstance := He.free_ok X G (c.fact 6 rfl)
  b_len := He.free_ok X G (c.fact 7 rfl)
  b_max := He.free_ok X G (c.fact 8 rfl)
  b_min := He.free_ok X G (c.fact 9 rfl)
  b_range := He.free_ok X G (c.fact 10 rfl)
  b_repr := He.free_ok X G (c.fact 11 rfl)
  gi_MOST_CHANGES := He.int_ok X G (c.fact 12 rfl)
  gi_MOST_COUNT := He.int_ok X G (c.fact 13 rfl)
  gi_MOST_DEEP := He.int_ok X G (c.fact 14 rfl)
  gi_MOST_DOORS := He.int_ok X G (c.fact 15 rfl)
  gi_MOST_LINES := He.int_ok X G (c.fact 16 rfl)
  gi_MOST_NEEDED := He.int_ok X G (c.fact 17 rfl)
  gi_MOST_PLAIN := He.int_ok X G (c.fact 18 rfl)
  gi_MOST_PROGRAMS := He.int_ok X G (c.fact 19 rfl)
  gi_MOST_ROOMS := He.int_ok X G (c.fact 20 rfl)
  gf__law_bases := He.glo_ok X G (c.fact 21 rfl)
  kp__law_bases := He.keep_ok (c.fact 22 rfl)
  gf__law_dip := He.glo_ok X G (c.fact 23 rfl)
  kp__law_dip := He.keep_ok (c.fact 24 rfl)
  gf__law_kinds := He.glo_ok X G (c.fact 25 rfl)
  kp__law_kinds := He.keep_ok (c.fact 26 rfl)
  gf__law_made := He.glo_ok X G (c.fact 27 rfl)
  kp__law_made := He.keep_ok (c.fact 28 rfl)
  gf__law_odd := He.glo_ok X G (c.fact 29 rfl)
  kp__law_odd := He.keep_ok (c.fact 30 rfl)
  gf__law_one_class := He.glo_ok X G (c.fact 31 rfl)
  kp__law_one_class := He.keep_ok (c.fact 32 rfl)
  gf__law_right := He.glo_ok X G (c.fact 33 rfl)
  kp__law_right := He.keep_ok (c.fact 34 rfl)
  gf__law_well := He.glo_ok X G (c.fact 35 rfl)
  kp__law_well := He.keep_ok (c.fact 36 rfl)
  gf_law := He.glo_ok X G (c.fact 37 rfl)
  kp_law := He.keep_ok (c.fact 38 rfl)
  gc_Broken := He.glo_ok X G (c.fact 39 rfl)
  gc_CannotBe := He.glo_ok X G (c.fact 40 rfl)
  gc_InvalidChanges := He.glo_ok X G (c.fact 41 rfl)
  gc_InvalidClaim := He.glo_ok X G (c.fact 42 rfl)
  gc_InvalidClaims := He.glo_ok X G (c.fact 43 rfl)
  gc_InvalidCourse := He.glo_ok X G (c.fact 44 rfl)
  gc_InvalidCourses := He.glo_ok X G (c.fact 45 rfl)
  gc_InvalidDoor := He.glo_ok X G (c.fact 46 rfl)
  gc_InvalidDoors := He.glo_ok X G (c.fact 47 rfl)
  gc_InvalidNumber := He.glo_ok X G (c.fact 48 rfl)
  gc_InvalidPrograms := He.glo_ok X G (c.fact 49 rfl)
  gc_InvalidRoom := He.glo_ok X G (c.fact 50 rfl)
  gc_InvalidRooms := He.glo_ok X G (c.fact 51 rfl)
  gc_InvalidTable := He.glo_ok X G (c.fact 52 rfl)
  gc_InvalidText := He.glo_ok X G (c.fact 53 rfl)
  gc_InvalidWalk := He.glo_ok X G (c.fact 54 rfl)
  gc_NotAHouse := He.glo_ok X G (c.fact 55 rfl)
  gc_NotAPlan := He.glo_ok X G (c.fact 56 rfl)
  gc_NotAProgram := He.glo_ok X G (c.fact 57 rfl)
  gc_NotCourses := He.glo_ok X G (c.fact 58 rfl)
  gc_NotFit := He.glo_ok X G (c.fact 59 rfl)
  gc_NotThere := He.glo_ok X G (c.fact 60 rfl)
  gc_NothingToUndo := He.glo_ok X G (c.fact 61 rfl)
  gc_OtherHouse := He.glo_ok X G (c.fact 62 rfl)
  gc_Unjoined := He.glo_ok X G (c.fact 63 rfl)
  gc_UnknownClaim := He.glo_ok X G (c.fact 64 rfl)
  gc_UnknownProgram := He.glo_ok X G (c.fact 65 rfl)
  ki := ki_of (c.fact (f := fun K => kiB (cA K) ktL icL K) 66 rfl)
  ex_InvalidCourse := excT_of X G (c.fact (f := fun K => excTB K "InvalidCourse" 0 veN veM) 67 rfl)
  ex_InvalidWalk := excT_of X G (c.fact (f := fun K => excTB K "InvalidWalk" 0 veN veM) 68 rfl)
  ex_InvalidDoor := excT_of X G (c.fact (f := fun K => excTB K "InvalidDoor" 0 veN veM) 69 rfl)
  ex_InvalidRoom := excT_of X G (c.fact (f := fun K => excTB K "InvalidRoom" 0 veN veM) 70 rfl)
  ex_InvalidClaim := excT_of X G (c.fact (f := fun K => excTB K "InvalidClaim" 0 veN veM) 71 rfl)
  ex_InvalidTable := excT_of X G (c.fact (f := fun K => excTB K "InvalidTable" 0 veN veM) 72 rfl)
  ex_InvalidText := excT_of X G (c.fact (f := fun K => excTB K "InvalidText" 0 veN veM) 73 rfl)
  ex_InvalidNumber := excT_of X G (c.fact (f := fun K => excTB K "InvalidNumber" 0 veN veM) 74 rfl)
  ex_NotCourses := excT_of X G (c.fact (f := fun K => excTB K "NotCourses" 0 veN veM) 75 rfl)
  ex_NotAPlan := excT_of X G (c.fact (f := fun K => excTB K "NotAPlan" 0 veN veM) 76 rfl)
  ex_NotAProgram := excT_of X G (c.fact (f := fun K => excTB K "NotAProgram" 0 veN veM) 77 rfl)
  ex_NotAHouse := excT_of X G (c.fact (f := fun K => excTB K "NotAHouse" 0 veN veM) 78 rfl)
  ex_InvalidCourses := excT_of X G (c.fact (f := fun K => excTB K "InvalidCourses" 1 veN veM) 79 rfl)
  ex_InvalidPrograms := excT_of X G (c.fact (f := fun K => excTB K "InvalidPrograms" 1 veN veM) 80 rfl)
  ex_InvalidDoors := excT_of X G (c.fact (f := fun K => excTB K "InvalidDoors" 1 veN veM) 81 rfl)
  ex_InvalidRooms := excT_of X G (c.fact (f := fun K => excTB K "InvalidRooms" 1 veN veM) 82 rfl)
  ex_InvalidChanges := excT_of X G (c.fact (f := fun K => excTB K "InvalidChanges" 1 veN veM) 83 rfl)
  ex_InvalidClaims := excT_of X G (c.fact (f := fun K => excTB K "InvalidClaims" 1 veN veM) 84 rfl)
  ex_UnknownClaim := excT_of X G (c.fact (f := fun K => excTB K "UnknownClaim" 0 leN leM) 85 rfl)
  ex_UnknownProgram := excT_of X G (c.fact (f := fun K => excTB K "UnknownProgram" 0 leN leM) 86 rfl)
  ex_Broken := excT_of X G (c.fact (f := fun K => excTB K "Broken" 1 arN arM) 87 rfl)
  at2_Broken := He.eqO_ok (c.fact 88 rfl)
  e0v_NothingToUndo := (c.fact 89 rfl)
  e0k_NothingToUndo := (c.fact 90 rfl)
  e0v_OtherHouse := (c.fact 91 rfl)
  e0k_OtherHouse := (c.fact 92 rfl)
  e0v_Unjoined := (c.fact 93 rfl)
  e0k_Unjoined := (c.fact 94 rfl)
  exk := exks_of (c.fact (f := fun K => exksB (cA K) ecL K) 95 rfl)
  xat := xats_of (c.fact (f := fun K => xatsB (cA K) ecL [0, 1, 2] K) 96 rfl)
  sys := sys_of (c.fact (f := fun K => sysB K) 97 rfl)
  tu := (c.fact 98 rfl)
  kf := kf_of (c.fact (f := fun K => kfB (cA K) naL K) 99 rfl)
theorem all_ok {P : Program} {w : World} {K : PySem.W.Frag} {h : Heap} {mg : Str → Option Value} {base : Heap} (X : K.In h) (G : h.Ns mainGlobals mg) (c : SaysC exs dds K) (tb : ∀ p ∈ tfs, TabB base mg (He.cT K p).1 (He.cT K p).2) : FnG P w K mg base (cA K) 5 (A_law K) m_law := by
  have Fc := fac_of X G c
  obtain ⟨fd_InvalidCourse, F_InvalidCourse⟩ := c.def_ 9 rfl
  have I_InvalidCourse : FnOk P w K mg base (L2N.CX P w) 1 (AI_InvalidCourse K) fd_InvalidCourse PI_InvalidCourse (SpT K veN veM (aN 0)) := excInitT baseVE F_InvalidCourse ⟨rfl, rfl, rfl, by decide +kernel, rfl, by decide +kernel, by decide +kernel⟩
  have kwI_InvalidCourse : KBn K fd_InvalidCourse PI_InvalidCourse 1 ["given"] (fun us ws => us ++ ws) (fun vs zs => vs ++ zs) := kbn_of F_InvalidCourse (fun _ _ _ _ _ _ us ws l1 l2 => match us, ws, l1, l2 with | [_], [_], _, _ => rfl) (fun r1 r2 => r1.append r2)
  have bI_InvalidCourse : Binds K fd_InvalidCourse PI_InvalidCourse [] := F_InvalidCourse.bindsN fun _ _ _ _ _ _ us hl => match us, hl with | [_, _], _ => rfl
  obtain ⟨fd_InvalidWalk, F_InvalidWalk⟩ := c.def_ 10 rfl
  have I_InvalidWalk : FnOk P w K mg base (L2N.CX P w) 1 (AI_InvalidWalk K) fd_InvalidWalk PI_InvalidWalk (SpT K veN veM (aN 0)) := excInitT baseVE F_InvalidWalk ⟨rfl, rfl, rfl, by decide +kernel, rfl, by decide +kernel, by decide +kernel⟩
  have bI_InvalidWalk : Binds K fd_InvalidWalk PI_InvalidWalk [] := F_InvalidWalk.bindsN fun _ _ _ _ _ _ us hl => match us, hl with | [_, _], _ => rfl
  obtain ⟨fd_InvalidDoor, F_InvalidDoor⟩ := c.def_ 11 rfl
  have I_InvalidDoor : FnOk P w K mg base (L2N.CX P w) 1 (AI_InvalidDoor K) fd_InvalidDoor PI_InvalidDoor (SpT K veN veM (aN 0)) := excInitT baseVE F_InvalidDoor ⟨rfl, rfl, rfl, by decide +kernel, rfl, by decide +kernel, by decide +kernel⟩
  have kwI_InvalidDoor : KBn K fd_InvalidDoor PI_InvalidDoor 1 ["given"] (fun us ws => us ++ ws) (fun vs zs => vs ++ zs) := kbn_of F_InvalidDoor (fun _ _ _ _ _ _ us ws l1 l2 => match us, ws, l1, l2 with | [_], [_], _, _ => rfl) (fun r1 r2 => r1.append r2)
  have bI_InvalidDoor : Binds K fd_InvalidDoor PI_InvalidDoor [] := F_InvalidDoor.bindsN fun _ _ _ _ _ _ us hl => match us, hl with | [_, _], _ => rfl
  obtain ⟨fd_InvalidRoom, F_InvalidRoom⟩ := c.def_ 12 rfl
  have I_InvalidRoom : FnOk P w K mg base (L2N.CX P w) 1 (AI_InvalidRoom K) fd_InvalidRoom PI_InvalidRoom (SpT K veN veM (aN 0)) := excInitT baseVE F_InvalidRoom ⟨rfl, rfl, rfl, by decide +kernel, rfl, by decide +kernel, by decide +kernel⟩
  have bI_InvalidRoom : Binds K fd_InvalidRoom PI_InvalidRoom [] := F_InvalidRoom.bindsN fun _ _ _ _ _ _ us hl => match us, hl with | [_, _], _ => rfl
  obtain ⟨fd_InvalidClaim, F_InvalidClaim⟩ := c.def_ 13 rfl
  have I_InvalidClaim : FnOk P w K mg base (L2N.CX P w) 1 (AI_InvalidClaim K) fd_InvalidClaim PI_InvalidClaim (SpT K veN veM (aN 0)) := excInitT baseVE F_InvalidClaim ⟨rfl, rfl, rfl, by decide +kernel, rfl, by decide +kernel, by decide +kernel⟩
  have kwI_InvalidClaim : KBn K fd_InvalidClaim PI_InvalidClaim 1 ["given"] (fun us ws => us ++ ws) (fun vs zs => vs ++ zs) := kbn_of F_InvalidClaim (fun _ _ _ _ _ _ us ws l1 l2 => match us, ws, l1, l2 with | [_], [_], _, _ => rfl) (fun r1 r2 => r1.append r2)
  have bI_InvalidClaim : Binds K fd_InvalidClaim PI_InvalidClaim [] := F_InvalidClaim.bindsN fun _ _ _ _ _ _ us hl => match us, hl with | [_, _], _ => rfl
  obtain ⟨fd_InvalidTable, F_InvalidTable⟩ := c.def_ 14 rfl
  have I_InvalidTable : FnOk P w K mg base (L2N.CX P w) 1 (AI_InvalidTable K) fd_InvalidTable PI_InvalidTable (SpT K veN veM (aN 0)) := excInitT baseVE F_InvalidTable ⟨rfl, rfl, rfl, by decide +kernel, rfl, by decide +kernel, by decide +kernel⟩
  have bI_InvalidTable : Binds K fd_InvalidTable PI_InvalidTable [] := F_InvalidTable.bindsN fun _ _ _ _ _ _ us hl => match us, hl with | [_, _], _ => rfl
  obtain ⟨fd_InvalidText, F_InvalidText⟩ := c.def_ 15 rfl
  have I_InvalidText : FnOk P w K mg base (L2N.CX P w) 1 (AI_InvalidText K) fd_InvalidText PI_InvalidText (SpT K veN veM (aN 0)) := excInitT baseVE F_InvalidText ⟨rfl, rfl, rfl, by decide +kernel, rfl, by decide +kernel, by decide +kernel⟩
  have kwI_InvalidText : KBn K fd_InvalidText PI_InvalidText 1 ["given"] (fun us ws => us ++ ws) (fun vs zs => vs ++ zs) := kbn_of F_InvalidText (fun _ _ _ _ _ _ us ws l1 l2 => match us, ws, l1, l2 with | [_], [_], _, _ => rfl) (fun r1 r2 => r1.append r2)
  have bI_InvalidText : Binds K fd_InvalidText PI_InvalidText [] := F_InvalidText.bindsN fun _ _ _ _ _ _ us hl => match us, hl with | [_, _], _ => rfl
  obtain ⟨fd_InvalidNumber, F_InvalidNumber⟩ := c.def_ 16 rfl
  have I_InvalidNumber : FnOk P w K mg base (L2N.CX P w) 1 (AI_InvalidNumber K) fd_InvalidNumber PI_InvalidNumber (SpT K veN veM (aN 0)) := excInitT baseVE F_InvalidNumber ⟨rfl, rfl, rfl, by decide +kernel, rfl, by decide +kernel, by decide +kernel⟩
  have bI_InvalidNumber : Binds K fd_InvalidNumber PI_InvalidNumber [] := F_InvalidNumber.bindsN fun _ _ _ _ _ _ us hl => match us, hl with | [_, _], _ => rfl
  obtain ⟨fd_NotCourses, F_NotCourses⟩ := c.def_ 17 rfl
  have I_NotCourses : FnOk P w K mg base (L2N.CX P w) 1 (AI_NotCourses K) fd_NotCourses PI_NotCourses (SpT K veN veM (aN 0)) := excInitT baseVE F_NotCourses ⟨rfl, rfl, rfl, by decide +kernel, rfl, by decide +kernel, by decide +kernel⟩
  have kwI_NotCourses : KBn K fd_NotCourses PI_NotCourses 1 ["given"] (fun us ws => us ++ ws) (fun vs zs => vs ++ zs) := kbn_of F_NotCourses (fun _ _ _ _ _ _ us ws l1 l2 => match us, ws, l1, l2 with | [_], [_], _, _ => rfl) (fun r1 r2 => r1.append r2)
  have bI_NotCourses : Binds K fd_NotCourses PI_NotCourses [] := F_NotCourses.bindsN fun _ _ _ _ _ _ us hl => match us, hl with | [_, _], _ => rfl
  obtain ⟨fd_NotAPlan, F_NotAPlan⟩ := c.def_ 18 rfl
  have I_NotAPlan : FnOk P w K mg base (L2N.CX P w) 1 (AI_NotAPlan K) fd_NotAPlan PI_NotAPlan (SpT K veN veM (aN 0)) := excInitT baseVE F_NotAPlan ⟨rfl, rfl, rfl, by decide +kernel, rfl, by decide +kernel, by decide +kernel⟩
  have bI_NotAPlan : Binds K fd_NotAPlan PI_NotAPlan [] := F_NotAPlan.bindsN fun _ _ _ _ _ _ us hl => match us, hl with | [_, _], _ => rfl
  obtain ⟨fd_NotAProgram, F_NotAProgram⟩ := c.def_ 19 rfl
  have I_NotAProgram : FnOk P w K mg base (L2N.CX P w) 1 (AI_NotAProgram K) fd_NotAProgram PI_NotAProgram (SpT K veN veM (aN 0)) := excInitT baseVE F_NotAProgram ⟨rfl, rfl, rfl, by decide +kernel, rfl, by decide +kernel, by decide +kernel⟩
  have kwI_NotAProgram : KBn K fd_NotAProgram PI_NotAProgram 1 ["given"] (fun us ws => us ++ ws) (fun vs zs => vs ++ zs) := kbn_of F_NotAProgram (fun _ _ _ _ _ _ us ws l1 l2 => match us, ws, l1, l2 with | [_], [_], _, _ => rfl) (fun r1 r2 => r1.append r2)
  have bI_NotAProgram : Binds K fd_NotAProgram PI_NotAProgram [] := F_NotAProgram.bindsN fun _ _ _ _ _ _ us hl => match us, hl with | [_, _], _ => rfl
  obtain ⟨fd_NotAHouse, F_NotAHouse⟩ := c.def_ 20 rfl
  have I_NotAHouse : FnOk P w K mg base (L2N.CX P w) 1 (AI_NotAHouse K) fd_NotAHouse PI_NotAHouse (SpT K veN veM (aN 0)) := excInitT baseVE F_NotAHouse ⟨rfl, rfl, rfl, by decide +kernel, rfl, by decide +kernel, by decide +kernel⟩
  have bI_NotAHouse : Binds K fd_NotAHouse PI_NotAHouse [] := F_NotAHouse.bindsN fun _ _ _ _ _ _ us hl => match us, hl with | [_, _], _ => rfl
  obtain ⟨fd_InvalidCourses, F_InvalidCourses⟩ := c.def_ 21 rfl
  have I_InvalidCourses : FnOk P w K mg base (L2N.CX P w) 1 (AI_InvalidCourses K) fd_InvalidCourses PI_InvalidCourses (SpT K veN veM (aN 1)) := excInitT baseVE F_InvalidCourses ⟨rfl, rfl, rfl, by decide +kernel, rfl, by decide +kernel, by decide +kernel⟩
  have kwI_InvalidCourses : KBn K fd_InvalidCourses PI_InvalidCourses 1 ["index"] (fun us ws => us ++ ws) (fun vs zs => vs ++ zs) := kbn_of F_InvalidCourses (fun _ _ _ _ _ _ us ws l1 l2 => match us, ws, l1, l2 with | [_], [_], _, _ => rfl) (fun r1 r2 => r1.append r2)
  have bI_InvalidCourses : Binds K fd_InvalidCourses PI_InvalidCourses [] := F_InvalidCourses.bindsN fun _ _ _ _ _ _ us hl => match us, hl with | [_, _], _ => rfl
  obtain ⟨fd_InvalidPrograms, F_InvalidPrograms⟩ := c.def_ 22 rfl
  have I_InvalidPrograms : FnOk P w K mg base (L2N.CX P w) 1 (AI_InvalidPrograms K) fd_InvalidPrograms PI_InvalidPrograms (SpT K veN veM (aN 1)) := excInitT baseVE F_InvalidPrograms ⟨rfl, rfl, rfl, by decide +kernel, rfl, by decide +kernel, by decide +kernel⟩
  have bI_InvalidPrograms : Binds K fd_InvalidPrograms PI_InvalidPrograms [] := F_InvalidPrograms.bindsN fun _ _ _ _ _ _ us hl => match us, hl with | [_, _], _ => rfl
  obtain ⟨fd_InvalidDoors, F_InvalidDoors⟩ := c.def_ 23 rfl
  have I_InvalidDoors : FnOk P w K mg base (L2N.CX P w) 1 (AI_InvalidDoors K) fd_InvalidDoors PI_InvalidDoors (SpT K veN veM (aN 1)) := excInitT baseVE F_InvalidDoors ⟨rfl, rfl, rfl, by decide +kernel, rfl, by decide +kernel, by decide +kernel⟩
  have kwI_InvalidDoors : KBn K fd_InvalidDoors PI_InvalidDoors 1 ["index"] (fun us ws => us ++ ws) (fun vs zs => vs ++ zs) := kbn_of F_InvalidDoors (fun _ _ _ _ _ _ us ws l1 l2 => match us, ws, l1, l2 with | [_], [_], _, _ => rfl) (fun r1 r2 => r1.append r2)
  have bI_InvalidDoors : Binds K fd_InvalidDoors PI_InvalidDoors [] := F_InvalidDoors.bindsN fun _ _ _ _ _ _ us hl => match us, hl with | [_, _], _ => rfl
  obtain ⟨fd_InvalidRooms, F_InvalidRooms⟩ := c.def_ 24 rfl
  have I_InvalidRooms : FnOk P w K mg base (L2N.CX P w) 1 (AI_InvalidRooms K) fd_InvalidRooms PI_InvalidRooms (SpT K veN veM (aN 1)) := excInitT baseVE F_InvalidRooms ⟨rfl, rfl, rfl, by decide +kernel, rfl, by decide +kernel, by decide +kernel⟩
  have bI_InvalidRooms : Binds K fd_InvalidRooms PI_InvalidRooms [] := F_InvalidRooms.bindsN fun _ _ _ _ _ _ us hl => match us, hl with | [_, _], _ => rfl
  obtain ⟨fd_InvalidChanges, F_InvalidChanges⟩ := c.def_ 25 rfl
  have I_InvalidChanges : FnOk P w K mg base (L2N.CX P w) 1 (AI_InvalidChanges K) fd_InvalidChanges PI_InvalidChanges (SpT K veN veM (aN 1)) := excInitT baseVE F_InvalidChanges ⟨rfl, rfl, rfl, by decide +kernel, rfl, by decide +kernel, by decide +kernel⟩
  have kwI_InvalidChanges : KBn K fd_InvalidChanges PI_InvalidChanges 1 ["index"] (fun us ws => us ++ ws) (fun vs zs => vs ++ zs) := kbn_of F_InvalidChanges (fun _ _ _ _ _ _ us ws l1 l2 => match us, ws, l1, l2 with | [_], [_], _, _ => rfl) (fun r1 r2 => r1.append r2)
  have bI_InvalidChanges : Binds K fd_InvalidChanges PI_InvalidChanges [] := F_InvalidChanges.bindsN fun _ _ _ _ _ _ us hl => match us, hl with | [_, _], _ => rfl
  obtain ⟨fd_InvalidClaims, F_InvalidClaims⟩ := c.def_ 26 rfl
  have I_InvalidClaims : FnOk P w K mg base (L2N.CX P w) 1 (AI_InvalidClaims K) fd_InvalidClaims PI_InvalidClaims (SpT K veN veM (aN 1)) := excInitT baseVE F_InvalidClaims ⟨rfl, rfl, rfl, by decide +kernel, rfl, by decide +kernel, by decide +kernel⟩
  have bI_InvalidClaims : Binds K fd_InvalidClaims PI_InvalidClaims [] := F_InvalidClaims.bindsN fun _ _ _ _ _ _ us hl => match us, hl with | [_, _], _ => rfl
  obtain ⟨fd_UnknownClaim, F_UnknownClaim⟩ := c.def_ 27 rfl
  have I_UnknownClaim : FnOk P w K mg base (L2N.CX P w) 1 (AI_UnknownClaim K) fd_UnknownClaim PI_UnknownClaim (SpT K leN leM (aN 0)) := excInitT baseLE F_UnknownClaim ⟨rfl, rfl, rfl, by decide +kernel, rfl, by decide +kernel, by decide +kernel⟩
  have kwI_UnknownClaim : KBn K fd_UnknownClaim PI_UnknownClaim 1 ["given"] (fun us ws => us ++ ws) (fun vs zs => vs ++ zs) := kbn_of F_UnknownClaim (fun _ _ _ _ _ _ us ws l1 l2 => match us, ws, l1, l2 with | [_], [_], _, _ => rfl) (fun r1 r2 => r1.append r2)
  have bI_UnknownClaim : Binds K fd_UnknownClaim PI_UnknownClaim [] := F_UnknownClaim.bindsN fun _ _ _ _ _ _ us hl => match us, hl with | [_, _], _ => rfl
  obtain ⟨fd_UnknownProgram, F_UnknownProgram⟩ := c.def_ 28 rfl
  have I_UnknownProgram : FnOk P w K mg base (L2N.CX P w) 1 (AI_UnknownProgram K) fd_UnknownProgram PI_UnknownProgram (SpT K leN leM (aN 0)) := excInitT baseLE F_UnknownProgram ⟨rfl, rfl, rfl, by decide +kernel, rfl, by decide +kernel, by decide +kernel⟩
  have bI_UnknownProgram : Binds K fd_UnknownProgram PI_UnknownProgram [] := F_UnknownProgram.bindsN fun _ _ _ _ _ _ us hl => match us, hl with | [_, _], _ => rfl
  obtain ⟨fd_Broken, F_Broken⟩ := c.def_ 29 rfl
  have I_Broken : FnOk P w K mg base (L2N.CX P w) 1 (AI_Broken K) fd_Broken PI_Broken (SpT2 K arN arM (aN 1) (aN 2)) := excInitT2 baseAE F_Broken ⟨rfl, rfl, rfl, by decide +kernel, rfl, by decide +kernel, by decide +kernel⟩
  have kwI_Broken : KBn K fd_Broken PI_Broken 1 ["shown", "index"] (fun us ws => us ++ ws.reverse) (fun vs zs => vs ++ zs.reverse) := kbn_of F_Broken (fun _ _ _ _ _ _ us ws l1 l2 => match us, ws, l1, l2 with | [_], [_, _], _, _ => rfl) (fun r1 r2 => r1.append r2.reverse)
  have bI_Broken : Binds K fd_Broken PI_Broken [] := F_Broken.bindsN fun _ _ _ _ _ _ us hl => match us, hl with | [_, _, _], _ => rfl
  obtain ⟨fd_L_law_well, F_L_law_well⟩ := c.def_ 0 rfl
  have G_L_law_well := ok_L_law_well (P := P) (w := w) (base := base) Fc F_L_law_well 
  obtain ⟨fd_L_law_dip, F_L_law_dip⟩ := c.def_ 1 rfl
  have G_L_law_dip := ok_L_law_dip (P := P) (w := w) (base := base) Fc F_L_law_dip 
  obtain ⟨fd_L_law_odd, F_L_law_odd⟩ := c.def_ 2 rfl
  have G_L_law_odd := ok_L_law_odd (P := P) (w := w) (base := base) Fc F_L_law_odd G_L_law_dip
  obtain ⟨fd_L_law_made, F_L_law_made⟩ := c.def_ 3 rfl
  have G_L_law_made := ok_L_law_made (P := P) (w := w) (base := base) Fc F_L_law_made  I_InvalidCourse bI_InvalidCourse kwI_InvalidCourse I_InvalidWalk bI_InvalidWalk I_InvalidDoor bI_InvalidDoor kwI_InvalidDoor I_InvalidRoom bI_InvalidRoom I_InvalidClaim bI_InvalidClaim kwI_InvalidClaim I_InvalidTable bI_InvalidTable I_InvalidText bI_InvalidText kwI_InvalidText I_InvalidNumber bI_InvalidNumber I_NotCourses bI_NotCourses kwI_NotCourses I_NotAPlan bI_NotAPlan I_NotAProgram bI_NotAProgram kwI_NotAProgram I_NotAHouse bI_NotAHouse I_InvalidCourses bI_InvalidCourses kwI_InvalidCourses I_InvalidPrograms bI_InvalidPrograms I_InvalidDoors bI_InvalidDoors kwI_InvalidDoors I_InvalidRooms bI_InvalidRooms I_InvalidChanges bI_InvalidChanges kwI_InvalidChanges I_InvalidClaims bI_InvalidClaims
  obtain ⟨fd_L_law_kinds, F_L_law_kinds⟩ := c.def_ 4 rfl
  have G_L_law_kinds := ok_L_law_kinds (P := P) (w := w) (base := base) Fc F_L_law_kinds 
  obtain ⟨fd_L_law_bases, F_L_law_bases⟩ := c.def_ 5 rfl
  have G_L_law_bases := ok_L_law_bases (P := P) (w := w) (base := base) Fc F_L_law_bases 
  obtain ⟨fd_L_law_one_class, F_L_law_one_class⟩ := c.def_ 6 rfl
  have G_L_law_one_class := ok_L_law_one_class (P := P) (w := w) (base := base) Fc F_L_law_one_class G_L_law_bases G_L_law_kinds
  obtain ⟨fd_L_law_right, F_L_law_right⟩ := c.def_ 7 rfl
  have G_L_law_right := ok_L_law_right (P := P) (w := w) (base := base) Fc F_L_law_right G_L_law_odd G_L_law_made G_L_law_one_class I_UnknownClaim bI_UnknownClaim kwI_UnknownClaim I_UnknownProgram bI_UnknownProgram I_Broken bI_Broken kwI_Broken
  obtain ⟨fd_law, F_law⟩ := c.def_ 8 rfl
  have G_law := ok_law (P := P) (w := w) (base := base) Fc F_law G_L_law_right G_L_law_well
  exact G_law
end K01
open PySem PySem.W PySem.Calls PyProof.Rows
theorem PySem.Challenge.cw_cablecourses_k01_limits_and_errors_holds : PySem.Challenge.rw_cablecourses_k01_limits_and_errors.Holds := by
  w_on; o_law
  refine HandSHeadRun.head_any (r := OpenLaw.row PySem.Challenge.rw_cablecourses_k01_limits_and_errors) (q := view (OpenLaw.row PySem.Challenge.rw_cablecourses_k01_limits_and_errors).prog [46]) (H := K01.hk) (ob := K01.ob) (M := 10000) (loose := K01.loose) (d := HandSHeadRun.topDef (OpenLaw.row PySem.Challenge.rw_cablecourses_k01_limits_and_errors).prog 46) (kwd := []) K01.ob_eq
    (by kernel_rfl) (fun s => by kernel_rfl) K01.run (by kernel_rfl) (by kernel_rfl) (by kernel_rfl) (by rfl) (by first | assumption | decide +kernel) (by decide +kernel) ⟨rfl, rfl, rfl, rfl, rfl, by decide +kernel⟩ ?hw ?hc
  case hw => w_witness2
  case hc =>
    refine CC.walk_endT (tf := K01.tfs) (l := PySem.Challenge.rw_cablecourses_k01_limits_and_errors) (n := 63) (k := 5) (m := K01.m_law) rfl (by decide) (by kernel_rfl) ⟨rfl, by decide, by decide⟩ ?F (fun ns h1 h2 => K01.plain ns h1 h2)
    intro w mg fa h Y G hmg0
    obtain ⟨K, KX, c, t⟩ := Y
    have hmg : mg ("law" : PySem.Str) = some (.ref fa) := by
      have e : (HandSHeadRun.topDef (OpenLaw.row PySem.Challenge.rw_cablecourses_k01_limits_and_errors).prog 46).name = ("law" : PySem.Str) := by kernel_rfl
      rw [← e]
      exact hmg0
    have e1 := (K01.fac_of KX G c).gf_law
    rw [hmg] at e1
    cases e1
    exact ⟨K, K01.cA K, KX, t, fun q hq => (by obtain ⟨p, hp, rfl⟩ := List.mem_map.mp hq; exact ⟨p, hp, rfl⟩), rfl, fun base _ _ tb => K01.all_ok KX G c tb⟩
