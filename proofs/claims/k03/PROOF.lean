import PyProof.Rows.All
import HandS.ForMost
import KE.KDictKeyed
import KE.KeyNested
import KE.SortData
import HandS.TupAny
import HandS.TupLe
import HandS.IsInst
import HandS.Style
import HandS.Comp
import KE.GoesMore
import KE.GoesEnum
import KE.GoesZip
import PyProof.Draws
import KE.DataAny
import KE.DataFind
import KE.DataMinMax
import PyProof.P3In
import PyProof.StrBlock2
import PyProof.ListStr
import PySem.Challenge.RW_gantryroad_k03_plates_and_doubts
set_option Elab.async false
set_option linter.all false
set_option maxRecDepth 100000
set_option maxHeartbeats 4000000
namespace G
open PySem PySem.Spec PyProof.Rows L2

/-! ### values, state -/
inductive Val where
  | non | bl (b : Bool) | int (i : Int) | str (x : Str)
  | tup (xs : List Val) | lst (xs : List Val) | dct (kvs : List (Val × Val)) | ref (i : Nat) | scr (xs : List Val) | cls (n : String)
  deriving Inhabited

/-- what is owned: a slot's own container, a cell -/
inductive OV where
  | v (x : Val) | lst (xs : List Val) | dct (kvs : List (Val × Val))
  deriving Inhabited

structure Stt where
  sl : List (Option OV)
  hp : List OV

inductive Res (α : Type) where
  | ok (a : α) (s : Stt) | exn (c : Str) (fs : List (Str × Val)) (s : Stt) | bad

/-- the program's context -/
structure Gx where
  P : Program
  w : World
  K : PySem.W.Frag
abbrev Gx.of (X : Cx) : Gx := ⟨X.prog, X.w, X.K⟩

/-- the world: forbidden addresses of others, the cells' addresses, the slots' own addresses -/
structure Wd where
  m0 : Addr → Prop
  ce : List (List Addr)
  ow : List (List Addr)
def Wd.own (W : Wd) (a : Addr) : Prop := (∃ l ∈ W.ce, a ∈ l) ∨ ∃ l ∈ W.ow, a ∈ l
def Wd.forb (W : Wd) (a : Addr) : Prop := W.m0 a ∨ W.own a

/-- a list of the module's written part -/
def KLst (K : PySem.W.Frag) (a : Addr) (xs : List V) : Prop :=
  ∃ (o : Obj) (its : Array Value) (n : Nat), K.lookup a = some o ∧ o.cls = .type "list" ∧ o.dict = none ∧ o.data = .seq its n ∧ its.size ≤ sizeLine ∧ Vals xs its.toList
def LstAt (K : PySem.W.Frag) (W : Wd) (H : Hp) (p : Addr) (cs : List V) : Prop := (¬ W.forb p ∧ Rd H p (.lst cs)) ∨ KLst K p cs
theorem LstAt.sq {K : PySem.W.Frag} {W : Wd} {H : Hp} {p : Addr} {cs : List V} (h : LstAt K W H p cs) : SqL K H p cs := by
  rcases h with h | h
  · exact .inl h.2
  · exact .inr h

/-! a value as a key of nested tuples -/
mutual
def nk : Val → Option NestedKey
  | .non => some .none
  | .int i => some (.num i)
  | .str x => some (.text x)
  | .tup xs => (nks xs).map .tup
  | _ => none
def nks : List Val → Option (List NestedKey)
  | [] => some []
  | x :: xs => match nk x, nks xs with
    | some k, some ks => some (k :: ks)
    | _, _ => none
end
/-- a flat key -/
def fk : Val → Option Key
  | .int i => some (.inl i)
  | .str x => some (.inr x)
  | _ => none

/-- a dict whose keys are tuples: its entries as they stand (key, the key's address, value) -/
def rawD (P : Program) (w : World) (d : Addr) (es : List (NestedKey × Addr × V)) : HO := .ext fun h =>
  es.length ≤ sizeLine ∧ (d == sysModules) = false ∧ (es.map (·.1)).Nodup ∧ ∃ (o : Obj) (arr : Array DictEntry) (ep : Nat) (xs : List (NestedKey × Addr × Value)),
    h.get? d = some o ∧ o.ExactDict ∧ o.data = .dict arr ep ∧ arr.toList = xs.map (entryOfKey (nestedKind P w)) ∧
    Paired (fun (p : NestedKey × Addr × V) (q : NestedKey × Addr × Value) => p.1 = q.1 ∧ p.2.1 = q.2.1 ∧ RelV p.2.2 q.2.2) es xs

def lim : Nat := 1000000
theorem lim_line {n : Nat} (h : n ≤ lim) : n ≤ sizeLine := Nat.le_trans h (by rw [sizeLine_eq]; decide)
theorem lim_lt {n : Nat} (h : n ≤ lim) : n < sizeLine := Nat.lt_of_le_of_lt h (by rw [sizeLine_eq]; decide)
/-- a text within bounds -/
def sokB (x : Str) : Bool := PyData.strOk x && decide (x.length ≤ lim)
def SOk (x : Str) : Prop := sokB x = true
theorem SOk.ok {x : Str} (h : SOk x) : PyData.strOk x = true := (Bool.and_eq_true_iff.mp h).1
theorem SOk.len {x : Str} (h : SOk x) : x.length ≤ lim := of_decide_eq_true (Bool.and_eq_true_iff.mp h).2
theorem SOk.mk {x : Str} (h : PyData.strOk x = true) (l : x.length ≤ lim) : SOk x := Bool.and_eq_true_iff.mpr ⟨h, decide_eq_true l⟩

mutual
inductive VR (g : Gx) (W : Wd) (H : Hp) : Val → V → Prop
  | non : VR g W H .non .non
  | bl (b : Bool) : VR g W H (.bl b) (.bl b)
  | int (i : Int) : VR g W H (.int i) (.int i)
  | str (x : Str) (h : SOk x) : VR g W H (.str x) (.str x)
  | tup {p : Addr} {cs : List V} {xs : List Val} (f : ¬ W.forb p) (r : H p = some (.tup cs)) (t : VRs g W H xs cs) : VR g W H (.tup xs) (.ref p)
  | lst {p : Addr} {cs : List V} {xs : List Val} (f : ¬ W.forb p) (r : H p = some (.lst cs)) (t : VRs g W H xs cs) : VR g W H (.lst xs) (.ref p)
  | scr {p : Addr} {cs : List V} {xs : List Val} (r : LstAt g.K W H p cs) (t : VRs g W H xs cs) : VR g W H (.scr xs) (.ref p)
  | dctK {p : Addr} {kvs : List (Val × Val)} {kcs : List (Key × V)} (f : ¬ W.forb p) (r : Rd H p (.dK kcs)) (t : VRk g W H kvs kcs) : VR g W H (.dct kvs) (.ref p)
  | dctN {p : Addr} {kvs : List (Val × Val)} {es : List (NestedKey × Addr × V)} (f : ¬ W.forb p) (r : Rd H p (rawD g.P g.w p es)) (t : VRn g W H kvs es) : VR g W H (.dct kvs) (.ref p)
  | ref {i : Nat} {p : Addr} {r : List Addr} (e : W.ce[i]? = some (p :: r)) : VR g W H (.ref i) (.ref p)
  | cls (n : String) : VR g W H (.cls n) (.ty n)
inductive VRs (g : Gx) (W : Wd) (H : Hp) : List Val → List V → Prop
  | nil : VRs g W H [] []
  | cons {x : Val} {c : V} {xs : List Val} {cs : List V} (h : VR g W H x c) (t : VRs g W H xs cs) : VRs g W H (x :: xs) (c :: cs)
inductive VRk (g : Gx) (W : Wd) (H : Hp) : List (Val × Val) → List (Key × V) → Prop
  | nil : VRk g W H [] []
  | cons {k : Val} {q : Key} {x : Val} {c : V} {kvs : List (Val × Val)} {kcs : List (Key × V)} (e : fk k = some q) (h : VR g W H x c) (t : VRk g W H kvs kcs) : VRk g W H ((k, x) :: kvs) ((q, c) :: kcs)
inductive VRn (g : Gx) (W : Wd) (H : Hp) : List (Val × Val) → List (NestedKey × Addr × V) → Prop
  | nil : VRn g W H [] []
  | cons {k : Val} {q : NestedKey} {b : Addr} {x : Val} {c : V} {kvs : List (Val × Val)} {es : List (NestedKey × Addr × V)} (e : nk k = some q) (hk : VR g W H k (.ref b)) (h : VR g W H x c) (t : VRn g W H kvs es) : VRn g W H ((k, x) :: kvs) ((q, b, c) :: es)
end

/-! ### from one state to a later one -/
structure Post (W : Wd) (H : Hp) (W' : Wd) (H' : Hp) : Prop where
  m0 : ∀ a, W.m0 a → W'.m0 a
  m1 : ∀ a, W'.m0 a → W.m0 a ∨ H a = none
  keep : ∀ a o, H a = some o → ¬ W.own a → H' a = some o
  sub : ∀ a, W'.own a → W.own a ∨ H a = none
  refs : ∀ (i : Nat) p r, W.ce[i]? = some (p :: r) → ∃ r', W'.ce[i]? = some (p :: r')
  tr : ∀ a u, H a = some u → ∃ u', H' a = some u'
theorem Post.refl {W : Wd} {H : Hp} : Post W H W H := ⟨fun _ h => h, fun _ h => .inl h, fun _ _ h _ => h, fun _ h => .inl h, fun _ _ r h => ⟨r, h⟩, fun _ u h => ⟨u, h⟩⟩
theorem Post.fresh {W W' : Wd} {H H' : Hp} (a : Post W H W' H') {p : Addr} (n : H' p = none) : H p = none := by
  cases q : H p with
  | none => rfl
  | some u =>
    obtain ⟨u', e⟩ := a.tr p u q
    rw [n] at e; cases e
theorem Post.trans {W W1 W2 : Wd} {H H1 H2 : Hp} (a : Post W H W1 H1) (b : Post W1 H1 W2 H2) : Post W H W2 H2 where
  m0 := fun c h => b.m0 c (a.m0 c h)
  m1 := fun c h => by
    rcases b.m1 c h with z | z
    · exact a.m1 c z
    · exact .inr (by
        cases q : H c with
        | none => rfl
        | some u =>
          obtain ⟨u', e⟩ := a.tr c u q
          rw [z] at e; cases e)
  keep := fun c o h n => b.keep c o (a.keep c o h n) fun z => by
    rcases a.sub c z with z | z
    · exact n z
    · rw [h] at z; cases z
  sub := fun c h => by
    rcases b.sub c h with z | z
    · exact a.sub c z
    · cases e : H c with
      | none => exact .inr rfl
      | some o =>
        by_cases n : W.own c
        · exact .inl n
        · rw [a.keep c o e n] at z; cases z
  refs := fun i p r h => by
    obtain ⟨r1, h1⟩ := a.refs i p r h
    exact b.refs i p r1 h1
  tr := fun c u h => by
    obtain ⟨u1, h1⟩ := a.tr c u h
    exact b.tr c u1 h1
theorem Post.same {W : Wd} {H H' : Hp} (h : Same H H') : Post W H W H' := ⟨fun _ h => h, fun _ h => .inl h, fun _ _ e _ => h _ _ e, fun _ h => .inl h, fun _ _ r h => ⟨r, h⟩, fun a u e => ⟨u, h _ _ e⟩⟩
theorem rdSome {H : Hp} {p : Addr} {u : HO} (h : Rd H p u) : ∃ o, H p = Option.some o := by
  rcases h with h | ⟨o, h⟩
  · exact ⟨_, h⟩
  · exact ⟨_, h⟩
theorem Post.rd {W W' : Wd} {H H' : Hp} {p : Addr} {u : HO} (a : Post W H W' H') (f : ¬ W.forb p) (r : Rd H p u) : Rd H' p u := by
  have n : ¬ W.own p := fun z => f (.inr z)
  rcases r with r | ⟨o, r⟩
  · exact .inl (a.keep _ _ r n)
  · exact .inr ⟨o, a.keep _ _ r n⟩
theorem Post.forb {W W' : Wd} {H H' : Hp} {p : Addr} {u : HO} (a : Post W H W' H') (f : ¬ W.forb p) (r : Rd H p u) : ¬ W'.forb p := by
  rintro (z | z)
  · rcases a.m1 p z with z | z
    · exact f (.inl z)
    · obtain ⟨o, e⟩ := rdSome r
      rw [e] at z; cases z
  · rcases a.sub p z with z | z
    · exact f (.inr z)
    · obtain ⟨o, e⟩ := rdSome r
      rw [e] at z; cases z
theorem Post.ex {W W' : Wd} {H H' : Hp} {p : Addr} {u : HO} (a : Post W H W' H') (f : ¬ W.forb p) (r : H p = some u) : H' p = some u := a.keep _ _ r fun z => f (.inr z)
theorem Post.fb {W W' : Wd} {H H' : Hp} {p : Addr} {u : HO} (a : Post W H W' H') (f : ¬ W.forb p) (r : H p = some u) : ¬ W'.forb p := a.forb f (.inl r)
theorem LstAt.mono {K : PySem.W.Frag} {W W' : Wd} {H H' : Hp} {p : Addr} {cs : List V} (a : Post W H W' H') (h : LstAt K W H p cs) : LstAt K W' H' p cs := by
  rcases h with ⟨f, r⟩ | h
  · exact .inl ⟨a.forb f r, a.rd f r⟩
  · exact .inr h
section
variable {g : Gx} {W W' : Wd} {H H' : Hp}
mutual
theorem VR.mono (a : Post W H W' H') : ∀ {x : Val} {c : V}, VR g W H x c → VR g W' H' x c
  | _, _, .non => .non
  | _, _, .bl b => .bl b
  | _, _, .int i => .int i
  | _, _, .str x h => .str x h
  | _, _, .tup f r t => .tup (a.fb f r) (a.ex f r) (VRs.mono a t)
  | _, _, .lst f r t => .lst (a.fb f r) (a.ex f r) (VRs.mono a t)
  | _, _, .scr r t => .scr (r.mono a) (VRs.mono a t)
  | _, _, .dctK f r t => .dctK (a.forb f r) (a.rd f r) (VRk.mono a t)
  | _, _, .dctN f r t => .dctN (a.forb f r) (a.rd f r) (VRn.mono a t)
  | _, _, .ref e => let ⟨_, e'⟩ := a.refs _ _ _ e; .ref e'
  | _, _, .cls n => .cls n
theorem VRs.mono (a : Post W H W' H') : ∀ {xs : List Val} {cs : List V}, VRs g W H xs cs → VRs g W' H' xs cs
  | _, _, .nil => .nil
  | _, _, .cons h t => .cons (VR.mono a h) (VRs.mono a t)
theorem VRk.mono (a : Post W H W' H') : ∀ {xs : List (Val × Val)} {cs : List (Key × V)}, VRk g W H xs cs → VRk g W' H' xs cs
  | _, _, .nil => .nil
  | _, _, .cons e h t => .cons e (VR.mono a h) (VRk.mono a t)
theorem VRn.mono (a : Post W H W' H') : ∀ {xs : List (Val × Val)} {cs : List (NestedKey × Addr × V)}, VRn g W H xs cs → VRn g W' H' xs cs
  | _, _, .nil => .nil
  | _, _, .cons e hk h t => .cons e (VR.mono a hk) (VR.mono a h) (VRn.mono a t)
end
/-- to another world over the same heap: less forbidden -/
structure Wle (W W' : Wd) : Prop where
  forb : ∀ a, W'.forb a → W.forb a
  refs : ∀ (i : Nat) p r, W.ce[i]? = some (p :: r) → ∃ r', W'.ce[i]? = some (p :: r')
theorem LstAt.wle {K : PySem.W.Frag} {W W' : Wd} {H : Hp} {p : Addr} {cs : List V} (a : Wle W W') (h : LstAt K W H p cs) : LstAt K W' H p cs := by
  rcases h with ⟨f, r⟩ | h
  · exact .inl ⟨fun z => f (a.forb _ z), r⟩
  · exact .inr h
mutual
theorem VR.wle (a : Wle W W') : ∀ {x : Val} {c : V}, VR g W H x c → VR g W' H x c
  | _, _, .non => .non
  | _, _, .bl b => .bl b
  | _, _, .int i => .int i
  | _, _, .str x h => .str x h
  | _, _, .tup f r t => .tup (fun z => f (a.forb _ z)) r (VRs.wle a t)
  | _, _, .lst f r t => .lst (fun z => f (a.forb _ z)) r (VRs.wle a t)
  | _, _, .scr r t => .scr (r.wle a) (VRs.wle a t)
  | _, _, .dctK f r t => .dctK (fun z => f (a.forb _ z)) r (VRk.wle a t)
  | _, _, .dctN f r t => .dctN (fun z => f (a.forb _ z)) r (VRn.wle a t)
  | _, _, .ref e => let ⟨_, e'⟩ := a.refs _ _ _ e; .ref e'
  | _, _, .cls n => .cls n
theorem VRs.wle (a : Wle W W') : ∀ {xs : List Val} {cs : List V}, VRs g W H xs cs → VRs g W' H xs cs
  | _, _, .nil => .nil
  | _, _, .cons h t => .cons (VR.wle a h) (VRs.wle a t)
theorem VRk.wle (a : Wle W W') : ∀ {xs : List (Val × Val)} {cs : List (Key × V)}, VRk g W H xs cs → VRk g W' H xs cs
  | _, _, .nil => .nil
  | _, _, .cons e h t => .cons e (VR.wle a h) (VRk.wle a t)
theorem VRn.wle (a : Wle W W') : ∀ {xs : List (Val × Val)} {cs : List (NestedKey × Addr × V)}, VRn g W H xs cs → VRn g W' H xs cs
  | _, _, .nil => .nil
  | _, _, .cons e hk h t => .cons e (VR.wle a hk) (VR.wle a h) (VRn.wle a t)
end
theorem VRs.length : ∀ {xs : List Val} {cs : List V}, VRs g W H xs cs → xs.length = cs.length
  | _, _, .nil => rfl
  | _, _, .cons _ t => congrArg (· + 1) (VRs.length t)
theorem VRs.get : ∀ {xs : List Val} {cs : List V} {i : Nat} {x : Val}, VRs g W H xs cs → xs[i]? = some x → ∃ c, cs[i]? = some c ∧ VR g W H x c
  | _, _, _, _, .nil, e => by simp at e
  | _, _, 0, _, .cons h _, e => by simp at e; subst e; exact ⟨_, rfl, h⟩
  | _, _, i + 1, x, .cons _ t, e => by
    obtain ⟨c, h1, h2⟩ := VRs.get (i := i) (x := x) t (by simpa using e)
    exact ⟨c, by simpa using h1, h2⟩
theorem VRs.get' : ∀ {xs : List Val} {cs : List V} {i : Nat} {c : V}, VRs g W H xs cs → cs[i]? = some c → ∃ x, xs[i]? = some x ∧ VR g W H x c
  | _, _, _, _, .nil, e => by simp at e
  | _, _, 0, _, .cons h _, e => by simp at e; subst e; exact ⟨_, rfl, h⟩
  | _, _, i + 1, x, .cons _ t, e => by
    obtain ⟨c, h1, h2⟩ := VRs.get' (i := i) t (by simpa using e)
    exact ⟨c, by simpa using h1, h2⟩
theorem VRs.append : ∀ {xs ys : List Val} {cs ds : List V}, VRs g W H xs cs → VRs g W H ys ds → VRs g W H (xs ++ ys) (cs ++ ds)
  | _, _, _, _, .nil, s => s
  | _, _, _, _, .cons h t, s => .cons h (VRs.append t s)
theorem VRs.take : ∀ {xs : List Val} {cs : List V} (n : Nat), VRs g W H xs cs → VRs g W H (xs.take n) (cs.take n)
  | _, _, 0, _ => .nil
  | _, _, _ + 1, .nil => .nil
  | _, _, n + 1, .cons h t => .cons h (VRs.take n t)
theorem VRs.drop : ∀ {xs : List Val} {cs : List V} (n : Nat), VRs g W H xs cs → VRs g W H (xs.drop n) (cs.drop n)
  | _, _, 0, h => h
  | _, _, _ + 1, .nil => .nil
  | _, _, n + 1, .cons _ t => VRs.drop n t
theorem VRs.reverse : ∀ {xs : List Val} {cs : List V}, VRs g W H xs cs → VRs g W H xs.reverse cs.reverse
  | _, _, .nil => .nil
  | _, _, .cons h t => by
    rw [List.reverse_cons, List.reverse_cons]
    exact (VRs.reverse t).append (.cons h .nil)
theorem VRs.set {x : Val} {c : V} (h : VR g W H x c) : ∀ {xs : List Val} {cs : List V} (i : Nat), VRs g W H xs cs → VRs g W H (xs.set i x) (cs.set i c)
  | _, _, _, .nil => .nil
  | _, _, 0, .cons _ t => .cons h t
  | _, _, i + 1, .cons q t => .cons q (VRs.set h i t)

/-- what is owned: with the addresses that it stands at -/
inductive OR (g : Gx) (W : Wd) (H : Hp) : OV → V → List Addr → Prop
  | v {x : Val} {c : V} (h : VR g W H x c) : OR g W H (.v x) c []
  | lst {p : Addr} {xs : List Val} {cs : List V} (r : H p = some (.lst cs)) (t : VRs g W H xs cs) : OR g W H (.lst xs) (.ref p) [p]
  | dctK {p : Addr} {kvs : List (Val × Val)} {kcs : List (Key × V)} (r : H p = some (.dK kcs)) (t : VRk g W H kvs kcs) : OR g W H (.dct kvs) (.ref p) [p]
  | dctN {p : Addr} {kvs : List (Val × Val)} {es : List (NestedKey × Addr × V)} (r : H p = some (rawD g.P g.w p es)) (t : VRn g W H kvs es) : OR g W H (.dct kvs) (.ref p) [p]
theorem OR.mono (a : Post W H W' H') {o : OV} {c : V} {fp : List Addr} (h : OR g W H o c fp) (k : ∀ p ∈ fp, ∀ u, H p = some u → H' p = some u) : OR g W' H' o c fp := by
  cases h with
  | v h => exact .v (h.mono a)
  | lst r t => exact .lst (k _ (by simp) _ r) (t.mono a)
  | dctK r t => exact .dctK (k _ (by simp) _ r) (t.mono a)
  | dctN r t => exact .dctN (k _ (by simp) _ r) (t.mono a)
theorem OR.wle (a : Wle W W') {o : OV} {c : V} {fp : List Addr} (h : OR g W H o c fp) : OR g W' H o c fp := by
  cases h with
  | v h => exact .v (h.wle a)
  | lst r t => exact .lst r (t.wle a)
  | dctK r t => exact .dctK r (t.wle a)
  | dctN r t => exact .dctN r (t.wle a)
theorem OR.tracked {o : OV} {c : V} {fp : List Addr} (h : OR g W H o c fp) : ∀ p ∈ fp, ∃ u, H p = some u := by
  cases h with
  | v h => simp
  | lst r t => simp [r]
  | dctK r t => simp [r]
  | dctN r t => simp [r]
end

/-! ### the state's relation -/
structure SR (g : Gx) (W : Wd) (s : Stt) (σ : L2.St) (H : Hp) : Prop where
  len : s.sl.length = σ.length
  leno : W.ow.length = s.sl.length
  lenc : W.ce.length = s.hp.length
  slot : ∀ (i : Nat) o, s.sl[i]? = some (some o) → ∃ c fp, σ[i]? = some (some c) ∧ W.ow[i]? = some fp ∧ OR g W H o c fp
  cell : ∀ (i : Nat) o, s.hp[i]? = some o → ∃ p r, W.ce[i]? = some (p :: r) ∧ OR g W H o (.ref p) (p :: r)
  djo : ∀ (i j : Nat) l m a, W.ow[i]? = some l → W.ow[j]? = some m → a ∈ l → a ∈ m → i = j
  djc : ∀ (i j : Nat) l m a, W.ce[i]? = some l → W.ce[j]? = some m → a ∈ l → a ∈ m → i = j
  djx : ∀ l m a, l ∈ W.ce → m ∈ W.ow → a ∈ l → a ∈ m → False
  trk : ∀ a, W.own a → (∃ u, H a = some u) ∧ ¬ W.m0 a
  trk0 : ∀ a, W.m0 a → ∃ u, H a = some u
section
variable {g : Gx} {W W' : Wd} {H H' : Hp} {s : Stt} {σ : L2.St}
/-- new objects alone -/
theorem SR.same (h : SR g W s σ H) (e : Same H H') : SR g W s σ H' where
  len := h.len
  leno := h.leno
  lenc := h.lenc
  slot := fun i o q => by
    obtain ⟨c, fp, h1, h2, h3⟩ := h.slot i o q
    exact ⟨c, fp, h1, h2, h3.mono (.same e) fun p _ u r => e _ _ r⟩
  cell := fun i o q => by
    obtain ⟨p, r, h2, h3⟩ := h.cell i o q
    exact ⟨p, r, h2, h3.mono (.same e) fun p _ u r => e _ _ r⟩
  djo := h.djo
  djc := h.djc
  djx := h.djx
  trk := fun a z => by
    obtain ⟨⟨u, e1⟩, e2⟩ := h.trk a z
    exact ⟨⟨u, e _ _ e1⟩, e2⟩
  trk0 := fun a z => by
    obtain ⟨u, e1⟩ := h.trk0 a z
    exact ⟨u, e _ _ e1⟩
theorem SR.fresh (h : SR g W s σ H) {p : Addr} (n : H p = none) : ¬ W.forb p := by
  rintro (z | z)
  · obtain ⟨u, e⟩ := h.trk0 p z
    rw [n] at e; cases e
  · obtain ⟨⟨u, e⟩, _⟩ := h.trk p z
    rw [n] at e; cases e
theorem same_upd {H : Hp} {p : Addr} {o : HO} (h : H p = none) : Same H (upd H p o) := fun b x e => by
  rw [upd_ne (ne_of_none e h)]
  exact e
theorem SR.newTup (h : SR g W s σ H) {p : Addr} (n : H p = none) {xs : List Val} {cs : List V} (t : VRs g W H xs cs) : VR g W (upd H p (.tup cs)) (.tup xs) (.ref p) :=
  .tup (h.fresh n) upd_same (t.mono (.same (same_upd n)))
theorem SR.newLst (h : SR g W s σ H) {p : Addr} (n : H p = none) {xs : List Val} {cs : List V} (t : VRs g W H xs cs) : VR g W (upd H p (.lst cs)) (.lst xs) (.ref p) :=
  .lst (h.fresh n) upd_same (t.mono (.same (same_upd n)))
end

/-! ### the monad -/
abbrev M (α : Type) := Stt → Res α
def M.pure {α : Type} (a : α) : M α := fun s => .ok a s
def M.bind {α β : Type} (x : M α) (f : α → M β) : M β := fun s => match x s with
  | .ok a s' => f a s'
  | .exn c fs s' => .exn c fs s'
  | .bad => .bad
instance : Monad M where
  pure := M.pure
  bind := M.bind
theorem M.bind_def {α β : Type} (x : M α) (f : α → M β) (s : Stt) : (x >>= f) s = M.bind x f s := rfl
theorem M.bind_ok {α β : Type} {x : M α} {f : α → M β} {s : Stt} {b : β} {s2 : Stt} (h : (x >>= f) s = .ok b s2) : ∃ a s1, x s = .ok a s1 ∧ f a s1 = .ok b s2 := by
  rw [M.bind_def] at h
  unfold M.bind at h
  cases e : x s with
  | ok a s1 => rw [e] at h; exact ⟨a, s1, rfl, h⟩
  | exn c fs s1 => rw [e] at h; cases h
  | bad => rw [e] at h; cases h
/-- an option: none is bad -/
def M.opt {α : Type} (o : Option α) : M α := fun s => match o with
  | some a => .ok a s
  | none => .bad

/-- an operand: a value, or a slot's own container -/
inductive Opd where
  | val (v : Val) | sl (i : Nat)
inductive DR (g : Gx) (W : Wd) (σ : L2.St) (H : Hp) : Opd → V → Prop
  | val {v : Val} {c : V} (h : VR g W H v c) : DR g W σ H (.val v) c
  | sl {i : Nat} {c : V} (h : σ[i]? = some (some c)) : DR g W σ H (.sl i) c
theorem DR.mono {g : Gx} {W W' : Wd} {σ : L2.St} {H H' : Hp} {o : Opd} {c : V} (a : Post W H W' H') (h : DR g W σ H o c) : DR g W' σ H' o c := by
  cases h with
  | val h => exact .val (h.mono a)
  | sl h => exact .sl h
inductive DRs (g : Gx) (W : Wd) (σ : L2.St) (H : Hp) : List Opd → List V → Prop
  | nil : DRs g W σ H [] []
  | cons {o : Opd} {c : V} {os : List Opd} {cs : List V} (h : DR g W σ H o c) (t : DRs g W σ H os cs) : DRs g W σ H (o :: os) (c :: cs)
theorem DRs.mono {g : Gx} {W W' : Wd} {σ : L2.St} {H H' : Hp} {o : List Opd} {c : List V} (a : Post W H W' H') (h : DRs g W σ H o c) : DRs g W' σ H' o c := by
  induction h with
  | nil => exact .nil
  | cons h _ ih => exact .cons (h.mono a) ih

/-- a container's content, as it is now -/
def OV.snap : OV → Option Val
  | .v x => some x
  | .lst xs => some (.lst xs)
  | .dct kvs => some (.dct kvs)
def Stt.rd (s : Stt) : Opd → Option Val
  | .val (.ref i) => match s.hp[i]? with
    | some o => o.snap
    | none => none
  | .val v => some v
  | .sl i => match s.sl[i]? with
    | some (some o) => o.snap
    | _ => none
/-- a value that may be an owned container: for what is read at once -/
inductive BR (g : Gx) (W : Wd) (H : Hp) : Val → V → Prop
  | val {v : Val} {c : V} (h : VR g W H v c) : BR g W H v c
  | lst {p : Addr} {xs : List Val} {cs : List V} (r : H p = some (.lst cs)) (t : VRs g W H xs cs) : BR g W H (.lst xs) (.ref p)
  | dctK {p : Addr} {kvs : List (Val × Val)} {kcs : List (Key × V)} (r : H p = some (.dK kcs)) (t : VRk g W H kvs kcs) : BR g W H (.dct kvs) (.ref p)
  | dctN {p : Addr} {kvs : List (Val × Val)} {es : List (NestedKey × Addr × V)} (r : H p = some (rawD g.P g.w p es)) (t : VRn g W H kvs es) : BR g W H (.dct kvs) (.ref p)
theorem OR.br {g : Gx} {W : Wd} {H : Hp} {o : OV} {c : V} {fp : List Addr} {v : Val} (h : OR g W H o c fp) (e : o.snap = some v) : BR g W H v c := by
  cases h with
  | v h => cases e; exact .val h
  | lst r t => cases e; exact .lst r t
  | dctK r t => cases e; exact .dctK r t
  | dctN r t => cases e; exact .dctN r t
theorem SR.read {g : Gx} {W : Wd} {H : Hp} {s : Stt} {σ : L2.St} (h : SR g W s σ H) {o : Opd} {c : V} {v : Val} (d : DR g W σ H o c) (e : s.rd o = some v) : BR g W H v c := by
  cases d with
  | @val x _ hv =>
    cases x with
    | ref i =>
      cases q : s.hp[i]? with
      | none => simp [Stt.rd, q] at e
      | some o =>
        have e : o.snap = some v := by simpa [Stt.rd, q] using e
        obtain ⟨p, r, h2, h3⟩ := h.cell i o q
        cases hv with
        | ref e' =>
          rw [h2] at e'
          cases e'
          exact h3.br e
    | _ => cases e; exact .val hv
  | @sl i _ hs =>
    cases q : s.sl[i]? with
    | none => simp [Stt.rd, q] at e
    | some o =>
      cases o with
      | none => simp [Stt.rd, q] at e
      | some o =>
        have e : o.snap = some v := by simpa [Stt.rd, q] using e
        obtain ⟨c', fp, h1, h2, h3⟩ := h.slot i o q
        rw [hs] at h1
        cases h1
        exact h3.br e
section
variable {g : Gx} {W : Wd} {H : Hp} {c : V}
theorem BR.lstI {xs : List Val} (h : BR g W H (.lst xs) c) : ∃ p cs, c = .ref p ∧ H p = some (.lst cs) ∧ VRs g W H xs cs := by
  cases h with
  | val h => cases h with | lst f r t => exact ⟨_, _, rfl, r, t⟩
  | lst r t => exact ⟨_, _, rfl, r, t⟩
theorem BR.tupI {xs : List Val} (h : BR g W H (.tup xs) c) : ∃ p cs, c = .ref p ∧ H p = some (.tup cs) ∧ ¬ W.forb p ∧ VRs g W H xs cs := by
  cases h with
  | val h => cases h with | tup f r t => exact ⟨_, _, rfl, r, f, t⟩
theorem BR.scrI {xs : List Val} (h : BR g W H (.scr xs) c) : ∃ p cs, c = .ref p ∧ SqL g.K H p cs ∧ VRs g W H xs cs := by
  cases h with
  | val h => cases h with | scr r t => exact ⟨_, _, rfl, r.sq, t⟩
theorem BR.intI {i : Int} (h : BR g W H (.int i) c) : c = .int i := by
  cases h with
  | val h => cases h; rfl
theorem BR.blI {i : Bool} (h : BR g W H (.bl i) c) : c = .bl i := by
  cases h with
  | val h => cases h; rfl
theorem BR.strI {i : Str} (h : BR g W H (.str i) c) : c = .str i ∧ SOk i := by
  cases h with
  | val h => cases h with | str _ h => exact ⟨rfl, h⟩
theorem BR.nonI (h : BR g W H .non c) : c = .non := by
  cases h with
  | val h => cases h; rfl
theorem BR.dctI {kvs : List (Val × Val)} (h : BR g W H (.dct kvs) c) : ∃ p, c = .ref p ∧ ((∃ kcs, Rd H p (.dK kcs) ∧ VRk g W H kvs kcs) ∨ ∃ es, Rd H p (rawD g.P g.w p es) ∧ VRn g W H kvs es) := by
  cases h with
  | val h =>
    cases h with
    | dctK f r t => exact ⟨_, rfl, .inl ⟨_, r, t⟩⟩
    | dctN f r t => exact ⟨_, rfl, .inr ⟨_, r, t⟩⟩
  | dctK r t => exact ⟨_, rfl, .inl ⟨_, .inl r, t⟩⟩
  | dctN r t => exact ⟨_, rfl, .inr ⟨_, .inl r, t⟩⟩
end
inductive BRs (g : Gx) (W : Wd) (H : Hp) : List Val → List V → Prop
  | nil : BRs g W H [] []
  | cons {o : Val} {c : V} {os : List Val} {cs : List V} (h : BR g W H o c) (t : BRs g W H os cs) : BRs g W H (o :: os) (c :: cs)
def Stt.rds (s : Stt) : List Opd → Option (List Val)
  | [] => some []
  | o :: os => match s.rd o, s.rds os with
    | some v, some vs => some (v :: vs)
    | _, _ => none
theorem SR.reads {g : Gx} {W : Wd} {H : Hp} {s : Stt} {σ : L2.St} (h : SR g W s σ H) {os : List Opd} {cs : List V} (d : DRs g W σ H os cs) : ∀ {vs : List Val}, s.rds os = some vs → BRs g W H vs cs := by
  induction d with
  | nil => intro vs e; cases e; exact .nil
  | cons d1 _ ih =>
    intro vs e
    unfold Stt.rds at e
    split at e
    · rename_i v vs' e1 e2
      cases e
      exact .cons (h.read d1 e1) (ih e2)
    · cases e

/-! ### the judgements -/
abbrev EM := M Opd
def tE (g : Gx) (f : EM) : TE := fun σ H Q => ∃ W s, SR g W s σ H ∧ ∃ o s', f s = .ok o s' ∧ ∀ W' H' c, Post W H W' H' → SR g W' s' σ H' → DR g W' σ H' o c → Q c H'
structure FE (X : Cx) (e : Expr) (f : EM) : Prop where
  pe : PE X e (tE (.of X) f)
def tT (g : Gx) (f : M Bool) : TT := fun σ H Q => ∃ W s, SR g W s σ H ∧ ∃ b s', f s = .ok b s' ∧ ∀ W' H', Post W H W' H' → SR g W' s' σ H' → Q b H'
structure FT (X : Cx) (e : Expr) (f : M Bool) : Prop where
  pt : PT X e (tT (.of X) f)
def tAs (g : Gx) (f : M (List Opd)) : TA := fun σ H Q => ∃ W s, SR g W s σ H ∧ ∃ os s', f s = .ok os s' ∧ ∀ W' H' cs, Post W H W' H' → SR g W' s' σ H' → DRs g W' σ H' os cs → Q cs H'
structure FA (X : Cx) (es : List Expr) (f : M (List Opd)) : Prop where
  pa : PA X es (tAs (.of X) f)
inductive Ctl where
  | nx | brk | cont | ret (o : Opd) | rtn (o : OV)
abbrev SM := M Ctl
/-- fp forbidden besides -/
def Wd.plus (W : Wd) (fp : List Addr) : Wd := { W with m0 := fun a => W.m0 a ∨ a ∈ fp }
/-- a new container c at fp, apart from all else -/
def Apart (g : Gx) (H0 : Hp) (W : Wd) (s : Stt) (σ : L2.St) (H : Hp) (o : OV) (c : V) (fp : List Addr) : Prop :=
  SR g (W.plus fp) s σ H ∧ OR g (W.plus fp) H o c fp ∧ ∀ a ∈ fp, ¬ W.forb a ∧ H0 a = none
def CtlR (g : Gx) (H0 : Hp) (W : Wd) (s : Stt) (σ : L2.St) (H : Hp) (D : Ends) : Ctl → Prop
  | .nx => SR g W s σ H → D.nx σ H
  | .brk => SR g W s σ H → D.bk σ H
  | .cont => SR g W s σ H → D.ct σ H
  | .ret o => SR g W s σ H → ∀ c, DR g W σ H o c → D.rt c H
  | .rtn o => ∀ c fp, Apart g H0 W s σ H o c fp → D.rt c H
def tS (g : Gx) (f : SM) : TS := fun D σ H => ∃ W s, SR g W s σ H ∧ ∃ k s', f s = .ok k s' ∧ ∀ W' σ' H', Post W H W' H' → CtlR g H W' s' σ' H' D k
theorem Apart.mono {g : Gx} {H0 H1 : Hp} {W : Wd} {s : Stt} {σ : L2.St} {H : Hp} {o : OV} {c : V} {fp : List Addr} (h : Apart g H1 W s σ H o c fp) (n : ∀ a, H1 a = none → H0 a = none) : Apart g H0 W s σ H o c fp :=
  ⟨h.1, h.2.1, fun a ha => ⟨(h.2.2 a ha).1, n a (h.2.2 a ha).2⟩⟩
theorem CtlR.mono {g : Gx} {H0 H1 : Hp} {W : Wd} {s : Stt} {σ : L2.St} {H : Hp} {D : Ends} {k : Ctl} (h : CtlR g H0 W s σ H D k) (n : ∀ a, H1 a = none → H0 a = none) : CtlR g H1 W s σ H D k := by
  cases k with
  | rtn o => exact fun c fp a => h c fp (a.mono n)
  | _ => exact h
structure FS (X : Cx) (st : Stmt) (f : SM) : Prop where
  ps : PS X st (tS (.of X) f)
structure FSs (X : Cx) (st : List Stmt) (f : SM) : Prop where
  ps : PSs X st (tS (.of X) f)

section
variable {X : Cx} {e : Expr} {es : List Expr} {st : Stmt} {sts : List Stmt}
theorem _root_.L2.PE.imp {t t' : TE} (h : PE X e t) (i : ∀ σ H Q, t' σ H Q → t σ H Q) : PE X e t' := ⟨fun pins s σ H Q I q => h.run pins s σ H Q I (i σ H Q q)⟩
theorem _root_.L2.PT.imp {t t' : TT} (h : PT X e t) (i : ∀ σ H Q, t' σ H Q → t σ H Q) : PT X e t' := ⟨fun pins s σ H Q I q => h.run pins s σ H Q I (i σ H Q q)⟩
theorem _root_.L2.PA.imp {t t' : TA} (h : PA X es t) (i : ∀ σ H Q, t' σ H Q → t σ H Q) : PA X es t' := ⟨fun pos pins s σ H Q I q => h.run pos pins s σ H Q I (i σ H Q q)⟩
theorem _root_.L2.PS.imp {t t' : TS} (h : PS X st t) (i : ∀ D σ H, t' D σ H → t D σ H) : PS X st t' := ⟨fun pins s σ H D I q => h.run pins s σ H D I (i D σ H q)⟩
theorem _root_.L2.PSs.imp {t t' : TS} (h : PSs X sts t) (i : ∀ D σ H, t' D σ H → t D σ H) : PSs X sts t' := ⟨fun pins s σ H D I q => h.run pins s σ H D I (i D σ H q)⟩
end
end G

namespace G
open PySem PySem.Spec PyProof.Rows L2

/-! ### reading operands -/
def rdM (a : Opd) : M Val := fun s => match s.rd a with
  | some x => .ok x s
  | none => .bad
theorem rdM_ok {a : Opd} {s s' : Stt} {x : Val} (h : rdM a s = .ok x s') : s' = s ∧ s.rd a = some x := by
  unfold rdM at h
  cases e : s.rd a with
  | none => rw [e] at h; cases h
  | some y => rw [e] at h; cases h; exact ⟨rfl, rfl⟩
def rdsM (a : List Opd) : M (List Val) := fun s => match s.rds a with
  | some x => .ok x s
  | none => .bad
theorem rdsM_ok {a : List Opd} {s s' : Stt} {x : List Val} (h : rdsM a s = .ok x s') : s' = s ∧ s.rds a = some x := by
  unfold rdsM at h
  cases e : s.rds a with
  | none => rw [e] at h; cases h
  | some y => rw [e] at h; cases h; exact ⟨rfl, rfl⟩
theorem opt_ok {α : Type} {o : Option α} {s s' : Stt} {x : α} (h : M.opt o s = .ok x s') : s' = s ∧ o = some x := by
  unfold M.opt at h
  cases o with
  | none => cases h
  | some y => cases h; exact ⟨rfl, rfl⟩
theorem pure_ok {α : Type} {a : α} {s s' : Stt} {x : α} (h : (pure a : M α) s = .ok x s') : s' = s ∧ a = x := by
  cases h; exact ⟨rfl, rfl⟩

/-- what a context gives -/
structure Cok (X : Cx) : Prop where
  calm : X.calm = true
  un : X.A.units + 200 < cLine
  nd : X.N.Nodup
theorem Cok.u64 {X : Cx} (c : Cok X) : X.A.units + 64 < cLine := by have := c.un; omega
theorem Cok.u1 {X : Cx} (c : Cok X) : X.A.units + 1 < cLine := by have := c.un; omega
theorem Cok.u0 {X : Cx} (c : Cok X) : X.A.units < cLine := by have := c.un; omega
theorem Cok.of {X : Cx} {k : Nat} (h : X.calm = true) (r : Room k X.A) (n : X.N.Nodup) : Cok X := ⟨h, by have := r.un; omega, n⟩

section
variable {X : Cx} {e a b : Expr} {f fa fb : EM} {pos : Pos}

/-! ### names, constants -/
def eVar (i : Nat) : EM := fun s => match s.sl[i]? with
  | some (some (.v x)) => .ok (.val x) s
  | some (some _) => .ok (.sl i) s
  | _ => .bad
theorem fe_var {i : Nat} (h : PE X e (tVar i)) : FE X e (eVar i) := by
  refine ⟨h.imp fun σ H Q ⟨W, s, hs, o, s', e1, k⟩ => ?_⟩
  unfold eVar at e1
  cases q : s.sl[i]? with
  | none => rw [q] at e1; cases e1
  | some o1 =>
    cases o1 with
    | none => rw [q] at e1; cases e1
    | some o1 =>
      obtain ⟨c, fp, h1, h2, h3⟩ := hs.slot i o1 q
      refine ⟨c, h1, ?_⟩
      rw [q] at e1
      cases o1 with
      | v x =>
        cases e1
        cases h3 with
        | v h3 => exact k W H c .refl hs (.val h3)
      | lst xs => cases e1; exact k W H c .refl hs (.sl h1)
      | dct xs => cases e1; exact k W H c .refl hs (.sl h1)
def eC (v : Val) : EM := fun s => .ok (.val v) s
theorem fe_c {v : Val} {c : V} (h : PE X e (tC c)) (r : ∀ g W H, VR g W H v c) : FE X e (eC v) := by
  refine ⟨h.imp fun σ H Q ⟨W, s, hs, o, s', e1, k⟩ => ?_⟩
  cases e1
  exact k W H c .refl hs (.val (r _ _ _))
theorem fe_int {i : Int} {j : Nat} : FE X (.Constant (.int i) j pos) (eC (.int i)) := fe_c pe_int fun _ _ _ => .int i
theorem fe_bl {i : Bool} {j : Nat} : FE X (.Constant (.bool i) j pos) (eC (.bl i)) := fe_c pe_bl fun _ _ _ => .bl i
theorem fe_non {j : Nat} : FE X (.Constant .none j pos) (eC .non) := fe_c pe_non fun _ _ _ => .non
theorem fe_str {i : Str} {j : Nat} (h : sokB i = true := by decide +kernel) : FE X (.Constant (.str i) j pos) (eC (.str i)) := fe_c pe_str fun _ _ _ => .str i h
/-- a module's constant -/
theorem fe_gint {x : Str} {i : Int} {t : Tok} (hg : Gl X x) (hm : X.mg x = some (.int i t)) (hd : (x == ("__debug__" : Str)) = false := by decide) : FE X (.Name x pos) (eC (.int i)) := fe_c (pe_glob (v := .int i) hg hm ⟨t, rfl⟩ hd) fun _ _ _ => .int i
theorem fe_gstr {x : Str} {i : Str} {t : Tok} (hg : Gl X x) (hm : X.mg x = some (.str i t)) (hd : (x == ("__debug__" : Str)) = false := by decide) (h : sokB i = true := by decide +kernel) : FE X (.Name x pos) (eC (.str i)) := fe_c (pe_glob (v := .str i) hg hm ⟨t, rfl⟩ hd) fun _ _ _ => .str i h

/-! ### operators -/
def op1 (o : Val → Option Val) (f : EM) : EM := do
  let a ← f
  let x ← rdM a
  M.opt ((o x).map .val)
def op2 (o : Val → Val → Option Val) (f g : EM) : EM := do
  let a ← f
  let b ← g
  let x ← rdM a
  let y ← rdM b
  M.opt ((o x y).map .val)
/-- a rule's reading, by values -/
def Imp1 (g : Gx) (o : Val → Option Val) (r : V → Hp → VK → Prop) : Prop := ∀ (W : Wd) (s : Stt) (σ : L2.St) (H : Hp) x z cx (Q : VK), SR g W s σ H → BR g W H x cx → o x = some z →
  (∀ H' c, Same H H' → VR g W H' z c → Q c H') → r cx H Q
def Imp2 (g : Gx) (o : Val → Val → Option Val) (r : R2) : Prop := ∀ (W : Wd) (s : Stt) (σ : L2.St) (H : Hp) x y z cx cy (Q : VK), SR g W s σ H → BR g W H x cx → BR g W H y cy → o x y = some z →
  (∀ H' c, Same H H' → VR g W H' z c → Q c H') → r cx cy H Q
theorem map_some {α β : Type} {f : α → β} {o : Option α} {b : β} (h : o.map f = some b) : ∃ a, o = some a ∧ f a = b := Option.map_eq_some_iff.mp h
theorem tE_op2 {g : Gx} {o : Val → Val → Option Val} {r : R2} {ta tb : TE} (hr : Imp2 g o r) {σ : L2.St} {H : Hp} {Q : VK}
    (h : tE g (op2 o fa fb) σ H Q) : tOp r (tE g fa) (tE g fb) σ H Q := by
  obtain ⟨W, s, hs, o1, s', e1, k⟩ := h
  obtain ⟨a, s1, ea, e2⟩ := M.bind_ok e1
  obtain ⟨b, s2, eb, e3⟩ := M.bind_ok e2
  obtain ⟨x, s3, ex0, e4⟩ := M.bind_ok e3
  obtain ⟨q1, ex⟩ := rdM_ok ex0
  obtain ⟨y, s4, ey0, e5⟩ := M.bind_ok e4
  obtain ⟨q2, ey⟩ := rdM_ok ey0
  obtain ⟨q3, ez0⟩ := opt_ok e5
  obtain ⟨z, ez, q4⟩ := map_some ez0
  subst q1 q2 q3 q4
  refine ⟨W, s, hs, a, s1, ea, fun W1 H1 cx p1 hs1 d1 => ⟨W1, s1, hs1, b, _, eb, fun W2 H2 cy p2 hs2 d2 => ?_⟩⟩
  exact hr W2 _ σ H2 x y z cx cy Q hs2 (hs2.read (d1.mono p2) ex) (hs2.read d2 ey) ez fun H' c sm v => k W2 H' c ((p1.trans p2).trans (.same sm)) (hs2.same sm) (.val v)
theorem tE_op1 {g : Gx} {o : Val → Option Val} {r : V → Hp → VK → Prop} (hr : Imp1 g o r) {σ : L2.St} {H : Hp} {Q : VK}
    (h : tE g (op1 o fa) σ H Q) : tUn r (tE g fa) σ H Q := by
  obtain ⟨W, s, hs, o1, s', e1, k⟩ := h
  obtain ⟨a, s1, ea, e2⟩ := M.bind_ok e1
  obtain ⟨x, s3, ex0, e3⟩ := M.bind_ok e2
  obtain ⟨q1, ex⟩ := rdM_ok ex0
  obtain ⟨q2, ez0⟩ := opt_ok e3
  obtain ⟨z, ez, q3⟩ := map_some ez0
  subst q1 q2 q3
  refine ⟨W, s, hs, a, _, ea, fun W1 H1 cx p1 hs1 d1 => ?_⟩
  exact hr W1 _ σ H1 x z cx Q hs1 (hs1.read d1 ex) ez fun H' c sm v => k W1 H' c (p1.trans (.same sm)) (hs1.same sm) (.val v)
theorem fe_op2 {op : Operator} {r : R2} {o : Val → Val → Option Val} (ho : OpR X (binaryOp op) r) (hr : Imp2 (.of X) o r) (ha : FE X a fa) (hb : FE X b fb) : FE X (.BinOp a op b pos) (op2 o fa fb) :=
  ⟨(pe_op ho ha.pe hb.pe).imp fun _ _ _ h => tE_op2 (ta := tE (.of X) fa) (tb := tE (.of X) fb) hr h⟩
theorem fe_op1 {op : UnaryOp} {r : V → Hp → VK → Prop} {o : Val → Option Val} (ho : UnR X (unaryOp op) r) (hr : Imp1 (.of X) o r) (ha : FE X a fa) : FE X (.UnaryOp op a pos) (op1 o fa) :=
  ⟨(pe_un ho ha.pe).imp fun _ _ _ h => tE_op1 hr h⟩
theorem fe_cmp {op : CmpOp} {r : R2} {o : Val → Val → Option Val} (ho : OpR X (compareOp op) r) (hr : Imp2 (.of X) o r) (ha : FE X a fa) (hb : FE X b fb) (hm : behindInMarks op b = false) : FE X (.Compare a [op] [b] pos) (op2 o fa fb) :=
  ⟨(pe_cmpR ho ha.pe hb.pe hm).imp fun _ _ _ h => tE_op2 (ta := tE (.of X) fa) (tb := tE (.of X) fb) hr h⟩
/-- an expression's bool, as a test -/
def blM (a : Opd) : M Bool := match a with
  | .val (.bl b) => pure b
  | _ => fun _ => .bad
theorem blM_ok {a : Opd} {s s' : Stt} {x : Bool} (h : blM a s = .ok x s') : s' = s ∧ a = .val (.bl x) := by
  unfold blM at h
  split at h
  · cases h; exact ⟨rfl, rfl⟩
  · cases h
def tst (f : EM) : M Bool := f >>= blM
theorem tT_tst {g : Gx} {t : TE} (i : ∀ σ H Q, tE g f σ H Q → t σ H Q) {σ : L2.St} {H : Hp} {Q : Bool → Hp → Prop} (h : tT g (tst f) σ H Q) : t σ H fun x H1 => ∃ c, x = .bl c ∧ Q c H1 := by
  obtain ⟨W, s, hs, b, s', e1, k⟩ := h
  obtain ⟨a, s1, ea, e2⟩ := M.bind_ok e1
  obtain ⟨q1, q2⟩ := blM_ok e2
  subst q1 q2
  refine i _ _ _ ⟨W, s, hs, _, _, ea, fun W' H' c p hs' d => ?_⟩
  cases d with
  | val v => cases v; exact ⟨b, rfl, k W' H' p hs'⟩
theorem ft_val (h : FE X e f) (he : ∀ whole, isTrue e X.env whole = (do let v ← whole; standAt e.pos; holding [v] (truthy v)) := by intro _; rfl) : FT X e (tst f) :=
  ⟨(pt_val h.pe he).imp fun _ _ _ q => tT_tst (fun _ _ _ z => z) q⟩
theorem ft_cmp {op : CmpOp} {r : R2} {o : Val → Val → Option Val} (ho : OpR X (compareOp op) r) (hr : Imp2 (.of X) o r) (ha : FE X a fa) (hb : FE X b fb) (hm : behindInMarks op b = false) : FT X (.Compare a [op] [b] pos) (tst (op2 o fa fb)) :=
  ⟨(pt_cmpR ho ha.pe hb.pe hm).imp fun _ _ _ q => tT_tst (fun _ _ _ z => tE_op2 (ta := tE (.of X) fa) (tb := tE (.of X) fb) hr z) q⟩

/-! ### and, or, not -/
def eAnd (f g : EM) : EM := do
  let a ← f
  let c ← blM a
  if c = true then g else pure (.val (.bl false))
def eOr (f g : EM) : EM := do
  let a ← f
  let c ← blM a
  if c = true then pure (.val (.bl true)) else g
def eNot (f : EM) : EM := do
  let a ← f
  let c ← blM a
  pure (.val (.bl (!c)))
def eIf (c : M Bool) (f g : EM) : EM := do
  let b ← c
  if b = true then f else g
def tAndM (f g : M Bool) : M Bool := do
  let c ← f
  if c = true then g else pure false
def tOrM (f g : M Bool) : M Bool := do
  let c ← f
  if c = true then pure true else g
def tNotM (f : M Bool) : M Bool := do
  let c ← f
  pure (!c)
variable {rest : List Expr} {ta tb tc : M Bool} {c : Expr}
theorem fe_one {op : BoolOp} (h : FE X a f) : FE X (.BoolOp op [a] pos) f := ⟨pe_one h.pe⟩
theorem fe_and (ha : FE X a fa) (hb : FE X (.BoolOp .And (b :: rest) pos) fb) : FE X (.BoolOp .And (a :: b :: rest) pos) (eAnd fa fb) := by
  refine ⟨(pe_and ha.pe hb.pe).imp fun σ H Q ⟨W, s, hs, o, s', e1, k⟩ => ?_⟩
  obtain ⟨a, s1, ea, e2⟩ := M.bind_ok e1
  obtain ⟨c, s2, ec, e3⟩ := M.bind_ok e2
  obtain ⟨q1, q2⟩ := blM_ok ec
  subst q1 q2
  refine ⟨W, s, hs, _, _, ea, fun W1 H1 cx p1 hs1 d1 => ?_⟩
  cases d1 with
  | val d1 =>
    cases d1
    refine ⟨c, rfl, ?_⟩
    cases c with
    | true => exact iteT ⟨W1, _, hs1, o, s', e3, fun W' H' c' p' h' d' => k W' H' c' (p1.trans p') h' d'⟩
    | false =>
      cases e3
      exact iteF (k W1 H1 _ p1 hs1 (.val (.bl false)))
theorem fe_or (ha : FE X a fa) (hb : FE X (.BoolOp .Or (b :: rest) pos) fb) : FE X (.BoolOp .Or (a :: b :: rest) pos) (eOr fa fb) := by
  refine ⟨(pe_or ha.pe hb.pe).imp fun σ H Q ⟨W, s, hs, o, s', e1, k⟩ => ?_⟩
  obtain ⟨a, s1, ea, e2⟩ := M.bind_ok e1
  obtain ⟨c, s2, ec, e3⟩ := M.bind_ok e2
  obtain ⟨q1, q2⟩ := blM_ok ec
  subst q1 q2
  refine ⟨W, s, hs, _, _, ea, fun W1 H1 cx p1 hs1 d1 => ?_⟩
  cases d1 with
  | val d1 =>
    cases d1
    refine ⟨c, rfl, ?_⟩
    cases c with
    | false => exact iteF ⟨W1, _, hs1, o, s', e3, fun W' H' c' p' h' d' => k W' H' c' (p1.trans p') h' d'⟩
    | true =>
      cases e3
      exact iteT (k W1 H1 _ p1 hs1 (.val (.bl true)))
theorem fe_not (ha : FE X a fa) : FE X (.UnaryOp .Not a pos) (eNot fa) := by
  refine ⟨(pe_not ha.pe).imp fun σ H Q ⟨W, s, hs, o, s', e1, k⟩ => ?_⟩
  obtain ⟨a, s1, ea, e2⟩ := M.bind_ok e1
  obtain ⟨c, s2, ec, e3⟩ := M.bind_ok e2
  obtain ⟨q1, q2⟩ := blM_ok ec
  subst q1 q2
  cases e3
  refine ⟨W, s, hs, _, _, ea, fun W1 H1 cx p1 hs1 d1 => ?_⟩
  cases d1 with
  | val d1 =>
    cases d1
    exact ⟨c, rfl, k W1 H1 _ p1 hs1 (.val (.bl _))⟩
theorem fe_if (hc : FT X c tc) (ha : FE X a fa) (hb : FE X b fb) : FE X (.IfExp c a b pos) (eIf tc fa fb) := by
  refine ⟨(pe_ifExp hc.pt ha.pe hb.pe).imp fun σ H Q ⟨W, s, hs, o, s', e1, k⟩ => ?_⟩
  obtain ⟨c, s1, ec, e1⟩ := M.bind_ok e1
  refine ⟨W, s, hs, c, s1, ec, fun W1 H1 p1 hs1 => ?_⟩
  cases c with
  | true => exact iteT ⟨W1, s1, hs1, o, s', e1, fun W' H' c' p' h' d' => k W' H' c' (p1.trans p') h' d'⟩
  | false => exact iteF ⟨W1, s1, hs1, o, s', e1, fun W' H' c' p' h' d' => k W' H' c' (p1.trans p') h' d'⟩
/-- .. as tests -/
structure FW (X : Cx) (e : Expr) (f : M Bool) : Prop where
  pw : PW X e (tT (.of X) f)
theorem _root_.L2.PW.imp {t t' : TT} (h : PW X e t) (i : ∀ σ H Q, t' σ H Q → t σ H Q) : PW X e t' := ⟨fun wh pins s σ H Q I q => h.run wh pins s σ H Q I (i σ H Q q)⟩
theorem fw_and1 (h : FT X a ta) : FW X (.BoolOp .And [a] pos) ta := ⟨pw_and1 h.pt⟩
theorem fw_or1 (h : FT X a ta) : FW X (.BoolOp .Or [a] pos) ta := ⟨pw_or1 h.pt⟩
theorem fw_and (ha : FT X a ta) (hb : FW X (.BoolOp .And (b :: rest) pos) tb) : FW X (.BoolOp .And (a :: b :: rest) pos) (tAndM ta tb) := by
  refine ⟨(pw_and ha.pt hb.pw).imp fun σ H Q ⟨W, s, hs, o, s', e1, k⟩ => ?_⟩
  obtain ⟨c, s1, ec, e1⟩ := M.bind_ok e1
  refine ⟨W, s, hs, c, s1, ec, fun W1 H1 p1 hs1 => ?_⟩
  cases c with
  | true => exact iteT ⟨W1, s1, hs1, o, s', e1, fun W' H' p' h' => k W' H' (p1.trans p') h'⟩
  | false => cases e1; exact iteF (k W1 H1 p1 hs1)
theorem fw_or (ha : FT X a ta) (hb : FW X (.BoolOp .Or (b :: rest) pos) tb) : FW X (.BoolOp .Or (a :: b :: rest) pos) (tOrM ta tb) := by
  refine ⟨(pw_or ha.pt hb.pw).imp fun σ H Q ⟨W, s, hs, o, s', e1, k⟩ => ?_⟩
  obtain ⟨c, s1, ec, e1⟩ := M.bind_ok e1
  refine ⟨W, s, hs, c, s1, ec, fun W1 H1 p1 hs1 => ?_⟩
  cases c with
  | false => exact iteF ⟨W1, s1, hs1, o, s', e1, fun W' H' p' h' => k W' H' (p1.trans p') h'⟩
  | true => cases e1; exact iteT (k W1 H1 p1 hs1)
theorem ft_w (h : FW X a ta) : FT X a ta := ⟨h.pw.pt⟩
theorem ft_not (h : FT X a ta) : FT X (.UnaryOp .Not a pos) (tNotM ta) := by
  refine ⟨(pt_not h.pt).imp fun σ H Q ⟨W, s, hs, o, s', e1, k⟩ => ?_⟩
  obtain ⟨c, s1, ec, e1⟩ := M.bind_ok e1
  cases e1
  exact ⟨W, s, hs, c, _, ec, fun W1 H1 p1 hs1 => k W1 H1 p1 hs1⟩

/-! ### argument lists, tuples, lists -/
def aNil : M (List Opd) := fun s => .ok [] s
def aCons (f : EM) (t : M (List Opd)) : M (List Opd) := do
  let a ← f
  let r ← t
  pure (a :: r)
variable {es : List Expr} {fs : M (List Opd)}
theorem fa_nil : FA X [] aNil := by
  refine ⟨pa_nil.imp fun σ H Q ⟨W, s, hs, o, s', e1, k⟩ => ?_⟩
  cases e1
  exact k W H [] .refl hs .nil
theorem fa_cons (ha : FE X e f) (hr : FA X es fs) (h : starEach (e :: es) X.env = (false, eval e X.env) :: starEach es X.env := by rfl) : FA X (e :: es) (aCons f fs) := by
  refine ⟨(pa_cons ha.pe hr.pa h).imp fun σ H Q ⟨W, s, hs, o, s', e1, k⟩ => ?_⟩
  obtain ⟨a, s1, ea, e1⟩ := M.bind_ok e1
  obtain ⟨r, s2, er, e1⟩ := M.bind_ok e1
  cases e1
  exact ⟨W, s, hs, a, s1, ea, fun W1 H1 cx p1 hs1 d1 => ⟨W1, s1, hs1, r, _, er, fun W2 H2 cs p2 hs2 d2 => k W2 H2 _ (p1.trans p2) hs2 (.cons (d1.mono p2) d2)⟩⟩
def Opd.toVal : Opd → Option Val
  | .val v => some v
  | .sl _ => none
def toVals : List Opd → Option (List Val)
  | [] => some []
  | o :: os => match o.toVal, toVals os with
    | some v, some vs => some (v :: vs)
    | _, _ => none
theorem DRs.toVals {g : Gx} {W : Wd} {σ : L2.St} {H : Hp} {os : List Opd} {cs : List V} (d : DRs g W σ H os cs) : ∀ {vs : List Val}, toVals os = some vs → VRs g W H vs cs := by
  induction d with
  | nil => intro vs e; cases e; exact .nil
  | @cons o c os cs d1 _ ih =>
    intro vs e
    unfold G.toVals at e
    split at e
    · rename_i v vs' e1 e2
      cases e
      cases d1 with
      | val h => cases e1; exact .cons h (ih e2)
      | sl h => cases e1
    · cases e
def short (vs : List Val) : Option (List Val) := if vs.length ≤ lim then some vs else none
theorem short_ok {vs ws : List Val} (h : short vs = some ws) : ws = vs ∧ vs.length ≤ lim := by
  unfold short at h
  split at h
  · cases h; exact ⟨rfl, by assumption⟩
  · cases h
def eTup (fs : M (List Opd)) : EM := do
  let os ← fs
  M.opt (((toVals os).bind short).map fun vs => .val (.tup vs))
def eLst (fs : M (List Opd)) : EM := do
  let os ← fs
  M.opt (((toVals os).bind short).map fun vs => .val (.lst vs))
theorem bind_some {α β : Type} {f : α → Option β} {o : Option α} {b : β} (h : o.bind f = some b) : ∃ a, o = some a ∧ f a = some b := Option.bind_eq_some_iff.mp h
theorem fe_tup {x1 : Nat} (h : FA X es fs) : FE X (.Tuple es x1 pos) (eTup fs) := by
  refine ⟨(pe_tup h.pa).imp fun σ H Q ⟨W, s, hs, o, s', e1, k⟩ => ?_⟩
  obtain ⟨os, s1, ea, e3⟩ := M.bind_ok e1
  obtain ⟨q1, e4⟩ := opt_ok e3
  obtain ⟨vs, e5, q2⟩ := map_some e4
  obtain ⟨vs', e2, e6⟩ := bind_some e5
  obtain ⟨q3, hl⟩ := short_ok e6
  subst q1 q2 q3
  refine ⟨W, s, hs, os, _, ea, fun W1 H1 cs p1 hs1 d1 => ?_⟩
  have r := d1.toVals e2
  exact ⟨by rw [← r.length]; exact lim_line hl, fun p np => k W1 _ _ (p1.trans (.same (same_upd np))) (hs1.same (same_upd np)) (.val (hs1.newTup np r))⟩
theorem fe_lst (h : FA X es fs) : FE X (.List es pos) (eLst fs) := by
  refine ⟨(pe_lst h.pa).imp fun σ H Q ⟨W, s, hs, o, s', e1, k⟩ => ?_⟩
  obtain ⟨os, s1, ea, e3⟩ := M.bind_ok e1
  obtain ⟨q1, e4⟩ := opt_ok e3
  obtain ⟨vs, e5, q2⟩ := map_some e4
  obtain ⟨vs', e2, e6⟩ := bind_some e5
  obtain ⟨q3, hl⟩ := short_ok e6
  subst q1 q2 q3
  refine ⟨W, s, hs, os, _, ea, fun W1 H1 cs p1 hs1 d1 => ?_⟩
  have r := d1.toVals e2
  exact ⟨by rw [← r.length]; exact lim_line hl, fun p np => k W1 _ _ (p1.trans (.same (same_upd np))) (hs1.same (same_upd np)) (.val (hs1.newLst np r))⟩

/-! ### calls of built-ins, by values -/
def ImpL (g : Gx) (o : List Val → Option Val) (r : List V → Hp → VK → Prop) : Prop := ∀ (W : Wd) (s : Stt) (σ : L2.St) (H : Hp) xs z cs (Q : VK), SR g W s σ H → BRs g W H xs cs → o xs = some z →
  (∀ H' c, Same H H' → VR g W H' z c → Q c H') → r cs H Q
def opL (o : List Val → Option Val) (fs : M (List Opd)) : EM := do
  let os ← fs
  let xs ← rdsM os
  M.opt ((o xs).map .val)
theorem tE_opL {g : Gx} {o : List Val → Option Val} {r : List V → Hp → VK → Prop} (hr : ImpL g o r) {σ : L2.St} {H : Hp} {Q : VK}
    (h : tE g (opL o fs) σ H Q) : tCB r (tAs g fs) σ H Q := by
  obtain ⟨W, s, hs, o1, s', e1, k⟩ := h
  obtain ⟨a, s1, ea, e2⟩ := M.bind_ok e1
  obtain ⟨x, s3, ex0, e3⟩ := M.bind_ok e2
  obtain ⟨q1, ex⟩ := rdsM_ok ex0
  obtain ⟨q2, ez0⟩ := opt_ok e3
  obtain ⟨z, ez, q3⟩ := map_some ez0
  subst q1 q2 q3
  refine ⟨W, s, hs, a, _, ea, fun W1 H1 cs p1 hs1 d1 => ?_⟩
  exact hr W1 _ σ H1 x z cs Q hs1 (hs1.reads d1 ex) ez fun H' c sm v => k W1 H' c (p1.trans (.same sm)) (hs1.same sm) (.val v)
theorem fe_callB {x : Str} {p : Pos} {id : String} {r : List V → Hp → VK → Prop} {o : List Val → Option Val} (hc : CallR X (.builtin id) r) (hr : ImpL (.of X) o r) (hg : Gl X x) (hm : X.mg x = none) (hv : bootBuiltins x = some (.builtin id)) (ha : FA X (e :: es) fs)
    (hn : x ≠ "__name__" := by decide) (hdb : (x == ("__debug__" : Str)) = false := by decide)
    (he : starEach (e :: es) X.env = (false, eval e X.env) :: starEach es X.env := by rfl) (hpl : (backTo pos (starEach es X.env)).any (·.1) = false := by rfl) : FE X (.Call (.Name x p) (e :: es) [] pos) (opL o fs) :=
  ⟨(pe_callB hc hg hm hv ha.pa hn hdb he hpl).imp fun _ _ _ h => tE_opL hr h⟩
theorem fe_callTy {x : Str} {p : Pos} {T : String} {r : List V → Hp → VK → Prop} {o : List Val → Option Val} (hc : CallR X (.type T) r) (hr : ImpL (.of X) o r) (hg : Gl X x) (hm : X.mg x = none) (hv : bootBuiltins x = some (.type T)) (ha : FA X (e :: es) fs)
    (hn : x ≠ "__name__" := by decide) (hdb : (x == ("__debug__" : Str)) = false := by decide)
    (he : starEach (e :: es) X.env = (false, eval e X.env) :: starEach es X.env := by rfl) (hpl : (backTo pos (starEach es X.env)).any (·.1) = false := by rfl) : FE X (.Call (.Name x p) (e :: es) [] pos) (opL o fs) :=
  ⟨(pe_callTy hc hg hm hv ha.pa hn hdb he hpl).imp fun _ _ _ h => tE_opL hr h⟩

/-! ### a[i] -/
theorem fe_ix {r : R2} {o : Val → Val → Option Val} (ho : IxR X r) (hr : Imp2 (.of X) o r) (ha : FE X a fa) (hb : FE X b fb) (hs : PlainIx b) : FE X (.Subscript a b pos) (op2 o fa fb) :=
  ⟨(pe_ix ho ha.pe hb.pe hs).imp fun _ _ _ h => tE_op2 (ta := tE (.of X) fa) (tb := tE (.of X) fb) hr h⟩
end
end G

namespace G
open PySem PySem.Spec PyProof.Rows L2

/-! ### slots written -/
def Stt.setV (s : Stt) (i : Nat) (v : Val) : Stt := { s with sl := s.sl.set i (some (.v v)) }
def Stt.setO (s : Stt) (i : Nat) (o : OV) : Stt := { s with sl := s.sl.set i (some o) }
def Wd.setW (W : Wd) (i : Nat) (fp : List Addr) : Wd := { W with ow := W.ow.set i fp }
theorem mem_set {α : Type} {l : List α} {i : Nat} {x y : α} (h : y ∈ l.set i x) : y ∈ l ∨ y = x := by
  rcases List.mem_or_eq_of_mem_set h with h | h
  · exact .inl h
  · exact .inr h
section
variable {g : Gx} {W W' : Wd} {H H' : Hp} {s : Stt} {σ : L2.St} {p : Addr} {fp : List Addr} {i : Nat} {x : Val} {c : V}
theorem Wd.own_set {a : Addr} (h : (W.setW i fp).own a) : W.own a ∨ a ∈ fp := by
  rcases h with h | ⟨l, hl, ha⟩
  · exact .inl (.inl h)
  · rcases mem_set hl with hl | rfl
    · exact .inl (.inr ⟨l, hl, ha⟩)
    · exact .inr ha
theorem Wle.set0 : Wle W (W.setW i []) := ⟨fun a h => by
  rcases h with h | h
  · exact .inl h
  · rcases Wd.own_set h with h | h
    · exact .inr h
    · simp at h, fun _ _ r h => ⟨r, h⟩⟩
theorem Wle.plus : Wle (W.plus fp) W := ⟨fun a h => by
  rcases h with h | h
  · exact .inl (.inl h)
  · exact .inr h, fun _ _ r h => ⟨r, h⟩⟩
theorem Wle.plusSet : Wle (W.plus fp) (W.setW i fp) := ⟨fun a h => by
  rcases h with h | h
  · exact .inl (.inl h)
  · rcases Wd.own_set h with h | h
    · exact .inr h
    · exact .inl (.inr h), fun _ _ r h => ⟨r, h⟩⟩
theorem set_get {α : Type} {l : List α} {i j : Nat} {x y : α} (h : (l.set i x)[j]? = some y) : (j = i ∧ y = x ∧ i < l.length) ∨ (j ≠ i ∧ l[j]? = some y) := by
  by_cases e : j = i
  · subst e
    by_cases hl : j < l.length
    · rw [List.getElem?_set_self hl] at h
      cases h
      exact .inl ⟨rfl, rfl, hl⟩
    · rw [List.getElem?_eq_none (by simpa using hl)] at h
      cases h
  · rw [List.getElem?_set_ne (Ne.symm e)] at h
    exact .inr ⟨e, h⟩
theorem Wd.mem_own {W : Wd} {l : List Addr} {a : Addr} {i : Nat} (h : W.ow[i]? = some l) (ha : a ∈ l) : W.own a := .inr ⟨l, List.mem_of_getElem? h, ha⟩
theorem Wd.mem_ownc {W : Wd} {l : List Addr} {a : Addr} {i : Nat} (h : W.ce[i]? = some l) (ha : a ∈ l) : W.own a := .inl ⟨l, List.mem_of_getElem? h, ha⟩
/-- a slot gets a value -/
theorem SR.setV (h : SR g W s σ H) (r : VR g W H x c) : SR g (W.setW i []) (s.setV i x) (σ.set i (some c)) H where
  len := by simp [Stt.setV, h.len]
  leno := by simp [Stt.setV, Wd.setW, h.leno]
  lenc := h.lenc
  slot := fun j o q => by
    rcases set_get q with ⟨rfl, e, hl⟩ | ⟨ne, q⟩
    · cases e
      refine ⟨c, [], ?_, ?_, .v (r.wle .set0)⟩
      · rw [List.getElem?_set_self (by rw [← h.len]; exact hl)]
      · show (W.ow.set j [])[j]? = _
        rw [List.getElem?_set_self (by rw [h.leno]; exact hl)]
    · obtain ⟨d, fp, h1, h2, h3⟩ := h.slot j o q
      refine ⟨d, fp, ?_, ?_, h3.wle .set0⟩
      · rw [List.getElem?_set_ne (Ne.symm ne)]; exact h1
      · show (W.ow.set i [])[j]? = _
        rw [List.getElem?_set_ne (Ne.symm ne)]; exact h2
  cell := fun j o q => by
    obtain ⟨p, r, h2, h3⟩ := h.cell j o q
    exact ⟨p, r, h2, h3.wle .set0⟩
  djo := fun a b l m z h1 h2 h3 h4 => by
    rcases set_get h1 with ⟨_, rfl, _⟩ | ⟨_, h1⟩
    · cases h3
    · rcases set_get h2 with ⟨_, rfl, _⟩ | ⟨_, h2⟩
      · cases h4
      · exact h.djo a b l m z h1 h2 h3 h4
  djc := h.djc
  djx := fun l m a h1 h2 h3 h4 => by
    rcases mem_set h2 with h2 | rfl
    · exact h.djx l m a h1 h2 h3 h4
    · cases h4
  trk := fun a z => by
    rcases Wd.own_set z with z | z
    · exact h.trk a z
    · cases z
  trk0 := h.trk0
theorem Post.setW (n : ∀ a ∈ fp, H a = none) (hk : Post W H W' H') : Post W H (W'.setW i fp) H' := ⟨hk.m0, hk.m1, hk.keep, fun a h => by
  rcases Wd.own_set h with h | h
  · exact hk.sub a h
  · exact .inr (n a h), hk.refs, hk.tr⟩
/-- a slot gets a new container of its own -/
theorem SR.setO {o : OV} (h : SR g (W.plus fp) s σ H) (r : OR g (W.plus fp) H o c fp) (n : ∀ a ∈ fp, ¬ W.forb a) : SR g (W.setW i fp) (s.setO i o) (σ.set i (some c)) H where
  len := by simp [Stt.setO, h.len]
  leno := by
    have := h.leno
    simp [Stt.setO, Wd.setW]
    exact this
  lenc := h.lenc
  slot := fun j o' q => by
    rcases set_get q with ⟨rfl, e, hl⟩ | ⟨ne, q⟩
    · cases e
      refine ⟨c, fp, ?_, ?_, r.wle .plusSet⟩
      · rw [List.getElem?_set_self (by rw [← h.len]; exact hl)]
      · show (W.ow.set j fp)[j]? = _
        rw [List.getElem?_set_self (by have := h.leno; rw [← this] at hl; exact hl)]
    · obtain ⟨d, fp', h1, h2, h3⟩ := h.slot j o' q
      refine ⟨d, fp', ?_, ?_, h3.wle .plusSet⟩
      · rw [List.getElem?_set_ne (Ne.symm ne)]; exact h1
      · show (W.ow.set i fp)[j]? = _
        rw [List.getElem?_set_ne (Ne.symm ne)]; exact h2
  cell := fun j o q => by
    obtain ⟨p, r, h2, h3⟩ := h.cell j o q
    exact ⟨p, r, h2, h3.wle .plusSet⟩
  djo := fun a b l m z h1 h2 h3 h4 => by
    rcases set_get h1 with ⟨ea, rfl, _⟩ | ⟨na, h1'⟩
    · rcases set_get h2 with ⟨eb, _, _⟩ | ⟨_, h2'⟩
      · rw [ea, eb]
      · exact absurd (.inr (Wd.mem_own (W := W) h2' h4)) (n z h3)
    · rcases set_get h2 with ⟨_, rfl, _⟩ | ⟨_, h2'⟩
      · exact absurd (.inr (Wd.mem_own (W := W) h1' h3)) (n z h4)
      · exact h.djo a b l m z h1' h2' h3 h4
  djc := h.djc
  djx := fun l m a h1 h2 h3 h4 => by
    rcases mem_set h2 with h2 | rfl
    · exact h.djx l m a h1 h2 h3 h4
    · exact n a h4 (.inr (.inl ⟨l, h1, h3⟩))
  trk := fun a z => by
    rcases Wd.own_set z with z | z
    · obtain ⟨q, q2⟩ := h.trk a z
      exact ⟨q, fun z => q2 (.inl z)⟩
    · exact ⟨r.tracked a z, fun q => n a z (.inl q)⟩
  trk0 := fun a z => h.trk0 a (.inl z)

/-! ### a new object, kept apart -/
theorem fresh_not {p : Addr} {u : HO} {a : Addr} (n : H p = none) (r : Rd H a u) : a ≠ p := by
  rintro rfl
  obtain ⟨o, e⟩ := rdSome r
  rw [n] at e; cases e
theorem LstAt.plus {K : PySem.W.Frag} {o : HO} {q : Addr} {cs : List V} (n : H p = none) (h : LstAt K W H q cs) : LstAt K (W.plus [p]) (upd H p o) q cs := by
  rcases h with ⟨f, r⟩ | h
  · refine .inl ⟨?_, Post.rd (.same (same_upd n)) f r⟩
    rintro ((z | z) | z)
    · exact f (.inl z)
    · exact fresh_not n r (by simpa using z)
    · exact f (.inr z)
  · exact .inr h
theorem forb_plus {o u : HO} {q : Addr} (n : H p = none) (f : ¬ W.forb q) (r : Rd H q u) : ¬ (W.plus [p]).forb q := by
  rintro ((z | z) | z)
  · exact f (.inl z)
  · exact fresh_not n r (by simpa using z)
  · exact f (.inr z)
mutual
theorem VR.plus {o : HO} (n : H p = none) : ∀ {x : Val} {c : V}, VR g W H x c → VR g (W.plus [p]) (upd H p o) x c
  | _, _, .non => .non
  | _, _, .bl b => .bl b
  | _, _, .int i => .int i
  | _, _, .str x h => .str x h
  | _, _, .tup f r t => .tup (forb_plus (o := o) n f (.inl r)) (same_upd n _ _ r) (VRs.plus n t)
  | _, _, .lst f r t => .lst (forb_plus (o := o) n f (.inl r)) (same_upd n _ _ r) (VRs.plus n t)
  | _, _, .scr r t => .scr (r.plus n) (VRs.plus n t)
  | _, _, .dctK f r t => .dctK (forb_plus (o := o) n f r) (Post.rd (.same (same_upd n)) f r) (VRk.plus n t)
  | _, _, .dctN f r t => .dctN (forb_plus (o := o) n f r) (Post.rd (.same (same_upd n)) f r) (VRn.plus n t)
  | _, _, .ref e => .ref e
  | _, _, .cls n => .cls n
theorem VRs.plus {o : HO} (n : H p = none) : ∀ {xs : List Val} {cs : List V}, VRs g W H xs cs → VRs g (W.plus [p]) (upd H p o) xs cs
  | _, _, .nil => .nil
  | _, _, .cons h t => .cons (VR.plus n h) (VRs.plus n t)
theorem VRk.plus {o : HO} (n : H p = none) : ∀ {xs : List (Val × Val)} {cs : List (Key × V)}, VRk g W H xs cs → VRk g (W.plus [p]) (upd H p o) xs cs
  | _, _, .nil => .nil
  | _, _, .cons e h t => .cons e (VR.plus n h) (VRk.plus n t)
theorem VRn.plus {o : HO} (n : H p = none) : ∀ {xs : List (Val × Val)} {cs : List (NestedKey × Addr × V)}, VRn g W H xs cs → VRn g (W.plus [p]) (upd H p o) xs cs
  | _, _, .nil => .nil
  | _, _, .cons e hk h t => .cons e (VR.plus n hk) (VR.plus n h) (VRn.plus n t)
end
theorem OR.plus {o : HO} {u : OV} {c : V} {fp : List Addr} (n : H p = none) (h : OR g W H u c fp) : OR g (W.plus [p]) (upd H p o) u c fp := by
  have k : ∀ {q v}, H q = some v → upd H p o q = some v := fun {q v} e => same_upd n _ _ e
  cases h with
  | v h => exact .v (h.plus n)
  | lst r t => exact .lst (k r) (t.plus n)
  | dctK r t => exact .dctK (k r) (t.plus n)
  | dctN r t => exact .dctN (k r) (t.plus n)
theorem SR.plus {o : HO} (h : SR g W s σ H) (n : H p = none) : SR g (W.plus [p]) s σ (upd H p o) where
  len := h.len
  leno := h.leno
  lenc := h.lenc
  slot := fun j o q => by
    obtain ⟨d, fp, h1, h2, h3⟩ := h.slot j o q
    exact ⟨d, fp, h1, h2, h3.plus n⟩
  cell := fun j o q => by
    obtain ⟨p, r, h2, h3⟩ := h.cell j o q
    exact ⟨p, r, h2, h3.plus n⟩
  djo := h.djo
  djc := h.djc
  djx := h.djx
  trk := fun a z => by
    obtain ⟨⟨u, e⟩, e2⟩ := h.trk a z
    refine ⟨⟨u, same_upd n _ _ e⟩, ?_⟩
    rintro (z | z)
    · exact e2 z
    · have : a = p := by simpa using z
      subst this
      rw [n] at e; cases e
  trk0 := fun a z => by
    rcases z with z | z
    · obtain ⟨u, e⟩ := h.trk0 a z
      exact ⟨u, same_upd n _ _ e⟩
    · have : a = p := by simpa using z
      subst this
      exact ⟨o, upd_same⟩
/-- less forbidden by others -/
theorem SR.unplus (h : SR g (W.plus fp) s σ H) : SR g W s σ H where
  len := h.len
  leno := h.leno
  lenc := h.lenc
  slot := fun j o q => by
    obtain ⟨d, fp, h1, h2, h3⟩ := h.slot j o q
    exact ⟨d, fp, h1, h2, h3.wle .plus⟩
  cell := fun j o q => by
    obtain ⟨p, r, h2, h3⟩ := h.cell j o q
    exact ⟨p, r, h2, h3.wle .plus⟩
  djo := h.djo
  djc := h.djc
  djx := h.djx
  trk := fun a z => ⟨(h.trk a z).1, fun q => (h.trk a z).2 (.inl q)⟩
  trk0 := fun a z => h.trk0 a (.inl z)
end

/-! ### new containers -/
def tN (g : Gx) (f : M OV) : TE := fun σ H Q => ∃ W s, SR g W s σ H ∧ ∃ o s', f s = .ok o s' ∧
  ∀ W' H' c fp, Post W H W' H' → Apart g H W' s' σ H' o c fp → Q c H'
structure FN (X : Cx) (e : Expr) (f : M OV) : Prop where
  pe : PE X e (tN (.of X) f)
/-- a new container, never changed from here on -/
def eFrz (f : M OV) : EM := do
  let o ← f
  M.opt (o.snap.map .val)
theorem OR.frz {g : Gx} {W : Wd} {H : Hp} {o : OV} {c : V} {fp : List Addr} {v : Val} (h : OR g (W.plus fp) H o c fp) (n : ∀ a ∈ fp, ¬ W.forb a) (e : o.snap = some v) : VR g W H v c := by
  cases h with
  | v h => cases e; exact h.wle .plus
  | lst r t => cases e; exact .lst (n _ (by simp)) r (t.wle .plus)
  | dctK r t => cases e; exact .dctK (n _ (by simp)) (.inl r) (t.wle .plus)
  | dctN r t => cases e; exact .dctN (n _ (by simp)) (.inl r) (t.wle .plus)
section
variable {X : Cx} {e a b : Expr} {f fa fb : EM} {fn : M OV} {pos : Pos} {es : List Expr} {fs : M (List Opd)}
theorem fe_frz (h : FN X e fn) : FE X e (eFrz fn) := by
  refine ⟨h.pe.imp fun σ H Q ⟨W, s, hs, o, s', e1, k⟩ => ?_⟩
  obtain ⟨o1, s1, ea, e2⟩ := M.bind_ok e1
  obtain ⟨q1, e3⟩ := opt_ok e2
  obtain ⟨v, e4, q2⟩ := map_some e3
  subst q1 q2
  exact ⟨W, s, hs, o1, _, ea, fun W' H' c fp p ⟨hs', r, n⟩ => k W' H' c p hs'.unplus (.val (r.frz (fun a ha => (n a ha).1) e4))⟩
def nLst (fs : M (List Opd)) : M OV := do
  let os ← fs
  M.opt (((toVals os).bind short).map .lst)
theorem fn_lst (h : FA X es fs) : FN X (.List es pos) (nLst fs) := by
  refine ⟨(pe_lst h.pa).imp fun σ H Q ⟨W, s, hs, o, s', e1, k⟩ => ?_⟩
  obtain ⟨os, s1, ea, e3⟩ := M.bind_ok e1
  obtain ⟨q1, e4⟩ := opt_ok e3
  obtain ⟨vs, e5, q2⟩ := map_some e4
  obtain ⟨vs', e2, e6⟩ := bind_some e5
  obtain ⟨q3, hl⟩ := short_ok e6
  subst q1 q2 q3
  refine ⟨W, s, hs, os, _, ea, fun W1 H1 cs p1 hs1 d1 => ?_⟩
  have r := d1.toVals e2
  refine ⟨by rw [← r.length]; exact lim_line hl, fun p np => ?_⟩
  refine k W1 _ (.ref p) [p] (p1.trans (.same (same_upd np))) ⟨hs1.plus np, .lst upd_same (r.plus np), fun a ha => ?_⟩
  have ea : a = p := by simpa using ha
  subst ea
  exact ⟨hs1.fresh np, p1.fresh np⟩
end
end G

namespace G
open PySem PySem.Spec PyProof.Rows L2

/-! ### statements -/
def sNil : SM := fun s => .ok .nx s
def sThen (g : SM) : Ctl → SM
  | .nx => g
  | k => fun s => .ok k s
def sSeq (f g : SM) : SM := f >>= sThen g
def sExpr (f : EM) : SM := do
  let _ ← f
  pure .nx
def sRet (f : EM) : SM := do
  let o ← f
  pure (.ret o)
def sIf (c : M Bool) (f g : SM) : SM := do
  let b ← c
  if b = true then f else g
def toValM (o : Opd) : M Val := M.opt o.toVal
def putV (i : Nat) (v : Val) : M Unit := fun s => .ok () (s.setV i v)
def putO (i : Nat) (o : OV) : M Unit := fun s => .ok () (s.setO i o)
def sSet (i : Nat) (f : EM) : SM := do
  let o ← f
  let v ← toValM o
  putV i v
  pure .nx
def sOwn (i : Nat) (f : M OV) : SM := do
  let o ← f
  putO i o
  pure .nx
section
variable {X : Cx} {st : Stmt} {rest sts a b : List Stmt} {e : Expr} {f g : SM} {fe : EM} {fn : M OV} {tc : M Bool} {pos : Pos}
theorem fss_nil : FSs X [] sNil := by
  refine ⟨pss_nil.imp fun D σ H ⟨W, s, hs, k, s', e1, K⟩ => ?_⟩
  cases e1
  exact K W σ H .refl hs
theorem fss_cons (h1 : FS X st f) (h2 : FSs X rest g) : FSs X (st :: rest) (sSeq f g) := by
  refine ⟨(pss_cons h1.ps h2.ps).imp fun D σ H ⟨W, s, hs, k, s', e1, K⟩ => ?_⟩
  obtain ⟨k1, s1, ea, e2⟩ := M.bind_ok e1
  refine ⟨W, s, hs, k1, s1, ea, fun W1 σ1 H1 p1 => ?_⟩
  cases k1 with
  | nx => exact fun hs1 => ⟨W1, s1, hs1, k, s', e2, fun W2 σ2 H2 p2 => (K W2 σ2 H2 (p1.trans p2)).mono fun a n => p1.fresh n⟩
  | brk => cases e2; exact K W1 σ1 H1 p1
  | cont => cases e2; exact K W1 σ1 H1 p1
  | ret o => cases e2; exact K W1 σ1 H1 p1
  | rtn o => cases e2; exact K W1 σ1 H1 p1
theorem fss_one (h1 : FS X st f) : FSs X [st] f := by
  refine ⟨(pss_one h1.ps).imp fun D σ H h => h⟩
theorem fs_expr (h : FE X e fe) (hs : swapsWith e none pos.line X.env = pure false := by rfl) : FS X (.Expr e pos) (sExpr fe) := by
  refine ⟨(ps_expr h.pe hs).imp fun D σ H ⟨W, s, hs, k, s', e1, K⟩ => ?_⟩
  obtain ⟨o, s1, ea, e2⟩ := M.bind_ok e1
  cases e2
  exact ⟨W, s, hs, o, _, ea, fun W1 H1 c p1 hs1 _ => K W1 σ H1 p1 hs1⟩
theorem fs_doc {x : Str} {j : Nat} {pos' : Pos} : FS X (.Expr (.Constant (.str x) j pos) pos') sNil := by
  refine ⟨ps_doc.imp fun D σ H ⟨W, s, hs, k, s', e1, K⟩ => ?_⟩
  cases e1
  exact K W σ H .refl hs
theorem fs_pass : FS X (.Pass pos) sNil := by
  refine ⟨ps_pass.imp fun D σ H ⟨W, s, hs, k, s', e1, K⟩ => ?_⟩
  cases e1
  exact K W σ H .refl hs
theorem fs_ret (h : FE X e fe) : FS X (.Return (some e) pos) (sRet fe) := by
  refine ⟨(ps_ret h.pe).imp fun D σ H ⟨W, s, hs, k, s', e1, K⟩ => ?_⟩
  obtain ⟨o, s1, ea, e2⟩ := M.bind_ok e1
  cases e2
  exact ⟨W, s, hs, o, _, ea, fun W1 H1 c p1 hs1 d => K W1 σ H1 p1 hs1 c d⟩
theorem fs_if {c : Expr} (hc : FT X c tc) (ha : FSs X a f) (hb : FSs X b g) : FS X (.If c a b pos) (sIf tc f g) := by
  refine ⟨(ps_if hc.pt ha.ps hb.ps).imp fun D σ H ⟨W, s, hs, k, s', e1, K⟩ => ?_⟩
  obtain ⟨c, s1, ec, e2⟩ := M.bind_ok e1
  refine ⟨W, s, hs, c, s1, ec, fun W1 H1 p1 hs1 => ?_⟩
  cases c with
  | true => exact iteT ⟨W1, s1, hs1, k, s', e2, fun W' σ' H' p' => (K W' σ' H' (p1.trans p')).mono fun a n => p1.fresh n⟩
  | false => exact iteF ⟨W1, s1, hs1, k, s', e2, fun W' σ' H' p' => (K W' σ' H' (p1.trans p')).mono fun a n => p1.fresh n⟩
theorem DR.toVal {g : Gx} {W : Wd} {σ : L2.St} {H : Hp} {o : Opd} {c : V} {v : Val} (d : DR g W σ H o c) (e : o.toVal = some v) : VR g W H v c := by
  cases d with
  | val h => cases e; exact h
  | sl h => cases e
theorem fs_set {i : Nat} {x : Str} {pos' : Pos} (hc : Cok X) (hi : X.N[i]? = some x) (hx : Loc X.env.scope x) (he : FE X e fe) (hs : swapsWith e (some (.Name x pos')) pos.line X.env = pure false := by rfl) (hf : X.fn x = true ∨ X.env.scope.names.lookup x = some .local := by first | exact .inl rfl | exact .inr rfl | assumption) :
    FS X (.Assign [.Name x pos'] e pos) (sSet i fe) := by
  refine ⟨(ps_set hc.nd hi hx he.pe hs hf).imp fun D σ H ⟨W, s, hs, k, s', e1, K⟩ => ?_⟩
  obtain ⟨o, s1, ea, e2⟩ := M.bind_ok e1
  obtain ⟨v, s2, ev, e3⟩ := M.bind_ok e2
  obtain ⟨q1, ev2⟩ := opt_ok ev
  subst q1
  cases e3
  refine ⟨W, s, hs, o, _, ea, fun W1 H1 c p1 hs1 d => ?_⟩
  exact K _ _ H1 (Post.setW (fun a h => by cases h) p1) (hs1.setV (d.toVal ev2))
theorem fs_own {i : Nat} {x : Str} {pos' : Pos} (hc : Cok X) (hi : X.N[i]? = some x) (hx : Loc X.env.scope x) (he : FN X e fn) (hs : swapsWith e (some (.Name x pos')) pos.line X.env = pure false := by rfl) (hf : X.fn x = true ∨ X.env.scope.names.lookup x = some .local := by first | exact .inl rfl | exact .inr rfl | assumption) :
    FS X (.Assign [.Name x pos'] e pos) (sOwn i fn) := by
  refine ⟨(ps_set hc.nd hi hx he.pe hs hf).imp fun D σ H ⟨W, s, hs, k, s', e1, K⟩ => ?_⟩
  obtain ⟨o, s1, ea, e2⟩ := M.bind_ok e1
  cases e2
  refine ⟨W, s, hs, o, _, ea, fun W1 H1 c fp p1 ⟨hs1, r, n⟩ => ?_⟩
  exact K _ _ H1 (Post.setW (fun a h => (n a h).2) p1) (hs1.setO r fun a h => (n a h).1)
/-- return of a new container -/
def sRtn (f : M OV) : SM := do
  let o ← f
  pure (.rtn o)
theorem fs_rtn (h : FN X e fn) : FS X (.Return (some e) pos) (sRtn fn) := by
  refine ⟨(ps_ret h.pe).imp fun D σ H ⟨W, s, hs, k, s', e1, K⟩ => ?_⟩
  obtain ⟨o, s1, ea, e2⟩ := M.bind_ok e1
  cases e2
  exact ⟨W, s, hs, o, _, ea, fun W1 H1 c fp p1 a => K W1 σ H1 p1 c fp a⟩

/-! ### targets -/
def tG (g : Gx) (f : Val → M Unit) : TG := fun v σ H Q => ∃ W s x, SR g W s σ H ∧ VR g W H x v ∧ ∃ s', f x s = .ok () s' ∧ ∀ W' σ' H', Post W H W' H' → SR g W' s' σ' H' → Q σ' H'
structure FG (X : Cx) (tg : Expr) (f : Val → M Unit) : Prop where
  pg : PG X tg (tG (.of X) f)
def tGs (g : Gx) (f : List Val → M Unit) : TGs := fun vs σ H Q => ∃ W s xs, SR g W s σ H ∧ VRs g W H xs vs ∧ ∃ s', f xs s = .ok () s' ∧ ∀ W' σ' H', Post W H W' H' → SR g W' s' σ' H' → Q σ' H'
structure FGs (X : Cx) (tg : List Expr) (f : List Val → M Unit) : Prop where
  pg : PGs X tg (tGs (.of X) f)
theorem _root_.L2.PG.imp {tg : Expr} {t t' : TG} (h : PG X tg t) (i : ∀ v σ H Q, t' v σ H Q → t v σ H Q) : PG X tg t' := ⟨fun pins s σ H v u Q I r q => h.run pins s σ H v u Q I r (i v σ H Q q)⟩
theorem _root_.L2.PGs.imp {tg : List Expr} {t t' : TGs} (h : PGs X tg t) (i : ∀ v σ H Q, t' v σ H Q → t v σ H Q) : PGs X tg t' := ⟨fun pins s σ H v u Q I r q => h.run pins s σ H v u Q I r (i v σ H Q q)⟩
def gNil : List Val → M Unit
  | [] => pure ()
  | _ => fun _ => .bad
def gCons (f : Val → M Unit) (g : List Val → M Unit) : List Val → M Unit
  | x :: xs => do
    f x
    g xs
  | [] => fun _ => .bad
def gTup (n : Nat) (f : List Val → M Unit) : Val → M Unit
  | .tup xs => fun s => if xs.length = n then f xs s else .bad
  | _ => fun _ => .bad
theorem fg_name {i : Nat} {x : Str} (hc : Cok X) (hi : X.N[i]? = some x) (hx : Loc X.env.scope x) (hf : X.fn x = true ∨ X.env.scope.names.lookup x = some .local := by first | exact .inl rfl | exact .inr rfl | assumption) : FG X (.Name x pos) (putV i) := by
  refine ⟨(pg_name hc.nd hi hx hf).imp fun v σ H Q ⟨W, s, x, hs, r, s', e1, K⟩ => ?_⟩
  cases e1
  exact K _ _ H (Post.setW (fun a h => by cases h) .refl) (hs.setV r)
theorem fgs_nil : FGs X [] gNil := by
  refine ⟨pgs_nil.imp fun v σ H Q ⟨W, s, xs, hs, r, s', e1, K⟩ => ?_⟩
  cases r with
  | nil => cases e1; exact ⟨rfl, K W σ H .refl hs⟩
  | cons => cases e1
theorem fgs_cons {t : Expr} {ts : List Expr} {f : Val → M Unit} {g : List Val → M Unit} (h1 : FG X t f) (h2 : FGs X ts g)
    (hs : (assignEach (t :: ts) X.env).map (·.2) = assign t X.env :: (assignEach ts X.env).map (·.2) := by rfl) : FGs X (t :: ts) (gCons f g) := by
  refine ⟨(pgs_cons h1.pg h2.pg hs).imp fun v σ H Q ⟨W, s, xs, hs, r, s', e1, K⟩ => ?_⟩
  cases r with
  | nil => cases e1
  | cons h t =>
    obtain ⟨_, s1, ea, e2⟩ := M.bind_ok e1
    exact ⟨_, _, rfl, W, s, _, hs, h, s1, ea, fun W1 σ1 H1 p1 hs1 => ⟨W1, s1, _, hs1, t.mono p1, s', e2, fun W2 σ2 H2 p2 hs2 => K W2 σ2 H2 (p1.trans p2) hs2⟩⟩
theorem fg_tup {ts : List Expr} {k n : Nat} {f : List Val → M Unit} (hc : Cok X) (h : FGs X ts f) (hn : (assignEach ts X.env).length = n := by rfl) (hst : (assignEach ts X.env).findIdx? (·.1) = none := by rfl) : FG X (.Tuple ts k pos) (gTup n f) := by
  refine ⟨(pg_tup hc.calm h.pg hn hst).imp fun v σ H Q ⟨W, s, x, hs, r, s', e1, K⟩ => ?_⟩
  cases r with
  | @tup p cs xs fb rd t =>
    by_cases hl : xs.length = n
    · have e1 : f xs s = .ok () s' := by simpa [gTup, hl] using e1
      exact ⟨p, cs, rfl, .of rd, by rw [← t.length]; exact hl, W, s, xs, hs, t, s', e1, K⟩
    · simp [gTup, hl] at e1
  | _ => cases e1
/-- target = value, any target -/
def sAsg (f : EM) (g : Val → M Unit) : SM := do
  let o ← f
  let v ← toValM o
  g v
  pure .nx
theorem fs_asg {tg : Expr} {g : Val → M Unit} (he : FE X e fe) (hg : FG X tg g) (hs : swapsWithSole [tg] e pos.line X.env = pure false := by rfl) (hw : swappedStores [tg] e X.env = pure none := by rfl)
    (h1 : (assignEach [tg] X.env).map (·.2) = [assign tg X.env] := by rfl) : FS X (.Assign [tg] e pos) (sAsg fe g) := by
  refine ⟨(ps_asg he.pe hg.pg hs hw h1).imp fun D σ H ⟨W, s, hs, k, s', e1, K⟩ => ?_⟩
  obtain ⟨o, s1, ea, e2⟩ := M.bind_ok e1
  obtain ⟨v, s2, ev, e3⟩ := M.bind_ok e2
  obtain ⟨q1, ev2⟩ := opt_ok ev
  subst q1
  obtain ⟨_, s3, eg, e4⟩ := M.bind_ok e3
  cases e4
  exact ⟨W, s, hs, o, _, ea, fun W1 H1 c p1 hs1 d => ⟨W1, _, v, hs1, d.toVal ev2, _, eg, fun W2 σ2 H2 p2 hs2 => K W2 σ2 H2 (p1.trans p2) hs2⟩⟩
/-- a, b = (x, y) of local names -/
def putVs : List (Nat × Val) → M Unit
  | [] => pure ()
  | (i, v) :: r => do
    putV i v
    putVs r
def sPar (is : List Nat) (fs : M (List Opd)) : SM := do
  let os ← fs
  let vs ← M.opt ((toVals os).bind fun vs => if vs.length = is.length then some vs else none)
  putVs (is.zip vs)
  pure .nx
theorem putVs_ok {g : Gx} {σ0 : L2.St} : ∀ {ivs : List (Nat × Val)} {cs : List V} {W : Wd} {s s' : Stt} {σ : L2.St} {H : Hp}, SR g W s σ H → VRs g W H (ivs.map (·.2)) cs → putVs ivs s = .ok () s' →
    ∃ W', Post W H W' H ∧ SR g W' s' ((ivs.map (·.1)).zip cs |>.foldl (fun σ p => σ.set p.1 (some p.2)) σ) H
  | [], _, W, s, s', σ, H, hs, r, e => by
    cases r
    cases e
    exact ⟨W, .refl, hs⟩
  | (i, v) :: ivs, _, W, s, s', σ, H, hs, r, e => by
    cases r with
    | cons h t =>
      obtain ⟨_, s1, ea, e2⟩ := M.bind_ok e
      cases ea
      have p1 : Post W H (W.setW i []) H := Post.setW (fun a h => by cases h) .refl
      obtain ⟨W', p2, h2⟩ := putVs_ok (σ0 := σ0) (hs.setV h) (t.mono p1) e2
      exact ⟨W', p1.trans p2, h2⟩
theorem fs_par {i j : Nat} {x y : Str} {a b : Expr} {fs : M (List Opd)} {px py pt : Pos} {kt k2 : Nat} {pt2 : Pos} (hc : Cok X) (hi : X.N[i]? = some x) (hj : X.N[j]? = some y) (hij : i ≠ j)
    (hx : X.env.scope.names.lookup x = some .local) (hy : X.env.scope.names.lookup y = some .local) (ha : FA X [a, b] fs)
    (hw : swappedStores [.Tuple [.Name x px, .Name y py] kt pt] (.Tuple [a, b] k2 pt2) X.env = pure (some [x, y]))
    (hs : swapsWithSole [.Tuple [.Name x px, .Name y py] kt pt] (.Tuple [a, b] k2 pt2) pos.line X.env = pure false := by rfl)
    (hp : ∀ {ta : TA}, PA X [a, b] ta → PS X (.Assign [.Tuple [.Name x px, .Name y py] kt pt] (.Tuple [a, b] k2 pt2) pos) (tPar i j ta)) :
    FS X (.Assign [.Tuple [.Name x px, .Name y py] kt pt] (.Tuple [a, b] k2 pt2) pos) (sPar [i, j] fs) := by
  refine ⟨(hp ha.pa).imp fun D σ H ⟨W, s, hs, k, s', e1, K⟩ => ?_⟩
  obtain ⟨os, s1, ea, e2⟩ := M.bind_ok e1
  obtain ⟨vs, s2, ev, e3⟩ := M.bind_ok e2
  obtain ⟨q1, ev2⟩ := opt_ok ev
  subst q1
  obtain ⟨vs0, ev3, ev4⟩ := bind_some ev2
  obtain ⟨_, s3, eg, e4⟩ := M.bind_ok e3
  cases e4
  refine ⟨W, s, hs, os, _, ea, fun W1 H1 cs p1 hs1 d => ?_⟩
  have r := d.toVals ev3
  by_cases hl : vs0.length = [i, j].length
  · rw [if_pos hl] at ev4
    cases ev4
    match vs, cs, r, hl with
    | [v, w], [c, d'], r, _ =>
      obtain ⟨W', p2, h2⟩ := putVs_ok (σ0 := σ) (ivs := [(i, v), (j, w)]) hs1 r eg
      exact ⟨c, d', rfl, K _ _ H1 (p1.trans p2) h2⟩
  · rw [if_neg hl] at ev4
    cases ev4

/-! ### while -/
def sWhile : Nat → M Bool → SM → SM
  | 0, _, _ => fun _ => .bad
  | n + 1, c, f => do
    let b ← c
    if b = true then
      let k ← f
      match k with
      | .nx => sWhile n c f
      | .cont => sWhile n c f
      | .brk => pure .nx
      | .ret o => pure (.ret o)
      | .rtn o => pure (.rtn o)
    else pure .nx
theorem fs_while {c : Expr} {body : List Stmt} {n : Nat} (hp : PassesOwn (model X.prog X.w) X.A X.env X.xe) (hc : FT X c tc) (hb : FSs X body f) : FS X (.While c body [] pos) (sWhile n tc f) := by
  refine ⟨(ps_while hp hc.pt hb.ps).imp fun D σ H ⟨W, s, hs, k, s', e1, K⟩ => ?_⟩
  refine ⟨fun m σ1 H1 => ∃ W1 s1, Post W H W1 H1 ∧ SR (.of X) W1 s1 σ1 H1 ∧ sWhile m tc f s1 = .ok k s', ⟨n, W, s, .refl, hs, e1⟩, ?_⟩
  rintro m σ1 H1 ⟨W1, s1, p1, hs1, e⟩
  cases m with
  | zero => cases e
  | succ m =>
    obtain ⟨b, s2, eb, e2⟩ := M.bind_ok e
    refine ⟨W1, s1, hs1, b, s2, eb, fun W2 H2 p2 hs2 => ?_⟩
    cases b with
    | false =>
      cases e2
      exact iteF (K W2 σ1 H2 (p1.trans p2) hs2)
    | true =>
      refine iteT ⟨fun σ' H' => ∃ W3 s3, Post W H W3 H' ∧ SR (.of X) W3 s3 σ' H' ∧ sWhile m tc f s3 = .ok k s', fun σ' H' h => ⟨m, Nat.lt_succ_self m, h⟩, ?_⟩
      obtain ⟨k1, s3, ek, e3⟩ := M.bind_ok e2
      refine ⟨W2, s2, hs2, k1, s3, ek, fun W3 σ3 H3 p3 => ?_⟩
      have p12 : Post W H W2 H2 := p1.trans p2
      have p : Post W H W3 H3 := p12.trans p3
      cases k1 with
      | nx => exact fun hs3 => ⟨W3, s3, p, hs3, e3⟩
      | cont => exact fun hs3 => ⟨W3, s3, p, hs3, e3⟩
      | brk => cases e3; exact K W3 σ3 H3 p
      | ret o => cases e3; exact K W3 σ3 H3 p
      | rtn o => cases e3; exact fun c fp a => K W3 σ3 H3 p c fp (a.mono fun a n => p12.fresh n)
theorem fs_break : FS X (.Break pos) (fun s => .ok .brk s) := by
  refine ⟨ps_break.imp fun D σ H ⟨W, s, hs, k, s', e1, K⟩ => ?_⟩
  cases e1
  exact K W σ H .refl hs
theorem fs_cont : FS X (.Continue pos) (fun s => .ok .cont s) := by
  refine ⟨ps_continue.imp fun D σ H ⟨W, s, hs, k, s', e1, K⟩ => ?_⟩
  cases e1
  exact K W σ H .refl hs

/-! ### what is walked -/
/-- the iterator J hands out the items xs, one by one -/
def JR (g : Gx) (W : Wd) (H : Hp) (J : It) (xs : List Val) : Prop := ∀ W1 H1 s1 (σ1 : L2.St), Post W H W1 H1 → SR g W1 s1 σ1 H1 → ∀ i : Nat,
  (∀ x, xs[i]? = some x → J.go i H1 ∧ ∀ c H2, J.yld i H1 c H2 → Same H1 H2 ∧ VR g W1 H2 x c) ∧ (xs.length = i → J.stop i H1)
def tI (g : Gx) (f : M (List Val)) : TI := fun σ H R => ∃ W s, SR g W s σ H ∧ ∃ xs s', f s = .ok xs s' ∧ ∀ W' H' J, Post W H W' H' → SR g W' s' σ H' → JR g W' H' J xs → R J H'
structure FI (X : Cx) (tg iter : Expr) (f : M (List Val)) : Prop where
  pi : PI X tg iter (tI (.of X) f)
theorem _root_.L2.PI.imp {tg iter : Expr} {t t' : TI} (h : PI X tg iter t) (i : ∀ σ H Q, t' σ H Q → t σ H Q) : PI X tg iter t' := ⟨fun pins s σ H Q I q => h.run pins s σ H Q I (i σ H Q q)⟩
def sLoop (g : Val → M Unit) (f : SM) : List Val → SM
  | [] => pure .nx
  | x :: xs => do
    g x
    let k ← f
    match k with
    | .nx => sLoop g f xs
    | .cont => sLoop g f xs
    | .brk => pure .nx
    | .ret o => pure (.ret o)
    | .rtn o => pure (.rtn o)
def sFor (g : Val → M Unit) (fi : M (List Val)) (f : SM) : SM := do
  let xs ← fi
  sLoop g f xs
theorem drop_cons {α : Type} {xs : List α} {i : Nat} {x : α} (h : xs[i]? = some x) : xs.drop i = x :: xs.drop (i + 1) := by
  obtain ⟨hl, rfl⟩ := List.getElem?_eq_some_iff.mp h
  exact List.drop_eq_getElem_cons hl
theorem tS_for {fi : M (List Val)} {g : Val → M Unit} {gx : Gx} {D : Ends} {σ : L2.St} {H : Hp} (h : tS gx (sFor g fi f) D σ H) : tFor (tI gx fi) (tG gx g) (tS gx f) D σ H := by
  obtain ⟨W, s, hs, k, s', e1, K⟩ := h
  obtain ⟨xs, s1, ex, e2⟩ := M.bind_ok e1
  refine ⟨W, s, hs, xs, s1, ex, fun W1 H1 J p1 hs1 jr => ?_⟩
  refine ⟨fun i m σ2 H2 => m = xs.length - i ∧ i ≤ xs.length ∧ ∃ W2 s2, Post W1 H1 W2 H2 ∧ SR gx W2 s2 σ2 H2 ∧ sLoop g f (xs.drop i) s2 = .ok k s', ⟨xs.length, rfl, Nat.zero_le _, W1, s1, .refl, hs1, e2⟩, ?_⟩
  rintro i m σ2 H2 ⟨rfl, hi, W2, s2, p2, hs2, e⟩
  cases q : xs[i]? with
  | none =>
    have hl : xs.length ≤ i := List.getElem?_eq_none_iff.mp q
    rw [List.drop_eq_nil_of_le hl] at e
    cases e
    exact .inl ⟨(jr W2 H2 _ σ2 p2 hs2 i).2 (Nat.le_antisymm hl hi), K W2 σ2 H2 (p1.trans p2) hs2⟩
  | some x =>
    obtain ⟨hlt, _⟩ := List.getElem?_eq_some_iff.mp q
    obtain ⟨go, yl⟩ := (jr W2 H2 _ σ2 p2 hs2 i).1 x q
    refine .inr ⟨go, fun σ' H' => ∃ W3 s3, Post W1 H1 W3 H' ∧ SR gx W3 s3 σ' H' ∧ sLoop g f (xs.drop (i + 1)) s3 = .ok k s', fun σ' H' hh => ⟨xs.length - (i + 1), by omega, rfl, hlt, hh⟩, fun c H3 hy => ?_⟩
    obtain ⟨sm, vr⟩ := yl c H3 hy
    rw [drop_cons q] at e
    obtain ⟨_, s3, eg, e3⟩ := M.bind_ok e
    obtain ⟨k1, s4, ek, e4⟩ := M.bind_ok e3
    have p3 : Post W1 H1 W2 H3 := p2.trans (.same sm)
    refine ⟨W2, s2, x, hs2.same sm, vr, s3, eg, fun W4 σ4 H4 p4 hs4 => ⟨W4, s3, hs4, k1, s4, ek, fun W5 σ5 H5 p5 => ?_⟩⟩
    have p34 : Post W1 H1 W4 H4 := p3.trans p4
    have p : Post W1 H1 W5 H5 := p34.trans p5
    cases k1 with
    | nx => exact fun hs5 => ⟨W5, s4, p, hs5, e4⟩
    | cont => exact fun hs5 => ⟨W5, s4, p, hs5, e4⟩
    | brk => cases e4; exact K W5 σ5 H5 (p1.trans p)
    | ret o => cases e4; exact K W5 σ5 H5 (p1.trans p)
    | rtn o => cases e4; exact fun c fp a => K W5 σ5 H5 (p1.trans p) c fp (a.mono fun a n => (p1.trans p34).fresh n)
theorem fs_for {tg iter : Expr} {body : List Stmt} {fi : M (List Val)} {g : Val → M Unit} (hp : PassesOwn (model X.prog X.w) X.A X.env X.xe) (hc : Cok X) (hi : FI X tg iter fi) (hg : FG X tg g) (hb : FSs X body f)
    (hs : ∀ x, foldedSetIterable iter X.env x = pure x := by intro _; rfl) : FS X (.For tg iter body [] pos) (sFor g fi f) :=
  ⟨(ps_for hp hc.calm hi.pi hg.pg hb.ps hs).imp fun _ _ _ h => tS_for h⟩
end
end G

namespace G
open PySem PySem.Spec PyProof.Rows L2
section
variable {X : Cx} {tg e a b : Expr} {f fa fb : EM} {fs : M (List Opd)} {pos p : Pos}
/-! ### walking lists, tuples, texts, ranges -/
/-- the signs of a text -/
def signs (x : Str) : List Val := x.cps.toList.map fun c => .str ⟨#[c]⟩
def seqOf : Val → Option (List Val)
  | .lst xs => some xs
  | .tup xs => some xs
  | .scr xs => some xs
  | .str x => some (signs x)
  | _ => none
/-- a list, tuple or text that is nobody's own -/
def iSeq (f : EM) : M (List Val) := do
  let o ← f
  M.opt (o.toVal.bind seqOf)
theorem LstAt.jr {g : Gx} {W : Wd} {H : Hp} {p : Addr} {cs : List V} {xs : List Val} (r : LstAt g.K W H p cs) (t : VRs g W H xs cs) : JR g W H (Itl g.K p) xs := fun W1 H1 s1 σ1 po hs i => by
  have r1 := r.mono po
  have t1 := t.mono po
  refine ⟨fun x hx => ?_, fun hl => ⟨cs, r1.sq, by rw [← t.length]; exact Nat.le_of_eq hl⟩⟩
  obtain ⟨c, hc, vr⟩ := t1.get hx
  refine ⟨⟨cs, c, r1.sq, hc⟩, fun c' H2 ⟨e, q⟩ => ?_⟩
  subst e
  have : c' = c := Option.some.inj ((q cs r1.sq).symm.trans hc)
  subst this
  exact ⟨Same.refl _, vr⟩
theorem tup_jr {g : Gx} {W : Wd} {H : Hp} {p : Addr} {cs : List V} {xs : List Val} (n : ¬ W.forb p) (r : H p = some (.tup cs)) (t : VRs g W H xs cs) : JR g W H (Itt g.K p) xs := fun W1 H1 s1 σ1 po hs i => by
  have r1 : SqT g.K H1 p cs := .of (po.ex n r)
  have t1 := t.mono po
  refine ⟨fun x hx => ?_, fun hl => ⟨cs, r1, by rw [← t.length]; exact Nat.le_of_eq hl⟩⟩
  obtain ⟨c, hc, vr⟩ := t1.get hx
  refine ⟨⟨cs, c, r1, hc⟩, fun c' H2 ⟨e, q⟩ => ?_⟩
  subst e
  have : c' = c := Option.some.inj ((q cs r1).symm.trans hc)
  subst this
  exact ⟨Same.refl _, vr⟩
theorem sok_one {x : Str} (h : SOk x) {i : Nat} {c : Nat} (hc : x.cps.toList[i]? = some c) : SOk ⟨#[c]⟩ := by
  refine .mk ?_ (by show 1 ≤ lim; decide)
  have h1 := h.ok
  unfold PyData.strOk at h1 ⊢
  rw [Array.all_eq_true_iff_forall_mem] at h1 ⊢
  intro d hd
  have e : d = c := by simpa using hd
  subst e
  exact h1 _ (by rw [← Array.mem_toList_iff]; exact List.mem_of_getElem? hc)
theorem str_jr {g : Gx} {W : Wd} {H : Hp} {x : Str} (hx : SOk x) : JR g W H (Its x) (signs x) := fun W1 H1 s1 σ1 po hs i => by
  unfold signs
  refine ⟨fun y hy => ?_, fun hl => show x.cps.size ≤ i by simpa using Nat.le_of_eq hl⟩
  rw [List.getElem?_map] at hy
  cases q : x.cps.toList[i]? with
  | none => rw [q] at hy; cases hy
  | some c =>
    rw [q] at hy
    cases hy
    have hc : x.cps[i]? = some c := by rw [← Array.getElem?_toList]; exact q
    obtain ⟨hl, _⟩ := List.getElem?_eq_some_iff.mp q
    refine ⟨show i < x.cps.size by simpa using hl, fun v H2 ⟨e, c', hc', ev⟩ => ?_⟩
    subst e ev
    rw [hc] at hc'
    cases hc'
    exact ⟨Same.refl _, .str _ (sok_one hx q)⟩
/-- a list, a tuple or a text, whichever comes -/
def iSeqR (K : PySem.W.Frag) (tl : TE) : TI := fun σ H R => tl σ H fun x H1 => (∃ a, x = .ref a ∧ (((∃ xs, SqL K H1 a xs) ∧ R (Itl K a) H1) ∨ ((∃ xs, SqT K H1 a xs) ∧ R (Itt K a) H1))) ∨ ∃ z, x = .str z ∧ R (Its z) H1
theorem pi_seq {l : Expr} {tl : TE} (hl : PE X l tl) : PI X tg l (iSeqR X.K tl) := by
  refine ⟨fun pins s σ H R I h => ?_⟩
  refine thn (hl.run pins s σ H _ I h) fun v s1 ⟨x, H1, I1, r, q⟩ => ?_
  rcases q with ⟨a, e, q⟩ | ⟨z, e, q⟩
  · subst e
    cases r
    rcases q with ⟨⟨xs, hq⟩, q⟩ | ⟨⟨xs, hq⟩, q⟩
    · obtain ⟨its, rv, p, hz⟩ := I1.list hq
      refine wpAny_pyIter_list p.isList ?_
      refine ⟨s1.heap.objs.size, [s1.heap.objs.size], _, _, H1, rfl, I1.kept (t' := s1.toks) fun b o e => Heap.get?_push_of_some _ e, turn_list a _, ⟨_, Heap.get?_push_size _ rfl, rfl, rfl⟩, fun b hb => ?_, q⟩
      have e : b = s1.heap.objs.size := by simpa using hb
      subst e
      exact I1.fpOk (Nat.le_refl _) (I1.hok.fresh (Nat.le_refl _))
    · obtain ⟨its, rv, p, hz⟩ := I1.tuple hq
      refine wpAny_pyIter_tuple (show s1.heap.IsTuple a its.toArray from p) ?_
      refine ⟨s1.heap.objs.size, [s1.heap.objs.size], _, _, H1, rfl, I1.kept (t' := s1.toks) fun b o e => Heap.get?_push_of_some _ e, turn_tuple a _, ⟨_, Heap.get?_push_size _ rfl, rfl, rfl⟩, fun b hb => ?_, q⟩
      have e : b = s1.heap.objs.size := by simpa using hb
      subst e
      exact I1.fpOk (Nat.le_refl _) (I1.hok.fresh (Nat.le_refl _))
  · subst e
    obtain ⟨t, rfl⟩ := r
    cases ha : z.cps.all (· < 128)
    · exact wpAny_pyIter_wide ha (pi_one (tk := s1.toks) I1 _ (turn_str _ z t "str_iterator" (.inr rfl)) ⟨_, Heap.get?_push_size _ rfl, rfl, rfl⟩ q)
    · exact wpAny_pyIter_ascii ha (pi_one (tk := s1.toks) I1 _ (turn_str _ z t "str_ascii_iterator" (.inl rfl)) ⟨_, Heap.get?_push_size _ rfl, rfl, rfl⟩ q)
theorem fi_seq (h : FE X e f) : FI X tg e (iSeq f) := by
  refine ⟨(pi_seq h.pe).imp fun σ H R ⟨W, s, hs, xs, s', e1, K⟩ => ?_⟩
  obtain ⟨o, s1, ea, e2⟩ := M.bind_ok e1
  obtain ⟨q1, e3⟩ := opt_ok e2
  obtain ⟨v, ev, e4⟩ := bind_some e3
  subst q1
  refine ⟨W, s, hs, o, _, ea, fun W1 H1 c p1 hs1 d => ?_⟩
  cases d.toVal ev with
  | tup n r t => cases e4; exact .inl ⟨_, rfl, .inr ⟨⟨_, .of r⟩, K W1 H1 _ p1 hs1 (tup_jr n r t)⟩⟩
  | lst f r t => cases e4; exact .inl ⟨_, rfl, .inl ⟨⟨_, .of r⟩, K W1 H1 _ p1 hs1 (LstAt.jr (.inl ⟨f, .inl r⟩) t)⟩⟩
  | scr r t => cases e4; exact .inl ⟨_, rfl, .inl ⟨⟨_, r.sq⟩, K W1 H1 _ p1 hs1 (r.jr t)⟩⟩
  | str x h => cases e4; exact .inr ⟨x, rfl, K W1 H1 _ p1 hs1 (str_jr h)⟩
  | non => cases e4
  | bl => cases e4
  | int => cases e4
  | dctK => cases e4
  | dctN => cases e4
  | ref => cases e4
  | cls => cases e4
def big : Int := 4000000000
theorem big_lt : big = 4000000000 := rfl
def intsV (lo : Int) (n : Nat) : List Val := (List.range n).map fun i => .int (lo + (i : Nat))
theorem rng_jr {g : Gx} {W : Wd} {H : Hp} {lo : Int} {n : Nat} : JR g W H (Itr lo n) (intsV lo n) := fun W1 H1 s1 σ1 po hs i => by
  unfold intsV
  refine ⟨fun x hx => ?_, fun hl => show n ≤ i by simpa using Nat.le_of_eq hl⟩
  rw [List.getElem?_map] at hx
  by_cases hi : i < n
  · rw [List.getElem?_range hi] at hx
    cases hx
    exact ⟨hi, fun c H2 ⟨e1, e2⟩ => by subst e1 e2; exact ⟨Same.refl _, .int _⟩⟩
  · rw [List.getElem?_eq_none (by simpa using hi)] at hx
    cases hx
def rng1 : List Val → Option (List Val)
  | [.int n] => if -big ≤ n ∧ n ≤ big then some (intsV 0 n.toNat) else none
  | _ => none
def rng2 : List Val → Option (List Val)
  | [.int a, .int b] => if -big ≤ a ∧ a ≤ big ∧ -big ≤ b ∧ b ≤ big then some (intsV a (b - a).toNat) else none
  | _ => none
def iRng (o : List Val → Option (List Val)) (fs : M (List Opd)) : M (List Val) := do
  let os ← fs
  M.opt ((toVals os).bind o)
theorem fi_range1 (hg : Gl X "range") (hm : X.mg "range" = none) (ha : FA X [a] fs) (hs : starEach [a] X.env = [(false, eval a X.env)] := by rfl) : FI X tg (.Call (.Name "range" p) [a] [] pos) (iRng rng1 fs) := by
  refine ⟨(pi_range1 hg hm ha.pa hs).imp fun σ H R ⟨W, s, hs, xs, s', e1, K⟩ => ?_⟩
  obtain ⟨o, s1, ea, e2⟩ := M.bind_ok e1
  obtain ⟨q1, e3⟩ := opt_ok e2
  obtain ⟨v, ev, e4⟩ := bind_some e3
  subst q1
  refine ⟨W, s, hs, o, _, ea, fun W1 H1 cs p1 hs1 d => ?_⟩
  have r := d.toVals ev
  unfold rng1 at e4
  split at e4
  · rename_i n
    split at e4
    · rename_i hb
      cases e4
      cases r with
      | cons h t =>
        cases h
        cases t
        have := big_lt
        exact ⟨n, rfl, by omega, by omega, K W1 H1 _ p1 hs1 rng_jr⟩
    · cases e4
  · cases e4
theorem fi_range2 (hg : Gl X "range") (hm : X.mg "range" = none) (ha : FA X [a, b] fs) (hs : starEach [a, b] X.env = [(false, eval a X.env), (false, eval b X.env)] := by rfl) (hs2 : starEach [b] X.env = [(false, eval b X.env)] := by rfl) :
    FI X tg (.Call (.Name "range" p) [a, b] [] pos) (iRng rng2 fs) := by
  refine ⟨(pi_range2 hg hm ha.pa hs hs2).imp fun σ H R ⟨W, s, hs, xs, s', e1, K⟩ => ?_⟩
  obtain ⟨o, s1, ea, e2⟩ := M.bind_ok e1
  obtain ⟨q1, e3⟩ := opt_ok e2
  obtain ⟨v, ev, e4⟩ := bind_some e3
  subst q1
  refine ⟨W, s, hs, o, _, ea, fun W1 H1 cs p1 hs1 d => ?_⟩
  have r := d.toVals ev
  unfold rng2 at e4
  split at e4
  · rename_i n m
    split at e4
    · rename_i hb
      cases e4
      cases r with
      | cons h t =>
        cases h
        cases t with
        | cons h t =>
          cases h
          cases t
          have := big_lt
          exact ⟨n, m, rfl, by omega, K W1 H1 _ p1 hs1 rng_jr⟩
    · cases e4
  · cases e4

/-! ### slices -/
/-- a part: left out, or an int -/
def tO (g : Gx) (f : M (Option Int)) : TO := fun σ H Q => ∃ W s, SR g W s σ H ∧ ∃ o s', f s = .ok o s' ∧ ∀ W' H', Post W H W' H' → SR g W' s' σ H' → Q o H'
structure FO (X : Cx) (e : Option Expr) (f : M (Option Int)) : Prop where
  po : PO X e (tO (.of X) f)
theorem _root_.L2.PO.imp {e : Option Expr} {t t' : TO} (h : PO X e t) (i : ∀ σ H Q, t' σ H Q → t σ H Q) : PO X e t' := ⟨fun pins s σ H Q I q => h.run pins s σ H Q I (i σ H Q q)⟩
def oNone : M (Option Int) := fun s => .ok none s
def Opd.int : Opd → Option Int
  | .val (.int i) => some i
  | _ => none
def oSome (f : EM) : M (Option Int) := do
  let o ← f
  M.opt (o.int.map some)
theorem fo_none : FO X none oNone := by
  refine ⟨po_none.imp fun σ H Q ⟨W, s, hs, o, s', e1, K⟩ => ?_⟩
  cases e1
  exact K W H .refl hs
theorem DR.int {g : Gx} {W : Wd} {σ : L2.St} {H : Hp} {o : Opd} {c : V} {i : Int} (d : DR g W σ H o c) (e : o.int = some i) : c = .int i := by
  unfold Opd.int at e
  split at e
  · cases e
    cases d with
    | val h => cases h; rfl
  · cases e
theorem fo_some (h : FE X e f) : FO X (some e) (oSome f) := by
  refine ⟨(po_some h.pe).imp fun σ H Q ⟨W, s, hs, o, s', e1, K⟩ => ?_⟩
  obtain ⟨o1, s1, ea, e2⟩ := M.bind_ok e1
  obtain ⟨q1, e3⟩ := opt_ok e2
  obtain ⟨i, ei, q2⟩ := map_some e3
  subst q1 q2
  exact ⟨W, s, hs, o1, _, ea, fun W1 H1 c p1 hs1 d => ⟨i, d.int ei, K W1 H1 p1 hs1⟩⟩
def ImpS (g : Gx) (o : Val → Option Int → Option Int → Option Val) (r : V → Option Int → Option Int → Hp → VK → Prop) : Prop := ∀ (W : Wd) (s : Stt) (σ : L2.St) (H : Hp) x l u z cx (Q : VK), SR g W s σ H → BR g W H x cx → o x l u = some z →
  (∀ H' c, Same H H' → VR g W H' z c → Q c H') → r cx l u H Q
def opS (o : Val → Option Int → Option Int → Option Val) (f : EM) (l u : M (Option Int)) : EM := do
  let a ← f
  let i ← l
  let j ← u
  let x ← rdM a
  M.opt ((o x i j).map .val)
theorem fe_slice {r : V → Option Int → Option Int → Hp → VK → Prop} {o : Val → Option Int → Option Int → Option Val} {lo hi : Option Expr} {fl fu : M (Option Int)} {p2 : Pos} (hr : SlR X r) (ho : ImpS (.of X) o r) (he : FE X e f) (hl : FO X lo fl) (hu : FO X hi fu) :
    FE X (.Subscript e (.Slice lo hi none p2) pos) (opS o f fl fu) := by
  refine ⟨(pe_slice hr he.pe hl.po hu.po).imp fun σ H Q ⟨W, s, hs, o1, s', e1, k⟩ => ?_⟩
  obtain ⟨a, s1, ea, e2⟩ := M.bind_ok e1
  obtain ⟨i, s2, ei, e3⟩ := M.bind_ok e2
  obtain ⟨j, s3, ej, e4⟩ := M.bind_ok e3
  obtain ⟨x, s4, ex0, e5⟩ := M.bind_ok e4
  obtain ⟨q1, ex⟩ := rdM_ok ex0
  obtain ⟨q2, ez0⟩ := opt_ok e5
  obtain ⟨z, ez, q3⟩ := map_some ez0
  subst q1 q2 q3
  refine ⟨W, s, hs, a, s1, ea, fun W1 H1 cx p1 hs1 d1 => ⟨W1, s1, hs1, i, s2, ei, fun W2 H2 p2 hs2 => ⟨W2, s2, hs2, j, _, ej, fun W3 H3 p3 hs3 => ?_⟩⟩⟩
  exact ho W3 _ σ H3 x i j z cx Q hs3 (hs3.read (d1.mono (p2.trans p3)) ex) ez fun H' c sm v => k W3 H' c (((p1.trans p2).trans p3).trans (.same sm)) (hs3.same sm) (.val v)
end

/-! ### defs -/
/-- a def's function: arguments and cells; a value or a container of its own comes back -/
inductive FRes where
  | ok (o : OV) (hp : List OV) | exn (c : Str) (fs : List (Str × Val)) (hp : List OV) | bad
abbrev FM := List Val → List OV → FRes
def startS (n : Nat) (args : List Val) : List (Option OV) := args.map (fun x => some (.v x)) ++ List.replicate (n - args.length) none
def finish : Res Ctl → FRes
  | .ok .nx s => .ok (.v .non) s.hp
  | .ok (.ret (.val v)) s => .ok (.v v) s.hp
  | .ok (.ret (.sl i)) s => match s.sl[i]? with
    | some (some o) => .ok o s.hp
    | _ => .bad
  | .ok (.rtn o) s => .ok o s.hp
  | .exn c fs s => .exn c fs s.hp
  | _ => .bad
def runF (n : Nat) (f : SM) : FM := fun args hp => finish (f ⟨startS n args, hp⟩)
def spF (g : Gx) (m : Nat) (F : FM) : Sp := fun vs H Q _ => ∃ W args hp, SR g W ⟨args.map (fun x => some (.v x)), hp⟩ (vs.map some) H ∧ vs.length = m ∧ (∀ l ∈ W.ow, l = []) ∧ ∃ o hp', F args hp = .ok o hp' ∧
  ∀ W' H' c, Post W H W' H' → SR g W' ⟨[some o], hp'⟩ [some c] H' → Q c H'
theorem spF_len {g : Gx} {m : Nat} {F : FM} {ps : List Str} (h : m = ps.length) : ∀ vs H Q E, spF g m F vs H Q E → vs.length = ps.length := fun vs H Q E ⟨_, _, _, _, e, _⟩ => by rw [e, h]
section
variable {g : Gx} {W W' : Wd} {H H' : Hp} {σ : L2.St}
/-- the world of one slot alone: the others' containers forgotten -/
def Wd.only (W : Wd) (fp : List Addr) : Wd := { W with ow := [fp] }
theorem only_own {fp : List Addr} (h : fp = [] ∨ fp ∈ W.ow) {a : Addr} (z : (W.only fp).own a) : W.own a := by
  rcases z with z | ⟨l, hl, ha⟩
  · exact .inl z
  · have e : l = fp := by simpa [Wd.only] using hl
    subst e
    rcases h with h | h
    · rw [h] at ha
      exact absurd ha (by simp)
    · exact .inr ⟨_, h, ha⟩
theorem Wle.only {fp : List Addr} (h : fp = [] ∨ fp ∈ W.ow) : Wle W (W.only fp) := ⟨fun a z => z.imp id (only_own h), fun _ _ r h => ⟨r, h⟩⟩
theorem SR.only {s : Stt} {o : OV} {c : V} {fp : List Addr} (h : SR g W s σ H) (r : OR g W H o c fp) (hf : fp = [] ∨ fp ∈ W.ow) : SR g (W.only fp) ⟨[some o], s.hp⟩ [some c] H where
  len := rfl
  leno := rfl
  lenc := h.lenc
  slot := fun i o' q => by
    cases i with
    | zero => cases q; exact ⟨c, fp, rfl, rfl, r.wle (.only hf)⟩
    | succ i => simp at q
  cell := fun i o q => by
    obtain ⟨p, r, h2, h3⟩ := h.cell i o q
    exact ⟨p, r, h2, h3.wle (.only hf)⟩
  djo := fun i j l m a h1 h2 _ _ => by
    cases i with
    | zero => cases j with
      | zero => rfl
      | succ j => simp [Wd.only] at h2
    | succ i => simp [Wd.only] at h1
  djc := h.djc
  djx := fun l m a h1 h2 h3 h4 => by
    have e : m = fp := by simpa [Wd.only] using h2
    subst e
    rcases hf with hf | hf
    · subst hf; cases h4
    · exact h.djx l m a h1 hf h3 h4
  trk := fun a z => by
    refine h.trk a ?_
    rcases z with z | ⟨l, hl, ha⟩
    · exact .inl z
    · have e : l = fp := by simpa [Wd.only] using hl
      subst e
      rcases hf with hf | hf
      · subst hf; cases ha
      · exact .inr ⟨_, hf, ha⟩
  trk0 := h.trk0
theorem Post.only {fp : List Addr} (p : Post W H W' H') (hf : fp = [] ∨ fp ∈ W'.ow) : Post W H (W'.only fp) H' := ⟨p.m0, p.m1, p.keep, fun a z => p.sub a (only_own hf z), p.refs, p.tr⟩
/-- .. of a new container -/
theorem Post.onlyN {fp : List Addr} (p : Post W H W' H') (n : ∀ a ∈ fp, ¬ W'.forb a ∧ H a = none) : Post W H (W'.only fp) H' := ⟨p.m0, p.m1, p.keep, fun a z => by
  rcases z with z | ⟨l, hl, ha⟩
  · exact p.sub a (.inl z)
  · have e : l = fp := by simpa [Wd.only] using hl
    subst e
    exact .inr (n a ha).2, p.refs, p.tr⟩
theorem Apart.only {s : Stt} {o : OV} {c : V} {fp : List Addr} {H0 : Hp} (h : Apart g H0 W s σ H o c fp) : SR g (W.only fp) ⟨[some o], s.hp⟩ [some c] H := by
  obtain ⟨hs, r, n⟩ := h
  have hle : Wle (W.plus fp) (W.only fp) := ⟨fun a z => by
    rcases z with z | z | ⟨l, hl, ha⟩
    · exact .inl (.inl z)
    · exact .inr (.inl z)
    · have e : l = fp := by simpa [Wd.only] using hl
      subst e
      exact .inl (.inr ha), fun _ _ r h => ⟨r, h⟩⟩
  refine ⟨rfl, rfl, hs.lenc, fun i o' q => ?_, fun i o q => ?_, fun i j l m a h1 h2 _ _ => ?_, hs.djc, fun l m a h1 h2 h3 h4 => ?_, fun a z => ?_, fun a z => hs.trk0 a (.inl z)⟩
  · cases i with
    | zero => cases q; exact ⟨c, fp, rfl, rfl, r.wle hle⟩
    | succ i => simp at q
  · obtain ⟨p, r, h2, h3⟩ := hs.cell i o q
    exact ⟨p, r, h2, h3.wle hle⟩
  · cases i with
    | zero => cases j with
      | zero => rfl
      | succ j => simp [Wd.only] at h2
    | succ i => simp [Wd.only] at h1
  · have e : m = fp := by simpa [Wd.only] using h2
    subst e
    exact (n a h4).1 (.inr (.inl ⟨l, h1, h3⟩))
  · rcases z with z | ⟨l, hl, ha⟩
    · obtain ⟨q1, q2⟩ := hs.trk a (.inl z)
      exact ⟨q1, fun y => q2 (.inl y)⟩
    · have e : l = fp := by simpa [Wd.only] using hl
      subst e
      exact ⟨r.tracked a ha, fun y => (n a ha).1 (.inl y)⟩
/-- the slots of a def at its start -/
theorem startS_get {n i : Nat} {args : List Val} {o : OV} (h : (startS n args)[i]? = some (some o)) : ∃ x, args[i]? = some x ∧ o = .v x := by
  unfold startS at h
  by_cases hi : i < args.length
  · rw [List.getElem?_append_left (by simpa using hi), List.getElem?_map] at h
    cases q : args[i]? with
    | none => rw [q] at h; cases h
    | some x => rw [q] at h; cases h; exact ⟨x, rfl, rfl⟩
  · rw [List.getElem?_append_right (by simpa using hi), List.getElem?_replicate] at h
    split at h <;> cases h
theorem SR.start {N : List Str} {args : List Val} {hp : List OV} {vs : List V} (h : SR g W ⟨args.map (fun x => some (.v x)), hp⟩ (vs.map some) H) (hw : ∀ l ∈ W.ow, l = []) (hl : args.length ≤ N.length) :
    SR g { W with ow := List.replicate N.length [] } ⟨startS N.length args, hp⟩ (start N vs) H := by
  have la : args.length = vs.length := by have := h.len; simpa using this
  have hle : Wle W { W with ow := List.replicate N.length [] } := ⟨fun a z => by
    rcases z with z | z | ⟨l, h1, h2⟩
    · exact .inl z
    · exact .inr (.inl z)
    · have : l = [] := List.eq_of_mem_replicate h1
      subst this
      exact absurd h2 (by simp), fun _ _ r h => ⟨r, h⟩⟩
  refine ⟨?_, ?_, h.lenc, fun i o q => ?_, fun i o q => ?_, fun i j l m a h1 h2 h3 h4 => ?_, h.djc, fun l m a h1 h2 h3 h4 => ?_, fun a z => ?_, h.trk0⟩
  · simp [startS, L2.start, la]
  · simp [startS]; omega
  · obtain ⟨x, hx, rfl⟩ := startS_get q
    have hi : i < args.length := (List.getElem?_eq_some_iff.mp hx).1
    obtain ⟨c, fp, h1, h2, h3⟩ := h.slot i (.v x) (by rw [List.getElem?_map, hx]; rfl)
    refine ⟨c, [], ?_, ?_, ?_⟩
    · unfold L2.start
      rw [List.getElem?_append_left (by rw [List.length_map]; omega)]
      exact h1
    · show (List.replicate N.length [])[i]? = _
      rw [List.getElem?_replicate, if_pos (by omega)]
    · cases h3 with
      | v h3 => exact .v (h3.wle hle)
  · obtain ⟨p, r, h2, h3⟩ := h.cell i o q
    exact ⟨p, r, h2, h3.wle hle⟩
  · have : l = [] := List.eq_of_mem_replicate (List.mem_of_getElem? h1)
    subst this; cases h3
  · have : m = [] := List.eq_of_mem_replicate h2
    subst this; cases h4
  · refine h.trk a ?_
    rcases z with z | ⟨l, h1, h2⟩
    · exact .inl z
    · have : l = [] := List.eq_of_mem_replicate h1
      subst this; cases h2
theorem Post.startW {n : Nat} (hw : ∀ l ∈ W.ow, l = []) (p : Post { W with ow := List.replicate n [] } H W' H') : Post W H W' H' := by
  have e : ∀ a, Wd.own { W with ow := List.replicate n [] } a ↔ W.own a := fun a => by
    constructor
    · rintro (z | ⟨l, h1, h2⟩)
      · exact .inl z
      · have : l = [] := List.eq_of_mem_replicate h1
        subst this; cases h2
    · rintro (z | ⟨l, h1, h2⟩)
      · exact .inl z
      · rw [hw l h1] at h2; cases h2
  exact ⟨p.m0, p.m1, fun a o h n => p.keep a o h fun z => n ((e a).mp z), fun a z => (p.sub a z).imp (fun q => (e a).mp q) id, p.refs, p.tr⟩
/-- THE RULE for a def: its body's function -/
theorem fn_ok {P : Program} {w : World} {K : PySem.W.Frag} {mg : Str → Option Value} {base : Heap} {x qual : Str} {st : Stmt} {f : Addr} {fd : FuncData} {N ps : List Str} {k : Nat} {sm : SM} (F : Fun K x qual st f fd) (S : FnScope N ps (defScope st)) (hm : ps.length ≤ N.length)
    (hbody : ∀ (cdv : Value) (A : Around) (outer : List Env) (s : Shared) (H : Hp) (E : XK), Room k (A.deeper (envOfC qual (defScope st) s.heap.objs.size f cdv)) → FSs (cxOf CX0 P w K mg base N qual (defScope st) f cdv A outer s H E).nox (defBody st) sm) :
    FnOk P w K mg base CX0 (k + 1) f fd ps (spF ⟨P, w, K⟩ ps.length (runF N.length sm)) := by
  refine F.ok S (spF_len rfl) fun cdv A outer s H vs Q E hr h => ?_
  obtain ⟨W, args, hp, hs, hl, hw, o, hp', e, q⟩ := h
  have la : args.length = vs.length := by have := hs.len; simpa using this
  refine ⟨_, (hbody cdv A outer s H E hr).ps, ?_⟩
  show tS ⟨P, w, K⟩ sm _ (start N vs) H
  have h0 := hs.start (N := N) hw (by omega)
  unfold runF at e
  cases er : sm ⟨startS N.length args, hp⟩ with
  | bad => rw [er] at e; cases e
  | exn c fs s => rw [er] at e; cases e
  | ok c s1 =>
    rw [er] at e
    refine ⟨_, _, h0, c, s1, er, fun W1 σ1 H1 p1 => ?_⟩
    have p2 := p1.startW hw
    cases c with
    | rtn o1 =>
      cases e
      intro c fp a
      exact q (W1.only fp) H1 c (p2.onlyN a.2.2) a.only
    | nx =>
      intro hs1
      cases e
      exact q (W1.only []) H1 .non (p2.only (.inl rfl)) (hs1.only (.v .non) (.inl rfl))
    | brk => cases e
    | cont => cases e
    | ret o1 =>
      intro hs1 c d
      cases d with
      | val h =>
        cases e
        exact q (W1.only []) H1 c (p2.only (.inl rfl)) (hs1.only (.v h) (.inl rfl))
      | @sl i _ hi =>
        cases q1 : s1.sl[i]? with
        | none => simp [finish, q1] at e
        | some o2 =>
          cases o2 with
          | none => simp [finish, q1] at e
          | some o2 =>
            have e2 : o2 = o ∧ s1.hp = hp' := by simpa [finish, q1] using e
            obtain ⟨rfl, rfl⟩ := e2
            obtain ⟨c', fp, h1, h2, h3⟩ := hs1.slot i o2 q1
            rw [hi] at h1
            cases h1
            exact q (W1.only fp) H1 c (p2.only (.inr (List.mem_of_getElem? h2))) (hs1.only h3 (.inr (List.mem_of_getElem? h2)))
end

/-! ### a call of a def -/
/-- the callee's world: the caller's own containers forbidden -/
def Wd.callee (W : Wd) (n : Nat) : Wd := { m0 := fun a => W.m0 a ∨ ∃ l ∈ W.ow, a ∈ l, ce := W.ce, ow := List.replicate n [] }
/-- back to the caller -/
def Wd.back (W W' : Wd) : Wd := { m0 := W.m0, ce := W'.ce, ow := W.ow }
def frzRes (s : Stt) : FRes → Res Opd
  | .ok (.v v) hp => .ok (.val v) { s with hp := hp }
  | .ok (.lst xs) hp => .ok (.val (.lst xs)) { s with hp := hp }
  | .ok (.dct kvs) hp => .ok (.val (.dct kvs)) { s with hp := hp }
  | .exn c fs hp => .exn c fs { s with hp := hp }
  | .bad => .bad
def newRes (s : Stt) : FRes → Res OV
  | .ok (.lst xs) hp => .ok (.lst xs) { s with hp := hp }
  | .ok (.dct kvs) hp => .ok (.dct kvs) { s with hp := hp }
  | .exn c fs hp => .exn c fs { s with hp := hp }
  | _ => .bad
/-- the arguments: m in all, the defaults ds filled up -/
def argsOf (m : Nat) (ds : List Val) (os : List Opd) : Option (List Val) := (toVals os).bind fun vs => if (vs ++ ds).length = m then some (vs ++ ds) else none
def callV (m : Nat) (F : FM) (ds : List Val) (fs : M (List Opd)) : EM := do
  let os ← fs
  let vs ← M.opt (argsOf m ds os)
  fun s => frzRes s (F vs s.hp)
/-- .. whose answer is a new container -/
def callN (m : Nat) (F : FM) (ds : List Val) (fs : M (List Opd)) : M OV := do
  let os ← fs
  let vs ← M.opt (argsOf m ds os)
  fun s => newRes s (F vs s.hp)
section
variable {g : Gx} {W W' : Wd} {H H' : Hp} {σ : L2.St} {s : Stt}
theorem callee_forb {n : Nat} {a : Addr} (h : (W.callee n).forb a) : W.forb a := by
  rcases h with (z | z) | z | ⟨l, h1, h2⟩
  · exact .inl z
  · exact .inr (.inr z)
  · exact .inr (.inl z)
  · have : l = [] := List.eq_of_mem_replicate h1
    subst this; cases h2
theorem Wle.callee {n : Nat} : Wle W (W.callee n) := ⟨fun _ h => callee_forb h, fun _ _ r h => ⟨r, h⟩⟩
theorem SR.callee (h : SR g W s σ H) {xs : List Val} {cs : List V} (r : VRs g W H xs cs) : SR g (W.callee xs.length) ⟨xs.map (fun x => some (.v x)), s.hp⟩ (cs.map some) H where
  len := by simp [r.length]
  leno := by simp [Wd.callee]
  lenc := h.lenc
  slot := fun i o q => by
    rw [List.getElem?_map] at q
    cases qx : xs[i]? with
    | none => rw [qx] at q; cases q
    | some x =>
      rw [qx] at q
      cases q
      obtain ⟨c, hc, vr⟩ := r.get qx
      refine ⟨c, [], by rw [List.getElem?_map, hc]; rfl, ?_, .v (vr.wle .callee)⟩
      have hi : i < xs.length := (List.getElem?_eq_some_iff.mp qx).1
      show (List.replicate _ [])[i]? = _
      rw [List.getElem?_replicate, if_pos hi]
  cell := fun i o q => by
    obtain ⟨p, r, h2, h3⟩ := h.cell i o q
    exact ⟨p, r, h2, h3.wle .callee⟩
  djo := fun i j l m a h1 h2 h3 h4 => by
    have : l = [] := List.eq_of_mem_replicate (List.mem_of_getElem? h1)
    subst this; cases h3
  djc := h.djc
  djx := fun l m a h1 h2 h3 h4 => by
    have : m = [] := List.eq_of_mem_replicate h2
    subst this; cases h4
  trk := fun a z => by
    rcases z with ⟨l, h1, h2⟩ | ⟨l, h1, h2⟩
    · refine ⟨(h.trk a (.inl ⟨l, h1, h2⟩)).1, ?_⟩
      rintro (z | ⟨m, h3, h4⟩)
      · exact (h.trk a (.inl ⟨l, h1, h2⟩)).2 z
      · exact h.djx l m a h1 h3 h2 h4
    · have : l = [] := List.eq_of_mem_replicate h1
      subst this; cases h2
  trk0 := fun a z => by
    rcases z with z | z
    · exact h.trk0 a z
    · exact (h.trk a (.inr z)).1
theorem Post.back {n : Nat} (p : Post (W.callee n) H W' H') : Post W H (W.back W') H' where
  m0 := fun _ h => h
  m1 := fun _ h => .inl h
  keep := fun a o h no => p.keep a o h fun z => by
    rcases z with z | ⟨l, h1, h2⟩
    · exact no (.inl z)
    · have : l = [] := List.eq_of_mem_replicate h1
      subst this; cases h2
  sub := fun a z => by
    rcases z with z | z
    · rcases p.sub a (.inl z) with q | q
      · rcases q with q | ⟨l, h1, h2⟩
        · exact .inl (.inl q)
        · have : l = [] := List.eq_of_mem_replicate h1
          subst this; cases h2
      · exact .inr q
    · exact .inl (.inr z)
  refs := p.refs
  tr := p.tr
theorem back_forb {n : Nat} (p : Post (W.callee n) H W' H') {a : Addr} (h : (W.back W').forb a) : W'.forb a := by
  rcases h with h | h | h
  · left
    exact p.m0 _ (.inl h)
  · exact .inr (.inl h)
  · left
    exact p.m0 _ (.inr h)
theorem Wle.back {n : Nat} (p : Post (W.callee n) H W' H') : Wle W' (W.back W') := ⟨fun _ h => back_forb p h, fun _ _ r h => ⟨r, h⟩⟩
/-- a cell's addresses stay its own -/
theorem OR.headOnly {o : OV} {p : Addr} {fp : List Addr} (h : OR g W H o (.ref p) fp) : ∀ a ∈ fp, a = p := by
  cases h with
  | v h => simp
  | lst r t => simp
  | dctK r t => simp
  | dctN r t => simp
/-- behind a call: the caller's state, with the callee's container at fp kept apart -/
theorem SR.back {n : Nat} {hp' : List OV} {o : OV} {c : V} (h : SR g W s σ H) (p : Post (W.callee n) H W' H') (h' : SR g W' ⟨[some o], hp'⟩ [some c] H') :
    ∃ fp, SR g ((W.back W').plus fp) { s with hp := hp' } σ H' ∧ OR g ((W.back W').plus fp) H' o c fp ∧ ∀ a ∈ fp, ¬ (W.back W').forb a ∧ H a = none := by
  obtain ⟨c', fp, h1, h2, h3⟩ := h'.slot 0 o rfl
  cases h1
  have hfp : fp ∈ W'.ow := List.mem_of_getElem? h2
  have hne : ∀ a ∈ fp, ¬ (W.back W').forb a ∧ H a = none := fun a ha => by
    have ho : W'.own a := .inr ⟨fp, hfp, ha⟩
    have hm := (h'.trk a ho).2
    refine ⟨?_, ?_⟩
    · rintro (z | z | z)
      · exact hm (p.m0 _ (.inl z))
      · obtain ⟨l, h4, h5⟩ := z
        exact h'.djx l fp a h4 hfp h5 ha
      · exact hm (p.m0 _ (.inr z))
    · rcases p.sub a ho with q | q
      · rcases q with ⟨l, h4, h5⟩ | ⟨l, h4, h5⟩
        · obtain ⟨i, hi⟩ := List.getElem?_of_mem h4
          have hlc := h.lenc
          have hi' : W.ce[i]? = some l := hi
          have hil : i < s.hp.length := by rw [← hlc]; exact (List.getElem?_eq_some_iff.mp hi').1
          obtain ⟨p0, r0, h6, h7⟩ := h.cell i s.hp[i] (List.getElem?_eq_getElem hil)
          rw [hi'] at h6
          cases h6
          have ea := h7.headOnly a h5
          subst ea
          obtain ⟨r', hr'⟩ := p.refs i a r0 hi
          exact (h'.djx _ fp a (List.mem_of_getElem? hr') hfp List.mem_cons_self ha).elim
        · have : l = [] := List.eq_of_mem_replicate h4
          subst this; cases h5
      · exact q
  have hle : Wle W' ((W.back W').plus fp) := ⟨fun a z => by
    rcases z with (z | z) | z
    · left; exact p.m0 _ (.inl z)
    · exact .inr (.inr ⟨fp, hfp, z⟩)
    · rcases z with z | z
      · exact .inr (.inl z)
      · left; exact p.m0 _ (.inr z), fun _ _ r h => ⟨r, h⟩⟩
  have keepF : ∀ a, ∀ l ∈ W.ow, a ∈ l → ∀ u, H a = some u → H' a = some u := fun a l hl ha u hu => p.keep a u hu fun z => by
    rcases z with ⟨m, h4, h5⟩ | ⟨m, h4, h5⟩
    · exact h.djx m l a h4 hl h5 ha
    · have : m = [] := List.eq_of_mem_replicate h4
      subst this; cases h5
  refine ⟨fp, ⟨h.len, h.leno, h'.lenc, fun i o' q => ?_, fun i o' q => ?_, h.djo, h'.djc, fun l m a h4 h5 h6 h7 => ?_, fun a z => ?_, fun a z => ?_⟩, h3.wle hle, hne⟩
  · obtain ⟨c2, fp2, g1, g2, g3⟩ := h.slot i o' q
    refine ⟨c2, fp2, g1, g2, ?_⟩
    have k : ∀ q ∈ fp2, ∀ u, H q = some u → H' q = some u := fun q hq u hu => keepF q fp2 (List.mem_of_getElem? g2) hq u hu
    have g4 : OR g (W.callee n) H o' c2 fp2 := g3.wle .callee
    exact (g4.mono p k).wle hle
  · obtain ⟨p1, r1, g1, g2⟩ := h'.cell i o' q
    exact ⟨p1, r1, g1, g2.wle hle⟩
  · have hm := (h'.trk a (.inl ⟨l, h4, h6⟩)).2
    exact hm (p.m0 _ (.inr ⟨m, h5, h7⟩))
  · rcases z with z | z
    · obtain ⟨q1, q2⟩ := h'.trk a (.inl z)
      refine ⟨q1, ?_⟩
      rintro (y | y)
      · exact q2 (p.m0 _ (.inl y))
      · exact (hne a y).1 (.inr (.inl z))
    · obtain ⟨⟨u, hu⟩, q2⟩ := h.trk a (.inr z)
      obtain ⟨u', hu'⟩ := p.tr a u hu
      refine ⟨⟨u', hu'⟩, ?_⟩
      rintro (y | y)
      · exact q2 y
      · exact (hne a y).1 (.inr (.inr z))
  · rcases z with z | z
    · obtain ⟨u, hu⟩ := h.trk0 a z
      exact p.tr a u hu
    · exact (h'.trk a (.inr ⟨fp, hfp, z⟩)).1
end
section
variable {X : Cx} {e : Expr} {es : List Expr} {fs : M (List Opd)} {pos p : Pos} {F : FM} {m : Nat} {ds : List Val}
theorem argsOf_ok {os : List Opd} {vs : List Val} (h : argsOf m ds os = some vs) : ∃ ws, toVals os = some ws ∧ vs = ws ++ ds ∧ vs.length = m := by
  obtain ⟨ws, h1, h2⟩ := bind_some h
  by_cases hl : (ws ++ ds).length = m
  · rw [if_pos hl] at h2
    cases h2
    exact ⟨ws, h1, rfl, hl⟩
  · rw [if_neg hl] at h2
    cases h2
theorem tE_callV {g : Gx} {E : XK} {σ : L2.St} {H : Hp} {Q : VK} {dvs : List V} (hd : ∀ W H, VRs g W H ds dvs)
    (h : tE g (callV m F ds fs) σ H Q) : tCall (spF g m F) dvs E (tAs g fs) σ H Q := by
  obtain ⟨W, s, hs, o1, s', e1, k⟩ := h
  obtain ⟨os, s1, ea, e2⟩ := M.bind_ok e1
  obtain ⟨vs, s2, ev, e3⟩ := M.bind_ok e2
  obtain ⟨q1, ev2⟩ := opt_ok ev
  subst q1
  obtain ⟨ws, w1, w2, w3⟩ := argsOf_ok ev2
  refine ⟨W, s, hs, os, _, ea, fun W1 H1 cs p1 hs1 d => ?_⟩
  have r : VRs g W1 H1 vs (cs ++ dvs) := by rw [w2]; exact (d.toVals w1).append (hd W1 H1)
  cases eF : F vs s2.hp with
  | bad => rw [eF] at e3; cases e3
  | exn => rw [eF] at e3; cases e3
  | ok o hp' =>
    refine ⟨W1.callee vs.length, vs, s2.hp, hs1.callee r, by rw [← r.length]; exact w3, fun l hl => List.eq_of_mem_replicate hl, o, hp', eF, fun W' H' c p2 h2 => ?_⟩
    obtain ⟨fp, b1, b2, b3⟩ := hs1.back p2 h2
    rw [eF] at e3
    cases o with
    | v v =>
      cases e3
      cases b2 with
      | v b2 => exact k (W1.back W') H' c (p1.trans p2.back) b1.unplus (.val (b2.wle .plus))
    | lst xs =>
      cases e3
      exact k (W1.back W') H' c (p1.trans p2.back) b1.unplus (.val (b2.frz (fun a ha => (b3 a ha).1) rfl))
    | dct kvs =>
      cases e3
      exact k (W1.back W') H' c (p1.trans p2.back) b1.unplus (.val (b2.frz (fun a ha => (b3 a ha).1) rfl))
theorem tN_callN {g : Gx} {E : XK} {σ : L2.St} {H : Hp} {Q : VK} {dvs : List V} (hd : ∀ W H, VRs g W H ds dvs)
    (h : tN g (callN m F ds fs) σ H Q) : tCall (spF g m F) dvs E (tAs g fs) σ H Q := by
  obtain ⟨W, s, hs, o1, s', e1, k⟩ := h
  obtain ⟨os, s1, ea, e2⟩ := M.bind_ok e1
  obtain ⟨vs, s2, ev, e3⟩ := M.bind_ok e2
  obtain ⟨q1, ev2⟩ := opt_ok ev
  subst q1
  obtain ⟨ws, w1, w2, w3⟩ := argsOf_ok ev2
  refine ⟨W, s, hs, os, _, ea, fun W1 H1 cs p1 hs1 d => ?_⟩
  have r : VRs g W1 H1 vs (cs ++ dvs) := by rw [w2]; exact (d.toVals w1).append (hd W1 H1)
  cases eF : F vs s2.hp with
  | bad => rw [eF] at e3; cases e3
  | exn => rw [eF] at e3; cases e3
  | ok o hp' =>
    refine ⟨W1.callee vs.length, vs, s2.hp, hs1.callee r, by rw [← r.length]; exact w3, fun l hl => List.eq_of_mem_replicate hl, o, hp', eF, fun W' H' c p2 h2 => ?_⟩
    obtain ⟨fp, b1, b2, b3⟩ := hs1.back p2 h2
    have b4 : ∀ a ∈ fp, ¬ (W1.back W').forb a ∧ H a = none := fun a ha => ⟨(b3 a ha).1, p1.fresh (b3 a ha).2⟩
    rw [eF] at e3
    cases o with
    | v v => cases e3
    | lst xs =>
      cases e3
      exact k (W1.back W') H' c fp (p1.trans p2.back) ⟨b1, b2, b4⟩
    | dct kvs =>
      cases e3
      exact k (W1.back W') H' c fp (p1.trans p2.back) ⟨b1, b2, b4⟩
/-- f(e, ..), a def of the text; ds: what its defaults fill up -/
theorem fe_call {CX : CXT} {k : Nat} {f : Addr} {fd : FuncData} {ps : List Str} {x : Str} {dvs : List V} {us : List Value} {E : XK} (G0 : FnOk X.prog X.w X.K X.mg X.base CX k f fd ps (spF (.of X) m F)) (hr : Room k X.A) (hg : Gl X x) (hm : X.mg x = some (.ref f)) (hk : PySem.W.keepIn X.K (.ref f) = true)
    (hb : Binds X.K fd ps us) (hd : Vals dvs us) (hv : ∀ W H, VRs (.of X) W H ds dvs) (hx : Passes CX X E)
    (ha : FA X (e :: es) fs) (hdb : (x == ("__debug__" : Str)) = false := by decide) (he : starEach (e :: es) X.env = (false, eval e X.env) :: starEach es X.env := by rfl) (hpl : (backTo pos (starEach es X.env)).any (·.1) = false := by rfl) :
    FE X (.Call (.Name x p) (e :: es) [] pos) (callV m F ds fs) :=
  ⟨(pe_call G0 hr hg hm hk hb hd hx ha.pa hdb he hpl).imp fun _ _ _ h => tE_callV hv h⟩
theorem fn_call {CX : CXT} {k : Nat} {f : Addr} {fd : FuncData} {ps : List Str} {x : Str} {dvs : List V} {us : List Value} {E : XK} (G0 : FnOk X.prog X.w X.K X.mg X.base CX k f fd ps (spF (.of X) m F)) (hr : Room k X.A) (hg : Gl X x) (hm : X.mg x = some (.ref f)) (hk : PySem.W.keepIn X.K (.ref f) = true)
    (hb : Binds X.K fd ps us) (hd : Vals dvs us) (hv : ∀ W H, VRs (.of X) W H ds dvs) (hx : Passes CX X E)
    (ha : FA X (e :: es) fs) (hdb : (x == ("__debug__" : Str)) = false := by decide) (he : starEach (e :: es) X.env = (false, eval e X.env) :: starEach es X.env := by rfl) (hpl : (backTo pos (starEach es X.env)).any (·.1) = false := by rfl) :
    FN X (.Call (.Name x p) (e :: es) [] pos) (callN m F ds fs) :=
  ⟨(pe_call G0 hr hg hm hk hb hd hx ha.pa hdb he hpl).imp fun _ _ _ h => tN_callN hv h⟩
end
end G

namespace G
open PySem PySem.Spec PyProof.Rows L2

/-! ### + -/
def vAdd : Val → Val → Option Val
  | .int a, .int b => some (.int (a + b))
  | .str a, .str b => if a.length + b.length ≤ lim then some (.str (a ++ b)) else none
  | .tup a, .tup b => if a.length + b.length ≤ lim then some (.tup (a ++ b)) else none
  | .lst a, .lst b => if a.length + b.length ≤ lim then some (.lst (a ++ b)) else none
  | _, _ => none
def rStrCat : R2 := fun x y H Q => ∃ i j, x = .str i ∧ y = .str j ∧ i.length + j.length ≤ sizeLine ∧ Q (.str (i ++ j)) H
def rAddA (K : PySem.W.Frag) : R2 := fun x y H Q => rI0 (fun i j => .int (i + j)) x y H Q ∨ (rStrCat x y H Q ∨ (rCatA K x y H Q ∨ rCat x y H Q))
theorem op_addA {X : Cx} : OpR X (binaryOp .Add) (rAddA X.K) := op_add.or (OpR.or (r := rStrCat) op_add_str (op_catA.or op_cat))
theorem sok_append {a b : Str} (ha : SOk a) (hb : SOk b) (hl : a.length + b.length ≤ lim) : SOk (a ++ b) := by
  refine .mk ?_ (by show (a.cps ++ b.cps).size ≤ lim; rw [Array.size_append]; exact hl)
  have h1 := ha.ok
  have h2 := hb.ok
  unfold PyData.strOk at h1 h2 ⊢
  show (a.cps ++ b.cps).all _ = true
  rw [Array.all_append, h1, h2] <;> rfl
section
variable {g : Gx}
theorem imp_add : Imp2 g vAdd (rAddA g.K) := by
  intro W s σ H x y z cx cy Q hs bx byy e q
  unfold vAdd at e
  split at e
  · cases e
    rw [bx.intI, byy.intI]
    exact .inl ⟨_, _, rfl, rfl, q H _ (Same.refl _) (.int _)⟩
  · split at e
    · rename_i hl
      cases e
      obtain ⟨e1, h1⟩ := bx.strI
      obtain ⟨e2, h2⟩ := byy.strI
      subst e1 e2
      exact .inr (.inl ⟨_, _, rfl, rfl, lim_line hl, q H _ (Same.refl _) (.str _ (sok_append h1 h2 hl))⟩)
    · cases e
  · split at e
    · rename_i xs ys hl
      cases e
      obtain ⟨p, cs, rfl, r1, f1, t1⟩ := bx.tupI
      obtain ⟨p2, cs2, rfl, r2, f2, t2⟩ := byy.tupI
      refine .inr (.inr (.inl ⟨p, p2, cs, cs2, rfl, rfl, .of r1, .of r2, by rw [← t1.length, ← t2.length]; exact lim_line hl, fun e0 => ?_, fun _ e0 => ?_, fun _ _ p3 n => ?_⟩))
      · subst e0
        cases t1
        exact q H _ (Same.refl _) (.tup f2 r2 t2)
      · subst e0
        cases t2
        rw [List.append_nil] at q
        exact q H _ (Same.refl _) (.tup f1 r1 t1)
      · exact q _ _ (same_upd n) (hs.newTup n (t1.append t2))
    · cases e
  · split at e
    · rename_i xs ys hl
      cases e
      obtain ⟨p, cs, rfl, r1, t1⟩ := bx.lstI
      obtain ⟨p2, cs2, rfl, r2, t2⟩ := byy.lstI
      exact .inr (.inr (.inr ⟨p, p2, cs, cs2, rfl, rfl, r1, r2, by rw [← t1.length, ← t2.length]; exact lim_line hl, fun p3 n => q _ _ (same_upd n) (hs.newLst n (t1.append t2))⟩))
    · cases e
  · cases e
end

/-! ### other arithmetic -/
def vSub : Val → Val → Option Val
  | .int a, .int b => some (.int (a - b))
  | _, _ => none
def vMul : Val → Val → Option Val
  | .int a, .int b => if (-(2 ^ 64) < a ∧ a < 2 ^ 64) ∨ (-(2 ^ 64) < b ∧ b < 2 ^ 64) then some (.int (a * b)) else none
  | _, _ => none
def vDiv : Val → Val → Option Val
  | .int a, .int b => if 0 < b ∧ b < 1073741824 then some (.int (a / b)) else none
  | _, _ => none
def vMod : Val → Val → Option Val
  | .int a, .int b => if 0 < b then some (.int (a % b)) else none
  | _, _ => none
def vPow : Val → Val → Option Val
  | .int a, .int b => if 0 ≤ b ∧ b ≤ 1000000 ∧ a.natAbs < 2 ^ 64 then some (.int (a ^ b.toNat)) else none
  | _, _ => none
def vNeg : Val → Option Val
  | .int a => some (.int (-a))
  | _ => none
/-- two ints under a condition -/
theorem imp_i2 {g : Gx} {C : Int → Int → Prop} {f : Int → Int → V} {o : Val → Val → Option Val} (h : ∀ x y z, o x y = some z → ∃ i j, x = .int i ∧ y = .int j ∧ C i j ∧ ∀ W H, VR g W H z (f i j)) : Imp2 g o (rI C f) := by
  intro W s σ H x y z cx cy Q hs bx byy e q
  obtain ⟨i, j, e1, e2, c, v⟩ := h x y z e
  subst e1 e2
  rw [bx.intI, byy.intI]
  exact ⟨i, j, rfl, rfl, c, q H _ (Same.refl _) (v W H)⟩
theorem imp_i0 {g : Gx} {f : Int → Int → V} {o : Val → Val → Option Val} (h : ∀ x y z, o x y = some z → ∃ i j, x = .int i ∧ y = .int j ∧ ∀ W H, VR g W H z (f i j)) : Imp2 g o (rI0 f) := by
  intro W s σ H x y z cx cy Q hs bx byy e q
  obtain ⟨i, j, e1, e2, v⟩ := h x y z e
  subst e1 e2
  rw [bx.intI, byy.intI]
  exact ⟨i, j, rfl, rfl, q H _ (Same.refl _) (v W H)⟩
section
variable {g : Gx}
theorem imp_sub : Imp2 g vSub (rI0 fun i j => .int (i - j)) := imp_i0 fun x y z e => by
  unfold vSub at e
  split at e
  · cases e; exact ⟨_, _, rfl, rfl, fun _ _ => .int _⟩
  · cases e
theorem imp_mul : Imp2 g vMul (rI CMul fun i j => .int (i * j)) := imp_i2 fun x y z e => by
  unfold vMul at e
  split at e
  · split at e
    · rename_i h
      cases e
      exact ⟨_, _, rfl, rfl, h, fun _ _ => .int _⟩
    · cases e
  · cases e
theorem imp_div : Imp2 g vDiv (rI CDiv fun i j => .int (i / j)) := imp_i2 fun x y z e => by
  unfold vDiv at e
  split at e
  · split at e
    · rename_i h
      cases e
      exact ⟨_, _, rfl, rfl, h, fun _ _ => .int _⟩
    · cases e
  · cases e
theorem imp_mod : Imp2 g vMod (rI (fun _ j => 0 < j) fun i j => .int (i % j)) := imp_i2 fun x y z e => by
  unfold vMod at e
  split at e
  · split at e
    · rename_i h
      cases e
      exact ⟨_, _, rfl, rfl, h, fun _ _ => .int _⟩
    · cases e
  · cases e
theorem imp_pow : Imp2 g vPow (rI CPow fun i j => .int (i ^ j.toNat)) := imp_i2 fun x y z e => by
  unfold vPow at e
  split at e
  · split at e
    · rename_i h
      cases e
      exact ⟨_, _, rfl, rfl, h, fun _ _ => .int _⟩
    · cases e
  · cases e
theorem imp_neg : Imp1 g vNeg (rU fun i => .int (-i)) := by
  intro W s σ H x z cx Q hs bx e q
  unfold vNeg at e
  split at e
  · cases e
    rw [bx.intI]
    exact ⟨_, rfl, q H _ (Same.refl _) (.int _)⟩
  · cases e
end

/-! ### order of ints -/
def vLt : Val → Val → Option Val
  | .int a, .int b => some (.bl (decide (a < b)))
  | _, _ => none
def vLe : Val → Val → Option Val
  | .int a, .int b => some (.bl (decide (a ≤ b)))
  | _, _ => none
def vGt : Val → Val → Option Val
  | .int a, .int b => some (.bl (decide (b < a)))
  | _, _ => none
def vGe : Val → Val → Option Val
  | .int a, .int b => some (.bl (decide (b ≤ a)))
  | _, _ => none
section
variable {g : Gx}
theorem imp_lt : Imp2 g vLt (rI0 fun i j => .bl (decide (i < j))) := imp_i0 fun x y z e => by
  unfold vLt at e
  split at e
  · cases e; exact ⟨_, _, rfl, rfl, fun _ _ => .bl _⟩
  · cases e
theorem imp_le : Imp2 g vLe (rI0 fun i j => .bl (decide (i ≤ j))) := imp_i0 fun x y z e => by
  unfold vLe at e
  split at e
  · cases e; exact ⟨_, _, rfl, rfl, fun _ _ => .bl _⟩
  · cases e
theorem imp_gt : Imp2 g vGt (rI0 fun i j => .bl (decide (j < i))) := imp_i0 fun x y z e => by
  unfold vGt at e
  split at e
  · cases e; exact ⟨_, _, rfl, rfl, fun _ _ => .bl _⟩
  · cases e
theorem imp_ge : Imp2 g vGe (rI0 fun i j => .bl (decide (j ≤ i))) := imp_i0 fun x y z e => by
  unfold vGe at e
  split at e
  · cases e; exact ⟨_, _, rfl, rfl, fun _ _ => .bl _⟩
  · cases e
end

/-! ### == of data -/
mutual
def toD : Val → Option PyData
  | .non => some .none
  | .bl b => some (.bool b)
  | .int i => some (.int i)
  | .str x => some (.str x)
  | .tup xs => (toDs xs).map .tuple
  | .lst xs => (toDs xs).map .list
  | _ => none
def toDs : List Val → Option (List PyData)
  | [] => some []
  | x :: xs => match toD x, toDs xs with
    | some d, some ds => some (d :: ds)
    | _, _ => none
end
mutual
/-- data of at most that depth -/
def dep : Nat → Val → Bool
  | _, .non => true
  | _, .bl _ => true
  | _, .int _ => true
  | _, .str _ => true
  | n + 1, .tup xs => deps n xs
  | n + 1, .lst xs => deps n xs
  | _, _ => false
def deps : Nat → List Val → Bool
  | _, [] => true
  | n, x :: xs => dep n x && deps n xs
end
mutual
def eqv : Val → Val → Bool
  | .non, .non => true
  | .bl a, .bl b => a == b
  | .bl a, .int j => (if a then 1 else 0) == j
  | .int i, .bl b => i == (if b then 1 else 0)
  | .int i, .int j => i == j
  | .str x, .str y => x == y
  | .tup xs, .tup ys => eqvs xs ys
  | .lst xs, .lst ys => eqvs xs ys
  | _, _ => false
def eqvs : List Val → List Val → Bool
  | [], [] => true
  | x :: xs, y :: ys => eqv x y && eqvs xs ys
  | _, _ => false
end
theorem toD_tup {xs : List Val} {d : PyData} (h : toD (.tup xs) = some d) : ∃ ds, toDs xs = some ds ∧ d = .tuple ds := by
  rw [toD] at h
  obtain ⟨ds, h1, h2⟩ := map_some h
  exact ⟨ds, h1, h2.symm⟩
theorem toD_lst {xs : List Val} {d : PyData} (h : toD (.lst xs) = some d) : ∃ ds, toDs xs = some ds ∧ d = .list ds := by
  rw [toD] at h
  obtain ⟨ds, h1, h2⟩ := map_some h
  exact ⟨ds, h1, h2.symm⟩
theorem toDs_cons {x : Val} {xs : List Val} {ds : List PyData} (h : toDs (x :: xs) = some ds) : ∃ d r, toD x = some d ∧ toDs xs = some r ∧ ds = d :: r := by
  rw [toDs] at h
  split at h
  · rename_i d r e1 e2
    cases h
    exact ⟨d, r, e1, e2, rfl⟩
  · cases h
mutual
theorem dep_toD : ∀ (n : Nat) (x : Val), dep n x = true → ∃ d, toD x = some d ∧ d.depth ≤ n
  | _, .non, _ => ⟨_, by rw [toD], by simp [PyData.depth]⟩
  | _, .bl _, _ => ⟨_, by rw [toD], by simp [PyData.depth]⟩
  | _, .int _, _ => ⟨_, by rw [toD], by simp [PyData.depth]⟩
  | _, .str _, _ => ⟨_, by rw [toD], by simp [PyData.depth]⟩
  | 0, .tup _, h => by simp [dep] at h
  | 0, .lst _, h => by simp [dep] at h
  | n + 1, .tup xs, h => by
    rw [dep] at h
    obtain ⟨ds, h1, h2⟩ := deps_toDs n xs h
    exact ⟨.tuple ds, by rw [toD, h1] <;> rfl, by rw [PyData.depth]; omega⟩
  | n + 1, .lst xs, h => by
    rw [dep] at h
    obtain ⟨ds, h1, h2⟩ := deps_toDs n xs h
    exact ⟨.list ds, by rw [toD, h1] <;> rfl, by rw [PyData.depth]; omega⟩
  | _, .dct _, h => by simp [dep] at h
  | _, .ref _, h => by simp [dep] at h
  | _, .scr _, h => by simp [dep] at h
  | _, .cls _, h => by simp [dep] at h
theorem deps_toDs : ∀ (n : Nat) (xs : List Val), deps n xs = true → ∃ ds, toDs xs = some ds ∧ PyData.depthAll ds ≤ n
  | _, [], _ => ⟨[], by rw [toDs], by simp [PyData.depthAll]⟩
  | n, x :: xs, h => by
    rw [deps, Bool.and_eq_true] at h
    obtain ⟨d, h1, h2⟩ := dep_toD n x h.1
    obtain ⟨ds, h3, h4⟩ := deps_toDs n xs h.2
    exact ⟨d :: ds, by rw [toDs, h1, h3], by rw [PyData.depthAll]; omega⟩
end
mutual
theorem eqv_toD : ∀ (x y : Val) (d e : PyData), toD x = some d → toD y = some e → PyData.eqv d e = eqv x y
  | x, y, d, e, hx, hy => by
    cases x with
    | tup xs =>
      obtain ⟨ds, h1, rfl⟩ := toD_tup hx
      cases y with
      | tup ys =>
        obtain ⟨es, h2, rfl⟩ := toD_tup hy
        rw [PyData.eqv, eqv]
        exact eqvs_toDs xs ys ds es h1 h2
      | lst ys => obtain ⟨es, h2, rfl⟩ := toD_lst hy; rw [PyData.eqv, eqv] <;> simp
      | non => rw [toD] at hy; cases hy; rw [PyData.eqv, eqv] <;> simp
      | bl => rw [toD] at hy; cases hy; rw [PyData.eqv, eqv] <;> simp
      | int => rw [toD] at hy; cases hy; rw [PyData.eqv, eqv] <;> simp
      | str => rw [toD] at hy; cases hy; rw [PyData.eqv, eqv] <;> simp
      | dct => simp [toD] at hy
      | ref => simp [toD] at hy
      | scr => simp [toD] at hy
      | cls => simp [toD] at hy
    | lst xs =>
      obtain ⟨ds, h1, rfl⟩ := toD_lst hx
      cases y with
      | lst ys =>
        obtain ⟨es, h2, rfl⟩ := toD_lst hy
        rw [PyData.eqv, eqv]
        exact eqvs_toDs xs ys ds es h1 h2
      | tup ys => obtain ⟨es, h2, rfl⟩ := toD_tup hy; rw [PyData.eqv, eqv] <;> simp
      | non => rw [toD] at hy; cases hy; rw [PyData.eqv, eqv] <;> simp
      | bl => rw [toD] at hy; cases hy; rw [PyData.eqv, eqv] <;> simp
      | int => rw [toD] at hy; cases hy; rw [PyData.eqv, eqv] <;> simp
      | str => rw [toD] at hy; cases hy; rw [PyData.eqv, eqv] <;> simp
      | dct => simp [toD] at hy
      | ref => simp [toD] at hy
      | scr => simp [toD] at hy
      | cls => simp [toD] at hy
    | dct => simp [toD] at hx
    | ref => simp [toD] at hx
    | scr => simp [toD] at hx
    | cls => simp [toD] at hx
    | non =>
      rw [toD] at hx; cases hx
      cases y with
      | tup ys => obtain ⟨es, h2, rfl⟩ := toD_tup hy; rw [PyData.eqv, eqv] <;> simp
      | lst ys => obtain ⟨es, h2, rfl⟩ := toD_lst hy; rw [PyData.eqv, eqv] <;> simp
      | non => rw [toD] at hy; cases hy; rw [PyData.eqv, eqv]
      | bl => rw [toD] at hy; cases hy; rw [PyData.eqv, eqv] <;> simp
      | int => rw [toD] at hy; cases hy; rw [PyData.eqv, eqv] <;> simp
      | str => rw [toD] at hy; cases hy; rw [PyData.eqv, eqv] <;> simp
      | dct => simp [toD] at hy
      | ref => simp [toD] at hy
      | scr => simp [toD] at hy
      | cls => simp [toD] at hy
    | bl =>
      rw [toD] at hx; cases hx
      cases y with
      | tup ys => obtain ⟨es, h2, rfl⟩ := toD_tup hy; rw [PyData.eqv, eqv] <;> simp
      | lst ys => obtain ⟨es, h2, rfl⟩ := toD_lst hy; rw [PyData.eqv, eqv] <;> simp
      | non => rw [toD] at hy; cases hy; rw [PyData.eqv, eqv] <;> simp
      | bl => rw [toD] at hy; cases hy; rw [PyData.eqv, eqv]
      | int => rw [toD] at hy; cases hy; rw [PyData.eqv, eqv]
      | str => rw [toD] at hy; cases hy; rw [PyData.eqv, eqv] <;> simp
      | dct => simp [toD] at hy
      | ref => simp [toD] at hy
      | scr => simp [toD] at hy
      | cls => simp [toD] at hy
    | int =>
      rw [toD] at hx; cases hx
      cases y with
      | tup ys => obtain ⟨es, h2, rfl⟩ := toD_tup hy; rw [PyData.eqv, eqv] <;> simp
      | lst ys => obtain ⟨es, h2, rfl⟩ := toD_lst hy; rw [PyData.eqv, eqv] <;> simp
      | non => rw [toD] at hy; cases hy; rw [PyData.eqv, eqv] <;> simp
      | bl => rw [toD] at hy; cases hy; rw [PyData.eqv, eqv]
      | int => rw [toD] at hy; cases hy; rw [PyData.eqv, eqv]
      | str => rw [toD] at hy; cases hy; rw [PyData.eqv, eqv] <;> simp
      | dct => simp [toD] at hy
      | ref => simp [toD] at hy
      | scr => simp [toD] at hy
      | cls => simp [toD] at hy
    | str =>
      rw [toD] at hx; cases hx
      cases y with
      | tup ys => obtain ⟨es, h2, rfl⟩ := toD_tup hy; rw [PyData.eqv, eqv] <;> simp
      | lst ys => obtain ⟨es, h2, rfl⟩ := toD_lst hy; rw [PyData.eqv, eqv] <;> simp
      | non => rw [toD] at hy; cases hy; rw [PyData.eqv, eqv] <;> simp
      | bl => rw [toD] at hy; cases hy; rw [PyData.eqv, eqv] <;> simp
      | int => rw [toD] at hy; cases hy; rw [PyData.eqv, eqv] <;> simp
      | str => rw [toD] at hy; cases hy; rw [PyData.eqv, eqv]
      | dct => simp [toD] at hy
      | ref => simp [toD] at hy
      | scr => simp [toD] at hy
      | cls => simp [toD] at hy
theorem eqvs_toDs : ∀ (xs ys : List Val) (ds es : List PyData), toDs xs = some ds → toDs ys = some es → PyData.eqvAll ds es = eqvs xs ys
  | [], [], ds, es, hx, hy => by rw [toDs] at hx hy; cases hx; cases hy; rw [PyData.eqvAll, eqvs]
  | [], y :: ys, ds, es, hx, hy => by
    obtain ⟨e, r, h1, h2, rfl⟩ := toDs_cons hy
    rw [toDs] at hx; cases hx
    rw [PyData.eqvAll, eqvs] <;> simp
  | x :: xs, [], ds, es, hx, hy => by
    obtain ⟨e, r, h1, h2, rfl⟩ := toDs_cons hx
    rw [toDs] at hy; cases hy
    rw [PyData.eqvAll, eqvs] <;> simp
  | x :: xs, y :: ys, ds, es, hx, hy => by
    obtain ⟨d, r, h1, h2, rfl⟩ := toDs_cons hx
    obtain ⟨e, q, h3, h4, rfl⟩ := toDs_cons hy
    rw [PyData.eqvAll, eqvs, eqv_toD x y d e h1 h3, eqvs_toDs xs ys r q h2 h4]
end
section
variable {g : Gx} {W : Wd} {H : Hp}
mutual
theorem VR.dp : ∀ (x : Val) (c : V) (d : PyData), VR g W H x c → toD x = some d → Dp g.K H c d ∧ d.canLay0 = true
  | .non, _, _, h, e => by rw [toD] at e; cases e; cases h; exact ⟨.non, by simp [PyData.canLay0]⟩
  | .bl b, _, _, h, e => by rw [toD] at e; cases e; cases h; exact ⟨.bl b, by simp [PyData.canLay0]⟩
  | .int i, _, _, h, e => by rw [toD] at e; cases e; cases h; exact ⟨.int i, by simp [PyData.canLay0]⟩
  | .str x, _, _, h, e => by
    rw [toD] at e; cases e
    cases h with
    | str _ h => exact ⟨.str x, by simpa [PyData.canLay0] using h.ok⟩
  | .tup xs, _, _, h, e => by
    obtain ⟨ds, h1, rfl⟩ := toD_tup e
    cases h with
    | tup f r t =>
      obtain ⟨q1, q2⟩ := VRs.dp xs _ ds t h1
      exact ⟨.tup (.of r) q1, by simpa [PyData.canLay0] using q2⟩
  | .lst xs, _, _, h, e => by
    obtain ⟨ds, h1, rfl⟩ := toD_lst e
    cases h with
    | lst f r t =>
      obtain ⟨q1, q2⟩ := VRs.dp xs _ ds t h1
      exact ⟨.lst (.of r) q1, by simpa [PyData.canLay0] using q2⟩
  | .dct _, _, _, _, e => by simp [toD] at e
  | .ref _, _, _, _, e => by simp [toD] at e
  | .scr _, _, _, _, e => by simp [toD] at e
theorem VRs.dp : ∀ (xs : List Val) (cs : List V) (ds : List PyData), VRs g W H xs cs → toDs xs = some ds → DpAll g.K H cs ds ∧ PyData.canLayAll0 ds = true
  | [], _, _, h, e => by rw [toDs] at e; cases e; cases h; exact ⟨.nil, by simp [PyData.canLayAll0]⟩
  | x :: xs, _, _, h, e => by
    obtain ⟨d, r, h1, h2, rfl⟩ := toDs_cons e
    cases h with
    | cons h t =>
      obtain ⟨q1, q2⟩ := VR.dp x _ d h h1
      obtain ⟨q3, q4⟩ := VRs.dp xs _ r t h2
      exact ⟨.cons q1 q3, by simp [PyData.canLayAll0, q2, q4]⟩
end
theorem BR.dp {x : Val} {c : V} {d : PyData} (h : BR g W H x c) (e : toD x = some d) : Dp g.K H c d ∧ d.canLay0 = true := by
  cases h with
  | val h => exact VR.dp x c d h e
  | lst r t =>
    obtain ⟨ds, h1, rfl⟩ := toD_lst e
    obtain ⟨q1, q2⟩ := VRs.dp _ _ ds t h1
    exact ⟨.lst (.of r) q1, by simpa [PyData.canLay0] using q2⟩
  | dctK r t => simp [toD] at e
  | dctN r t => simp [toD] at e
end
def vEq (x y : Val) : Option Val := if dep 20 x && dep 20 y then some (.bl (eqv x y)) else none
def vNe (x y : Val) : Option Val := if dep 20 x && dep 20 y then some (.bl (!eqv x y)) else none
section
variable {g : Gx}
theorem imp_eq : Imp2 g vEq (rEqD g.K) := by
  intro W s σ H x y z cx cy Q hs bx byy e q
  unfold vEq at e
  split at e
  · rename_i h
    cases e
    rw [Bool.and_eq_true] at h
    obtain ⟨d, h1, h2⟩ := dep_toD _ _ h.1
    obtain ⟨e, h3, h4⟩ := dep_toD _ _ h.2
    obtain ⟨q1, q2⟩ := bx.dp h1
    obtain ⟨q3, q4⟩ := byy.dp h3
    refine ⟨d, e, q1, q3, ?_, ?_, ?_⟩
    · unfold SeqAt.shaped; rw [q2, Bool.true_and, decide_eq_true]; omega
    · unfold SeqAt.shaped; rw [q4, Bool.true_and, decide_eq_true]; omega
    · rw [eqv_toD x y d e h1 h3]; exact q H _ (Same.refl _) (.bl _)
  · cases e
theorem imp_ne : Imp2 g vNe (rNeD g.K) := by
  intro W s σ H x y z cx cy Q hs bx byy e q
  unfold vNe at e
  split at e
  · rename_i h
    cases e
    rw [Bool.and_eq_true] at h
    obtain ⟨d, h1, h2⟩ := dep_toD _ _ h.1
    obtain ⟨e, h3, h4⟩ := dep_toD _ _ h.2
    obtain ⟨q1, q2⟩ := bx.dp h1
    obtain ⟨q3, q4⟩ := byy.dp h3
    refine ⟨d, e, q1, q3, ?_, ?_, ?_⟩
    · unfold SeqAt.shaped; rw [q2, Bool.true_and, decide_eq_true]; omega
    · unfold SeqAt.shaped; rw [q4, Bool.true_and, decide_eq_true]; omega
    · rw [eqv_toD x y d e h1 h3]; exact q H _ (Same.refl _) (.bl _)
  · cases e
end

/-! ### is None -/
def Val.isNon : Val → Bool
  | .non => true
  | _ => false
def vIsN : Val → Val → Option Val
  | x, .non => some (.bl x.isNon)
  | _, _ => none
def vNotN : Val → Val → Option Val
  | x, .non => some (.bl (!x.isNon))
  | _, _ => none
theorem BR.isN {g : Gx} {W : Wd} {H : Hp} {x : Val} {c : V} (h : BR g W H x c) : decide (c = .non) = x.isNon := by
  cases h with
  | val h => cases h <;> simp [Val.isNon]
  | lst r t => simp [Val.isNon]
  | dctK r t => simp [Val.isNon]
  | dctN r t => simp [Val.isNon]
section
variable {g : Gx}
theorem imp_isN : Imp2 g vIsN (fun x y H Q => y = .non ∧ Q (.bl (decide (x = .non))) H) := by
  intro W s σ H x y z cx cy Q hs bx byy e q
  unfold vIsN at e
  split at e
  · cases e
    refine ⟨byy.nonI, ?_⟩
    rw [bx.isN]
    exact q H _ (Same.refl _) (.bl _)
  · cases e
theorem imp_notN : Imp2 g vNotN (fun x y H Q => y = .non ∧ Q (.bl (!decide (x = .non))) H) := by
  intro W s σ H x y z cx cy Q hs bx byy e q
  unfold vNotN at e
  split at e
  · cases e
    refine ⟨byy.nonI, ?_⟩
    rw [bx.isN]
    exact q H _ (Same.refl _) (.bl _)
  · cases e
end

/-! ### a[i] -/
def vIx : Val → Val → Option Val
  | .lst xs, .int i => atI xs i
  | .tup xs, .int i => atI xs i
  | .scr xs, .int i => atI xs i
  | .str x, .int i => (atI x.cps.toList i).map fun c => .str ⟨#[c]⟩
  | _, _ => none
theorem VRs.atI {g : Gx} {W : Wd} {H : Hp} {xs : List Val} {cs : List V} {i : Int} {x : Val} (t : VRs g W H xs cs) (e : L2.atI xs i = some x) : ∃ c, L2.atI cs i = some c ∧ VR g W H x c := by
  unfold L2.atI at e ⊢
  rw [← t.length]
  obtain ⟨j, h1, h2⟩ := bind_some e
  obtain ⟨c, h3, h4⟩ := t.get h2
  exact ⟨c, by rw [h1]; exact h3, h4⟩
section
variable {g : Gx}
theorem imp_ix : Imp2 g vIx (rIx g.K) := by
  intro W s σ H x y z cx cy Q hs bx byy e q
  unfold vIx at e
  split at e
  · obtain ⟨p, cs, rfl, r, t⟩ := bx.lstI
    obtain ⟨c, h1, h2⟩ := t.atI e
    rw [byy.intI]
    exact .inl ⟨p, cs, _, c, rfl, rfl, .of r, h1, q H _ (Same.refl _) h2⟩
  · obtain ⟨p, cs, rfl, r, f, t⟩ := bx.tupI
    obtain ⟨c, h1, h2⟩ := t.atI e
    rw [byy.intI]
    exact .inr (.inl ⟨p, cs, _, c, rfl, rfl, .of r, h1, q H _ (Same.refl _) h2⟩)
  · obtain ⟨p, cs, rfl, r, t⟩ := bx.scrI
    obtain ⟨c, h1, h2⟩ := t.atI e
    rw [byy.intI]
    exact .inl ⟨p, cs, _, c, rfl, rfl, r, h1, q H _ (Same.refl _) h2⟩
  · obtain ⟨c, h1, rfl⟩ := map_some e
    obtain ⟨rfl, h2⟩ := bx.strI
    rw [byy.intI]
    obtain ⟨j, h3, h4⟩ := bind_some (show (ixN _ _).bind _ = some c from h1)
    exact .inr (.inr ⟨_, _, c, rfl, rfl, lim_line h2.len, h1, q H _ (Same.refl _) (.str _ (sok_one h2 h4))⟩)
  · cases e
end

/-! ### slices -/
def cutL {α : Type} (xs : List α) (lo hi : Option Int) : List α := (xs.drop (HT.sIx xs.length 0 lo)).take (HT.sIx xs.length xs.length hi - HT.sIx xs.length 0 lo)
def vCut (v : Val) (lo hi : Option Int) : Option Val := match v with
  | .lst xs => some (.lst (cutL xs lo hi))
  | .tup xs => some (.tup (cutL xs lo hi))
  | .str x => some (.str (cutS x lo hi))
  | _ => none
theorem VRs.cut {g : Gx} {W : Wd} {H : Hp} {xs : List Val} {cs : List V} (t : VRs g W H xs cs) (lo hi : Option Int) : VRs g W H (cutL xs lo hi) (cutV cs lo hi) := by
  unfold cutL cutV
  rw [t.length]
  exact (t.drop _).take _
theorem cutL_whole {α : Type} {xs : List α} {lo hi : Option Int} (h : HT.sIx xs.length 0 lo = 0 ∧ HT.sIx xs.length xs.length hi = xs.length) : cutL xs lo hi = xs := by
  unfold cutL
  rw [h.1, h.2]
  simp
theorem sok_cut {x : Str} (h : SOk x) (lo hi : Option Int) : SOk (cutS x lo hi) := by
  refine .mk ?_ (Nat.le_trans (cutS_length x lo hi) h.len)
  have h1 := h.ok
  unfold PyData.strOk at h1 ⊢
  rw [Array.all_eq_true_iff_forall_mem] at h1 ⊢
  intro d hd
  refine h1 _ ?_
  rw [← Array.mem_toList_iff]
  have hd' : d ∈ (x.cps.toList.drop (HT.sIx x.length 0 lo)).take (HT.sIx x.length x.length hi - HT.sIx x.length 0 lo) := by
    have := (Array.mem_toList_iff).mpr hd
    simpa [cutS] using this
  exact List.mem_of_mem_drop (List.mem_of_mem_take hd')
def rSlAll (K : PySem.W.Frag) : V → Option Int → Option Int → Hp → VK → Prop := fun x lo hi H Q => rSlL K x lo hi H Q ∨ (rSlA K x lo hi H Q ∨ rSlS x lo hi H Q)
theorem sl_all {X : Cx} : SlR X (rSlAll X.K) := sl_list.or (sl_tupA.or sl_str)
theorem imp_cut {g : Gx} : ImpS g vCut (rSlAll g.K) := by
  intro W s σ H x l u z cx Q hs bx e q
  unfold vCut at e
  split at e
  · cases e
    obtain ⟨p, cs, rfl, r, t⟩ := bx.lstI
    exact .inl ⟨p, cs, rfl, .of r, fun p2 n => q _ _ (same_upd n) (hs.newLst n (t.cut l u))⟩
  · cases e
    obtain ⟨p, cs, rfl, r, f, t⟩ := bx.tupI
    refine .inr (.inl ⟨p, cs, rfl, .of r, fun hw => ?_, fun _ p2 n => q _ _ (same_upd n) (hs.newTup n (t.cut l u))⟩)
    rw [← t.length] at hw
    rw [cutL_whole hw] at q
    exact q H _ (Same.refl _) (.tup f r t)
  · cases e
    obtain ⟨rfl, h⟩ := bx.strI
    exact .inr (.inr ⟨_, rfl, lim_line h.len, q H _ (Same.refl _) (.str _ (sok_cut h l u))⟩)
  · cases e
end G

namespace G
open PySem PySem.Spec PyProof.Rows L2

/-! ### cells -/
def Wd.addC (W : Wd) (fp : List Addr) : Wd := { W with ce := W.ce ++ [fp] }
def OV.isC : OV → Bool
  | .v _ => false
  | _ => true
section
variable {g : Gx} {W W' : Wd} {H H' H0 : Hp} {s : Stt} {σ : L2.St} {fp : List Addr} {o : OV} {c : V}
theorem OR.ref (h : OR g W H o c fp) (i : o.isC = true) : ∃ p, c = .ref p ∧ fp = [p] := by
  cases h with
  | v h => cases i
  | lst r t => exact ⟨_, rfl, rfl⟩
  | dctK r t => exact ⟨_, rfl, rfl⟩
  | dctN r t => exact ⟨_, rfl, rfl⟩
theorem Wd.own_addC {a : Addr} (h : (W.addC fp).own a) : W.own a ∨ a ∈ fp := by
  rcases h with ⟨l, hl, ha⟩ | h
  · rcases List.mem_append.mp hl with hl | hl
    · exact .inl (.inl ⟨l, hl, ha⟩)
    · have e : l = fp := by simpa using hl
      exact .inr (e ▸ ha)
  · exact .inl (.inr h)
theorem refs_addC {i : Nat} {p : Addr} {r : List Addr} (h : W.ce[i]? = some (p :: r)) : (W.addC fp).ce[i]? = some (p :: r) := by
  show (W.ce ++ [fp])[i]? = _
  rw [List.getElem?_append_left (List.getElem?_eq_some_iff.mp h).1]
  exact h
theorem Wle.addC : Wle (W.plus fp) (W.addC fp) := ⟨fun a z => by
  rcases z with z | z
  · exact .inl (.inl z)
  · rcases Wd.own_addC z with z | z
    · exact .inr z
    · exact .inl (.inr z), fun i p r h => ⟨r, refs_addC h⟩⟩
theorem get_snoc {α : Type} {l : List α} {x y : α} {i : Nat} (h : (l ++ [x])[i]? = some y) : (i < l.length ∧ l[i]? = some y) ∨ (i = l.length ∧ y = x) := by
  by_cases hi : i < l.length
  · rw [List.getElem?_append_left hi] at h
    exact .inl ⟨hi, h⟩
  · rw [List.getElem?_append_right (by omega)] at h
    have : i - l.length = 0 := by
      cases q : i - l.length with
      | zero => rfl
      | succ n => rw [q] at h; simp at h
    rw [this] at h
    cases h
    exact .inr ⟨by omega, rfl⟩
theorem Apart.cell (h : Apart g H0 W s σ H o c fp) (i : o.isC = true) : SR g (W.addC fp) { s with hp := s.hp ++ [o] } σ H ∧ VR g (W.addC fp) H (.ref s.hp.length) c := by
  obtain ⟨hs, r, n⟩ := h
  obtain ⟨p, rfl, rfl⟩ := r.ref i
  have hl : W.ce.length = s.hp.length := hs.lenc
  refine ⟨⟨hs.len, hs.leno, ?_, fun j o' q => ?_, fun j o' q => ?_, hs.djo, fun i j l m a h1 h2 h3 h4 => ?_, fun l m a h1 h2 h3 h4 => ?_, fun a z => ?_, fun a z => hs.trk0 a (.inl z)⟩, .ref (r := []) ?_⟩
  · show (W.ce ++ [[p]]).length = (s.hp ++ [o]).length
    rw [List.length_append, List.length_append, hl] <;> rfl
  · obtain ⟨c', fp', h1, h2, h3⟩ := hs.slot j o' q
    exact ⟨c', fp', h1, h2, h3.wle .addC⟩
  · rcases get_snoc q with ⟨_, q⟩ | ⟨e1, e2⟩
    · obtain ⟨p', r', h2, h3⟩ := hs.cell j o' q
      exact ⟨p', r', refs_addC h2, h3.wle .addC⟩
    · subst e1 e2
      refine ⟨p, [], ?_, r.wle .addC⟩
      show (W.ce ++ [[p]])[s.hp.length]? = _
      rw [← hl, List.getElem?_append_right (Nat.le_refl _), Nat.sub_self] <;> rfl
  · rcases get_snoc h1 with ⟨_, g1⟩ | ⟨i1, e1⟩
    · rcases get_snoc h2 with ⟨_, g2⟩ | ⟨i2, e2⟩
      · exact hs.djc i j l m a g1 g2 h3 h4
      · subst e2
        have e : a = p := by simpa using h4
        subst e
        exact absurd (.inr (Wd.mem_ownc (W := W) g1 h3)) (n _ (by simp)).1
    · rcases get_snoc h2 with ⟨_, g2⟩ | ⟨i2, e2⟩
      · subst e1
        have e : a = p := by simpa using h3
        subst e
        exact absurd (.inr (Wd.mem_ownc (W := W) g2 h4)) (n _ (by simp)).1
      · rw [i1, i2]
  · rcases List.mem_append.mp h1 with h1 | h1
    · exact hs.djx l m a h1 h2 h3 h4
    · have e : l = [p] := by simpa using h1
      subst e
      exact absurd (.inr (.inr ⟨m, h2, h4⟩)) (n a h3).1
  · rcases Wd.own_addC z with z | z
    · obtain ⟨q1, q2⟩ := hs.trk a z
      exact ⟨q1, fun y => q2 (.inl y)⟩
    · exact ⟨r.tracked a z, fun y => (n a z).1 (.inl y)⟩
  · show (W.ce ++ [[p]])[s.hp.length]? = _
    rw [← hl, List.getElem?_append_right (Nat.le_refl _), Nat.sub_self] <;> rfl
theorem Post.addC (p : Post W H W' H') (n : ∀ a ∈ fp, H a = none) : Post W H (W'.addC fp) H' := ⟨p.m0, p.m1, p.keep, fun a z => by
  rcases Wd.own_addC z with z | z
  · exact p.sub a z
  · exact .inr (n a z), fun i q r h => let ⟨r', h'⟩ := p.refs i q r h; ⟨r', refs_addC h'⟩, p.tr⟩
end
def newC (o : OV) : M Opd := fun s => if o.isC then .ok (.val (.ref s.hp.length)) { s with hp := s.hp ++ [o] } else .bad
/-- a new container, handed about by its address -/
def eCell (f : M OV) : EM := f >>= newC
section
variable {X : Cx} {e a b : Expr} {f fa fb : EM} {fn : M OV} {pos p apos : Pos} {es : List Expr} {fs : M (List Opd)}
theorem fe_cell (h : FN X e fn) : FE X e (eCell fn) := by
  refine ⟨h.pe.imp fun σ H Q ⟨W, s, hs, o, s', e1, k⟩ => ?_⟩
  obtain ⟨o1, s1, ea, e2⟩ := M.bind_ok e1
  unfold newC at e2
  split at e2
  · rename_i hi
    cases e2
    exact ⟨W, s, hs, o1, _, ea, fun W' H' c fp p ap => k (W'.addC fp) H' c (p.addC fun a ha => (ap.2.2 a ha).2) (ap.cell hi).1 (.val (ap.cell hi).2)⟩
  · cases e2

/-! ### what is written: a slot's own container, a cell -/
def Stt.cur (s : Stt) : Opd → Option OV
  | .val (.ref i) => s.hp[i]?
  | .val _ => none
  | .sl i => match s.sl[i]? with
    | some (some o) => some o
    | _ => none
def Stt.wr (s : Stt) (o : Opd) (n : OV) : Stt := match o with
  | .val (.ref i) => { s with hp := s.hp.set i n }
  | .val _ => s
  | .sl i => { s with sl := s.sl.set i (some n) }
theorem DR.own {g : Gx} {W : Wd} {σ : L2.St} {H : Hp} {s : Stt} {o : Opd} {c : V} {ov : OV} (d : DR g W σ H o c) (hs : SR g W s σ H) (e : s.cur o = some ov) (i : ov.isC = true) :
    ∃ p, c = .ref p ∧ OR g W H ov (.ref p) [p] ∧ W.own p := by
  cases d with
  | @val x _ hv =>
    cases x with
    | ref j =>
      have e : s.hp[j]? = some ov := e
      obtain ⟨p, r, h2, h3⟩ := hs.cell j ov e
      cases hv with
      | ref e' =>
        rw [h2] at e'
        cases e'
        obtain ⟨q, e1, e2⟩ := h3.ref i
        cases e1
        cases e2
        exact ⟨p, rfl, h3, Wd.mem_ownc h2 (by simp)⟩
    | _ => cases e
  | @sl j _ hj =>
    cases q : s.sl[j]? with
    | none => simp [Stt.cur, q] at e
    | some o1 =>
      cases o1 with
      | none => simp [Stt.cur, q] at e
      | some o1 =>
        have e : o1 = ov := by simpa [Stt.cur, q] using e
        subst e
        obtain ⟨c', fp, h1, h2, h3⟩ := hs.slot j o1 q
        rw [hj] at h1
        cases h1
        obtain ⟨p, rfl, rfl⟩ := h3.ref i
        exact ⟨p, rfl, h3, Wd.mem_own h2 (by simp)⟩
theorem Post.write {W : Wd} {H : Hp} {p : Addr} {u : HO} (h : W.own p) : Post W H W (upd H p u) := ⟨fun _ h => h, fun _ h => .inl h, fun a o e n => by
  rw [upd_ne (fun z => n (by rw [z]; exact h))]
  exact e, fun a z => .inl z, fun _ _ r h => ⟨r, h⟩, fun a v e => by
  by_cases z : a = p
  · exact ⟨u, by rw [z]; exact upd_same⟩
  · exact ⟨v, by rw [upd_ne z]; exact e⟩⟩
theorem SR.write {g : Gx} {W : Wd} {σ : L2.St} {H : Hp} {s : Stt} {o : Opd} {p : Addr} {ov n : OV} {u : HO} (hs : SR g W s σ H) (d : DR g W σ H o (.ref p)) (e : s.cur o = some ov) (i : ov.isC = true) (r : OR g W (upd H p u) n (.ref p) [p]) :
    SR g W (s.wr o n) σ (upd H p u) := by
  obtain ⟨p0, e0, r0, ho⟩ := d.own hs e i
  cases e0
  have po : Post W H W (upd H p u) := .write ho
  have keep : ∀ {o' : OV} {c' : V} {fp' : List Addr}, OR g W H o' c' fp' → p ∉ fp' → OR g W (upd H p u) o' c' fp' := fun {o' c' fp'} r' hn => r'.mono po fun q hq v hv => by
    rw [upd_ne (fun z => hn (by rw [← z]; exact hq))]
    exact hv
  have trk : ∀ a, W.own a → (∃ v, upd H p u a = some v) ∧ ¬ W.m0 a := fun a z => by
    obtain ⟨⟨v, hv⟩, h2⟩ := hs.trk a z
    exact ⟨po.tr a v hv, h2⟩
  have trk0 : ∀ a, W.m0 a → ∃ v, upd H p u a = some v := fun a z => by
    obtain ⟨v, hv⟩ := hs.trk0 a z
    exact po.tr a v hv
  cases d with
  | @val x _ hv =>
    cases x with
    | ref j =>
      cases hv with
      | @ref _ _ rr hj =>
        have e : s.hp[j]? = some ov := e
        refine ⟨hs.len, hs.leno, ?_, fun k o' q => ?_, fun k o' q => ?_, hs.djo, hs.djc, hs.djx, trk, trk0⟩
        · show W.ce.length = (s.hp.set j n).length
          rw [List.length_set]; exact hs.lenc
        · obtain ⟨c', fp', h1, h2, h3⟩ := hs.slot k o' q
          exact ⟨c', fp', h1, h2, keep h3 fun z => hs.djx _ _ p (List.mem_of_getElem? hj) (List.mem_of_getElem? h2) (by simp) z⟩
        · rcases set_get q with ⟨e1, e2, _⟩ | ⟨ne, q⟩
          · subst e1 e2
            have q2 := hs.cell k ov e
            obtain ⟨p', r', h2, h3⟩ := q2
            rw [hj] at h2
            cases h2
            obtain ⟨_, z1, z2⟩ := h3.ref i
            cases z1
            rw [z2] at hj
            exact ⟨p, [], hj, r⟩
          · obtain ⟨p', r', h2, h3⟩ := hs.cell k o' q
            exact ⟨p', r', h2, keep h3 fun z => ne (hs.djc k j _ _ p h2 hj z (by simp))⟩
    | _ => cases e
  | @sl j _ hj =>
    cases q0 : s.sl[j]? with
    | none => simp [Stt.cur, q0] at e
    | some o1 =>
      cases o1 with
      | none => simp [Stt.cur, q0] at e
      | some o1 =>
        have e : o1 = ov := by simpa [Stt.cur, q0] using e
        subst e
        obtain ⟨c1, fp1, g1, g2, g3⟩ := hs.slot j o1 q0
        rw [hj] at g1
        cases g1
        obtain ⟨p1, z1, z2⟩ := g3.ref i
        cases z1
        subst z2
        refine ⟨?_, ?_, hs.lenc, fun k o' q => ?_, fun k o' q => ?_, hs.djo, hs.djc, hs.djx, trk, trk0⟩
        · show (s.sl.set j (some n)).length = _
          rw [List.length_set]; exact hs.len
        · show _ = (s.sl.set j (some n)).length
          rw [List.length_set]; exact hs.leno
        · rcases set_get q with ⟨e1, e2, _⟩ | ⟨ne, q⟩
          · subst e1
            cases e2
            exact ⟨_, _, hj, g2, r⟩
          · obtain ⟨c', fp', h1, h2, h3⟩ := hs.slot k o' q
            exact ⟨c', fp', h1, h2, keep h3 fun z => ne (hs.djo k j _ _ p h2 g2 z (by simp))⟩
        · obtain ⟨p', r', h2, h3⟩ := hs.cell k o' q
          exact ⟨p', r', h2, keep h3 fun z => hs.djx _ _ p (List.mem_of_getElem? h2) (List.mem_of_getElem? g2) z (by simp)⟩

/-! ### methods of built-in types -/
def Val.ty : Val → String
  | .str _ => "str"
  | .lst _ => "list"
  | .dct _ => "dict"
  | _ => ""
/-- it is of that type, as the model sees it -/
def TyG (X : Cx) (T : String) (x : V) (H : Hp) : Prop := ∀ (pins : List (Addr × Obj)) (σ : L2.St) (s : Shared) (v : Value), Inv X pins σ H s → RelV x v → s.TypeIs v T ∧ ∀ a, v = .ref a → ∃ ob, s.heap.get? a = some ob ∧ ob.dict = none
theorem Rd.dictAt {X : Cx} {pins : List (Addr × Obj)} {σ : L2.St} {H : Hp} {s : Shared} {p : Addr} {kcs : List (Key × V)} (I : Inv X pins σ H s) (h : Rd H p (.dK kcs)) : ∃ o, s.heap.get? p = some o ∧ o.ExactDict := by
  obtain ⟨_, _, _, _, o, _, _, e, ex, _⟩ := h.ok I.hok
  exact ⟨o, e, ex⟩
theorem Rd.rawAt {X : Cx} {pins : List (Addr × Obj)} {σ : L2.St} {H : Hp} {s : Shared} {p : Addr} {es : List (NestedKey × Addr × V)} (I : Inv X pins σ H s) (h : Rd H p (rawD X.prog X.w p es)) : ∃ o, s.heap.get? p = some o ∧ o.ExactDict := by
  obtain ⟨⟨_, _, _, o, _, _, _, e, ex, _⟩, _⟩ := h.ok I.hok
  exact ⟨o, e, ex⟩
theorem BR.ty {X : Cx} {W : Wd} {H : Hp} {x : Val} {c : V} (h : BR (.of X) W H x c) (n : x.ty ≠ "") : TyG X x.ty c H := by
  intro pins σ s v I r
  cases x with
  | str y =>
    obtain ⟨rfl, _⟩ := h.strI
    obtain ⟨t, rfl⟩ := r
    exact ⟨typeIs_str s y t, fun _ e => nomatch e⟩
  | lst xs =>
    obtain ⟨p, cs, rfl, h1, _⟩ := h.lstI
    cases r
    obtain ⟨z, its, n, r', _, e⟩ := I.lstM h1
    exact ⟨⟨_, e, rfl⟩, fun a q => by cases q; exact ⟨_, e, rfl⟩⟩
  | dct kvs =>
    obtain ⟨p, rfl, h1⟩ := h.dctI
    cases r
    have z : ∃ o, s.heap.get? p = some o ∧ o.ExactDict := by
      rcases h1 with ⟨kcs, h1, _⟩ | ⟨es, h1, _⟩
      · exact Rd.dictAt I h1
      · exact Rd.rawAt I h1
    obtain ⟨o, e, ex⟩ := z
    exact ⟨⟨o, e, ex.1⟩, fun a q => by cases q; exact ⟨o, e, ex.2.1⟩⟩
  | _ => exact absurd rfl n
/-- o.name(..), o of a built-in type -/
def tMG (X : Cx) (T : String) (r : V → List V → Hp → VK → Prop) (to : TE) (t : TA) : TE := fun σ H Q => to σ H fun x H1 => TyG X T x H1 ∧ t σ H1 fun xs H2 => r x xs H2 Q
variable {T id : String} {name : Str} {r : V → List V → Hp → VK → Prop} {o : Expr} {to : TE} {t : TA} {cpos : Pos}
theorem pe_mG (pa : PlainAttrs T) (slot : Slot T name id) (hty : typeOf (.builtin id) = pure (.type "method_descriptor")) (hm : MtR X id r) (ho : PE X o to) (ha : PA X (e :: es) t)
    (hbase : attributeBase o name X.env (eval o X.env) = eval o X.env := by rfl)
    (hfew : ((backTo cpos (starEach (e :: es) X.env)).all (fun x => !x.1) && (backToKw cpos (keywordEach [] X.env)).all (fun x => x.1.isSome)
      && decide ((e :: es).length + ([] : List Keyword).length + (if ([] : List Keyword).isEmpty then 0 else 1) < 30)) = true := by rfl)
    (hline : (apos.endLine == cpos.line) = true := by rfl) (hs : starEach (e :: es) X.env = (false, eval e X.env) :: starEach es X.env := by rfl) (hplain : (backTo cpos (starEach es X.env)).any (·.1) = false := by rfl) :
    PE X (.Call (.Attribute o name apos) (e :: es) [] cpos) (tMG X T r to t) := by
  refine ⟨fun pins s σ H Q I h => ?_⟩
  refine wpAny_Call_method_late hbase hfew hline rfl (thn (ho.run pins s σ H _ I h) fun v s1 ⟨x, H1, I1, r1, ty, q1⟩ => ?_)
  obtain ⟨h1, h2⟩ := ty pins σ s1 v I1 r1
  refine ⟨T, id, pa, slot, hty, h1, h2, ?_⟩
  have hA := ha.run cpos pins s1 σ H1 _ I1 q1
  rw [hs] at hA ⊢
  have np : (false || (backTo cpos (starEach es X.env)).any (·.1)) = false := by rw [hplain] <;> rfl
  refine Calls.callWith_builtin (show ((false, eval e X.env) :: backTo cpos (starEach es X.env)).any (·.1) = false from np) (Calls.evalArgs_plain ?_)
  exact thn hA fun us s2 ⟨vs, H2, I2, r2, q2⟩ => hm pins s2 σ H2 x vs v us Q I2 r1 r2 q2
theorem pe_mG0 (pa : PlainAttrs T) (slot : Slot T name id) (hty : typeOf (.builtin id) = pure (.type "method_descriptor")) (hm : MtR X id r) (ho : PE X o to)
    (hbase : attributeBase o name X.env (eval o X.env) = eval o X.env := by rfl) (hline : (apos.endLine == cpos.line) = true := by rfl) :
    PE X (.Call (.Attribute o name apos) [] [] cpos) (tMG X T r to tNil) := by
  refine ⟨fun pins s σ H Q I h => ?_⟩
  refine wpAny_Call_method0_late hbase hline (thn (ho.run pins s σ H _ I h) fun v s1 ⟨x, H1, I1, r1, ty, q1⟩ => ?_)
  obtain ⟨h1, h2⟩ := ty pins σ s1 v I1 r1
  exact ⟨T, id, pa, slot, hty, h1, h2, Calls.callWith_builtin rfl (PySem.evalArgs_none (hm pins s1 σ H1 x [] v [] Q I1 r1 .nil q1))⟩
/-- the receiver's type, looked at first -/
def tyM (T : String) (o : Opd) : M Unit := fun s => match s.rd o with
  | some x => if x.ty = T then .ok () s else .bad
  | none => .bad
theorem tyM_ok {T : String} {o : Opd} {s s' : Stt} {u : Unit} (h : tyM T o s = .ok u s') : s' = s ∧ ∃ x, s.rd o = some x ∧ x.ty = T := by
  unfold tyM at h
  cases q : s.rd o with
  | none => rw [q] at h; cases h
  | some x =>
    rw [q] at h
    by_cases e : x.ty = T
    · have h : Res.ok () s = Res.ok u s' := by simpa [e] using h
      cases h
      exact ⟨rfl, x, rfl, e⟩
    · simp [e] at h
def writeM (w : OV → List Val → Option (OV × Val)) (o : Opd) (vs : List Val) : M Opd := fun s => match s.cur o with
  | some ov => match w ov vs with
    | some (n, r) => .ok (.val r) (s.wr o n)
    | none => .bad
  | none => .bad
/-- a method that writes: the new content, the answer -/
def opW (T : String) (w : OV → List Val → Option (OV × Val)) (f : EM) (fs : M (List Opd)) : EM := do
  let o ← f
  tyM T o
  let os ← fs
  let vs ← M.opt (toVals os)
  writeM w o vs
/-- a method that reads -/
def opR (T : String) (w : Val → List Val → Option Val) (f : EM) (fs : M (List Opd)) : EM := do
  let o ← f
  tyM T o
  let os ← fs
  let x ← rdM o
  let vs ← rdsM os
  M.opt ((w x vs).map .val)
def ImpW (g : Gx) (w : OV → List Val → Option (OV × Val)) (r : V → List V → Hp → VK → Prop) : Prop := ∀ (W : Wd) (s : Stt) (σ : L2.St) (H : Hp) ov vs n z p cs (Q : VK), SR g W s σ H → OR g W H ov (.ref p) [p] → VRs g W H vs cs → w ov vs = some (n, z) →
  W.own p → (∀ u c, (∀ H1, Post W H W H1 → H1 p = some u → OR g W H1 n (.ref p) [p] ∧ VR g W H1 z c) → Q c (upd H p u)) → r (.ref p) cs H Q
def ImpR (g : Gx) (w : Val → List Val → Option Val) (r : V → List V → Hp → VK → Prop) : Prop := ∀ (W : Wd) (s : Stt) (σ : L2.St) (H : Hp) x vs z c cs (Q : VK), SR g W s σ H → BR g W H x c → BRs g W H vs cs → w x vs = some z →
  (∀ H' d, Same H H' → VR g W H' z d → Q d H') → r c cs H Q
theorem tE_opW {w : OV → List Val → Option (OV × Val)} (hr : ImpW (.of X) w r) (hT : T ≠ "") (hw : ∀ ov vs n, w ov vs = some n → ov.isC = true) {σ : L2.St} {H : Hp} {Q : VK} (h : tE (.of X) (opW T w f fs) σ H Q) : tMG X T r (tE (.of X) f) (tAs (.of X) fs) σ H Q := by
  obtain ⟨W, s, hs, o1, s', e1, k⟩ := h
  obtain ⟨o, s1, eo, e2⟩ := M.bind_ok e1
  obtain ⟨_, s2, et, e3⟩ := M.bind_ok e2
  obtain ⟨q1, x, ex, ext⟩ := tyM_ok et
  obtain ⟨os, s3, ea, e4⟩ := M.bind_ok e3
  obtain ⟨vs, s4, ev, e5⟩ := M.bind_ok e4
  obtain ⟨q2, ev2⟩ := opt_ok ev
  subst q1 q2
  refine ⟨W, s, hs, o, _, eo, fun W1 H1 c p1 hs1 d1 => ⟨?_, W1, _, hs1, os, _, ea, fun W2 H2 cs p2 hs2 d2 => ?_⟩⟩
  · rw [← ext]
    exact (hs1.read d1 ex).ty (by rw [ext]; exact hT)
  · unfold writeM at e5
    cases qc : s4.cur o with
    | none => rw [qc] at e5; cases e5
    | some ov =>
      rw [qc] at e5
      cases qw : w ov vs with
      | none => simp [qw] at e5
      | some nr =>
        obtain ⟨n, z⟩ := nr
        have e6 : Res.ok (Opd.val z) (s4.wr o n) = Res.ok o1 s' := by simpa [qw] using e5
        cases e6
        have hi := hw ov vs _ qw
        have d3 := d1.mono p2
        obtain ⟨p, rfl, ro, ow⟩ := d3.own hs2 qc hi
        refine hr W2 s4 σ H2 ov vs n z p cs Q hs2 ro (d2.toVals ev2) qw ow fun u c hu => ?_
        obtain ⟨h3, h4⟩ := hu _ (.write ow) upd_same
        exact k W2 _ c ((p1.trans p2).trans (.write ow)) (hs2.write d3 qc hi h3) (.val h4)
theorem tE_opR {w : Val → List Val → Option Val} (hr : ImpR (.of X) w r) (hT : T ≠ "") {σ : L2.St} {H : Hp} {Q : VK} (h : tE (.of X) (opR T w f fs) σ H Q) : tMG X T r (tE (.of X) f) (tAs (.of X) fs) σ H Q := by
  obtain ⟨W, s, hs, o1, s', e1, k⟩ := h
  obtain ⟨o, s1, eo, e2⟩ := M.bind_ok e1
  obtain ⟨_, s2, et, e3⟩ := M.bind_ok e2
  obtain ⟨q1, x, ex, ext⟩ := tyM_ok et
  obtain ⟨os, s3, ea, e4⟩ := M.bind_ok e3
  obtain ⟨y, s4, ey, e5⟩ := M.bind_ok e4
  obtain ⟨q2, ey2⟩ := rdM_ok ey
  obtain ⟨vs, s5, ev, e6⟩ := M.bind_ok e5
  obtain ⟨q3, ev2⟩ := rdsM_ok ev
  obtain ⟨q4, ez0⟩ := opt_ok e6
  obtain ⟨z, ez, q5⟩ := map_some ez0
  subst q1 q2 q3 q4 q5
  refine ⟨W, s, hs, o, _, eo, fun W1 H1 c p1 hs1 d1 => ⟨?_, W1, _, hs1, os, _, ea, fun W2 H2 cs p2 hs2 d2 => ?_⟩⟩
  · rw [← ext]
    exact (hs1.read d1 ex).ty (by rw [ext]; exact hT)
  · exact hr W2 _ σ H2 y vs z c cs Q hs2 (hs2.read (d1.mono p2) ey2) (hs2.reads d2 ev2) ez fun H' d sm v => k W2 H' d ((p1.trans p2).trans (.same sm)) (hs2.same sm) (.val v)
theorem fe_mW {w : OV → List Val → Option (OV × Val)} (pa : PlainAttrs T) (slot : Slot T name id) (hty : typeOf (.builtin id) = pure (.type "method_descriptor")) (hm : MtR X id r) (hr : ImpW (.of X) w r) (hT : T ≠ "") (hw : ∀ ov vs n, w ov vs = some n → ov.isC = true) (ho : FE X o f) (ha : FA X (e :: es) fs)
    (hbase : attributeBase o name X.env (eval o X.env) = eval o X.env := by rfl)
    (hfew : ((backTo cpos (starEach (e :: es) X.env)).all (fun x => !x.1) && (backToKw cpos (keywordEach [] X.env)).all (fun x => x.1.isSome)
      && decide ((e :: es).length + ([] : List Keyword).length + (if ([] : List Keyword).isEmpty then 0 else 1) < 30)) = true := by rfl)
    (hline : (apos.endLine == cpos.line) = true := by rfl) (hs : starEach (e :: es) X.env = (false, eval e X.env) :: starEach es X.env := by rfl) (hplain : (backTo cpos (starEach es X.env)).any (·.1) = false := by rfl) :
    FE X (.Call (.Attribute o name apos) (e :: es) [] cpos) (opW T w f fs) :=
  ⟨(pe_mG pa slot hty hm ho.pe ha.pa hbase hfew hline hs hplain).imp fun _ _ _ h => tE_opW hr hT hw h⟩
theorem fe_mR {w : Val → List Val → Option Val} (pa : PlainAttrs T) (slot : Slot T name id) (hty : typeOf (.builtin id) = pure (.type "method_descriptor")) (hm : MtR X id r) (hr : ImpR (.of X) w r) (hT : T ≠ "") (ho : FE X o f) (ha : FA X (e :: es) fs)
    (hbase : attributeBase o name X.env (eval o X.env) = eval o X.env := by rfl)
    (hfew : ((backTo cpos (starEach (e :: es) X.env)).all (fun x => !x.1) && (backToKw cpos (keywordEach [] X.env)).all (fun x => x.1.isSome)
      && decide ((e :: es).length + ([] : List Keyword).length + (if ([] : List Keyword).isEmpty then 0 else 1) < 30)) = true := by rfl)
    (hline : (apos.endLine == cpos.line) = true := by rfl) (hs : starEach (e :: es) X.env = (false, eval e X.env) :: starEach es X.env := by rfl) (hplain : (backTo cpos (starEach es X.env)).any (·.1) = false := by rfl) :
    FE X (.Call (.Attribute o name apos) (e :: es) [] cpos) (opR T w f fs) :=
  ⟨(pe_mG pa slot hty hm ho.pe ha.pa hbase hfew hline hs hplain).imp fun _ _ _ h => tE_opR hr hT h⟩
theorem fe_mW0 {w : OV → List Val → Option (OV × Val)} (pa : PlainAttrs T) (slot : Slot T name id) (hty : typeOf (.builtin id) = pure (.type "method_descriptor")) (hm : MtR X id r) (hr : ImpW (.of X) w r) (hT : T ≠ "") (hw : ∀ ov vs n, w ov vs = some n → ov.isC = true) (ho : FE X o f)
    (hbase : attributeBase o name X.env (eval o X.env) = eval o X.env := by rfl) (hline : (apos.endLine == cpos.line) = true := by rfl) : FE X (.Call (.Attribute o name apos) [] [] cpos) (opW T w f aNil) := by
  refine ⟨(pe_mG0 pa slot hty hm ho.pe hbase hline).imp fun σ H Q h => ?_⟩
  obtain ⟨W, s, hs, o, s', e1, k⟩ := tE_opW (fs := aNil) hr hT hw h
  exact ⟨W, s, hs, o, s', e1, fun W1 H1 c p1 hs1 d1 => ⟨(k W1 H1 c p1 hs1 d1).1, by
    obtain ⟨_, W2, s2, hs2, os, s3, e2, k2⟩ := k W1 H1 c p1 hs1 d1
    cases e2
    exact k2 W2 H1 [] .refl hs2 .nil⟩⟩
theorem fe_mR0 {w : Val → List Val → Option Val} (pa : PlainAttrs T) (slot : Slot T name id) (hty : typeOf (.builtin id) = pure (.type "method_descriptor")) (hm : MtR X id r) (hr : ImpR (.of X) w r) (hT : T ≠ "") (ho : FE X o f)
    (hbase : attributeBase o name X.env (eval o X.env) = eval o X.env := by rfl) (hline : (apos.endLine == cpos.line) = true := by rfl) : FE X (.Call (.Attribute o name apos) [] [] cpos) (opR T w f aNil) := by
  refine ⟨(pe_mG0 pa slot hty hm ho.pe hbase hline).imp fun σ H Q h => ?_⟩
  obtain ⟨W, s, hs, o, s', e1, k⟩ := tE_opR (fs := aNil) hr hT h
  exact ⟨W, s, hs, o, s', e1, fun W1 H1 c p1 hs1 d1 => ⟨(k W1 H1 c p1 hs1 d1).1, by
    obtain ⟨_, W2, s2, hs2, os, s3, e2, k2⟩ := k W1 H1 c p1 hs1 d1
    cases e2
    exact k2 W2 H1 [] .refl hs2 .nil⟩⟩
/-! found.append(e) -/
def wAppend : OV → List Val → Option (OV × Val)
  | .lst xs, [x] => if xs.length < lim then some (.lst (xs ++ [x]), .non) else none
  | _, _ => none
theorem imp_append {g : Gx} : ImpW g wAppend rAppend := by
  intro W s σ H ov vs n z p cs Q hs ro rv e ho q
  unfold wAppend at e
  split at e
  · split at e
    · rename_i hl
      cases e
      cases ro with
      | lst r t =>
        cases rv with
        | cons h1 t1 =>
          cases t1
          exact ⟨p, _, _, rfl, rfl, r, by rw [← t.length]; exact lim_lt (Nat.le_of_lt hl), q _ _ fun H1 p1 e1 => ⟨.lst e1 ((t.append (.cons h1 .nil)).mono p1), .non⟩⟩
    · cases e
  · cases e
theorem isC_append : ∀ ov vs n, wAppend ov vs = some n → ov.isC = true := by
  intro ov vs n e
  unfold wAppend at e
  split at e
  · rfl
  · cases e

/-! ### target o[i] = v -/
def gSubM (w : OV → Val → Val → Option OV) (fo fi : EM) (v : Val) : M Unit := do
  let o ← fo
  let i ← fi
  let k ← M.opt i.toVal
  fun s => match s.cur o with
    | some ov => match w ov k v with
      | some n => .ok () (s.wr o n)
      | none => .bad
    | none => .bad
def ImpP (g : Gx) (w : OV → Val → Val → Option OV) (t : TSet) : Prop := ∀ (W : Wd) (s : Stt) (σ : L2.St) (H : Hp) ov k v n p ck cv (Q : Hp → Prop), SR g W s σ H → OR g W H ov (.ref p) [p] → VR g W H k ck → VR g W H v cv → w ov k v = some n →
  W.own p → (∀ u, (∀ H1, Post W H W H1 → H1 p = some u → OR g W H1 n (.ref p) [p]) → Q (upd H p u)) → t (.ref p) ck cv H Q
theorem fg_sub {w : OV → Val → Val → Option OV} {t : TSet} {i : Expr} {fi : EM} (hs : PSet X t) (hr : ImpP (.of X) w t) (hw : ∀ ov k v n, w ov k v = some n → ov.isC = true) (ho : FE X o f) (hi : FE X i fi)
    (ha : ∀ v, assign (.Subscript o i pos) X.env v = (do
      let ov ← holding [v] (eval o X.env)
      let iv ← holding [v, ov] (eval i X.env)
      standAt pos
      holding [v, ov, iv] (setItem ov iv v)
      release [v, ov, iv] []) := by intro _; rfl) : FG X (.Subscript o i pos) (gSubM w f fi) := by
  refine ⟨(pg_sub ho.pe hi.pe hs ha).imp fun cv σ H Q ⟨W, s, v, hs, rv, s', e1, K⟩ => ?_⟩
  obtain ⟨oo, s1, eo, e2⟩ := M.bind_ok e1
  obtain ⟨ii, s2, ei, e3⟩ := M.bind_ok e2
  obtain ⟨k, s3, ek, e4⟩ := M.bind_ok e3
  obtain ⟨q1, ek2⟩ := opt_ok ek
  subst q1
  refine ⟨W, s, hs, oo, s1, eo, fun W1 H1 c p1 hs1 d1 => ⟨W1, s1, hs1, ii, _, ei, fun W2 H2 ck p2 hs2 d2 => ?_⟩⟩
  cases qc : s3.cur oo with
  | none => simp [qc] at e4
  | some ov =>
    cases qw : w ov k v with
    | none => simp [qc, qw] at e4
    | some n =>
      have e5 : Res.ok () (s3.wr oo n) = Res.ok () s' := by simpa [qc, qw] using e4
      cases e5
      have hi := hw ov k v _ qw
      have d3 := d1.mono p2
      obtain ⟨p, rfl, ro, ow⟩ := d3.own hs2 qc hi
      refine hr W2 s3 σ H2 ov k v n p ck cv _ hs2 ro (d2.toVal ek2) (rv.mono (p1.trans p2)) qw ow fun u hu => ?_
      exact K W2 σ _ ((p1.trans p2).trans (.write ow)) (hs2.write d3 qc hi (hu _ (.write ow) upd_same))
def wSetL : OV → Val → Val → Option OV
  | .lst xs, .int i, v => (ixN xs.length i).map fun j => .lst (xs.set j v)
  | _, _, _ => none
theorem imp_setL {g : Gx} : ImpP g wSetL rSetL := by
  intro W s σ H ov k v n p ck cv Q hs ro rk rv e ho q
  unfold wSetL at e
  split at e
  · obtain ⟨j, h1, rfl⟩ := map_some e
    cases ro with
    | lst r t =>
      cases rk
      exact ⟨p, _, _, j, rfl, rfl, r, by rw [← t.length]; exact h1, q _ fun H1 p1 e1 => .lst e1 ((t.set rv j).mono p1)⟩
  · cases e
theorem isC_setL : ∀ ov k v n, wSetL ov k v = some n → ov.isC = true := by
  intro ov k v n e
  unfold wSetL at e
  split at e
  · rfl
  · cases e
end
end G

namespace G
open PySem PySem.Spec PyProof.Rows L2
section
variable {X : Cx} {e a b c : Expr} {f fa fb fc : EM} {pos p : Pos} {es : List Expr} {fs : M (List Opd)}
/-- a built-in type's name -/
def eCls (n : String) : EM := fun s => .ok (.val (.cls n)) s
theorem fe_cls {x : Str} {n : String} (hg : Gl X x) (hm : X.mg x = none) (hv : bootBuiltins x = some (.type n)) (hn : x ≠ "__name__" := by decide) (hd : (x == ("__debug__" : Str)) = false := by decide) : FE X (.Name x pos) (eCls n) := by
  refine ⟨(pe_bltn hg hm hv (v := .ty n) rfl hn hd).imp fun σ H Q ⟨W, s, hs, o, s', e1, k⟩ => ?_⟩
  cases e1
  exact k W H _ .refl hs (.val (.cls n))
/-- a op b op' c -/
def eChain (o o' : Val → Val → Option Val) (fa fb fc : EM) : EM := do
  let a ← fa
  let b ← fb
  let x ← rdM a
  let y ← rdM b
  let z ← M.opt ((o x y).map .val)
  let k ← blM z
  if k = true then do
    let c ← fc
    let y ← rdM b
    let w ← rdM c
    M.opt ((o' y w).map .val)
  else pure (.val (.bl false))
theorem tE_chain {g : Gx} {o o' : Val → Val → Option Val} {r r' : R2} (hr : Imp2 g o r) (hr' : Imp2 g o' r') {σ : L2.St} {H : Hp} {Q : VK}
    (h : tE g (eChain o o' fa fb fc) σ H Q) : tChain r r' (tE g fa) (tE g fb) (tE g fc) σ H Q := by
  obtain ⟨W, s, hs, o1, s', e1, k⟩ := h
  obtain ⟨a, s1, ea, e2⟩ := M.bind_ok e1
  obtain ⟨b, s2, eb, e3⟩ := M.bind_ok e2
  obtain ⟨x, s3, ex0, e4⟩ := M.bind_ok e3
  obtain ⟨q1, ex⟩ := rdM_ok ex0
  obtain ⟨y, s4, ey0, e5⟩ := M.bind_ok e4
  obtain ⟨q2, ey⟩ := rdM_ok ey0
  obtain ⟨z0, s5, ez1, e6⟩ := M.bind_ok e5
  obtain ⟨q3, ez0⟩ := opt_ok ez1
  obtain ⟨z, ez, q4⟩ := map_some ez0
  obtain ⟨kk, s6, ek, e7⟩ := M.bind_ok e6
  obtain ⟨q5, q6⟩ := blM_ok ek
  subst q1 q2 q3 q4 q5
  cases q6
  refine ⟨W, s, hs, a, s1, ea, fun W1 H1 cx p1 hs1 d1 => ⟨W1, s1, hs1, b, _, eb, fun W2 H2 cy p2 hs2 d2 => ?_⟩⟩
  refine hr W2 _ σ H2 x y _ cx cy _ hs2 (hs2.read (d1.mono p2) ex) (hs2.read d2 ey) ez fun H3 c3 sm v => ?_
  cases v
  refine ⟨kk, rfl, ?_⟩
  have p3 : Post W H W2 H3 := (p1.trans p2).trans (.same sm)
  cases kk with
  | false =>
    cases e7
    exact iteF (k W2 H3 _ p3 (hs2.same sm) (.val (.bl false)))
  | true =>
    obtain ⟨c, s7, ec, e8⟩ := M.bind_ok e7
    obtain ⟨y2, s8, ey2, e9⟩ := M.bind_ok e8
    obtain ⟨r1, ey3⟩ := rdM_ok ey2
    obtain ⟨w, s9, ew2, e10⟩ := M.bind_ok e9
    obtain ⟨r2, ew3⟩ := rdM_ok ew2
    obtain ⟨r3, et0⟩ := opt_ok e10
    obtain ⟨t, et, r4⟩ := map_some et0
    subst r1 r2 r3 r4
    refine iteT ⟨W2, _, hs2.same sm, c, _, ec, fun W4 H4 cw p4 hs4 d4 => ?_⟩
    exact hr' W4 _ σ H4 y2 w t cy cw Q hs4 (hs4.read ((d2.mono (.same sm)).mono p4) ey3) (hs4.read d4 ew3) et fun H' c sm' v => k W4 H' c ((p3.trans p4).trans (.same sm')) (hs4.same sm') (.val v)
theorem fe_chain {op op' : CmpOp} {r r' : R2} {o o' : Val → Val → Option Val} (ho : OpR X (compareOp op) r) (hr : Imp2 (.of X) o r) (ho' : OpR X (compareOp op') r') (hr' : Imp2 (.of X) o' r') (ha : FE X a fa) (hb : FE X b fb) (hc : FE X c fc)
    (hm : lastMarks [op, op'] [b, c] = false := by with_unfolding_all rfl) : FE X (.Compare a [op, op'] [b, c] pos) (eChain o o' fa fb fc) :=
  ⟨(pe_chain ho ho' ha.pe hb.pe hc.pe hm).imp fun _ _ _ h => tE_chain hr hr' h⟩
theorem ft_chain {op op' : CmpOp} {r r' : R2} {o o' : Val → Val → Option Val} (ho : OpR X (compareOp op) r) (hr : Imp2 (.of X) o r) (ho' : OpR X (compareOp op') r') (hr' : Imp2 (.of X) o' r') (ha : FE X a fa) (hb : FE X b fb) (hc : FE X c fc)
    (hm : lastMarks [op, op'] [b, c] = false := by with_unfolding_all rfl) : FT X (.Compare a [op, op'] [b, c] pos) (tst (eChain o o' fa fb fc)) :=
  ⟨(pt_chain ho ho' ha.pe hb.pe hc.pe hm).imp fun _ _ _ q => tT_tst (fun _ _ _ z => tE_chain hr hr' z) q⟩

/-! ### built-ins -/
variable {g : Gx}
theorem BRs.one {W : Wd} {H : Hp} {x : Val} {cs : List V} (h : BRs g W H [x] cs) : ∃ c, cs = [c] ∧ BR g W H x c := by
  cases h with
  | cons h t => cases t; exact ⟨_, rfl, h⟩
theorem BRs.two {W : Wd} {H : Hp} {x y : Val} {cs : List V} (h : BRs g W H [x, y] cs) : ∃ c d, cs = [c, d] ∧ BR g W H x c ∧ BR g W H y d := by
  cases h with
  | cons h t =>
    obtain ⟨d, rfl, h2⟩ := t.one
    exact ⟨_, d, rfl, h, h2⟩
def lAbs : List Val → Option Val
  | [.int i] => some (.int (if i < 0 then -i else i))
  | _ => none
theorem imp_abs : ImpL g lAbs (fun xs H Q => ∃ i, xs = [.int i] ∧ Q (.int (if i < 0 then -i else i)) H) := by
  intro W s σ H xs z cs Q hs b e q
  unfold lAbs at e
  split at e
  · cases e
    obtain ⟨c, rfl, h⟩ := b.one
    rw [h.intI]
    exact ⟨_, rfl, q H _ (Same.refl _) (.int _)⟩
  · cases e
def lMin : List Val → Option Val
  | [.int i, .int j] => some (.int (if j < i then j else i))
  | _ => none
theorem imp_min : ImpL g lMin (fun xs H Q => ∃ i j, xs = [.int i, .int j] ∧ Q (.int (if j < i then j else i)) H) := by
  intro W s σ H xs z cs Q hs b e q
  unfold lMin at e
  split at e
  · cases e
    obtain ⟨c, d, rfl, h, h2⟩ := b.two
    rw [h.intI, h2.intI]
    exact ⟨_, _, rfl, q H _ (Same.refl _) (.int _)⟩
  · cases e
def lMax : List Val → Option Val
  | [.int i, .int j] => some (.int (if j > i then j else i))
  | _ => none
theorem imp_max : ImpL g lMax (fun xs H Q => ∃ i j, xs = [.int i, .int j] ∧ Q (.int (if j > i then j else i)) H) := by
  intro W s σ H xs z cs Q hs b e q
  unfold lMax at e
  split at e
  · cases e
    obtain ⟨c, d, rfl, h, h2⟩ := b.two
    rw [h.intI, h2.intI]
    exact ⟨_, _, rfl, q H _ (Same.refl _) (.int _)⟩
  · cases e
def lLen : List Val → Option Val
  | [.lst xs] => some (.int xs.length)
  | [.tup xs] => some (.int xs.length)
  | [.scr xs] => some (.int xs.length)
  | [.str x] => some (.int x.length)
  | _ => none
def rLenS (K : PySem.W.Frag) : List V → Hp → VK → Prop := fun xs H Q => (∃ p ys, xs = [.ref p] ∧ (SqL K H p ys ∨ SqT K H p ys) ∧ Q (.int ys.length) H) ∨ ∃ z, xs = [.str z] ∧ z.length ≤ sizeLine ∧ Q (.int z.length) H
theorem call_lenS : CallR X (.builtin "len") (rLenS X.K) := call_len_seq.or call_len_str
theorem imp_len : ImpL g lLen (rLenS g.K) := by
  intro W s σ H xs z cs Q hs b e q
  unfold lLen at e
  split at e
  · cases e
    obtain ⟨c, rfl, h⟩ := b.one
    obtain ⟨p, cs, rfl, r, t⟩ := h.lstI
    rw [t.length] at q
    exact .inl ⟨p, cs, rfl, .inl (.of r), q H _ (Same.refl _) (.int _)⟩
  · cases e
    obtain ⟨c, rfl, h⟩ := b.one
    obtain ⟨p, cs, rfl, r, f, t⟩ := h.tupI
    rw [t.length] at q
    exact .inl ⟨p, cs, rfl, .inr (.of r), q H _ (Same.refl _) (.int _)⟩
  · cases e
    obtain ⟨c, rfl, h⟩ := b.one
    obtain ⟨p, cs, rfl, r, t⟩ := h.scrI
    rw [t.length] at q
    exact .inl ⟨p, cs, rfl, .inl r, q H _ (Same.refl _) (.int _)⟩
  · cases e
    obtain ⟨c, rfl, h⟩ := b.one
    obtain ⟨rfl, h2⟩ := h.strI
    exact .inr ⟨_, rfl, lim_line h2.len, q H _ (Same.refl _) (.int _)⟩
  · cases e
/-- tuple(x) -/
def lTup : List Val → Option Val
  | [.lst xs] => some (.tup xs)
  | [.tup xs] => some (.tup xs)
  | _ => none
def rTupOf (K : PySem.W.Frag) : List V → Hp → VK → Prop := fun xs H Q => ∃ p ys, xs = [.ref p] ∧ ((SqL K H p ys ∧ ∀ l, H l = none → Q (.ref l) (upd H l (.tup ys))) ∨ (SqT K H p ys ∧ Q (.ref p) H))
theorem imp_tuple : ImpL g lTup (rTupOf g.K) := by
  intro W s σ H xs z cs Q hs b e q
  unfold lTup at e
  split at e
  · cases e
    obtain ⟨c, rfl, h⟩ := b.one
    obtain ⟨p, cs, rfl, r, t⟩ := h.lstI
    exact ⟨p, cs, rfl, .inl ⟨.of r, fun l n => q _ _ (same_upd n) (hs.newTup n t)⟩⟩
  · cases e
    obtain ⟨c, rfl, h⟩ := b.one
    obtain ⟨p, cs, rfl, r, f, t⟩ := h.tupI
    exact ⟨p, cs, rfl, .inr ⟨.of r, q H _ (Same.refl _) (.tup f r t)⟩⟩
  · cases e
/-- isinstance(x, C), a built-in type -/
def Val.tyName : Val → Option String
  | .non => some "NoneType"
  | .bl _ => some "bool"
  | .int _ => some "int"
  | .str _ => some "str"
  | .tup _ => some "tuple"
  | .lst _ => some "list"
  | _ => none
def lIsi : List Val → Option Val
  | [x, .cls n] => (x.tyName.bind fun t => kitB t n).map .bl
  | _ => none
theorem imp_isi : ImpL g lIsi (rIsi g.K) := by
  intro W s σ H xs z cs Q hs b e q
  unfold lIsi at e
  split at e
  · rename_i x n
    obtain ⟨c, d, rfl, h, h2⟩ := b.two
    obtain ⟨r, e1, rfl⟩ := map_some e
    obtain ⟨t, e2, e3⟩ := bind_some e1
    have ed : d = .ty n := by
      cases h2 with
      | val h2 => cases h2; rfl
    subst ed
    have ty : TyX g.K H c (.type t) := by
      cases h with
      | val h =>
        cases h with
        | non => cases e2; exact .base .non
        | bl => cases e2; exact .base (.bl _)
        | int => cases e2; exact .base (.int _)
        | str => cases e2; exact .base (.str _)
        | tup f r t => cases e2; exact .base (.tup r)
        | lst f r t => cases e2; exact .base (.lst r)
        | _ => cases e2
      | lst r t => cases e2; exact .base (.lst r)
      | _ => cases e2
    exact ⟨c, _, _, _, r, rfl, .ty n, ty, kit_ty e3, q H _ (Same.refl _) (.bl r)⟩
  · cases e
/-- a call that makes a new list -/
def ImpN (g : Gx) (o : List Val → Option OV) (r : List V → Hp → VK → Prop) : Prop := ∀ (W : Wd) (s : Stt) (σ : L2.St) (H : Hp) xs z cs (Q : VK), SR g W s σ H → BRs g W H xs cs → o xs = some z →
  (∀ H' c fp, Same H H' → SR g (W.plus fp) s σ H' → OR g (W.plus fp) H' z c fp → (∀ a ∈ fp, ¬ W.forb a ∧ H a = none) → Q c H') → r cs H Q
def opN (o : List Val → Option OV) (fs : M (List Opd)) : M OV := do
  let os ← fs
  let xs ← rdsM os
  M.opt (o xs)
theorem tN_opN {g : Gx} {o : List Val → Option OV} {r : List V → Hp → VK → Prop} (hr : ImpN g o r) {σ : L2.St} {H : Hp} {Q : VK}
    (h : tN g (opN o fs) σ H Q) : tCB r (tAs g fs) σ H Q := by
  obtain ⟨W, s, hs, o1, s', e1, k⟩ := h
  obtain ⟨a, s1, ea, e2⟩ := M.bind_ok e1
  obtain ⟨x, s3, ex0, e3⟩ := M.bind_ok e2
  obtain ⟨q1, ex⟩ := rdsM_ok ex0
  obtain ⟨q2, ez⟩ := opt_ok e3
  subst q1 q2
  refine ⟨W, s, hs, a, _, ea, fun W1 H1 cs p1 hs1 d1 => ?_⟩
  exact hr W1 _ σ H1 x o1 cs Q hs1 (hs1.reads d1 ex) ez fun H' c fp sm h2 r2 n => k W1 H' c fp (p1.trans (.same sm)) ⟨h2, r2, fun a ha => ⟨(n a ha).1, p1.fresh (n a ha).2⟩⟩
theorem fn_callB {x : Str} {p : Pos} {id : String} {r : List V → Hp → VK → Prop} {o : List Val → Option OV} (hc : CallR X (.builtin id) r) (hr : ImpN (.of X) o r) (hg : Gl X x) (hm : X.mg x = none) (hv : bootBuiltins x = some (.builtin id)) (ha : FA X (e :: es) fs)
    (hn : x ≠ "__name__" := by decide) (hdb : (x == ("__debug__" : Str)) = false := by decide)
    (he : starEach (e :: es) X.env = (false, eval e X.env) :: starEach es X.env := by rfl) (hpl : (backTo pos (starEach es X.env)).any (·.1) = false := by rfl) : FN X (.Call (.Name x p) (e :: es) [] pos) (opN o fs) :=
  ⟨(pe_callB hc hg hm hv ha.pa hn hdb he hpl).imp fun _ _ _ h => tN_opN hr h⟩
theorem fn_callTy {x : Str} {p : Pos} {T : String} {r : List V → Hp → VK → Prop} {o : List Val → Option OV} (hc : CallR X (.type T) r) (hr : ImpN (.of X) o r) (hg : Gl X x) (hm : X.mg x = none) (hv : bootBuiltins x = some (.type T)) (ha : FA X (e :: es) fs)
    (hn : x ≠ "__name__" := by decide) (hdb : (x == ("__debug__" : Str)) = false := by decide)
    (he : starEach (e :: es) X.env = (false, eval e X.env) :: starEach es X.env := by rfl) (hpl : (backTo pos (starEach es X.env)).any (·.1) = false := by rfl) : FN X (.Call (.Name x p) (e :: es) [] pos) (opN o fs) :=
  ⟨(pe_callTy hc hg hm hv ha.pa hn hdb he hpl).imp fun _ _ _ h => tN_opN hr h⟩
theorem newL {W : Wd} {s : Stt} {σ : L2.St} {H : Hp} (hs : SR g W s σ H) {l : Addr} (n : H l = none) {xs : List Val} {cs : List V} (t : VRs g W H xs cs) :
    SR g (W.plus [l]) s σ (upd H l (.lst cs)) ∧ OR g (W.plus [l]) (upd H l (.lst cs)) (.lst xs) (.ref l) [l] ∧ ∀ a ∈ [l], ¬ W.forb a ∧ H a = none := by
  refine ⟨hs.plus n, .lst upd_same (t.plus n), fun a ha => ?_⟩
  have ea : a = l := by simpa using ha
  subst ea
  exact ⟨hs.fresh n, n⟩
/-- list(x) -/
def lList : List Val → Option OV
  | [.lst xs] => some (.lst xs)
  | [.tup xs] => some (.lst xs)
  | [.scr xs] => some (.lst xs)
  | _ => none
def rListOf (K : PySem.W.Frag) : List V → Hp → VK → Prop := fun xs H Q => ∃ p ys, xs = [.ref p] ∧ (SqL K H p ys ∨ SqT K H p ys) ∧ ∀ l, H l = none → Q (.ref l) (upd H l (.lst ys))
theorem imp_list : ImpN g lList (rListOf g.K) := by
  intro W s σ H xs z cs Q hs b e q
  unfold lList at e
  split at e
  · cases e
    obtain ⟨c, rfl, h⟩ := b.one
    obtain ⟨p, cs, rfl, r, t⟩ := h.lstI
    refine ⟨p, cs, rfl, .inl (.of r), fun l n => ?_⟩
    obtain ⟨n1, n2, n3⟩ := newL hs n t
    exact q _ _ _ (same_upd n) n1 n2 n3
  · cases e
    obtain ⟨c, rfl, h⟩ := b.one
    obtain ⟨p, cs, rfl, r, f, t⟩ := h.tupI
    refine ⟨p, cs, rfl, .inr (.of r), fun l n => ?_⟩
    obtain ⟨n1, n2, n3⟩ := newL hs n t
    exact q _ _ _ (same_upd n) n1 n2 n3
  · cases e
    obtain ⟨c, rfl, h⟩ := b.one
    obtain ⟨p, cs, rfl, r, t⟩ := h.scrI
    refine ⟨p, cs, rfl, .inl r, fun l n => ?_⟩
    obtain ⟨n1, n2, n3⟩ := newL hs n t
    exact q _ _ _ (same_upd n) n1 n2 n3
  · cases e
end
end G

namespace G
open PySem PySem.Spec PyProof.Rows L2
/-- a def of the text stands behind its name -/
structure Fct (K : PySem.W.Frag) (mg : Str → Option Value) (x : Str) (st : Stmt) : Prop where
  ex : ∃ f fd, Fun K x x st f fd ∧ mg x = some (.ref f)
/-- .. and keeps its promise: the function F of m arguments -/
structure Def (P : Program) (w : World) (K : PySem.W.Frag) (mg : Str → Option Value) (base : Heap) (x : Str) (ps : List Str) (k m : Nat) (F : FM) : Prop where
  ex : ∃ f fd, FnOk P w K mg base CX0 k f fd ps (spF ⟨P, w, K⟩ m F) ∧ mg x = some (.ref f) ∧ PySem.W.keepIn K (.ref f) = true ∧ Binds K fd ps []
section
variable {P : Program} {w : World} {K : PySem.W.Frag} {mg : Str → Option Value} {base : Heap}
theorem def_ok {x : Str} {st : Stmt} {N ps : List Str} {k : Nat} {sm : SM} (T : Fct K mg x st) (S : FnScope N ps (defScope st)) (hm : ps.length ≤ N.length)
    (hb : ∀ (kV doc pm : Value) (an : Option Addr) (cdv ct : Value) (us : List Value), us.length = ps.length → bindArgs (PySem.W.fnOf x x (defArgs st) (defBody st) (defScope st) .none kV doc pm an cdv ct) ⟨us, []⟩ = pure (ps.zip us))
    (hbody : ∀ (f : Addr) (cdv : Value) (A : Around) (outer : List Env) (s : Shared) (H : Hp) (E : XK), Room k (A.deeper (envOfC x (defScope st) s.heap.objs.size f cdv)) → FSs (cxOf CX0 P w K mg base N x (defScope st) f cdv A outer s H E).nox (defBody st) sm) :
    Def P w K mg base x ps (k + 1) ps.length (runF N.length sm) := by
  obtain ⟨f, fd, F, hg⟩ := T.ex
  exact ⟨f, fd, fn_ok F S hm fun cdv A outer s H E hr => hbody f cdv A outer s H E hr, hg, F.kp, F.binds hb⟩
end
section
variable {X : Cx} {e : Expr} {es : List Expr} {fs : M (List Opd)} {pos p : Pos} {F : FM} {m k : Nat} {x : Str} {ps : List Str}
theorem fe_callD (D : Def X.prog X.w X.K X.mg X.base x ps k m F) (hr : Room k X.A) (hg : Gl X x) (ha : FA X (e :: es) fs)
    (hdb : (x == ("__debug__" : Str)) = false := by decide) (he : starEach (e :: es) X.env = (false, eval e X.env) :: starEach es X.env := by rfl) (hpl : (backTo pos (starEach es X.env)).any (·.1) = false := by rfl) :
    FE X (.Call (.Name x p) (e :: es) [] pos) (callV m F [] fs) := by
  obtain ⟨f, fd, G0, hm, hk, hb⟩ := D.ex
  exact fe_call G0 hr hg hm hk hb .nil (fun _ _ => .nil) pass0 ha hdb he hpl
theorem fn_callD (D : Def X.prog X.w X.K X.mg X.base x ps k m F) (hr : Room k X.A) (hg : Gl X x) (ha : FA X (e :: es) fs)
    (hdb : (x == ("__debug__" : Str)) = false := by decide) (he : starEach (e :: es) X.env = (false, eval e X.env) :: starEach es X.env := by rfl) (hpl : (backTo pos (starEach es X.env)).any (·.1) = false := by rfl) :
    FN X (.Call (.Name x p) (e :: es) [] pos) (callN m F [] fs) := by
  obtain ⟨f, fd, G0, hm, hk, hb⟩ := D.ex
  exact fn_call G0 hr hg hm hk hb .nil (fun _ _ => .nil) pass0 ha hdb he hpl
end
/-! ### the end -/
theorem VRs.ints {g : Gx} {W : Wd} {H : Hp} : ∀ ns : List Int, VRs g W H (ns.map Val.int) (ns.map V.int)
  | [] => .nil
  | n :: ns => .cons (.int n) (VRs.ints ns)
theorem law_sp {g : Gx} {F : FM} {H : Hp} {a : Addr} {ns : List Int} {hp' : List OV} (h : F [.scr (ns.map Val.int)] [] = .ok (.v (.bl true)) hp') (hS : SqL g.K H a (ns.map V.int)) (E : XK) :
    spF g 1 F [.ref a] H (fun v _ => v = .bl true) E := by
  refine ⟨⟨fun _ => False, [], [[]]⟩, [.scr (ns.map Val.int)], [], ?_, rfl, by simp, _, hp', h, fun W' H' c p hs' => ?_⟩
  · refine ⟨rfl, rfl, rfl, fun i o q => ?_, fun i o q => by simp at q, fun i j l m b h1 h2 h3 h4 => ?_, fun i j l m b h1 => by simp at h1, fun l m b h1 => by simp at h1, fun b z => ?_, fun b z => z.elim⟩
    · cases i with
      | succ i => simp at q
      | zero =>
        cases q
        refine ⟨.ref a, [], rfl, rfl, .v (.scr ?_ (VRs.ints ns))⟩
        rcases hS with hS | hS
        · have nf : ¬ Wd.forb ⟨fun _ => False, [], [[]]⟩ a := by
            rintro (z | ⟨l, h1, h2⟩ | ⟨l, h1, h2⟩)
            · exact z
            · simp at h1
            · have e : l = [] := by simpa using h1
              rw [e] at h2
              simp at h2
          exact .inl ⟨nf, hS⟩
        · exact .inr hS
    · have : l = [] := by
        have := List.mem_of_getElem? h1
        simpa using this
      subst this; cases h3
    · rcases z with ⟨l, h1, h2⟩ | ⟨l, h1, h2⟩
      · simp at h1
      · have : l = [] := by simpa using h1
        subst this; cases h2
  · obtain ⟨c', fp, h1, h2, h3⟩ := hs'.slot 0 _ rfl
    cases h1
    cases h3 with
    | v h3 => cases h3; rfl
end G
namespace G
open PySem PySem.Spec PyProof.Rows L2
section
variable {X : Cx}
theorem fs_par2 {i j : Nat} {x y : Str} {a b : Expr} {fs : M (List Opd)} {px py pt pos : Pos} {kt k2 : Nat} {pt2 : Pos} (hc : Cok X) (ha : FA X [a, b] fs) (hi : X.N[i]? = some x) (hj : X.N[j]? = some y) (hij : i ≠ j)
    (hx : X.env.scope.names.lookup x = some .local) (hy : X.env.scope.names.lookup y = some .local)
    (hw : swappedStores [.Tuple [.Name x px, .Name y py] kt pt] (.Tuple [a, b] k2 pt2) X.env = pure (some [x, y]))
    (hs : swapsWithSole [.Tuple [.Name x px, .Name y py] kt pt] (.Tuple [a, b] k2 pt2) pos.line X.env = pure false := by rfl) :
    FS X (.Assign [.Tuple [.Name x px, .Name y py] kt pt] (.Tuple [a, b] k2 pt2) pos) (sPar [i, j] fs) :=
  fs_par hc hi hj hij hx hy ha hw hs fun ha => ps_par hc.calm hc.nd hi hj hij hx hy ha hw hs
theorem fs_par3 {i j l : Nat} {x y z : Str} {a b c : Expr} {fs : M (List Opd)} {px py pz pt pos : Pos} {kt k2 : Nat} {pt2 : Pos} (hc : Cok X) (ha : FA X [a, b, c] fs) (hi : X.N[i]? = some x) (hj : X.N[j]? = some y) (hl : X.N[l]? = some z) (hij : i ≠ j) (hil : i ≠ l) (hjl : j ≠ l)
    (hx : X.env.scope.names.lookup x = some .local) (hy : X.env.scope.names.lookup y = some .local) (hz : X.env.scope.names.lookup z = some .local)
    (hw : swappedStores [.Tuple [.Name x px, .Name y py, .Name z pz] kt pt] (.Tuple [a, b, c] k2 pt2) X.env = pure (some [x, y, z]))
    (hs : swapsWithSole [.Tuple [.Name x px, .Name y py, .Name z pz] kt pt] (.Tuple [a, b, c] k2 pt2) pos.line X.env = pure false := by rfl) :
    FS X (.Assign [.Tuple [.Name x px, .Name y py, .Name z pz] kt pt] (.Tuple [a, b, c] k2 pt2) pos) (sPar [i, j, l] fs) := by
  refine ⟨(ps_par3 hc.calm hc.nd hi hj hl hij hil hjl hx hy hz ha.pa hw hs).imp fun D σ H ⟨W, s, hs, k, s', e1, K⟩ => ?_⟩
  obtain ⟨os, s1, ea, e2⟩ := M.bind_ok e1
  obtain ⟨vs, s2, ev, e3⟩ := M.bind_ok e2
  obtain ⟨q1, ev2⟩ := opt_ok ev
  subst q1
  obtain ⟨vs0, ev3, ev4⟩ := bind_some ev2
  obtain ⟨_, s3, eg, e4⟩ := M.bind_ok e3
  cases e4
  refine ⟨W, s, hs, os, _, ea, fun W1 H1 cs p1 hs1 d => ?_⟩
  have r := d.toVals ev3
  by_cases hl : vs0.length = [i, j, l].length
  · rw [if_pos hl] at ev4
    cases ev4
    match vs, cs, r, hl with
    | [v, w, u], [c, d', e'], r, _ =>
      obtain ⟨W', p2, h2⟩ := putVs_ok (σ0 := σ) (ivs := [(i, v), (j, w), (l, u)]) hs1 r eg
      exact ⟨c, d', e', rfl, K _ _ H1 (p1.trans p2) h2⟩
  · rw [if_neg hl] at ev4
    cases ev4
/-- name += e, ints or texts -/
def sAug (i : Nat) (o : Val → Val → Option Val) (f : EM) : SM := do
  let x ← eVar i
  let a ← toValM x
  let y ← f
  let b ← rdM y
  let z ← M.opt (o a b)
  putV i z
  pure .nx
end
end G

namespace G
open PySem PySem.Spec PyProof.Rows L2
/-! ### plain law: what a function answers -/
def Ok {α : Type} (f : M α) (s : Stt) (Q : α → Stt → Prop) : Prop := ∃ a s', f s = .ok a s' ∧ Q a s'
def FOk (r : FRes) (Q : OV → List OV → Prop) : Prop := ∃ o hp, r = .ok o hp ∧ Q o hp
theorem Ok.mono {α : Type} {f : M α} {s : Stt} {Q Q' : α → Stt → Prop} (h : Ok f s Q) (i : ∀ a s', Q a s' → Q' a s') : Ok f s Q' :=
  let ⟨a, s', e, q⟩ := h; ⟨a, s', e, i _ _ q⟩
theorem FOk.mono {r : FRes} {Q Q' : OV → List OV → Prop} (h : FOk r Q) (i : ∀ a s', Q a s' → Q' a s') : FOk r Q' :=
  let ⟨a, s', e, q⟩ := h; ⟨a, s', e, i _ _ q⟩
theorem ok_bind {α β : Type} {x : M α} {f : α → M β} {s : Stt} {Q : β → Stt → Prop} : Ok (x >>= f) s Q ↔ Ok x s fun a s1 => Ok (f a) s1 Q := by
  constructor
  · rintro ⟨b, s', e, q⟩
    obtain ⟨a, s1, e1, e2⟩ := M.bind_ok e
    exact ⟨a, s1, e1, b, s', e2, q⟩
  · rintro ⟨a, s1, e1, b, s', e2, q⟩
    exact ⟨b, s', by rw [M.bind_def]; unfold M.bind; rw [e1]; exact e2, q⟩
theorem ok_fun {α : Type} {r : Stt → Res α} {s : Stt} {Q : α → Stt → Prop} : Ok (fun s => r s) s Q ↔ ∃ a s', r s = .ok a s' ∧ Q a s' := Iff.rfl
theorem ok_pure {α : Type} {a : α} {s : Stt} {Q : α → Stt → Prop} : Ok (pure a : M α) s Q ↔ Q a s :=
  ⟨fun ⟨_, _, e, q⟩ => by cases e; exact q, fun q => ⟨a, s, rfl, q⟩⟩
theorem ok_opt {α : Type} {o : Option α} {s : Stt} {Q : α → Stt → Prop} : Ok (M.opt o) s Q ↔ ∃ a, o = some a ∧ Q a s := by
  constructor
  · rintro ⟨a, s', e, q⟩
    obtain ⟨e1, e2⟩ := opt_ok e
    subst e1
    exact ⟨a, e2, q⟩
  · rintro ⟨a, rfl, q⟩
    exact ⟨a, s, rfl, q⟩
theorem ok_rdM {a : Opd} {s : Stt} {Q : Val → Stt → Prop} : Ok (rdM a) s Q ↔ ∃ x, s.rd a = some x ∧ Q x s := by
  constructor
  · rintro ⟨x, s', e, q⟩
    obtain ⟨e1, e2⟩ := rdM_ok e
    subst e1
    exact ⟨x, e2, q⟩
  · rintro ⟨x, e, q⟩
    exact ⟨x, s, by unfold rdM; rw [e], q⟩
theorem ok_rdsM {a : List Opd} {s : Stt} {Q : List Val → Stt → Prop} : Ok (rdsM a) s Q ↔ ∃ x, s.rds a = some x ∧ Q x s := by
  constructor
  · rintro ⟨x, s', e, q⟩
    obtain ⟨e1, e2⟩ := rdsM_ok e
    subst e1
    exact ⟨x, e2, q⟩
  · rintro ⟨x, e, q⟩
    exact ⟨x, s, by unfold rdsM; rw [e], q⟩
def opdOf (i : Nat) : OV → Opd
  | .v x => .val x
  | _ => .sl i
theorem opdOf_v {i : Nat} {x : Val} : opdOf i (.v x) = .val x := rfl
theorem opdOf_l {i : Nat} {x : List Val} : opdOf i (.lst x) = .sl i := rfl
theorem opdOf_d {i : Nat} {x : List (Val × Val)} : opdOf i (.dct x) = .sl i := rfl
variable {s : Stt} {i : Nat} {f g fa fb fc : EM} {fs : M (List Opd)} {Q : Opd → Stt → Prop}
theorem ok_eVar : Ok (eVar i) s Q ↔ ∃ o, s.sl[i]? = some (some o) ∧ Q (opdOf i o) s := by
  unfold Ok eVar
  constructor
  · rintro ⟨a, s', e, q⟩
    cases h : s.sl[i]? with
    | none => rw [h] at e; cases e
    | some o =>
      cases o with
      | none => rw [h] at e; cases e
      | some o =>
        rw [h] at e
        cases o <;> (cases e; exact ⟨_, rfl, q⟩)
  · rintro ⟨o, h, q⟩
    rw [h]
    cases o <;> exact ⟨_, _, rfl, q⟩
theorem ok_eC {v : Val} : Ok (eC v) s Q ↔ Q (.val v) s := ⟨fun ⟨_, _, e, q⟩ => by cases e; exact q, fun q => ⟨_, _, rfl, q⟩⟩
theorem ok_eCls {v : String} : Ok (eCls v) s Q ↔ Q (.val (.cls v)) s := ⟨fun ⟨_, _, e, q⟩ => by cases e; exact q, fun q => ⟨_, _, rfl, q⟩⟩
theorem ex_map {α β : Type} {o : Option α} {h : α → β} {P : β → Prop} : (∃ b, o.map h = some b ∧ P b) ↔ ∃ a, o = some a ∧ P (h a) := by
  constructor
  · rintro ⟨b, e, q⟩
    obtain ⟨a, e1, rfl⟩ := map_some e
    exact ⟨a, e1, q⟩
  · rintro ⟨a, rfl, q⟩
    exact ⟨_, rfl, q⟩
theorem ex_bind {α β : Type} {o : Option α} {h : α → Option β} {P : β → Prop} : (∃ b, o.bind h = some b ∧ P b) ↔ ∃ a, o = some a ∧ ∃ b, h a = some b ∧ P b := by
  constructor
  · rintro ⟨b, e, q⟩
    obtain ⟨a, e1, e2⟩ := bind_some e
    exact ⟨a, e1, b, e2, q⟩
  · rintro ⟨a, rfl, b, e, q⟩
    exact ⟨b, e, q⟩
theorem ex_if {α : Type} {c : Prop} [Decidable c] {o : α} {P : α → Prop} : (∃ b, (if c then some o else none) = some b ∧ P b) ↔ c ∧ P o := by
  by_cases h : c
  · simp [h]
  · simp [h]
theorem ok_op2 {o : Val → Val → Option Val} : Ok (op2 o f g) s Q ↔ Ok f s fun a s1 => Ok g s1 fun b s2 => ∃ x, s2.rd a = some x ∧ ∃ y, s2.rd b = some y ∧ ∃ z, o x y = some z ∧ Q (.val z) s2 := by
  unfold op2
  simp only [ok_bind, ok_rdM, ok_opt, ex_map]
theorem ok_op1 {o : Val → Option Val} : Ok (op1 o f) s Q ↔ Ok f s fun a s1 => ∃ x, s1.rd a = some x ∧ ∃ z, o x = some z ∧ Q (.val z) s1 := by
  unfold op1
  simp only [ok_bind, ok_rdM, ok_opt, ex_map]
theorem ok_opL {o : List Val → Option Val} : Ok (opL o fs) s Q ↔ Ok fs s fun a s1 => ∃ x, s1.rds a = some x ∧ ∃ z, o x = some z ∧ Q (.val z) s1 := by
  unfold opL
  simp only [ok_bind, ok_rdsM, ok_opt, ex_map]
theorem ok_opN {o : List Val → Option OV} {Q : OV → Stt → Prop} : Ok (opN o fs) s Q ↔ Ok fs s fun a s1 => ∃ x, s1.rds a = some x ∧ ∃ z, o x = some z ∧ Q z s1 := by
  unfold opN
  simp only [ok_bind, ok_rdsM, ok_opt]
theorem ok_blM {a : Opd} {Q : Bool → Stt → Prop} : Ok (blM a) s Q ↔ ∃ b, a = .val (.bl b) ∧ Q b s := by
  constructor
  · rintro ⟨x, s', e, q⟩
    obtain ⟨e1, e2⟩ := blM_ok e
    subst e1
    exact ⟨x, e2, q⟩
  · rintro ⟨x, rfl, q⟩
    exact ⟨x, s, rfl, q⟩
theorem ok_tst {Q : Bool → Stt → Prop} : Ok (tst f) s Q ↔ Ok f s fun a s1 => ∃ b, a = .val (.bl b) ∧ Q b s1 := by
  unfold tst
  simp only [ok_bind, ok_blM]
theorem ok_ite {α : Type} {b : Bool} {x y : M α} {Q : α → Stt → Prop} : Ok (if b = true then x else y) s Q ↔ if b = true then Ok x s Q else Ok y s Q := by
  cases b <;> simp
theorem ok_tNot {t : M Bool} {Q : Bool → Stt → Prop} : Ok (tNotM t) s Q ↔ Ok t s fun b s1 => Q (!b) s1 := by
  unfold tNotM
  simp only [ok_bind, ok_pure]
theorem ok_tAnd {t u : M Bool} {Q : Bool → Stt → Prop} : Ok (tAndM t u) s Q ↔ Ok t s fun b s1 => if b = true then Ok u s1 Q else Q false s1 := by
  unfold tAndM
  simp only [ok_bind, ok_ite, ok_pure]
theorem ok_tOr {t u : M Bool} {Q : Bool → Stt → Prop} : Ok (tOrM t u) s Q ↔ Ok t s fun b s1 => if b = true then Q true s1 else Ok u s1 Q := by
  unfold tOrM
  simp only [ok_bind, ok_ite, ok_pure]
theorem ok_eAnd : Ok (eAnd f g) s Q ↔ Ok f s fun a s1 => ∃ b, a = .val (.bl b) ∧ if b = true then Ok g s1 Q else Q (.val (.bl false)) s1 := by
  unfold eAnd
  simp only [ok_bind, ok_blM, ok_ite, ok_pure]
theorem ok_eOr : Ok (eOr f g) s Q ↔ Ok f s fun a s1 => ∃ b, a = .val (.bl b) ∧ if b = true then Q (.val (.bl true)) s1 else Ok g s1 Q := by
  unfold eOr
  simp only [ok_bind, ok_blM, ok_ite, ok_pure]
theorem ok_eNot : Ok (eNot f) s Q ↔ Ok f s fun a s1 => ∃ b, a = .val (.bl b) ∧ Q (.val (.bl (!b))) s1 := by
  unfold eNot
  simp only [ok_bind, ok_blM, ok_pure]
theorem ok_eIf {t : M Bool} : Ok (eIf t f g) s Q ↔ Ok t s fun b s1 => if b = true then Ok f s1 Q else Ok g s1 Q := by
  unfold eIf
  simp only [ok_bind, ok_ite]
theorem ok_chain {o o' : Val → Val → Option Val} : Ok (eChain o o' fa fb fc) s Q ↔ Ok fa s fun a s1 => Ok fb s1 fun b s2 => ∃ x, s2.rd a = some x ∧ ∃ y, s2.rd b = some y ∧ ∃ z, o x y = some z ∧ ∃ k, z = .bl k ∧
    if k = true then Ok fc s2 fun c s3 => ∃ y, s3.rd b = some y ∧ ∃ w, s3.rd c = some w ∧ ∃ z, o' y w = some z ∧ Q (.val z) s3 else Q (.val (.bl false)) s2 := by
  unfold eChain
  simp only [ok_bind, ok_rdM, ok_opt, ex_map, ok_blM, ok_ite, ok_pure, Opd.val.injEq]
theorem ok_aNil {Q : List Opd → Stt → Prop} : Ok aNil s Q ↔ Q [] s := ⟨fun ⟨_, _, e, q⟩ => by cases e; exact q, fun q => ⟨_, _, rfl, q⟩⟩
theorem ok_aCons {Q : List Opd → Stt → Prop} : Ok (aCons f fs) s Q ↔ Ok f s fun a s1 => Ok fs s1 fun r s2 => Q (a :: r) s2 := by
  unfold aCons
  simp only [ok_bind, ok_pure]
theorem ex_short {vs : List Val} {P : List Val → Prop} : (∃ b, short vs = some b ∧ P b) ↔ vs.length ≤ lim ∧ P vs := by
  unfold short
  exact ex_if
theorem ok_eTup : Ok (eTup fs) s Q ↔ Ok fs s fun os s1 => ∃ vs, toVals os = some vs ∧ vs.length ≤ lim ∧ Q (.val (.tup vs)) s1 := by
  unfold eTup
  simp only [ok_bind, ok_opt, ex_map, ex_bind, ex_short]
theorem ok_eLst : Ok (eLst fs) s Q ↔ Ok fs s fun os s1 => ∃ vs, toVals os = some vs ∧ vs.length ≤ lim ∧ Q (.val (.lst vs)) s1 := by
  unfold eLst
  simp only [ok_bind, ok_opt, ex_map, ex_bind, ex_short]
theorem ok_nLst {Q : OV → Stt → Prop} : Ok (nLst fs) s Q ↔ Ok fs s fun os s1 => ∃ vs, toVals os = some vs ∧ vs.length ≤ lim ∧ Q (.lst vs) s1 := by
  unfold nLst
  simp only [ok_bind, ok_opt, ex_map, ex_bind, ex_short]
theorem ok_eFrz {n : M OV} : Ok (eFrz n) s Q ↔ Ok n s fun o s1 => ∃ v, o.snap = some v ∧ Q (.val v) s1 := by
  unfold eFrz
  simp only [ok_bind, ok_opt, ex_map]
theorem ok_oNone {Q : Option Int → Stt → Prop} : Ok oNone s Q ↔ Q none s := ⟨fun ⟨_, _, e, q⟩ => by cases e; exact q, fun q => ⟨_, _, rfl, q⟩⟩
theorem ok_oSome {Q : Option Int → Stt → Prop} : Ok (oSome f) s Q ↔ Ok f s fun a s1 => ∃ j, a = .val (.int j) ∧ Q (some j) s1 := by
  unfold oSome
  simp only [ok_bind, ok_opt, ex_map]
  constructor
  · refine fun h => h.mono fun a s1 ⟨j, e, q⟩ => ?_
    unfold Opd.int at e
    split at e
    · cases e; exact ⟨_, rfl, q⟩
    · cases e
  · exact fun h => h.mono fun a s1 ⟨j, e, q⟩ => ⟨j, by subst e; rfl, q⟩
theorem ok_opS {o : Val → Option Int → Option Int → Option Val} {l u : M (Option Int)} : Ok (opS o f l u) s Q ↔ Ok f s fun a s1 => Ok l s1 fun i s2 => Ok u s2 fun j s3 => ∃ x, s3.rd a = some x ∧ ∃ z, o x i j = some z ∧ Q (.val z) s3 := by
  unfold opS
  simp only [ok_bind, ok_rdM, ok_opt, ex_map]
def frzO : OV → Val
  | .v v => v
  | .lst xs => .lst xs
  | .dct kvs => .dct kvs
theorem ok_frz {r : FRes} : Ok (fun s => frzRes s r) s Q ↔ FOk r fun o hp => Q (.val (frzO o)) { s with hp := hp } := by
  constructor
  · rintro ⟨a, s', e, q⟩
    cases r with
    | ok o hp => cases o <;> (cases e; exact ⟨_, _, rfl, q⟩)
    | exn => cases e
    | bad => cases e
  · rintro ⟨o, hp, rfl, q⟩
    cases o <;> exact ⟨_, _, rfl, q⟩
theorem ok_callV {m : Nat} {F : FM} {ds : List Val} : Ok (callV m F ds fs) s Q ↔ Ok fs s fun os s1 => ∃ vs, argsOf m ds os = some vs ∧ FOk (F vs s1.hp) fun o hp => Q (.val (frzO o)) { s1 with hp := hp } := by
  unfold callV
  simp only [ok_bind, ok_opt]
  constructor
  · refine fun h => h.mono fun a s1 ⟨vs, e, q⟩ => ⟨vs, e, ?_⟩
    obtain ⟨o, s', e, q⟩ := q
    exact ok_frz.mp ⟨o, s', e, q⟩
  · refine fun h => h.mono fun a s1 ⟨vs, e, q⟩ => ⟨vs, e, ?_⟩
    obtain ⟨o, s', e, q⟩ := ok_frz.mpr q
    exact ⟨o, s', e, q⟩
def isNew : OV → Prop
  | .v _ => False
  | _ => True
theorem ok_callN {m : Nat} {F : FM} {ds : List Val} {Q : OV → Stt → Prop} : Ok (callN m F ds fs) s Q ↔ Ok fs s fun os s1 => ∃ vs, argsOf m ds os = some vs ∧ FOk (F vs s1.hp) fun o hp => isNew o ∧ Q o { s1 with hp := hp } := by
  unfold callN
  simp only [ok_bind, ok_opt]
  constructor
  · refine fun h => h.mono fun a s1 ⟨vs, e, q⟩ => ⟨vs, e, ?_⟩
    obtain ⟨o, s', e, q⟩ := q
    have e : newRes s1 (F vs s1.hp) = .ok o s' := e
    cases h : F vs s1.hp with
    | ok o2 hp =>
      rw [h] at e
      cases o2 with
      | v => cases e
      | lst => cases e; exact ⟨_, _, rfl, True.intro, q⟩
      | dct => cases e; exact ⟨_, _, rfl, True.intro, q⟩
    | exn => rw [h] at e; cases e
    | bad => rw [h] at e; cases e
  · refine fun h => h.mono fun a s1 ⟨vs, e, q⟩ => ⟨vs, e, ?_⟩
    obtain ⟨o, hp, e, n, q⟩ := q
    cases o with
    | v => exact n.elim
    | lst => exact ⟨_, _, by show newRes s1 (F vs s1.hp) = _; rw [e]; rfl, q⟩
    | dct => exact ⟨_, _, by show newRes s1 (F vs s1.hp) = _; rw [e]; rfl, q⟩
theorem ok_newC {o : OV} : Ok (newC o) s Q ↔ o.isC = true ∧ Q (.val (.ref s.hp.length)) { s with hp := s.hp ++ [o] } := by
  unfold newC Ok
  by_cases h : o.isC = true
  · simp only [h, if_true, true_and]
    exact ⟨fun ⟨_, _, e, q⟩ => by cases e; exact q, fun q => ⟨_, _, rfl, q⟩⟩
  · simp [h]
theorem ok_eCell {n : M OV} : Ok (eCell n) s Q ↔ Ok n s fun o s1 => o.isC = true ∧ Q (.val (.ref s1.hp.length)) { s1 with hp := s1.hp ++ [o] } := by
  unfold eCell
  simp only [ok_bind, ok_newC]
theorem ok_tyM {T : String} {o : Opd} {Q : Unit → Stt → Prop} : Ok (tyM T o) s Q ↔ ∃ x, s.rd o = some x ∧ x.ty = T ∧ Q () s := by
  constructor
  · rintro ⟨_, s', e, q⟩
    obtain ⟨e1, x, e2, e3⟩ := tyM_ok e
    subst e1
    exact ⟨x, e2, e3, q⟩
  · rintro ⟨x, e, h, q⟩
    refine ⟨(), s, ?_, q⟩
    unfold tyM
    rw [e]
    simp [h]
theorem ok_writeM {w : OV → List Val → Option (OV × Val)} {o : Opd} {vs : List Val} : Ok (writeM w o vs) s Q ↔ ∃ ov, s.cur o = some ov ∧ ∃ nr, w ov vs = some nr ∧ Q (.val nr.2) (s.wr o nr.1) := by
  constructor
  · rintro ⟨a, s', e, q⟩
    unfold writeM at e
    cases h : s.cur o with
    | none => rw [h] at e; cases e
    | some ov =>
      rw [h] at e
      cases h2 : w ov vs with
      | none => simp [h2] at e
      | some nr =>
        have e2 : Res.ok (Opd.val nr.2) (s.wr o nr.1) = Res.ok a s' := by simpa [h2] using e
        cases e2
        exact ⟨ov, rfl, nr, h2, q⟩
  · rintro ⟨ov, h, nr, h2, q⟩
    exact ⟨_, _, by unfold writeM; rw [h]; simp [h2], q⟩
theorem ok_opW {T : String} {w : OV → List Val → Option (OV × Val)} : Ok (opW T w f fs) s Q ↔ Ok f s fun o s1 => ∃ x, s1.rd o = some x ∧ x.ty = T ∧ Ok fs s1 fun os s2 => ∃ vs, toVals os = some vs ∧ ∃ ov, s2.cur o = some ov ∧ ∃ nr, w ov vs = some nr ∧ Q (.val nr.2) (s2.wr o nr.1) := by
  unfold opW
  simp only [ok_bind, ok_tyM, ok_opt, ok_writeM]
theorem ok_opR {T : String} {w : Val → List Val → Option Val} : Ok (opR T w f fs) s Q ↔ Ok f s fun o s1 => ∃ x, s1.rd o = some x ∧ x.ty = T ∧ Ok fs s1 fun os s2 => ∃ x, s2.rd o = some x ∧ ∃ vs, s2.rds os = some vs ∧ ∃ z, w x vs = some z ∧ Q (.val z) s2 := by
  unfold opR
  simp only [ok_bind, ok_tyM, ok_rdM, ok_rdsM, ok_opt, ex_map]
/-! statements -/
variable {C : Ctl → Stt → Prop} {a b : SM}
def kthen (k : Ctl) (A : Prop) (B : Ctl → Prop) : Prop := match k with
  | .nx => A
  | k => B k
theorem kthen_nx {A : Prop} {B : Ctl → Prop} : kthen .nx A B = A := rfl
theorem kthen_brk {A : Prop} {B : Ctl → Prop} : kthen .brk A B = B .brk := rfl
theorem kthen_cont {A : Prop} {B : Ctl → Prop} : kthen .cont A B = B .cont := rfl
theorem kthen_ret {A : Prop} {B : Ctl → Prop} {o : Opd} : kthen (.ret o) A B = B (.ret o) := rfl
theorem kthen_rtn {A : Prop} {B : Ctl → Prop} {o : OV} : kthen (.rtn o) A B = B (.rtn o) := rfl
theorem ok_sSeq : Ok (sSeq a b) s C ↔ Ok a s fun k s1 => kthen k (Ok b s1 C) fun k => C k s1 := by
  unfold sSeq
  rw [ok_bind]
  constructor
  · refine fun h => h.mono fun k s1 q => ?_
    cases k with
    | nx => exact q
    | _ => obtain ⟨_, _, e, q⟩ := q; cases e; exact q
  · refine fun h => h.mono fun k s1 q => ?_
    cases k with
    | nx => exact q
    | _ => exact ⟨_, _, rfl, q⟩
theorem ok_sNil : Ok sNil s C ↔ C .nx s := ⟨fun ⟨_, _, e, q⟩ => by cases e; exact q, fun q => ⟨_, _, rfl, q⟩⟩
theorem ok_brk : Ok (fun s => .ok .brk s) s C ↔ C .brk s := ⟨fun ⟨_, _, e, q⟩ => by cases e; exact q, fun q => ⟨_, _, rfl, q⟩⟩
theorem ok_cont : Ok (fun s => .ok .cont s) s C ↔ C .cont s := ⟨fun ⟨_, _, e, q⟩ => by cases e; exact q, fun q => ⟨_, _, rfl, q⟩⟩
theorem ok_sExpr : Ok (sExpr f) s C ↔ Ok f s fun _ s1 => C .nx s1 := by
  unfold sExpr
  simp only [ok_bind, ok_pure]
theorem ok_sRet : Ok (sRet f) s C ↔ Ok f s fun o s1 => C (.ret o) s1 := by
  unfold sRet
  simp only [ok_bind, ok_pure]
theorem ok_sRtn {n : M OV} : Ok (sRtn n) s C ↔ Ok n s fun o s1 => C (.rtn o) s1 := by
  unfold sRtn
  simp only [ok_bind, ok_pure]
theorem ok_sIf {t : M Bool} : Ok (sIf t a b) s C ↔ Ok t s fun c s1 => if c = true then Ok a s1 C else Ok b s1 C := by
  unfold sIf
  simp only [ok_bind, ok_ite]
theorem ok_toValM {o : Opd} {Q : Val → Stt → Prop} : Ok (toValM o) s Q ↔ ∃ v, o = .val v ∧ Q v s := by
  unfold toValM
  rw [ok_opt]
  cases o with
  | val v => simp [Opd.toVal]
  | sl i => simp [Opd.toVal]
theorem ok_putV {v : Val} {Q : Unit → Stt → Prop} : Ok (putV i v) s Q ↔ Q () (s.setV i v) := ⟨fun ⟨_, _, e, q⟩ => by cases e; exact q, fun q => ⟨_, _, rfl, q⟩⟩
theorem ok_putO {v : OV} {Q : Unit → Stt → Prop} : Ok (putO i v) s Q ↔ Q () (s.setO i v) := ⟨fun ⟨_, _, e, q⟩ => by cases e; exact q, fun q => ⟨_, _, rfl, q⟩⟩
theorem ok_sSet : Ok (sSet i f) s C ↔ Ok f s fun o s1 => ∃ v, o = .val v ∧ C .nx (s1.setV i v) := by
  unfold sSet
  simp only [ok_bind, ok_toValM, ok_putV, ok_pure]
theorem ok_sOwn {n : M OV} : Ok (sOwn i n) s C ↔ Ok n s fun o s1 => C .nx (s1.setO i o) := by
  unfold sOwn
  simp only [ok_bind, ok_putO, ok_pure]
theorem ok_sAsg {h : Val → M Unit} : Ok (sAsg f h) s C ↔ Ok f s fun o s1 => ∃ v, o = .val v ∧ Ok (h v) s1 fun _ s2 => C .nx s2 := by
  unfold sAsg
  simp only [ok_bind, ok_toValM, ok_pure]
theorem ok_gTup {n : Nat} {h : List Val → M Unit} {xs : List Val} {Q : Unit → Stt → Prop} : Ok (gTup n h (.tup xs)) s Q ↔ xs.length = n ∧ Ok (h xs) s Q := by
  unfold Ok gTup
  by_cases e : xs.length = n
  · simp [e]
  · simp [e]
theorem ok_gCons {h : Val → M Unit} {h2 : List Val → M Unit} {x : Val} {xs : List Val} {Q : Unit → Stt → Prop} : Ok (gCons h h2 (x :: xs)) s Q ↔ Ok (h x) s fun _ s1 => Ok (h2 xs) s1 Q := by
  unfold gCons
  simp only [ok_bind]
theorem ok_gNil {Q : Unit → Stt → Prop} : Ok (gNil []) s Q ↔ Q () s := ⟨fun ⟨_, _, e, q⟩ => by cases e; exact q, fun q => ⟨_, _, rfl, q⟩⟩
theorem ok_gSub {w : OV → Val → Val → Option OV} {v : Val} {Q : Unit → Stt → Prop} : Ok (gSubM w f g v) s Q ↔ Ok f s fun o s1 => Ok g s1 fun i s2 => ∃ k, i = .val k ∧ ∃ ov, s2.cur o = some ov ∧ ∃ n, w ov k v = some n ∧ Q () (s2.wr o n) := by
  unfold gSubM
  simp only [ok_bind]
  constructor
  · refine fun h => h.mono fun o s1 q => q.mono fun i s2 q => ?_
    rw [ok_opt] at q
    obtain ⟨k, e, q⟩ := q
    have ei : i = .val k := by cases i with
      | val => cases e; rfl
      | sl => cases e
    refine ⟨k, ei, ?_⟩
    obtain ⟨_, s', e2, q⟩ := q
    cases h1 : s2.cur o with
    | none => simp [h1] at e2
    | some ov =>
      cases h2 : w ov k v with
      | none => simp [h1, h2] at e2
      | some n =>
        simp only [h1, h2] at e2
        cases e2
        exact ⟨ov, rfl, n, h2, q⟩
  · refine fun h => h.mono fun o s1 q => q.mono fun i s2 ⟨k, e, ov, h1, n, h2, q⟩ => ?_
    rw [ok_opt]
    subst e
    exact ⟨k, rfl, (), _, by simp only [h1, h2], q⟩
theorem ok_sPar {is : List Nat} : Ok (sPar is fs) s C ↔ Ok fs s fun os s1 => ∃ vs, toVals os = some vs ∧ vs.length = is.length ∧ Ok (putVs (is.zip vs)) s1 fun _ s2 => C .nx s2 := by
  unfold sPar
  simp only [ok_bind, ok_opt, ex_bind, ok_pure, ex_if]
theorem ok_putVs0 {Q : Unit → Stt → Prop} : Ok (putVs []) s Q ↔ Q () s := ok_pure
theorem ok_putVs1 {v : Val} {r : List (Nat × Val)} {Q : Unit → Stt → Prop} : Ok (putVs ((i, v) :: r)) s Q ↔ Ok (putVs r) (s.setV i v) Q := by
  rw [putVs]
  simp only [ok_bind, ok_putV]
theorem ok_iSeq {Q : List Val → Stt → Prop} : Ok (iSeq f) s Q ↔ Ok f s fun o s1 => ∃ v, o = .val v ∧ ∃ xs, seqOf v = some xs ∧ Q xs s1 := by
  unfold iSeq
  simp only [ok_bind, ok_opt, ex_bind]
  constructor
  · refine fun h => h.mono fun o s1 ⟨v, e, q⟩ => ⟨v, ?_, q⟩
    cases o with
    | val => cases e; rfl
    | sl => cases e
  · exact fun h => h.mono fun o s1 ⟨v, e, q⟩ => ⟨v, by subst e; rfl, q⟩
theorem ok_iRng {o : List Val → Option (List Val)} {Q : List Val → Stt → Prop} : Ok (iRng o fs) s Q ↔ Ok fs s fun os s1 => ∃ vs, toVals os = some vs ∧ ∃ xs, o vs = some xs ∧ Q xs s1 := by
  unfold iRng
  simp only [ok_bind, ok_opt, ex_bind]
/-- what a turn of a loop leads to -/
def turn (k : Ctl) (A : Prop) (B : Ctl → Prop) : Prop := match k with
  | .nx => A
  | .cont => A
  | .brk => B .nx
  | k => B k
theorem turn_nx {A : Prop} {B : Ctl → Prop} : turn .nx A B = A := rfl
theorem turn_brk {A : Prop} {B : Ctl → Prop} : turn .brk A B = B .nx := rfl
theorem turn_cont {A : Prop} {B : Ctl → Prop} : turn .cont A B = A := rfl
theorem turn_ret {A : Prop} {B : Ctl → Prop} {o : Opd} : turn (.ret o) A B = B (.ret o) := rfl
theorem turn_rtn {A : Prop} {B : Ctl → Prop} {o : OV} : turn (.rtn o) A B = B (.rtn o) := rfl
theorem ok_sFor {h : Val → M Unit} {fi : M (List Val)} : Ok (sFor h fi a) s C ↔ Ok fi s fun xs s1 => Ok (sLoop h a xs) s1 C := by
  unfold sFor
  simp only [ok_bind]
theorem ok_loop0 {h : Val → M Unit} : Ok (sLoop h a []) s C ↔ C .nx s := by
  rw [sLoop]
  exact ok_pure
theorem ok_loop1 {h : Val → M Unit} {x : Val} {xs : List Val} : Ok (sLoop h a (x :: xs)) s C ↔ Ok (h x) s fun _ s1 => Ok a s1 fun k s2 => turn k (Ok (sLoop h a xs) s2 C) fun k => C k s2 := by
  rw [sLoop]
  simp only [ok_bind]
  constructor
  · refine fun h => h.mono fun _ s1 q => q.mono fun k s2 q => ?_
    cases k with
    | nx => exact q
    | cont => exact q
    | brk => exact ok_pure.mp q
    | ret => exact ok_pure.mp q
    | rtn => exact ok_pure.mp q
  · refine fun h => h.mono fun _ s1 q => q.mono fun k s2 q => ?_
    cases k with
    | nx => exact q
    | cont => exact q
    | brk => exact ok_pure.mpr q
    | ret => exact ok_pure.mpr q
    | rtn => exact ok_pure.mpr q
/-- a loop, by an invariant over what is left -/
theorem ok_loop {h : Val → M Unit} (I : List Val → Stt → Prop) {xs : List Val} (h0 : I xs s)
    (hs : ∀ x r s, I (x :: r) s → Ok (h x) s fun _ s1 => Ok a s1 fun k s2 => turn k (I r s2) fun k => C k s2) (hd : ∀ s, I [] s → C .nx s) : Ok (sLoop h a xs) s C := by
  induction xs generalizing s with
  | nil => exact ok_loop0.mpr (hd s h0)
  | cons x xs ih =>
    rw [ok_loop1]
    refine (hs x xs s h0).mono fun _ s1 q => q.mono fun k s2 q => ?_
    cases k with
    | nx => exact ih q
    | cont => exact ih q
    | brk => exact q
    | ret => exact q
    | rtn => exact q
/-! functions -/
def fin (k : Ctl) (s : Stt) (Q : OV → List OV → Prop) : Prop := match k with
  | .nx => Q (.v .non) s.hp
  | .ret (.val v) => Q (.v v) s.hp
  | .ret (.sl i) => ∃ o, s.sl[i]? = some (some o) ∧ Q o s.hp
  | .rtn o => Q o s.hp
  | _ => False
theorem fin_nx {Q : OV → List OV → Prop} : fin .nx s Q = Q (.v .non) s.hp := rfl
theorem fin_val {Q : OV → List OV → Prop} {v : Val} : fin (.ret (.val v)) s Q = Q (.v v) s.hp := rfl
theorem fin_sl {Q : OV → List OV → Prop} : fin (.ret (.sl i)) s Q = ∃ o, s.sl[i]? = some (some o) ∧ Q o s.hp := rfl
theorem fin_rtn {Q : OV → List OV → Prop} {o : OV} : fin (.rtn o) s Q = Q o s.hp := rfl
theorem ok_runF {n : Nat} {args : List Val} {hp : List OV} {Q : OV → List OV → Prop} : FOk (runF n a args hp) Q ↔ Ok a ⟨startS n args, hp⟩ fun k s => fin k s Q := by
  unfold FOk Ok runF
  constructor
  · rintro ⟨o, hp', e, q⟩
    cases h : a ⟨startS n args, hp⟩ with
    | bad => rw [h] at e; cases e
    | exn => rw [h] at e; cases e
    | ok k s =>
      rw [h] at e
      refine ⟨k, s, rfl, ?_⟩
      cases k with
      | nx => cases e; exact q
      | brk => cases e
      | cont => cases e
      | rtn o => cases e; exact q
      | ret o =>
        cases o with
        | val v => cases e; exact q
        | sl i =>
          cases q1 : s.sl[i]? with
          | none => simp [finish, q1] at e
          | some o1 =>
            cases o1 with
            | none => simp [finish, q1] at e
            | some o1 =>
              simp [finish, q1] at e
              obtain ⟨e1, e2⟩ := e
              subst e1 e2
              exact ⟨_, q1, q⟩
  · rintro ⟨k, s, e, q⟩
    rw [e]
    cases k with
    | nx => exact ⟨_, _, rfl, q⟩
    | brk => exact q.elim
    | cont => exact q.elim
    | rtn o => exact ⟨_, _, rfl, q⟩
    | ret o =>
      cases o with
      | val v => exact ⟨_, _, rfl, q⟩
      | sl i =>
        obtain ⟨o, h, q⟩ := q
        exact ⟨o, s.hp, by simp [finish, h], q⟩
/-! small computations -/
theorem rd_non : s.rd (.val .non) = some .non := rfl
theorem rd_bl {x : Bool} : s.rd (.val (.bl x)) = some (.bl x) := rfl
theorem rd_int {x : Int} : s.rd (.val (.int x)) = some (.int x) := rfl
theorem rd_str {x : Str} : s.rd (.val (.str x)) = some (.str x) := rfl
theorem rd_tup {x : List Val} : s.rd (.val (.tup x)) = some (.tup x) := rfl
theorem rd_lst {x : List Val} : s.rd (.val (.lst x)) = some (.lst x) := rfl
theorem rd_dct {x : List (Val × Val)} : s.rd (.val (.dct x)) = some (.dct x) := rfl
theorem rd_scr {x : List Val} : s.rd (.val (.scr x)) = some (.scr x) := rfl
theorem rd_cls {x : String} : s.rd (.val (.cls x)) = some (.cls x) := rfl
theorem rd_ref : s.rd (.val (.ref i)) = (s.hp[i]?).bind OV.snap := by
  show (match s.hp[i]? with | some o => o.snap | none => none) = _
  cases s.hp[i]? <;> rfl
theorem rd_sl : s.rd (.sl i) = (s.sl[i]?).bind fun o => o.bind OV.snap := by
  show (match s.sl[i]? with | some (some o) => o.snap | _ => none) = _
  cases s.sl[i]? with
  | none => rfl
  | some o => cases o <;> rfl
theorem snap_v {x : Val} : OV.snap (.v x) = some x := rfl
theorem snap_l {x : List Val} : OV.snap (.lst x) = some (.lst x) := rfl
theorem snap_d {x : List (Val × Val)} : OV.snap (.dct x) = some (.dct x) := rfl
theorem rds_nil : s.rds [] = some [] := rfl
theorem ex_rds {o : Opd} {os : List Opd} {P : List Val → Prop} : (∃ x, s.rds (o :: os) = some x ∧ P x) ↔ ∃ v, s.rd o = some v ∧ ∃ vs, s.rds os = some vs ∧ P (v :: vs) := by
  constructor
  · rintro ⟨x, e, q⟩
    rw [Stt.rds] at e
    split at e
    · cases e; exact ⟨_, by assumption, _, by assumption, q⟩
    · cases e
  · rintro ⟨v, e1, vs, e2, q⟩
    exact ⟨_, by rw [Stt.rds, e1, e2], q⟩
theorem toVals_nil : toVals [] = some [] := rfl
theorem toVals_cons {v : Val} {os : List Opd} {P : List Val → Prop} : (∃ x, toVals (.val v :: os) = some x ∧ P x) ↔ ∃ vs, toVals os = some vs ∧ P (v :: vs) := by
  constructor
  · rintro ⟨x, e, q⟩
    rw [toVals] at e
    cases h : toVals os with
    | none => simp [h, Opd.toVal] at e
    | some vs =>
      simp [h, Opd.toVal] at e
      subst e
      exact ⟨vs, rfl, q⟩
  · rintro ⟨vs, e, q⟩
    exact ⟨_, by rw [toVals, e]; rfl, q⟩
theorem ex_argsOf {m : Nat} {os : List Opd} {P : List Val → Prop} : (∃ x, argsOf m [] os = some x ∧ P x) ↔ ∃ vs, toVals os = some vs ∧ vs.length = m ∧ P vs := by
  unfold argsOf
  simp only [ex_bind, ex_if, List.append_nil]
theorem cur_ref {j : Nat} : s.cur (.val (.ref j)) = s.hp[j]? := rfl
theorem cur_sl {j : Nat} : s.cur (.sl j) = (s.sl[j]?).bind id := by
  show (match s.sl[j]? with | some (some o) => some o | _ => none) = _
  cases s.sl[j]? with
  | none => rfl
  | some o => cases o <;> rfl
theorem wr_ref {n : OV} : s.wr (.val (.ref i)) n = ⟨s.sl, s.hp.set i n⟩ := rfl
theorem wr_sl {n : OV} : s.wr (.sl i) n = ⟨s.sl.set i (some n), s.hp⟩ := rfl
theorem setV_mk {sl : List (Option OV)} {hp : List OV} {v : Val} : Stt.setV ⟨sl, hp⟩ i v = ⟨sl.set i (some (.v v)), hp⟩ := rfl
theorem setO_mk {sl : List (Option OV)} {hp : List OV} {v : OV} : Stt.setO ⟨sl, hp⟩ i v = ⟨sl.set i (some v), hp⟩ := rfl
section
variable {a b : Int} {x y : Val}
theorem vAdd_ii : vAdd (.int a) (.int b) = some (.int (a + b)) := rfl
theorem vSub_ii : vSub (.int a) (.int b) = some (.int (a - b)) := rfl
theorem ex_mul {P : Val → Prop} : (∃ z, vMul (.int a) (.int b) = some z ∧ P z) ↔ ((-(2 ^ 64) < a ∧ a < 2 ^ 64) ∨ (-(2 ^ 64) < b ∧ b < 2 ^ 64)) ∧ P (.int (a * b)) := ex_if
theorem ex_div {P : Val → Prop} : (∃ z, vDiv (.int a) (.int b) = some z ∧ P z) ↔ (0 < b ∧ b < 1073741824) ∧ P (.int (a / b)) := ex_if
theorem ex_mod {P : Val → Prop} : (∃ z, vMod (.int a) (.int b) = some z ∧ P z) ↔ 0 < b ∧ P (.int (a % b)) := ex_if
theorem ex_pow {P : Val → Prop} : (∃ z, vPow (.int a) (.int b) = some z ∧ P z) ↔ (0 ≤ b ∧ b ≤ 1000000 ∧ a.natAbs < 2 ^ 64) ∧ P (.int (a ^ b.toNat)) := ex_if
theorem vNeg_i : vNeg (.int a) = some (.int (-a)) := rfl
theorem vLt_ii : vLt (.int a) (.int b) = some (.bl (decide (a < b))) := rfl
theorem vLe_ii : vLe (.int a) (.int b) = some (.bl (decide (a ≤ b))) := rfl
theorem vGt_ii : vGt (.int a) (.int b) = some (.bl (decide (b < a))) := rfl
theorem vGe_ii : vGe (.int a) (.int b) = some (.bl (decide (b ≤ a))) := rfl
theorem ex_eq {P : Val → Prop} : (∃ z, vEq x y = some z ∧ P z) ↔ (dep 20 x && dep 20 y) = true ∧ P (.bl (eqv x y)) := ex_if
theorem ex_ne {P : Val → Prop} : (∃ z, vNe x y = some z ∧ P z) ↔ (dep 20 x && dep 20 y) = true ∧ P (.bl (!eqv x y)) := ex_if
theorem vIx_l {xs : List Val} : vIx (.lst xs) (.int a) = atI xs a := rfl
theorem vIx_t {xs : List Val} : vIx (.tup xs) (.int a) = atI xs a := rfl
theorem vIx_c {xs : List Val} : vIx (.scr xs) (.int a) = atI xs a := rfl
theorem lAbs_i : lAbs [.int a] = some (.int (if a < 0 then -a else a)) := rfl
theorem lMin_i : lMin [.int a, .int b] = some (.int (if b < a then b else a)) := rfl
theorem lMax_i : lMax [.int a, .int b] = some (.int (if b > a then b else a)) := rfl
theorem lLen_l {xs : List Val} : lLen [.lst xs] = some (.int xs.length) := rfl
theorem lLen_t {xs : List Val} : lLen [.tup xs] = some (.int xs.length) := rfl
theorem lLen_c {xs : List Val} : lLen [.scr xs] = some (.int xs.length) := rfl
theorem lLen_s {x : Str} : lLen [.str x] = some (.int x.length) := rfl
theorem lTup_l {xs : List Val} : lTup [.lst xs] = some (.tup xs) := rfl
theorem lTup_t {xs : List Val} : lTup [.tup xs] = some (.tup xs) := rfl
theorem ex_append {xs : List Val} {P : OV × Val → Prop} : (∃ z, wAppend (.lst xs) [x] = some z ∧ P z) ↔ xs.length < lim ∧ P (.lst (xs ++ [x]), .non) := ex_if
theorem ex_setL {xs : List Val} {P : OV → Prop} : (∃ z, wSetL (.lst xs) (.int a) x = some z ∧ P z) ↔ ∃ j, ixN xs.length a = some j ∧ P (.lst (xs.set j x)) := ex_map
theorem seqOf_l {xs : List Val} : seqOf (.lst xs) = some xs := rfl
theorem seqOf_t {xs : List Val} : seqOf (.tup xs) = some xs := rfl
theorem seqOf_c {xs : List Val} : seqOf (.scr xs) = some xs := rfl
theorem ex_rng1 {P : List Val → Prop} : (∃ z, rng1 [.int a] = some z ∧ P z) ↔ (-big ≤ a ∧ a ≤ big) ∧ P (intsV 0 a.toNat) := ex_if
theorem ex_rng2 {P : List Val → Prop} : (∃ z, rng2 [.int a, .int b] = some z ∧ P z) ↔ (-big ≤ a ∧ a ≤ big ∧ -big ≤ b ∧ b ≤ big) ∧ P (intsV a (b - a).toNat) := ex_if
theorem frzO_v : frzO (.v x) = x := rfl
theorem frzO_l {xs : List Val} : frzO (.lst xs) = .lst xs := rfl
theorem frzO_d {xs : List (Val × Val)} : frzO (.dct xs) = .dct xs := rfl
theorem ty_l {xs : List Val} : (Val.lst xs).ty = "list" := rfl
theorem ty_d {xs : List (Val × Val)} : (Val.dct xs).ty = "dict" := rfl
theorem ty_s {x : Str} : (Val.str x).ty = "str" := rfl
theorem atI_nn {α : Type} {xs : List α} {j : Nat} {x : α} (h : xs[j]? = some x) : atI xs (j : Int) = some x := atI_nat h
end
end G

namespace G
open PySem PySem.Spec PyProof.Rows L2
/-! ### worlds in which a container of others is written -/
section
variable {g : Gx} {W W' : Wd} {H H' : Hp} {s : Stt} {σ : L2.St} {D : Addr}
/-- one more address of others -/
def Wd.add (W : Wd) (D : Addr) : Wd := { W with m0 := fun a => W.m0 a ∨ a = D }
/-- others' addresses as they were -/
def Wd.as (W W0 : Wd) : Wd := { W with m0 := W0.m0 }
theorem SR.less {m : Addr → Prop} (h : SR g W s σ H) (hm : ∀ a, m a → W.m0 a) : SR g { W with m0 := m } s σ H := by
  have hle : Wle W { W with m0 := m } := ⟨fun a z => by
    rcases z with z | z
    · exact .inl (hm a z)
    · exact .inr z, fun _ _ r h => ⟨r, h⟩⟩
  exact ⟨h.len, h.leno, h.lenc, fun i o q => by
    obtain ⟨c, fp, h1, h2, h3⟩ := h.slot i o q
    exact ⟨c, fp, h1, h2, h3.wle hle⟩, fun i o q => by
    obtain ⟨p, r, h2, h3⟩ := h.cell i o q
    exact ⟨p, r, h2, h3.wle hle⟩, h.djo, h.djc, h.djx, fun a z => ⟨(h.trk a z).1, fun q => (h.trk a z).2 (hm a q)⟩, fun a z => h.trk0 a (hm a z)⟩
/-- the world in which D is one's own, too -/
def Wd.ownD (W : Wd) (D : Addr) : Wd := ⟨fun a => W.m0 a ∧ a ≠ D, W.ce, [D] :: W.ow⟩
theorem ownD_forb {a : Addr} (hD : W.m0 D) : (W.ownD D).forb a ↔ W.forb a := by
  constructor
  · rintro (⟨z, _⟩ | z | ⟨l, h1, h2⟩)
    · exact .inl z
    · exact .inr (.inl z)
    · rcases List.mem_cons.mp h1 with e | h1
      · subst e
        have e : a = D := by simpa using h2
        subst e
        exact .inl hD
      · exact .inr (.inr ⟨l, h1, h2⟩)
  · rintro (z | z | ⟨l, h1, h2⟩)
    · by_cases e : a = D
      · exact .inr (.inr ⟨[D], by simp [Wd.ownD], by simp [e]⟩)
      · exact .inl ⟨z, e⟩
    · exact .inr (.inl z)
    · exact .inr (.inr ⟨l, by simp [Wd.ownD, h1], h2⟩)
theorem ownD_own : (W.ownD D).own D := .inr ⟨[D], by simp [Wd.ownD], by simp⟩
theorem wleD (hD : W.m0 D) : Wle W (W.ownD D) := ⟨fun a z => (ownD_forb hD).mp z, fun _ _ r h => ⟨r, h⟩⟩
theorem wleD' (hD : W.m0 D) : Wle (W.ownD D) W := ⟨fun a z => (ownD_forb hD).mpr z, fun _ _ r h => ⟨r, h⟩⟩
theorem VR.updD {u : HO} (hD : W.m0 D) {x : Val} {c : V} (h : VR g W H x c) : VR g W (upd H D u) x c := ((h.wle (wleD hD)).mono (.write ownD_own)).wle (wleD' hD)
theorem VRs.updD {u : HO} (hD : W.m0 D) {x : List Val} {c : List V} (h : VRs g W H x c) : VRs g W (upd H D u) x c := ((h.wle (wleD hD)).mono (.write ownD_own)).wle (wleD' hD)
theorem OR.updD {u : HO} (hD : W.m0 D) {o : OV} {c : V} {fp : List Addr} (h : OR g W H o c fp) (n : D ∉ fp) : OR g W (upd H D u) o c fp :=
  ((h.wle (wleD hD)).mono (Post.write ownD_own) fun p hp v hv => by
    rw [upd_ne (fun z => n (by rw [← z]; exact hp))]
    exact hv).wle (wleD' hD)
theorem SR.updD {u : HO} (hD : W.m0 D) (h : SR g W s σ H) : SR g W s σ (upd H D u) := by
  have tr : ∀ a, (∃ v, H a = some v) → ∃ v, upd H D u a = some v := fun a ⟨v, hv⟩ => by
    by_cases e : a = D
    · exact ⟨u, by rw [e]; exact upd_same⟩
    · exact ⟨v, by rw [upd_ne e]; exact hv⟩
  refine ⟨h.len, h.leno, h.lenc, fun i o q => ?_, fun i o q => ?_, h.djo, h.djc, h.djx, fun a z => ⟨tr a (h.trk a z).1, (h.trk a z).2⟩, fun a z => tr a (h.trk0 a z)⟩
  · obtain ⟨c, fp, h1, h2, h3⟩ := h.slot i o q
    exact ⟨c, fp, h1, h2, h3.updD hD fun z => (h.trk D (.inr ⟨fp, List.mem_of_getElem? h2, z⟩)).2 hD⟩
  · obtain ⟨p, r, h2, h3⟩ := h.cell i o q
    exact ⟨p, r, h2, h3.updD hD fun z => (h.trk D (.inl ⟨_, List.mem_of_getElem? h2, z⟩)).2 hD⟩
/-- what came new since is written -/
theorem Post.updD {u : HO} (p : Post W H W' H') (n : H D = none) : Post W H W' (upd H' D u) := ⟨p.m0, p.m1, fun a o h no => by
  rw [upd_ne (fun z => by rw [z, n] at h; cases h)]
  exact p.keep a o h no, p.sub, p.refs, fun a v h => by
  obtain ⟨v', h'⟩ := p.tr a v h
  exact ⟨v', by rw [upd_ne (fun z => by rw [z, n] at h; cases h)]; exact h'⟩⟩
theorem SR.addD {u : HO} (h : SR g W s σ H) (n : H D = none) : SR g (W.add D) s σ (upd H D u) := by
  have := h.plus (o := u) n
  have e : W.plus [D] = W.add D := by
    unfold Wd.plus Wd.add
    simp
  rw [e] at this
  exact this
theorem Post.addD {u : HO} (n : H D = none) : Post W H (W.add D) (upd H D u) := ⟨fun a h => .inl h, fun a h => by
  rcases h with h | h
  · exact .inl h
  · exact .inr (by rw [h]; exact n), fun a o h _ => same_upd n _ _ h, fun a h => .inl h, fun _ _ r h => ⟨r, h⟩, fun a v h => ⟨v, same_upd n _ _ h⟩⟩
/-- others' addresses as they were at the start -/
theorem Post.asW (p : Post W H W' H') : Post W H (W'.as W) H' := ⟨fun _ h => h, fun _ h => .inl h, p.keep, p.sub, p.refs, p.tr⟩
end

/-! ### the slots of a block -/
def Stt.wipe (s : Stt) : List Nat → Stt
  | [] => s
  | v :: vs => { s.wipe vs with sl := (s.wipe vs).sl.set v none }
theorem wipe_hp (s : Stt) : ∀ vs : List Nat, (s.wipe vs).hp = s.hp
  | [] => rfl
  | v :: vs => wipe_hp s vs
section
variable {g : Gx} {W W' : Wd} {H H' : Hp} {s s' : Stt} {σ σ' : L2.St}
theorem wipe_slot {i : Nat} {o : OV} : ∀ {vs : List Nat}, (s.wipe vs).sl[i]? = some (some o) → s.sl[i]? = some (some o) ∧ i ∉ vs
  | [], h => ⟨h, by simp⟩
  | v :: vs, h => by
    unfold Stt.wipe at h
    by_cases hi : v = i
    · subst hi
      by_cases hv : v < (s.wipe vs).sl.length
      · rw [List.getElem?_set_self hv] at h; cases h
      · rw [List.getElem?_eq_none (by simpa using hv)] at h; cases h
    · rw [List.getElem?_set_ne hi] at h
      obtain ⟨h1, h2⟩ := wipe_slot h
      exact ⟨h1, by simp only [List.mem_cons, not_or]; exact ⟨fun e => hi e.symm, h2⟩⟩
theorem wipe_len : ∀ {vs : List Nat}, (s.wipe vs).sl.length = s.sl.length
  | [] => rfl
  | v :: vs => by
    show ((s.wipe vs).sl.set v none).length = _
    rw [List.length_set]
    exact wipe_len (vs := vs)
theorem wipe_out {i : Nat} : ∀ {vs : List Nat}, i ∉ vs → (L2.wipe σ vs)[i]? = σ[i]?
  | [], _ => rfl
  | v :: vs, h => by
    rw [L2.wipe, List.getElem?_set_ne (fun e => h (by simp [e])), wipe_out (fun z => h (by simp [z]))]
theorem SR.wipe (h : SR g W s σ H) (vs : List Nat) : SR g W (s.wipe vs) (L2.wipe σ vs) H where
  len := by rw [wipe_len, L2.wipe_length]; exact h.len
  leno := by rw [wipe_len]; exact h.leno
  lenc := by rw [wipe_hp]; exact h.lenc
  slot := fun i o q => by
    obtain ⟨h1, h2⟩ := wipe_slot q
    obtain ⟨c, fp, h3, h4, h5⟩ := h.slot i o h1
    exact ⟨c, fp, by rw [wipe_out h2]; exact h3, h4, h5⟩
  cell := fun i o q => h.cell i o (by rw [wipe_hp] at q; exact q)
  djo := h.djo
  djc := h.djc
  djx := h.djx
  trk := h.trk
  trk0 := h.trk0
/-- back to the slots as they were ahead of a block: the block's own from s0, the others from s -/
def Stt.back (s0 s : Stt) (vs : List Nat) : Stt := ⟨(List.range s0.sl.length).map fun i => if i ∈ vs then (s0.sl[i]?).join else (s.sl[i]?).join, s.hp⟩
theorem back_get {s0 s : Stt} {vs : List Nat} {i : Nat} {o : OV} (h : (Stt.back s0 s vs).sl[i]? = some (some o)) : (i ∈ vs ∧ s0.sl[i]? = some (some o)) ∨ (i ∉ vs ∧ s.sl[i]? = some (some o)) := by
  unfold Stt.back at h
  simp only [List.getElem?_map] at h
  by_cases hi : i < s0.sl.length
  · rw [List.getElem?_range hi] at h
    by_cases hv : i ∈ vs
    · simp only [Option.map_some, hv, if_true, Option.some.injEq] at h
      refine .inl ⟨hv, ?_⟩
      cases q : s0.sl[i]? with
      | none => rw [q] at h; cases h
      | some z => rw [q] at h; exact congrArg some h
    · simp only [Option.map_some, hv, if_false, Option.some.injEq] at h
      refine .inr ⟨hv, ?_⟩
      cases q : s.sl[i]? with
      | none => rw [q] at h; cases h
      | some z => rw [q] at h; exact congrArg some h
  · rw [List.getElem?_eq_none (by simpa using hi)] at h
    cases h
/-- the block's own slots hold no container -/
def freeS (s : Stt) (vs : List Nat) : Bool := vs.all fun i => match s.sl[i]? with
  | some (some (.lst _)) => false
  | some (some (.dct _)) => false
  | _ => true
theorem freeS_v {vs : List Nat} (h : freeS s vs = true) {i : Nat} (hi : i ∈ vs) {o : OV} (e : s.sl[i]? = some (some o)) : ∃ v, o = .v v := by
  have := List.all_eq_true.mp h i hi
  rw [e] at this
  cases o with
  | v v => exact ⟨v, rfl⟩
  | lst => cases this
  | dct => cases this
/-- the slots' own addresses, those of the block gone -/
def Wd.offs (W : Wd) : List Nat → Wd
  | [] => W
  | v :: vs => (W.offs vs).setW v []
theorem offs_m0 : ∀ {vs : List Nat}, (W.offs vs).m0 = W.m0
  | [] => rfl
  | v :: vs => offs_m0 (vs := vs)
theorem offs_ce : ∀ {vs : List Nat}, (W.offs vs).ce = W.ce
  | [] => rfl
  | v :: vs => offs_ce (vs := vs)
theorem offs_len : ∀ {vs : List Nat}, (W.offs vs).ow.length = W.ow.length
  | [] => rfl
  | v :: vs => by
    show ((W.offs vs).ow.set v []).length = _
    rw [List.length_set]
    exact offs_len (vs := vs)
theorem offs_get {i : Nat} {l : List Addr} : ∀ {vs : List Nat}, (W.offs vs).ow[i]? = some l → l = [] ∨ W.ow[i]? = some l
  | [], h => .inr h
  | v :: vs, h => by
    have h : ((W.offs vs).ow.set v [])[i]? = some l := h
    rcases set_get h with ⟨_, e, _⟩ | ⟨_, h⟩
    · exact .inl e
    · exact offs_get h
theorem offs_in {i : Nat} : ∀ {vs : List Nat}, i ∈ vs → i < W.ow.length → (W.offs vs).ow[i]? = some []
  | v :: vs, h, hl => by
    show ((W.offs vs).ow.set v [])[i]? = some []
    by_cases e : v = i
    · subst e
      rw [List.getElem?_set_self (by rw [offs_len]; exact hl)]
    · rw [List.getElem?_set_ne e]
      rcases List.mem_cons.mp h with z | z
      · exact absurd z.symm e
      · exact offs_in z hl
theorem offs_out {i : Nat} : ∀ {vs : List Nat}, i ∉ vs → (W.offs vs).ow[i]? = W.ow[i]?
  | [], _ => rfl
  | v :: vs, h => by
    show ((W.offs vs).ow.set v [])[i]? = _
    rw [List.getElem?_set_ne (fun e => h (by simp [e])), offs_out (fun z => h (by simp [z]))]
theorem offs_own {vs : List Nat} {a : Addr} (h : (W.offs vs).own a) : W.own a := by
  rcases h with z | ⟨l, h1, h2⟩
  · rw [offs_ce] at z; exact .inl z
  · obtain ⟨i, hi⟩ := List.getElem?_of_mem h1
    rcases offs_get hi with e | e
    · subst e; cases h2
    · exact .inr ⟨l, List.mem_of_getElem? e, h2⟩
theorem wle_offs {vs : List Nat} : Wle W (W.offs vs) := ⟨fun a z => by
  rcases z with z | z
  · rw [offs_m0] at z; exact .inl z
  · exact .inr (offs_own z), fun _ _ r h => ⟨r, by rw [offs_ce]; exact h⟩⟩
theorem Post.offs {vs : List Nat} (p : Post W H W' H') : Post W H (W'.offs vs) H' := ⟨fun a h => by rw [offs_m0]; exact p.m0 a h, fun a h => p.m1 a (by rw [offs_m0] at h; exact h), p.keep, fun a h => p.sub a (offs_own h),
  fun i q r h => by rw [offs_ce]; exact p.refs i q r h, p.tr⟩
theorem SR.backB {vs : List Nat} {s0 : Stt} (h0 : SR g W s0 σ H) (hv : freeS s0 vs = true) (p : Post W H W' H') (h : SR g W' s σ' H') (hl : s.sl.length = s0.sl.length) (he : L2.wipe σ' vs = L2.wipe σ vs) : SR g (W'.offs vs) (Stt.back s0 s vs) σ H' where
  len := by simp [Stt.back, h0.len]
  leno := by rw [offs_len, h.leno]; simp [Stt.back, hl]
  lenc := by rw [offs_ce]; exact h.lenc
  slot := fun i o q => by
    rcases back_get q with ⟨hi, q⟩ | ⟨hi, q⟩
    · obtain ⟨v, rfl⟩ := freeS_v hv hi q
      obtain ⟨c, fp, h1, h2, h3⟩ := h0.slot i _ q
      cases h3 with
      | v h3 =>
        refine ⟨c, [], h1, offs_in hi ?_, .v ((h3.mono p).wle wle_offs)⟩
        rw [h.leno, hl]
        exact (List.getElem?_eq_some_iff.mp q).1
    · obtain ⟨c, fp, h1, h2, h3⟩ := h.slot i o q
      refine ⟨c, fp, ?_, by rw [offs_out hi]; exact h2, h3.wle wle_offs⟩
      rw [← wipe_out (σ := σ) hi, ← he, wipe_out hi]
      exact h1
  cell := fun i o q => by
    obtain ⟨p', r, h2, h3⟩ := h.cell i o q
    exact ⟨p', r, by rw [offs_ce]; exact h2, h3.wle wle_offs⟩
  djo := fun i j l m a h1 h2 h3 h4 => by
    rcases offs_get h1 with e | e1
    · subst e; cases h3
    · rcases offs_get h2 with e | e2
      · subst e; cases h4
      · exact h.djo i j l m a e1 e2 h3 h4
  djc := fun i j l m a h1 h2 => by
    rw [offs_ce] at h1 h2
    exact h.djc i j l m a h1 h2
  djx := fun l m a h1 h2 h3 h4 => by
    rw [offs_ce] at h1
    obtain ⟨i, hi⟩ := List.getElem?_of_mem h2
    rcases offs_get hi with e | e
    · subst e; cases h4
    · exact h.djx l m a h1 (List.mem_of_getElem? e) h3 h4
  trk := fun a z => by
    rw [offs_m0]
    exact h.trk a (offs_own z)
  trk0 := fun a z => by
    rw [offs_m0] at z
    exact h.trk0 a z
end

/-! ### targets of a block -/
def tGc (g : Gx) (vs : List Nat) (f : Val → M Unit) : TG := fun v σ H Q => ∃ W s x, SR g W s σ H ∧ VR g W H x v ∧ ∃ s', f x s = .ok () s' ∧ ∀ W' σ' H', Post W H W' H' → SR g W' s' σ' H' → L2.wipe σ' vs = L2.wipe σ vs → Q σ' H'
structure FGc (X : Cx) (vs : List Nat) (tg : Expr) (f : Val → M Unit) : Prop where
  pg : PG X tg (tGc (.of X) vs f)
def tGsc (g : Gx) (vs : List Nat) (f : List Val → M Unit) : TGs := fun cs σ H Q => ∃ W s xs, SR g W s σ H ∧ VRs g W H xs cs ∧ ∃ s', f xs s = .ok () s' ∧ ∀ W' σ' H', Post W H W' H' → SR g W' s' σ' H' → L2.wipe σ' vs = L2.wipe σ vs → Q σ' H'
structure FGsc (X : Cx) (vs : List Nat) (tg : List Expr) (f : List Val → M Unit) : Prop where
  pg : PGs X tg (tGsc (.of X) vs f)
theorem wipe_set {σ : L2.St} {i : Nat} {c : Option V} : ∀ {vs : List Nat}, i ∈ vs → L2.wipe (σ.set i c) vs = L2.wipe σ vs
  | v :: vs, h => by
    unfold L2.wipe
    by_cases e : v = i
    · subst e
      by_cases hv : v ∈ vs
      · rw [wipe_set hv]
      · have w : ∀ {us : List Nat}, v ∉ us → L2.wipe (σ.set v c) us = (L2.wipe σ us).set v c := fun {us} => by
          induction us with
          | nil => intro _; rfl
          | cons u us ih =>
            intro hu
            rw [L2.wipe, ih (fun z => hu (by simp [z])), L2.wipe, List.set_comm]
            exact fun e => hu (by simp [e])
        rw [w hv, List.set_set]
    · rcases List.mem_cons.mp h with z | z
      · exact absurd z.symm e
      · rw [wipe_set z]
section
variable {X : Cx} {pos : Pos} {vs : List Nat}
theorem fgc_name {i : Nat} {x : Str} (hc : Cok X) (hi : X.N[i]? = some x) (hx : Loc X.env.scope x) (hv : i ∈ vs) (hf : X.fn x = true ∨ X.env.scope.names.lookup x = some .local := by first | exact .inl rfl | exact .inr rfl | assumption) : FGc X vs (.Name x pos) (putV i) := by
  refine ⟨(pg_name hc.nd hi hx hf).imp fun v σ H Q ⟨W, s, x, hs, r, s', e1, K⟩ => ?_⟩
  cases e1
  exact K _ _ H (Post.setW (fun a h => by cases h) .refl) (hs.setV r) (wipe_set hv)
theorem fgsc_nil : FGsc X vs [] gNil := by
  refine ⟨pgs_nil.imp fun v σ H Q ⟨W, s, xs, hs, r, s', e1, K⟩ => ?_⟩
  cases r with
  | nil => cases e1; exact ⟨rfl, K W σ H .refl hs rfl⟩
  | cons => cases e1
theorem fgsc_cons {t : Expr} {ts : List Expr} {f : Val → M Unit} {g : List Val → M Unit} (h1 : FGc X vs t f) (h2 : FGsc X vs ts g)
    (hs : (assignEach (t :: ts) X.env).map (·.2) = assign t X.env :: (assignEach ts X.env).map (·.2) := by rfl) : FGsc X vs (t :: ts) (gCons f g) := by
  refine ⟨(pgs_cons h1.pg h2.pg hs).imp fun v σ H Q ⟨W, s, xs, hs, r, s', e1, K⟩ => ?_⟩
  cases r with
  | nil => cases e1
  | cons h t =>
    obtain ⟨_, s1, ea, e2⟩ := M.bind_ok e1
    exact ⟨_, _, rfl, W, s, _, hs, h, s1, ea, fun W1 σ1 H1 p1 hs1 w1 => ⟨W1, s1, _, hs1, t.mono p1, s', e2, fun W2 σ2 H2 p2 hs2 w2 => K W2 σ2 H2 (p1.trans p2) hs2 (w2.trans w1)⟩⟩
theorem fgc_tup {ts : List Expr} {k n : Nat} {f : List Val → M Unit} (hc : Cok X) (h : FGsc X vs ts f) (hn : (assignEach ts X.env).length = n := by rfl) (hst : (assignEach ts X.env).findIdx? (·.1) = none := by rfl) : FGc X vs (.Tuple ts k pos) (gTup n f) := by
  refine ⟨(pg_tup hc.calm h.pg hn hst).imp fun v σ H Q ⟨W, s, x, hs, r, s', e1, K⟩ => ?_⟩
  cases r with
  | @tup p cs xs fb rd t =>
    by_cases hl : xs.length = n
    · have e1 : f xs s = .ok () s' := by simpa [gTup, hl] using e1
      exact ⟨p, cs, rfl, .of rd, by rw [← t.length]; exact hl, W, s, xs, hs, t, s', e1, K⟩
    · simp [gTup, hl] at e1
  | _ => cases e1
end
/-! tests of a block -/
structure FTs (X : Cx) (ifs : List Expr) (f : M Bool) : Prop where
  pt : PTs X ifs (tT (.of X) f)
def tYesM : M Bool := fun s => .ok true s
theorem fts_nil {X : Cx} : FTs X [] tYesM := ⟨⟨fun pins s σ H Q I ⟨W, t, hs, b, s', e, k⟩ => by
  cases e
  exact pts_nil.run pins s σ H Q I (k W H .refl hs)⟩⟩
theorem fts_one {X : Cx} {c : Expr} {t : M Bool} (h : FT X c t) : FTs X [c] t := ⟨pts_one h.pt⟩
theorem Cok.blk {X : Cx} (hc : Cok X) {s : Shared} {H : Hp} {scope : Scope} {cenv : Env} {fp : List Addr} : Cok (X.blk s H scope cenv fp) := ⟨hc.calm, hc.un, hc.nd⟩

/-! ### [elt for target in iter if ..] -/
def wipeM (vs : List Nat) : M Unit := fun s => .ok () (s.wipe vs)
def lcLoop (vs : List Nat) (g : Val → M Unit) (c : M Bool) (f : EM) : List Val → M (List Val)
  | [] => fun s => .ok [] s
  | x :: xs => do
    wipeM vs
    g x
    let b ← c
    if b = true then do
      let o ← f
      let v ← toValM o
      let r ← lcLoop vs g c f xs
      pure (v :: r)
    else lcLoop vs g c f xs
/-- the block: its own slots wiped, and back -/
def inBlk {α : Type} (vs : List Nat) (m : M α) : M α := fun s => if freeS s vs = true then match m s with
    | .ok a s' => if s'.sl.length = s.sl.length then .ok a (Stt.back s s' vs) else .bad
    | _ => .bad
  else .bad
def nComp (vs : List Nat) (fi : M (List Val)) (g : Val → M Unit) (c : M Bool) (f : EM) : M OV := do
  let xs ← fi
  let r ← inBlk vs (lcLoop vs g c f xs)
  M.opt ((short r).map .lst)
theorem inBlk_ok {α : Type} {vs : List Nat} {m : M α} {s s' : Stt} {a : α} (h : inBlk vs m s = .ok a s') : freeS s vs = true ∧ ∃ s1, m s = .ok a s1 ∧ s1.sl.length = s.sl.length ∧ s' = Stt.back s s1 vs := by
  unfold inBlk at h
  by_cases hf : freeS s vs = true
  · rw [if_pos hf] at h
    refine ⟨hf, ?_⟩
    cases e : m s with
    | ok a1 s1 =>
      rw [e] at h
      by_cases hl : s1.sl.length = s.sl.length
      · simp only [hl, if_true] at h
        cases h
        exact ⟨s1, rfl, hl, rfl⟩
      · simp only [hl, if_false] at h
        cases h
    | exn => rw [e] at h; cases h
    | bad => rw [e] at h; cases h
  · rw [if_neg hf] at h
    cases h
theorem tN_comp {gx : Gx} {vs : List Nat} {fi : M (List Val)} {g : Val → M Unit} {c : M Bool} {f : EM} {σ : L2.St} {H : Hp} {Q : VK} (h : tN gx (nComp vs fi g c f) σ H Q) :
    tLc (tI gx fi) (tGc gx vs g) (tT gx c) (tE gx f) vs σ H Q := by
  obtain ⟨W, s, hs, o, s', e1, K⟩ := h
  obtain ⟨xs, s1, ex, e2⟩ := M.bind_ok e1
  obtain ⟨rr, s2, er, e3⟩ := M.bind_ok e2
  obtain ⟨q1, e4⟩ := opt_ok e3
  obtain ⟨r2, e5, q2⟩ := map_some e4
  obtain ⟨q3, hlen⟩ := short_ok e5
  subst q1 q2 q3
  obtain ⟨hfree, sf, el, hll, es⟩ := inBlk_ok er
  subst es
  refine ⟨W, s, hs, xs, s1, ex, fun W1 H1 J p1 hs1 jr => fun D hD => ?_⟩
  -- the invariant: what is made so far, what is to come
  refine ⟨fun i m H2 => m = xs.length - i ∧ i ≤ xs.length ∧ ∃ W2 s2 σ2 acc cs rest, Post W1 H1 W2 H2 ∧ W2.m0 D ∧ SR gx W2 s2 σ2 H2 ∧ L2.wipe σ2 vs = L2.wipe σ vs ∧ H2 D = some (.lst cs) ∧ VRs gx W2 H2 acc cs ∧ lcLoop vs g c f (xs.drop i) s2 = .ok rest sf ∧ acc ++ rest = r2,
    ⟨xs.length, rfl, Nat.zero_le _, W1.add D, s1, σ, [], [], r2, .addD hD, .inr rfl, hs1.addD hD, rfl, upd_same, .nil, el, rfl⟩, ?_⟩
  rintro i m H2 ⟨rfl, hi, W2, s2, σ2, acc, cs, rest, p2, mD, hs2, hw, hDr, ra, e, hacc⟩
  cases q : xs[i]? with
  | none =>
    have hl : xs.length ≤ i := List.getElem?_eq_none_iff.mp q
    rw [List.drop_eq_nil_of_le hl] at e
    cases e
    rw [List.append_nil] at hacc
    subst hacc
    refine .inl ⟨(jr W2 H2 _ σ2 p2 hs2 i).2 (Nat.le_antisymm hl hi), ?_⟩
    have hb := hs1.backB hfree p2 hs2 hll hw
    have hm : ∀ a, W1.m0 a → (W2.offs vs).m0 a := fun a z => by rw [offs_m0]; exact p2.m0 a z
    have hle : ∀ a, ((W2.offs vs).as W1).plus [D] |>.m0 a → (W2.offs vs).m0 a := fun a z => by
      rcases z with z | z
      · exact hm a z
      · have ea : a = D := by simpa using z
        rw [ea, offs_m0]
        exact mD
    have hw1 : Wle (W2.offs vs) (((W2.offs vs).as W1).plus [D]) := ⟨fun a z => by
      rcases z with z | z
      · exact .inl (hle a z)
      · exact .inr z, fun _ _ r h => ⟨r, h⟩⟩
    refine K ((W2.offs vs).as W1) H2 (.ref D) [D] (p1.trans p2.offs.asW) ⟨?_, ?_, fun a ha => ?_⟩
    · exact hb.less hle
    · exact .lst hDr ((ra.wle wle_offs).wle hw1)
    · have ea : a = D := by simpa using ha
      subst ea
      refine ⟨?_, p1.fresh hD⟩
      rintro (z | z)
      · obtain ⟨u, hu⟩ := hs1.trk0 a z
        rw [hD] at hu; cases hu
      · exact (hs2.trk a (offs_own z)).2 mD
  | some x =>
    obtain ⟨hlt, _⟩ := List.getElem?_eq_some_iff.mp q
    obtain ⟨go, yl⟩ := (jr W2 H2 _ σ2 p2 hs2 i).1 x q
    refine .inr ⟨go, fun H' => ∃ W3 s3 σ3 acc cs rest, Post W1 H1 W3 H' ∧ W3.m0 D ∧ SR gx W3 s3 σ3 H' ∧ L2.wipe σ3 vs = L2.wipe σ vs ∧ H' D = some (.lst cs) ∧ VRs gx W3 H' acc cs ∧ lcLoop vs g c f (xs.drop (i + 1)) s3 = .ok rest sf ∧ acc ++ rest = r2,
      fun H' hh => ⟨xs.length - (i + 1), by omega, rfl, hlt, hh⟩, fun cx H3 hy => ?_⟩
    obtain ⟨sm, vr⟩ := yl cx H3 hy
    rw [drop_cons q] at e
    obtain ⟨_, s3, ew, e3⟩ := M.bind_ok e
    cases ew
    obtain ⟨_, s4, eg, e4⟩ := M.bind_ok e3
    obtain ⟨b, s5, eb, e5⟩ := M.bind_ok e4
    have p3 : Post W1 H1 W2 H3 := p2.trans (.same sm)
    have hs3 : SR gx W2 (s2.wipe vs) (L2.wipe σ vs) H3 := by
      rw [← hw]
      exact (hs2.same sm).wipe vs
    refine ⟨W2, _, x, hs3, vr, s4, eg, fun W4 σ4 H4 p4 hs4 w4 => ⟨?_, W4, s4, hs4, b, s5, eb, fun W5 H5 p5 hs5 => ?_⟩⟩
    · have w0 : L2.wipe (L2.wipe σ vs) vs = L2.wipe σ vs := by
        have wz : ∀ us ws : List Nat, (∀ u ∈ us, u ∈ ws) → L2.wipe (L2.wipe σ us) ws = L2.wipe σ ws := fun us => by
          induction us with
          | nil => intro ws _; rfl
          | cons u us ih =>
            intro ws hu
            rw [L2.wipe, wipe_set (hu u (by simp))]
            exact ih ws fun z hz => hu z (by simp [hz])
        exact wz vs vs fun _ h => h
      exact w4.trans w0
    · have w0 : L2.wipe σ4 vs = L2.wipe σ vs := by
        refine w4.trans ?_
        have wz : ∀ us ws : List Nat, (∀ u ∈ us, u ∈ ws) → L2.wipe (L2.wipe σ us) ws = L2.wipe σ ws := fun us => by
          induction us with
          | nil => intro ws _; rfl
          | cons u us ih =>
            intro ws hu
            rw [L2.wipe, wipe_set (hu u (by simp))]
            exact ih ws fun z hz => hu z (by simp [hz])
        exact wz vs vs fun _ h => h
      have p45 : Post W2 H3 W5 H5 := p4.trans p5
      have p5' : Post W1 H1 W5 H5 := p3.trans p45
      have keepD : ∀ {W6 H6}, Post W2 H3 W6 H6 → W6.m0 D ∧ H6 D = some (.lst cs) := fun {W6 H6} p6 =>
        ⟨p6.m0 D mD, p6.keep D _ (sm _ _ hDr) fun z => (hs2.trk D z).2 mD⟩
      have mono6 : ∀ {W6 H6}, Post W2 H3 W6 H6 → VRs gx W6 H6 acc cs := fun {W6 H6} p6 => (ra.mono (.same sm)).mono p6
      cases b with
      | false =>
        rw [if_neg (by decide)] at e5
        obtain ⟨k1, k2⟩ := keepD p45
        exact iteF ⟨W5, s5, σ4, acc, cs, rest, p5', k1, hs5, w0, k2, mono6 p45, e5, hacc⟩
      | true =>
        rw [if_pos rfl] at e5
        obtain ⟨oo, s6, ef, e6⟩ := M.bind_ok e5
        obtain ⟨v, s7, ev, e7⟩ := M.bind_ok e6
        obtain ⟨q1, ev2⟩ := opt_ok ev
        subst q1
        obtain ⟨rest2, s8, el2, e8⟩ := M.bind_ok e7
        obtain ⟨q2, q3⟩ := pure_ok e8
        subst q2 q3
        refine iteT ⟨W5, s5, hs5, oo, _, ef, fun W6 H6 y p6 hs6 d6 => ?_⟩
        have p46 : Post W2 H3 W6 H6 := p45.trans p6
        obtain ⟨k1, k2⟩ := keepD p46
        have vy := d6.toVal ev2
        have hal : acc.length + 1 ≤ r2.length := by rw [← hacc]; simp
        refine ⟨cs, k2, ?_, W6, _, σ4, acc ++ [v], cs ++ [y], rest2, (p5'.trans p6).updD hD, k1, hs6.updD k1, w0, upd_same, ((mono6 p46).append (.cons vy .nil)).updD k1, el2, by rw [List.append_assoc]; exact hacc⟩
        rw [← ra.length]
        exact lim_lt (by omega)
section
variable {X : Cx} {elt tg iter : Expr} {ifs : List Expr} {scope : Scope} {own : List (Str × Nat)} {pos spos py : Pos} {fi : M (List Val)} {g : Val → M Unit} {c : M Bool} {f : EM}
theorem fn_comp (hc : Cok X) (hi : FI X tg iter fi) (ok : BlkOk X.N X.env.scope scope own)
    (hg : ∀ (s : Shared) (H : Hp) (C : Addr) (cl : List (Str × Addr)) (fp : List Addr), FGc (X.blk s H scope (compEnvC scope cl C X.env) fp) (own.map (·.2)) tg g)
    (ht : ∀ (s : Shared) (H : Hp) (C : Addr) (cl : List (Str × Addr)) (fp : List Addr), FTs (X.blk s H scope (compEnvC scope cl C X.env) fp) ifs c)
    (he : ∀ (s : Shared) (H : Hp) (C : Addr) (cl : List (Str × Addr)) (fp : List Addr), FE (X.blk s H scope (compEnvC scope cl C X.env) fp) elt f) (hs : ∀ x, foldedSetIterable iter X.env x = pure x := by intro _; rfl) :
    FN X (.ListComp elt [⟨tg, iter, ifs, 0⟩] scope pos) (nComp (own.map (·.2)) fi g c f) :=
  ⟨(pe_lc hc.calm hc.nd hi.pi ok (fun s H C cl fp => (hg s H C cl fp).pg) (fun s H C cl fp => (ht s H C cl fp).pt) (fun s H C cl fp => (he s H C cl fp).pe) hs).imp fun _ _ _ h => tN_comp h⟩
/-- y = [..], y's container its own -/
theorem fs_ownLc {i : Nat} {y : Str} (hc : Cok X) (hy : X.N[i]? = some y) (hyl : X.env.scope.names.lookup y = some .local)
    (hsw : swapsWith (.ListComp elt [⟨tg, iter, ifs, 0⟩] scope pos) (some (.Name y py)) spos.line X.env = pure true) (hi : FI X tg iter fi) (ok : BlkOk X.N X.env.scope scope own)
    (hg : ∀ (s : Shared) (H : Hp) (C : Addr) (cl : List (Str × Addr)) (fp : List Addr), FGc (X.blk s H scope (compEnvC scope cl C X.env) fp) (own.map (·.2)) tg g)
    (ht : ∀ (s : Shared) (H : Hp) (C : Addr) (cl : List (Str × Addr)) (fp : List Addr), FTs (X.blk s H scope (compEnvC scope cl C X.env) fp) ifs c)
    (he : ∀ (s : Shared) (H : Hp) (C : Addr) (cl : List (Str × Addr)) (fp : List Addr), FE (X.blk s H scope (compEnvC scope cl C X.env) fp) elt f) (hs : ∀ x, foldedSetIterable iter X.env x = pure x := by intro _; rfl) :
    FS X (.Assign [.Name y py] (.ListComp elt [⟨tg, iter, ifs, 0⟩] scope pos) spos) (sOwn i (nComp (own.map (·.2)) fi g c f)) := by
  refine ⟨(ps_setLc (wi := tI (.of X) fi) (g := tGc (.of X) (own.map (·.2)) g) (tt := tT (.of X) c) (te := tE (.of X) f) hc.calm hc.nd hy hyl hsw hi.pi ok (fun s H C cl fp => (hg s H C cl fp).pg) (fun s H C cl fp => (ht s H C cl fp).pt) (fun s H C cl fp => (he s H C cl fp).pe) hs).imp fun D σ H ⟨W, s, hs, k, s', e1, K⟩ => ?_⟩
  obtain ⟨o, s1, ea, e2⟩ := M.bind_ok e1
  cases e2
  refine tN_comp ⟨W, s, hs, o, _, ea, fun W1 H1 c fp p1 ⟨hs1, r, n⟩ => ?_⟩
  exact K _ _ H1 (Post.setW (fun a h => (n a h).2) p1) (hs1.setO r fun a h => (n a h).1)
/-- .. never changed from here on -/
theorem fs_setLc {i : Nat} {y : Str} (hc : Cok X) (hy : X.N[i]? = some y) (hyl : X.env.scope.names.lookup y = some .local)
    (hsw : swapsWith (.ListComp elt [⟨tg, iter, ifs, 0⟩] scope pos) (some (.Name y py)) spos.line X.env = pure true) (hi : FI X tg iter fi) (ok : BlkOk X.N X.env.scope scope own)
    (hg : ∀ (s : Shared) (H : Hp) (C : Addr) (cl : List (Str × Addr)) (fp : List Addr), FGc (X.blk s H scope (compEnvC scope cl C X.env) fp) (own.map (·.2)) tg g)
    (ht : ∀ (s : Shared) (H : Hp) (C : Addr) (cl : List (Str × Addr)) (fp : List Addr), FTs (X.blk s H scope (compEnvC scope cl C X.env) fp) ifs c)
    (he : ∀ (s : Shared) (H : Hp) (C : Addr) (cl : List (Str × Addr)) (fp : List Addr), FE (X.blk s H scope (compEnvC scope cl C X.env) fp) elt f) (hs : ∀ x, foldedSetIterable iter X.env x = pure x := by intro _; rfl) :
    FS X (.Assign [.Name y py] (.ListComp elt [⟨tg, iter, ifs, 0⟩] scope pos) spos) (sSet i (eFrz (nComp (own.map (·.2)) fi g c f))) := by
  refine ⟨(ps_setLc (wi := tI (.of X) fi) (g := tGc (.of X) (own.map (·.2)) g) (tt := tT (.of X) c) (te := tE (.of X) f) hc.calm hc.nd hy hyl hsw hi.pi ok (fun s H C cl fp => (hg s H C cl fp).pg) (fun s H C cl fp => (ht s H C cl fp).pt) (fun s H C cl fp => (he s H C cl fp).pe) hs).imp fun D σ H ⟨W, s, hs, k, s', e1, K⟩ => ?_⟩
  obtain ⟨oo, s1, eo, e2⟩ := M.bind_ok e1
  obtain ⟨v, s2, ev, e3⟩ := M.bind_ok e2
  obtain ⟨q1, ev2⟩ := opt_ok ev
  subst q1
  cases e3
  obtain ⟨o1, s3, ea, e4⟩ := M.bind_ok eo
  obtain ⟨q1, e5⟩ := opt_ok e4
  obtain ⟨v2, e6, q2⟩ := map_some e5
  subst q1 q2
  cases ev2
  refine tN_comp ⟨W, s, hs, o1, _, ea, fun W1 H1 c fp p1 ⟨hs1, r, n⟩ => ?_⟩
  exact K _ _ H1 (Post.setW (fun a h => by cases h) p1) (hs1.unplus.setV (r.frz (fun a ha => (n a ha).1) e6))
end
end G

namespace G
open PySem PySem.Spec PyProof.Rows L2
/-! ### sources of zip and enumerate -/
inductive Sk where
  | lst (a : Addr) | tup (a : Addr) | txt (z : Str) (t : Tok)
def signsV (z : Str) : List V := z.cps.toList.map fun c => V.str ⟨#[c]⟩
def Sk.at (K : PySem.W.Frag) (H : Hp) : Sk → List V → Prop
  | .lst a, xs => SqL K H a xs
  | .tup a, xs => SqT K H a xs
  | .txt z _, xs => xs = signsV z
inductive SkSt : Sk → Addr → Nat → Heap → Prop where
  | lst {a it : Addr} {i : Nat} {h : Heap} (q : h.IsListIter it a i) : SkSt (.lst a) it i h
  | tup {a it : Addr} {i : Nat} {h : Heap} (q : h.IsTupleIter it a i) : SkSt (.tup a) it i h
  | txt {z : Str} {t : Tok} {it : Addr} {i : Nat} {h : Heap} (q : h.IsStrIter it (strIterType z) z t i) : SkSt (.txt z t) it i h
def Sk.fp : Sk → List Addr
  | .lst a => [a]
  | .tup a => [a]
  | .txt _ _ => []
def Sk.val : Sk → Value
  | .lst a => .ref a
  | .tup a => .ref a
  | .txt z t => .str z t
def Sk.obj : Sk → Obj
  | .lst a => { cls := .type "list_iterator", data := .fields #[.ref a, .int 0 0] }
  | .tup a => { cls := .type "tuple_iterator", data := .fields #[.ref a, .int 0 0] }
  | .txt z t => { cls := .type (strIterType z), data := .fields #[.str z t, .int 0 0] }
theorem SkSt.keep {S : Sk} {it : Addr} {i : Nat} {h h' : Heap} (st : SkSt S it i h) (k : ∀ o, h.get? it = some o → h'.get? it = some o) : SkSt S it i h' := by
  cases st with
  | lst q => exact .lst (q.at k)
  | tup q => exact .tup (q.at k)
  | txt q => obtain ⟨o, h1, h2⟩ := q; exact .txt ⟨o, k o h1, h2⟩
theorem SkSt.obj {S : Sk} {it : Addr} {i : Nat} {h : Heap} (st : SkSt S it i h) : ∃ o, h.get? it = some o ∧ ∀ v, o.data ≠ .cell v := by
  cases st with
  | lst q => obtain ⟨o, h1, _, h2⟩ := q; exact ⟨o, h1, fun v q => by rw [h2] at q; cases q⟩
  | tup q => obtain ⟨o, h1, _, h2⟩ := q; exact ⟨o, h1, fun v q => by rw [h2] at q; cases q⟩
  | txt q => obtain ⟨o, h1, _, h2⟩ := q; exact ⟨o, h1, fun v q => by rw [h2] at q; cases q⟩
theorem SkSt.zero {S : Sk} {it : Addr} {h : Heap} (e : h.get? it = some S.obj) : SkSt S it 0 h := by
  cases S with
  | lst a => exact .lst ⟨_, e, rfl, rfl⟩
  | tup a => exact .tup ⟨_, e, rfl, rfl⟩
  | txt z t => exact .txt ⟨_, e, rfl, rfl⟩
theorem vals_back : ∀ {xs : List V} {us : List Value} {j : Nat} {u : Value}, Vals xs us → us[j]? = some u → ∃ c, xs[j]? = some c ∧ RelV c u
  | _, _, _, _, .nil, h => by simp at h
  | _, _, 0, _, .cons r _, h => by simp at h; subst h; exact ⟨_, rfl, r⟩
  | _, _, j + 1, u, .cons _ t, h => by
    obtain ⟨c, h1, h2⟩ := vals_back (j := j) t (by simpa using h)
    exact ⟨c, by simpa using h1, h2⟩
section
variable {X : Cx} {pins : List (Addr × Obj)} {σ : L2.St} {H : Hp} {s : Shared}
/-- what its iterator draws, from now on -/
theorem Sk.draws {S : Sk} {xs : List V} {A : Around} (hh : A.handled = none) (I : Inv X pins σ H s) (h : S.at X.K H xs) (it : Addr) (hne : it ∉ S.fp) {i : Nat} (st : SkSt S it i s.heap) :
    ∃ (P : Nat → Value → Prop) (St : Nat → Heap → Prop), Draws X.prog X.w A it (it :: S.fp) xs.length P St ∧ St i s.heap ∧ (∀ j v, P j v → ∃ c, xs[j]? = some c ∧ RelV c v) ∧ ∀ j h, St j h → SkSt S it j h := by
  cases S with
  | lst a =>
    obtain ⟨its, rv, p, _⟩ := I.list h
    have stl : s.heap.IsListIter it a i := by cases st; assumption
    have D := Draws.list (prog := X.prog) (w := X.w) hh it a (fun e => hne (by simp [Sk.fp, e])) its.toArray
    rw [show its.toArray.size = xs.length by rw [rv.length]; simp] at D
    refine ⟨_, _, D, ⟨stl, p.isList⟩, fun j v hv => ?_, fun j h q => .lst q.1⟩
    have hv : its.toArray[j]? = some v := hv
    have hv : its[j]? = some v := by simpa using hv
    exact vals_back rv hv
  | tup a =>
    obtain ⟨its, rv, p, _⟩ := I.tuple h
    have stl : s.heap.IsTupleIter it a i := by cases st; assumption
    have D := Draws.tuple (prog := X.prog) (w := X.w) hh it a (fun e => hne (by simp [Sk.fp, e])) its.toArray
    rw [show its.toArray.size = xs.length by rw [rv.length]; simp] at D
    refine ⟨_, _, D, ⟨stl, p⟩, fun j v hv => ?_, fun j h q => .tup q.1⟩
    have hv : its.toArray[j]? = some v := hv
    have hv : its[j]? = some v := by simpa using hv
    exact vals_back rv hv
  | txt z t =>
    have e : xs = signsV z := h
    subst e
    have stl : s.heap.IsStrIter it (strIterType z) z t i := by cases st; assumption
    have D := Draws.text (prog := X.prog) (w := X.w) hh it z t
    rw [show z.cps.size = (signsV z).length by simp [signsV]] at D
    refine ⟨_, _, D, stl, fun j v hv => ?_, fun j h q => .txt q⟩
    obtain ⟨c, u, h1, rfl⟩ := hv
    refine ⟨.str ⟨#[c]⟩, ?_, u, rfl⟩
    unfold signsV
    rw [List.getElem?_map, Array.getElem?_toList, h1]
    rfl
theorem Sk.begins {S : Sk} {xs : List V} (I : Inv X pins σ H s) (h : S.at X.K H xs) : ∃ Hh : Heap → Prop, Begins S.val S.obj Hh ∧ Hh s.heap ∧ ∀ b ∈ S.fp, b < s.heap.objs.size := by
  cases S with
  | lst a =>
    obtain ⟨its, rv, p, _⟩ := I.list h
    refine ⟨_, begins_list a its.toArray, p.isList, fun b hb => ?_⟩
    have e : b = a := by simpa [Sk.fp] using hb
    subst e
    obtain ⟨o, ho, _⟩ := p.isList
    exact Heap.lt_size ho
  | tup a =>
    obtain ⟨its, rv, p, _⟩ := I.tuple h
    refine ⟨_, begins_tuple a its.toArray, p, fun b hb => ?_⟩
    have e : b = a := by simpa [Sk.fp] using hb
    subst e
    obtain ⟨o, ho, _⟩ := id p
    exact Heap.lt_size ho
  | txt z t => exact ⟨_, begins_text z t, True.intro, fun b hb => by simp [Sk.fp] at hb⟩
theorem Sk.inj {S : Sk} {xs ys : List V} (I : Inv X pins σ H s) (h : S.at X.K H xs) (h2 : S.at X.K H ys) : xs = ys := by
  cases S with
  | lst a => exact I.list_inj h h2
  | tup a => exact I.tuple_inj h h2
  | txt z t => exact h.trans h2.symm
end
/-! zip of two -/
def ItZ (K : PySem.W.Frag) (S1 S2 : Sk) : It :=
  ⟨fun i H => ∃ (xs ys : List V) (x y : V), S1.at K H xs ∧ S2.at K H ys ∧ xs[i]? = some x ∧ ys[i]? = some y,
    fun i H v H' => ∃ T x y, v = .ref T ∧ H T = none ∧ H' = upd H T (.tup [x, y]) ∧ (∀ xs, S1.at K H xs → xs[i]? = some x) ∧ ∀ ys, S2.at K H ys → ys[i]? = some y,
    fun i H => ∃ xs ys : List V, S1.at K H xs ∧ S2.at K H ys ∧ (i = xs.length ∨ i = ys.length) ∧ i ≤ xs.length ∧ i ≤ ys.length⟩
theorem turn_Z {P : Program} {w : World} {K : PySem.W.Frag} {elts : List Expr} {kk : Nat} {tpos : Pos} {S1 S2 : Sk} {N : Nat} (h1 : ∀ b ∈ S1.fp, b < N) (h2 : ∀ b ∈ S2.fp, b < N) :
    Turn P w K (.Tuple elts kk tpos) (ItZ K S1 S2) [N + 4, N + 2, N + 3, N, N + 1] (N + 4) (fun i h => IsZip h (N + 4) (N + 2) (N + 3) .none ∧ IsTupOf2 h (N + 2) (.ref N) (.ref (N + 1)) ∧ (∃ x y, IsTupOf2 h (N + 3) x y) ∧ SkSt S1 N i h ∧ SkSt S2 (N + 1) i h) where
  mem := by simp
  obj := fun i h st c hc => by
    obtain ⟨hz, hTI, ⟨x, y, hTO⟩, s1, s2⟩ := st
    have e' : c = N + 4 ∨ c = N + 2 ∨ c = N + 3 ∨ c = N ∨ c = N + 1 := by simpa using hc
    rcases e' with q | q | q | q | q
    · rw [q]; exact ⟨_, hz, fun v q => nomatch q⟩
    · rw [q]; exact ⟨_, hTI, fun v q => nomatch q⟩
    · rw [q]; exact ⟨_, hTO, fun v q => nomatch q⟩
    · rw [q]; exact s1.obj
    · rw [q]; exact s2.obj
  keep := fun i h h' st k => by
    obtain ⟨hz, hTI, ⟨x, y, hTO⟩, s1, s2⟩ := st
    exact ⟨k _ (by simp) _ hz, k _ (by simp) _ hTI, ⟨x, y, k _ (by simp) _ hTO⟩, s1.keep fun o q => k _ (by simp) o q, s2.keep fun o q => k _ (by simp) o q⟩
  item := by
    intro X hP hw hK hc i pins s σ H E I hf st hg
    subst hP hw hK
    obtain ⟨hz, hTI, ⟨x0, y0, hTO⟩, s1, s2⟩ := st
    obtain ⟨xs, ys, x, y, hqx, hqy, hx, hy⟩ := hg
    have n1 : (N : Addr) ∉ S1.fp := fun z => Nat.lt_irrefl _ (h1 _ z)
    have n2 : (N + 1 : Addr) ∉ S2.fp := fun z => Nat.lt_irrefl N (Nat.lt_of_succ_lt (h2 _ z))
    obtain ⟨P1, St1, D1, t1, r1, k1⟩ := S1.draws (A := X.A.in1) (I.ok.hd hc) I hqx N n1 s1
    obtain ⟨P2, St2, D2, t2, r2, k2⟩ := S2.draws (A := X.A.in1) (I.ok.hd hc) I hqy (N + 1) n2 s2
    have hi1 : i < xs.length := (List.getElem?_eq_some_iff.mp hx).1
    have hi2 : i < ys.length := (List.getElem?_eq_some_iff.mp hy).1
    have SS := zip_sep2 h1 h2
    have hzl : N + 4 < s.heap.objs.size := Heap.lt_size hz
    refine wpAny_pyNext_zipD2_item SS D1 D2 hz hTI hTO t1 t2 hi1 hi2 fun u u2 h' tk p1 p2 z' TO' e1 e2 hT hsz hk => ?_
    obtain ⟨c1, q1, ru⟩ := r1 _ _ p1
    obtain ⟨c2, q2, ru2⟩ := r2 _ _ p2
    have ec1 : c1 = x := Option.some.inj (q1.symm.trans hx)
    have ec2 : c2 = y := Option.some.inj (q2.symm.trans hy)
    subst ec1 ec2
    refine ⟨_, rfl, wpAny_letOwnedTupleGo_zip (s := { s with heap := h', toks := tk }) z' fun h'' z'' sb => ?_⟩
    have hT2 : h''.get? s.heap.objs.size = some { cls := .type "tuple", data := .seq #[u, u2] } := (sb.2 _ (Nat.ne_of_gt hzl)).trans hT
    have new : ObjOk X.prog X.w (upd H s.heap.objs.size (.tup [c1, c2])) h'' s.heap.objs.size (.tup [c1, c2]) :=
      ⟨by show 2 ≤ sizeLine; decide, [u, u2], .cons ru (.cons ru2 .nil), ⟨_, hT2, rfl, _, rfl⟩⟩
    have I1 : Inv X pins σ (upd H s.heap.objs.size (.tup [c1, c2])) { s with heap := h'', toks := tk } :=
      I.turnedNew (ch := [N + 4, N + 2, N + 3, N, N + 1]) (fun c o hb q => (sb.2 c (fun q' => hb (by simp [q']))).trans (hk c o (fun q' => hb (by simp [q'])) (fun q' => hb (by simp [q'])) (fun q' => hb (by simp [q'])) (fun q' => hb (by simp [q'])) q)) hf (Nat.le_refl _) new
    have nn : ∀ {a b : Nat}, a ≠ b → (a : Addr) ≠ b := fun h => h
    refine ⟨.ref s.heap.objs.size, _, I1, rfl, ⟨_, c1, c2, rfl, I.hok.fresh (Nat.le_refl _), rfl, fun l hl => by rw [S1.inj I hl hqx]; exact hx, fun l hl => by rw [S2.inj I hl hqy]; exact hy⟩, ⟨z'', ?_, ⟨u, u2, ?_⟩, ?_, ?_⟩, fun c hcm => ?_⟩
    · exact (sb.2 _ SS.TIz).trans (hk _ _ SS.TIz SS.TITO SS.TIi1 SS.TIi2 hTI)
    · exact (sb.2 _ SS.TOz).trans TO'
    · exact (k1 _ _ e1).keep fun o q => (sb.2 _ (nn (by omega))).trans q
    · exact (k2 _ _ e2).keep fun o q => (sb.2 _ (nn (by omega))).trans q
    · have hlt : c < s.heap.objs.size := by
        have e' : c = N + 4 ∨ c = N + 2 ∨ c = N + 3 ∨ c = N ∨ c = N + 1 := by simpa using hcm
        rcases e' with q | q | q | q | q <;> (rw [q]; first | exact hzl | exact Heap.lt_size hTI | exact Heap.lt_size hTO | (obtain ⟨_, e, _⟩ := s1.obj; exact Heap.lt_size e) | (obtain ⟨_, e, _⟩ := s2.obj; exact Heap.lt_size e))
      rw [upd_ne (Nat.ne_of_lt hlt)]
      exact (hf c hcm).1
  done := by
    intro X hP hw hK hc i pins s σ H E I hf st hg
    subst hP hw hK
    obtain ⟨hz, hTI, ⟨x0, y0, hTO⟩, s1, s2⟩ := st
    obtain ⟨xs, ys, hqx, hqy, hend, l1, l2⟩ := hg
    have n1 : (N : Addr) ∉ S1.fp := fun z => Nat.lt_irrefl _ (h1 _ z)
    have n2 : (N + 1 : Addr) ∉ S2.fp := fun z => Nat.lt_irrefl N (Nat.lt_of_succ_lt (h2 _ z))
    obtain ⟨P1, St1, D1, t1, r1, k1⟩ := S1.draws (A := X.A.in1) (I.ok.hd hc) I hqx N n1 s1
    obtain ⟨P2, St2, D2, t2, r2, k2⟩ := S2.draws (A := X.A.in1) (I.ok.hd hc) I hqy (N + 1) n2 s2
    exact wpAny_pyNext_zipD2_end (zip_sep2 h1 h2) D1 D2 hz hTI hTO t1 t2 l1 l2 hend fun h' tk hk => ⟨rfl, I.turnedL (t' := tk) (ch := [N + 4, N + 2, N + 3, N, N + 1]) (fun c o hb q =>
      hk c o (fun q' => hb (by simp [q'])) (fun q' => hb (by simp [q'])) (fun q' => hb (by simp [q'])) (fun q' => hb (by simp [q'])) q) hf⟩
  self := fun A i s Q E st h => wpAny_pyIter_zip st.1 h
/-- the arguments' sources -/
def SkV (K : PySem.W.Frag) (H : Hp) (c : V) (S : Sk) : Prop := (∃ a, c = .ref a ∧ (S = .lst a ∨ S = .tup a)) ∨ ∃ z t, c = .str z ∧ S = .txt z t
def iZ (K : PySem.W.Frag) (ta : TA) : TI := fun σ H R => ta σ H fun vs H1 => ∃ c d, vs = [c, d] ∧ ∃ (k1 k2 : Tok → Sk) (xs ys : List V), (∀ t, (k1 t).at K H1 xs) ∧ (∀ t, (k2 t).at K H1 ys) ∧
  (∀ u, RelV c u → ∃ t, (k1 t).val = u) ∧ (∀ u, RelV d u → ∃ t, (k2 t).val = u) ∧ ∀ t t', R (ItZ K (k1 t) (k2 t')) H1
theorem pi_Z {X : Cx} {e e2 : Expr} {ta : TA} {p pos tpos : Pos} {elts : List Expr} {kk : Nat} (hg : Gl X "zip") (hm : X.mg "zip" = none) (ha : PA X [e, e2] ta)
    (hs : starEach [e, e2] X.env = (false, eval e X.env) :: starEach [e2] X.env := by rfl) (hpl : (backTo pos (starEach [e2] X.env)).any (·.1) = false := by rfl) :
    PI X (.Tuple elts kk tpos) (.Call (.Name "zip" p) [e, e2] [] pos) (iZ X.K ta) := by
  refine ⟨fun pins s σ H R I h => ?_⟩
  refine Call_ (ld_blt I hg hm PyProof.Rows.boot_zip (PyProof.Rows.callWith_type1 (thn (ha.run pos pins s σ H _ I h) fun us s1 ⟨vs, H1, I1, r1, q1⟩ => ?_) hs hpl))
  obtain ⟨c, d, ex, k1, k2, xs, ys, hx, hy, v1, v2, q⟩ := q1
  subst ex
  obtain ⟨u1, u2, rfl, ru1, ru2⟩ := vals2 r1
  obtain ⟨t, e1⟩ := v1 _ ru1
  obtain ⟨t', e2⟩ := v2 _ ru2
  subst e1 e2
  obtain ⟨Hh1, B1, b1, l1⟩ := (k1 t).begins I1 (hx t)
  obtain ⟨Hh2, B2, b2, l2⟩ := (k2 t').begins I1 (hy t')
  have fresh5 : ∀ c, c ∈ [s1.heap.objs.size + 4, s1.heap.objs.size + 2, s1.heap.objs.size + 3, s1.heap.objs.size, s1.heap.objs.size + 1] → FpOk X pins H1 c := fun c hcm => by
    have e' : c = s1.heap.objs.size + 4 ∨ c = s1.heap.objs.size + 2 ∨ c = s1.heap.objs.size + 3 ∨ c = s1.heap.objs.size ∨ c = s1.heap.objs.size + 1 := by simpa using hcm
    have hle : s1.heap.objs.size ≤ c := by
      rcases e' with z | z | z | z | z
      · rw [z]; exact Nat.le_add_right _ _
      · rw [z]; exact Nat.le_add_right _ _
      · rw [z]; exact Nat.le_add_right _ _
      · rw [z]; exact Nat.le_refl _
      · rw [z]; exact Nat.le_add_right _ _
    exact I1.fpOk hle (I1.hok.fresh hle)
  refine zip_begins2 B1 B2 b1 b2 fun h' hz hTI hTO g1 g2 hsz hk => wpAny_pyIter_zip hz ?_
  have I2 : Inv X pins σ H1 { s1 with heap := h' } := I1.kept (t' := s1.toks) hk
  exact ⟨s1.heap.objs.size + 4, [s1.heap.objs.size + 4, s1.heap.objs.size + 2, s1.heap.objs.size + 3, s1.heap.objs.size, s1.heap.objs.size + 1], _, _, H1, rfl, I2, turn_Z l1 l2, ⟨hz, hTI, ⟨_, _, hTO⟩, SkSt.zero g1, SkSt.zero g2⟩, fresh5, q t t'⟩
/-- values as sources -/
def zipV : List Val → List Val → List Val
  | x :: xs, y :: ys => .tup [x, y] :: zipV xs ys
  | _, _ => []
theorem zipV_get : ∀ {xs ys : List Val} {i : Nat} {z : Val}, (zipV xs ys)[i]? = some z → ∃ x y, xs[i]? = some x ∧ ys[i]? = some y ∧ z = .tup [x, y]
  | [], _, _, _, h => by simp [zipV] at h
  | _ :: _, [], _, _, h => by simp [zipV] at h
  | x :: xs, y :: ys, 0, z, h => by
    have h : some (Val.tup [x, y]) = some z := h
    cases h
    exact ⟨x, y, rfl, rfl, rfl⟩
  | x :: xs, y :: ys, i + 1, z, h => by
    have h : (zipV xs ys)[i]? = some z := h
    exact zipV_get (xs := xs) (ys := ys) (i := i) h
theorem zipV_len : ∀ {xs ys : List Val}, (zipV xs ys).length = min xs.length ys.length
  | [], _ => by simp [zipV]
  | _ :: _, [] => by simp [zipV]
  | x :: xs, y :: ys => by
    show (zipV xs ys).length + 1 = _
    rw [zipV_len, List.length_cons, List.length_cons]
    omega
/-- a source for a value: it stays as it is -/
theorem src_of {g : Gx} {W : Wd} {H : Hp} {x : Val} {c : V} {xs : List Val} (h : VR g W H x c) (e : seqOf x = some xs) :
    ∃ (k : Tok → Sk) (cs : List V), (∀ u, RelV c u → ∃ t, (k t).val = u) ∧ ∀ W1 H1, Post W H W1 H1 → VRs g W1 H1 xs cs ∧ ∀ t, (k t).at g.K H1 cs := by
  cases h with
  | tup n r t => cases e; exact ⟨fun _ => .tup _, _, fun u q => by cases q; exact ⟨0, rfl⟩, fun W1 H1 po => ⟨t.mono po, fun _ => .of (po.ex n r)⟩⟩
  | lst f r t => cases e; exact ⟨fun _ => .lst _, _, fun u q => by cases q; exact ⟨0, rfl⟩, fun W1 H1 po => ⟨t.mono po, fun _ => .of (po.ex f r)⟩⟩
  | scr r t => cases e; exact ⟨fun _ => .lst _, _, fun u q => by cases q; exact ⟨0, rfl⟩, fun W1 H1 po => ⟨t.mono po, fun _ => (r.mono po).sq⟩⟩
  | str z h =>
    cases e
    refine ⟨fun t => .txt z t, signsV z, fun u ⟨t, q⟩ => ⟨t, q.symm⟩, fun W1 H1 po => ⟨?_, fun _ => rfl⟩⟩
    unfold signs signsV
    have : ∀ l : List Nat, (∀ c ∈ l, SOk ⟨#[c]⟩) → VRs g W1 H1 (l.map fun c => Val.str ⟨#[c]⟩) (l.map fun c => V.str ⟨#[c]⟩) := fun l => by
      induction l with
      | nil => intro _; exact .nil
      | cons c l ih => intro hl; exact .cons (.str _ (hl c List.mem_cons_self)) (ih fun d hd => hl d (List.mem_cons_of_mem _ hd))
    refine this _ fun c hc => ?_
    obtain ⟨i, hi⟩ := List.getElem?_of_mem hc
    exact sok_one h hi
  | non => cases e
  | bl => cases e
  | int => cases e
  | dctK => cases e
  | dctN => cases e
  | ref => cases e
  | cls => cases e
def iZip2 (fs : M (List Opd)) : M (List Val) := do
  let os ← fs
  let vs ← M.opt (toVals os)
  match vs with
  | [x, y] => M.opt ((seqOf x).bind fun xs => (seqOf y).map fun ys => zipV xs ys)
  | _ => fun _ => .bad
theorem fi_zip {X : Cx} {e e2 : Expr} {fs : M (List Opd)} {p pos tpos : Pos} {elts : List Expr} {kk : Nat} (hg : Gl X "zip") (hm : X.mg "zip" = none) (ha : FA X [e, e2] fs)
    (hs : starEach [e, e2] X.env = (false, eval e X.env) :: starEach [e2] X.env := by rfl) (hpl : (backTo pos (starEach [e2] X.env)).any (·.1) = false := by rfl) :
    FI X (.Tuple elts kk tpos) (.Call (.Name "zip" p) [e, e2] [] pos) (iZip2 fs) := by
  refine ⟨(pi_Z hg hm ha.pa hs hpl).imp fun σ H R ⟨W, s, hs, zs, s', e1, K⟩ => ?_⟩
  obtain ⟨os, s1, ea, e2⟩ := M.bind_ok e1
  obtain ⟨vs, s2, ev, e3⟩ := M.bind_ok e2
  obtain ⟨q1, ev2⟩ := opt_ok ev
  subst q1
  match vs, e3, ev2 with
  | [x, y], e3, ev2 =>
    obtain ⟨q1, e4⟩ := opt_ok e3
    obtain ⟨xs, ex, e5⟩ := bind_some e4
    obtain ⟨ys, ey, q2⟩ := map_some e5
    subst q1 q2
    refine ⟨W, s, hs, os, _, ea, fun W1 H1 cs p1 hs1 d => ?_⟩
    have r := d.toVals ev2
    cases r with
    | cons r1 r =>
      cases r with
      | cons r2 r =>
        cases r
        obtain ⟨k1, c1, v1, f1⟩ := src_of r1 ex
        obtain ⟨k2, c2, v2, f2⟩ := src_of r2 ey
        refine ⟨_, _, rfl, k1, k2, c1, c2, (f1 _ _ .refl).2, (f2 _ _ .refl).2, v1, v2, fun t t' => ?_⟩
        refine K W1 H1 _ p1 hs1 fun W2 H2 s2 σ2 po hs2 i => ?_
        obtain ⟨t1, a1⟩ := f1 W2 H2 po
        obtain ⟨t2, a2⟩ := f2 W2 H2 po
        have l1 := t1.length
        have l2 := t2.length
        refine ⟨fun z hz => ?_, fun hl => ?_⟩
        · obtain ⟨x, y, hx, hy, rfl⟩ := zipV_get hz
          obtain ⟨cx, hcx, vx⟩ := t1.get hx
          obtain ⟨cy, hcy, vy⟩ := t2.get hy
          refine ⟨⟨c1, c2, cx, cy, a1 t, a2 t', hcx, hcy⟩, fun c H3 ⟨T, x', y', e, n, e', g1, g2⟩ => ?_⟩
          subst e e'
          have e1 : x' = cx := Option.some.inj ((g1 _ (a1 t)).symm.trans hcx)
          have e2 : y' = cy := Option.some.inj ((g2 _ (a2 t')).symm.trans hcy)
          subst e1 e2
          exact ⟨same_upd n, hs2.newTup n (.cons vx (.cons vy .nil))⟩
        · have hz := zipV_len (xs := xs) (ys := ys)
          exact ⟨c1, c2, a1 t, a2 t', by omega, by omega, by omega⟩
end G

namespace G
open PySem PySem.Spec PyProof.Rows L2
/-! ### rules whose reading is the function itself -/
def rLG (g : Gx) (o : List Val → Option Val) : List V → Hp → VK → Prop := fun cs H Q => ∃ W s σ xs z, SR g W s σ H ∧ BRs g W H xs cs ∧ o xs = some z ∧ ∀ H' c, Same H H' → VR g W H' z c → Q c H'
theorem imp_LG {g : Gx} {o : List Val → Option Val} : ImpL g o (rLG g o) := fun W s σ H xs z cs Q hs b e q => ⟨W, s, σ, xs, z, hs, b, e, q⟩
def r2G (g : Gx) (o : Val → Val → Option Val) : R2 := fun cx cy H Q => ∃ W s σ x y z, SR g W s σ H ∧ BR g W H x cx ∧ BR g W H y cy ∧ o x y = some z ∧ ∀ H' c, Same H H' → VR g W H' z c → Q c H'
theorem imp_2G {g : Gx} {o : Val → Val → Option Val} : Imp2 g o (r2G g o) := fun W s σ H x y z cx cy Q hs b1 b2 e q => ⟨W, s, σ, x, y, z, hs, b1, b2, e, q⟩
def rMG (g : Gx) (w : Val → List Val → Option Val) : V → List V → Hp → VK → Prop := fun c cs H Q => ∃ W s σ x vs z, SR g W s σ H ∧ BR g W H x c ∧ BRs g W H vs cs ∧ w x vs = some z ∧ ∀ H' d, Same H H' → VR g W H' z d → Q d H'
theorem imp_MG {g : Gx} {w : Val → List Val → Option Val} : ImpR g w (rMG g w) := fun W s σ H x vs z c cs Q hs b1 b2 e q => ⟨W, s, σ, x, vs, z, hs, b1, b2, e, q⟩
/-! all of a list of bools -/
def blsOf : List Val → Option (List Bool)
  | [] => some []
  | .bl b :: xs => (blsOf xs).map (b :: ·)
  | _ => none
theorem blsOf_eq : ∀ {xs : List Val} {bs : List Bool}, blsOf xs = some bs → xs = bs.map Val.bl
  | [], _, e => by cases e; rfl
  | .bl b :: xs, _, e => by
    obtain ⟨r, h, rfl⟩ := map_some (show (blsOf xs).map (b :: ·) = some _ from e)
    rw [blsOf_eq h]; rfl
  | .non :: _, _, e => by cases e
  | .int _ :: _, _, e => by cases e
  | .str _ :: _, _, e => by cases e
  | .tup _ :: _, _, e => by cases e
  | .lst _ :: _, _, e => by cases e
  | .dct _ :: _, _, e => by cases e
  | .ref _ :: _, _, e => by cases e
  | .scr _ :: _, _, e => by cases e
  | .cls _ :: _, _, e => by cases e
def lAll : List Val → Option Val
  | [.lst xs] => (blsOf xs).map fun bs => .bl (bs.all id)
  | _ => none
section
variable {X : Cx} {pins : List (Addr × Obj)} {σ : L2.St} {H : Hp} {s : Shared} {g : Gx} {W : Wd}
theorem VRs.readsAll {xs : List Val} {cs : List V} {us : List Value} {ds : List PyData} (I : Inv X pins σ H s) (t : VRs (.of X) W H xs cs) (r : Vals cs us) (e : toDs xs = some ds) : ∃ as, ReadsAll s.heap us ds as :=
  Dp.readsAll I ds cs us (VRs.dp xs cs ds t e).1 r
theorem BR.reads {x : Val} {c : V} {u : Value} {d : PyData} (I : Inv X pins σ H s) (t : BR (.of X) W H x c) (r : RelV c u) (e : toD x = some d) : ∃ as, Reads s.heap u d as :=
  Dp.reads I d c u (t.dp e).1 r
theorem toDs_bls : ∀ bs : List Bool, toDs (bs.map Val.bl) = some (bs.map PyData.bool)
  | [] => by rw [List.map_nil, toDs]; rfl
  | b :: bs => by rw [List.map_cons, toDs, toD, toDs_bls bs]; rfl
theorem plain_bls : ∀ bs : List Bool, PyData.plainAll (bs.map PyData.bool) = true
  | [] => rfl
  | b :: bs => by rw [List.map_cons, PyData.plainAll, plain_bls bs]; rfl
theorem call_all (hc : Cok X) : CallR X (.builtin "all") (rLG (.of X) lAll) := by
  intro pins s σ H cs us Q I r ⟨W, st, σ', xs, z, hs, b, e, q⟩
  unfold lAll at e
  split at e
  · rename_i ys
    obtain ⟨bs, e1, rfl⟩ := map_some e
    have ey := blsOf_eq e1
    subst ey
    obtain ⟨c, rfl, h⟩ := b.one
    obtain ⟨p, cs, rfl, hr, t⟩ := h.lstI
    obtain ⟨u, rfl, ru⟩ := vals1 r
    cases ru
    obtain ⟨its, rv, pl, _⟩ := I.list (.of hr)
    obtain ⟨as, ra⟩ := t.readsAll I rv (toDs_bls bs)
    refine PySem.W.all_list_data (vs := its.toArray) (I.ok.hd hc.calm) pl.isList ra (plain_bls bs) (fun x hx => ?_) fun h' tk k => ?_
    · obtain ⟨b, _, rfl⟩ := List.mem_map.mp hx
      exact True.intro
    · have e2 : (bs.map PyData.bool).all PyData.truthy = bs.all id := by
        rw [List.all_map]; rfl
      rw [e2]
      exact ⟨.bl _, H, I.kept k, rfl, q H _ (Same.refl _) (.bl _)⟩
  · cases e
/-! in, not in -/
def vIn0 : Val → Val → Option Bool
  | .str a, .str z => match a.cps.toList with
    | [c] => some (decide (c ∈ z.cps.toList))
    | _ => none
  | x, .lst ys => if dep 20 x && deps 20 ys then some (ys.any fun y => eqv y x) else none
  | x, .tup ys => if dep 20 x && deps 20 ys then some (ys.any fun y => eqv y x) else none
  | _, _ => none
def vIn (x y : Val) : Option Val := (vIn0 x y).map .bl
def vNotIn (x y : Val) : Option Val := (vIn0 x y).map fun b => .bl (!b)
theorem sign_of {a : Str} {c : Nat} (h : a.cps.toList = [c]) : a = ⟨#[c]⟩ := by
  cases a with
  | mk cps =>
    have : cps = #[c] := by
      apply Array.ext'
      simpa using h
    rw [this]
theorem any_eqv : ∀ {ys : List Val} {ds : List PyData} {x : Val} {d : PyData}, toDs ys = some ds → toD x = some d → (ds.any fun y => PyData.eqv y d) = ys.any fun y => eqv y x
  | [], ds, x, d, h, _ => by rw [toDs] at h; cases h; rfl
  | y :: ys, ds, x, d, h, hx => by
    obtain ⟨e, r, h1, h2, rfl⟩ := toDs_cons h
    rw [List.any_cons, List.any_cons, any_eqv h2 hx, eqv_toD y x e d h1 hx]
theorem in_core {x y : Val} {b : Bool} {cx cy : V} {u v : Value} {A : Around} (I : Inv X pins σ H s) (bx : BR (.of X) W H x cx) (byy : BR (.of X) W H y cy) (rx : RelV cx u) (ry : RelV cy v) (e : vIn0 x y = some b) (hu : A.units + 65 < cLine) :
    (∃ (c : Nat) (z : Str), cx = .str ⟨#[c]⟩ ∧ cy = .str z ∧ b = decide (c ∈ z.cps.toList)) ∨ (∃ (d : PyData) (ds : List PyData) (as bs : List Addr), Reads s.heap u d as ∧ (Reads s.heap v (.list ds) bs ∨ Reads s.heap v (.tuple ds) bs) ∧ PyData.canLayAll0 ds = true ∧ d.canLay0 = true ∧
      A.units + 1 + min (PyData.depthAll ds) d.depth < cLine ∧ b = ds.any fun y => PyData.eqv y d) := by
  unfold vIn0 at e
  split at e
  · split at e
    · rename_i a z _ c hc
      cases e
      obtain ⟨rfl, _⟩ := bx.strI
      obtain ⟨rfl, _⟩ := byy.strI
      exact .inl ⟨c, z, by rw [sign_of hc], rfl, rfl⟩
    · cases e
  · split at e
    · rename_i ys h
      cases e
      rw [Bool.and_eq_true] at h
      obtain ⟨d, h1, h2⟩ := dep_toD _ _ h.1
      obtain ⟨ds, h3, h4⟩ := deps_toDs _ _ h.2
      obtain ⟨as, r1⟩ := bx.reads I rx h1
      have h5 : toD (.lst ys) = some (.list ds) := by rw [toD, h3]; rfl
      obtain ⟨bs, r2⟩ := byy.reads I ry h5
      have q2 := (byy.dp h5).2
      exact .inr ⟨d, ds, as, bs, r1, .inl r2, by simpa [PyData.canLay0] using q2, (bx.dp h1).2, by omega, (any_eqv h3 h1).symm⟩
    · cases e
  · split at e
    · rename_i ys h
      cases e
      rw [Bool.and_eq_true] at h
      obtain ⟨d, h1, h2⟩ := dep_toD _ _ h.1
      obtain ⟨ds, h3, h4⟩ := deps_toDs _ _ h.2
      obtain ⟨as, r1⟩ := bx.reads I rx h1
      have h5 : toD (.tup ys) = some (.tuple ds) := by rw [toD, h3]; rfl
      obtain ⟨bs, r2⟩ := byy.reads I ry h5
      have q2 := (byy.dp h5).2
      exact .inr ⟨d, ds, as, bs, r1, .inr r2, by simpa [PyData.canLay0] using q2, (bx.dp h1).2, by omega, (any_eqv h3 h1).symm⟩
    · cases e
  · cases e
theorem op_inG (hc : Cok X) : OpR X (compareOp .In) (r2G (.of X) vIn) := by
  intro pins s σ H cx cy u v Q I rx ry ⟨W, st, σ', x, y, z, hs, bx, byy, e, q⟩
  obtain ⟨b, e1, rfl⟩ := map_some e
  rcases in_core (A := X.A) I bx byy rx ry e1 (by have := hc.un; omega) with ⟨c, z, rfl, rfl, rfl⟩ | ⟨d, ds, as, bs, r1, r2, l1, l2, hu, rfl⟩
  · exact op_in_sign pins s σ H _ _ u v Q I rx ry ⟨c, z, rfl, rfl, q H _ (Same.refl _) (.bl _)⟩
  · rcases r2 with r2 | r2
    · exact SeqAt.in_list_reads r2 r1 l1 l2 hu ⟨.bl _, H, I, rfl, q H _ (Same.refl _) (.bl _)⟩
    · exact SeqAt.in_tuple_reads r2 r1 l1 l2 hu ⟨.bl _, H, I, rfl, q H _ (Same.refl _) (.bl _)⟩
theorem op_notInG (hc : Cok X) : OpR X (compareOp .NotIn) (r2G (.of X) vNotIn) := by
  intro pins s σ H cx cy u v Q I rx ry ⟨W, st, σ', x, y, z, hs, bx, byy, e, q⟩
  obtain ⟨b, e1, rfl⟩ := map_some e
  rcases in_core (A := X.A) I bx byy rx ry e1 (by have := hc.un; omega) with ⟨c, z, rfl, rfl, rfl⟩ | ⟨d, ds, as, bs, r1, r2, l1, l2, hu, rfl⟩
  · exact op_notIn_sign pins s σ H _ _ u v Q I rx ry ⟨c, z, rfl, rfl, q H _ (Same.refl _) (.bl _)⟩
  · rcases r2 with r2 | r2
    · exact SeqAt.notIn_list_reads r2 r1 l1 l2 hu ⟨.bl _, H, I, rfl, q H _ (Same.refl _) (.bl _)⟩
    · exact SeqAt.notIn_tuple_reads r2 r1 l1 l2 hu ⟨.bl _, H, I, rfl, q H _ (Same.refl _) (.bl _)⟩
/-! l.count(x) -/
def mCount : Val → List Val → Option Val
  | .lst ys, [x] => if dep 20 x && deps 20 ys then some (.int ((ys.countP fun y => eqv y x : Nat) : Int)) else none
  | _, _ => none
theorem count_eqv : ∀ {ys : List Val} {ds : List PyData} {x : Val} {d : PyData}, toDs ys = some ds → toD x = some d → (ds.countP fun y => PyData.eqv y d) = ys.countP fun y => eqv y x
  | [], ds, x, d, h, _ => by rw [toDs] at h; cases h; rfl
  | y :: ys, ds, x, d, h, hx => by
    obtain ⟨e, r, h1, h2, rfl⟩ := toDs_cons h
    rw [List.countP_cons, List.countP_cons, count_eqv h2 hx, eqv_toD y x e d h1 hx]
theorem plainAll_of_canLay : ∀ ds : List PyData, PyData.canLayAll0 ds = true → PyData.plainAll ds = true
  | [], _ => rfl
  | d :: ds, h => by
    rw [PyData.canLayAll0, Bool.and_eq_true] at h
    rw [PyData.plainAll, PyData.plain_of_canLay0 d h.1, plainAll_of_canLay ds h.2]
    rfl
theorem mt_count (hc : Cok X) : MtR X "list.count" (rMG (.of X) mCount) := by
  intro pins s σ H c cs u us Q I rx rs ⟨W, st, σ', x, vs, z, hs, b1, b2, e, q⟩
  unfold mCount at e
  split at e
  · split at e
    · rename_i ys x h
      cases e
      rw [Bool.and_eq_true] at h
      obtain ⟨d, h1, h2⟩ := dep_toD _ _ h.1
      obtain ⟨ds, h3, h4⟩ := deps_toDs _ _ h.2
      obtain ⟨cy, rfl, hy⟩ := b2.one
      obtain ⟨uy, rfl, ry⟩ := vals1 rs
      obtain ⟨p, cs, rfl, hr, t⟩ := b1.lstI
      cases rx
      obtain ⟨its, rv, pl, _⟩ := I.list (.of hr)
      obtain ⟨as, ra⟩ := t.readsAll I rv h3
      obtain ⟨bs, rb⟩ := hy.reads I ry h1
      have l1 := plainAll_of_canLay ds (VRs.dp _ _ _ t h3).2
      refine SeqAt.count_list_data (vs := its.toArray) pl.isList ra rb l1 (PyData.plain_of_canLay0 d (hy.dp h1).2) (by have := hc.un; omega) ?_
      rw [count_eqv h3 h1]
      exact ⟨.int _, H, I.tok _, ⟨_, rfl⟩, q H _ (Same.refl _) (.int _)⟩
    · cases e
  · cases e
/-! text.join, text.split -/
def strsOf : List Val → Option (List Str)
  | [] => some []
  | .str b :: xs => (strsOf xs).map (b :: ·)
  | _ => none
theorem strsOf_eq : ∀ {xs : List Val} {bs : List Str}, strsOf xs = some bs → xs = bs.map Val.str
  | [], _, e => by cases e; rfl
  | .str b :: xs, _, e => by
    obtain ⟨r, h, rfl⟩ := map_some (show (strsOf xs).map (b :: ·) = some _ from e)
    rw [strsOf_eq h]; rfl
  | .non :: _, _, e => by cases e
  | .int _ :: _, _, e => by cases e
  | .bl _ :: _, _, e => by cases e
  | .tup _ :: _, _, e => by cases e
  | .lst _ :: _, _, e => by cases e
  | .dct _ :: _, _, e => by cases e
  | .ref _ :: _, _, e => by cases e
  | .scr _ :: _, _, e => by cases e
  | .cls _ :: _, _, e => by cases e
theorem VRs.strs : ∀ {bs : List Str} {cs : List V}, VRs g W H (bs.map Val.str) cs → cs = bs.map V.str
  | [], _, h => by cases h; rfl
  | b :: bs, _, h => by
    cases h with
    | cons h t => cases h; rw [VRs.strs t]; rfl
def mJoin : Val → List Val → Option Val
  | .str a, [.lst ys] => (strsOf ys).bind fun zs => if (zs.map (·.length)).sum + zs.length * a.length ≤ lim ∧ sokB (Txt.join a zs) = true then some (.str (Txt.join a zs)) else none
  | _, _ => none
theorem mt_joinG : MtR X "str.join" (rMG (.of X) mJoin) := by
  intro pins s σ H c cs u us Q I rx rs ⟨W, st, σ', x, vs, z, hs, b1, b2, e, q⟩
  unfold mJoin at e
  split at e
  · obtain ⟨zs, e1, e2⟩ := bind_some e
    split at e2
    · rename_i hz
      cases e2
      have ey := strsOf_eq e1
      subst ey
      obtain ⟨rfl, _⟩ := b1.strI
      obtain ⟨cy, rfl, hy⟩ := b2.one
      obtain ⟨p, cs, rfl, hr, t⟩ := hy.lstI
      have et := t.strs
      subst et
      exact mt_join pins s σ H _ _ u us Q I rx rs ⟨_, p, zs, rfl, rfl, .inl (.of hr), Nat.le_trans hz.1 (by decide), q H _ (Same.refl _) (.str _ hz.2)⟩
    · cases e2
  · cases e
def mSplit : Val → List Val → Option Val
  | .str a, [.str b] => if (b.length == 0) = false ∧ (Txt.split a b).all sokB = true then some (.lst ((Txt.split a b).map Val.str)) else none
  | _, _ => none
theorem VRs.ofStrs : ∀ {bs : List Str}, bs.all sokB = true → VRs g W H (bs.map Val.str) (bs.map V.str)
  | [], _ => .nil
  | b :: bs, h => by
    rw [List.all_cons, Bool.and_eq_true] at h
    exact .cons (.str b h.1) (VRs.ofStrs h.2)
theorem mt_splitG : MtR X "str.split" (rMG (.of X) mSplit) := by
  intro pins s σ H c cs u us Q I rx rs ⟨W, st, σ', x, vs, z, hs, b1, b2, e, q⟩
  unfold mSplit at e
  split at e
  · split at e
    · rename_i hz
      cases e
      obtain ⟨rfl, ha⟩ := b1.strI
      obtain ⟨cy, rfl, hy⟩ := b2.one
      obtain ⟨rfl, _⟩ := hy.strI
      refine mt_split pins s σ H _ _ u us Q I rx rs ⟨_, _, rfl, rfl, hz.1, ?_, fun p n => q _ _ (same_upd n) (hs.newLst n (VRs.ofStrs hz.2))⟩
      have := ha.len
      exact Nat.le_trans (show _ ≤ lim + 2 by omega) (by rw [sizeLine_eq]; decide)
    · cases e
  · cases e
/-! text * int, list * int -/
def vMulA (x y : Val) : Option Val := match x, y with
  | .str a, .int n => if 1 ≤ n ∧ n ≤ 1000 ∧ a.length * n.toNat ≤ lim ∧ sokB (Txt.mul a n) = true then some (.str (Txt.mul a n)) else none
  | .lst xs, .int n => if -1000 ≤ n ∧ n ≤ 1000 ∧ xs.length * n.toNat ≤ lim then some (.lst (List.replicate n.toNat xs).flatten) else none
  | x, y => vMul x y
theorem VRs.flatten {xs : List Val} {cs : List V} (t : VRs g W H xs cs) : ∀ n, VRs g W H (List.replicate n xs).flatten (List.replicate n cs).flatten
  | 0 => .nil
  | n + 1 => by
    rw [List.replicate_succ, List.replicate_succ, List.flatten_cons, List.flatten_cons]
    exact t.append (VRs.flatten t n)
theorem op_mulG : OpR X (binaryOp .Mult) (r2G (.of X) vMulA) := by
  intro pins s σ H cx cy u v Q I rx ry ⟨W, st, σ', x, y, z, hs, bx, byy, e, q⟩
  unfold vMulA at e
  split at e
  · split at e
    · rename_i a n h
      cases e
      obtain ⟨rfl, ha⟩ := bx.strI
      rw [byy.intI] at ry
      obtain ⟨t, rfl⟩ := rx
      obtain ⟨t', rfl⟩ := ry
      obtain ⟨h1, h4, h2, h3⟩ := h
      have hN : ((n.toNat : Nat) : Int) = n := by omega
      have hal := ha.len
      have hok : MulOk a n := by
        refine ⟨?_, fun _ _ => ?_, fun _ _ => ?_⟩
        · rw [Bool.or_eq_false_iff]
          exact ⟨decide_eq_false (by omega), decide_eq_false (by omega)⟩
        · have : (a.length : Int) ≤ 1000000 := by
            have : lim = 1000000 := rfl
            omega
          have h5 : (9223372036854775 : Int) ≤ (2 ^ 63 - 1) / n := by
            refine Int.le_ediv_of_mul_le (by omega) ?_
            have : (9223372036854775 : Int) * n ≤ 9223372036854775 * 1000 := Int.mul_le_mul_of_nonneg_left h4 (by decide)
            omega
          omega
        · show Builtin.Str.tooLong (a.length * n.toNat) = false
          unfold Builtin.Str.tooLong
          exact decide_eq_false (Nat.not_lt.mpr (lim_line h2))
      exact PySem.SB.mul hok fun t2 k => ⟨.str _, H, I.tok _, ⟨_, rfl⟩, q H _ (Same.refl _) (.str _ h3)⟩
    · cases e
  · split at e
    · rename_i xs n h
      cases e
      obtain ⟨p, cs, rfl, hr, t⟩ := bx.lstI
      have ey := byy.intI
      subst ey
      refine op_rep pins s σ H _ _ u v Q I rx ry ⟨p, n, cs, rfl, rfl, hr, by omega, by omega, by rw [← t.length]; exact lim_line h.2.2, fun p2 n2 => q _ _ (same_upd n2) (hs.newLst n2 (t.flatten _))⟩
    · cases e
  · exact op_mul pins s σ H cx cy u v Q I rx ry (imp_mul W st σ' H x y z cx cy Q hs bx byy e q)
end
end G

namespace G
open PySem PySem.Spec PyProof.Rows L2
open PySem.W (dataLt alike alikeAll minD AlikeAll alike_unique)
/-! ### data and values, one to one -/
mutual
theorem toD_inj : ∀ (x y : Val) (d : PyData), toD x = some d → toD y = some d → x = y
  | x, y, d, hx, hy => by
    cases x with
    | tup xs =>
      obtain ⟨ds, h1, rfl⟩ := toD_tup hx
      cases y with
      | tup ys =>
        obtain ⟨es, h2, e⟩ := toD_tup hy
        cases e
        rw [toDs_inj xs ys ds h1 h2]
      | lst ys => obtain ⟨es, h2, e⟩ := toD_lst hy; cases e
      | non => rw [toD] at hy; cases hy
      | bl => rw [toD] at hy; cases hy
      | int => rw [toD] at hy; cases hy
      | str => rw [toD] at hy; cases hy
      | dct => simp [toD] at hy
      | ref => simp [toD] at hy
      | scr => simp [toD] at hy
      | cls => simp [toD] at hy
    | lst xs =>
      obtain ⟨ds, h1, rfl⟩ := toD_lst hx
      cases y with
      | lst ys =>
        obtain ⟨es, h2, e⟩ := toD_lst hy
        cases e
        rw [toDs_inj xs ys ds h1 h2]
      | tup ys => obtain ⟨es, h2, e⟩ := toD_tup hy; cases e
      | non => rw [toD] at hy; cases hy
      | bl => rw [toD] at hy; cases hy
      | int => rw [toD] at hy; cases hy
      | str => rw [toD] at hy; cases hy
      | dct => simp [toD] at hy
      | ref => simp [toD] at hy
      | scr => simp [toD] at hy
      | cls => simp [toD] at hy
    | dct => simp [toD] at hx
    | ref => simp [toD] at hx
    | scr => simp [toD] at hx
    | cls => simp [toD] at hx
    | non =>
      rw [toD] at hx; cases hx
      cases y with
      | non => rfl
      | tup ys => obtain ⟨es, h2, e⟩ := toD_tup hy; cases e
      | lst ys => obtain ⟨es, h2, e⟩ := toD_lst hy; cases e
      | bl => rw [toD] at hy; cases hy
      | int => rw [toD] at hy; cases hy
      | str => rw [toD] at hy; cases hy
      | dct => simp [toD] at hy
      | ref => simp [toD] at hy
      | scr => simp [toD] at hy
      | cls => simp [toD] at hy
    | bl =>
      rw [toD] at hx; cases hx
      cases y with
      | bl => rw [toD] at hy; cases hy; rfl
      | tup ys => obtain ⟨es, h2, e⟩ := toD_tup hy; cases e
      | lst ys => obtain ⟨es, h2, e⟩ := toD_lst hy; cases e
      | non => rw [toD] at hy; cases hy
      | int => rw [toD] at hy; cases hy
      | str => rw [toD] at hy; cases hy
      | dct => simp [toD] at hy
      | ref => simp [toD] at hy
      | scr => simp [toD] at hy
      | cls => simp [toD] at hy
    | int =>
      rw [toD] at hx; cases hx
      cases y with
      | int => rw [toD] at hy; cases hy; rfl
      | tup ys => obtain ⟨es, h2, e⟩ := toD_tup hy; cases e
      | lst ys => obtain ⟨es, h2, e⟩ := toD_lst hy; cases e
      | non => rw [toD] at hy; cases hy
      | bl => rw [toD] at hy; cases hy
      | str => rw [toD] at hy; cases hy
      | dct => simp [toD] at hy
      | ref => simp [toD] at hy
      | scr => simp [toD] at hy
      | cls => simp [toD] at hy
    | str =>
      rw [toD] at hx; cases hx
      cases y with
      | str => rw [toD] at hy; cases hy; rfl
      | tup ys => obtain ⟨es, h2, e⟩ := toD_tup hy; cases e
      | lst ys => obtain ⟨es, h2, e⟩ := toD_lst hy; cases e
      | non => rw [toD] at hy; cases hy
      | bl => rw [toD] at hy; cases hy
      | int => rw [toD] at hy; cases hy
      | dct => simp [toD] at hy
      | ref => simp [toD] at hy
      | scr => simp [toD] at hy
      | cls => simp [toD] at hy
theorem toDs_inj : ∀ (xs ys : List Val) (ds : List PyData), toDs xs = some ds → toDs ys = some ds → xs = ys
  | [], [], _, _, _ => rfl
  | [], y :: ys, ds, hx, hy => by
    obtain ⟨e, r, h1, h2, rfl⟩ := toDs_cons hy
    rw [toDs] at hx; cases hx
  | x :: xs, [], ds, hx, hy => by
    obtain ⟨e, r, h1, h2, rfl⟩ := toDs_cons hx
    rw [toDs] at hy; cases hy
  | x :: xs, y :: ys, ds, hx, hy => by
    obtain ⟨d, r, h1, h2, rfl⟩ := toDs_cons hx
    obtain ⟨e, q, h3, h4, e5⟩ := toDs_cons hy
    cases e5
    rw [toD_inj x y d h1 h3, toDs_inj xs ys r h2 h4]
end
/-! ### the order of values -/
def ltV (x y : Val) : Bool := match toD x, toD y with
  | some d, some e => dataLt d e
  | _, _ => false
def minV (x : Val) (xs : List Val) : Val := xs.foldl (fun a y => if ltV y a = true then y else a) x
def alikeB (ds : List PyData) : Bool := (ds.all fun x => ds.all fun y => alike x y) && ds.all fun x => match x with
  | .none => false
  | _ => true
def okMin (xs : List Val) : Bool := deps 20 xs && match toDs xs with
  | some ds => alikeB ds
  | none => false
def lMinL : List Val → Option Val
  | [.lst (x :: xs)] => if okMin (x :: xs) = true then some (minV x xs) else none
  | [.int i, .int j] => some (.int (if j < i then j else i))
  | _ => none
theorem minV_mem : ∀ (xs : List Val) (x : Val), minV x xs ∈ x :: xs
  | [], x => by simp [minV]
  | y :: ys, x => by
    have e : minV x (y :: ys) = minV (if ltV y x = true then y else x) ys := rfl
    rw [e]
    have h := minV_mem ys (if ltV y x = true then y else x)
    rcases List.mem_cons.mp h with h | h
    · rw [h]
      split
      · simp
      · simp
    · exact List.mem_cons_of_mem _ (List.mem_cons_of_mem _ h)
theorem minV_toD : ∀ {xs : List Val} {ds : List PyData} {x : Val} {d : PyData}, toDs xs = some ds → toD x = some d → toD (minV x xs) = some (minD d ds)
  | [], ds, x, d, h, hx => by rw [toDs] at h; cases h; exact hx
  | y :: ys, ds, x, d, h, hx => by
    obtain ⟨e, r, h1, h2, rfl⟩ := toDs_cons h
    have e1 : minV x (y :: ys) = minV (if ltV y x = true then y else x) ys := rfl
    have e2 : minD d (e :: r) = minD (if dataLt e d then e else d) r := rfl
    have e3 : ltV y x = dataLt e d := by unfold ltV; rw [h1, hx]
    rw [e1, e2, e3]
    refine minV_toD h2 ?_
    cases dataLt e d
    · exact hx
    · exact h1
theorem alikeB_all {ds : List PyData} (h : alikeB ds = true) : AlikeAll ds := by
  unfold alikeB at h
  rw [Bool.and_eq_true] at h
  refine ⟨fun x hx y hy => List.all_eq_true.mp (List.all_eq_true.mp h.1 x hx) y hy, fun x hx e => ?_⟩
  have := List.all_eq_true.mp h.2 x hx
  rw [e] at this
  cases this
section
variable {X : Cx}
theorem call_minL (hc : Cok X) : CallR X (.builtin "min") (rLG (.of X) lMinL) := by
  intro pins s σ H cs us Q I r ⟨W, st, σ', vs, z, hs, b, e, q⟩
  unfold lMinL at e
  split at e
  · split at e
    · rename_i x xs h
      cases e
      unfold okMin at h
      rw [Bool.and_eq_true] at h
      obtain ⟨ds, h3, h4⟩ := deps_toDs _ _ h.1
      have h5 := h.2
      rw [h3] at h5
      have hal := alikeB_all h5
      obtain ⟨c, rfl, hy⟩ := b.one
      obtain ⟨p, cs, rfl, hr, t⟩ := hy.lstI
      obtain ⟨u, rfl, ru⟩ := vals1 r
      cases ru
      obtain ⟨its, rv, pl, _⟩ := I.list (.of hr)
      obtain ⟨as, ra⟩ := t.readsAll I rv h3
      obtain ⟨d, r2, hd, hds, rfl⟩ := toDs_cons h3
      refine PySem.W.min_list_data (vs := its.toArray) (I.ok.hd hc.calm) pl.isList ra hal (by have := hc.un; omega) fun i v h' tk bs hi rd k => ?_
      have hi' : its[i]? = some v := by simpa using hi
      obtain ⟨cv, hcv, rv1⟩ := vals_back rv hi'
      obtain ⟨xv, hxv, vv⟩ := t.get' hcv
      obtain ⟨di, hdi, hdm⟩ : ∃ di, toD xv = some di ∧ di ∈ d :: r2 := by
        have hmem : xv ∈ x :: xs := List.mem_of_getElem? hxv
        have : ∀ (ys : List Val) (es : List PyData), toDs ys = some es → xv ∈ ys → ∃ di, toD xv = some di ∧ di ∈ es := fun ys => by
          induction ys with
          | nil => intro es _ hm; cases hm
          | cons y ys ih =>
            intro es he hm
            obtain ⟨e1, r1, g1, g2, rfl⟩ := toDs_cons he
            rcases List.mem_cons.mp hm with hm | hm
            · subst hm; exact ⟨e1, g1, by simp⟩
            · obtain ⟨di, q1, q2⟩ := ih r1 g2 hm
              exact ⟨di, q1, by simp [q2]⟩
        exact this _ _ h3 hmem
      have hmin := minV_toD hds hd
      have hminmem : minD d r2 ∈ d :: r2 := by
        obtain ⟨dm, q1, q2⟩ : ∃ dm, toD (minV x xs) = some dm ∧ dm ∈ d :: r2 := by
          have hm := minV_mem xs x
          have : ∀ (ys : List Val) (es : List PyData), toDs ys = some es → minV x xs ∈ ys → ∃ di, toD (minV x xs) = some di ∧ di ∈ es := fun ys => by
            induction ys with
            | nil => intro es _ hm; cases hm
            | cons y ys ih =>
              intro es he hm
              obtain ⟨e1, r1, g1, g2, rfl⟩ := toDs_cons he
              rcases List.mem_cons.mp hm with hm | hm
              · rw [hm]; exact ⟨e1, g1, by simp⟩
              · obtain ⟨di, q1, q2⟩ := ih r1 g2 hm
                exact ⟨di, q1, by simp [q2]⟩
          exact this _ _ h3 hm
        rw [hmin] at q1
        cases q1
        exact q2
      obtain ⟨as2, rd2⟩ := BR.reads (s := { s with heap := h', toks := tk }) (I.kept k) (.val vv) rv1 hdi
      have e1 := alike_unique di (minD d r2) v as2 bs (hal.1 _ hdm _ hminmem) rd2 rd
      have e2 : xv = minV x xs := toD_inj _ _ _ hdi (by rw [hmin, e1])
      rw [e2] at vv
      exact ⟨cv, H, I.kept k, rv1, q H cv (Same.refl _) vv⟩
    · cases e
  · cases e
    obtain ⟨c, d, rfl, h, h2⟩ := b.two
    refine call_min2 hc.calm pins s σ H _ us Q I r ⟨_, _, by rw [h.intI, h2.intI], q H _ (Same.refl _) (.int _)⟩
  · cases e
/-! ### text[::-1] -/
def revS (z : Str) : Str := ⟨((Builtin.Str.strSliceIndices none none (-1) z.length).filterMap (z.cps[·]?)).toArray⟩
def vRevS : Val → Option Val
  | .str z => if sokB (revS z) = true then some (.str (revS z)) else none
  | _ => none
def rRevS : V → Hp → VK → Prop := fun x H Q => ∃ z, x = .str z ∧ (revS z).length ≤ sizeLine ∧ Q (.str (revS z)) H
variable {e : Expr} {te : TE} {k : Nat} {p1 p2 p3 pos : Pos} {f : EM}
theorem pe_revS (he : PE X e te) : PE X (.Subscript e (.Slice none none (some (.UnaryOp .USub (.Constant (.int 1) k p1) p2)) p3) pos) (tUn rRevS te) := by
  refine ⟨fun pins s σ H Q I h => ?_⟩
  refine Subscript_ (thn (he.run pins s σ H _ I h) fun v s1 ⟨x, H1, I1, r1, q1⟩ => ?_)
  obtain ⟨z, ex, hz, q⟩ := q1
  subst ex
  obtain ⟨t, rfl⟩ := r1
  have hst : PO X (some (.UnaryOp .USub (.Constant (.int 1) k p1) p2)) (tPart (tUn (rU fun i => .int (-i)) (tC (.int 1)))) := po_some (pe_un un_neg pe_int)
  refine wpAny_Slice (thn (po_none.run pins s1 σ H1 (fun o H2 => o = none ∧ H2 = H1) I1 ⟨rfl, rfl⟩) fun vl s2 ⟨l, H2, I2, pl, el, e2⟩ => ?_)
  subst el e2
  refine thn (po_none.run pins s2 σ H2 (fun o H3 => o = none ∧ H3 = H2) I2 ⟨rfl, rfl⟩) fun vu s3 ⟨u, H3, I3, pu, eu, e3⟩ => ?_
  subst eu e3
  refine thn (hst.run pins s3 σ H3 (fun o H4 => o = some (-1) ∧ H4 = H3) I3 ⟨1, rfl, -1, rfl, rfl, rfl⟩) fun vs s4 ⟨o, H4, I4, ps, eo, e4⟩ => ?_
  subst eo e4
  have I5 : Inv X pins σ H4 { s4 with heap := s4.heap.push { cls := .type "slice", data := .fields #[vl, vu, vs] } } := I4.kept (t' := s4.toks) fun b ob q => Heap.get?_push_of_some _ q
  obtain ⟨l, rfl, el⟩ := IsPart.raw pl
  obtain ⟨u, rfl, eu⟩ := IsPart.raw pu
  obtain ⟨w, rfl, ew⟩ := IsPart.raw ps
  show wpAny (model X.prog X.w) X.A (subscriptTail e (.Slice none none (some (.UnaryOp .USub (.Constant (.int 1) k p1) p2)) p3) (.str z t) (.ref s4.heap.objs.size)) (EP X pins σ Q) X.xe { s4 with heap := s4.heap.push { cls := .type "slice", data := .fields #[partValue l, partValue u, partValue w] } }
  refine tail_any (ops := [.str z t, .ref s4.heap.objs.size]) (typeIs_str _ _ _) (F.slot_str_getitem.lookup) ?_ (by with_unfolding_all rfl)
  refine wpAny_getItem_str_slice (l := l) (u := u) (st := w) ⟨_, Heap.get?_push_size _ rfl, rfl, rfl⟩ ?_ ?_
  · rw [ew]; rfl
  unfold sliceMade slicePicked
  rw [el, eu, ew]
  show Made.post (if ((-1 : Int) == 1 && _) = true then _ else _) _ _
  rw [if_neg (by simp)]
  exact ⟨hz, ⟨.str (revS z), H4, I5.tok _, ⟨_, rfl⟩, q⟩⟩
theorem imp_revS {g : Gx} : Imp1 g vRevS rRevS := by
  intro W s σ H x z cx Q hs bx e q
  unfold vRevS at e
  split at e
  · split at e
    · rename_i h
      cases e
      obtain ⟨rfl, _⟩ := bx.strI
      exact ⟨_, rfl, lim_line (SOk.len h), q H _ (Same.refl _) (.str _ h)⟩
    · cases e
  · cases e
theorem fe_revS (h : FE X e f) : FE X (.Subscript e (.Slice none none (some (.UnaryOp .USub (.Constant (.int 1) k p1) p2)) p3) pos) (op1 vRevS f) :=
  ⟨(pe_revS h.pe).imp fun _ _ _ h => tE_op1 imp_revS h⟩
/-! ### name += e, ints -/
def vAddI : Val → Val → Option Val
  | .int a, .int b => some (.int (a + b))
  | _, _ => none
theorem fs_augI {i : Nat} {x : Str} {pos' : Pos} (hc : Cok X) (hi : X.N[i]? = some x) (hx : Loc X.env.scope x) (he : FE X e f) (hf : X.fn x = true ∨ X.env.scope.names.lookup x = some .local := by first | exact .inl rfl | exact .inr rfl | assumption) :
    FS X (.AugAssign (.Name x pos') .Add e pos) (sAug i vAddI f) := by
  refine ⟨(ps_aug hc.nd hi hx he.pe ip_add hf).imp fun D σ H ⟨W, s, hs, kk, s', e1, K⟩ => ?_⟩
  obtain ⟨o, s1, ea, e2⟩ := M.bind_ok e1
  obtain ⟨a, s2, ev, e3⟩ := M.bind_ok e2
  obtain ⟨q1, ev2⟩ := opt_ok ev
  obtain ⟨y, s3, eb, e4⟩ := M.bind_ok e3
  obtain ⟨b, s4, er3, e5⟩ := M.bind_ok e4
  obtain ⟨q2, er4⟩ := rdM_ok er3
  obtain ⟨z, s5, ez, e6⟩ := M.bind_ok e5
  obtain ⟨q3, ez2⟩ := opt_ok ez
  subst q1 q2 q3
  cases e6
  unfold vAddI at ez2
  split at ez2
  · rename_i m n
    cases ez2
    unfold eVar at ea
    cases q : s.sl[i]? with
    | none => rw [q] at ea; cases ea
    | some o1 =>
      cases o1 with
      | none => rw [q] at ea; cases ea
      | some o1 =>
        obtain ⟨c, fp, h1, h2, h3⟩ := hs.slot i o1 q
        rw [q] at ea
        cases o1 with
        | v x1 =>
          cases ea
          cases ev2
          cases h3 with
          | v h3 =>
            cases h3
            refine ⟨_, h1, W, _, hs, y, _, eb, fun W1 H1 cy p1 hs1 d => ?_⟩
            have b1 := hs1.read d er4
            exact ⟨m, n, rfl, b1.intI, K _ _ H1 (Post.setW (fun a h => by cases h) p1) (hs1.setV (.int _))⟩
        | lst xs => cases ea; cases ev2
        | dct xs => cases ea; cases ev2
  · cases ez2
end
end G

namespace G
open PySem PySem.Spec PyProof.Rows L2
/-! ### list of a text -/
theorem vals_signs {x : Str} : ∀ {its : List Value} {l : List Nat}, its.length = l.length → (∀ (j : Nat) v, its[j]? = some v → ∃ c u, l[j]? = some c ∧ v = Value.str ⟨#[c]⟩ u) → Vals (l.map fun c => V.str ⟨#[c]⟩) its
  | [], [], _, _ => .nil
  | [], _ :: _, h, _ => by simp at h
  | _ :: _, [], h, _ => by simp at h
  | v :: its, c :: l, h, f => by
    obtain ⟨c', u, h1, h2⟩ := f 0 v rfl
    have e : c = c' := Option.some.inj h1
    subst e
    refine .cons ⟨u, h2⟩ (vals_signs (x := x) (by simpa using h) fun j w hw => ?_)
    obtain ⟨d, u2, h3, h4⟩ := f (j + 1) w (by simpa using hw)
    exact ⟨d, u2, by simpa using h3, h4⟩
def rListS : List V → Hp → VK → Prop := fun xs H Q => ∃ z, xs = [.str z] ∧ z.length ≤ sizeLine ∧ ∀ l, H l = none → Q (.ref l) (upd H l (.lst (signsV z)))
theorem call_listS {X : Cx} (hc : Cok X) : CallR X (.type "list") rListS := by
  intro pins s σ H xs us Q I r h
  obtain ⟨z, rfl, hz, q⟩ := h
  obtain ⟨u, rfl, t, rfl⟩ := vals1 r
  refine call_list_str (I.ok.hd hc.calm) z t (fun h' tk acc c hk hS hacc => ?_) hz
  have rv : Vals (signsV z) acc.toList := by
    refine vals_signs (x := z) (by simp [hacc.1]) fun j v hv => ?_
    obtain ⟨c, u, h1, h2⟩ := hacc.2 j v (by simpa using hv)
    exact ⟨c, u, by rw [Array.getElem?_toList]; exact h1, h2⟩
  exact ⟨.ref s.heap.objs.size, _, I.laid (t' := tk) hk (Nat.le_refl _) (show ObjOk X.prog X.w _ h' _ (.lst (signsV z)) from ⟨by rw [show (signsV z).length = z.length by simp [signsV]; rfl]; exact hz, acc.toList, c, rv, by simpa using hS⟩), rfl, q _ (I.hok.fresh (Nat.le_refl _))⟩
def lListA : List Val → Option OV
  | [.str z] => some (.lst (signs z))
  | xs => lList xs
theorem imp_listA {g : Gx} : ImpN g lListA (fun xs H Q => rListOf g.K xs H Q ∨ rListS xs H Q) := by
  intro W s σ H xs z cs Q hs b e q
  unfold lListA at e
  split at e
  · rename_i zz
    cases e
    obtain ⟨c, rfl, h⟩ := b.one
    obtain ⟨rfl, hz⟩ := h.strI
    refine .inr ⟨_, rfl, lim_line hz.len, fun l n => ?_⟩
    have t : VRs g W H (signs zz) (signsV zz) := by
      obtain ⟨k, cs2, _, f⟩ := src_of (.str zz hz : VR g W H _ _) rfl
      obtain ⟨t1, t2⟩ := f W H .refl
      have e2 : cs2 = signsV zz := by
        have h3 := t1
        have : ∀ (l : List Nat) (ds : List V), VRs g W H (l.map fun c => Val.str ⟨#[c]⟩) ds → ds = l.map fun c => V.str ⟨#[c]⟩ := fun l => by
          induction l with
          | nil => intro ds h; cases h; rfl
          | cons c l ih =>
            intro ds h
            cases h with
            | cons h t => cases h; rw [ih _ t]; rfl
        exact this _ _ h3
      rw [← e2]
      exact t1
    obtain ⟨n1, n2, n3⟩ := newL hs n t
    exact q _ _ _ (same_upd n) n1 n2 n3
  · exact .inl (imp_list W s σ H _ z cs Q hs b e q)
/-! ### plain-law rules -/
section
variable {s : Stt} {i : Nat} {f : EM} {fs : M (List Opd)}
theorem ok_inBlk {α : Type} {vs : List Nat} {m : M α} {Q : α → Stt → Prop} : Ok (inBlk vs m) s Q ↔ freeS s vs = true ∧ Ok m s fun a s1 => s1.sl.length = s.sl.length ∧ Q a (Stt.back s s1 vs) := by
  constructor
  · rintro ⟨a, s', e, q⟩
    obtain ⟨h1, s1, h2, h3, rfl⟩ := inBlk_ok e
    exact ⟨h1, a, s1, h2, h3, q⟩
  · rintro ⟨h1, a, s1, h2, h3, q⟩
    exact ⟨a, _, by unfold inBlk; rw [if_pos h1, h2]; simp [h3], q⟩
theorem ok_nComp {vs : List Nat} {fi : M (List Val)} {g : Val → M Unit} {c : M Bool} {Q : OV → Stt → Prop} : Ok (nComp vs fi g c f) s Q ↔ Ok fi s fun xs s1 => freeS s1 vs = true ∧ Ok (lcLoop vs g c f xs) s1 fun r s2 => s2.sl.length = s1.sl.length ∧ r.length ≤ lim ∧ Q (.lst r) (Stt.back s1 s2 vs) := by
  unfold nComp
  simp only [ok_bind, ok_inBlk, ok_opt, ex_map, ex_short]
theorem ok_tYes {Q : Bool → Stt → Prop} : Ok tYesM s Q ↔ Q true s := ⟨fun ⟨_, _, e, q⟩ => by cases e; exact q, fun q => ⟨_, _, rfl, q⟩⟩
theorem ok_lc0 {vs : List Nat} {g : Val → M Unit} {c : M Bool} {Q : List Val → Stt → Prop} : Ok (lcLoop vs g c f []) s Q ↔ Q [] s := ⟨fun ⟨_, _, e, q⟩ => by cases e; exact q, fun q => ⟨_, _, rfl, q⟩⟩
theorem ok_wipeM {vs : List Nat} {Q : Unit → Stt → Prop} : Ok (wipeM vs) s Q ↔ Q () (s.wipe vs) := ⟨fun ⟨_, _, e, q⟩ => by cases e; exact q, fun q => ⟨_, _, rfl, q⟩⟩
theorem ok_lc1 {vs : List Nat} {g : Val → M Unit} {c : M Bool} {x : Val} {xs : List Val} {Q : List Val → Stt → Prop} : Ok (lcLoop vs g c f (x :: xs)) s Q ↔ Ok (g x) (s.wipe vs) fun _ s1 => Ok c s1 fun b s2 => if b = true then Ok f s2 fun o s3 => ∃ v, o = .val v ∧ Ok (lcLoop vs g c f xs) s3 fun r s4 => Q (v :: r) s4 else Ok (lcLoop vs g c f xs) s2 Q := by
  rw [lcLoop]
  simp only [ok_bind, ok_wipeM, ok_ite, ok_toValM, ok_pure]
/-- a comprehension, by an invariant over what is left; what each item adds -/
theorem ok_lc {vs : List Nat} {g : Val → M Unit} {c : M Bool} (I : List Val → Stt → Prop) (R : List Val → List Val → Prop) {xs : List Val} (h0 : I xs s) (r0 : R [] [])
    (hs : ∀ x r s, I (x :: r) s → Ok (g x) (s.wipe vs) fun _ s1 => Ok c s1 fun b s2 => if b = true then Ok f s2 fun o s3 => ∃ v, o = .val v ∧ I r s3 ∧ ∀ zs, R r zs → R (x :: r) (v :: zs) else I r s2 ∧ ∀ zs, R r zs → R (x :: r) zs) :
    Ok (lcLoop vs g c f xs) s fun r s' => R xs r ∧ I [] s' := by
  induction xs generalizing s with
  | nil => exact ok_lc0.mpr ⟨r0, h0⟩
  | cons x xs ih =>
    rw [ok_lc1]
    refine (hs x xs s h0).mono fun _ s1 q => q.mono fun b s2 q => ?_
    cases b with
    | false =>
      rw [if_neg (by decide)] at q ⊢
      exact (ih q.1).mono fun r s' h => ⟨q.2 _ h.1, h.2⟩
    | true =>
      rw [if_pos rfl] at q ⊢
      exact q.mono fun o s3 ⟨v, e, h1, h2⟩ => ⟨v, e, (ih h1).mono fun r s' h => ⟨h2 _ h.1, h.2⟩⟩
theorem ok_iZip2 {Q : List Val → Stt → Prop} : Ok (iZip2 fs) s Q ↔ Ok fs s fun os s1 => ∃ vs, toVals os = some vs ∧ ∃ x y, vs = [x, y] ∧ ∃ xs, seqOf x = some xs ∧ ∃ ys, seqOf y = some ys ∧ Q (zipV xs ys) s1 := by
  unfold iZip2
  simp only [ok_bind, ok_opt]
  constructor
  · refine fun h => h.mono fun os s1 ⟨vs, e, q⟩ => ⟨vs, e, ?_⟩
    split at q
    · rename_i x y
      rw [ok_opt] at q
      obtain ⟨z, e1, q⟩ := q
      obtain ⟨xs, ex, e2⟩ := bind_some e1
      obtain ⟨ys, ey, rfl⟩ := map_some e2
      exact ⟨x, y, rfl, xs, ex, ys, ey, q⟩
    · obtain ⟨_, _, e, _⟩ := q
      cases e
  · refine fun h => h.mono fun os s1 ⟨vs, e, x, y, e2, xs, ex, ys, ey, q⟩ => ⟨vs, e, ?_⟩
    subst e2
    show Ok (M.opt _) s1 Q
    rw [ok_opt]
    exact ⟨_, by rw [ex, ey]; rfl, q⟩
theorem ok_sAug {o : Val → Val → Option Val} {C : Ctl → Stt → Prop} : Ok (sAug i o f) s C ↔ Ok (eVar i) s fun x s1 => ∃ a, x = .val a ∧ Ok f s1 fun y s2 => ∃ b, s2.rd y = some b ∧ ∃ z, o a b = some z ∧ C .nx (s2.setV i z) := by
  unfold sAug
  simp only [ok_bind, ok_toValM, ok_rdM, ok_opt, ok_putV, ok_pure]
theorem vAddI_ii {a b : Int} : vAddI (.int a) (.int b) = some (.int (a + b)) := rfl
theorem wipe_nil : s.wipe [] = s := rfl
theorem wipe_cons {v : Nat} {vs : List Nat} : s.wipe (v :: vs) = ⟨(s.wipe vs).sl.set v none, (s.wipe vs).hp⟩ := rfl
end
end G

namespace G
open PySem PySem.Spec PyProof.Rows L2
def m_is_of : SM := sRet (eAnd (opL lIsi (aCons (eVar 0) (aCons (eCls "str") (aNil)))) (eAnd (eChain vLe vLe (eC (.int 1)) (opL lLen (aCons (eVar 0) (aNil))) (eC (.int 7))) (opL lAll (aCons (eFrz (nComp [2] (iSeq (eVar 0)) (putV 2) (tYesM) (op2 vIn (eVar 2) (eVar 1)))) (aNil)))))
def F_is_of : FM := runF 3 m_is_of
def m_is_plate : SM := sRet (callV 2 F_is_of [] (aCons (eVar 0) (aCons (eC (.str "0123456789ABCDEFGHIJKLMNOPQRSTUVWXYZ")) (aNil))))
def F_is_plate : FM := runF 1 m_is_plate
def m_is_reading : SM := sRet (callV 2 F_is_of [] (aCons (eVar 0) (aCons (op2 vAdd (eC (.str "0123456789ABCDEFGHIJKLMNOPQRSTUVWXYZ")) (eC (.str "?"))) (aNil))))
def F_is_reading : FM := runF 1 m_is_reading
def m_doubt : SM := sSeq (sIf (tst (op2 vNe (opL lLen (aCons (eVar 0) (aNil))) (opL lLen (aCons (eVar 1) (aNil))))) (sRet (eC .non)) (sNil)) (sSeq (sSet 2 (eC (.int 0))) (sSeq (sFor (gTup 2 (gCons (putV 3) (gCons (putV 4) (gNil)))) (iZip2 (aCons (eVar 0) (aCons (eVar 1) (aNil)))) (sIf (tst (op2 vNe (eVar 3) (eVar 4))) (sAug 2 vAddI (eIf (tst (op2 vIn (eC (.str "?")) (eTup (aCons (eVar 3) (aCons (eVar 4) (aNil)))))) (eC (.int 2)) (eC (.int 9)))) (sNil))) (sRet (eIf (tst (op2 vLe (eVar 2) (eC (.int 20)))) (eVar 2) (eC .non)))))
def F_doubt : FM := runF 5 m_doubt
def m_plate_of : SM := sSeq (sOwn 1 (nLst (aNil))) (sSeq (sFor (putV 2) (iRng rng1 (aCons (opL lLen (aCons (op2 vIx (eVar 0) (eC (.int 0))) (aNil))) (aNil))) (sSeq (sSet 3 (eFrz (nComp [4] (iSeq (eVar 0)) (putV 4) (tst (op2 vNe (op2 vIx (eVar 4) (eVar 2)) (eC (.str "?")))) (op2 vIx (eVar 4) (eVar 2))))) (sSeq (sSet 5 (opL lMinL (aCons (op2 vAdd (eFrz (nComp [6] (iSeq (eVar 3)) (putV 6) (tYesM) (eTup (aCons (op2 vSub (eC (.int 0)) (opR "list" mCount (eVar 3) (aCons (eVar 6) (aNil)))) (aCons (eVar 6) (aNil)))))) (eLst (aCons (eTup (aCons (eC (.int 1)) (aCons (eC (.str "?")) (aNil)))) (aNil)))) (aNil)))) (sExpr (opW "list" wAppend (eVar 1) (aCons (op2 vIx (eVar 5) (eC (.int 1))) (aNil))))))) (sRet (opR "str" mJoin (eC (.str "")) (aCons (eVar 1) (aNil)))))
def F_plate_of : FM := runF 7 m_plate_of
def m__law_bag : SM := sSeq (sSet 2 (eC (.int 0))) (sSeq (sIf (tst (op2 vLt (eVar 1) (opL lLen (aCons (eVar 0) (aNil))))) (sSet 2 (opL lAbs (aCons (op2 vIx (eVar 0) (eVar 1)) (aNil)))) (sNil)) (sSeq (sIf (tst (op2 vLt (eVar 2) (op2 vPow (eC (.int 10)) (eC (.int 18))))) (sRet (eCell (nLst (aCons (eC (.int 0)) (aCons (op2 vAdd (eC (.int 1)) (op2 vMod (op2 vAdd (op2 vMul (eVar 2) (eC (.int 7919))) (op2 vMul (eC (.int 104729)) (eVar 1))) (eC (.int 2147483646)))) (aNil)))))) (sNil)) (sRet (eCell (nLst (aCons (eVar 2) (aCons (op2 vAdd (eC (.int 1)) (op2 vMod (op2 vAdd (eVar 2) (eVar 1)) (eC (.int 2147483646)))) (aNil))))))))
def F__law_bag : FM := runF 3 m__law_bag
def m__law_take : SM := sSeq (sIf (tst (op2 vGt (op2 vIx (eVar 0) (eC (.int 0))) (eC (.int 0)))) (sSeq (sSet 2 (op2 vMod (op2 vIx (eVar 0) (eC (.int 0))) (eVar 1))) (sSeq (sAsg (op2 vDiv (op2 vIx (eVar 0) (eC (.int 0))) (eVar 1)) (gSubM wSetL (eVar 0) (eC (.int 0)))) (sRet (eVar 2)))) (sNil)) (sSeq (sAsg (op2 vMod (op2 vMul (op2 vIx (eVar 0) (eC (.int 1))) (eC (.int 48271))) (eC (.int 2147483647))) (gSubM wSetL (eVar 0) (eC (.int 1)))) (sRet (op2 vMod (op2 vDiv (op2 vMod (op2 vMul (op2 vIx (eVar 0) (eC (.int 1))) (op2 vIx (eVar 0) (eC (.int 1)))) (eC (.int 2147483629))) (eC (.int 64))) (eVar 1))))
def F__law_take : FM := runF 3 m__law_take
def m__law_of : SM := sRet (op2 vIx (eVar 1) (callV 2 F__law_take [] (aCons (eVar 0) (aCons (opL lLen (aCons (eVar 1) (aNil))) (aNil)))))
def F__law_of : FM := runF 2 m__law_of
def m__law_bent : SM := sSeq (sSet 3 (eC (.str " !\"#$&'()*+,-./0123456789:;<=>?@ABCDEFGHIJKLMNOPQRSTUVWXYZ[\\]^_`abcdefghijklmnopqrstuvwxyz{|}~\n"))) (sSeq (sSet 4 (callV 2 F__law_take [] (aCons (eVar 0) (aCons (eC (.int 9)) (aNil))))) (sSeq (sSet 5 (callV 2 F__law_of [] (aCons (eVar 0) (aCons (eVar 3) (aNil))))) (sSeq (sIf (tst (op2 vEq (callV 2 F__law_take [] (aCons (eVar 0) (aCons (eC (.int 2)) (aNil)))) (eC (.int 0)))) (sSet 5 (callV 2 F__law_of [] (aCons (eVar 0) (aCons (eVar 2) (aNil))))) (sNil)) (sSeq (sSet 6 (callV 2 F__law_take [] (aCons (eVar 0) (aCons (op2 vAdd (opL lLen (aCons (eVar 1) (aNil))) (eC (.int 1))) (aNil))))) (sSeq (sIf (tst (op2 vLt (eVar 4) (eC (.int 2)))) (sRet (op2 vAdd (op2 vAdd (opS vCut (eVar 1) (oNone) (oSome (eVar 6))) (eVar 5)) (opS vCut (eVar 1) (oSome (op2 vAdd (eVar 6) (eVar 4))) (oNone)))) (sNil)) (sSeq (sIf (tst (op2 vEq (eVar 4) (eC (.int 2)))) (sRet (op2 vAdd (opS vCut (eVar 1) (oNone) (oSome (eVar 6))) (opS vCut (eVar 1) (oSome (op2 vAdd (eVar 6) (eC (.int 1)))) (oNone)))) (sNil)) (sSeq (sIf (tst (op2 vEq (eVar 4) (eC (.int 3)))) (sRet (op2 vAdd (opS vCut (eVar 1) (oNone) (oSome (op2 vAdd (eVar 6) (eC (.int 1))))) (opS vCut (eVar 1) (oSome (eVar 6)) (oNone)))) (sNil)) (sSeq (sIf (tst (op2 vEq (eVar 4) (eC (.int 4)))) (sRet (op2 vAdd (op2 vAdd (opS vCut (eVar 1) (oNone) (oSome (eVar 6))) (op1 vRevS (opS vCut (eVar 1) (oSome (eVar 6)) (oSome (op2 vAdd (eVar 6) (eC (.int 2))))))) (opS vCut (eVar 1) (oSome (op2 vAdd (eVar 6) (eC (.int 2)))) (oNone)))) (sNil)) (sSeq (sSet 7 (opR "str" mSplit (eVar 1) (aCons (eC (.str " ")) (aNil)))) (sSeq (sSet 6 (callV 2 F__law_take [] (aCons (eVar 0) (aCons (opL lLen (aCons (eVar 7) (aNil))) (aNil))))) (sSeq (sSet 8 (op2 vMulA (eLst (aCons (op2 vIx (eVar 7) (eVar 6)) (aNil))) (op2 vIx (eLst (aCons (eC (.int 0)) (aCons (eC (.int 2)) (aCons (eC (.int 1)) (aCons (eC (.int 1)) (aNil)))))) (op2 vSub (eVar 4) (eC (.int 5)))))) (sSeq (sIf (tst (op2 vEq (eVar 4) (eC (.int 7)))) (sSet 8 (eLst (aCons (callV 2 F__law_of [] (aCons (eVar 0) (aCons (eVar 7) (aNil)))) (aNil)))) (sNil)) (sSeq (sIf (tst (op2 vEq (eVar 4) (eC (.int 8)))) (sSet 8 (eLst (aCons (callV 2 F__law_of [] (aCons (eVar 0) (aCons (eVar 2) (aNil)))) (aNil)))) (sNil)) (sRet (opR "str" mJoin (eC (.str " ")) (aCons (op2 vAdd (op2 vAdd (opS vCut (eVar 7) (oNone) (oSome (eVar 6))) (eVar 8)) (opS vCut (eVar 7) (oSome (op2 vAdd (eVar 6) (eC (.int 1)))) (oNone))) (aNil)))))))))))))))))
def F__law_bent : FM := runF 9 m__law_bent
def m__law_odd : SM := sSeq (sSet 1 (eLst (aCons (eC .non) (aCons (eC (.bl true)) (aCons (eC (.bl false)) (aCons (eC (.int 0)) (aCons (eC (.int 1)) (aCons (op1 vNeg (eC (.int 1))) (aCons (eC (.int 5)) (aCons (op2 vPow (eC (.int 10)) (eC (.int 30))) (aCons (eC (.str "")) (aCons (eC (.str "a")) (aCons (eC (.str "AB1")) (aCons (eC (.str "ab?")) (aCons (eC (.str "AB?")) (aCons (eTup (aNil)) (aCons (eLst (aNil)) (aCons (eTup (aCons (eC (.int 1)) (aCons (eC (.int 2)) (aNil)))) (aCons (eC (.str "see")) (aCons (eTup (aCons (eC .non) (aNil))) (aNil))))))))))))))))))))) (sSeq (sSet 1 (op2 vAdd (eVar 1) (eLst (aCons (eTup (aCons (eTup (aCons (eC (.str "a")) (aCons (eC (.str "b")) (aCons (eC (.int 1)) (aCons (eC (.int 0)) (aNil)))))) (aCons (eTup (aCons (eC (.str "c")) (aCons (eC (.str "b")) (aCons (eC (.int 1)) (aCons (eC (.int 0)) (aNil)))))) (aNil)))) (aCons (eLst (aCons (eTup (aCons (eC (.str "a")) (aCons (eC (.str "b")) (aCons (eC (.int 1)) (aCons (eC (.int 0)) (aNil)))))) (aCons (eTup (aCons (eC (.str "c")) (aCons (eC (.str "b")) (aCons (eC (.int 1)) (aCons (eC (.int 0)) (aNil)))))) (aNil)))) (aCons (eTup (aCons (eTup (aCons (eC (.int 0)) (aCons (eC (.int 1440)) (aCons (eC (.int 5)) (aNil))))) (aNil))) (aNil))))))) (sSeq (sSet 1 (op2 vAdd (eVar 1) (eLst (aCons (eTup (aCons (eTup (aCons (eC (.int 0)) (aCons (eC (.int 0)) (aCons (eC (.str "AB1")) (aCons (eC (.str "k")) (aNil)))))) (aNil))) (aCons (eLst (aCons (eTup (aCons (eC (.int 0)) (aCons (eC (.int 0)) (aCons (eC (.str "AB1")) (aCons (eC (.str "k")) (aNil)))))) (aNil))) (aCons (eTup (aCons (eTup (aNil)) (aCons (eTup (aNil)) (aNil)))) (aCons (eTup (aCons (eTup (aCons (eC (.int 0)) (aCons (eC (.int 1)) (aNil)))) (aNil))) (aCons (eTup (aCons (eTup (aCons (eC (.int 0)) (aCons (eC (.int 0)) (aCons (eC (.int 1)) (aNil))))) (aNil))) (aNil))))))))) (sRet (op2 vIx (eVar 1) (callV 2 F__law_take [] (aCons (eVar 0) (aCons (opL lLen (aCons (eVar 1) (aNil))) (aNil))))))))
def F__law_odd : FM := runF 2 m__law_odd
def m__law_is_of : SM := sSeq (sIf (tOrM (tNotM (tst (opL lIsi (aCons (eVar 0) (aCons (eCls "str") (aNil)))))) (tNotM (tst (eChain vLe vLe (eC (.int 1)) (opL lLen (aCons (eVar 0) (aNil))) (eC (.int 7)))))) (sRet (eC (.bl false))) (sNil)) (sRet (op2 vEq (eFrz (nComp [2] (iSeq (eVar 0)) (putV 2) (tst (op2 vNotIn (eVar 2) (eVar 1))) (eVar 2))) (eLst (aNil))))
def F__law_is_of : FM := runF 3 m__law_is_of
def m__law_is_reading : SM := sRet (callV 2 F__law_is_of [] (aCons (eVar 0) (aCons (eC (.str "?0123456789ABCDEFGHIJKLMNOPQRSTUVWXYZ")) (aNil))))
def F__law_is_reading : FM := runF 1 m__law_is_reading
def m__law_doubt : SM := sSeq (sIf (tst (op2 vNe (opL lLen (aCons (eVar 0) (aNil))) (opL lLen (aCons (eVar 1) (aNil))))) (sRet (eC .non)) (sNil)) (sSeq (sSet 2 (eC (.int 0))) (sSeq (sFor (putV 3) (iRng rng1 (aCons (opL lLen (aCons (eVar 0) (aNil))) (aNil))) (sIf (tst (op2 vNe (op2 vIx (eVar 0) (eVar 3)) (op2 vIx (eVar 1) (eVar 3)))) (sSet 2 (op2 vAdd (eVar 2) (eIf (tOrM (tst (op2 vEq (op2 vIx (eVar 0) (eVar 3)) (eC (.str "?")))) (tst (op2 vEq (op2 vIx (eVar 1) (eVar 3)) (eC (.str "?"))))) (eC (.int 2)) (eC (.int 9))))) (sNil))) (sRet (eIf (tst (op2 vLt (eVar 2) (eC (.int 21)))) (eVar 2) (eC .non)))))
def F__law_doubt : FM := runF 4 m__law_doubt
def m__law_reading : SM := sSeq (sOwn 1 (opN lListA (aCons (callV 2 F__law_of [] (aCons (eVar 0) (aCons (eLst (aCons (eC (.str "AB1")) (aCons (eC (.str "AB2")) (aCons (eC (.str "XY77")) (aCons (eC (.str "XY79")) (aCons (eC (.str "QQQQQQQ")) (aCons (eC (.str "Z")) (aNil)))))))) (aNil)))) (aNil)))) (sSeq (sFor (putV 2) (iRng rng1 (aCons (callV 2 F__law_take [] (aCons (eVar 0) (aCons (eC (.int 3)) (aNil)))) (aNil))) (sAsg (callV 2 F__law_of [] (aCons (eVar 0) (aCons (eLst (aCons (eC (.str "?")) (aCons (eC (.str "?")) (aCons (eC (.str "?")) (aCons (eC (.str "A")) (aCons (eC (.str "7")) (aCons (eC (.str "0")) (aNil)))))))) (aNil)))) (gSubM wSetL (eVar 1) (callV 2 F__law_take [] (aCons (eVar 0) (aCons (opL lLen (aCons (eVar 1) (aNil))) (aNil))))))) (sRet (opR "str" mJoin (eC (.str "")) (aCons (eVar 1) (aNil)))))
def F__law_reading : FM := runF 3 m__law_reading
def m__law_plate_of : SM := sSeq (sSet 1 (eC (.str ""))) (sSeq (sFor (putV 2) (iRng rng1 (aCons (opL lLen (aCons (op2 vIx (eVar 0) (eC (.int 0))) (aNil))) (aNil))) (sSeq (sSet 3 (eC (.str "?"))) (sSeq (sSet 4 (eC (.int 0))) (sSeq (sFor (putV 5) (iSeq (eC (.str "0123456789ABCDEFGHIJKLMNOPQRSTUVWXYZ"))) (sSeq (sSet 6 (opL lLen (aCons (eFrz (nComp [7] (iSeq (eVar 0)) (putV 7) (tst (op2 vEq (op2 vIx (eVar 7) (eVar 2)) (eVar 5))) (eC (.int 1)))) (aNil)))) (sIf (tst (op2 vGt (eVar 6) (eVar 4))) (sPar [3, 4] (aCons (eVar 5) (aCons (eVar 6) (aNil)))) (sNil)))) (sSet 1 (op2 vAdd (eVar 1) (eVar 3))))))) (sRet (eVar 1)))
def F__law_plate_of : FM := runF 8 m__law_plate_of
def m_law_k03 : SM := sSeq (sFor (putV 1) (iRng rng1 (aCons (op2 vAdd (eC (.int 1)) (opL lMin (aCons (opL lLen (aCons (eVar 0) (aNil))) (aCons (eC (.int 30)) (aNil))))) (aNil))) (sSeq (sSet 2 (callV 2 F__law_bag [] (aCons (eVar 0) (aCons (eVar 1) (aNil))))) (sSeq (sSet 3 (eFrz (nComp [4] (iRng rng1 (aCons (op2 vAdd (eC (.int 1)) (callV 2 F__law_take [] (aCons (eVar 2) (aCons (eC (.int 6)) (aNil))))) (aNil))) (putV 4) (tYesM) (callV 1 F__law_reading [] (aCons (eVar 2) (aNil)))))) (sSeq (sFor (putV 5) (iSeq (eVar 3)) (sSeq (sFor (putV 6) (iSeq (op2 vAdd (eVar 3) (eLst (aCons (op2 vMulA (eC (.str "?")) (opL lLen (aCons (eVar 5) (aNil)))) (aCons (op2 vAdd (opS vCut (eVar 5) (oSome (eC (.int 1))) (oNone)) (opS vCut (eVar 5) (oNone) (oSome (eC (.int 1))))) (aNil)))))) (sSeq (sSet 7 (callV 2 F_doubt [] (aCons (eVar 5) (aCons (eVar 6) (aNil))))) (sIf (tOrM (tst (op2 vNe (eVar 7) (callV 2 F__law_doubt [] (aCons (eVar 5) (aCons (eVar 6) (aNil)))))) (tOrM (tst (op2 vNe (callV 2 F_doubt [] (aCons (eVar 6) (aCons (eVar 5) (aNil)))) (eVar 7))) (tst (opL lIsi (aCons (eVar 7) (aCons (eCls "bool") (aNil))))))) (sRet (eC (.bl false))) (sNil)))) (sSeq (sIf (tst (op2 vNe (callV 2 F_doubt [] (aCons (eVar 5) (aCons (eVar 5) (aNil)))) (eC (.int 0)))) (sRet (eC (.bl false))) (sNil)) (sSeq (sSet 8 (eFrz (nComp [6] (iSeq (eVar 3)) (putV 6) (tst (op2 vEq (opL lLen (aCons (eVar 6) (aNil))) (opL lLen (aCons (eVar 5) (aNil))))) (eVar 6)))) (sIf (tst (op2 vNe (callV 1 F_plate_of [] (aCons (eVar 8) (aNil))) (callV 1 F__law_plate_of [] (aCons (eVar 8) (aNil))))) (sRet (eC (.bl false))) (sNil)))))) (sFor (putV 9) (iSeq (op2 vAdd (eVar 3) (eLst (aCons (callV 3 F__law_bent [] (aCons (eVar 2) (aCons (op2 vIx (eVar 3) (eC (.int 0))) (aCons (eLst (aCons (eC (.str "a")) (aCons (eC (.str " ")) (aCons (eC (.str "-")) (aCons (eC (.str "Z")) (aCons (eC (.str "?")) (aCons (eC (.str "9")) (aNil)))))))) (aNil))))) (aCons (callV 1 F__law_odd [] (aCons (eVar 2) (aNil))) (aCons (op2 vMulA (eC (.str "A")) (eC (.int 7))) (aCons (op2 vMulA (eC (.str "A")) (eC (.int 8))) (aNil)))))))) (sSeq (sSet 10 (callV 2 F__law_is_of [] (aCons (eVar 9) (aCons (eC (.str "0123456789ABCDEFGHIJKLMNOPQRSTUVWXYZ")) (aNil))))) (sSeq (sSet 11 (eTup (aCons (callV 1 F_is_plate [] (aCons (eVar 9) (aNil))) (aCons (callV 1 F_is_reading [] (aCons (eVar 9) (aNil))) (aNil))))) (sSeq (sIf (tst (op2 vNe (eVar 11) (eTup (aCons (eVar 10) (aCons (callV 1 F__law_is_reading [] (aCons (eVar 9) (aNil))) (aNil)))))) (sRet (eC (.bl false))) (sNil)) (sIf (tOrM (tNotM (tst (opL lIsi (aCons (op2 vIx (eVar 11) (eC (.int 0))) (aCons (eCls "bool") (aNil)))))) (tNotM (tst (opL lIsi (aCons (op2 vIx (eVar 11) (eC (.int 1))) (aCons (eCls "bool") (aNil))))))) (sRet (eC (.bl false))) (sNil)))))))))) (sRet (eC (.bl true)))
def F_law_k03 : FM := runF 12 m_law_k03
end G
namespace G
open PySem PySem.Spec PyProof.Rows L2
/-! ### the bag -/
def Bag (i : Nat) (hp : List OV) : Prop := ∃ a b : Int, hp[i]? = some (.lst [.int a, .int b]) ∧ 0 ≤ a ∧ 0 ≤ b ∧ b < 2147483647
theorem ixN_n {n : Nat} {j : Nat} (h : j < n) : ixN n (j : Int) = some j := by
  unfold ixN
  rw [if_pos (by omega), if_pos (by omega)]
  simp
theorem atI0 {α : Type} {x : α} {r : List α} : atI (x :: r) 0 = some x := atI_nat (j := 0) rfl
theorem atI1 {α : Type} {x y : α} {r : List α} : atI (x :: y :: r) 1 = some y := atI_nat (j := 1) rfl
theorem atI2 {α : Type} {x y z : α} {r : List α} : atI (x :: y :: z :: r) 2 = some z := atI_nat (j := 2) rfl
theorem atI3 {α : Type} {x y z u : α} {r : List α} : atI (x :: y :: z :: u :: r) 3 = some u := atI_nat (j := 3) rfl
theorem ixN1 : ixN 2 1 = some 1 := ixN_n (j := 1) (by decide)
theorem ixN20 : ixN 2 0 = some 0 := ixN_n (j := 0) (by decide)
theorem set_get1 {hp : List OV} {i : Nat} {o n : OV} (h : hp[i]? = some o) : (hp.set i n)[i]? = some n := by
  obtain ⟨hl, _⟩ := List.getElem?_eq_some_iff.mp h
  rw [List.getElem?_set_self hl]
theorem take_ok {i : Nat} {n : Int} {hp : List OV} {Q : OV → List OV → Prop} (hb : Bag i hp) (h0 : 0 < n) (h1 : n < 1073741824) (q : ∀ r hp', 0 ≤ r → r < n → Bag i hp' → Q (.v (.int r)) hp') : FOk (F__law_take [.ref i, .int n] hp) Q := by
  obtain ⟨a, b, hg, ha, hb0, hb1⟩ := hb
  unfold F__law_take m__law_take
  try simp only [ok_bind, ok_pure, ok_eVar, ok_eC, ok_eCls, ok_op2, ok_op1, ok_opL, ok_opN, ok_tst, ok_tNot, ok_tAnd, ok_tOr, ok_eAnd, ok_eOr, ok_eNot, ok_eIf, ok_chain, ok_aNil, ok_aCons, ok_eTup, ok_eLst, ok_nLst, ok_eFrz, ok_oNone, ok_oSome, ok_opS, ok_callV, ok_callN, ok_eCell, ok_opW, ok_opR, kthen_nx, kthen_brk, kthen_cont, kthen_ret, kthen_rtn, ok_sSeq, ok_sNil, ok_brk, ok_cont, ok_sExpr, ok_sRet, ok_sRtn, ok_sIf, ok_putV, ok_putO, ok_sSet, ok_sOwn, ok_sAsg, ok_gTup, ok_gCons, ok_gNil, ok_gSub, ok_sPar, ok_putVs0, ok_putVs1, ok_iSeq, ok_iRng, turn_nx, turn_brk, turn_cont, turn_ret, turn_rtn, ok_sFor, ok_loop0, ok_loop1, fin_nx, fin_val, fin_sl, fin_rtn, ok_runF, rd_non, rd_bl, rd_int, rd_str, rd_tup, rd_lst, rd_dct, rd_scr, rd_cls, rd_ref, rd_sl, snap_v, snap_l, snap_d, rds_nil, ex_rds, toVals_nil, toVals_cons, ex_argsOf, cur_ref, cur_sl, wr_ref, wr_sl, setV_mk, setO_mk, opdOf_v, opdOf_l, opdOf_d, vAdd_ii, vSub_ii, ex_mul, ex_div, ex_mod, ex_pow, vNeg_i, vLt_ii, vLe_ii, vGt_ii, vGe_ii, ex_eq, ex_ne, vIx_l, vIx_t, vIx_c, lAbs_i, lMin_i, lMax_i, lLen_l, lLen_t, lLen_c, lLen_s, lTup_l, lTup_t, ex_append, ex_setL, seqOf_l, seqOf_t, seqOf_c, ex_rng1, ex_rng2, frzO_v, frzO_l, frzO_d, ty_l, ty_d, ty_s, ex_map, ex_bind, ex_if, ok_nComp, ok_tYes, ok_iZip2, ok_sAug, vAddI_ii, wipe_nil, wipe_cons, Option.some.injEq, exists_eq_left', Opd.val.injEq, Val.bl.injEq, Val.int.injEq, List.getElem?_cons_zero, List.getElem?_cons_succ, List.set_cons_zero, List.set_cons_succ, Option.bind_some, id_eq, decide_eq_true_eq, Bool.not_eq_true', decide_eq_false_iff_not, List.length_cons, List.length_nil, Nat.zero_add, Nat.reduceAdd, true_and, and_true, List.zip_cons_cons, List.zip_nil_left, List.zip_nil_right, startS, List.map_cons, List.map_nil, List.cons_append, List.nil_append, Nat.reduceSub, List.replicate_succ, List.replicate_zero, List.append_nil, ↓reduceIte, hg, atI0, atI1, ixN20]
  split
  · refine ⟨h0, ⟨h0, h1⟩, ?_⟩
    refine q _ _ (Int.emod_nonneg _ (by omega)) (Int.emod_lt_of_pos _ h0) ⟨_, _, set_get1 hg, Int.ediv_nonneg ha (by omega), hb0, hb1⟩
  · have e0 : a = 0 := by omega
    subst e0
    simp only [set_get1 hg, ok_bind, ok_pure, ok_eVar, ok_eC, ok_eCls, ok_op2, ok_op1, ok_opL, ok_opN, ok_tst, ok_tNot, ok_tAnd, ok_tOr, ok_eAnd, ok_eOr, ok_eNot, ok_eIf, ok_chain, ok_aNil, ok_aCons, ok_eTup, ok_eLst, ok_nLst, ok_eFrz, ok_oNone, ok_oSome, ok_opS, ok_callV, ok_callN, ok_eCell, ok_opW, ok_opR, kthen_nx, kthen_brk, kthen_cont, kthen_ret, kthen_rtn, ok_sSeq, ok_sNil, ok_brk, ok_cont, ok_sExpr, ok_sRet, ok_sRtn, ok_sIf, ok_putV, ok_putO, ok_sSet, ok_sOwn, ok_sAsg, ok_gTup, ok_gCons, ok_gNil, ok_gSub, ok_sPar, ok_putVs0, ok_putVs1, ok_iSeq, ok_iRng, turn_nx, turn_brk, turn_cont, turn_ret, turn_rtn, ok_sFor, ok_loop0, ok_loop1, fin_nx, fin_val, fin_sl, fin_rtn, ok_runF, rd_non, rd_bl, rd_int, rd_str, rd_tup, rd_lst, rd_dct, rd_scr, rd_cls, rd_ref, rd_sl, snap_v, snap_l, snap_d, rds_nil, ex_rds, toVals_nil, toVals_cons, ex_argsOf, cur_ref, cur_sl, wr_ref, wr_sl, setV_mk, setO_mk, opdOf_v, opdOf_l, opdOf_d, vAdd_ii, vSub_ii, ex_mul, ex_div, ex_mod, ex_pow, vNeg_i, vLt_ii, vLe_ii, vGt_ii, vGe_ii, ex_eq, ex_ne, vIx_l, vIx_t, vIx_c, lAbs_i, lMin_i, lMax_i, lLen_l, lLen_t, lLen_c, lLen_s, lTup_l, lTup_t, ex_append, ex_setL, seqOf_l, seqOf_t, seqOf_c, ex_rng1, ex_rng2, frzO_v, frzO_l, frzO_d, ty_l, ty_d, ty_s, ex_map, ex_bind, ex_if, ok_nComp, ok_tYes, ok_iZip2, ok_sAug, vAddI_ii, wipe_nil, wipe_cons, Option.some.injEq, exists_eq_left', Opd.val.injEq, Val.bl.injEq, Val.int.injEq, List.getElem?_cons_zero, List.getElem?_cons_succ, List.set_cons_zero, List.set_cons_succ, Option.bind_some, id_eq, decide_eq_true_eq, Bool.not_eq_true', decide_eq_false_iff_not, List.length_cons, List.length_nil, Nat.zero_add, Nat.reduceAdd, true_and, and_true, List.zip_cons_cons, List.zip_nil_left, List.zip_nil_right, startS, List.map_cons, List.map_nil, List.cons_append, List.nil_append, Nat.reduceSub, List.replicate_succ, List.replicate_zero, List.append_nil, ↓reduceIte, atI0, atI1, ixN1]
    have e1 := Int.emod_nonneg (b * 48271) (b := 2147483647) (by decide)
    have e2 := Int.emod_lt_of_pos (b * 48271) (b := 2147483647) (by decide)
    refine ⟨.inr (by decide), by decide, .inl ⟨by omega, by omega⟩, by decide, by decide, h0, ?_⟩
    exact q _ _ (Int.emod_nonneg _ (by omega)) (Int.emod_lt_of_pos _ h0) ⟨_, _, set_get1 hg, by decide, e1, e2⟩
theorem bag_get {hp : List OV} {o : OV} : (hp ++ [o])[hp.length]? = some o := by
  rw [List.getElem?_append_right (Nat.le_refl _), Nat.sub_self]
  rfl
theorem bag_ok {ns : List Int} {k : Int} {hp : List OV} {Q : OV → List OV → Prop} (h0 : 0 ≤ k) (h1 : k < 2 ^ 64) (q : ∀ hp', Bag hp.length hp' → Q (.v (.ref hp.length)) hp') : FOk (F__law_bag [.scr (ns.map Val.int), .int k] hp) Q := by
  unfold F__law_bag m__law_bag
  try simp only [ok_bind, ok_pure, ok_eVar, ok_eC, ok_eCls, ok_op2, ok_op1, ok_opL, ok_opN, ok_tst, ok_tNot, ok_tAnd, ok_tOr, ok_eAnd, ok_eOr, ok_eNot, ok_eIf, ok_chain, ok_aNil, ok_aCons, ok_eTup, ok_eLst, ok_nLst, ok_eFrz, ok_oNone, ok_oSome, ok_opS, ok_callV, ok_callN, ok_eCell, ok_opW, ok_opR, kthen_nx, kthen_brk, kthen_cont, kthen_ret, kthen_rtn, ok_sSeq, ok_sNil, ok_brk, ok_cont, ok_sExpr, ok_sRet, ok_sRtn, ok_sIf, ok_putV, ok_putO, ok_sSet, ok_sOwn, ok_sAsg, ok_gTup, ok_gCons, ok_gNil, ok_gSub, ok_sPar, ok_putVs0, ok_putVs1, ok_iSeq, ok_iRng, turn_nx, turn_brk, turn_cont, turn_ret, turn_rtn, ok_sFor, ok_loop0, ok_loop1, fin_nx, fin_val, fin_sl, fin_rtn, ok_runF, rd_non, rd_bl, rd_int, rd_str, rd_tup, rd_lst, rd_dct, rd_scr, rd_cls, rd_ref, rd_sl, snap_v, snap_l, snap_d, rds_nil, ex_rds, toVals_nil, toVals_cons, ex_argsOf, cur_ref, cur_sl, wr_ref, wr_sl, setV_mk, setO_mk, opdOf_v, opdOf_l, opdOf_d, vAdd_ii, vSub_ii, ex_mul, ex_div, ex_mod, ex_pow, vNeg_i, vLt_ii, vLe_ii, vGt_ii, vGe_ii, ex_eq, ex_ne, vIx_l, vIx_t, vIx_c, lAbs_i, lMin_i, lMax_i, lLen_l, lLen_t, lLen_c, lLen_s, lTup_l, lTup_t, ex_append, ex_setL, seqOf_l, seqOf_t, seqOf_c, ex_rng1, ex_rng2, frzO_v, frzO_l, frzO_d, ty_l, ty_d, ty_s, ex_map, ex_bind, ex_if, ok_nComp, ok_tYes, ok_iZip2, ok_sAug, vAddI_ii, wipe_nil, wipe_cons, Option.some.injEq, exists_eq_left', Opd.val.injEq, Val.bl.injEq, Val.int.injEq, List.getElem?_cons_zero, List.getElem?_cons_succ, List.set_cons_zero, List.set_cons_succ, Option.bind_some, id_eq, decide_eq_true_eq, Bool.not_eq_true', decide_eq_false_iff_not, List.length_cons, List.length_nil, Nat.zero_add, Nat.reduceAdd, true_and, and_true, List.zip_cons_cons, List.zip_nil_left, List.zip_nil_right, startS, List.map_cons, List.map_nil, List.cons_append, List.nil_append, Nat.reduceSub, List.replicate_succ, List.replicate_zero, List.append_nil, ↓reduceIte, List.length_map]
  have fin : ∀ c : Int, 0 ≤ c → (((0:Int) ≤ 18 ∧ (18:Int) ≤ 1000000 ∧ (10:Int).natAbs < 2 ^ 64) ∧ if c < 10 ^ (18 : Int).toNat then
      ((-2 ^ 64 < c ∧ c < 2 ^ 64 ∨ -2 ^ 64 < (7919:Int) ∧ (7919:Int) < 2 ^ 64) ∧ (-2 ^ 64 < (104729:Int) ∧ (104729:Int) < 2 ^ 64 ∨ -2 ^ 64 < k ∧ k < 2 ^ 64) ∧ (0:Int) < 2147483646 ∧ 2 ≤ lim ∧ OV.isC (.lst [.int 0, .int (1 + (c * 7919 + 104729 * k) % 2147483646)]) = true ∧
        Q (.v (.ref hp.length)) (hp ++ [.lst [.int 0, .int (1 + (c * 7919 + 104729 * k) % 2147483646)]]))
      else ((0:Int) < 2147483646 ∧ 2 ≤ lim ∧ OV.isC (.lst [.int c, .int (1 + (c + k) % 2147483646)]) = true ∧ Q (.v (.ref hp.length)) (hp ++ [.lst [.int c, .int (1 + (c + k) % 2147483646)]]))) := by
    intro c hc
    refine ⟨by decide, ?_⟩
    split
    · have e1 := Int.emod_nonneg (c * 7919 + 104729 * k) (b := 2147483646) (by decide)
      have e2 := Int.emod_lt_of_pos (c * 7919 + 104729 * k) (b := 2147483646) (by decide)
      exact ⟨.inr (by decide), .inl (by decide), by decide, by decide, rfl, q _ ⟨_, _, bag_get, by decide, by omega, by omega⟩⟩
    · have e1 := Int.emod_nonneg (c + k) (b := 2147483646) (by decide)
      have e2 := Int.emod_lt_of_pos (c + k) (b := 2147483646) (by decide)
      exact ⟨by decide, by decide, rfl, q _ ⟨_, _, bag_get, hc, by omega, by omega⟩⟩
  split
  · rename_i hk
    have hlt : k.toNat < ns.length := by omega
    have e : atI (ns.map Val.int) k = some (.int ns[k.toNat]) := by
      have := atI_nat (j := k.toNat) (xs := ns.map Val.int) (v := .int ns[k.toNat]) (by simp [hlt])
      rwa [show ((k.toNat : Nat) : Int) = k by omega] at this
    simp only [e, ok_bind, ok_pure, ok_eVar, ok_eC, ok_eCls, ok_op2, ok_op1, ok_opL, ok_opN, ok_tst, ok_tNot, ok_tAnd, ok_tOr, ok_eAnd, ok_eOr, ok_eNot, ok_eIf, ok_chain, ok_aNil, ok_aCons, ok_eTup, ok_eLst, ok_nLst, ok_eFrz, ok_oNone, ok_oSome, ok_opS, ok_callV, ok_callN, ok_eCell, ok_opW, ok_opR, kthen_nx, kthen_brk, kthen_cont, kthen_ret, kthen_rtn, ok_sSeq, ok_sNil, ok_brk, ok_cont, ok_sExpr, ok_sRet, ok_sRtn, ok_sIf, ok_putV, ok_putO, ok_sSet, ok_sOwn, ok_sAsg, ok_gTup, ok_gCons, ok_gNil, ok_gSub, ok_sPar, ok_putVs0, ok_putVs1, ok_iSeq, ok_iRng, turn_nx, turn_brk, turn_cont, turn_ret, turn_rtn, ok_sFor, ok_loop0, ok_loop1, fin_nx, fin_val, fin_sl, fin_rtn, ok_runF, rd_non, rd_bl, rd_int, rd_str, rd_tup, rd_lst, rd_dct, rd_scr, rd_cls, rd_ref, rd_sl, snap_v, snap_l, snap_d, rds_nil, ex_rds, toVals_nil, toVals_cons, ex_argsOf, cur_ref, cur_sl, wr_ref, wr_sl, setV_mk, setO_mk, opdOf_v, opdOf_l, opdOf_d, vAdd_ii, vSub_ii, ex_mul, ex_div, ex_mod, ex_pow, vNeg_i, vLt_ii, vLe_ii, vGt_ii, vGe_ii, ex_eq, ex_ne, vIx_l, vIx_t, vIx_c, lAbs_i, lMin_i, lMax_i, lLen_l, lLen_t, lLen_c, lLen_s, lTup_l, lTup_t, ex_append, ex_setL, seqOf_l, seqOf_t, seqOf_c, ex_rng1, ex_rng2, frzO_v, frzO_l, frzO_d, ty_l, ty_d, ty_s, ex_map, ex_bind, ex_if, ok_nComp, ok_tYes, ok_iZip2, ok_sAug, vAddI_ii, wipe_nil, wipe_cons, Option.some.injEq, exists_eq_left', Opd.val.injEq, Val.bl.injEq, Val.int.injEq, List.getElem?_cons_zero, List.getElem?_cons_succ, List.set_cons_zero, List.set_cons_succ, Option.bind_some, id_eq, decide_eq_true_eq, Bool.not_eq_true', decide_eq_false_iff_not, List.length_cons, List.length_nil, Nat.zero_add, Nat.reduceAdd, true_and, and_true, List.zip_cons_cons, List.zip_nil_left, List.zip_nil_right, startS, List.map_cons, List.map_nil, List.cons_append, List.nil_append, Nat.reduceSub, List.replicate_succ, List.replicate_zero, List.append_nil, ↓reduceIte]
    refine fin _ ?_
    split <;> omega
  · exact fin 0 (by decide)
/-! indices into lists of a known length -/
theorem at_any {xs : List Val} {r : Int} {P : Val → Prop} (h0 : 0 ≤ r) (h1 : r < xs.length) (q : ∀ x, x ∈ xs → P x) : ∃ z, atI xs r = some z ∧ P z := by
  have hlt : r.toNat < xs.length := by omega
  refine ⟨xs[r.toNat], ?_, q _ (List.getElem_mem hlt)⟩
  have := atI_nat (j := r.toNat) (List.getElem?_eq_getElem hlt)
  rwa [show ((r.toNat : Nat) : Int) = r by omega] at this
theorem at_ints {xs : List Int} {r : Int} {P : Val → Prop} (h0 : 0 ≤ r) (h1 : r < xs.length) (q : ∀ x, x ∈ xs → P (.int x)) : ∃ z, atI (xs.map Val.int) r = some z ∧ P z :=
  at_any h0 (by simpa using h1) fun x hx => by
    obtain ⟨i, hi, rfl⟩ := List.mem_map.mp hx
    exact q i hi
theorem at_i2 {a b r : Int} {P : Val → Prop} (h0 : 0 ≤ r) (h1 : r < 2) (q : ∀ x, x = a ∨ x = b → P (.int x)) : ∃ z, atI [.int a, .int b] r = some z ∧ P z :=
  at_ints (xs := [a, b]) h0 h1 fun x hx => q x (by simpa using hx)
theorem at_i3 {a b c r : Int} {P : Val → Prop} (h0 : 0 ≤ r) (h1 : r < 3) (q : ∀ x, x = a ∨ x = b ∨ x = c → P (.int x)) : ∃ z, atI [.int a, .int b, .int c] r = some z ∧ P z :=
  at_ints (xs := [a, b, c]) h0 h1 fun x hx => q x (by simpa using hx)
theorem at_i4 {a b c d r : Int} {P : Val → Prop} (h0 : 0 ≤ r) (h1 : r < 4) (q : ∀ x, x = a ∨ x = b ∨ x = c ∨ x = d → P (.int x)) : ∃ z, atI [.int a, .int b, .int c, .int d] r = some z ∧ P z :=
  at_ints (xs := [a, b, c, d]) h0 h1 fun x hx => q x (by simpa using hx)
/-! one of some -/
theorem of_ok {i : Nat} {xs : List Val} {hp : List OV} {Q : OV → List OV → Prop} (hb : Bag i hp) (h0 : 0 < xs.length) (h1 : xs.length < 1073741824) (q : ∀ x hp', x ∈ xs → Bag i hp' → Q (.v x) hp') : FOk (F__law_of [.ref i, .lst xs] hp) Q := by
  unfold F__law_of m__law_of
  try simp only [ok_bind, ok_pure, ok_eVar, ok_eC, ok_eCls, ok_op2, ok_op1, ok_opL, ok_opN, ok_tst, ok_tNot, ok_tAnd, ok_tOr, ok_eAnd, ok_eOr, ok_eNot, ok_eIf, ok_chain, ok_aNil, ok_aCons, ok_eTup, ok_eLst, ok_nLst, ok_eFrz, ok_oNone, ok_oSome, ok_opS, ok_callV, ok_callN, ok_eCell, ok_opW, ok_opR, kthen_nx, kthen_brk, kthen_cont, kthen_ret, kthen_rtn, ok_sSeq, ok_sNil, ok_brk, ok_cont, ok_sExpr, ok_sRet, ok_sRtn, ok_sIf, ok_putV, ok_putO, ok_sSet, ok_sOwn, ok_sAsg, ok_gTup, ok_gCons, ok_gNil, ok_gSub, ok_sPar, ok_putVs0, ok_putVs1, ok_iSeq, ok_iRng, turn_nx, turn_brk, turn_cont, turn_ret, turn_rtn, ok_sFor, ok_loop0, ok_loop1, fin_nx, fin_val, fin_sl, fin_rtn, ok_runF, rd_non, rd_bl, rd_int, rd_str, rd_tup, rd_lst, rd_dct, rd_scr, rd_cls, rd_ref, rd_sl, snap_v, snap_l, snap_d, rds_nil, ex_rds, toVals_nil, toVals_cons, ex_argsOf, cur_ref, cur_sl, wr_ref, wr_sl, setV_mk, setO_mk, opdOf_v, opdOf_l, opdOf_d, vAdd_ii, vSub_ii, ex_mul, ex_div, ex_mod, ex_pow, vNeg_i, vLt_ii, vLe_ii, vGt_ii, vGe_ii, ex_eq, ex_ne, vIx_l, vIx_t, vIx_c, lAbs_i, lMin_i, lMax_i, lLen_l, lLen_t, lLen_c, lLen_s, lTup_l, lTup_t, ex_append, ex_setL, seqOf_l, seqOf_t, seqOf_c, ex_rng1, ex_rng2, frzO_v, frzO_l, frzO_d, ty_l, ty_d, ty_s, ex_map, ex_bind, ex_if, ok_nComp, ok_tYes, ok_iZip2, ok_sAug, vAddI_ii, wipe_nil, wipe_cons, Option.some.injEq, exists_eq_left', Opd.val.injEq, Val.bl.injEq, Val.int.injEq, List.getElem?_cons_zero, List.getElem?_cons_succ, List.set_cons_zero, List.set_cons_succ, Option.bind_some, id_eq, decide_eq_true_eq, Bool.not_eq_true', decide_eq_false_iff_not, List.length_cons, List.length_nil, Nat.zero_add, Nat.reduceAdd, true_and, and_true, List.zip_cons_cons, List.zip_nil_left, List.zip_nil_right, startS, List.map_cons, List.map_nil, List.cons_append, List.nil_append, Nat.reduceSub, List.replicate_succ, List.replicate_zero, List.append_nil, ↓reduceIte]
  refine take_ok hb (by omega) (by omega) fun r hp' h2 h3 hb' => ?_
  try simp only [ok_bind, ok_pure, ok_eVar, ok_eC, ok_eCls, ok_op2, ok_op1, ok_opL, ok_opN, ok_tst, ok_tNot, ok_tAnd, ok_tOr, ok_eAnd, ok_eOr, ok_eNot, ok_eIf, ok_chain, ok_aNil, ok_aCons, ok_eTup, ok_eLst, ok_nLst, ok_eFrz, ok_oNone, ok_oSome, ok_opS, ok_callV, ok_callN, ok_eCell, ok_opW, ok_opR, kthen_nx, kthen_brk, kthen_cont, kthen_ret, kthen_rtn, ok_sSeq, ok_sNil, ok_brk, ok_cont, ok_sExpr, ok_sRet, ok_sRtn, ok_sIf, ok_putV, ok_putO, ok_sSet, ok_sOwn, ok_sAsg, ok_gTup, ok_gCons, ok_gNil, ok_gSub, ok_sPar, ok_putVs0, ok_putVs1, ok_iSeq, ok_iRng, turn_nx, turn_brk, turn_cont, turn_ret, turn_rtn, ok_sFor, ok_loop0, ok_loop1, fin_nx, fin_val, fin_sl, fin_rtn, ok_runF, rd_non, rd_bl, rd_int, rd_str, rd_tup, rd_lst, rd_dct, rd_scr, rd_cls, rd_ref, rd_sl, snap_v, snap_l, snap_d, rds_nil, ex_rds, toVals_nil, toVals_cons, ex_argsOf, cur_ref, cur_sl, wr_ref, wr_sl, setV_mk, setO_mk, opdOf_v, opdOf_l, opdOf_d, vAdd_ii, vSub_ii, ex_mul, ex_div, ex_mod, ex_pow, vNeg_i, vLt_ii, vLe_ii, vGt_ii, vGe_ii, ex_eq, ex_ne, vIx_l, vIx_t, vIx_c, lAbs_i, lMin_i, lMax_i, lLen_l, lLen_t, lLen_c, lLen_s, lTup_l, lTup_t, ex_append, ex_setL, seqOf_l, seqOf_t, seqOf_c, ex_rng1, ex_rng2, frzO_v, frzO_l, frzO_d, ty_l, ty_d, ty_s, ex_map, ex_bind, ex_if, ok_nComp, ok_tYes, ok_iZip2, ok_sAug, vAddI_ii, wipe_nil, wipe_cons, Option.some.injEq, exists_eq_left', Opd.val.injEq, Val.bl.injEq, Val.int.injEq, List.getElem?_cons_zero, List.getElem?_cons_succ, List.set_cons_zero, List.set_cons_succ, Option.bind_some, id_eq, decide_eq_true_eq, Bool.not_eq_true', decide_eq_false_iff_not, List.length_cons, List.length_nil, Nat.zero_add, Nat.reduceAdd, true_and, and_true, List.zip_cons_cons, List.zip_nil_left, List.zip_nil_right, startS, List.map_cons, List.map_nil, List.cons_append, List.nil_append, Nat.reduceSub, List.replicate_succ, List.replicate_zero, List.append_nil, ↓reduceIte]
  exact at_any h2 h3 fun x hx => q x hp' hx hb'
theorem ofT_ok {i : Nat} {xs : List Val} {hp : List OV} {Q : OV → List OV → Prop} (hb : Bag i hp) (h0 : 0 < xs.length) (h1 : xs.length < 1073741824) (q : ∀ x hp', x ∈ xs → Bag i hp' → Q (.v x) hp') : FOk (F__law_of [.ref i, .tup xs] hp) Q := by
  unfold F__law_of m__law_of
  try simp only [ok_bind, ok_pure, ok_eVar, ok_eC, ok_eCls, ok_op2, ok_op1, ok_opL, ok_opN, ok_tst, ok_tNot, ok_tAnd, ok_tOr, ok_eAnd, ok_eOr, ok_eNot, ok_eIf, ok_chain, ok_aNil, ok_aCons, ok_eTup, ok_eLst, ok_nLst, ok_eFrz, ok_oNone, ok_oSome, ok_opS, ok_callV, ok_callN, ok_eCell, ok_opW, ok_opR, kthen_nx, kthen_brk, kthen_cont, kthen_ret, kthen_rtn, ok_sSeq, ok_sNil, ok_brk, ok_cont, ok_sExpr, ok_sRet, ok_sRtn, ok_sIf, ok_putV, ok_putO, ok_sSet, ok_sOwn, ok_sAsg, ok_gTup, ok_gCons, ok_gNil, ok_gSub, ok_sPar, ok_putVs0, ok_putVs1, ok_iSeq, ok_iRng, turn_nx, turn_brk, turn_cont, turn_ret, turn_rtn, ok_sFor, ok_loop0, ok_loop1, fin_nx, fin_val, fin_sl, fin_rtn, ok_runF, rd_non, rd_bl, rd_int, rd_str, rd_tup, rd_lst, rd_dct, rd_scr, rd_cls, rd_ref, rd_sl, snap_v, snap_l, snap_d, rds_nil, ex_rds, toVals_nil, toVals_cons, ex_argsOf, cur_ref, cur_sl, wr_ref, wr_sl, setV_mk, setO_mk, opdOf_v, opdOf_l, opdOf_d, vAdd_ii, vSub_ii, ex_mul, ex_div, ex_mod, ex_pow, vNeg_i, vLt_ii, vLe_ii, vGt_ii, vGe_ii, ex_eq, ex_ne, vIx_l, vIx_t, vIx_c, lAbs_i, lMin_i, lMax_i, lLen_l, lLen_t, lLen_c, lLen_s, lTup_l, lTup_t, ex_append, ex_setL, seqOf_l, seqOf_t, seqOf_c, ex_rng1, ex_rng2, frzO_v, frzO_l, frzO_d, ty_l, ty_d, ty_s, ex_map, ex_bind, ex_if, ok_nComp, ok_tYes, ok_iZip2, ok_sAug, vAddI_ii, wipe_nil, wipe_cons, Option.some.injEq, exists_eq_left', Opd.val.injEq, Val.bl.injEq, Val.int.injEq, List.getElem?_cons_zero, List.getElem?_cons_succ, List.set_cons_zero, List.set_cons_succ, Option.bind_some, id_eq, decide_eq_true_eq, Bool.not_eq_true', decide_eq_false_iff_not, List.length_cons, List.length_nil, Nat.zero_add, Nat.reduceAdd, true_and, and_true, List.zip_cons_cons, List.zip_nil_left, List.zip_nil_right, startS, List.map_cons, List.map_nil, List.cons_append, List.nil_append, Nat.reduceSub, List.replicate_succ, List.replicate_zero, List.append_nil, ↓reduceIte]
  refine take_ok hb (by omega) (by omega) fun r hp' h2 h3 hb' => ?_
  try simp only [ok_bind, ok_pure, ok_eVar, ok_eC, ok_eCls, ok_op2, ok_op1, ok_opL, ok_opN, ok_tst, ok_tNot, ok_tAnd, ok_tOr, ok_eAnd, ok_eOr, ok_eNot, ok_eIf, ok_chain, ok_aNil, ok_aCons, ok_eTup, ok_eLst, ok_nLst, ok_eFrz, ok_oNone, ok_oSome, ok_opS, ok_callV, ok_callN, ok_eCell, ok_opW, ok_opR, kthen_nx, kthen_brk, kthen_cont, kthen_ret, kthen_rtn, ok_sSeq, ok_sNil, ok_brk, ok_cont, ok_sExpr, ok_sRet, ok_sRtn, ok_sIf, ok_putV, ok_putO, ok_sSet, ok_sOwn, ok_sAsg, ok_gTup, ok_gCons, ok_gNil, ok_gSub, ok_sPar, ok_putVs0, ok_putVs1, ok_iSeq, ok_iRng, turn_nx, turn_brk, turn_cont, turn_ret, turn_rtn, ok_sFor, ok_loop0, ok_loop1, fin_nx, fin_val, fin_sl, fin_rtn, ok_runF, rd_non, rd_bl, rd_int, rd_str, rd_tup, rd_lst, rd_dct, rd_scr, rd_cls, rd_ref, rd_sl, snap_v, snap_l, snap_d, rds_nil, ex_rds, toVals_nil, toVals_cons, ex_argsOf, cur_ref, cur_sl, wr_ref, wr_sl, setV_mk, setO_mk, opdOf_v, opdOf_l, opdOf_d, vAdd_ii, vSub_ii, ex_mul, ex_div, ex_mod, ex_pow, vNeg_i, vLt_ii, vLe_ii, vGt_ii, vGe_ii, ex_eq, ex_ne, vIx_l, vIx_t, vIx_c, lAbs_i, lMin_i, lMax_i, lLen_l, lLen_t, lLen_c, lLen_s, lTup_l, lTup_t, ex_append, ex_setL, seqOf_l, seqOf_t, seqOf_c, ex_rng1, ex_rng2, frzO_v, frzO_l, frzO_d, ty_l, ty_d, ty_s, ex_map, ex_bind, ex_if, ok_nComp, ok_tYes, ok_iZip2, ok_sAug, vAddI_ii, wipe_nil, wipe_cons, Option.some.injEq, exists_eq_left', Opd.val.injEq, Val.bl.injEq, Val.int.injEq, List.getElem?_cons_zero, List.getElem?_cons_succ, List.set_cons_zero, List.set_cons_succ, Option.bind_some, id_eq, decide_eq_true_eq, Bool.not_eq_true', decide_eq_false_iff_not, List.length_cons, List.length_nil, Nat.zero_add, Nat.reduceAdd, true_and, and_true, List.zip_cons_cons, List.zip_nil_left, List.zip_nil_right, startS, List.map_cons, List.map_nil, List.cons_append, List.nil_append, Nat.reduceSub, List.replicate_succ, List.replicate_zero, List.append_nil, ↓reduceIte]
  exact at_any h2 h3 fun x hx => q x hp' hx hb'
theorem isi_int_bool {a : Int} : lIsi [.int a, .cls "bool"] = some (.bl false) := by
  show (kitB "int" "bool").map Val.bl = _
  rw [show kitB "int" "bool" = some false by decide +kernel]
  rfl
theorem mem_intsV {a : Int} {n : Nat} {x : Val} (h : x ∈ intsV a n) : ∃ k : Int, x = .int k ∧ a ≤ k ∧ k < a + n := by
  unfold intsV at h
  obtain ⟨i, hi, rfl⟩ := List.mem_map.mp h
  have := List.mem_range.mp hi
  exact ⟨_, rfl, by omega, by omega⟩
theorem dep_int {n : Nat} {a : Int} : dep n (.int a) = true := by cases n <;> rfl
theorem eqv_int {a b : Int} : eqv (.int a) (.int b) = (a == b) := by rw [eqv]
theorem vAdd_ll {xs ys : List Val} {P : Val → Prop} : (∃ z, vAdd (.lst xs) (.lst ys) = some z ∧ P z) ↔ xs.length + ys.length ≤ lim ∧ P (.lst (xs ++ ys)) := ex_if
theorem vCut_l {xs : List Val} {a b : Option Int} : vCut (.lst xs) a b = some (.lst (cutL xs a b)) := rfl
theorem vCut_t {xs : List Val} {a b : Option Int} : vCut (.tup xs) a b = some (.tup (cutL xs a b)) := rfl
theorem cutL_to {α : Type} {xs : List α} {j : Int} (h : 0 ≤ j) : cutL xs none (some j) = xs.take j.toNat := by
  obtain ⟨n, rfl⟩ : ∃ n : Nat, j = n := ⟨j.toNat, by omega⟩
  unfold cutL
  rw [HT.sIx_none, HT.sIx_nat, List.drop_zero, Nat.sub_zero, Int.toNat_natCast]
  by_cases q : n ≤ xs.length
  · rw [Nat.min_eq_left q]
  · rw [Nat.min_eq_right (by omega), List.take_of_length_le (by omega), List.take_of_length_le (by omega)]
theorem intsV_len {a : Int} {n : Nat} : (intsV a n).length = n := by simp [intsV]
end G

namespace G
open PySem PySem.Spec PyProof.Rows L2
/-! ### comprehensions of plain items -/
theorem lc_map {vs : List Nat} {g : Val → M Unit} {c : M Bool} {f : EM} {xs : List Val} {s : Stt} (I : Stt → Prop) (h0 : I s) (k : Val → Bool) (h : Val → Val)
    (hs : ∀ x ∈ xs, ∀ s, I s → Ok (g x) (s.wipe vs) fun _ s1 => Ok c s1 fun b s2 => b = k x ∧ (b = true → Ok f s2 fun o s3 => o = .val (h x) ∧ I s3) ∧ (b = false → I s2)) :
    Ok (lcLoop vs g c f xs) s fun r s' => r = (xs.filter k).map h ∧ I s' := by
  induction xs generalizing s with
  | nil => exact ok_lc0.mpr ⟨rfl, h0⟩
  | cons x xs ih =>
    rw [ok_lc1]
    have ih2 := fun {s} (h0 : I s) => ih h0 fun y hy => hs y (List.mem_cons_of_mem _ hy)
    refine (hs x List.mem_cons_self s h0).mono fun _ s1 q => q.mono fun b s2 ⟨e, q1, q2⟩ => ?_
    cases b with
    | false =>
      rw [if_neg (by decide), List.filter_cons_of_neg (by rw [← e]; decide)]
      exact ih2 (q2 rfl)
    | true =>
      rw [if_pos rfl, List.filter_cons_of_pos e.symm]
      refine (q1 rfl).mono fun o s3 ⟨e1, h3⟩ => ⟨h x, e1, (ih2 h3).mono fun r s4 ⟨e2, h4⟩ => ⟨by rw [e2]; rfl, h4⟩⟩
theorem filter_true {α : Type} {xs : List α} : xs.filter (fun _ => true) = xs := by simp
/-! ### kinds -/
def Kn (x : Val) : Prop := x.tyName.isSome = true
def isStr : Val → Bool
  | .str _ => true
  | _ => false
theorem isi_str {x : Val} (h : Kn x) : lIsi [x, .cls "str"] = some (.bl (isStr x)) := by
  have e : ∀ t, x.tyName = some t → lIsi [x, .cls "str"] = (kitB t "str").map Val.bl := fun t ht => by
    show (x.tyName.bind fun t => kitB t "str").map Val.bl = _
    rw [ht]; rfl
  unfold Kn at h
  cases x with
  | non => rw [e _ rfl, show kitB "NoneType" "str" = some false by decide +kernel]; rfl
  | bl => rw [e _ rfl, show kitB "bool" "str" = some false by decide +kernel]; rfl
  | int => rw [e _ rfl, show kitB "int" "str" = some false by decide +kernel]; rfl
  | str => rw [e _ rfl, show kitB "str" "str" = some true by decide +kernel]; rfl
  | tup => rw [e _ rfl, show kitB "tuple" "str" = some false by decide +kernel]; rfl
  | lst => rw [e _ rfl, show kitB "list" "str" = some false by decide +kernel]; rfl
  | dct => simp [Val.tyName] at h
  | ref => simp [Val.tyName] at h
  | scr => simp [Val.tyName] at h
  | cls => simp [Val.tyName] at h
theorem isi_bl_bool {a : Bool} : lIsi [.bl a, .cls "bool"] = some (.bl true) := by
  show (kitB "bool" "bool").map Val.bl = _
  rw [show kitB "bool" "bool" = some true by decide +kernel]
  rfl
theorem isi_non_bool : lIsi [.non, .cls "bool"] = some (.bl false) := by
  show (kitB "NoneType" "bool").map Val.bl = _
  rw [show kitB "NoneType" "bool" = some false by decide +kernel]
  rfl
abbrev chr (c : Nat) : Val := .str ⟨#[c]⟩
theorem seqOf_s {z : Str} : seqOf (.str z) = some (z.cps.toList.map chr) := rfl
theorem vIn_c {c : Nat} {z : Str} : vIn (chr c) (.str z) = some (.bl (decide (c ∈ z.cps.toList))) := rfl
theorem vNotIn_c {c : Nat} {z : Str} : vNotIn (chr c) (.str z) = some (.bl (!decide (c ∈ z.cps.toList))) := rfl
theorem len_cps {z : Str} : z.cps.toList.length = z.length := by simp; rfl
theorem blsOf_map : ∀ bs : List Bool, blsOf (bs.map Val.bl) = some bs
  | [] => rfl
  | b :: bs => by
    show (blsOf (bs.map Val.bl)).map (b :: ·) = _
    rw [blsOf_map bs]; rfl
/-! ### texts of some signs -/
def isOf (x : Val) (s : Str) : Bool := match x with
  | .str z => decide (1 ≤ z.length ∧ z.length ≤ 7) && z.cps.toList.all fun c => decide (c ∈ s.cps.toList)
  | _ => false
theorem lAll_map {bs : List Bool} {P : Val → Prop} : (∃ z, lAll [.lst (bs.map Val.bl)] = some z ∧ P z) ↔ P (.bl (bs.all id)) := by
  have e : lAll [.lst (bs.map Val.bl)] = some (.bl (bs.all id)) := by
    show (blsOf (bs.map Val.bl)).map _ = _
    rw [blsOf_map]; rfl
  rw [e]
  simp
theorem kn_cases {x : Val} (h : Kn x) : (∃ z, x = .str z) ∨ (isStr x = false ∧ (∀ sg, isOf x sg = false) ∧ ∀ s : Stt, s.rd (.val x) = some x) := by
  unfold Kn at h
  cases x with
  | str z => exact .inl ⟨z, rfl⟩
  | non => exact .inr ⟨rfl, fun _ => rfl, fun _ => rfl⟩
  | bl => exact .inr ⟨rfl, fun _ => rfl, fun _ => rfl⟩
  | int => exact .inr ⟨rfl, fun _ => rfl, fun _ => rfl⟩
  | tup => exact .inr ⟨rfl, fun _ => rfl, fun _ => rfl⟩
  | lst => exact .inr ⟨rfl, fun _ => rfl, fun _ => rfl⟩
  | dct => simp [Val.tyName] at h
  | ref => simp [Val.tyName] at h
  | scr => simp [Val.tyName] at h
  | cls => simp [Val.tyName] at h
theorem is_of_ok {x : Val} {sg : Str} {hp : List OV} {Q : OV → List OV → Prop} (h : Kn x) (q : Q (.v (.bl (isOf x sg))) hp) : FOk (F_is_of [x, .str sg] hp) Q := by
  unfold F_is_of m_is_of
  rcases kn_cases h with ⟨z, rfl⟩ | ⟨h1, h2, h3⟩
  · try simp only [ok_bind, ok_pure, ok_eVar, ok_eC, ok_eCls, ok_op2, ok_op1, ok_opL, ok_opN, ok_tst, ok_tNot, ok_tAnd, ok_tOr, ok_eAnd, ok_eOr, ok_eNot, ok_eIf, ok_chain, ok_aNil, ok_aCons, ok_eTup, ok_eLst, ok_nLst, ok_eFrz, ok_oNone, ok_oSome, ok_opS, ok_callV, ok_callN, ok_eCell, ok_opW, ok_opR, kthen_nx, kthen_brk, kthen_cont, kthen_ret, kthen_rtn, ok_sSeq, ok_sNil, ok_brk, ok_cont, ok_sExpr, ok_sRet, ok_sRtn, ok_sIf, ok_putV, ok_putO, ok_sSet, ok_sOwn, ok_sAsg, ok_gTup, ok_gCons, ok_gNil, ok_gSub, ok_sPar, ok_putVs0, ok_putVs1, ok_iSeq, ok_iRng, turn_nx, turn_brk, turn_cont, turn_ret, turn_rtn, ok_sFor, ok_loop0, ok_loop1, fin_nx, fin_val, fin_sl, fin_rtn, ok_runF, rd_non, rd_bl, rd_int, rd_str, rd_tup, rd_lst, rd_dct, rd_scr, rd_cls, rd_ref, rd_sl, snap_v, snap_l, snap_d, rds_nil, ex_rds, toVals_nil, toVals_cons, ex_argsOf, cur_ref, cur_sl, wr_ref, wr_sl, setV_mk, setO_mk, opdOf_v, opdOf_l, opdOf_d, vAdd_ii, vSub_ii, ex_mul, ex_div, ex_mod, ex_pow, vNeg_i, vLt_ii, vLe_ii, vGt_ii, vGe_ii, ex_eq, ex_ne, vIx_l, vIx_t, vIx_c, lAbs_i, lMin_i, lMax_i, lLen_l, lLen_t, lLen_c, lLen_s, lTup_l, lTup_t, ex_append, ex_setL, seqOf_l, seqOf_t, seqOf_c, ex_rng1, ex_rng2, frzO_v, frzO_l, frzO_d, ty_l, ty_d, ty_s, ex_map, ex_bind, ex_if, ok_nComp, ok_tYes, ok_iZip2, ok_sAug, vAddI_ii, wipe_nil, wipe_cons, Option.some.injEq, exists_eq_left', Opd.val.injEq, Val.bl.injEq, Val.int.injEq, List.getElem?_cons_zero, List.getElem?_cons_succ, List.set_cons_zero, List.set_cons_succ, Option.bind_some, id_eq, decide_eq_true_eq, Bool.not_eq_true', decide_eq_false_iff_not, List.length_cons, List.length_nil, Nat.zero_add, Nat.reduceAdd, true_and, and_true, List.zip_cons_cons, List.zip_nil_left, List.zip_nil_right, startS, List.map_cons, List.map_nil, List.cons_append, List.nil_append, Nat.reduceSub, List.replicate_succ, List.replicate_zero, List.append_nil, ↓reduceIte, isi_str h, isStr]
    have q : Q (.v (.bl (decide (1 ≤ z.length ∧ z.length ≤ 7) && z.cps.toList.all fun c => decide (c ∈ sg.cps.toList)))) hp := q
    by_cases h1 : (1 : Int) ≤ z.length
    · rw [if_pos h1]
      try simp only [ok_bind, ok_pure, ok_eVar, ok_eC, ok_eCls, ok_op2, ok_op1, ok_opL, ok_opN, ok_tst, ok_tNot, ok_tAnd, ok_tOr, ok_eAnd, ok_eOr, ok_eNot, ok_eIf, ok_chain, ok_aNil, ok_aCons, ok_eTup, ok_eLst, ok_nLst, ok_eFrz, ok_oNone, ok_oSome, ok_opS, ok_callV, ok_callN, ok_eCell, ok_opW, ok_opR, kthen_nx, kthen_brk, kthen_cont, kthen_ret, kthen_rtn, ok_sSeq, ok_sNil, ok_brk, ok_cont, ok_sExpr, ok_sRet, ok_sRtn, ok_sIf, ok_putV, ok_putO, ok_sSet, ok_sOwn, ok_sAsg, ok_gTup, ok_gCons, ok_gNil, ok_gSub, ok_sPar, ok_putVs0, ok_putVs1, ok_iSeq, ok_iRng, turn_nx, turn_brk, turn_cont, turn_ret, turn_rtn, ok_sFor, ok_loop0, ok_loop1, fin_nx, fin_val, fin_sl, fin_rtn, ok_runF, rd_non, rd_bl, rd_int, rd_str, rd_tup, rd_lst, rd_dct, rd_scr, rd_cls, rd_ref, rd_sl, snap_v, snap_l, snap_d, rds_nil, ex_rds, toVals_nil, toVals_cons, ex_argsOf, cur_ref, cur_sl, wr_ref, wr_sl, setV_mk, setO_mk, opdOf_v, opdOf_l, opdOf_d, vAdd_ii, vSub_ii, ex_mul, ex_div, ex_mod, ex_pow, vNeg_i, vLt_ii, vLe_ii, vGt_ii, vGe_ii, ex_eq, ex_ne, vIx_l, vIx_t, vIx_c, lAbs_i, lMin_i, lMax_i, lLen_l, lLen_t, lLen_c, lLen_s, lTup_l, lTup_t, ex_append, ex_setL, seqOf_l, seqOf_t, seqOf_c, ex_rng1, ex_rng2, frzO_v, frzO_l, frzO_d, ty_l, ty_d, ty_s, ex_map, ex_bind, ex_if, ok_nComp, ok_tYes, ok_iZip2, ok_sAug, vAddI_ii, wipe_nil, wipe_cons, Option.some.injEq, exists_eq_left', Opd.val.injEq, Val.bl.injEq, Val.int.injEq, List.getElem?_cons_zero, List.getElem?_cons_succ, List.set_cons_zero, List.set_cons_succ, Option.bind_some, id_eq, decide_eq_true_eq, Bool.not_eq_true', decide_eq_false_iff_not, List.length_cons, List.length_nil, Nat.zero_add, Nat.reduceAdd, true_and, and_true, List.zip_cons_cons, List.zip_nil_left, List.zip_nil_right, startS, List.map_cons, List.map_nil, List.cons_append, List.nil_append, Nat.reduceSub, List.replicate_succ, List.replicate_zero, List.append_nil, ↓reduceIte]
      by_cases h2 : (z.length : Int) ≤ 7
      · rw [if_pos h2]
        try simp only [ok_bind, ok_pure, ok_eVar, ok_eC, ok_eCls, ok_op2, ok_op1, ok_opL, ok_opN, ok_tst, ok_tNot, ok_tAnd, ok_tOr, ok_eAnd, ok_eOr, ok_eNot, ok_eIf, ok_chain, ok_aNil, ok_aCons, ok_eTup, ok_eLst, ok_nLst, ok_eFrz, ok_oNone, ok_oSome, ok_opS, ok_callV, ok_callN, ok_eCell, ok_opW, ok_opR, kthen_nx, kthen_brk, kthen_cont, kthen_ret, kthen_rtn, ok_sSeq, ok_sNil, ok_brk, ok_cont, ok_sExpr, ok_sRet, ok_sRtn, ok_sIf, ok_putV, ok_putO, ok_sSet, ok_sOwn, ok_sAsg, ok_gTup, ok_gCons, ok_gNil, ok_gSub, ok_sPar, ok_putVs0, ok_putVs1, ok_iSeq, ok_iRng, turn_nx, turn_brk, turn_cont, turn_ret, turn_rtn, ok_sFor, ok_loop0, ok_loop1, fin_nx, fin_val, fin_sl, fin_rtn, ok_runF, rd_non, rd_bl, rd_int, rd_str, rd_tup, rd_lst, rd_dct, rd_scr, rd_cls, rd_ref, rd_sl, snap_v, snap_l, snap_d, rds_nil, ex_rds, toVals_nil, toVals_cons, ex_argsOf, cur_ref, cur_sl, wr_ref, wr_sl, setV_mk, setO_mk, opdOf_v, opdOf_l, opdOf_d, vAdd_ii, vSub_ii, ex_mul, ex_div, ex_mod, ex_pow, vNeg_i, vLt_ii, vLe_ii, vGt_ii, vGe_ii, ex_eq, ex_ne, vIx_l, vIx_t, vIx_c, lAbs_i, lMin_i, lMax_i, lLen_l, lLen_t, lLen_c, lLen_s, lTup_l, lTup_t, ex_append, ex_setL, seqOf_l, seqOf_t, seqOf_c, ex_rng1, ex_rng2, frzO_v, frzO_l, frzO_d, ty_l, ty_d, ty_s, ex_map, ex_bind, ex_if, ok_nComp, ok_tYes, ok_iZip2, ok_sAug, vAddI_ii, wipe_nil, wipe_cons, Option.some.injEq, exists_eq_left', Opd.val.injEq, Val.bl.injEq, Val.int.injEq, List.getElem?_cons_zero, List.getElem?_cons_succ, List.set_cons_zero, List.set_cons_succ, Option.bind_some, id_eq, decide_eq_true_eq, Bool.not_eq_true', decide_eq_false_iff_not, List.length_cons, List.length_nil, Nat.zero_add, Nat.reduceAdd, true_and, and_true, List.zip_cons_cons, List.zip_nil_left, List.zip_nil_right, startS, List.map_cons, List.map_nil, List.cons_append, List.nil_append, Nat.reduceSub, List.replicate_succ, List.replicate_zero, List.append_nil, ↓reduceIte, seqOf_s]
        refine ⟨rfl, ?_⟩
        refine (lc_map (fun s => ∃ o, s = ⟨[some (.v (.str z)), some (.v (.str sg)), o], hp⟩) ⟨_, rfl⟩ (fun _ => true) (fun x => match x with
          | .str y => .bl (decide (y.cps.toList.headD 0 ∈ sg.cps.toList))
          | _ => .non) ?_).mono ?_
        · rintro x hx s ⟨o, rfl⟩
          obtain ⟨c, hc, rfl⟩ := List.mem_map.mp hx
          try simp only [ok_bind, ok_pure, ok_eVar, ok_eC, ok_eCls, ok_op2, ok_op1, ok_opL, ok_opN, ok_tst, ok_tNot, ok_tAnd, ok_tOr, ok_eAnd, ok_eOr, ok_eNot, ok_eIf, ok_chain, ok_aNil, ok_aCons, ok_eTup, ok_eLst, ok_nLst, ok_eFrz, ok_oNone, ok_oSome, ok_opS, ok_callV, ok_callN, ok_eCell, ok_opW, ok_opR, kthen_nx, kthen_brk, kthen_cont, kthen_ret, kthen_rtn, ok_sSeq, ok_sNil, ok_brk, ok_cont, ok_sExpr, ok_sRet, ok_sRtn, ok_sIf, ok_putV, ok_putO, ok_sSet, ok_sOwn, ok_sAsg, ok_gTup, ok_gCons, ok_gNil, ok_gSub, ok_sPar, ok_putVs0, ok_putVs1, ok_iSeq, ok_iRng, turn_nx, turn_brk, turn_cont, turn_ret, turn_rtn, ok_sFor, ok_loop0, ok_loop1, fin_nx, fin_val, fin_sl, fin_rtn, ok_runF, rd_non, rd_bl, rd_int, rd_str, rd_tup, rd_lst, rd_dct, rd_scr, rd_cls, rd_ref, rd_sl, snap_v, snap_l, snap_d, rds_nil, ex_rds, toVals_nil, toVals_cons, ex_argsOf, cur_ref, cur_sl, wr_ref, wr_sl, setV_mk, setO_mk, opdOf_v, opdOf_l, opdOf_d, vAdd_ii, vSub_ii, ex_mul, ex_div, ex_mod, ex_pow, vNeg_i, vLt_ii, vLe_ii, vGt_ii, vGe_ii, ex_eq, ex_ne, vIx_l, vIx_t, vIx_c, lAbs_i, lMin_i, lMax_i, lLen_l, lLen_t, lLen_c, lLen_s, lTup_l, lTup_t, ex_append, ex_setL, seqOf_l, seqOf_t, seqOf_c, ex_rng1, ex_rng2, frzO_v, frzO_l, frzO_d, ty_l, ty_d, ty_s, ex_map, ex_bind, ex_if, ok_nComp, ok_tYes, ok_iZip2, ok_sAug, vAddI_ii, wipe_nil, wipe_cons, Option.some.injEq, exists_eq_left', Opd.val.injEq, Val.bl.injEq, Val.int.injEq, List.getElem?_cons_zero, List.getElem?_cons_succ, List.set_cons_zero, List.set_cons_succ, Option.bind_some, id_eq, decide_eq_true_eq, Bool.not_eq_true', decide_eq_false_iff_not, List.length_cons, List.length_nil, Nat.zero_add, Nat.reduceAdd, true_and, and_true, List.zip_cons_cons, List.zip_nil_left, List.zip_nil_right, startS, List.map_cons, List.map_nil, List.cons_append, List.nil_append, Nat.reduceSub, List.replicate_succ, List.replicate_zero, List.append_nil, ↓reduceIte, vIn_c]
          exact ⟨fun _ => ⟨rfl, _, rfl⟩, fun z => by cases z⟩
        · rintro r s ⟨rfl, o, rfl⟩
          rw [filter_true, List.map_map]
          have e : (z.cps.toList.map ((fun x : Val => match x with
            | .str y => Val.bl (decide (y.cps.toList.headD 0 ∈ sg.cps.toList))
            | _ => Val.non) ∘ chr)) = (z.cps.toList.map fun c => decide (c ∈ sg.cps.toList)).map Val.bl := by
            rw [List.map_map]
            rfl
          rw [e]
          try simp only [ok_bind, ok_pure, ok_eVar, ok_eC, ok_eCls, ok_op2, ok_op1, ok_opL, ok_opN, ok_tst, ok_tNot, ok_tAnd, ok_tOr, ok_eAnd, ok_eOr, ok_eNot, ok_eIf, ok_chain, ok_aNil, ok_aCons, ok_eTup, ok_eLst, ok_nLst, ok_eFrz, ok_oNone, ok_oSome, ok_opS, ok_callV, ok_callN, ok_eCell, ok_opW, ok_opR, kthen_nx, kthen_brk, kthen_cont, kthen_ret, kthen_rtn, ok_sSeq, ok_sNil, ok_brk, ok_cont, ok_sExpr, ok_sRet, ok_sRtn, ok_sIf, ok_putV, ok_putO, ok_sSet, ok_sOwn, ok_sAsg, ok_gTup, ok_gCons, ok_gNil, ok_gSub, ok_sPar, ok_putVs0, ok_putVs1, ok_iSeq, ok_iRng, turn_nx, turn_brk, turn_cont, turn_ret, turn_rtn, ok_sFor, ok_loop0, ok_loop1, fin_nx, fin_val, fin_sl, fin_rtn, ok_runF, rd_non, rd_bl, rd_int, rd_str, rd_tup, rd_lst, rd_dct, rd_scr, rd_cls, rd_ref, rd_sl, snap_v, snap_l, snap_d, rds_nil, ex_rds, toVals_nil, toVals_cons, ex_argsOf, cur_ref, cur_sl, wr_ref, wr_sl, setV_mk, setO_mk, opdOf_v, opdOf_l, opdOf_d, vAdd_ii, vSub_ii, ex_mul, ex_div, ex_mod, ex_pow, vNeg_i, vLt_ii, vLe_ii, vGt_ii, vGe_ii, ex_eq, ex_ne, vIx_l, vIx_t, vIx_c, lAbs_i, lMin_i, lMax_i, lLen_l, lLen_t, lLen_c, lLen_s, lTup_l, lTup_t, ex_append, ex_setL, seqOf_l, seqOf_t, seqOf_c, ex_rng1, ex_rng2, frzO_v, frzO_l, frzO_d, ty_l, ty_d, ty_s, ex_map, ex_bind, ex_if, ok_nComp, ok_tYes, ok_iZip2, ok_sAug, vAddI_ii, wipe_nil, wipe_cons, Option.some.injEq, exists_eq_left', Opd.val.injEq, Val.bl.injEq, Val.int.injEq, List.getElem?_cons_zero, List.getElem?_cons_succ, List.set_cons_zero, List.set_cons_succ, Option.bind_some, id_eq, decide_eq_true_eq, Bool.not_eq_true', decide_eq_false_iff_not, List.length_cons, List.length_nil, Nat.zero_add, Nat.reduceAdd, true_and, and_true, List.zip_cons_cons, List.zip_nil_left, List.zip_nil_right, startS, List.map_cons, List.map_nil, List.cons_append, List.nil_append, Nat.reduceSub, List.replicate_succ, List.replicate_zero, List.append_nil, ↓reduceIte, lAll_map]
          refine ⟨by simp only [List.length_map, len_cps]; exact Nat.le_trans (show z.length ≤ 7 by omega) (by decide), ?_⟩
          rw [List.all_map]
          rw [decide_eq_true (show 1 ≤ z.length ∧ z.length ≤ 7 by omega), Bool.true_and] at q
          exact q
      · rw [if_neg h2]
        rw [decide_eq_false (show ¬ (1 ≤ z.length ∧ z.length ≤ 7) by omega), Bool.false_and] at q
        exact q
    · rw [if_neg h1]
      rw [decide_eq_false (show ¬ (1 ≤ z.length ∧ z.length ≤ 7) by omega), Bool.false_and] at q
      exact q
  · rw [h2] at q
    try simp only [ok_bind, ok_pure, ok_eVar, ok_eC, ok_eCls, ok_op2, ok_op1, ok_opL, ok_opN, ok_tst, ok_tNot, ok_tAnd, ok_tOr, ok_eAnd, ok_eOr, ok_eNot, ok_eIf, ok_chain, ok_aNil, ok_aCons, ok_eTup, ok_eLst, ok_nLst, ok_eFrz, ok_oNone, ok_oSome, ok_opS, ok_callV, ok_callN, ok_eCell, ok_opW, ok_opR, kthen_nx, kthen_brk, kthen_cont, kthen_ret, kthen_rtn, ok_sSeq, ok_sNil, ok_brk, ok_cont, ok_sExpr, ok_sRet, ok_sRtn, ok_sIf, ok_putV, ok_putO, ok_sSet, ok_sOwn, ok_sAsg, ok_gTup, ok_gCons, ok_gNil, ok_gSub, ok_sPar, ok_putVs0, ok_putVs1, ok_iSeq, ok_iRng, turn_nx, turn_brk, turn_cont, turn_ret, turn_rtn, ok_sFor, ok_loop0, ok_loop1, fin_nx, fin_val, fin_sl, fin_rtn, ok_runF, rd_non, rd_bl, rd_int, rd_str, rd_tup, rd_lst, rd_dct, rd_scr, rd_cls, rd_ref, rd_sl, snap_v, snap_l, snap_d, rds_nil, ex_rds, toVals_nil, toVals_cons, ex_argsOf, cur_ref, cur_sl, wr_ref, wr_sl, setV_mk, setO_mk, opdOf_v, opdOf_l, opdOf_d, vAdd_ii, vSub_ii, ex_mul, ex_div, ex_mod, ex_pow, vNeg_i, vLt_ii, vLe_ii, vGt_ii, vGe_ii, ex_eq, ex_ne, vIx_l, vIx_t, vIx_c, lAbs_i, lMin_i, lMax_i, lLen_l, lLen_t, lLen_c, lLen_s, lTup_l, lTup_t, ex_append, ex_setL, seqOf_l, seqOf_t, seqOf_c, ex_rng1, ex_rng2, frzO_v, frzO_l, frzO_d, ty_l, ty_d, ty_s, ex_map, ex_bind, ex_if, ok_nComp, ok_tYes, ok_iZip2, ok_sAug, vAddI_ii, wipe_nil, wipe_cons, Option.some.injEq, exists_eq_left', Opd.val.injEq, Val.bl.injEq, Val.int.injEq, List.getElem?_cons_zero, List.getElem?_cons_succ, List.set_cons_zero, List.set_cons_succ, Option.bind_some, id_eq, decide_eq_true_eq, Bool.not_eq_true', decide_eq_false_iff_not, List.length_cons, List.length_nil, Nat.zero_add, Nat.reduceAdd, true_and, and_true, List.zip_cons_cons, List.zip_nil_left, List.zip_nil_right, startS, List.map_cons, List.map_nil, List.cons_append, List.nil_append, Nat.reduceSub, List.replicate_succ, List.replicate_zero, List.append_nil, ↓reduceIte, isi_str h, h1, h3]
    simpa using q
theorem deps_str : ∀ {xs : List Val}, (∀ x ∈ xs, ∃ y, x = .str y) → ∀ n, deps n xs = true
  | [], _, n => by rw [deps]
  | x :: xs, h, n => by
    obtain ⟨y, rfl⟩ := h x List.mem_cons_self
    rw [deps, deps_str (fun z hz => h z (List.mem_cons_of_mem _ hz)) n, show dep n (.str y) = true by cases n <;> rfl]
    rfl
theorem dep_str {n : Nat} {y : Str} : dep n (.str y) = true := by cases n <;> rfl
theorem dep_non {n : Nat} : dep n .non = true := by cases n <;> rfl
theorem dep_bl {n : Nat} {b : Bool} : dep n (.bl b) = true := by cases n <;> rfl
theorem eqv_nil : ∀ r : List Val, eqv (.lst r) (.lst []) = r.isEmpty
  | [] => by rw [eqv, eqvs]; rfl
  | x :: r => by rw [eqv, eqvs] <;> simp
theorem filter_empty {sg : List Nat} : ∀ l : List Nat, ((l.filter fun c => !decide (c ∈ sg)).map chr).isEmpty = l.all fun c => decide (c ∈ sg)
  | [] => rfl
  | c :: l => by
    rw [List.all_cons]
    by_cases h : c ∈ sg
    · rw [List.filter_cons_of_neg (by simp [h]), decide_eq_true h, Bool.true_and]
      exact filter_empty l
    · rw [List.filter_cons_of_pos (by simp [h]), decide_eq_false h, Bool.false_and]
      rfl
theorem law_is_of_ok {x : Val} {sg : Str} {hp : List OV} {Q : OV → List OV → Prop} (h : Kn x) (q : Q (.v (.bl (isOf x sg))) hp) : FOk (F__law_is_of [x, .str sg] hp) Q := by
  unfold F__law_is_of m__law_is_of
  rcases kn_cases h with ⟨z, rfl⟩ | ⟨h1, h2, h3⟩
  · try simp only [ok_bind, ok_pure, ok_eVar, ok_eC, ok_eCls, ok_op2, ok_op1, ok_opL, ok_opN, ok_tst, ok_tNot, ok_tAnd, ok_tOr, ok_eAnd, ok_eOr, ok_eNot, ok_eIf, ok_chain, ok_aNil, ok_aCons, ok_eTup, ok_eLst, ok_nLst, ok_eFrz, ok_oNone, ok_oSome, ok_opS, ok_callV, ok_callN, ok_eCell, ok_opW, ok_opR, kthen_nx, kthen_brk, kthen_cont, kthen_ret, kthen_rtn, ok_sSeq, ok_sNil, ok_brk, ok_cont, ok_sExpr, ok_sRet, ok_sRtn, ok_sIf, ok_putV, ok_putO, ok_sSet, ok_sOwn, ok_sAsg, ok_gTup, ok_gCons, ok_gNil, ok_gSub, ok_sPar, ok_putVs0, ok_putVs1, ok_iSeq, ok_iRng, turn_nx, turn_brk, turn_cont, turn_ret, turn_rtn, ok_sFor, ok_loop0, ok_loop1, fin_nx, fin_val, fin_sl, fin_rtn, ok_runF, rd_non, rd_bl, rd_int, rd_str, rd_tup, rd_lst, rd_dct, rd_scr, rd_cls, rd_ref, rd_sl, snap_v, snap_l, snap_d, rds_nil, ex_rds, toVals_nil, toVals_cons, ex_argsOf, cur_ref, cur_sl, wr_ref, wr_sl, setV_mk, setO_mk, opdOf_v, opdOf_l, opdOf_d, vAdd_ii, vSub_ii, ex_mul, ex_div, ex_mod, ex_pow, vNeg_i, vLt_ii, vLe_ii, vGt_ii, vGe_ii, ex_eq, ex_ne, vIx_l, vIx_t, vIx_c, lAbs_i, lMin_i, lMax_i, lLen_l, lLen_t, lLen_c, lLen_s, lTup_l, lTup_t, ex_append, ex_setL, seqOf_l, seqOf_t, seqOf_c, ex_rng1, ex_rng2, frzO_v, frzO_l, frzO_d, ty_l, ty_d, ty_s, ex_map, ex_bind, ex_if, ok_nComp, ok_tYes, ok_iZip2, ok_sAug, vAddI_ii, wipe_nil, wipe_cons, Option.some.injEq, exists_eq_left', Opd.val.injEq, Val.bl.injEq, Val.int.injEq, List.getElem?_cons_zero, List.getElem?_cons_succ, List.set_cons_zero, List.set_cons_succ, Option.bind_some, id_eq, decide_eq_true_eq, Bool.not_eq_true', decide_eq_false_iff_not, List.length_cons, List.length_nil, Nat.zero_add, Nat.reduceAdd, true_and, and_true, List.zip_cons_cons, List.zip_nil_left, List.zip_nil_right, startS, List.map_cons, List.map_nil, List.cons_append, List.nil_append, Nat.reduceSub, List.replicate_succ, List.replicate_zero, List.append_nil, ↓reduceIte, isi_str h, isStr]
    have q : Q (.v (.bl (decide (1 ≤ z.length ∧ z.length ≤ 7) && z.cps.toList.all fun c => decide (c ∈ sg.cps.toList)))) hp := q
    rw [if_neg (by decide)]
    by_cases h1 : (1 : Int) ≤ z.length
    · rw [if_pos h1]
      by_cases h2 : (z.length : Int) ≤ 7
      · rw [if_neg (by simpa using h2)]
        try simp only [ok_bind, ok_pure, ok_eVar, ok_eC, ok_eCls, ok_op2, ok_op1, ok_opL, ok_opN, ok_tst, ok_tNot, ok_tAnd, ok_tOr, ok_eAnd, ok_eOr, ok_eNot, ok_eIf, ok_chain, ok_aNil, ok_aCons, ok_eTup, ok_eLst, ok_nLst, ok_eFrz, ok_oNone, ok_oSome, ok_opS, ok_callV, ok_callN, ok_eCell, ok_opW, ok_opR, kthen_nx, kthen_brk, kthen_cont, kthen_ret, kthen_rtn, ok_sSeq, ok_sNil, ok_brk, ok_cont, ok_sExpr, ok_sRet, ok_sRtn, ok_sIf, ok_putV, ok_putO, ok_sSet, ok_sOwn, ok_sAsg, ok_gTup, ok_gCons, ok_gNil, ok_gSub, ok_sPar, ok_putVs0, ok_putVs1, ok_iSeq, ok_iRng, turn_nx, turn_brk, turn_cont, turn_ret, turn_rtn, ok_sFor, ok_loop0, ok_loop1, fin_nx, fin_val, fin_sl, fin_rtn, ok_runF, rd_non, rd_bl, rd_int, rd_str, rd_tup, rd_lst, rd_dct, rd_scr, rd_cls, rd_ref, rd_sl, snap_v, snap_l, snap_d, rds_nil, ex_rds, toVals_nil, toVals_cons, ex_argsOf, cur_ref, cur_sl, wr_ref, wr_sl, setV_mk, setO_mk, opdOf_v, opdOf_l, opdOf_d, vAdd_ii, vSub_ii, ex_mul, ex_div, ex_mod, ex_pow, vNeg_i, vLt_ii, vLe_ii, vGt_ii, vGe_ii, ex_eq, ex_ne, vIx_l, vIx_t, vIx_c, lAbs_i, lMin_i, lMax_i, lLen_l, lLen_t, lLen_c, lLen_s, lTup_l, lTup_t, ex_append, ex_setL, seqOf_l, seqOf_t, seqOf_c, ex_rng1, ex_rng2, frzO_v, frzO_l, frzO_d, ty_l, ty_d, ty_s, ex_map, ex_bind, ex_if, ok_nComp, ok_tYes, ok_iZip2, ok_sAug, vAddI_ii, wipe_nil, wipe_cons, Option.some.injEq, exists_eq_left', Opd.val.injEq, Val.bl.injEq, Val.int.injEq, List.getElem?_cons_zero, List.getElem?_cons_succ, List.set_cons_zero, List.set_cons_succ, Option.bind_some, id_eq, decide_eq_true_eq, Bool.not_eq_true', decide_eq_false_iff_not, List.length_cons, List.length_nil, Nat.zero_add, Nat.reduceAdd, true_and, and_true, List.zip_cons_cons, List.zip_nil_left, List.zip_nil_right, startS, List.map_cons, List.map_nil, List.cons_append, List.nil_append, Nat.reduceSub, List.replicate_succ, List.replicate_zero, List.append_nil, ↓reduceIte, seqOf_s]
        refine ⟨rfl, ?_⟩
        refine (lc_map (fun s => ∃ o, s = ⟨[some (.v (.str z)), some (.v (.str sg)), o], hp⟩) ⟨_, rfl⟩ (fun x => match x with
          | .str y => !decide (y.cps.toList.headD 0 ∈ sg.cps.toList)
          | _ => false) (fun x => x) ?_).mono ?_
        · rintro x hx s ⟨o, rfl⟩
          obtain ⟨c, hc, rfl⟩ := List.mem_map.mp hx
          try simp only [ok_bind, ok_pure, ok_eVar, ok_eC, ok_eCls, ok_op2, ok_op1, ok_opL, ok_opN, ok_tst, ok_tNot, ok_tAnd, ok_tOr, ok_eAnd, ok_eOr, ok_eNot, ok_eIf, ok_chain, ok_aNil, ok_aCons, ok_eTup, ok_eLst, ok_nLst, ok_eFrz, ok_oNone, ok_oSome, ok_opS, ok_callV, ok_callN, ok_eCell, ok_opW, ok_opR, kthen_nx, kthen_brk, kthen_cont, kthen_ret, kthen_rtn, ok_sSeq, ok_sNil, ok_brk, ok_cont, ok_sExpr, ok_sRet, ok_sRtn, ok_sIf, ok_putV, ok_putO, ok_sSet, ok_sOwn, ok_sAsg, ok_gTup, ok_gCons, ok_gNil, ok_gSub, ok_sPar, ok_putVs0, ok_putVs1, ok_iSeq, ok_iRng, turn_nx, turn_brk, turn_cont, turn_ret, turn_rtn, ok_sFor, ok_loop0, ok_loop1, fin_nx, fin_val, fin_sl, fin_rtn, ok_runF, rd_non, rd_bl, rd_int, rd_str, rd_tup, rd_lst, rd_dct, rd_scr, rd_cls, rd_ref, rd_sl, snap_v, snap_l, snap_d, rds_nil, ex_rds, toVals_nil, toVals_cons, ex_argsOf, cur_ref, cur_sl, wr_ref, wr_sl, setV_mk, setO_mk, opdOf_v, opdOf_l, opdOf_d, vAdd_ii, vSub_ii, ex_mul, ex_div, ex_mod, ex_pow, vNeg_i, vLt_ii, vLe_ii, vGt_ii, vGe_ii, ex_eq, ex_ne, vIx_l, vIx_t, vIx_c, lAbs_i, lMin_i, lMax_i, lLen_l, lLen_t, lLen_c, lLen_s, lTup_l, lTup_t, ex_append, ex_setL, seqOf_l, seqOf_t, seqOf_c, ex_rng1, ex_rng2, frzO_v, frzO_l, frzO_d, ty_l, ty_d, ty_s, ex_map, ex_bind, ex_if, ok_nComp, ok_tYes, ok_iZip2, ok_sAug, vAddI_ii, wipe_nil, wipe_cons, Option.some.injEq, exists_eq_left', Opd.val.injEq, Val.bl.injEq, Val.int.injEq, List.getElem?_cons_zero, List.getElem?_cons_succ, List.set_cons_zero, List.set_cons_succ, Option.bind_some, id_eq, decide_eq_true_eq, Bool.not_eq_true', decide_eq_false_iff_not, List.length_cons, List.length_nil, Nat.zero_add, Nat.reduceAdd, true_and, and_true, List.zip_cons_cons, List.zip_nil_left, List.zip_nil_right, startS, List.map_cons, List.map_nil, List.cons_append, List.nil_append, Nat.reduceSub, List.replicate_succ, List.replicate_zero, List.append_nil, ↓reduceIte, vNotIn_c]
          exact ⟨rfl, fun _ => ⟨_, rfl⟩, fun _ => ⟨_, rfl⟩⟩
        · rintro r s ⟨rfl, o, rfl⟩
          rw [List.map_id', List.filter_map]
          have hl : ((z.cps.toList.filter ((fun x : Val => match x with
            | .str y => !decide (y.cps.toList.headD 0 ∈ sg.cps.toList)
            | _ => false) ∘ chr)).map chr) = (z.cps.toList.filter fun c => !decide (c ∈ sg.cps.toList)).map chr := rfl
          rw [hl]
          have d1 : dep 20 (.lst ((z.cps.toList.filter fun c => !decide (c ∈ sg.cps.toList)).map chr)) = true := by
            rw [dep]
            exact deps_str (fun x hx => by obtain ⟨c, _, rfl⟩ := List.mem_map.mp hx; exact ⟨_, rfl⟩) _
          refine ⟨rfl, ?_, by decide, by rw [d1]; rfl, ?_⟩
          · rw [List.length_map]
            refine Nat.le_trans (List.length_filter_le _ _) ?_
            rw [len_cps]
            exact Nat.le_trans (show z.length ≤ 7 by omega) (by decide)
          · rw [decide_eq_true (show 1 ≤ z.length ∧ z.length ≤ 7 by omega), Bool.true_and] at q
            rw [eqv_nil, filter_empty]
            exact q
      · rw [if_pos (by simpa using h2)]
        rw [decide_eq_false (show ¬ (1 ≤ z.length ∧ z.length ≤ 7) by omega), Bool.false_and] at q
        exact q
    · rw [if_neg h1]
      rw [decide_eq_false (show ¬ (1 ≤ z.length ∧ z.length ≤ 7) by omega), Bool.false_and] at q
      exact q
  · rw [h2] at q
    try simp only [ok_bind, ok_pure, ok_eVar, ok_eC, ok_eCls, ok_op2, ok_op1, ok_opL, ok_opN, ok_tst, ok_tNot, ok_tAnd, ok_tOr, ok_eAnd, ok_eOr, ok_eNot, ok_eIf, ok_chain, ok_aNil, ok_aCons, ok_eTup, ok_eLst, ok_nLst, ok_eFrz, ok_oNone, ok_oSome, ok_opS, ok_callV, ok_callN, ok_eCell, ok_opW, ok_opR, kthen_nx, kthen_brk, kthen_cont, kthen_ret, kthen_rtn, ok_sSeq, ok_sNil, ok_brk, ok_cont, ok_sExpr, ok_sRet, ok_sRtn, ok_sIf, ok_putV, ok_putO, ok_sSet, ok_sOwn, ok_sAsg, ok_gTup, ok_gCons, ok_gNil, ok_gSub, ok_sPar, ok_putVs0, ok_putVs1, ok_iSeq, ok_iRng, turn_nx, turn_brk, turn_cont, turn_ret, turn_rtn, ok_sFor, ok_loop0, ok_loop1, fin_nx, fin_val, fin_sl, fin_rtn, ok_runF, rd_non, rd_bl, rd_int, rd_str, rd_tup, rd_lst, rd_dct, rd_scr, rd_cls, rd_ref, rd_sl, snap_v, snap_l, snap_d, rds_nil, ex_rds, toVals_nil, toVals_cons, ex_argsOf, cur_ref, cur_sl, wr_ref, wr_sl, setV_mk, setO_mk, opdOf_v, opdOf_l, opdOf_d, vAdd_ii, vSub_ii, ex_mul, ex_div, ex_mod, ex_pow, vNeg_i, vLt_ii, vLe_ii, vGt_ii, vGe_ii, ex_eq, ex_ne, vIx_l, vIx_t, vIx_c, lAbs_i, lMin_i, lMax_i, lLen_l, lLen_t, lLen_c, lLen_s, lTup_l, lTup_t, ex_append, ex_setL, seqOf_l, seqOf_t, seqOf_c, ex_rng1, ex_rng2, frzO_v, frzO_l, frzO_d, ty_l, ty_d, ty_s, ex_map, ex_bind, ex_if, ok_nComp, ok_tYes, ok_iZip2, ok_sAug, vAddI_ii, wipe_nil, wipe_cons, Option.some.injEq, exists_eq_left', Opd.val.injEq, Val.bl.injEq, Val.int.injEq, List.getElem?_cons_zero, List.getElem?_cons_succ, List.set_cons_zero, List.set_cons_succ, Option.bind_some, id_eq, decide_eq_true_eq, Bool.not_eq_true', decide_eq_false_iff_not, List.length_cons, List.length_nil, Nat.zero_add, Nat.reduceAdd, true_and, and_true, List.zip_cons_cons, List.zip_nil_left, List.zip_nil_right, startS, List.map_cons, List.map_nil, List.cons_append, List.nil_append, Nat.reduceSub, List.replicate_succ, List.replicate_zero, List.append_nil, ↓reduceIte, isi_str h, h1, h3]
    exact q
/-! ### doubt -/
def dsum : List Nat → List Nat → Int
  | c :: l, d :: m => (if c = d then 0 else if c = 63 ∨ d = 63 then 2 else 9) + dsum l m
  | _, _ => 0
def dV (a b : List Nat) : Val := if a.length = b.length then (if dsum a b ≤ 20 then .int (dsum a b) else .non) else .non
theorem zip_chr : ∀ {a b : List Nat}, zipV (a.map chr) (b.map chr) = (a.zip b).map fun p => .tup [chr p.1, chr p.2]
  | [], _ => rfl
  | _ :: _, [] => rfl
  | x :: a, y :: b => by
    show Val.tup [chr x, chr y] :: zipV (a.map chr) (b.map chr) = _
    rw [zip_chr]
    rfl
theorem eqv_chr {c d : Nat} : eqv (chr c) (chr d) = decide (c = d) := by
  rw [eqv]
  by_cases h : c = d
  · subst h; simp
  · rw [decide_eq_false h]
    rw [beq_eq_false_iff_ne]
    intro e
    apply h
    have := congrArg (fun s : Str => s.cps.toList) e
    simpa using this
theorem q63 : (("?" : Str)) = ⟨#[63]⟩ := by decide +kernel
theorem vIn_q {c d : Nat} {P : Val → Prop} : (∃ z, vIn (chr 63) (.tup [chr c, chr d]) = some z ∧ P z) ↔ P (.bl (decide (c = 63 ∨ d = 63))) := by
  have e : vIn (chr 63) (.tup [chr c, chr d]) = some (.bl (decide (c = 63 ∨ d = 63))) := by
    have e0 : vIn0 (chr 63) (.tup [chr c, chr d]) = (if dep 20 (chr 63) && deps 20 [chr c, chr d] then some ([chr c, chr d].any fun y => eqv y (chr 63)) else none) := rfl
    show (vIn0 _ _).map Val.bl = _
    rw [e0, dep_str, deps_str (fun x hx => by simp at hx; rcases hx with h | h <;> exact ⟨_, h⟩), Bool.and_self, if_pos rfl]
    simp only [List.any_cons, List.any_nil, Bool.or_false, eqv_chr]
    by_cases h1 : c = 63 <;> by_cases h2 : d = 63 <;> simp [h1, h2]
  rw [e]
  simp
theorem doubt_ok {x y : Str} {hp : List OV} {Q : OV → List OV → Prop} (hl : x.length ≤ 100000) (q : Q (.v (dV x.cps.toList y.cps.toList)) hp) : FOk (F_doubt [.str x, .str y] hp) Q := by
  unfold F_doubt m_doubt
  try simp only [ok_bind, ok_pure, ok_eVar, ok_eC, ok_eCls, ok_op2, ok_op1, ok_opL, ok_opN, ok_tst, ok_tNot, ok_tAnd, ok_tOr, ok_eAnd, ok_eOr, ok_eNot, ok_eIf, ok_chain, ok_aNil, ok_aCons, ok_eTup, ok_eLst, ok_nLst, ok_eFrz, ok_oNone, ok_oSome, ok_opS, ok_callV, ok_callN, ok_eCell, ok_opW, ok_opR, kthen_nx, kthen_brk, kthen_cont, kthen_ret, kthen_rtn, ok_sSeq, ok_sNil, ok_brk, ok_cont, ok_sExpr, ok_sRet, ok_sRtn, ok_sIf, ok_putV, ok_putO, ok_sSet, ok_sOwn, ok_sAsg, ok_gTup, ok_gCons, ok_gNil, ok_gSub, ok_sPar, ok_putVs0, ok_putVs1, ok_iSeq, ok_iRng, turn_nx, turn_brk, turn_cont, turn_ret, turn_rtn, ok_sFor, ok_loop0, ok_loop1, fin_nx, fin_val, fin_sl, fin_rtn, ok_runF, rd_non, rd_bl, rd_int, rd_str, rd_tup, rd_lst, rd_dct, rd_scr, rd_cls, rd_ref, rd_sl, snap_v, snap_l, snap_d, rds_nil, ex_rds, toVals_nil, toVals_cons, ex_argsOf, cur_ref, cur_sl, wr_ref, wr_sl, setV_mk, setO_mk, opdOf_v, opdOf_l, opdOf_d, vAdd_ii, vSub_ii, ex_mul, ex_div, ex_mod, ex_pow, vNeg_i, vLt_ii, vLe_ii, vGt_ii, vGe_ii, ex_eq, ex_ne, vIx_l, vIx_t, vIx_c, lAbs_i, lMin_i, lMax_i, lLen_l, lLen_t, lLen_c, lLen_s, lTup_l, lTup_t, ex_append, ex_setL, seqOf_l, seqOf_t, seqOf_c, ex_rng1, ex_rng2, frzO_v, frzO_l, frzO_d, ty_l, ty_d, ty_s, ex_map, ex_bind, ex_if, ok_nComp, ok_tYes, ok_iZip2, ok_sAug, vAddI_ii, wipe_nil, wipe_cons, Option.some.injEq, exists_eq_left', Opd.val.injEq, Val.bl.injEq, Val.int.injEq, List.getElem?_cons_zero, List.getElem?_cons_succ, List.set_cons_zero, List.set_cons_succ, Option.bind_some, id_eq, decide_eq_true_eq, Bool.not_eq_true', decide_eq_false_iff_not, List.length_cons, List.length_nil, Nat.zero_add, Nat.reduceAdd, true_and, and_true, List.zip_cons_cons, List.zip_nil_left, List.zip_nil_right, startS, List.map_cons, List.map_nil, List.cons_append, List.nil_append, Nat.reduceSub, List.replicate_succ, List.replicate_zero, List.append_nil, ↓reduceIte, dep_int, eqv_int]
  refine ⟨rfl, ?_⟩
  by_cases e : x.length = y.length
  · rw [if_neg (by simp [e])]
    refine ⟨_, _, rfl, _, seqOf_s, _, seqOf_s, ?_⟩
    rw [zip_chr]
    refine ok_loop (fun xs s => ∃ (l : List (Nat × Nat)) (f : Int) (o3 o4 : Option OV), xs = l.map (fun p => Val.tup [chr p.1, chr p.2]) ∧ s = ⟨[some (.v (.str x)), some (.v (.str y)), some (.v (.int f)), o3, o4], hp⟩ ∧ f + dsum (l.map (·.1)) (l.map (·.2)) = dsum x.cps.toList y.cps.toList) ?_ ?_ ?_
    · refine ⟨_, 0, _, _, rfl, rfl, ?_⟩
      have h1 : (x.cps.toList.zip y.cps.toList).map (·.1) = x.cps.toList := by
        rw [List.map_fst_zip]; rw [len_cps, len_cps]; omega
      have h2 : (x.cps.toList.zip y.cps.toList).map (·.2) = y.cps.toList := by
        rw [List.map_snd_zip]; rw [len_cps, len_cps]; omega
      rw [h1, h2]; omega
    · rintro v xs s ⟨l, f, o3, o4, e1, rfl, hf⟩
      cases l with
      | nil => simp at e1
      | cons p l =>
        rw [List.map_cons, List.cons.injEq] at e1
        obtain ⟨rfl, rfl⟩ := e1
        obtain ⟨c, d⟩ := p
        try simp only [ok_bind, ok_pure, ok_eVar, ok_eC, ok_eCls, ok_op2, ok_op1, ok_opL, ok_opN, ok_tst, ok_tNot, ok_tAnd, ok_tOr, ok_eAnd, ok_eOr, ok_eNot, ok_eIf, ok_chain, ok_aNil, ok_aCons, ok_eTup, ok_eLst, ok_nLst, ok_eFrz, ok_oNone, ok_oSome, ok_opS, ok_callV, ok_callN, ok_eCell, ok_opW, ok_opR, kthen_nx, kthen_brk, kthen_cont, kthen_ret, kthen_rtn, ok_sSeq, ok_sNil, ok_brk, ok_cont, ok_sExpr, ok_sRet, ok_sRtn, ok_sIf, ok_putV, ok_putO, ok_sSet, ok_sOwn, ok_sAsg, ok_gTup, ok_gCons, ok_gNil, ok_gSub, ok_sPar, ok_putVs0, ok_putVs1, ok_iSeq, ok_iRng, turn_nx, turn_brk, turn_cont, turn_ret, turn_rtn, ok_sFor, ok_loop0, ok_loop1, fin_nx, fin_val, fin_sl, fin_rtn, ok_runF, rd_non, rd_bl, rd_int, rd_str, rd_tup, rd_lst, rd_dct, rd_scr, rd_cls, rd_ref, rd_sl, snap_v, snap_l, snap_d, rds_nil, ex_rds, toVals_nil, toVals_cons, ex_argsOf, cur_ref, cur_sl, wr_ref, wr_sl, setV_mk, setO_mk, opdOf_v, opdOf_l, opdOf_d, vAdd_ii, vSub_ii, ex_mul, ex_div, ex_mod, ex_pow, vNeg_i, vLt_ii, vLe_ii, vGt_ii, vGe_ii, ex_eq, ex_ne, vIx_l, vIx_t, vIx_c, lAbs_i, lMin_i, lMax_i, lLen_l, lLen_t, lLen_c, lLen_s, lTup_l, lTup_t, ex_append, ex_setL, seqOf_l, seqOf_t, seqOf_c, ex_rng1, ex_rng2, frzO_v, frzO_l, frzO_d, ty_l, ty_d, ty_s, ex_map, ex_bind, ex_if, ok_nComp, ok_tYes, ok_iZip2, ok_sAug, vAddI_ii, wipe_nil, wipe_cons, Option.some.injEq, exists_eq_left', Opd.val.injEq, Val.bl.injEq, Val.int.injEq, List.getElem?_cons_zero, List.getElem?_cons_succ, List.set_cons_zero, List.set_cons_succ, Option.bind_some, id_eq, decide_eq_true_eq, Bool.not_eq_true', decide_eq_false_iff_not, List.length_cons, List.length_nil, Nat.zero_add, Nat.reduceAdd, true_and, and_true, List.zip_cons_cons, List.zip_nil_left, List.zip_nil_right, startS, List.map_cons, List.map_nil, List.cons_append, List.nil_append, Nat.reduceSub, List.replicate_succ, List.replicate_zero, List.append_nil, ↓reduceIte, dep_str, eqv_chr]
        refine ⟨rfl, ?_⟩
        have hd : dsum (((c, d) :: l).map (·.1)) (((c, d) :: l).map (·.2)) = (if c = d then 0 else if c = 63 ∨ d = 63 then 2 else 9) + dsum (l.map (·.1)) (l.map (·.2)) := rfl
        rw [hd] at hf
        by_cases hc : c = d
        · rw [if_neg (by simp [hc])]
          try simp only [ok_bind, ok_pure, ok_eVar, ok_eC, ok_eCls, ok_op2, ok_op1, ok_opL, ok_opN, ok_tst, ok_tNot, ok_tAnd, ok_tOr, ok_eAnd, ok_eOr, ok_eNot, ok_eIf, ok_chain, ok_aNil, ok_aCons, ok_eTup, ok_eLst, ok_nLst, ok_eFrz, ok_oNone, ok_oSome, ok_opS, ok_callV, ok_callN, ok_eCell, ok_opW, ok_opR, kthen_nx, kthen_brk, kthen_cont, kthen_ret, kthen_rtn, ok_sSeq, ok_sNil, ok_brk, ok_cont, ok_sExpr, ok_sRet, ok_sRtn, ok_sIf, ok_putV, ok_putO, ok_sSet, ok_sOwn, ok_sAsg, ok_gTup, ok_gCons, ok_gNil, ok_gSub, ok_sPar, ok_putVs0, ok_putVs1, ok_iSeq, ok_iRng, turn_nx, turn_brk, turn_cont, turn_ret, turn_rtn, ok_sFor, ok_loop0, ok_loop1, fin_nx, fin_val, fin_sl, fin_rtn, ok_runF, rd_non, rd_bl, rd_int, rd_str, rd_tup, rd_lst, rd_dct, rd_scr, rd_cls, rd_ref, rd_sl, snap_v, snap_l, snap_d, rds_nil, ex_rds, toVals_nil, toVals_cons, ex_argsOf, cur_ref, cur_sl, wr_ref, wr_sl, setV_mk, setO_mk, opdOf_v, opdOf_l, opdOf_d, vAdd_ii, vSub_ii, ex_mul, ex_div, ex_mod, ex_pow, vNeg_i, vLt_ii, vLe_ii, vGt_ii, vGe_ii, ex_eq, ex_ne, vIx_l, vIx_t, vIx_c, lAbs_i, lMin_i, lMax_i, lLen_l, lLen_t, lLen_c, lLen_s, lTup_l, lTup_t, ex_append, ex_setL, seqOf_l, seqOf_t, seqOf_c, ex_rng1, ex_rng2, frzO_v, frzO_l, frzO_d, ty_l, ty_d, ty_s, ex_map, ex_bind, ex_if, ok_nComp, ok_tYes, ok_iZip2, ok_sAug, vAddI_ii, wipe_nil, wipe_cons, Option.some.injEq, exists_eq_left', Opd.val.injEq, Val.bl.injEq, Val.int.injEq, List.getElem?_cons_zero, List.getElem?_cons_succ, List.set_cons_zero, List.set_cons_succ, Option.bind_some, id_eq, decide_eq_true_eq, Bool.not_eq_true', decide_eq_false_iff_not, List.length_cons, List.length_nil, Nat.zero_add, Nat.reduceAdd, true_and, and_true, List.zip_cons_cons, List.zip_nil_left, List.zip_nil_right, startS, List.map_cons, List.map_nil, List.cons_append, List.nil_append, Nat.reduceSub, List.replicate_succ, List.replicate_zero, List.append_nil, ↓reduceIte]
          rw [if_pos hc] at hf
          exact ⟨l, f, _, _, rfl, rfl, by omega⟩
        · rw [if_pos (by simp [hc])]
          rw [if_neg hc] at hf
          try simp only [ok_bind, ok_pure, ok_eVar, ok_eC, ok_eCls, ok_op2, ok_op1, ok_opL, ok_opN, ok_tst, ok_tNot, ok_tAnd, ok_tOr, ok_eAnd, ok_eOr, ok_eNot, ok_eIf, ok_chain, ok_aNil, ok_aCons, ok_eTup, ok_eLst, ok_nLst, ok_eFrz, ok_oNone, ok_oSome, ok_opS, ok_callV, ok_callN, ok_eCell, ok_opW, ok_opR, kthen_nx, kthen_brk, kthen_cont, kthen_ret, kthen_rtn, ok_sSeq, ok_sNil, ok_brk, ok_cont, ok_sExpr, ok_sRet, ok_sRtn, ok_sIf, ok_putV, ok_putO, ok_sSet, ok_sOwn, ok_sAsg, ok_gTup, ok_gCons, ok_gNil, ok_gSub, ok_sPar, ok_putVs0, ok_putVs1, ok_iSeq, ok_iRng, turn_nx, turn_brk, turn_cont, turn_ret, turn_rtn, ok_sFor, ok_loop0, ok_loop1, fin_nx, fin_val, fin_sl, fin_rtn, ok_runF, rd_non, rd_bl, rd_int, rd_str, rd_tup, rd_lst, rd_dct, rd_scr, rd_cls, rd_ref, rd_sl, snap_v, snap_l, snap_d, rds_nil, ex_rds, toVals_nil, toVals_cons, ex_argsOf, cur_ref, cur_sl, wr_ref, wr_sl, setV_mk, setO_mk, opdOf_v, opdOf_l, opdOf_d, vAdd_ii, vSub_ii, ex_mul, ex_div, ex_mod, ex_pow, vNeg_i, vLt_ii, vLe_ii, vGt_ii, vGe_ii, ex_eq, ex_ne, vIx_l, vIx_t, vIx_c, lAbs_i, lMin_i, lMax_i, lLen_l, lLen_t, lLen_c, lLen_s, lTup_l, lTup_t, ex_append, ex_setL, seqOf_l, seqOf_t, seqOf_c, ex_rng1, ex_rng2, frzO_v, frzO_l, frzO_d, ty_l, ty_d, ty_s, ex_map, ex_bind, ex_if, ok_nComp, ok_tYes, ok_iZip2, ok_sAug, vAddI_ii, wipe_nil, wipe_cons, Option.some.injEq, exists_eq_left', Opd.val.injEq, Val.bl.injEq, Val.int.injEq, List.getElem?_cons_zero, List.getElem?_cons_succ, List.set_cons_zero, List.set_cons_succ, Option.bind_some, id_eq, decide_eq_true_eq, Bool.not_eq_true', decide_eq_false_iff_not, List.length_cons, List.length_nil, Nat.zero_add, Nat.reduceAdd, true_and, and_true, List.zip_cons_cons, List.zip_nil_left, List.zip_nil_right, startS, List.map_cons, List.map_nil, List.cons_append, List.nil_append, Nat.reduceSub, List.replicate_succ, List.replicate_zero, List.append_nil, ↓reduceIte, q63]
          refine ⟨by decide, ?_⟩
          rw [vIn_q]
          by_cases h63 : c = 63 ∨ d = 63
          · rw [if_pos h63] at hf
            try simp only [ok_bind, ok_pure, ok_eVar, ok_eC, ok_eCls, ok_op2, ok_op1, ok_opL, ok_opN, ok_tst, ok_tNot, ok_tAnd, ok_tOr, ok_eAnd, ok_eOr, ok_eNot, ok_eIf, ok_chain, ok_aNil, ok_aCons, ok_eTup, ok_eLst, ok_nLst, ok_eFrz, ok_oNone, ok_oSome, ok_opS, ok_callV, ok_callN, ok_eCell, ok_opW, ok_opR, kthen_nx, kthen_brk, kthen_cont, kthen_ret, kthen_rtn, ok_sSeq, ok_sNil, ok_brk, ok_cont, ok_sExpr, ok_sRet, ok_sRtn, ok_sIf, ok_putV, ok_putO, ok_sSet, ok_sOwn, ok_sAsg, ok_gTup, ok_gCons, ok_gNil, ok_gSub, ok_sPar, ok_putVs0, ok_putVs1, ok_iSeq, ok_iRng, turn_nx, turn_brk, turn_cont, turn_ret, turn_rtn, ok_sFor, ok_loop0, ok_loop1, fin_nx, fin_val, fin_sl, fin_rtn, ok_runF, rd_non, rd_bl, rd_int, rd_str, rd_tup, rd_lst, rd_dct, rd_scr, rd_cls, rd_ref, rd_sl, snap_v, snap_l, snap_d, rds_nil, ex_rds, toVals_nil, toVals_cons, ex_argsOf, cur_ref, cur_sl, wr_ref, wr_sl, setV_mk, setO_mk, opdOf_v, opdOf_l, opdOf_d, vAdd_ii, vSub_ii, ex_mul, ex_div, ex_mod, ex_pow, vNeg_i, vLt_ii, vLe_ii, vGt_ii, vGe_ii, ex_eq, ex_ne, vIx_l, vIx_t, vIx_c, lAbs_i, lMin_i, lMax_i, lLen_l, lLen_t, lLen_c, lLen_s, lTup_l, lTup_t, ex_append, ex_setL, seqOf_l, seqOf_t, seqOf_c, ex_rng1, ex_rng2, frzO_v, frzO_l, frzO_d, ty_l, ty_d, ty_s, ex_map, ex_bind, ex_if, ok_nComp, ok_tYes, ok_iZip2, ok_sAug, vAddI_ii, wipe_nil, wipe_cons, Option.some.injEq, exists_eq_left', Opd.val.injEq, Val.bl.injEq, Val.int.injEq, List.getElem?_cons_zero, List.getElem?_cons_succ, List.set_cons_zero, List.set_cons_succ, Option.bind_some, id_eq, decide_eq_true_eq, Bool.not_eq_true', decide_eq_false_iff_not, List.length_cons, List.length_nil, Nat.zero_add, Nat.reduceAdd, true_and, and_true, List.zip_cons_cons, List.zip_nil_left, List.zip_nil_right, startS, List.map_cons, List.map_nil, List.cons_append, List.nil_append, Nat.reduceSub, List.replicate_succ, List.replicate_zero, List.append_nil, ↓reduceIte, h63]
            exact ⟨l, f + 2, _, _, rfl, rfl, by omega⟩
          · rw [if_neg h63] at hf
            try simp only [ok_bind, ok_pure, ok_eVar, ok_eC, ok_eCls, ok_op2, ok_op1, ok_opL, ok_opN, ok_tst, ok_tNot, ok_tAnd, ok_tOr, ok_eAnd, ok_eOr, ok_eNot, ok_eIf, ok_chain, ok_aNil, ok_aCons, ok_eTup, ok_eLst, ok_nLst, ok_eFrz, ok_oNone, ok_oSome, ok_opS, ok_callV, ok_callN, ok_eCell, ok_opW, ok_opR, kthen_nx, kthen_brk, kthen_cont, kthen_ret, kthen_rtn, ok_sSeq, ok_sNil, ok_brk, ok_cont, ok_sExpr, ok_sRet, ok_sRtn, ok_sIf, ok_putV, ok_putO, ok_sSet, ok_sOwn, ok_sAsg, ok_gTup, ok_gCons, ok_gNil, ok_gSub, ok_sPar, ok_putVs0, ok_putVs1, ok_iSeq, ok_iRng, turn_nx, turn_brk, turn_cont, turn_ret, turn_rtn, ok_sFor, ok_loop0, ok_loop1, fin_nx, fin_val, fin_sl, fin_rtn, ok_runF, rd_non, rd_bl, rd_int, rd_str, rd_tup, rd_lst, rd_dct, rd_scr, rd_cls, rd_ref, rd_sl, snap_v, snap_l, snap_d, rds_nil, ex_rds, toVals_nil, toVals_cons, ex_argsOf, cur_ref, cur_sl, wr_ref, wr_sl, setV_mk, setO_mk, opdOf_v, opdOf_l, opdOf_d, vAdd_ii, vSub_ii, ex_mul, ex_div, ex_mod, ex_pow, vNeg_i, vLt_ii, vLe_ii, vGt_ii, vGe_ii, ex_eq, ex_ne, vIx_l, vIx_t, vIx_c, lAbs_i, lMin_i, lMax_i, lLen_l, lLen_t, lLen_c, lLen_s, lTup_l, lTup_t, ex_append, ex_setL, seqOf_l, seqOf_t, seqOf_c, ex_rng1, ex_rng2, frzO_v, frzO_l, frzO_d, ty_l, ty_d, ty_s, ex_map, ex_bind, ex_if, ok_nComp, ok_tYes, ok_iZip2, ok_sAug, vAddI_ii, wipe_nil, wipe_cons, Option.some.injEq, exists_eq_left', Opd.val.injEq, Val.bl.injEq, Val.int.injEq, List.getElem?_cons_zero, List.getElem?_cons_succ, List.set_cons_zero, List.set_cons_succ, Option.bind_some, id_eq, decide_eq_true_eq, Bool.not_eq_true', decide_eq_false_iff_not, List.length_cons, List.length_nil, Nat.zero_add, Nat.reduceAdd, true_and, and_true, List.zip_cons_cons, List.zip_nil_left, List.zip_nil_right, startS, List.map_cons, List.map_nil, List.cons_append, List.nil_append, Nat.reduceSub, List.replicate_succ, List.replicate_zero, List.append_nil, ↓reduceIte, h63]
            exact ⟨l, f + 9, _, _, rfl, rfl, by omega⟩
    · rintro s ⟨l, f, o3, o4, e1, rfl, hf⟩
      cases l with
      | cons p l => simp at e1
      | nil =>
        have hf : f + 0 = dsum x.cps.toList y.cps.toList := hf
        rw [Int.add_zero] at hf
        subst hf
        unfold dV at q
        rw [if_pos (by rw [len_cps, len_cps, e])] at q
        try simp only [ok_bind, ok_pure, ok_eVar, ok_eC, ok_eCls, ok_op2, ok_op1, ok_opL, ok_opN, ok_tst, ok_tNot, ok_tAnd, ok_tOr, ok_eAnd, ok_eOr, ok_eNot, ok_eIf, ok_chain, ok_aNil, ok_aCons, ok_eTup, ok_eLst, ok_nLst, ok_eFrz, ok_oNone, ok_oSome, ok_opS, ok_callV, ok_callN, ok_eCell, ok_opW, ok_opR, kthen_nx, kthen_brk, kthen_cont, kthen_ret, kthen_rtn, ok_sSeq, ok_sNil, ok_brk, ok_cont, ok_sExpr, ok_sRet, ok_sRtn, ok_sIf, ok_putV, ok_putO, ok_sSet, ok_sOwn, ok_sAsg, ok_gTup, ok_gCons, ok_gNil, ok_gSub, ok_sPar, ok_putVs0, ok_putVs1, ok_iSeq, ok_iRng, turn_nx, turn_brk, turn_cont, turn_ret, turn_rtn, ok_sFor, ok_loop0, ok_loop1, fin_nx, fin_val, fin_sl, fin_rtn, ok_runF, rd_non, rd_bl, rd_int, rd_str, rd_tup, rd_lst, rd_dct, rd_scr, rd_cls, rd_ref, rd_sl, snap_v, snap_l, snap_d, rds_nil, ex_rds, toVals_nil, toVals_cons, ex_argsOf, cur_ref, cur_sl, wr_ref, wr_sl, setV_mk, setO_mk, opdOf_v, opdOf_l, opdOf_d, vAdd_ii, vSub_ii, ex_mul, ex_div, ex_mod, ex_pow, vNeg_i, vLt_ii, vLe_ii, vGt_ii, vGe_ii, ex_eq, ex_ne, vIx_l, vIx_t, vIx_c, lAbs_i, lMin_i, lMax_i, lLen_l, lLen_t, lLen_c, lLen_s, lTup_l, lTup_t, ex_append, ex_setL, seqOf_l, seqOf_t, seqOf_c, ex_rng1, ex_rng2, frzO_v, frzO_l, frzO_d, ty_l, ty_d, ty_s, ex_map, ex_bind, ex_if, ok_nComp, ok_tYes, ok_iZip2, ok_sAug, vAddI_ii, wipe_nil, wipe_cons, Option.some.injEq, exists_eq_left', Opd.val.injEq, Val.bl.injEq, Val.int.injEq, List.getElem?_cons_zero, List.getElem?_cons_succ, List.set_cons_zero, List.set_cons_succ, Option.bind_some, id_eq, decide_eq_true_eq, Bool.not_eq_true', decide_eq_false_iff_not, List.length_cons, List.length_nil, Nat.zero_add, Nat.reduceAdd, true_and, and_true, List.zip_cons_cons, List.zip_nil_left, List.zip_nil_right, startS, List.map_cons, List.map_nil, List.cons_append, List.nil_append, Nat.reduceSub, List.replicate_succ, List.replicate_zero, List.append_nil, ↓reduceIte]
        split
        · rename_i h
          rw [if_pos h] at q
          exact q
        · rename_i h
          rw [if_neg h] at q
          exact q
  · rw [if_pos (by simp; omega)]
    unfold dV at q
    rw [if_neg (by rw [len_cps, len_cps]; exact e)] at q
    exact q
end G

namespace G
open PySem PySem.Spec PyProof.Rows L2
theorem intsV_succ {lo : Int} {n : Nat} : intsV lo (n + 1) = .int lo :: intsV (lo + 1) n := by
  unfold intsV
  rw [List.range_succ_eq_map, List.map_cons, List.map_map]
  congr 1
  · simp
  · apply List.map_congr_left
    intro i _
    simp only [Function.comp_apply, Val.int.injEq]
    omega
theorem intsV_zero {lo : Int} : intsV lo 0 = [] := rfl
theorem vIx_s {x : Str} {i : Int} : vIx (.str x) (.int i) = (atI x.cps.toList i).map fun c => chr c := rfl
theorem at_k {α : Type} {l : List α} {k : Nat} {x : α} {P : α → Prop} (h : l[k]? = some x) : (∃ z, atI l (k : Int) = some z ∧ P z) ↔ P x := by
  rw [atI_nat h]
  simp
theorem dsum_drop {a b : List Nat} {k : Nat} {c d : Nat} (h1 : a[k]? = some c) (h2 : b[k]? = some d) : dsum (a.drop k) (b.drop k) = (if c = d then 0 else if c = 63 ∨ d = 63 then 2 else 9) + dsum (a.drop (k + 1)) (b.drop (k + 1)) := by
  rw [drop_cons h1, drop_cons h2]
  rfl
theorem law_doubt_ok {x y : Str} {hp : List OV} {Q : OV → List OV → Prop} (hl : x.length ≤ 100000) (q : Q (.v (dV x.cps.toList y.cps.toList)) hp) : FOk (F__law_doubt [.str x, .str y] hp) Q := by
  unfold F__law_doubt m__law_doubt
  try simp only [ok_bind, ok_pure, ok_eVar, ok_eC, ok_eCls, ok_op2, ok_op1, ok_opL, ok_opN, ok_tst, ok_tNot, ok_tAnd, ok_tOr, ok_eAnd, ok_eOr, ok_eNot, ok_eIf, ok_chain, ok_aNil, ok_aCons, ok_eTup, ok_eLst, ok_nLst, ok_eFrz, ok_oNone, ok_oSome, ok_opS, ok_callV, ok_callN, ok_eCell, ok_opW, ok_opR, kthen_nx, kthen_brk, kthen_cont, kthen_ret, kthen_rtn, ok_sSeq, ok_sNil, ok_brk, ok_cont, ok_sExpr, ok_sRet, ok_sRtn, ok_sIf, ok_putV, ok_putO, ok_sSet, ok_sOwn, ok_sAsg, ok_gTup, ok_gCons, ok_gNil, ok_gSub, ok_sPar, ok_putVs0, ok_putVs1, ok_iSeq, ok_iRng, turn_nx, turn_brk, turn_cont, turn_ret, turn_rtn, ok_sFor, ok_loop0, ok_loop1, fin_nx, fin_val, fin_sl, fin_rtn, ok_runF, rd_non, rd_bl, rd_int, rd_str, rd_tup, rd_lst, rd_dct, rd_scr, rd_cls, rd_ref, rd_sl, snap_v, snap_l, snap_d, rds_nil, ex_rds, toVals_nil, toVals_cons, ex_argsOf, cur_ref, cur_sl, wr_ref, wr_sl, setV_mk, setO_mk, opdOf_v, opdOf_l, opdOf_d, vAdd_ii, vSub_ii, ex_mul, ex_div, ex_mod, ex_pow, vNeg_i, vLt_ii, vLe_ii, vGt_ii, vGe_ii, ex_eq, ex_ne, vIx_l, vIx_t, vIx_c, lAbs_i, lMin_i, lMax_i, lLen_l, lLen_t, lLen_c, lLen_s, lTup_l, lTup_t, ex_append, ex_setL, seqOf_l, seqOf_t, seqOf_c, ex_rng1, ex_rng2, frzO_v, frzO_l, frzO_d, ty_l, ty_d, ty_s, ex_map, ex_bind, ex_if, ok_nComp, ok_tYes, ok_iZip2, ok_sAug, vAddI_ii, wipe_nil, wipe_cons, Option.some.injEq, exists_eq_left', Opd.val.injEq, Val.bl.injEq, Val.int.injEq, List.getElem?_cons_zero, List.getElem?_cons_succ, List.set_cons_zero, List.set_cons_succ, Option.bind_some, id_eq, decide_eq_true_eq, Bool.not_eq_true', decide_eq_false_iff_not, List.length_cons, List.length_nil, Nat.zero_add, Nat.reduceAdd, true_and, and_true, List.zip_cons_cons, List.zip_nil_left, List.zip_nil_right, startS, List.map_cons, List.map_nil, List.cons_append, List.nil_append, Nat.reduceSub, List.replicate_succ, List.replicate_zero, List.append_nil, ↓reduceIte, dep_int, eqv_int]
  refine ⟨rfl, ?_⟩
  by_cases e : x.length = y.length
  · rw [if_neg (by simp [e])]
    refine ⟨⟨by rw [big_lt]; omega, by rw [big_lt]; omega⟩, ?_⟩
    rw [Int.toNat_natCast]
    refine ok_loop (fun xs s => ∃ (k m : Nat) (f : Int) (o3 : Option OV), xs = intsV k m ∧ k + m = x.length ∧ s = ⟨[some (.v (.str x)), some (.v (.str y)), some (.v (.int f)), o3], hp⟩ ∧ f + dsum (x.cps.toList.drop k) (y.cps.toList.drop k) = dsum x.cps.toList y.cps.toList) ?_ ?_ ?_
    · exact ⟨0, x.length, 0, _, rfl, by omega, rfl, by simp⟩
    · rintro v xs s ⟨k, m, f, o3, e1, hk, rfl, hf⟩
      cases m with
      | zero => rw [intsV_zero] at e1; cases e1
      | succ m =>
        rw [intsV_succ, List.cons.injEq] at e1
        obtain ⟨rfl, rfl⟩ := e1
        have hx : k < x.cps.toList.length := by rw [len_cps]; omega
        have hy : k < y.cps.toList.length := by rw [len_cps]; omega
        have gx := List.getElem?_eq_getElem hx
        have gy := List.getElem?_eq_getElem hy
        generalize x.cps.toList[k] = c at gx
        generalize y.cps.toList[k] = d at gy
        rw [dsum_drop gx gy] at hf
        try simp only [ok_bind, ok_pure, ok_eVar, ok_eC, ok_eCls, ok_op2, ok_op1, ok_opL, ok_opN, ok_tst, ok_tNot, ok_tAnd, ok_tOr, ok_eAnd, ok_eOr, ok_eNot, ok_eIf, ok_chain, ok_aNil, ok_aCons, ok_eTup, ok_eLst, ok_nLst, ok_eFrz, ok_oNone, ok_oSome, ok_opS, ok_callV, ok_callN, ok_eCell, ok_opW, ok_opR, kthen_nx, kthen_brk, kthen_cont, kthen_ret, kthen_rtn, ok_sSeq, ok_sNil, ok_brk, ok_cont, ok_sExpr, ok_sRet, ok_sRtn, ok_sIf, ok_putV, ok_putO, ok_sSet, ok_sOwn, ok_sAsg, ok_gTup, ok_gCons, ok_gNil, ok_gSub, ok_sPar, ok_putVs0, ok_putVs1, ok_iSeq, ok_iRng, turn_nx, turn_brk, turn_cont, turn_ret, turn_rtn, ok_sFor, ok_loop0, ok_loop1, fin_nx, fin_val, fin_sl, fin_rtn, ok_runF, rd_non, rd_bl, rd_int, rd_str, rd_tup, rd_lst, rd_dct, rd_scr, rd_cls, rd_ref, rd_sl, snap_v, snap_l, snap_d, rds_nil, ex_rds, toVals_nil, toVals_cons, ex_argsOf, cur_ref, cur_sl, wr_ref, wr_sl, setV_mk, setO_mk, opdOf_v, opdOf_l, opdOf_d, vAdd_ii, vSub_ii, ex_mul, ex_div, ex_mod, ex_pow, vNeg_i, vLt_ii, vLe_ii, vGt_ii, vGe_ii, ex_eq, ex_ne, vIx_l, vIx_t, vIx_c, lAbs_i, lMin_i, lMax_i, lLen_l, lLen_t, lLen_c, lLen_s, lTup_l, lTup_t, ex_append, ex_setL, seqOf_l, seqOf_t, seqOf_c, ex_rng1, ex_rng2, frzO_v, frzO_l, frzO_d, ty_l, ty_d, ty_s, ex_map, ex_bind, ex_if, ok_nComp, ok_tYes, ok_iZip2, ok_sAug, vAddI_ii, wipe_nil, wipe_cons, Option.some.injEq, exists_eq_left', Opd.val.injEq, Val.bl.injEq, Val.int.injEq, List.getElem?_cons_zero, List.getElem?_cons_succ, List.set_cons_zero, List.set_cons_succ, Option.bind_some, id_eq, decide_eq_true_eq, Bool.not_eq_true', decide_eq_false_iff_not, List.length_cons, List.length_nil, Nat.zero_add, Nat.reduceAdd, true_and, and_true, List.zip_cons_cons, List.zip_nil_left, List.zip_nil_right, startS, List.map_cons, List.map_nil, List.cons_append, List.nil_append, Nat.reduceSub, List.replicate_succ, List.replicate_zero, List.append_nil, ↓reduceIte, vIx_s, at_k gx, at_k gy, dep_str, eqv_chr]
        refine ⟨rfl, ?_⟩
        by_cases hc : c = d
        · rw [if_neg (by simp [hc])]
          rw [if_pos hc] at hf
          exact ⟨k + 1, m, f, _, rfl, by omega, rfl, by omega⟩
        · rw [if_pos (by simp [hc])]
          rw [if_neg hc] at hf
          try simp only [ok_bind, ok_pure, ok_eVar, ok_eC, ok_eCls, ok_op2, ok_op1, ok_opL, ok_opN, ok_tst, ok_tNot, ok_tAnd, ok_tOr, ok_eAnd, ok_eOr, ok_eNot, ok_eIf, ok_chain, ok_aNil, ok_aCons, ok_eTup, ok_eLst, ok_nLst, ok_eFrz, ok_oNone, ok_oSome, ok_opS, ok_callV, ok_callN, ok_eCell, ok_opW, ok_opR, kthen_nx, kthen_brk, kthen_cont, kthen_ret, kthen_rtn, ok_sSeq, ok_sNil, ok_brk, ok_cont, ok_sExpr, ok_sRet, ok_sRtn, ok_sIf, ok_putV, ok_putO, ok_sSet, ok_sOwn, ok_sAsg, ok_gTup, ok_gCons, ok_gNil, ok_gSub, ok_sPar, ok_putVs0, ok_putVs1, ok_iSeq, ok_iRng, turn_nx, turn_brk, turn_cont, turn_ret, turn_rtn, ok_sFor, ok_loop0, ok_loop1, fin_nx, fin_val, fin_sl, fin_rtn, ok_runF, rd_non, rd_bl, rd_int, rd_str, rd_tup, rd_lst, rd_dct, rd_scr, rd_cls, rd_ref, rd_sl, snap_v, snap_l, snap_d, rds_nil, ex_rds, toVals_nil, toVals_cons, ex_argsOf, cur_ref, cur_sl, wr_ref, wr_sl, setV_mk, setO_mk, opdOf_v, opdOf_l, opdOf_d, vAdd_ii, vSub_ii, ex_mul, ex_div, ex_mod, ex_pow, vNeg_i, vLt_ii, vLe_ii, vGt_ii, vGe_ii, ex_eq, ex_ne, vIx_l, vIx_t, vIx_c, lAbs_i, lMin_i, lMax_i, lLen_l, lLen_t, lLen_c, lLen_s, lTup_l, lTup_t, ex_append, ex_setL, seqOf_l, seqOf_t, seqOf_c, ex_rng1, ex_rng2, frzO_v, frzO_l, frzO_d, ty_l, ty_d, ty_s, ex_map, ex_bind, ex_if, ok_nComp, ok_tYes, ok_iZip2, ok_sAug, vAddI_ii, wipe_nil, wipe_cons, Option.some.injEq, exists_eq_left', Opd.val.injEq, Val.bl.injEq, Val.int.injEq, List.getElem?_cons_zero, List.getElem?_cons_succ, List.set_cons_zero, List.set_cons_succ, Option.bind_some, id_eq, decide_eq_true_eq, Bool.not_eq_true', decide_eq_false_iff_not, List.length_cons, List.length_nil, Nat.zero_add, Nat.reduceAdd, true_and, and_true, List.zip_cons_cons, List.zip_nil_left, List.zip_nil_right, startS, List.map_cons, List.map_nil, List.cons_append, List.nil_append, Nat.reduceSub, List.replicate_succ, List.replicate_zero, List.append_nil, ↓reduceIte, q63, eqv_chr, dep_str]
          refine ⟨rfl, ?_⟩
          by_cases h1 : c = 63
          · rw [if_pos (by simp [h1])]
            rw [if_pos (.inl h1)] at hf
            try simp only [ok_bind, ok_pure, ok_eVar, ok_eC, ok_eCls, ok_op2, ok_op1, ok_opL, ok_opN, ok_tst, ok_tNot, ok_tAnd, ok_tOr, ok_eAnd, ok_eOr, ok_eNot, ok_eIf, ok_chain, ok_aNil, ok_aCons, ok_eTup, ok_eLst, ok_nLst, ok_eFrz, ok_oNone, ok_oSome, ok_opS, ok_callV, ok_callN, ok_eCell, ok_opW, ok_opR, kthen_nx, kthen_brk, kthen_cont, kthen_ret, kthen_rtn, ok_sSeq, ok_sNil, ok_brk, ok_cont, ok_sExpr, ok_sRet, ok_sRtn, ok_sIf, ok_putV, ok_putO, ok_sSet, ok_sOwn, ok_sAsg, ok_gTup, ok_gCons, ok_gNil, ok_gSub, ok_sPar, ok_putVs0, ok_putVs1, ok_iSeq, ok_iRng, turn_nx, turn_brk, turn_cont, turn_ret, turn_rtn, ok_sFor, ok_loop0, ok_loop1, fin_nx, fin_val, fin_sl, fin_rtn, ok_runF, rd_non, rd_bl, rd_int, rd_str, rd_tup, rd_lst, rd_dct, rd_scr, rd_cls, rd_ref, rd_sl, snap_v, snap_l, snap_d, rds_nil, ex_rds, toVals_nil, toVals_cons, ex_argsOf, cur_ref, cur_sl, wr_ref, wr_sl, setV_mk, setO_mk, opdOf_v, opdOf_l, opdOf_d, vAdd_ii, vSub_ii, ex_mul, ex_div, ex_mod, ex_pow, vNeg_i, vLt_ii, vLe_ii, vGt_ii, vGe_ii, ex_eq, ex_ne, vIx_l, vIx_t, vIx_c, lAbs_i, lMin_i, lMax_i, lLen_l, lLen_t, lLen_c, lLen_s, lTup_l, lTup_t, ex_append, ex_setL, seqOf_l, seqOf_t, seqOf_c, ex_rng1, ex_rng2, frzO_v, frzO_l, frzO_d, ty_l, ty_d, ty_s, ex_map, ex_bind, ex_if, ok_nComp, ok_tYes, ok_iZip2, ok_sAug, vAddI_ii, wipe_nil, wipe_cons, Option.some.injEq, exists_eq_left', Opd.val.injEq, Val.bl.injEq, Val.int.injEq, List.getElem?_cons_zero, List.getElem?_cons_succ, List.set_cons_zero, List.set_cons_succ, Option.bind_some, id_eq, decide_eq_true_eq, Bool.not_eq_true', decide_eq_false_iff_not, List.length_cons, List.length_nil, Nat.zero_add, Nat.reduceAdd, true_and, and_true, List.zip_cons_cons, List.zip_nil_left, List.zip_nil_right, startS, List.map_cons, List.map_nil, List.cons_append, List.nil_append, Nat.reduceSub, List.replicate_succ, List.replicate_zero, List.append_nil, ↓reduceIte]
            exact ⟨k + 1, m, f + 2, _, rfl, by omega, rfl, by omega⟩
          · rw [if_neg (by simp [h1])]
            try simp only [ok_bind, ok_pure, ok_eVar, ok_eC, ok_eCls, ok_op2, ok_op1, ok_opL, ok_opN, ok_tst, ok_tNot, ok_tAnd, ok_tOr, ok_eAnd, ok_eOr, ok_eNot, ok_eIf, ok_chain, ok_aNil, ok_aCons, ok_eTup, ok_eLst, ok_nLst, ok_eFrz, ok_oNone, ok_oSome, ok_opS, ok_callV, ok_callN, ok_eCell, ok_opW, ok_opR, kthen_nx, kthen_brk, kthen_cont, kthen_ret, kthen_rtn, ok_sSeq, ok_sNil, ok_brk, ok_cont, ok_sExpr, ok_sRet, ok_sRtn, ok_sIf, ok_putV, ok_putO, ok_sSet, ok_sOwn, ok_sAsg, ok_gTup, ok_gCons, ok_gNil, ok_gSub, ok_sPar, ok_putVs0, ok_putVs1, ok_iSeq, ok_iRng, turn_nx, turn_brk, turn_cont, turn_ret, turn_rtn, ok_sFor, ok_loop0, ok_loop1, fin_nx, fin_val, fin_sl, fin_rtn, ok_runF, rd_non, rd_bl, rd_int, rd_str, rd_tup, rd_lst, rd_dct, rd_scr, rd_cls, rd_ref, rd_sl, snap_v, snap_l, snap_d, rds_nil, ex_rds, toVals_nil, toVals_cons, ex_argsOf, cur_ref, cur_sl, wr_ref, wr_sl, setV_mk, setO_mk, opdOf_v, opdOf_l, opdOf_d, vAdd_ii, vSub_ii, ex_mul, ex_div, ex_mod, ex_pow, vNeg_i, vLt_ii, vLe_ii, vGt_ii, vGe_ii, ex_eq, ex_ne, vIx_l, vIx_t, vIx_c, lAbs_i, lMin_i, lMax_i, lLen_l, lLen_t, lLen_c, lLen_s, lTup_l, lTup_t, ex_append, ex_setL, seqOf_l, seqOf_t, seqOf_c, ex_rng1, ex_rng2, frzO_v, frzO_l, frzO_d, ty_l, ty_d, ty_s, ex_map, ex_bind, ex_if, ok_nComp, ok_tYes, ok_iZip2, ok_sAug, vAddI_ii, wipe_nil, wipe_cons, Option.some.injEq, exists_eq_left', Opd.val.injEq, Val.bl.injEq, Val.int.injEq, List.getElem?_cons_zero, List.getElem?_cons_succ, List.set_cons_zero, List.set_cons_succ, Option.bind_some, id_eq, decide_eq_true_eq, Bool.not_eq_true', decide_eq_false_iff_not, List.length_cons, List.length_nil, Nat.zero_add, Nat.reduceAdd, true_and, and_true, List.zip_cons_cons, List.zip_nil_left, List.zip_nil_right, startS, List.map_cons, List.map_nil, List.cons_append, List.nil_append, Nat.reduceSub, List.replicate_succ, List.replicate_zero, List.append_nil, ↓reduceIte]
            by_cases h2 : d = 63
            · rw [if_pos (.inr h2)] at hf
              try simp only [ok_bind, ok_pure, ok_eVar, ok_eC, ok_eCls, ok_op2, ok_op1, ok_opL, ok_opN, ok_tst, ok_tNot, ok_tAnd, ok_tOr, ok_eAnd, ok_eOr, ok_eNot, ok_eIf, ok_chain, ok_aNil, ok_aCons, ok_eTup, ok_eLst, ok_nLst, ok_eFrz, ok_oNone, ok_oSome, ok_opS, ok_callV, ok_callN, ok_eCell, ok_opW, ok_opR, kthen_nx, kthen_brk, kthen_cont, kthen_ret, kthen_rtn, ok_sSeq, ok_sNil, ok_brk, ok_cont, ok_sExpr, ok_sRet, ok_sRtn, ok_sIf, ok_putV, ok_putO, ok_sSet, ok_sOwn, ok_sAsg, ok_gTup, ok_gCons, ok_gNil, ok_gSub, ok_sPar, ok_putVs0, ok_putVs1, ok_iSeq, ok_iRng, turn_nx, turn_brk, turn_cont, turn_ret, turn_rtn, ok_sFor, ok_loop0, ok_loop1, fin_nx, fin_val, fin_sl, fin_rtn, ok_runF, rd_non, rd_bl, rd_int, rd_str, rd_tup, rd_lst, rd_dct, rd_scr, rd_cls, rd_ref, rd_sl, snap_v, snap_l, snap_d, rds_nil, ex_rds, toVals_nil, toVals_cons, ex_argsOf, cur_ref, cur_sl, wr_ref, wr_sl, setV_mk, setO_mk, opdOf_v, opdOf_l, opdOf_d, vAdd_ii, vSub_ii, ex_mul, ex_div, ex_mod, ex_pow, vNeg_i, vLt_ii, vLe_ii, vGt_ii, vGe_ii, ex_eq, ex_ne, vIx_l, vIx_t, vIx_c, lAbs_i, lMin_i, lMax_i, lLen_l, lLen_t, lLen_c, lLen_s, lTup_l, lTup_t, ex_append, ex_setL, seqOf_l, seqOf_t, seqOf_c, ex_rng1, ex_rng2, frzO_v, frzO_l, frzO_d, ty_l, ty_d, ty_s, ex_map, ex_bind, ex_if, ok_nComp, ok_tYes, ok_iZip2, ok_sAug, vAddI_ii, wipe_nil, wipe_cons, Option.some.injEq, exists_eq_left', Opd.val.injEq, Val.bl.injEq, Val.int.injEq, List.getElem?_cons_zero, List.getElem?_cons_succ, List.set_cons_zero, List.set_cons_succ, Option.bind_some, id_eq, decide_eq_true_eq, Bool.not_eq_true', decide_eq_false_iff_not, List.length_cons, List.length_nil, Nat.zero_add, Nat.reduceAdd, true_and, and_true, List.zip_cons_cons, List.zip_nil_left, List.zip_nil_right, startS, List.map_cons, List.map_nil, List.cons_append, List.nil_append, Nat.reduceSub, List.replicate_succ, List.replicate_zero, List.append_nil, ↓reduceIte]
              refine ⟨rfl, ?_⟩
              rw [if_pos (by simp [h2])]
              try simp only [ok_bind, ok_pure, ok_eVar, ok_eC, ok_eCls, ok_op2, ok_op1, ok_opL, ok_opN, ok_tst, ok_tNot, ok_tAnd, ok_tOr, ok_eAnd, ok_eOr, ok_eNot, ok_eIf, ok_chain, ok_aNil, ok_aCons, ok_eTup, ok_eLst, ok_nLst, ok_eFrz, ok_oNone, ok_oSome, ok_opS, ok_callV, ok_callN, ok_eCell, ok_opW, ok_opR, kthen_nx, kthen_brk, kthen_cont, kthen_ret, kthen_rtn, ok_sSeq, ok_sNil, ok_brk, ok_cont, ok_sExpr, ok_sRet, ok_sRtn, ok_sIf, ok_putV, ok_putO, ok_sSet, ok_sOwn, ok_sAsg, ok_gTup, ok_gCons, ok_gNil, ok_gSub, ok_sPar, ok_putVs0, ok_putVs1, ok_iSeq, ok_iRng, turn_nx, turn_brk, turn_cont, turn_ret, turn_rtn, ok_sFor, ok_loop0, ok_loop1, fin_nx, fin_val, fin_sl, fin_rtn, ok_runF, rd_non, rd_bl, rd_int, rd_str, rd_tup, rd_lst, rd_dct, rd_scr, rd_cls, rd_ref, rd_sl, snap_v, snap_l, snap_d, rds_nil, ex_rds, toVals_nil, toVals_cons, ex_argsOf, cur_ref, cur_sl, wr_ref, wr_sl, setV_mk, setO_mk, opdOf_v, opdOf_l, opdOf_d, vAdd_ii, vSub_ii, ex_mul, ex_div, ex_mod, ex_pow, vNeg_i, vLt_ii, vLe_ii, vGt_ii, vGe_ii, ex_eq, ex_ne, vIx_l, vIx_t, vIx_c, lAbs_i, lMin_i, lMax_i, lLen_l, lLen_t, lLen_c, lLen_s, lTup_l, lTup_t, ex_append, ex_setL, seqOf_l, seqOf_t, seqOf_c, ex_rng1, ex_rng2, frzO_v, frzO_l, frzO_d, ty_l, ty_d, ty_s, ex_map, ex_bind, ex_if, ok_nComp, ok_tYes, ok_iZip2, ok_sAug, vAddI_ii, wipe_nil, wipe_cons, Option.some.injEq, exists_eq_left', Opd.val.injEq, Val.bl.injEq, Val.int.injEq, List.getElem?_cons_zero, List.getElem?_cons_succ, List.set_cons_zero, List.set_cons_succ, Option.bind_some, id_eq, decide_eq_true_eq, Bool.not_eq_true', decide_eq_false_iff_not, List.length_cons, List.length_nil, Nat.zero_add, Nat.reduceAdd, true_and, and_true, List.zip_cons_cons, List.zip_nil_left, List.zip_nil_right, startS, List.map_cons, List.map_nil, List.cons_append, List.nil_append, Nat.reduceSub, List.replicate_succ, List.replicate_zero, List.append_nil, ↓reduceIte]
              exact ⟨k + 1, m, f + 2, _, rfl, by omega, rfl, by omega⟩
            · rw [if_neg (by omega)] at hf
              try simp only [ok_bind, ok_pure, ok_eVar, ok_eC, ok_eCls, ok_op2, ok_op1, ok_opL, ok_opN, ok_tst, ok_tNot, ok_tAnd, ok_tOr, ok_eAnd, ok_eOr, ok_eNot, ok_eIf, ok_chain, ok_aNil, ok_aCons, ok_eTup, ok_eLst, ok_nLst, ok_eFrz, ok_oNone, ok_oSome, ok_opS, ok_callV, ok_callN, ok_eCell, ok_opW, ok_opR, kthen_nx, kthen_brk, kthen_cont, kthen_ret, kthen_rtn, ok_sSeq, ok_sNil, ok_brk, ok_cont, ok_sExpr, ok_sRet, ok_sRtn, ok_sIf, ok_putV, ok_putO, ok_sSet, ok_sOwn, ok_sAsg, ok_gTup, ok_gCons, ok_gNil, ok_gSub, ok_sPar, ok_putVs0, ok_putVs1, ok_iSeq, ok_iRng, turn_nx, turn_brk, turn_cont, turn_ret, turn_rtn, ok_sFor, ok_loop0, ok_loop1, fin_nx, fin_val, fin_sl, fin_rtn, ok_runF, rd_non, rd_bl, rd_int, rd_str, rd_tup, rd_lst, rd_dct, rd_scr, rd_cls, rd_ref, rd_sl, snap_v, snap_l, snap_d, rds_nil, ex_rds, toVals_nil, toVals_cons, ex_argsOf, cur_ref, cur_sl, wr_ref, wr_sl, setV_mk, setO_mk, opdOf_v, opdOf_l, opdOf_d, vAdd_ii, vSub_ii, ex_mul, ex_div, ex_mod, ex_pow, vNeg_i, vLt_ii, vLe_ii, vGt_ii, vGe_ii, ex_eq, ex_ne, vIx_l, vIx_t, vIx_c, lAbs_i, lMin_i, lMax_i, lLen_l, lLen_t, lLen_c, lLen_s, lTup_l, lTup_t, ex_append, ex_setL, seqOf_l, seqOf_t, seqOf_c, ex_rng1, ex_rng2, frzO_v, frzO_l, frzO_d, ty_l, ty_d, ty_s, ex_map, ex_bind, ex_if, ok_nComp, ok_tYes, ok_iZip2, ok_sAug, vAddI_ii, wipe_nil, wipe_cons, Option.some.injEq, exists_eq_left', Opd.val.injEq, Val.bl.injEq, Val.int.injEq, List.getElem?_cons_zero, List.getElem?_cons_succ, List.set_cons_zero, List.set_cons_succ, Option.bind_some, id_eq, decide_eq_true_eq, Bool.not_eq_true', decide_eq_false_iff_not, List.length_cons, List.length_nil, Nat.zero_add, Nat.reduceAdd, true_and, and_true, List.zip_cons_cons, List.zip_nil_left, List.zip_nil_right, startS, List.map_cons, List.map_nil, List.cons_append, List.nil_append, Nat.reduceSub, List.replicate_succ, List.replicate_zero, List.append_nil, ↓reduceIte]
              refine ⟨rfl, ?_⟩
              rw [if_neg (by simp [h2])]
              try simp only [ok_bind, ok_pure, ok_eVar, ok_eC, ok_eCls, ok_op2, ok_op1, ok_opL, ok_opN, ok_tst, ok_tNot, ok_tAnd, ok_tOr, ok_eAnd, ok_eOr, ok_eNot, ok_eIf, ok_chain, ok_aNil, ok_aCons, ok_eTup, ok_eLst, ok_nLst, ok_eFrz, ok_oNone, ok_oSome, ok_opS, ok_callV, ok_callN, ok_eCell, ok_opW, ok_opR, kthen_nx, kthen_brk, kthen_cont, kthen_ret, kthen_rtn, ok_sSeq, ok_sNil, ok_brk, ok_cont, ok_sExpr, ok_sRet, ok_sRtn, ok_sIf, ok_putV, ok_putO, ok_sSet, ok_sOwn, ok_sAsg, ok_gTup, ok_gCons, ok_gNil, ok_gSub, ok_sPar, ok_putVs0, ok_putVs1, ok_iSeq, ok_iRng, turn_nx, turn_brk, turn_cont, turn_ret, turn_rtn, ok_sFor, ok_loop0, ok_loop1, fin_nx, fin_val, fin_sl, fin_rtn, ok_runF, rd_non, rd_bl, rd_int, rd_str, rd_tup, rd_lst, rd_dct, rd_scr, rd_cls, rd_ref, rd_sl, snap_v, snap_l, snap_d, rds_nil, ex_rds, toVals_nil, toVals_cons, ex_argsOf, cur_ref, cur_sl, wr_ref, wr_sl, setV_mk, setO_mk, opdOf_v, opdOf_l, opdOf_d, vAdd_ii, vSub_ii, ex_mul, ex_div, ex_mod, ex_pow, vNeg_i, vLt_ii, vLe_ii, vGt_ii, vGe_ii, ex_eq, ex_ne, vIx_l, vIx_t, vIx_c, lAbs_i, lMin_i, lMax_i, lLen_l, lLen_t, lLen_c, lLen_s, lTup_l, lTup_t, ex_append, ex_setL, seqOf_l, seqOf_t, seqOf_c, ex_rng1, ex_rng2, frzO_v, frzO_l, frzO_d, ty_l, ty_d, ty_s, ex_map, ex_bind, ex_if, ok_nComp, ok_tYes, ok_iZip2, ok_sAug, vAddI_ii, wipe_nil, wipe_cons, Option.some.injEq, exists_eq_left', Opd.val.injEq, Val.bl.injEq, Val.int.injEq, List.getElem?_cons_zero, List.getElem?_cons_succ, List.set_cons_zero, List.set_cons_succ, Option.bind_some, id_eq, decide_eq_true_eq, Bool.not_eq_true', decide_eq_false_iff_not, List.length_cons, List.length_nil, Nat.zero_add, Nat.reduceAdd, true_and, and_true, List.zip_cons_cons, List.zip_nil_left, List.zip_nil_right, startS, List.map_cons, List.map_nil, List.cons_append, List.nil_append, Nat.reduceSub, List.replicate_succ, List.replicate_zero, List.append_nil, ↓reduceIte]
              exact ⟨k + 1, m, f + 9, _, rfl, by omega, rfl, by omega⟩
    · rintro s ⟨k, m, f, o3, e1, hk, rfl, hf⟩
      cases m with
      | succ m => rw [intsV_succ] at e1; cases e1
      | zero =>
        rw [List.drop_of_length_le (by rw [len_cps]; omega)] at hf
        have hf : f + 0 = dsum x.cps.toList y.cps.toList := hf
        rw [Int.add_zero] at hf
        subst hf
        unfold dV at q
        rw [if_pos (by rw [len_cps, len_cps, e])] at q
        try simp only [ok_bind, ok_pure, ok_eVar, ok_eC, ok_eCls, ok_op2, ok_op1, ok_opL, ok_opN, ok_tst, ok_tNot, ok_tAnd, ok_tOr, ok_eAnd, ok_eOr, ok_eNot, ok_eIf, ok_chain, ok_aNil, ok_aCons, ok_eTup, ok_eLst, ok_nLst, ok_eFrz, ok_oNone, ok_oSome, ok_opS, ok_callV, ok_callN, ok_eCell, ok_opW, ok_opR, kthen_nx, kthen_brk, kthen_cont, kthen_ret, kthen_rtn, ok_sSeq, ok_sNil, ok_brk, ok_cont, ok_sExpr, ok_sRet, ok_sRtn, ok_sIf, ok_putV, ok_putO, ok_sSet, ok_sOwn, ok_sAsg, ok_gTup, ok_gCons, ok_gNil, ok_gSub, ok_sPar, ok_putVs0, ok_putVs1, ok_iSeq, ok_iRng, turn_nx, turn_brk, turn_cont, turn_ret, turn_rtn, ok_sFor, ok_loop0, ok_loop1, fin_nx, fin_val, fin_sl, fin_rtn, ok_runF, rd_non, rd_bl, rd_int, rd_str, rd_tup, rd_lst, rd_dct, rd_scr, rd_cls, rd_ref, rd_sl, snap_v, snap_l, snap_d, rds_nil, ex_rds, toVals_nil, toVals_cons, ex_argsOf, cur_ref, cur_sl, wr_ref, wr_sl, setV_mk, setO_mk, opdOf_v, opdOf_l, opdOf_d, vAdd_ii, vSub_ii, ex_mul, ex_div, ex_mod, ex_pow, vNeg_i, vLt_ii, vLe_ii, vGt_ii, vGe_ii, ex_eq, ex_ne, vIx_l, vIx_t, vIx_c, lAbs_i, lMin_i, lMax_i, lLen_l, lLen_t, lLen_c, lLen_s, lTup_l, lTup_t, ex_append, ex_setL, seqOf_l, seqOf_t, seqOf_c, ex_rng1, ex_rng2, frzO_v, frzO_l, frzO_d, ty_l, ty_d, ty_s, ex_map, ex_bind, ex_if, ok_nComp, ok_tYes, ok_iZip2, ok_sAug, vAddI_ii, wipe_nil, wipe_cons, Option.some.injEq, exists_eq_left', Opd.val.injEq, Val.bl.injEq, Val.int.injEq, List.getElem?_cons_zero, List.getElem?_cons_succ, List.set_cons_zero, List.set_cons_succ, Option.bind_some, id_eq, decide_eq_true_eq, Bool.not_eq_true', decide_eq_false_iff_not, List.length_cons, List.length_nil, Nat.zero_add, Nat.reduceAdd, true_and, and_true, List.zip_cons_cons, List.zip_nil_left, List.zip_nil_right, startS, List.map_cons, List.map_nil, List.cons_append, List.nil_append, Nat.reduceSub, List.replicate_succ, List.replicate_zero, List.append_nil, ↓reduceIte]
        split
        · rename_i h
          rw [if_pos (by omega)] at q
          exact q
        · rename_i h
          rw [if_neg (by omega)] at q
          exact q
  · rw [if_pos (by simp; omega)]
    unfold dV at q
    rw [if_neg (by rw [len_cps, len_cps]; exact e)] at q
    exact q
/-! ### odd things -/
theorem kn_all {xs : List Val} {x : Val} (h : xs.all (fun x => x.tyName.isSome) = true) (hx : x ∈ xs) : Kn x := List.all_eq_true.mp h x hx
theorem odd_ok {i : Nat} {hp : List OV} {Q : OV → List OV → Prop} (hb : Bag i hp) (q : ∀ x hp', Kn x → Bag i hp' → Q (.v x) hp') : FOk (F__law_odd [.ref i] hp) Q := by
  unfold F__law_odd m__law_odd
  try simp only [ok_bind, ok_pure, ok_eVar, ok_eC, ok_eCls, ok_op2, ok_op1, ok_opL, ok_opN, ok_tst, ok_tNot, ok_tAnd, ok_tOr, ok_eAnd, ok_eOr, ok_eNot, ok_eIf, ok_chain, ok_aNil, ok_aCons, ok_eTup, ok_eLst, ok_nLst, ok_eFrz, ok_oNone, ok_oSome, ok_opS, ok_callV, ok_callN, ok_eCell, ok_opW, ok_opR, kthen_nx, kthen_brk, kthen_cont, kthen_ret, kthen_rtn, ok_sSeq, ok_sNil, ok_brk, ok_cont, ok_sExpr, ok_sRet, ok_sRtn, ok_sIf, ok_putV, ok_putO, ok_sSet, ok_sOwn, ok_sAsg, ok_gTup, ok_gCons, ok_gNil, ok_gSub, ok_sPar, ok_putVs0, ok_putVs1, ok_iSeq, ok_iRng, turn_nx, turn_brk, turn_cont, turn_ret, turn_rtn, ok_sFor, ok_loop0, ok_loop1, fin_nx, fin_val, fin_sl, fin_rtn, ok_runF, rd_non, rd_bl, rd_int, rd_str, rd_tup, rd_lst, rd_dct, rd_scr, rd_cls, rd_ref, rd_sl, snap_v, snap_l, snap_d, rds_nil, ex_rds, toVals_nil, toVals_cons, ex_argsOf, cur_ref, cur_sl, wr_ref, wr_sl, setV_mk, setO_mk, opdOf_v, opdOf_l, opdOf_d, vAdd_ii, vSub_ii, ex_mul, ex_div, ex_mod, ex_pow, vNeg_i, vLt_ii, vLe_ii, vGt_ii, vGe_ii, ex_eq, ex_ne, vIx_l, vIx_t, vIx_c, lAbs_i, lMin_i, lMax_i, lLen_l, lLen_t, lLen_c, lLen_s, lTup_l, lTup_t, ex_append, ex_setL, seqOf_l, seqOf_t, seqOf_c, ex_rng1, ex_rng2, frzO_v, frzO_l, frzO_d, ty_l, ty_d, ty_s, ex_map, ex_bind, ex_if, ok_nComp, ok_tYes, ok_iZip2, ok_sAug, vAddI_ii, wipe_nil, wipe_cons, Option.some.injEq, exists_eq_left', Opd.val.injEq, Val.bl.injEq, Val.int.injEq, List.getElem?_cons_zero, List.getElem?_cons_succ, List.set_cons_zero, List.set_cons_succ, Option.bind_some, id_eq, decide_eq_true_eq, Bool.not_eq_true', decide_eq_false_iff_not, List.length_cons, List.length_nil, Nat.zero_add, Nat.reduceAdd, true_and, and_true, List.zip_cons_cons, List.zip_nil_left, List.zip_nil_right, startS, List.map_cons, List.map_nil, List.cons_append, List.nil_append, Nat.reduceSub, List.replicate_succ, List.replicate_zero, List.append_nil, ↓reduceIte, vAdd_ll]
  iterate 29 (refine ⟨by decide, ?_⟩)
  refine take_ok hb (by decide) (by decide) fun r hp1 h1 h2 hb1 => ?_
  try simp only [ok_bind, ok_pure, ok_eVar, ok_eC, ok_eCls, ok_op2, ok_op1, ok_opL, ok_opN, ok_tst, ok_tNot, ok_tAnd, ok_tOr, ok_eAnd, ok_eOr, ok_eNot, ok_eIf, ok_chain, ok_aNil, ok_aCons, ok_eTup, ok_eLst, ok_nLst, ok_eFrz, ok_oNone, ok_oSome, ok_opS, ok_callV, ok_callN, ok_eCell, ok_opW, ok_opR, kthen_nx, kthen_brk, kthen_cont, kthen_ret, kthen_rtn, ok_sSeq, ok_sNil, ok_brk, ok_cont, ok_sExpr, ok_sRet, ok_sRtn, ok_sIf, ok_putV, ok_putO, ok_sSet, ok_sOwn, ok_sAsg, ok_gTup, ok_gCons, ok_gNil, ok_gSub, ok_sPar, ok_putVs0, ok_putVs1, ok_iSeq, ok_iRng, turn_nx, turn_brk, turn_cont, turn_ret, turn_rtn, ok_sFor, ok_loop0, ok_loop1, fin_nx, fin_val, fin_sl, fin_rtn, ok_runF, rd_non, rd_bl, rd_int, rd_str, rd_tup, rd_lst, rd_dct, rd_scr, rd_cls, rd_ref, rd_sl, snap_v, snap_l, snap_d, rds_nil, ex_rds, toVals_nil, toVals_cons, ex_argsOf, cur_ref, cur_sl, wr_ref, wr_sl, setV_mk, setO_mk, opdOf_v, opdOf_l, opdOf_d, vAdd_ii, vSub_ii, ex_mul, ex_div, ex_mod, ex_pow, vNeg_i, vLt_ii, vLe_ii, vGt_ii, vGe_ii, ex_eq, ex_ne, vIx_l, vIx_t, vIx_c, lAbs_i, lMin_i, lMax_i, lLen_l, lLen_t, lLen_c, lLen_s, lTup_l, lTup_t, ex_append, ex_setL, seqOf_l, seqOf_t, seqOf_c, ex_rng1, ex_rng2, frzO_v, frzO_l, frzO_d, ty_l, ty_d, ty_s, ex_map, ex_bind, ex_if, ok_nComp, ok_tYes, ok_iZip2, ok_sAug, vAddI_ii, wipe_nil, wipe_cons, Option.some.injEq, exists_eq_left', Opd.val.injEq, Val.bl.injEq, Val.int.injEq, List.getElem?_cons_zero, List.getElem?_cons_succ, List.set_cons_zero, List.set_cons_succ, Option.bind_some, id_eq, decide_eq_true_eq, Bool.not_eq_true', decide_eq_false_iff_not, List.length_cons, List.length_nil, Nat.zero_add, Nat.reduceAdd, true_and, and_true, List.zip_cons_cons, List.zip_nil_left, List.zip_nil_right, startS, List.map_cons, List.map_nil, List.cons_append, List.nil_append, Nat.reduceSub, List.replicate_succ, List.replicate_zero, List.append_nil, ↓reduceIte]
  refine at_any h1 h2 fun x hx => q x hp1 ?_ hb1
  refine kn_all ?_ hx
  rfl
/-! ### readings -/
def SGN : List Nat := [48, 49, 50, 51, 52, 53, 54, 55, 56, 57, 65, 66, 67, 68, 69, 70, 71, 72, 73, 74, 75, 76, 77, 78, 79, 80, 81, 82, 83, 84, 85, 86, 87, 88, 89, 90]
def RSG : List Nat := 63 :: SGN
structure GoodZ (l : List Nat) : Prop where
  lo : 1 ≤ l.length
  hi : l.length ≤ 7
  all : ∀ c ∈ l, c ∈ RSG
theorem sok_rsg {l : List Nat} (h : ∀ c ∈ l, c ∈ RSG) (hl : l.length ≤ lim) : SOk ⟨l.toArray⟩ := by
  refine .mk ?_ (by show l.toArray.size ≤ lim; simpa using hl)
  unfold PyData.strOk
  rw [Array.all_eq_true_iff_forall_mem]
  intro d hd
  have hd : d ∈ l := by simpa using hd
  have := h d hd
  have key : RSG.all (fun c => (fun d => PyData.strOk ⟨#[d]⟩) c) = true := by decide +kernel
  have k2 := List.all_eq_true.mp key d this
  unfold PyData.strOk at k2
  rw [Array.all_eq_true_iff_forall_mem] at k2
  exact k2 d (by simp)
theorem str_tl {z : Str} : (⟨z.cps.toList.toArray⟩ : Str) = z := by simp
theorem ofS_ok {i : Nat} {z : Str} {hp : List OV} {Q : OV → List OV → Prop} (hb : Bag i hp) (h0 : 0 < z.length) (h1 : z.length < 1073741824) (q : ∀ c hp', c ∈ z.cps.toList → Bag i hp' → Q (.v (chr c)) hp') : FOk (F__law_of [.ref i, .str z] hp) Q := by
  unfold F__law_of m__law_of
  try simp only [ok_bind, ok_pure, ok_eVar, ok_eC, ok_eCls, ok_op2, ok_op1, ok_opL, ok_opN, ok_tst, ok_tNot, ok_tAnd, ok_tOr, ok_eAnd, ok_eOr, ok_eNot, ok_eIf, ok_chain, ok_aNil, ok_aCons, ok_eTup, ok_eLst, ok_nLst, ok_eFrz, ok_oNone, ok_oSome, ok_opS, ok_callV, ok_callN, ok_eCell, ok_opW, ok_opR, kthen_nx, kthen_brk, kthen_cont, kthen_ret, kthen_rtn, ok_sSeq, ok_sNil, ok_brk, ok_cont, ok_sExpr, ok_sRet, ok_sRtn, ok_sIf, ok_putV, ok_putO, ok_sSet, ok_sOwn, ok_sAsg, ok_gTup, ok_gCons, ok_gNil, ok_gSub, ok_sPar, ok_putVs0, ok_putVs1, ok_iSeq, ok_iRng, turn_nx, turn_brk, turn_cont, turn_ret, turn_rtn, ok_sFor, ok_loop0, ok_loop1, fin_nx, fin_val, fin_sl, fin_rtn, ok_runF, rd_non, rd_bl, rd_int, rd_str, rd_tup, rd_lst, rd_dct, rd_scr, rd_cls, rd_ref, rd_sl, snap_v, snap_l, snap_d, rds_nil, ex_rds, toVals_nil, toVals_cons, ex_argsOf, cur_ref, cur_sl, wr_ref, wr_sl, setV_mk, setO_mk, opdOf_v, opdOf_l, opdOf_d, vAdd_ii, vSub_ii, ex_mul, ex_div, ex_mod, ex_pow, vNeg_i, vLt_ii, vLe_ii, vGt_ii, vGe_ii, ex_eq, ex_ne, vIx_l, vIx_t, vIx_c, lAbs_i, lMin_i, lMax_i, lLen_l, lLen_t, lLen_c, lLen_s, lTup_l, lTup_t, ex_append, ex_setL, seqOf_l, seqOf_t, seqOf_c, ex_rng1, ex_rng2, frzO_v, frzO_l, frzO_d, ty_l, ty_d, ty_s, ex_map, ex_bind, ex_if, ok_nComp, ok_tYes, ok_iZip2, ok_sAug, vAddI_ii, wipe_nil, wipe_cons, Option.some.injEq, exists_eq_left', Opd.val.injEq, Val.bl.injEq, Val.int.injEq, List.getElem?_cons_zero, List.getElem?_cons_succ, List.set_cons_zero, List.set_cons_succ, Option.bind_some, id_eq, decide_eq_true_eq, Bool.not_eq_true', decide_eq_false_iff_not, List.length_cons, List.length_nil, Nat.zero_add, Nat.reduceAdd, true_and, and_true, List.zip_cons_cons, List.zip_nil_left, List.zip_nil_right, startS, List.map_cons, List.map_nil, List.cons_append, List.nil_append, Nat.reduceSub, List.replicate_succ, List.replicate_zero, List.append_nil, ↓reduceIte]
  refine take_ok hb (by omega) (by omega) fun r hp' h2 h3 hb' => ?_
  try simp only [ok_bind, ok_pure, ok_eVar, ok_eC, ok_eCls, ok_op2, ok_op1, ok_opL, ok_opN, ok_tst, ok_tNot, ok_tAnd, ok_tOr, ok_eAnd, ok_eOr, ok_eNot, ok_eIf, ok_chain, ok_aNil, ok_aCons, ok_eTup, ok_eLst, ok_nLst, ok_eFrz, ok_oNone, ok_oSome, ok_opS, ok_callV, ok_callN, ok_eCell, ok_opW, ok_opR, kthen_nx, kthen_brk, kthen_cont, kthen_ret, kthen_rtn, ok_sSeq, ok_sNil, ok_brk, ok_cont, ok_sExpr, ok_sRet, ok_sRtn, ok_sIf, ok_putV, ok_putO, ok_sSet, ok_sOwn, ok_sAsg, ok_gTup, ok_gCons, ok_gNil, ok_gSub, ok_sPar, ok_putVs0, ok_putVs1, ok_iSeq, ok_iRng, turn_nx, turn_brk, turn_cont, turn_ret, turn_rtn, ok_sFor, ok_loop0, ok_loop1, fin_nx, fin_val, fin_sl, fin_rtn, ok_runF, rd_non, rd_bl, rd_int, rd_str, rd_tup, rd_lst, rd_dct, rd_scr, rd_cls, rd_ref, rd_sl, snap_v, snap_l, snap_d, rds_nil, ex_rds, toVals_nil, toVals_cons, ex_argsOf, cur_ref, cur_sl, wr_ref, wr_sl, setV_mk, setO_mk, opdOf_v, opdOf_l, opdOf_d, vAdd_ii, vSub_ii, ex_mul, ex_div, ex_mod, ex_pow, vNeg_i, vLt_ii, vLe_ii, vGt_ii, vGe_ii, ex_eq, ex_ne, vIx_l, vIx_t, vIx_c, lAbs_i, lMin_i, lMax_i, lLen_l, lLen_t, lLen_c, lLen_s, lTup_l, lTup_t, ex_append, ex_setL, seqOf_l, seqOf_t, seqOf_c, ex_rng1, ex_rng2, frzO_v, frzO_l, frzO_d, ty_l, ty_d, ty_s, ex_map, ex_bind, ex_if, ok_nComp, ok_tYes, ok_iZip2, ok_sAug, vAddI_ii, wipe_nil, wipe_cons, Option.some.injEq, exists_eq_left', Opd.val.injEq, Val.bl.injEq, Val.int.injEq, List.getElem?_cons_zero, List.getElem?_cons_succ, List.set_cons_zero, List.set_cons_succ, Option.bind_some, id_eq, decide_eq_true_eq, Bool.not_eq_true', decide_eq_false_iff_not, List.length_cons, List.length_nil, Nat.zero_add, Nat.reduceAdd, true_and, and_true, List.zip_cons_cons, List.zip_nil_left, List.zip_nil_right, startS, List.map_cons, List.map_nil, List.cons_append, List.nil_append, Nat.reduceSub, List.replicate_succ, List.replicate_zero, List.append_nil, ↓reduceIte, vIx_s]
  have hlt : r.toNat < z.cps.toList.length := by rw [len_cps]; omega
  have e : ((r.toNat : Nat) : Int) = r := by omega
  rw [← e]
  rw [at_k (List.getElem?_eq_getElem hlt)]
  exact q _ hp' (List.getElem_mem hlt) hb'
theorem join_chr : ∀ l : List Nat, TL.joinL [] (l.map fun c => [c]) = l
  | [] => rfl
  | [c] => rfl
  | c :: d :: l => by
    show [c] ++ ([] ++ TL.joinL [] ((d :: l).map fun c => [c])) = _
    rw [join_chr (d :: l)]
    rfl
theorem strsOf_chr : ∀ l : List Nat, strsOf (l.map chr) = some (l.map fun c => (⟨#[c]⟩ : Str))
  | [] => rfl
  | c :: l => by
    show (strsOf (l.map chr)).map (_ :: ·) = _
    rw [strsOf_chr l]
    rfl
theorem mJoin_chr {l : List Nat} {P : Val → Prop} (h : ∀ c ∈ l, c ∈ RSG) (hl : l.length ≤ 1000) : (∃ z, mJoin (.str "") [.lst (l.map chr)] = some z ∧ P z) ↔ P (.str ⟨l.toArray⟩) := by
  have e1 : Txt.join "" (l.map fun c => (⟨#[c]⟩ : Str)) = ⟨l.toArray⟩ := by
    have h1 : TL.tl (Txt.join "" (l.map fun c => (⟨#[c]⟩ : Str))) = l := by
      rw [TL.join_eq, TL.tl_join, List.map_map, show TL.tl ("" : Str) = [] from rfl]
      exact join_chr l
    have h2 := TL.mk_tl (Txt.join "" (l.map fun c => (⟨#[c]⟩ : Str)))
    rw [← h2, h1]
  have e2 : mJoin (.str "") [.lst (l.map chr)] = some (.str ⟨l.toArray⟩) := by
    show (strsOf (l.map chr)).bind _ = _
    rw [strsOf_chr]
    show (if _ ∧ _ then _ else _) = _
    rw [e1, if_pos]
    refine ⟨?_, sok_rsg h (Nat.le_trans hl (by decide))⟩
    rw [List.map_map]
    have : ((fun s : Str => s.length) ∘ fun c => (⟨#[c]⟩ : Str)) = fun _ : Nat => 1 := rfl
    rw [this, List.length_map, show ("" : Str).length = 0 from rfl, Nat.mul_zero, Nat.add_zero]
    have : ∀ l : List Nat, (l.map fun _ => 1).sum = l.length := fun l => by
      induction l with
      | nil => rfl
      | cons c l ih => rw [List.map_cons, List.sum_cons, ih, List.length_cons]; omega
    rw [this]
    exact Nat.le_trans hl (by decide)
  rw [e2]
  simp
theorem lListA_s {z : Str} : lListA [.str z] = some (.lst (z.cps.toList.map chr)) := rfl
theorem reading_ok {i : Nat} {hp : List OV} {Q : OV → List OV → Prop} (hb : Bag i hp) (q : ∀ l hp', GoodZ l → Bag i hp' → Q (.v (.str ⟨l.toArray⟩)) hp') : FOk (F__law_reading [.ref i] hp) Q := by
  unfold F__law_reading m__law_reading
  try simp only [ok_bind, ok_pure, ok_eVar, ok_eC, ok_eCls, ok_op2, ok_op1, ok_opL, ok_opN, ok_tst, ok_tNot, ok_tAnd, ok_tOr, ok_eAnd, ok_eOr, ok_eNot, ok_eIf, ok_chain, ok_aNil, ok_aCons, ok_eTup, ok_eLst, ok_nLst, ok_eFrz, ok_oNone, ok_oSome, ok_opS, ok_callV, ok_callN, ok_eCell, ok_opW, ok_opR, kthen_nx, kthen_brk, kthen_cont, kthen_ret, kthen_rtn, ok_sSeq, ok_sNil, ok_brk, ok_cont, ok_sExpr, ok_sRet, ok_sRtn, ok_sIf, ok_putV, ok_putO, ok_sSet, ok_sOwn, ok_sAsg, ok_gTup, ok_gCons, ok_gNil, ok_gSub, ok_sPar, ok_putVs0, ok_putVs1, ok_iSeq, ok_iRng, turn_nx, turn_brk, turn_cont, turn_ret, turn_rtn, ok_sFor, ok_loop0, ok_loop1, fin_nx, fin_val, fin_sl, fin_rtn, ok_runF, rd_non, rd_bl, rd_int, rd_str, rd_tup, rd_lst, rd_dct, rd_scr, rd_cls, rd_ref, rd_sl, snap_v, snap_l, snap_d, rds_nil, ex_rds, toVals_nil, toVals_cons, ex_argsOf, cur_ref, cur_sl, wr_ref, wr_sl, setV_mk, setO_mk, opdOf_v, opdOf_l, opdOf_d, vAdd_ii, vSub_ii, ex_mul, ex_div, ex_mod, ex_pow, vNeg_i, vLt_ii, vLe_ii, vGt_ii, vGe_ii, ex_eq, ex_ne, vIx_l, vIx_t, vIx_c, lAbs_i, lMin_i, lMax_i, lLen_l, lLen_t, lLen_c, lLen_s, lTup_l, lTup_t, ex_append, ex_setL, seqOf_l, seqOf_t, seqOf_c, ex_rng1, ex_rng2, frzO_v, frzO_l, frzO_d, ty_l, ty_d, ty_s, ex_map, ex_bind, ex_if, ok_nComp, ok_tYes, ok_iZip2, ok_sAug, vAddI_ii, wipe_nil, wipe_cons, Option.some.injEq, exists_eq_left', Opd.val.injEq, Val.bl.injEq, Val.int.injEq, List.getElem?_cons_zero, List.getElem?_cons_succ, List.set_cons_zero, List.set_cons_succ, Option.bind_some, id_eq, decide_eq_true_eq, Bool.not_eq_true', decide_eq_false_iff_not, List.length_cons, List.length_nil, Nat.zero_add, Nat.reduceAdd, true_and, and_true, List.zip_cons_cons, List.zip_nil_left, List.zip_nil_right, startS, List.map_cons, List.map_nil, List.cons_append, List.nil_append, Nat.reduceSub, List.replicate_succ, List.replicate_zero, List.append_nil, ↓reduceIte]
  refine ⟨by decide, ?_⟩
  refine of_ok hb (by decide) (by decide) fun x hp1 hx hb1 => ?_
  have hz : ∃ z : Str, x = .str z ∧ GoodZ z.cps.toList := by
    simp only [List.mem_cons, List.not_mem_nil, or_false] at hx
    rcases hx with h | h | h | h | h | h <;> exact ⟨_, h, ⟨by decide +kernel, by decide +kernel, by decide +kernel⟩⟩
  obtain ⟨z, rfl, gz⟩ := hz
  try simp only [ok_bind, ok_pure, ok_eVar, ok_eC, ok_eCls, ok_op2, ok_op1, ok_opL, ok_opN, ok_tst, ok_tNot, ok_tAnd, ok_tOr, ok_eAnd, ok_eOr, ok_eNot, ok_eIf, ok_chain, ok_aNil, ok_aCons, ok_eTup, ok_eLst, ok_nLst, ok_eFrz, ok_oNone, ok_oSome, ok_opS, ok_callV, ok_callN, ok_eCell, ok_opW, ok_opR, kthen_nx, kthen_brk, kthen_cont, kthen_ret, kthen_rtn, ok_sSeq, ok_sNil, ok_brk, ok_cont, ok_sExpr, ok_sRet, ok_sRtn, ok_sIf, ok_putV, ok_putO, ok_sSet, ok_sOwn, ok_sAsg, ok_gTup, ok_gCons, ok_gNil, ok_gSub, ok_sPar, ok_putVs0, ok_putVs1, ok_iSeq, ok_iRng, turn_nx, turn_brk, turn_cont, turn_ret, turn_rtn, ok_sFor, ok_loop0, ok_loop1, fin_nx, fin_val, fin_sl, fin_rtn, ok_runF, rd_non, rd_bl, rd_int, rd_str, rd_tup, rd_lst, rd_dct, rd_scr, rd_cls, rd_ref, rd_sl, snap_v, snap_l, snap_d, rds_nil, ex_rds, toVals_nil, toVals_cons, ex_argsOf, cur_ref, cur_sl, wr_ref, wr_sl, setV_mk, setO_mk, opdOf_v, opdOf_l, opdOf_d, vAdd_ii, vSub_ii, ex_mul, ex_div, ex_mod, ex_pow, vNeg_i, vLt_ii, vLe_ii, vGt_ii, vGe_ii, ex_eq, ex_ne, vIx_l, vIx_t, vIx_c, lAbs_i, lMin_i, lMax_i, lLen_l, lLen_t, lLen_c, lLen_s, lTup_l, lTup_t, ex_append, ex_setL, seqOf_l, seqOf_t, seqOf_c, ex_rng1, ex_rng2, frzO_v, frzO_l, frzO_d, ty_l, ty_d, ty_s, ex_map, ex_bind, ex_if, ok_nComp, ok_tYes, ok_iZip2, ok_sAug, vAddI_ii, wipe_nil, wipe_cons, Option.some.injEq, exists_eq_left', Opd.val.injEq, Val.bl.injEq, Val.int.injEq, List.getElem?_cons_zero, List.getElem?_cons_succ, List.set_cons_zero, List.set_cons_succ, Option.bind_some, id_eq, decide_eq_true_eq, Bool.not_eq_true', decide_eq_false_iff_not, List.length_cons, List.length_nil, Nat.zero_add, Nat.reduceAdd, true_and, and_true, List.zip_cons_cons, List.zip_nil_left, List.zip_nil_right, startS, List.map_cons, List.map_nil, List.cons_append, List.nil_append, Nat.reduceSub, List.replicate_succ, List.replicate_zero, List.append_nil, ↓reduceIte, lListA_s]
  refine take_ok hb1 (by decide) (by decide) fun n hp2 h1 h2 hb2 => ?_
  try simp only [ok_bind, ok_pure, ok_eVar, ok_eC, ok_eCls, ok_op2, ok_op1, ok_opL, ok_opN, ok_tst, ok_tNot, ok_tAnd, ok_tOr, ok_eAnd, ok_eOr, ok_eNot, ok_eIf, ok_chain, ok_aNil, ok_aCons, ok_eTup, ok_eLst, ok_nLst, ok_eFrz, ok_oNone, ok_oSome, ok_opS, ok_callV, ok_callN, ok_eCell, ok_opW, ok_opR, kthen_nx, kthen_brk, kthen_cont, kthen_ret, kthen_rtn, ok_sSeq, ok_sNil, ok_brk, ok_cont, ok_sExpr, ok_sRet, ok_sRtn, ok_sIf, ok_putV, ok_putO, ok_sSet, ok_sOwn, ok_sAsg, ok_gTup, ok_gCons, ok_gNil, ok_gSub, ok_sPar, ok_putVs0, ok_putVs1, ok_iSeq, ok_iRng, turn_nx, turn_brk, turn_cont, turn_ret, turn_rtn, ok_sFor, ok_loop0, ok_loop1, fin_nx, fin_val, fin_sl, fin_rtn, ok_runF, rd_non, rd_bl, rd_int, rd_str, rd_tup, rd_lst, rd_dct, rd_scr, rd_cls, rd_ref, rd_sl, snap_v, snap_l, snap_d, rds_nil, ex_rds, toVals_nil, toVals_cons, ex_argsOf, cur_ref, cur_sl, wr_ref, wr_sl, setV_mk, setO_mk, opdOf_v, opdOf_l, opdOf_d, vAdd_ii, vSub_ii, ex_mul, ex_div, ex_mod, ex_pow, vNeg_i, vLt_ii, vLe_ii, vGt_ii, vGe_ii, ex_eq, ex_ne, vIx_l, vIx_t, vIx_c, lAbs_i, lMin_i, lMax_i, lLen_l, lLen_t, lLen_c, lLen_s, lTup_l, lTup_t, ex_append, ex_setL, seqOf_l, seqOf_t, seqOf_c, ex_rng1, ex_rng2, frzO_v, frzO_l, frzO_d, ty_l, ty_d, ty_s, ex_map, ex_bind, ex_if, ok_nComp, ok_tYes, ok_iZip2, ok_sAug, vAddI_ii, wipe_nil, wipe_cons, Option.some.injEq, exists_eq_left', Opd.val.injEq, Val.bl.injEq, Val.int.injEq, List.getElem?_cons_zero, List.getElem?_cons_succ, List.set_cons_zero, List.set_cons_succ, Option.bind_some, id_eq, decide_eq_true_eq, Bool.not_eq_true', decide_eq_false_iff_not, List.length_cons, List.length_nil, Nat.zero_add, Nat.reduceAdd, true_and, and_true, List.zip_cons_cons, List.zip_nil_left, List.zip_nil_right, startS, List.map_cons, List.map_nil, List.cons_append, List.nil_append, Nat.reduceSub, List.replicate_succ, List.replicate_zero, List.append_nil, ↓reduceIte]
  refine ⟨⟨by rw [big_lt]; omega, by rw [big_lt]; omega⟩, ?_⟩
  refine ok_loop (fun xs s => ∃ (l : List Nat) (o2 : Option OV) (hp : List OV), s = ⟨[some (.v (.ref i)), some (.lst (l.map chr)), o2], hp⟩ ∧ GoodZ l ∧ Bag i hp) ?_ ?_ ?_
  · exact ⟨_, _, _, rfl, gz, hb2⟩
  · rintro x xs s ⟨l, o2, hp, rfl, gl, hb⟩
    try simp only [ok_bind, ok_pure, ok_eVar, ok_eC, ok_eCls, ok_op2, ok_op1, ok_opL, ok_opN, ok_tst, ok_tNot, ok_tAnd, ok_tOr, ok_eAnd, ok_eOr, ok_eNot, ok_eIf, ok_chain, ok_aNil, ok_aCons, ok_eTup, ok_eLst, ok_nLst, ok_eFrz, ok_oNone, ok_oSome, ok_opS, ok_callV, ok_callN, ok_eCell, ok_opW, ok_opR, kthen_nx, kthen_brk, kthen_cont, kthen_ret, kthen_rtn, ok_sSeq, ok_sNil, ok_brk, ok_cont, ok_sExpr, ok_sRet, ok_sRtn, ok_sIf, ok_putV, ok_putO, ok_sSet, ok_sOwn, ok_sAsg, ok_gTup, ok_gCons, ok_gNil, ok_gSub, ok_sPar, ok_putVs0, ok_putVs1, ok_iSeq, ok_iRng, turn_nx, turn_brk, turn_cont, turn_ret, turn_rtn, ok_sFor, ok_loop0, ok_loop1, fin_nx, fin_val, fin_sl, fin_rtn, ok_runF, rd_non, rd_bl, rd_int, rd_str, rd_tup, rd_lst, rd_dct, rd_scr, rd_cls, rd_ref, rd_sl, snap_v, snap_l, snap_d, rds_nil, ex_rds, toVals_nil, toVals_cons, ex_argsOf, cur_ref, cur_sl, wr_ref, wr_sl, setV_mk, setO_mk, opdOf_v, opdOf_l, opdOf_d, vAdd_ii, vSub_ii, ex_mul, ex_div, ex_mod, ex_pow, vNeg_i, vLt_ii, vLe_ii, vGt_ii, vGe_ii, ex_eq, ex_ne, vIx_l, vIx_t, vIx_c, lAbs_i, lMin_i, lMax_i, lLen_l, lLen_t, lLen_c, lLen_s, lTup_l, lTup_t, ex_append, ex_setL, seqOf_l, seqOf_t, seqOf_c, ex_rng1, ex_rng2, frzO_v, frzO_l, frzO_d, ty_l, ty_d, ty_s, ex_map, ex_bind, ex_if, ok_nComp, ok_tYes, ok_iZip2, ok_sAug, vAddI_ii, wipe_nil, wipe_cons, Option.some.injEq, exists_eq_left', Opd.val.injEq, Val.bl.injEq, Val.int.injEq, List.getElem?_cons_zero, List.getElem?_cons_succ, List.set_cons_zero, List.set_cons_succ, Option.bind_some, id_eq, decide_eq_true_eq, Bool.not_eq_true', decide_eq_false_iff_not, List.length_cons, List.length_nil, Nat.zero_add, Nat.reduceAdd, true_and, and_true, List.zip_cons_cons, List.zip_nil_left, List.zip_nil_right, startS, List.map_cons, List.map_nil, List.cons_append, List.nil_append, Nat.reduceSub, List.replicate_succ, List.replicate_zero, List.append_nil, ↓reduceIte]
    refine ⟨by decide, ?_⟩
    refine of_ok hb (by decide) (by decide) fun y hp3 hy hb3 => ?_
    have hc : ∃ c, y = chr c ∧ c ∈ RSG := by
      simp only [List.mem_cons, List.not_mem_nil, or_false] at hy
      rcases hy with h | h | h | h | h | h
      · exact ⟨63, by rw [h, q63], by decide⟩
      · exact ⟨63, by rw [h, q63], by decide⟩
      · exact ⟨63, by rw [h, q63], by decide⟩
      · exact ⟨65, by rw [h, show ("A" : Str) = ⟨#[65]⟩ by decide +kernel], by decide⟩
      · exact ⟨55, by rw [h, show ("7" : Str) = ⟨#[55]⟩ by decide +kernel], by decide⟩
      · exact ⟨48, by rw [h, show ("0" : Str) = ⟨#[48]⟩ by decide +kernel], by decide⟩
    obtain ⟨c, rfl, hc⟩ := hc
    try simp only [ok_bind, ok_pure, ok_eVar, ok_eC, ok_eCls, ok_op2, ok_op1, ok_opL, ok_opN, ok_tst, ok_tNot, ok_tAnd, ok_tOr, ok_eAnd, ok_eOr, ok_eNot, ok_eIf, ok_chain, ok_aNil, ok_aCons, ok_eTup, ok_eLst, ok_nLst, ok_eFrz, ok_oNone, ok_oSome, ok_opS, ok_callV, ok_callN, ok_eCell, ok_opW, ok_opR, kthen_nx, kthen_brk, kthen_cont, kthen_ret, kthen_rtn, ok_sSeq, ok_sNil, ok_brk, ok_cont, ok_sExpr, ok_sRet, ok_sRtn, ok_sIf, ok_putV, ok_putO, ok_sSet, ok_sOwn, ok_sAsg, ok_gTup, ok_gCons, ok_gNil, ok_gSub, ok_sPar, ok_putVs0, ok_putVs1, ok_iSeq, ok_iRng, turn_nx, turn_brk, turn_cont, turn_ret, turn_rtn, ok_sFor, ok_loop0, ok_loop1, fin_nx, fin_val, fin_sl, fin_rtn, ok_runF, rd_non, rd_bl, rd_int, rd_str, rd_tup, rd_lst, rd_dct, rd_scr, rd_cls, rd_ref, rd_sl, snap_v, snap_l, snap_d, rds_nil, ex_rds, toVals_nil, toVals_cons, ex_argsOf, cur_ref, cur_sl, wr_ref, wr_sl, setV_mk, setO_mk, opdOf_v, opdOf_l, opdOf_d, vAdd_ii, vSub_ii, ex_mul, ex_div, ex_mod, ex_pow, vNeg_i, vLt_ii, vLe_ii, vGt_ii, vGe_ii, ex_eq, ex_ne, vIx_l, vIx_t, vIx_c, lAbs_i, lMin_i, lMax_i, lLen_l, lLen_t, lLen_c, lLen_s, lTup_l, lTup_t, ex_append, ex_setL, seqOf_l, seqOf_t, seqOf_c, ex_rng1, ex_rng2, frzO_v, frzO_l, frzO_d, ty_l, ty_d, ty_s, ex_map, ex_bind, ex_if, ok_nComp, ok_tYes, ok_iZip2, ok_sAug, vAddI_ii, wipe_nil, wipe_cons, Option.some.injEq, exists_eq_left', Opd.val.injEq, Val.bl.injEq, Val.int.injEq, List.getElem?_cons_zero, List.getElem?_cons_succ, List.set_cons_zero, List.set_cons_succ, Option.bind_some, id_eq, decide_eq_true_eq, Bool.not_eq_true', decide_eq_false_iff_not, List.length_cons, List.length_nil, Nat.zero_add, Nat.reduceAdd, true_and, and_true, List.zip_cons_cons, List.zip_nil_left, List.zip_nil_right, startS, List.map_cons, List.map_nil, List.cons_append, List.nil_append, Nat.reduceSub, List.replicate_succ, List.replicate_zero, List.append_nil, ↓reduceIte, List.length_map]
    have g1 := gl.lo
    have g2 := gl.hi
    refine take_ok hb3 (by omega) (by omega) fun k hp4 h3 h4 hb4 => ?_
    try simp only [ok_bind, ok_pure, ok_eVar, ok_eC, ok_eCls, ok_op2, ok_op1, ok_opL, ok_opN, ok_tst, ok_tNot, ok_tAnd, ok_tOr, ok_eAnd, ok_eOr, ok_eNot, ok_eIf, ok_chain, ok_aNil, ok_aCons, ok_eTup, ok_eLst, ok_nLst, ok_eFrz, ok_oNone, ok_oSome, ok_opS, ok_callV, ok_callN, ok_eCell, ok_opW, ok_opR, kthen_nx, kthen_brk, kthen_cont, kthen_ret, kthen_rtn, ok_sSeq, ok_sNil, ok_brk, ok_cont, ok_sExpr, ok_sRet, ok_sRtn, ok_sIf, ok_putV, ok_putO, ok_sSet, ok_sOwn, ok_sAsg, ok_gTup, ok_gCons, ok_gNil, ok_gSub, ok_sPar, ok_putVs0, ok_putVs1, ok_iSeq, ok_iRng, turn_nx, turn_brk, turn_cont, turn_ret, turn_rtn, ok_sFor, ok_loop0, ok_loop1, fin_nx, fin_val, fin_sl, fin_rtn, ok_runF, rd_non, rd_bl, rd_int, rd_str, rd_tup, rd_lst, rd_dct, rd_scr, rd_cls, rd_ref, rd_sl, snap_v, snap_l, snap_d, rds_nil, ex_rds, toVals_nil, toVals_cons, ex_argsOf, cur_ref, cur_sl, wr_ref, wr_sl, setV_mk, setO_mk, opdOf_v, opdOf_l, opdOf_d, vAdd_ii, vSub_ii, ex_mul, ex_div, ex_mod, ex_pow, vNeg_i, vLt_ii, vLe_ii, vGt_ii, vGe_ii, ex_eq, ex_ne, vIx_l, vIx_t, vIx_c, lAbs_i, lMin_i, lMax_i, lLen_l, lLen_t, lLen_c, lLen_s, lTup_l, lTup_t, ex_append, ex_setL, seqOf_l, seqOf_t, seqOf_c, ex_rng1, ex_rng2, frzO_v, frzO_l, frzO_d, ty_l, ty_d, ty_s, ex_map, ex_bind, ex_if, ok_nComp, ok_tYes, ok_iZip2, ok_sAug, vAddI_ii, wipe_nil, wipe_cons, Option.some.injEq, exists_eq_left', Opd.val.injEq, Val.bl.injEq, Val.int.injEq, List.getElem?_cons_zero, List.getElem?_cons_succ, List.set_cons_zero, List.set_cons_succ, Option.bind_some, id_eq, decide_eq_true_eq, Bool.not_eq_true', decide_eq_false_iff_not, List.length_cons, List.length_nil, Nat.zero_add, Nat.reduceAdd, true_and, and_true, List.zip_cons_cons, List.zip_nil_left, List.zip_nil_right, startS, List.map_cons, List.map_nil, List.cons_append, List.nil_append, Nat.reduceSub, List.replicate_succ, List.replicate_zero, List.append_nil, ↓reduceIte, List.length_map]
    have e : ((k.toNat : Nat) : Int) = k := by omega
    rw [← e, ixN_n (by omega)]
    refine ⟨_, rfl, l.set k.toNat c, _, _, by rw [List.map_set], ⟨by rw [List.length_set]; exact g1, by rw [List.length_set]; exact g2, fun d hd => ?_⟩, hb4⟩
    rcases List.mem_or_eq_of_mem_set hd with hd | rfl
    · exact gl.all d hd
    · exact hc
  · rintro s ⟨l, o2, hp, rfl, gl, hb⟩
    try simp only [ok_bind, ok_pure, ok_eVar, ok_eC, ok_eCls, ok_op2, ok_op1, ok_opL, ok_opN, ok_tst, ok_tNot, ok_tAnd, ok_tOr, ok_eAnd, ok_eOr, ok_eNot, ok_eIf, ok_chain, ok_aNil, ok_aCons, ok_eTup, ok_eLst, ok_nLst, ok_eFrz, ok_oNone, ok_oSome, ok_opS, ok_callV, ok_callN, ok_eCell, ok_opW, ok_opR, kthen_nx, kthen_brk, kthen_cont, kthen_ret, kthen_rtn, ok_sSeq, ok_sNil, ok_brk, ok_cont, ok_sExpr, ok_sRet, ok_sRtn, ok_sIf, ok_putV, ok_putO, ok_sSet, ok_sOwn, ok_sAsg, ok_gTup, ok_gCons, ok_gNil, ok_gSub, ok_sPar, ok_putVs0, ok_putVs1, ok_iSeq, ok_iRng, turn_nx, turn_brk, turn_cont, turn_ret, turn_rtn, ok_sFor, ok_loop0, ok_loop1, fin_nx, fin_val, fin_sl, fin_rtn, ok_runF, rd_non, rd_bl, rd_int, rd_str, rd_tup, rd_lst, rd_dct, rd_scr, rd_cls, rd_ref, rd_sl, snap_v, snap_l, snap_d, rds_nil, ex_rds, toVals_nil, toVals_cons, ex_argsOf, cur_ref, cur_sl, wr_ref, wr_sl, setV_mk, setO_mk, opdOf_v, opdOf_l, opdOf_d, vAdd_ii, vSub_ii, ex_mul, ex_div, ex_mod, ex_pow, vNeg_i, vLt_ii, vLe_ii, vGt_ii, vGe_ii, ex_eq, ex_ne, vIx_l, vIx_t, vIx_c, lAbs_i, lMin_i, lMax_i, lLen_l, lLen_t, lLen_c, lLen_s, lTup_l, lTup_t, ex_append, ex_setL, seqOf_l, seqOf_t, seqOf_c, ex_rng1, ex_rng2, frzO_v, frzO_l, frzO_d, ty_l, ty_d, ty_s, ex_map, ex_bind, ex_if, ok_nComp, ok_tYes, ok_iZip2, ok_sAug, vAddI_ii, wipe_nil, wipe_cons, Option.some.injEq, exists_eq_left', Opd.val.injEq, Val.bl.injEq, Val.int.injEq, List.getElem?_cons_zero, List.getElem?_cons_succ, List.set_cons_zero, List.set_cons_succ, Option.bind_some, id_eq, decide_eq_true_eq, Bool.not_eq_true', decide_eq_false_iff_not, List.length_cons, List.length_nil, Nat.zero_add, Nat.reduceAdd, true_and, and_true, List.zip_cons_cons, List.zip_nil_left, List.zip_nil_right, startS, List.map_cons, List.map_nil, List.cons_append, List.nil_append, Nat.reduceSub, List.replicate_succ, List.replicate_zero, List.append_nil, ↓reduceIte]
    have g2 := gl.hi
    rw [mJoin_chr gl.all (by omega)]
    exact q l hp gl hb
end G

namespace G
open PySem PySem.Spec PyProof.Rows L2
/-! ### bent texts -/
theorem vCut_s {x : Str} {a b : Option Int} : vCut (.str x) a b = some (.str (cutS x a b)) := rfl
theorem vAdd_ss {a b : Str} {P : Val → Prop} : (∃ z, vAdd (.str a) (.str b) = some z ∧ P z) ↔ a.length + b.length ≤ lim ∧ P (.str (a ++ b)) := ex_if
theorem len_app {a b : Str} : (a ++ b).length = a.length + b.length := by
  show (a ++ b).cps.size = _
  rw [Str.cps_append, Array.size_append]
  rfl
theorem cut_len {x : Str} {a b : Option Int} (h : x.length ≤ 7) : (cutS x a b).length ≤ 7 := Nat.le_trans (cutS_length x a b) h
theorem split_sp {z : Str} (h : 32 ∉ z.cps.toList) : Txt.split z " " = [z] := by
  apply TL.map_tl_inj
  rw [TL.split_spl z " " (by decide +kernel) (TL.kind_ok (by decide +kernel))]
  rw [show TL.tl (" " : Str) = [32] by decide +kernel]
  exact TL.spl_last1 h
theorem mSplit_z {z : Str} {P : Val → Prop} (h : 32 ∉ z.cps.toList) (hz : SOk z) : (∃ v, mSplit (.str z) [.str " "] = some v ∧ P v) ↔ P (.lst [.str z]) := by
  have e : mSplit (.str z) [.str " "] = some (.lst [.str z]) := by
    show (if _ ∧ _ then _ else _) = _
    rw [split_sp h, if_pos]
    · rfl
    · refine ⟨by decide +kernel, ?_⟩
      rw [List.all_cons, List.all_nil, Bool.and_true]
      exact hz
  rw [e]
  simp
theorem ex_mulL {xs : List Val} {n : Int} {P : Val → Prop} : (∃ z, vMulA (.lst xs) (.int n) = some z ∧ P z) ↔ (-1000 ≤ n ∧ n ≤ 1000 ∧ xs.length * n.toNat ≤ lim) ∧ P (.lst (List.replicate n.toNat xs).flatten) := ex_if
theorem ex_mulS {a : Str} {n : Int} {P : Val → Prop} : (∃ z, vMulA (.str a) (.int n) = some z ∧ P z) ↔ (1 ≤ n ∧ n ≤ 1000 ∧ a.length * n.toNat ≤ lim ∧ sokB (Txt.mul a n) = true) ∧ P (.str (Txt.mul a n)) := ex_if
theorem one_lit {s : Str} {c : Nat} (h : s = ⟨#[c]⟩) : s.length = 1 := by rw [h]; rfl
theorem strOk_iff {z : Str} : PyData.strOk z = true ↔ ∀ c ∈ z.cps.toList, PyData.strOk ⟨#[c]⟩ = true := by
  unfold PyData.strOk
  rw [Array.all_eq_true_iff_forall_mem]
  constructor
  · intro h c hc
    rw [Array.all_eq_true_iff_forall_mem]
    intro d hd
    have e : d = c := by simpa using hd
    subst e
    exact h d (by rw [← Array.mem_toList_iff]; exact hc)
  · intro h c hc
    have := h c (by rw [Array.mem_toList_iff]; exact hc)
    rw [Array.all_eq_true_iff_forall_mem] at this
    exact this c (by simp)
theorem joinL_mem {S : List Nat} {c : Nat} : ∀ {ps : List (List Nat)}, c ∈ TL.joinL S ps → c ∈ S ∨ ∃ p ∈ ps, c ∈ p
  | [], h => by simp [TL.joinL] at h
  | [p], h => .inr ⟨p, by simp, h⟩
  | p :: q :: r, h => by
    have h : c ∈ p ++ (S ++ TL.joinL S (q :: r)) := h
    rcases List.mem_append.mp h with h | h
    · exact .inr ⟨p, by simp, h⟩
    · rcases List.mem_append.mp h with h | h
      · exact .inl h
      · rcases joinL_mem h with h | ⟨x, h1, h2⟩
        · exact .inl h
        · exact .inr ⟨x, by simp [List.mem_cons.mp h1], h2⟩
theorem joinL_len {S : List Nat} (hS : S.length ≤ 1) : ∀ {ps : List (List Nat)}, (∀ p ∈ ps, p.length ≤ 7) → (TL.joinL S ps).length ≤ 8 * ps.length
  | [], _ => by simp [TL.joinL]
  | [p], h => by
    have := h p (by simp)
    show p.length ≤ 8 * 1
    omega
  | p :: q :: r, h => by
    have h1 := h p (by simp)
    have h2 := joinL_len hS (ps := q :: r) fun x hx => h x (List.mem_cons_of_mem _ hx)
    show (p ++ (S ++ TL.joinL S (q :: r))).length ≤ _
    rw [List.length_append, List.length_append, List.length_cons]
    omega
theorem strsOf_map : ∀ l : List Str, strsOf (l.map Val.str) = some l
  | [] => rfl
  | c :: l => by
    show (strsOf (l.map Val.str)).map (_ :: ·) = _
    rw [strsOf_map l]
    rfl
theorem join_strs {ys : List Str} {P : Val → Prop} (h : ∀ y ∈ ys, SOk y ∧ y.length ≤ 7) (hl : ys.length ≤ 4) : (∃ z, mJoin (.str " ") [.lst (ys.map Val.str)] = some z ∧ P z) ↔ P (.str (Txt.join " " ys)) := by
  have sp : TL.tl (" " : Str) = [32] := by decide +kernel
  have et : (Txt.join " " ys).cps.toList = TL.joinL [32] (ys.map TL.tl) := by
    have : TL.tl (Txt.join " " ys) = TL.joinL [32] (ys.map TL.tl) := by rw [TL.join_eq, TL.tl_join, sp]
    exact this
  have e : mJoin (.str " ") [.lst (ys.map Val.str)] = some (.str (Txt.join " " ys)) := by
    show (strsOf (ys.map Val.str)).bind _ = _
    rw [strsOf_map]
    show (if _ ∧ _ then _ else _) = _
    rw [if_pos]
    refine ⟨?_, SOk.mk ?_ ?_⟩
    · have : ∀ l : List Str, (∀ y ∈ l, y.length ≤ 7) → (l.map (·.length)).sum ≤ 7 * l.length := fun l => by
        induction l with
        | nil => intro _; simp
        | cons c l ih =>
          intro hh
          have h1 := hh c (by simp)
          have h2 := ih fun y hy => hh y (by simp [hy])
          rw [List.map_cons, List.sum_cons, List.length_cons]
          omega
      have h1 := this ys fun y hy => (h y hy).2
      rw [show (" " : Str).length = 1 by decide +kernel]
      exact Nat.le_trans (show _ ≤ 100 by omega) (by decide)
    · rw [strOk_iff, et]
      intro c hc
      rcases joinL_mem hc with hc | ⟨p, hp, hc⟩
      · have e : c = 32 := by simpa using hc
        subst e
        decide +kernel
      · obtain ⟨y, hy, rfl⟩ := List.mem_map.mp hp
        exact strOk_iff.mp (h y hy).1.ok c hc
    · rw [← len_cps, et]
      have := joinL_len (S := [32]) (by decide) (ps := ys.map TL.tl) fun p hp => by
        obtain ⟨y, hy, rfl⟩ := List.mem_map.mp hp
        have := (h y hy).2
        rw [← len_cps] at this
        exact this
      rw [List.length_map] at this
      exact Nat.le_trans (show _ ≤ 100 by omega) (by decide)
  rw [e]
  simp
def morL : List Val := [.str "a", .str " ", .str "-", .str "Z", .str "?", .str "9"]
theorem mor_one {x : Val} (h : x ∈ morL) : ∃ y : Str, x = .str y ∧ SOk y ∧ y.length = 1 := by
  unfold morL at h
  simp only [List.mem_cons, List.not_mem_nil, or_false] at h
  rcases h with h | h | h | h | h | h <;> exact ⟨_, h, by unfold SOk; decide +kernel, by decide +kernel⟩
theorem revS_ok {z : Str} (h : SOk z) (hl : z.length ≤ 2) : SOk (revS z) ∧ (revS z).length ≤ 2 := by
  have hi : (Builtin.Str.strSliceIndices none none (-1) z.length).length ≤ 2 := by
    have : z.length = 0 ∨ z.length = 1 ∨ z.length = 2 := by omega
    rcases this with e | e | e <;> (rw [e]; decide +kernel)
  have hlen : (revS z).length ≤ 2 := by
    unfold revS
    show (((Builtin.Str.strSliceIndices none none (-1) z.length).filterMap (z.cps[·]?)).toArray).size ≤ 2
    rw [List.size_toArray]
    exact Nat.le_trans (List.length_filterMap_le _ _) hi
  refine ⟨.mk ?_ (Nat.le_trans hlen (by decide)), hlen⟩
  rw [strOk_iff]
  intro c hc
  unfold revS at hc
  have hc : c ∈ (Builtin.Str.strSliceIndices none none (-1) z.length).filterMap (z.cps[·]?) := by simpa using hc
  obtain ⟨i, _, hi⟩ := List.mem_filterMap.mp hc
  refine strOk_iff.mp h.ok c ?_
  rw [Array.mem_toList_iff]
  exact Array.mem_of_getElem? hi
theorem vRevS_z {z : Str} {P : Val → Prop} (h : SOk z) (hl : z.length ≤ 2) : (∃ v, vRevS (.str z) = some v ∧ P v) ↔ P (.str (revS z)) := by
  have e : vRevS (.str z) = some (.str (revS z)) := by
    exact if_pos (revS_ok h hl).1
  rw [e]
  simp
/-- statement by statement -/
theorem ok_step {a b : SM} {s : Stt} {C : Ctl → Stt → Prop} (K : Stt → Prop) (h : Ok a s fun k s1 => kthen k (K s1) fun k => C k s1) (hK : ∀ s1, K s1 → Ok b s1 C) : Ok (sSeq a b) s C := by
  rw [ok_sSeq]
  refine h.mono fun k s1 q => ?_
  cases k with
  | nx => exact hK s1 q
  | _ => exact q
theorem bent_ok {i : Nat} {z : Str} {hp : List OV} {Q : OV → List OV → Prop} (hb : Bag i hp) (gz : GoodZ z.cps.toList) (hz : SOk z) (q : ∀ w hp', Bag i hp' → Q (.v (.str w)) hp') : FOk (F__law_bent [.ref i, .str z, .lst morL] hp) Q := by
  have hl : z.length ≤ 7 := by have := gz.hi; rw [len_cps] at this; exact this
  have h32 : 32 ∉ z.cps.toList := fun h => by
    have := gz.all _ h
    revert this
    decide
  have hz1 : ∀ a b, (cutS z a b).length ≤ 7 := fun a b => cut_len hl
  have hlim : 100 ≤ lim := by decide
  unfold F__law_bent m__law_bent
  rw [ok_runF]
  refine ok_step (fun s => ∃ al : Str, s = ⟨[some (.v (.ref i)), some (.v (.str z)), some (.v (.lst morL)), some (.v (.str al)), none, none, none, none, none], hp⟩ ∧ 0 < al.length ∧ al.length < 1073741824) ?_ ?_
  · try simp only [ok_bind, ok_pure, ok_eVar, ok_eC, ok_eCls, ok_op2, ok_op1, ok_opL, ok_opN, ok_tst, ok_tNot, ok_tAnd, ok_tOr, ok_eAnd, ok_eOr, ok_eNot, ok_eIf, ok_chain, ok_aNil, ok_aCons, ok_eTup, ok_eLst, ok_nLst, ok_eFrz, ok_oNone, ok_oSome, ok_opS, ok_callV, ok_callN, ok_eCell, ok_opW, ok_opR, kthen_nx, kthen_brk, kthen_cont, kthen_ret, kthen_rtn, ok_sSeq, ok_sNil, ok_brk, ok_cont, ok_sExpr, ok_sRet, ok_sRtn, ok_sIf, ok_putV, ok_putO, ok_sSet, ok_sOwn, ok_sAsg, ok_gTup, ok_gCons, ok_gNil, ok_gSub, ok_sPar, ok_putVs0, ok_putVs1, ok_iSeq, ok_iRng, turn_nx, turn_brk, turn_cont, turn_ret, turn_rtn, ok_sFor, ok_loop0, ok_loop1, fin_nx, fin_val, fin_sl, fin_rtn, ok_runF, rd_non, rd_bl, rd_int, rd_str, rd_tup, rd_lst, rd_dct, rd_scr, rd_cls, rd_ref, rd_sl, snap_v, snap_l, snap_d, rds_nil, ex_rds, toVals_nil, toVals_cons, ex_argsOf, cur_ref, cur_sl, wr_ref, wr_sl, setV_mk, setO_mk, opdOf_v, opdOf_l, opdOf_d, vAdd_ii, vSub_ii, ex_mul, ex_div, ex_mod, ex_pow, vNeg_i, vLt_ii, vLe_ii, vGt_ii, vGe_ii, ex_eq, ex_ne, vIx_l, vIx_t, vIx_c, lAbs_i, lMin_i, lMax_i, lLen_l, lLen_t, lLen_c, lLen_s, lTup_l, lTup_t, ex_append, ex_setL, seqOf_l, seqOf_t, seqOf_c, ex_rng1, ex_rng2, frzO_v, frzO_l, frzO_d, ty_l, ty_d, ty_s, ex_map, ex_bind, ex_if, ok_nComp, ok_tYes, ok_iZip2, ok_sAug, vAddI_ii, wipe_nil, wipe_cons, Option.some.injEq, exists_eq_left', Opd.val.injEq, Val.bl.injEq, Val.int.injEq, List.getElem?_cons_zero, List.getElem?_cons_succ, List.set_cons_zero, List.set_cons_succ, Option.bind_some, id_eq, decide_eq_true_eq, Bool.not_eq_true', decide_eq_false_iff_not, List.length_cons, List.length_nil, Nat.zero_add, Nat.reduceAdd, true_and, and_true, List.zip_cons_cons, List.zip_nil_left, List.zip_nil_right, startS, List.map_cons, List.map_nil, List.cons_append, List.nil_append, Nat.reduceSub, List.replicate_succ, List.replicate_zero, List.append_nil, ↓reduceIte]
    refine ⟨_, rfl, ?_, ?_⟩ <;> decide +kernel
  rintro s ⟨al, rfl, a0, a1⟩
  refine ok_step (fun s => ∃ (way : Int) (hp : List OV), s = ⟨[some (.v (.ref i)), some (.v (.str z)), some (.v (.lst morL)), some (.v (.str al)), some (.v (.int way)), none, none, none, none], hp⟩ ∧ 0 ≤ way ∧ way < 9 ∧ Bag i hp) ?_ ?_
  · try simp only [ok_bind, ok_pure, ok_eVar, ok_eC, ok_eCls, ok_op2, ok_op1, ok_opL, ok_opN, ok_tst, ok_tNot, ok_tAnd, ok_tOr, ok_eAnd, ok_eOr, ok_eNot, ok_eIf, ok_chain, ok_aNil, ok_aCons, ok_eTup, ok_eLst, ok_nLst, ok_eFrz, ok_oNone, ok_oSome, ok_opS, ok_callV, ok_callN, ok_eCell, ok_opW, ok_opR, kthen_nx, kthen_brk, kthen_cont, kthen_ret, kthen_rtn, ok_sSeq, ok_sNil, ok_brk, ok_cont, ok_sExpr, ok_sRet, ok_sRtn, ok_sIf, ok_putV, ok_putO, ok_sSet, ok_sOwn, ok_sAsg, ok_gTup, ok_gCons, ok_gNil, ok_gSub, ok_sPar, ok_putVs0, ok_putVs1, ok_iSeq, ok_iRng, turn_nx, turn_brk, turn_cont, turn_ret, turn_rtn, ok_sFor, ok_loop0, ok_loop1, fin_nx, fin_val, fin_sl, fin_rtn, ok_runF, rd_non, rd_bl, rd_int, rd_str, rd_tup, rd_lst, rd_dct, rd_scr, rd_cls, rd_ref, rd_sl, snap_v, snap_l, snap_d, rds_nil, ex_rds, toVals_nil, toVals_cons, ex_argsOf, cur_ref, cur_sl, wr_ref, wr_sl, setV_mk, setO_mk, opdOf_v, opdOf_l, opdOf_d, vAdd_ii, vSub_ii, ex_mul, ex_div, ex_mod, ex_pow, vNeg_i, vLt_ii, vLe_ii, vGt_ii, vGe_ii, ex_eq, ex_ne, vIx_l, vIx_t, vIx_c, lAbs_i, lMin_i, lMax_i, lLen_l, lLen_t, lLen_c, lLen_s, lTup_l, lTup_t, ex_append, ex_setL, seqOf_l, seqOf_t, seqOf_c, ex_rng1, ex_rng2, frzO_v, frzO_l, frzO_d, ty_l, ty_d, ty_s, ex_map, ex_bind, ex_if, ok_nComp, ok_tYes, ok_iZip2, ok_sAug, vAddI_ii, wipe_nil, wipe_cons, Option.some.injEq, exists_eq_left', Opd.val.injEq, Val.bl.injEq, Val.int.injEq, List.getElem?_cons_zero, List.getElem?_cons_succ, List.set_cons_zero, List.set_cons_succ, Option.bind_some, id_eq, decide_eq_true_eq, Bool.not_eq_true', decide_eq_false_iff_not, List.length_cons, List.length_nil, Nat.zero_add, Nat.reduceAdd, true_and, and_true, List.zip_cons_cons, List.zip_nil_left, List.zip_nil_right, startS, List.map_cons, List.map_nil, List.cons_append, List.nil_append, Nat.reduceSub, List.replicate_succ, List.replicate_zero, List.append_nil, ↓reduceIte]
    refine take_ok hb (by decide) (by decide) fun way hp1 w0 w1 hb1 => ?_
    try simp only [ok_bind, ok_pure, ok_eVar, ok_eC, ok_eCls, ok_op2, ok_op1, ok_opL, ok_opN, ok_tst, ok_tNot, ok_tAnd, ok_tOr, ok_eAnd, ok_eOr, ok_eNot, ok_eIf, ok_chain, ok_aNil, ok_aCons, ok_eTup, ok_eLst, ok_nLst, ok_eFrz, ok_oNone, ok_oSome, ok_opS, ok_callV, ok_callN, ok_eCell, ok_opW, ok_opR, kthen_nx, kthen_brk, kthen_cont, kthen_ret, kthen_rtn, ok_sSeq, ok_sNil, ok_brk, ok_cont, ok_sExpr, ok_sRet, ok_sRtn, ok_sIf, ok_putV, ok_putO, ok_sSet, ok_sOwn, ok_sAsg, ok_gTup, ok_gCons, ok_gNil, ok_gSub, ok_sPar, ok_putVs0, ok_putVs1, ok_iSeq, ok_iRng, turn_nx, turn_brk, turn_cont, turn_ret, turn_rtn, ok_sFor, ok_loop0, ok_loop1, fin_nx, fin_val, fin_sl, fin_rtn, ok_runF, rd_non, rd_bl, rd_int, rd_str, rd_tup, rd_lst, rd_dct, rd_scr, rd_cls, rd_ref, rd_sl, snap_v, snap_l, snap_d, rds_nil, ex_rds, toVals_nil, toVals_cons, ex_argsOf, cur_ref, cur_sl, wr_ref, wr_sl, setV_mk, setO_mk, opdOf_v, opdOf_l, opdOf_d, vAdd_ii, vSub_ii, ex_mul, ex_div, ex_mod, ex_pow, vNeg_i, vLt_ii, vLe_ii, vGt_ii, vGe_ii, ex_eq, ex_ne, vIx_l, vIx_t, vIx_c, lAbs_i, lMin_i, lMax_i, lLen_l, lLen_t, lLen_c, lLen_s, lTup_l, lTup_t, ex_append, ex_setL, seqOf_l, seqOf_t, seqOf_c, ex_rng1, ex_rng2, frzO_v, frzO_l, frzO_d, ty_l, ty_d, ty_s, ex_map, ex_bind, ex_if, ok_nComp, ok_tYes, ok_iZip2, ok_sAug, vAddI_ii, wipe_nil, wipe_cons, Option.some.injEq, exists_eq_left', Opd.val.injEq, Val.bl.injEq, Val.int.injEq, List.getElem?_cons_zero, List.getElem?_cons_succ, List.set_cons_zero, List.set_cons_succ, Option.bind_some, id_eq, decide_eq_true_eq, Bool.not_eq_true', decide_eq_false_iff_not, List.length_cons, List.length_nil, Nat.zero_add, Nat.reduceAdd, true_and, and_true, List.zip_cons_cons, List.zip_nil_left, List.zip_nil_right, startS, List.map_cons, List.map_nil, List.cons_append, List.nil_append, Nat.reduceSub, List.replicate_succ, List.replicate_zero, List.append_nil, ↓reduceIte]
    exact ⟨way, _, rfl, w0, w1, hb1⟩
  rintro s ⟨way, hp, rfl, w0, w1, hb⟩
  refine ok_step (fun s => ∃ (sg : Str) (hp : List OV), s = ⟨[some (.v (.ref i)), some (.v (.str z)), some (.v (.lst morL)), some (.v (.str al)), some (.v (.int way)), some (.v (.str sg)), none, none, none], hp⟩ ∧ sg.length ≤ 1 ∧ Bag i hp) ?_ ?_
  · try simp only [ok_bind, ok_pure, ok_eVar, ok_eC, ok_eCls, ok_op2, ok_op1, ok_opL, ok_opN, ok_tst, ok_tNot, ok_tAnd, ok_tOr, ok_eAnd, ok_eOr, ok_eNot, ok_eIf, ok_chain, ok_aNil, ok_aCons, ok_eTup, ok_eLst, ok_nLst, ok_eFrz, ok_oNone, ok_oSome, ok_opS, ok_callV, ok_callN, ok_eCell, ok_opW, ok_opR, kthen_nx, kthen_brk, kthen_cont, kthen_ret, kthen_rtn, ok_sSeq, ok_sNil, ok_brk, ok_cont, ok_sExpr, ok_sRet, ok_sRtn, ok_sIf, ok_putV, ok_putO, ok_sSet, ok_sOwn, ok_sAsg, ok_gTup, ok_gCons, ok_gNil, ok_gSub, ok_sPar, ok_putVs0, ok_putVs1, ok_iSeq, ok_iRng, turn_nx, turn_brk, turn_cont, turn_ret, turn_rtn, ok_sFor, ok_loop0, ok_loop1, fin_nx, fin_val, fin_sl, fin_rtn, ok_runF, rd_non, rd_bl, rd_int, rd_str, rd_tup, rd_lst, rd_dct, rd_scr, rd_cls, rd_ref, rd_sl, snap_v, snap_l, snap_d, rds_nil, ex_rds, toVals_nil, toVals_cons, ex_argsOf, cur_ref, cur_sl, wr_ref, wr_sl, setV_mk, setO_mk, opdOf_v, opdOf_l, opdOf_d, vAdd_ii, vSub_ii, ex_mul, ex_div, ex_mod, ex_pow, vNeg_i, vLt_ii, vLe_ii, vGt_ii, vGe_ii, ex_eq, ex_ne, vIx_l, vIx_t, vIx_c, lAbs_i, lMin_i, lMax_i, lLen_l, lLen_t, lLen_c, lLen_s, lTup_l, lTup_t, ex_append, ex_setL, seqOf_l, seqOf_t, seqOf_c, ex_rng1, ex_rng2, frzO_v, frzO_l, frzO_d, ty_l, ty_d, ty_s, ex_map, ex_bind, ex_if, ok_nComp, ok_tYes, ok_iZip2, ok_sAug, vAddI_ii, wipe_nil, wipe_cons, Option.some.injEq, exists_eq_left', Opd.val.injEq, Val.bl.injEq, Val.int.injEq, List.getElem?_cons_zero, List.getElem?_cons_succ, List.set_cons_zero, List.set_cons_succ, Option.bind_some, id_eq, decide_eq_true_eq, Bool.not_eq_true', decide_eq_false_iff_not, List.length_cons, List.length_nil, Nat.zero_add, Nat.reduceAdd, true_and, and_true, List.zip_cons_cons, List.zip_nil_left, List.zip_nil_right, startS, List.map_cons, List.map_nil, List.cons_append, List.nil_append, Nat.reduceSub, List.replicate_succ, List.replicate_zero, List.append_nil, ↓reduceIte]
    refine ofS_ok hb a0 a1 fun c hp2 _ hb2 => ?_
    try simp only [ok_bind, ok_pure, ok_eVar, ok_eC, ok_eCls, ok_op2, ok_op1, ok_opL, ok_opN, ok_tst, ok_tNot, ok_tAnd, ok_tOr, ok_eAnd, ok_eOr, ok_eNot, ok_eIf, ok_chain, ok_aNil, ok_aCons, ok_eTup, ok_eLst, ok_nLst, ok_eFrz, ok_oNone, ok_oSome, ok_opS, ok_callV, ok_callN, ok_eCell, ok_opW, ok_opR, kthen_nx, kthen_brk, kthen_cont, kthen_ret, kthen_rtn, ok_sSeq, ok_sNil, ok_brk, ok_cont, ok_sExpr, ok_sRet, ok_sRtn, ok_sIf, ok_putV, ok_putO, ok_sSet, ok_sOwn, ok_sAsg, ok_gTup, ok_gCons, ok_gNil, ok_gSub, ok_sPar, ok_putVs0, ok_putVs1, ok_iSeq, ok_iRng, turn_nx, turn_brk, turn_cont, turn_ret, turn_rtn, ok_sFor, ok_loop0, ok_loop1, fin_nx, fin_val, fin_sl, fin_rtn, ok_runF, rd_non, rd_bl, rd_int, rd_str, rd_tup, rd_lst, rd_dct, rd_scr, rd_cls, rd_ref, rd_sl, snap_v, snap_l, snap_d, rds_nil, ex_rds, toVals_nil, toVals_cons, ex_argsOf, cur_ref, cur_sl, wr_ref, wr_sl, setV_mk, setO_mk, opdOf_v, opdOf_l, opdOf_d, vAdd_ii, vSub_ii, ex_mul, ex_div, ex_mod, ex_pow, vNeg_i, vLt_ii, vLe_ii, vGt_ii, vGe_ii, ex_eq, ex_ne, vIx_l, vIx_t, vIx_c, lAbs_i, lMin_i, lMax_i, lLen_l, lLen_t, lLen_c, lLen_s, lTup_l, lTup_t, ex_append, ex_setL, seqOf_l, seqOf_t, seqOf_c, ex_rng1, ex_rng2, frzO_v, frzO_l, frzO_d, ty_l, ty_d, ty_s, ex_map, ex_bind, ex_if, ok_nComp, ok_tYes, ok_iZip2, ok_sAug, vAddI_ii, wipe_nil, wipe_cons, Option.some.injEq, exists_eq_left', Opd.val.injEq, Val.bl.injEq, Val.int.injEq, List.getElem?_cons_zero, List.getElem?_cons_succ, List.set_cons_zero, List.set_cons_succ, Option.bind_some, id_eq, decide_eq_true_eq, Bool.not_eq_true', decide_eq_false_iff_not, List.length_cons, List.length_nil, Nat.zero_add, Nat.reduceAdd, true_and, and_true, List.zip_cons_cons, List.zip_nil_left, List.zip_nil_right, startS, List.map_cons, List.map_nil, List.cons_append, List.nil_append, Nat.reduceSub, List.replicate_succ, List.replicate_zero, List.append_nil, ↓reduceIte]
    exact ⟨⟨#[c]⟩, _, rfl, Nat.le_refl _, hb2⟩
  rintro s ⟨sg, hp, rfl, hsg, hb⟩
  refine ok_step (fun s => ∃ (sg : Str) (hp : List OV), s = ⟨[some (.v (.ref i)), some (.v (.str z)), some (.v (.lst morL)), some (.v (.str al)), some (.v (.int way)), some (.v (.str sg)), none, none, none], hp⟩ ∧ sg.length ≤ 1 ∧ Bag i hp) ?_ ?_
  · try simp only [ok_bind, ok_pure, ok_eVar, ok_eC, ok_eCls, ok_op2, ok_op1, ok_opL, ok_opN, ok_tst, ok_tNot, ok_tAnd, ok_tOr, ok_eAnd, ok_eOr, ok_eNot, ok_eIf, ok_chain, ok_aNil, ok_aCons, ok_eTup, ok_eLst, ok_nLst, ok_eFrz, ok_oNone, ok_oSome, ok_opS, ok_callV, ok_callN, ok_eCell, ok_opW, ok_opR, kthen_nx, kthen_brk, kthen_cont, kthen_ret, kthen_rtn, ok_sSeq, ok_sNil, ok_brk, ok_cont, ok_sExpr, ok_sRet, ok_sRtn, ok_sIf, ok_putV, ok_putO, ok_sSet, ok_sOwn, ok_sAsg, ok_gTup, ok_gCons, ok_gNil, ok_gSub, ok_sPar, ok_putVs0, ok_putVs1, ok_iSeq, ok_iRng, turn_nx, turn_brk, turn_cont, turn_ret, turn_rtn, ok_sFor, ok_loop0, ok_loop1, fin_nx, fin_val, fin_sl, fin_rtn, ok_runF, rd_non, rd_bl, rd_int, rd_str, rd_tup, rd_lst, rd_dct, rd_scr, rd_cls, rd_ref, rd_sl, snap_v, snap_l, snap_d, rds_nil, ex_rds, toVals_nil, toVals_cons, ex_argsOf, cur_ref, cur_sl, wr_ref, wr_sl, setV_mk, setO_mk, opdOf_v, opdOf_l, opdOf_d, vAdd_ii, vSub_ii, ex_mul, ex_div, ex_mod, ex_pow, vNeg_i, vLt_ii, vLe_ii, vGt_ii, vGe_ii, ex_eq, ex_ne, vIx_l, vIx_t, vIx_c, lAbs_i, lMin_i, lMax_i, lLen_l, lLen_t, lLen_c, lLen_s, lTup_l, lTup_t, ex_append, ex_setL, seqOf_l, seqOf_t, seqOf_c, ex_rng1, ex_rng2, frzO_v, frzO_l, frzO_d, ty_l, ty_d, ty_s, ex_map, ex_bind, ex_if, ok_nComp, ok_tYes, ok_iZip2, ok_sAug, vAddI_ii, wipe_nil, wipe_cons, Option.some.injEq, exists_eq_left', Opd.val.injEq, Val.bl.injEq, Val.int.injEq, List.getElem?_cons_zero, List.getElem?_cons_succ, List.set_cons_zero, List.set_cons_succ, Option.bind_some, id_eq, decide_eq_true_eq, Bool.not_eq_true', decide_eq_false_iff_not, List.length_cons, List.length_nil, Nat.zero_add, Nat.reduceAdd, true_and, and_true, List.zip_cons_cons, List.zip_nil_left, List.zip_nil_right, startS, List.map_cons, List.map_nil, List.cons_append, List.nil_append, Nat.reduceSub, List.replicate_succ, List.replicate_zero, List.append_nil, ↓reduceIte]
    refine take_ok hb (by decide) (by decide) fun t hp1 _ _ hb1 => ?_
    try simp only [ok_bind, ok_pure, ok_eVar, ok_eC, ok_eCls, ok_op2, ok_op1, ok_opL, ok_opN, ok_tst, ok_tNot, ok_tAnd, ok_tOr, ok_eAnd, ok_eOr, ok_eNot, ok_eIf, ok_chain, ok_aNil, ok_aCons, ok_eTup, ok_eLst, ok_nLst, ok_eFrz, ok_oNone, ok_oSome, ok_opS, ok_callV, ok_callN, ok_eCell, ok_opW, ok_opR, kthen_nx, kthen_brk, kthen_cont, kthen_ret, kthen_rtn, ok_sSeq, ok_sNil, ok_brk, ok_cont, ok_sExpr, ok_sRet, ok_sRtn, ok_sIf, ok_putV, ok_putO, ok_sSet, ok_sOwn, ok_sAsg, ok_gTup, ok_gCons, ok_gNil, ok_gSub, ok_sPar, ok_putVs0, ok_putVs1, ok_iSeq, ok_iRng, turn_nx, turn_brk, turn_cont, turn_ret, turn_rtn, ok_sFor, ok_loop0, ok_loop1, fin_nx, fin_val, fin_sl, fin_rtn, ok_runF, rd_non, rd_bl, rd_int, rd_str, rd_tup, rd_lst, rd_dct, rd_scr, rd_cls, rd_ref, rd_sl, snap_v, snap_l, snap_d, rds_nil, ex_rds, toVals_nil, toVals_cons, ex_argsOf, cur_ref, cur_sl, wr_ref, wr_sl, setV_mk, setO_mk, opdOf_v, opdOf_l, opdOf_d, vAdd_ii, vSub_ii, ex_mul, ex_div, ex_mod, ex_pow, vNeg_i, vLt_ii, vLe_ii, vGt_ii, vGe_ii, ex_eq, ex_ne, vIx_l, vIx_t, vIx_c, lAbs_i, lMin_i, lMax_i, lLen_l, lLen_t, lLen_c, lLen_s, lTup_l, lTup_t, ex_append, ex_setL, seqOf_l, seqOf_t, seqOf_c, ex_rng1, ex_rng2, frzO_v, frzO_l, frzO_d, ty_l, ty_d, ty_s, ex_map, ex_bind, ex_if, ok_nComp, ok_tYes, ok_iZip2, ok_sAug, vAddI_ii, wipe_nil, wipe_cons, Option.some.injEq, exists_eq_left', Opd.val.injEq, Val.bl.injEq, Val.int.injEq, List.getElem?_cons_zero, List.getElem?_cons_succ, List.set_cons_zero, List.set_cons_succ, Option.bind_some, id_eq, decide_eq_true_eq, Bool.not_eq_true', decide_eq_false_iff_not, List.length_cons, List.length_nil, Nat.zero_add, Nat.reduceAdd, true_and, and_true, List.zip_cons_cons, List.zip_nil_left, List.zip_nil_right, startS, List.map_cons, List.map_nil, List.cons_append, List.nil_append, Nat.reduceSub, List.replicate_succ, List.replicate_zero, List.append_nil, ↓reduceIte, dep_int]
    refine ⟨rfl, ?_⟩
    split
    · refine of_ok hb1 (by decide) (by decide) fun y hp4 hy hb4 => ?_
      obtain ⟨sg, rfl, _, hs1⟩ := mor_one hy
      try simp only [ok_bind, ok_pure, ok_eVar, ok_eC, ok_eCls, ok_op2, ok_op1, ok_opL, ok_opN, ok_tst, ok_tNot, ok_tAnd, ok_tOr, ok_eAnd, ok_eOr, ok_eNot, ok_eIf, ok_chain, ok_aNil, ok_aCons, ok_eTup, ok_eLst, ok_nLst, ok_eFrz, ok_oNone, ok_oSome, ok_opS, ok_callV, ok_callN, ok_eCell, ok_opW, ok_opR, kthen_nx, kthen_brk, kthen_cont, kthen_ret, kthen_rtn, ok_sSeq, ok_sNil, ok_brk, ok_cont, ok_sExpr, ok_sRet, ok_sRtn, ok_sIf, ok_putV, ok_putO, ok_sSet, ok_sOwn, ok_sAsg, ok_gTup, ok_gCons, ok_gNil, ok_gSub, ok_sPar, ok_putVs0, ok_putVs1, ok_iSeq, ok_iRng, turn_nx, turn_brk, turn_cont, turn_ret, turn_rtn, ok_sFor, ok_loop0, ok_loop1, fin_nx, fin_val, fin_sl, fin_rtn, ok_runF, rd_non, rd_bl, rd_int, rd_str, rd_tup, rd_lst, rd_dct, rd_scr, rd_cls, rd_ref, rd_sl, snap_v, snap_l, snap_d, rds_nil, ex_rds, toVals_nil, toVals_cons, ex_argsOf, cur_ref, cur_sl, wr_ref, wr_sl, setV_mk, setO_mk, opdOf_v, opdOf_l, opdOf_d, vAdd_ii, vSub_ii, ex_mul, ex_div, ex_mod, ex_pow, vNeg_i, vLt_ii, vLe_ii, vGt_ii, vGe_ii, ex_eq, ex_ne, vIx_l, vIx_t, vIx_c, lAbs_i, lMin_i, lMax_i, lLen_l, lLen_t, lLen_c, lLen_s, lTup_l, lTup_t, ex_append, ex_setL, seqOf_l, seqOf_t, seqOf_c, ex_rng1, ex_rng2, frzO_v, frzO_l, frzO_d, ty_l, ty_d, ty_s, ex_map, ex_bind, ex_if, ok_nComp, ok_tYes, ok_iZip2, ok_sAug, vAddI_ii, wipe_nil, wipe_cons, Option.some.injEq, exists_eq_left', Opd.val.injEq, Val.bl.injEq, Val.int.injEq, List.getElem?_cons_zero, List.getElem?_cons_succ, List.set_cons_zero, List.set_cons_succ, Option.bind_some, id_eq, decide_eq_true_eq, Bool.not_eq_true', decide_eq_false_iff_not, List.length_cons, List.length_nil, Nat.zero_add, Nat.reduceAdd, true_and, and_true, List.zip_cons_cons, List.zip_nil_left, List.zip_nil_right, startS, List.map_cons, List.map_nil, List.cons_append, List.nil_append, Nat.reduceSub, List.replicate_succ, List.replicate_zero, List.append_nil, ↓reduceIte]
      exact ⟨sg, _, rfl, by omega, hb4⟩
    · exact ⟨sg, _, rfl, hsg, hb1⟩
  clear hb hsg sg hp
  rintro s ⟨sg, hp, rfl, hsg, hb⟩
  refine ok_step (fun s => ∃ (at' : Int) (hp : List OV), s = ⟨[some (.v (.ref i)), some (.v (.str z)), some (.v (.lst morL)), some (.v (.str al)), some (.v (.int way)), some (.v (.str sg)), some (.v (.int at')), none, none], hp⟩ ∧ 0 ≤ at' ∧ Bag i hp) ?_ ?_
  · try simp only [ok_bind, ok_pure, ok_eVar, ok_eC, ok_eCls, ok_op2, ok_op1, ok_opL, ok_opN, ok_tst, ok_tNot, ok_tAnd, ok_tOr, ok_eAnd, ok_eOr, ok_eNot, ok_eIf, ok_chain, ok_aNil, ok_aCons, ok_eTup, ok_eLst, ok_nLst, ok_eFrz, ok_oNone, ok_oSome, ok_opS, ok_callV, ok_callN, ok_eCell, ok_opW, ok_opR, kthen_nx, kthen_brk, kthen_cont, kthen_ret, kthen_rtn, ok_sSeq, ok_sNil, ok_brk, ok_cont, ok_sExpr, ok_sRet, ok_sRtn, ok_sIf, ok_putV, ok_putO, ok_sSet, ok_sOwn, ok_sAsg, ok_gTup, ok_gCons, ok_gNil, ok_gSub, ok_sPar, ok_putVs0, ok_putVs1, ok_iSeq, ok_iRng, turn_nx, turn_brk, turn_cont, turn_ret, turn_rtn, ok_sFor, ok_loop0, ok_loop1, fin_nx, fin_val, fin_sl, fin_rtn, ok_runF, rd_non, rd_bl, rd_int, rd_str, rd_tup, rd_lst, rd_dct, rd_scr, rd_cls, rd_ref, rd_sl, snap_v, snap_l, snap_d, rds_nil, ex_rds, toVals_nil, toVals_cons, ex_argsOf, cur_ref, cur_sl, wr_ref, wr_sl, setV_mk, setO_mk, opdOf_v, opdOf_l, opdOf_d, vAdd_ii, vSub_ii, ex_mul, ex_div, ex_mod, ex_pow, vNeg_i, vLt_ii, vLe_ii, vGt_ii, vGe_ii, ex_eq, ex_ne, vIx_l, vIx_t, vIx_c, lAbs_i, lMin_i, lMax_i, lLen_l, lLen_t, lLen_c, lLen_s, lTup_l, lTup_t, ex_append, ex_setL, seqOf_l, seqOf_t, seqOf_c, ex_rng1, ex_rng2, frzO_v, frzO_l, frzO_d, ty_l, ty_d, ty_s, ex_map, ex_bind, ex_if, ok_nComp, ok_tYes, ok_iZip2, ok_sAug, vAddI_ii, wipe_nil, wipe_cons, Option.some.injEq, exists_eq_left', Opd.val.injEq, Val.bl.injEq, Val.int.injEq, List.getElem?_cons_zero, List.getElem?_cons_succ, List.set_cons_zero, List.set_cons_succ, Option.bind_some, id_eq, decide_eq_true_eq, Bool.not_eq_true', decide_eq_false_iff_not, List.length_cons, List.length_nil, Nat.zero_add, Nat.reduceAdd, true_and, and_true, List.zip_cons_cons, List.zip_nil_left, List.zip_nil_right, startS, List.map_cons, List.map_nil, List.cons_append, List.nil_append, Nat.reduceSub, List.replicate_succ, List.replicate_zero, List.append_nil, ↓reduceIte]
    refine take_ok hb (by omega) (by omega) fun t hp1 h0 _ hb1 => ?_
    try simp only [ok_bind, ok_pure, ok_eVar, ok_eC, ok_eCls, ok_op2, ok_op1, ok_opL, ok_opN, ok_tst, ok_tNot, ok_tAnd, ok_tOr, ok_eAnd, ok_eOr, ok_eNot, ok_eIf, ok_chain, ok_aNil, ok_aCons, ok_eTup, ok_eLst, ok_nLst, ok_eFrz, ok_oNone, ok_oSome, ok_opS, ok_callV, ok_callN, ok_eCell, ok_opW, ok_opR, kthen_nx, kthen_brk, kthen_cont, kthen_ret, kthen_rtn, ok_sSeq, ok_sNil, ok_brk, ok_cont, ok_sExpr, ok_sRet, ok_sRtn, ok_sIf, ok_putV, ok_putO, ok_sSet, ok_sOwn, ok_sAsg, ok_gTup, ok_gCons, ok_gNil, ok_gSub, ok_sPar, ok_putVs0, ok_putVs1, ok_iSeq, ok_iRng, turn_nx, turn_brk, turn_cont, turn_ret, turn_rtn, ok_sFor, ok_loop0, ok_loop1, fin_nx, fin_val, fin_sl, fin_rtn, ok_runF, rd_non, rd_bl, rd_int, rd_str, rd_tup, rd_lst, rd_dct, rd_scr, rd_cls, rd_ref, rd_sl, snap_v, snap_l, snap_d, rds_nil, ex_rds, toVals_nil, toVals_cons, ex_argsOf, cur_ref, cur_sl, wr_ref, wr_sl, setV_mk, setO_mk, opdOf_v, opdOf_l, opdOf_d, vAdd_ii, vSub_ii, ex_mul, ex_div, ex_mod, ex_pow, vNeg_i, vLt_ii, vLe_ii, vGt_ii, vGe_ii, ex_eq, ex_ne, vIx_l, vIx_t, vIx_c, lAbs_i, lMin_i, lMax_i, lLen_l, lLen_t, lLen_c, lLen_s, lTup_l, lTup_t, ex_append, ex_setL, seqOf_l, seqOf_t, seqOf_c, ex_rng1, ex_rng2, frzO_v, frzO_l, frzO_d, ty_l, ty_d, ty_s, ex_map, ex_bind, ex_if, ok_nComp, ok_tYes, ok_iZip2, ok_sAug, vAddI_ii, wipe_nil, wipe_cons, Option.some.injEq, exists_eq_left', Opd.val.injEq, Val.bl.injEq, Val.int.injEq, List.getElem?_cons_zero, List.getElem?_cons_succ, List.set_cons_zero, List.set_cons_succ, Option.bind_some, id_eq, decide_eq_true_eq, Bool.not_eq_true', decide_eq_false_iff_not, List.length_cons, List.length_nil, Nat.zero_add, Nat.reduceAdd, true_and, and_true, List.zip_cons_cons, List.zip_nil_left, List.zip_nil_right, startS, List.map_cons, List.map_nil, List.cons_append, List.nil_append, Nat.reduceSub, List.replicate_succ, List.replicate_zero, List.append_nil, ↓reduceIte]
    exact ⟨t, _, rfl, h0, hb1⟩
  clear hb hp
  rintro s ⟨at', hp, rfl, t0, hb⟩
  have same : ∀ (p : Prop) {C : Ctl → Stt → Prop} {t : M Bool} {a b : SM} {s : Stt}, Ok t s (fun c s1 => if c = true then Ok a s1 (fun k s2 => k ≠ .nx ∧ C k s2) else s1 = s ∧ p) → (p → Ok b s C) → Ok (sSeq (sIf t a sNil) b) s C := fun p {C t a b s} h1 h2 => by
    refine ok_step (fun s1 => s1 = s ∧ p) ?_ fun s1 e => by rw [e.1]; exact h2 e.2
    rw [ok_sIf]
    refine h1.mono fun c s1 q => ?_
    split
    · rename_i hc
      rw [if_pos hc] at q
      refine q.mono fun k s2 ⟨n, q⟩ => ?_
      cases k with
      | nx => exact absurd rfl n
      | _ => exact q
    · rename_i hc
      rw [if_neg hc] at q
      rw [ok_sNil]
      exact q
  have cl := fun a b => hz1 a b
  refine same (¬ way < 2) ?_ fun n0 => ?_
  · try simp only [ok_bind, ok_pure, ok_eVar, ok_eC, ok_eCls, ok_op2, ok_op1, ok_opL, ok_opN, ok_tst, ok_tNot, ok_tAnd, ok_tOr, ok_eAnd, ok_eOr, ok_eNot, ok_eIf, ok_chain, ok_aNil, ok_aCons, ok_eTup, ok_eLst, ok_nLst, ok_eFrz, ok_oNone, ok_oSome, ok_opS, ok_callV, ok_callN, ok_eCell, ok_opW, ok_opR, kthen_nx, kthen_brk, kthen_cont, kthen_ret, kthen_rtn, ok_sSeq, ok_sNil, ok_brk, ok_cont, ok_sExpr, ok_sRet, ok_sRtn, ok_sIf, ok_putV, ok_putO, ok_sSet, ok_sOwn, ok_sAsg, ok_gTup, ok_gCons, ok_gNil, ok_gSub, ok_sPar, ok_putVs0, ok_putVs1, ok_iSeq, ok_iRng, turn_nx, turn_brk, turn_cont, turn_ret, turn_rtn, ok_sFor, ok_loop0, ok_loop1, fin_nx, fin_val, fin_sl, fin_rtn, ok_runF, rd_non, rd_bl, rd_int, rd_str, rd_tup, rd_lst, rd_dct, rd_scr, rd_cls, rd_ref, rd_sl, snap_v, snap_l, snap_d, rds_nil, ex_rds, toVals_nil, toVals_cons, ex_argsOf, cur_ref, cur_sl, wr_ref, wr_sl, setV_mk, setO_mk, opdOf_v, opdOf_l, opdOf_d, vAdd_ii, vSub_ii, ex_mul, ex_div, ex_mod, ex_pow, vNeg_i, vLt_ii, vLe_ii, vGt_ii, vGe_ii, ex_eq, ex_ne, vIx_l, vIx_t, vIx_c, lAbs_i, lMin_i, lMax_i, lLen_l, lLen_t, lLen_c, lLen_s, lTup_l, lTup_t, ex_append, ex_setL, seqOf_l, seqOf_t, seqOf_c, ex_rng1, ex_rng2, frzO_v, frzO_l, frzO_d, ty_l, ty_d, ty_s, ex_map, ex_bind, ex_if, ok_nComp, ok_tYes, ok_iZip2, ok_sAug, vAddI_ii, wipe_nil, wipe_cons, Option.some.injEq, exists_eq_left', Opd.val.injEq, Val.bl.injEq, Val.int.injEq, List.getElem?_cons_zero, List.getElem?_cons_succ, List.set_cons_zero, List.set_cons_succ, Option.bind_some, id_eq, decide_eq_true_eq, Bool.not_eq_true', decide_eq_false_iff_not, List.length_cons, List.length_nil, Nat.zero_add, Nat.reduceAdd, true_and, and_true, List.zip_cons_cons, List.zip_nil_left, List.zip_nil_right, startS, List.map_cons, List.map_nil, List.cons_append, List.nil_append, Nat.reduceSub, List.replicate_succ, List.replicate_zero, List.append_nil, ↓reduceIte, vCut_s, vAdd_ss]
    split
    · have c1 := hz1 none (some at')
      have c2 := hz1 (some (at' + way)) none
      refine ⟨by omega, by rw [len_app]; omega, by simp, ?_⟩
      exact q _ _ hb
    · rename_i h; simpa [eqv] using h
  refine same (¬ way = 2) ?_ fun n1 => ?_
  · try simp only [ok_bind, ok_pure, ok_eVar, ok_eC, ok_eCls, ok_op2, ok_op1, ok_opL, ok_opN, ok_tst, ok_tNot, ok_tAnd, ok_tOr, ok_eAnd, ok_eOr, ok_eNot, ok_eIf, ok_chain, ok_aNil, ok_aCons, ok_eTup, ok_eLst, ok_nLst, ok_eFrz, ok_oNone, ok_oSome, ok_opS, ok_callV, ok_callN, ok_eCell, ok_opW, ok_opR, kthen_nx, kthen_brk, kthen_cont, kthen_ret, kthen_rtn, ok_sSeq, ok_sNil, ok_brk, ok_cont, ok_sExpr, ok_sRet, ok_sRtn, ok_sIf, ok_putV, ok_putO, ok_sSet, ok_sOwn, ok_sAsg, ok_gTup, ok_gCons, ok_gNil, ok_gSub, ok_sPar, ok_putVs0, ok_putVs1, ok_iSeq, ok_iRng, turn_nx, turn_brk, turn_cont, turn_ret, turn_rtn, ok_sFor, ok_loop0, ok_loop1, fin_nx, fin_val, fin_sl, fin_rtn, ok_runF, rd_non, rd_bl, rd_int, rd_str, rd_tup, rd_lst, rd_dct, rd_scr, rd_cls, rd_ref, rd_sl, snap_v, snap_l, snap_d, rds_nil, ex_rds, toVals_nil, toVals_cons, ex_argsOf, cur_ref, cur_sl, wr_ref, wr_sl, setV_mk, setO_mk, opdOf_v, opdOf_l, opdOf_d, vAdd_ii, vSub_ii, ex_mul, ex_div, ex_mod, ex_pow, vNeg_i, vLt_ii, vLe_ii, vGt_ii, vGe_ii, ex_eq, ex_ne, vIx_l, vIx_t, vIx_c, lAbs_i, lMin_i, lMax_i, lLen_l, lLen_t, lLen_c, lLen_s, lTup_l, lTup_t, ex_append, ex_setL, seqOf_l, seqOf_t, seqOf_c, ex_rng1, ex_rng2, frzO_v, frzO_l, frzO_d, ty_l, ty_d, ty_s, ex_map, ex_bind, ex_if, ok_nComp, ok_tYes, ok_iZip2, ok_sAug, vAddI_ii, wipe_nil, wipe_cons, Option.some.injEq, exists_eq_left', Opd.val.injEq, Val.bl.injEq, Val.int.injEq, List.getElem?_cons_zero, List.getElem?_cons_succ, List.set_cons_zero, List.set_cons_succ, Option.bind_some, id_eq, decide_eq_true_eq, Bool.not_eq_true', decide_eq_false_iff_not, List.length_cons, List.length_nil, Nat.zero_add, Nat.reduceAdd, true_and, and_true, List.zip_cons_cons, List.zip_nil_left, List.zip_nil_right, startS, List.map_cons, List.map_nil, List.cons_append, List.nil_append, Nat.reduceSub, List.replicate_succ, List.replicate_zero, List.append_nil, ↓reduceIte, vCut_s, vAdd_ss, dep_int]
    refine ⟨rfl, ?_⟩
    split
    · have c1 := hz1 none (some at')
      have c2 := hz1 (some (at' + 1)) none
      refine ⟨by omega, by simp, ?_⟩
      exact q _ _ hb
    · rename_i h; simpa [eqv] using h
  refine same (¬ way = 3) ?_ fun n2 => ?_
  · try simp only [ok_bind, ok_pure, ok_eVar, ok_eC, ok_eCls, ok_op2, ok_op1, ok_opL, ok_opN, ok_tst, ok_tNot, ok_tAnd, ok_tOr, ok_eAnd, ok_eOr, ok_eNot, ok_eIf, ok_chain, ok_aNil, ok_aCons, ok_eTup, ok_eLst, ok_nLst, ok_eFrz, ok_oNone, ok_oSome, ok_opS, ok_callV, ok_callN, ok_eCell, ok_opW, ok_opR, kthen_nx, kthen_brk, kthen_cont, kthen_ret, kthen_rtn, ok_sSeq, ok_sNil, ok_brk, ok_cont, ok_sExpr, ok_sRet, ok_sRtn, ok_sIf, ok_putV, ok_putO, ok_sSet, ok_sOwn, ok_sAsg, ok_gTup, ok_gCons, ok_gNil, ok_gSub, ok_sPar, ok_putVs0, ok_putVs1, ok_iSeq, ok_iRng, turn_nx, turn_brk, turn_cont, turn_ret, turn_rtn, ok_sFor, ok_loop0, ok_loop1, fin_nx, fin_val, fin_sl, fin_rtn, ok_runF, rd_non, rd_bl, rd_int, rd_str, rd_tup, rd_lst, rd_dct, rd_scr, rd_cls, rd_ref, rd_sl, snap_v, snap_l, snap_d, rds_nil, ex_rds, toVals_nil, toVals_cons, ex_argsOf, cur_ref, cur_sl, wr_ref, wr_sl, setV_mk, setO_mk, opdOf_v, opdOf_l, opdOf_d, vAdd_ii, vSub_ii, ex_mul, ex_div, ex_mod, ex_pow, vNeg_i, vLt_ii, vLe_ii, vGt_ii, vGe_ii, ex_eq, ex_ne, vIx_l, vIx_t, vIx_c, lAbs_i, lMin_i, lMax_i, lLen_l, lLen_t, lLen_c, lLen_s, lTup_l, lTup_t, ex_append, ex_setL, seqOf_l, seqOf_t, seqOf_c, ex_rng1, ex_rng2, frzO_v, frzO_l, frzO_d, ty_l, ty_d, ty_s, ex_map, ex_bind, ex_if, ok_nComp, ok_tYes, ok_iZip2, ok_sAug, vAddI_ii, wipe_nil, wipe_cons, Option.some.injEq, exists_eq_left', Opd.val.injEq, Val.bl.injEq, Val.int.injEq, List.getElem?_cons_zero, List.getElem?_cons_succ, List.set_cons_zero, List.set_cons_succ, Option.bind_some, id_eq, decide_eq_true_eq, Bool.not_eq_true', decide_eq_false_iff_not, List.length_cons, List.length_nil, Nat.zero_add, Nat.reduceAdd, true_and, and_true, List.zip_cons_cons, List.zip_nil_left, List.zip_nil_right, startS, List.map_cons, List.map_nil, List.cons_append, List.nil_append, Nat.reduceSub, List.replicate_succ, List.replicate_zero, List.append_nil, ↓reduceIte, vCut_s, vAdd_ss, dep_int]
    refine ⟨rfl, ?_⟩
    split
    · have c1 := hz1 none (some (at' + 1))
      have c2 := hz1 (some at') none
      refine ⟨by omega, by simp, ?_⟩
      exact q _ _ hb
    · rename_i h; simpa [eqv] using h
  refine same (¬ way = 4) ?_ fun n3 => ?_
  · try simp only [ok_bind, ok_pure, ok_eVar, ok_eC, ok_eCls, ok_op2, ok_op1, ok_opL, ok_opN, ok_tst, ok_tNot, ok_tAnd, ok_tOr, ok_eAnd, ok_eOr, ok_eNot, ok_eIf, ok_chain, ok_aNil, ok_aCons, ok_eTup, ok_eLst, ok_nLst, ok_eFrz, ok_oNone, ok_oSome, ok_opS, ok_callV, ok_callN, ok_eCell, ok_opW, ok_opR, kthen_nx, kthen_brk, kthen_cont, kthen_ret, kthen_rtn, ok_sSeq, ok_sNil, ok_brk, ok_cont, ok_sExpr, ok_sRet, ok_sRtn, ok_sIf, ok_putV, ok_putO, ok_sSet, ok_sOwn, ok_sAsg, ok_gTup, ok_gCons, ok_gNil, ok_gSub, ok_sPar, ok_putVs0, ok_putVs1, ok_iSeq, ok_iRng, turn_nx, turn_brk, turn_cont, turn_ret, turn_rtn, ok_sFor, ok_loop0, ok_loop1, fin_nx, fin_val, fin_sl, fin_rtn, ok_runF, rd_non, rd_bl, rd_int, rd_str, rd_tup, rd_lst, rd_dct, rd_scr, rd_cls, rd_ref, rd_sl, snap_v, snap_l, snap_d, rds_nil, ex_rds, toVals_nil, toVals_cons, ex_argsOf, cur_ref, cur_sl, wr_ref, wr_sl, setV_mk, setO_mk, opdOf_v, opdOf_l, opdOf_d, vAdd_ii, vSub_ii, ex_mul, ex_div, ex_mod, ex_pow, vNeg_i, vLt_ii, vLe_ii, vGt_ii, vGe_ii, ex_eq, ex_ne, vIx_l, vIx_t, vIx_c, lAbs_i, lMin_i, lMax_i, lLen_l, lLen_t, lLen_c, lLen_s, lTup_l, lTup_t, ex_append, ex_setL, seqOf_l, seqOf_t, seqOf_c, ex_rng1, ex_rng2, frzO_v, frzO_l, frzO_d, ty_l, ty_d, ty_s, ex_map, ex_bind, ex_if, ok_nComp, ok_tYes, ok_iZip2, ok_sAug, vAddI_ii, wipe_nil, wipe_cons, Option.some.injEq, exists_eq_left', Opd.val.injEq, Val.bl.injEq, Val.int.injEq, List.getElem?_cons_zero, List.getElem?_cons_succ, List.set_cons_zero, List.set_cons_succ, Option.bind_some, id_eq, decide_eq_true_eq, Bool.not_eq_true', decide_eq_false_iff_not, List.length_cons, List.length_nil, Nat.zero_add, Nat.reduceAdd, true_and, and_true, List.zip_cons_cons, List.zip_nil_left, List.zip_nil_right, startS, List.map_cons, List.map_nil, List.cons_append, List.nil_append, Nat.reduceSub, List.replicate_succ, List.replicate_zero, List.append_nil, ↓reduceIte, vCut_s, vAdd_ss, dep_int]
    refine ⟨rfl, ?_⟩
    split
    · have c1 := hz1 none (some at')
      have c2 := hz1 (some (at' + 2)) none
      have c3 : (cutS z (some at') (some (at' + 2))).length ≤ 2 := by
        obtain ⟨k, rfl⟩ : ∃ k : Nat, at' = k := ⟨at'.toNat, by omega⟩
        have e2 : (k : Int) + 2 = ((k + 2 : Nat) : Int) := by omega
        rw [e2]
        show (((z.cps.toList.drop (HT.sIx z.length 0 (some (k : Int)))).take (HT.sIx z.length z.length (some ((k + 2 : Nat) : Int)) - HT.sIx z.length 0 (some (k : Int)))).toArray).size ≤ 2
        rw [HT.sIx_nat, HT.sIx_nat, List.size_toArray, List.length_take]
        omega
      rw [vRevS_z (sok_cut hz _ _) c3]
      have c4 := (revS_ok (sok_cut hz (some at') (some (at' + 2))) c3).2
      try simp only [ok_bind, ok_pure, ok_eVar, ok_eC, ok_eCls, ok_op2, ok_op1, ok_opL, ok_opN, ok_tst, ok_tNot, ok_tAnd, ok_tOr, ok_eAnd, ok_eOr, ok_eNot, ok_eIf, ok_chain, ok_aNil, ok_aCons, ok_eTup, ok_eLst, ok_nLst, ok_eFrz, ok_oNone, ok_oSome, ok_opS, ok_callV, ok_callN, ok_eCell, ok_opW, ok_opR, kthen_nx, kthen_brk, kthen_cont, kthen_ret, kthen_rtn, ok_sSeq, ok_sNil, ok_brk, ok_cont, ok_sExpr, ok_sRet, ok_sRtn, ok_sIf, ok_putV, ok_putO, ok_sSet, ok_sOwn, ok_sAsg, ok_gTup, ok_gCons, ok_gNil, ok_gSub, ok_sPar, ok_putVs0, ok_putVs1, ok_iSeq, ok_iRng, turn_nx, turn_brk, turn_cont, turn_ret, turn_rtn, ok_sFor, ok_loop0, ok_loop1, fin_nx, fin_val, fin_sl, fin_rtn, ok_runF, rd_non, rd_bl, rd_int, rd_str, rd_tup, rd_lst, rd_dct, rd_scr, rd_cls, rd_ref, rd_sl, snap_v, snap_l, snap_d, rds_nil, ex_rds, toVals_nil, toVals_cons, ex_argsOf, cur_ref, cur_sl, wr_ref, wr_sl, setV_mk, setO_mk, opdOf_v, opdOf_l, opdOf_d, vAdd_ii, vSub_ii, ex_mul, ex_div, ex_mod, ex_pow, vNeg_i, vLt_ii, vLe_ii, vGt_ii, vGe_ii, ex_eq, ex_ne, vIx_l, vIx_t, vIx_c, lAbs_i, lMin_i, lMax_i, lLen_l, lLen_t, lLen_c, lLen_s, lTup_l, lTup_t, ex_append, ex_setL, seqOf_l, seqOf_t, seqOf_c, ex_rng1, ex_rng2, frzO_v, frzO_l, frzO_d, ty_l, ty_d, ty_s, ex_map, ex_bind, ex_if, ok_nComp, ok_tYes, ok_iZip2, ok_sAug, vAddI_ii, wipe_nil, wipe_cons, Option.some.injEq, exists_eq_left', Opd.val.injEq, Val.bl.injEq, Val.int.injEq, List.getElem?_cons_zero, List.getElem?_cons_succ, List.set_cons_zero, List.set_cons_succ, Option.bind_some, id_eq, decide_eq_true_eq, Bool.not_eq_true', decide_eq_false_iff_not, List.length_cons, List.length_nil, Nat.zero_add, Nat.reduceAdd, true_and, and_true, List.zip_cons_cons, List.zip_nil_left, List.zip_nil_right, startS, List.map_cons, List.map_nil, List.cons_append, List.nil_append, Nat.reduceSub, List.replicate_succ, List.replicate_zero, List.append_nil, ↓reduceIte, vCut_s, vAdd_ss]
      refine ⟨by omega, by rw [len_app]; omega, by simp, ?_⟩
      exact q _ _ hb
    · rename_i h; simpa [eqv] using h
  have hw : 5 ≤ way := by omega
  refine ok_step (fun s => s = ⟨[some (.v (.ref i)), some (.v (.str z)), some (.v (.lst morL)), some (.v (.str al)), some (.v (.int way)), some (.v (.str sg)), some (.v (.int at')), some (.v (.lst [.str z])), none], hp⟩) ?_ ?_
  · try simp only [ok_bind, ok_pure, ok_eVar, ok_eC, ok_eCls, ok_op2, ok_op1, ok_opL, ok_opN, ok_tst, ok_tNot, ok_tAnd, ok_tOr, ok_eAnd, ok_eOr, ok_eNot, ok_eIf, ok_chain, ok_aNil, ok_aCons, ok_eTup, ok_eLst, ok_nLst, ok_eFrz, ok_oNone, ok_oSome, ok_opS, ok_callV, ok_callN, ok_eCell, ok_opW, ok_opR, kthen_nx, kthen_brk, kthen_cont, kthen_ret, kthen_rtn, ok_sSeq, ok_sNil, ok_brk, ok_cont, ok_sExpr, ok_sRet, ok_sRtn, ok_sIf, ok_putV, ok_putO, ok_sSet, ok_sOwn, ok_sAsg, ok_gTup, ok_gCons, ok_gNil, ok_gSub, ok_sPar, ok_putVs0, ok_putVs1, ok_iSeq, ok_iRng, turn_nx, turn_brk, turn_cont, turn_ret, turn_rtn, ok_sFor, ok_loop0, ok_loop1, fin_nx, fin_val, fin_sl, fin_rtn, ok_runF, rd_non, rd_bl, rd_int, rd_str, rd_tup, rd_lst, rd_dct, rd_scr, rd_cls, rd_ref, rd_sl, snap_v, snap_l, snap_d, rds_nil, ex_rds, toVals_nil, toVals_cons, ex_argsOf, cur_ref, cur_sl, wr_ref, wr_sl, setV_mk, setO_mk, opdOf_v, opdOf_l, opdOf_d, vAdd_ii, vSub_ii, ex_mul, ex_div, ex_mod, ex_pow, vNeg_i, vLt_ii, vLe_ii, vGt_ii, vGe_ii, ex_eq, ex_ne, vIx_l, vIx_t, vIx_c, lAbs_i, lMin_i, lMax_i, lLen_l, lLen_t, lLen_c, lLen_s, lTup_l, lTup_t, ex_append, ex_setL, seqOf_l, seqOf_t, seqOf_c, ex_rng1, ex_rng2, frzO_v, frzO_l, frzO_d, ty_l, ty_d, ty_s, ex_map, ex_bind, ex_if, ok_nComp, ok_tYes, ok_iZip2, ok_sAug, vAddI_ii, wipe_nil, wipe_cons, Option.some.injEq, exists_eq_left', Opd.val.injEq, Val.bl.injEq, Val.int.injEq, List.getElem?_cons_zero, List.getElem?_cons_succ, List.set_cons_zero, List.set_cons_succ, Option.bind_some, id_eq, decide_eq_true_eq, Bool.not_eq_true', decide_eq_false_iff_not, List.length_cons, List.length_nil, Nat.zero_add, Nat.reduceAdd, true_and, and_true, List.zip_cons_cons, List.zip_nil_left, List.zip_nil_right, startS, List.map_cons, List.map_nil, List.cons_append, List.nil_append, Nat.reduceSub, List.replicate_succ, List.replicate_zero, List.append_nil, ↓reduceIte, mSplit_z h32 hz]
  rintro s rfl
  refine ok_step (fun s => ∃ hp : List OV, s = ⟨[some (.v (.ref i)), some (.v (.str z)), some (.v (.lst morL)), some (.v (.str al)), some (.v (.int way)), some (.v (.str sg)), some (.v (.int 0)), some (.v (.lst [.str z])), none], hp⟩ ∧ Bag i hp) ?_ ?_
  · try simp only [ok_bind, ok_pure, ok_eVar, ok_eC, ok_eCls, ok_op2, ok_op1, ok_opL, ok_opN, ok_tst, ok_tNot, ok_tAnd, ok_tOr, ok_eAnd, ok_eOr, ok_eNot, ok_eIf, ok_chain, ok_aNil, ok_aCons, ok_eTup, ok_eLst, ok_nLst, ok_eFrz, ok_oNone, ok_oSome, ok_opS, ok_callV, ok_callN, ok_eCell, ok_opW, ok_opR, kthen_nx, kthen_brk, kthen_cont, kthen_ret, kthen_rtn, ok_sSeq, ok_sNil, ok_brk, ok_cont, ok_sExpr, ok_sRet, ok_sRtn, ok_sIf, ok_putV, ok_putO, ok_sSet, ok_sOwn, ok_sAsg, ok_gTup, ok_gCons, ok_gNil, ok_gSub, ok_sPar, ok_putVs0, ok_putVs1, ok_iSeq, ok_iRng, turn_nx, turn_brk, turn_cont, turn_ret, turn_rtn, ok_sFor, ok_loop0, ok_loop1, fin_nx, fin_val, fin_sl, fin_rtn, ok_runF, rd_non, rd_bl, rd_int, rd_str, rd_tup, rd_lst, rd_dct, rd_scr, rd_cls, rd_ref, rd_sl, snap_v, snap_l, snap_d, rds_nil, ex_rds, toVals_nil, toVals_cons, ex_argsOf, cur_ref, cur_sl, wr_ref, wr_sl, setV_mk, setO_mk, opdOf_v, opdOf_l, opdOf_d, vAdd_ii, vSub_ii, ex_mul, ex_div, ex_mod, ex_pow, vNeg_i, vLt_ii, vLe_ii, vGt_ii, vGe_ii, ex_eq, ex_ne, vIx_l, vIx_t, vIx_c, lAbs_i, lMin_i, lMax_i, lLen_l, lLen_t, lLen_c, lLen_s, lTup_l, lTup_t, ex_append, ex_setL, seqOf_l, seqOf_t, seqOf_c, ex_rng1, ex_rng2, frzO_v, frzO_l, frzO_d, ty_l, ty_d, ty_s, ex_map, ex_bind, ex_if, ok_nComp, ok_tYes, ok_iZip2, ok_sAug, vAddI_ii, wipe_nil, wipe_cons, Option.some.injEq, exists_eq_left', Opd.val.injEq, Val.bl.injEq, Val.int.injEq, List.getElem?_cons_zero, List.getElem?_cons_succ, List.set_cons_zero, List.set_cons_succ, Option.bind_some, id_eq, decide_eq_true_eq, Bool.not_eq_true', decide_eq_false_iff_not, List.length_cons, List.length_nil, Nat.zero_add, Nat.reduceAdd, true_and, and_true, List.zip_cons_cons, List.zip_nil_left, List.zip_nil_right, startS, List.map_cons, List.map_nil, List.cons_append, List.nil_append, Nat.reduceSub, List.replicate_succ, List.replicate_zero, List.append_nil, ↓reduceIte]
    refine take_ok hb (by decide) (by decide) fun t hp1 h0 h1 hb1 => ?_
    have e : t = 0 := by omega
    subst e
    try simp only [ok_bind, ok_pure, ok_eVar, ok_eC, ok_eCls, ok_op2, ok_op1, ok_opL, ok_opN, ok_tst, ok_tNot, ok_tAnd, ok_tOr, ok_eAnd, ok_eOr, ok_eNot, ok_eIf, ok_chain, ok_aNil, ok_aCons, ok_eTup, ok_eLst, ok_nLst, ok_eFrz, ok_oNone, ok_oSome, ok_opS, ok_callV, ok_callN, ok_eCell, ok_opW, ok_opR, kthen_nx, kthen_brk, kthen_cont, kthen_ret, kthen_rtn, ok_sSeq, ok_sNil, ok_brk, ok_cont, ok_sExpr, ok_sRet, ok_sRtn, ok_sIf, ok_putV, ok_putO, ok_sSet, ok_sOwn, ok_sAsg, ok_gTup, ok_gCons, ok_gNil, ok_gSub, ok_sPar, ok_putVs0, ok_putVs1, ok_iSeq, ok_iRng, turn_nx, turn_brk, turn_cont, turn_ret, turn_rtn, ok_sFor, ok_loop0, ok_loop1, fin_nx, fin_val, fin_sl, fin_rtn, ok_runF, rd_non, rd_bl, rd_int, rd_str, rd_tup, rd_lst, rd_dct, rd_scr, rd_cls, rd_ref, rd_sl, snap_v, snap_l, snap_d, rds_nil, ex_rds, toVals_nil, toVals_cons, ex_argsOf, cur_ref, cur_sl, wr_ref, wr_sl, setV_mk, setO_mk, opdOf_v, opdOf_l, opdOf_d, vAdd_ii, vSub_ii, ex_mul, ex_div, ex_mod, ex_pow, vNeg_i, vLt_ii, vLe_ii, vGt_ii, vGe_ii, ex_eq, ex_ne, vIx_l, vIx_t, vIx_c, lAbs_i, lMin_i, lMax_i, lLen_l, lLen_t, lLen_c, lLen_s, lTup_l, lTup_t, ex_append, ex_setL, seqOf_l, seqOf_t, seqOf_c, ex_rng1, ex_rng2, frzO_v, frzO_l, frzO_d, ty_l, ty_d, ty_s, ex_map, ex_bind, ex_if, ok_nComp, ok_tYes, ok_iZip2, ok_sAug, vAddI_ii, wipe_nil, wipe_cons, Option.some.injEq, exists_eq_left', Opd.val.injEq, Val.bl.injEq, Val.int.injEq, List.getElem?_cons_zero, List.getElem?_cons_succ, List.set_cons_zero, List.set_cons_succ, Option.bind_some, id_eq, decide_eq_true_eq, Bool.not_eq_true', decide_eq_false_iff_not, List.length_cons, List.length_nil, Nat.zero_add, Nat.reduceAdd, true_and, and_true, List.zip_cons_cons, List.zip_nil_left, List.zip_nil_right, startS, List.map_cons, List.map_nil, List.cons_append, List.nil_append, Nat.reduceSub, List.replicate_succ, List.replicate_zero, List.append_nil, ↓reduceIte]
    exact ⟨_, rfl, hb1⟩
  clear hb hp
  rintro s ⟨hp, rfl, hb⟩
  refine ok_step (fun s => ∃ ys : List Str, s = ⟨[some (.v (.ref i)), some (.v (.str z)), some (.v (.lst morL)), some (.v (.str al)), some (.v (.int way)), some (.v (.str sg)), some (.v (.int 0)), some (.v (.lst [.str z])), some (.v (.lst (ys.map Val.str)))], hp⟩ ∧ (∀ y ∈ ys, SOk y ∧ y.length ≤ 7) ∧ ys.length ≤ 2) ?_ ?_
  · try simp only [ok_bind, ok_pure, ok_eVar, ok_eC, ok_eCls, ok_op2, ok_op1, ok_opL, ok_opN, ok_tst, ok_tNot, ok_tAnd, ok_tOr, ok_eAnd, ok_eOr, ok_eNot, ok_eIf, ok_chain, ok_aNil, ok_aCons, ok_eTup, ok_eLst, ok_nLst, ok_eFrz, ok_oNone, ok_oSome, ok_opS, ok_callV, ok_callN, ok_eCell, ok_opW, ok_opR, kthen_nx, kthen_brk, kthen_cont, kthen_ret, kthen_rtn, ok_sSeq, ok_sNil, ok_brk, ok_cont, ok_sExpr, ok_sRet, ok_sRtn, ok_sIf, ok_putV, ok_putO, ok_sSet, ok_sOwn, ok_sAsg, ok_gTup, ok_gCons, ok_gNil, ok_gSub, ok_sPar, ok_putVs0, ok_putVs1, ok_iSeq, ok_iRng, turn_nx, turn_brk, turn_cont, turn_ret, turn_rtn, ok_sFor, ok_loop0, ok_loop1, fin_nx, fin_val, fin_sl, fin_rtn, ok_runF, rd_non, rd_bl, rd_int, rd_str, rd_tup, rd_lst, rd_dct, rd_scr, rd_cls, rd_ref, rd_sl, snap_v, snap_l, snap_d, rds_nil, ex_rds, toVals_nil, toVals_cons, ex_argsOf, cur_ref, cur_sl, wr_ref, wr_sl, setV_mk, setO_mk, opdOf_v, opdOf_l, opdOf_d, vAdd_ii, vSub_ii, ex_mul, ex_div, ex_mod, ex_pow, vNeg_i, vLt_ii, vLe_ii, vGt_ii, vGe_ii, ex_eq, ex_ne, vIx_l, vIx_t, vIx_c, lAbs_i, lMin_i, lMax_i, lLen_l, lLen_t, lLen_c, lLen_s, lTup_l, lTup_t, ex_append, ex_setL, seqOf_l, seqOf_t, seqOf_c, ex_rng1, ex_rng2, frzO_v, frzO_l, frzO_d, ty_l, ty_d, ty_s, ex_map, ex_bind, ex_if, ok_nComp, ok_tYes, ok_iZip2, ok_sAug, vAddI_ii, wipe_nil, wipe_cons, Option.some.injEq, exists_eq_left', Opd.val.injEq, Val.bl.injEq, Val.int.injEq, List.getElem?_cons_zero, List.getElem?_cons_succ, List.set_cons_zero, List.set_cons_succ, Option.bind_some, id_eq, decide_eq_true_eq, Bool.not_eq_true', decide_eq_false_iff_not, List.length_cons, List.length_nil, Nat.zero_add, Nat.reduceAdd, true_and, and_true, List.zip_cons_cons, List.zip_nil_left, List.zip_nil_right, startS, List.map_cons, List.map_nil, List.cons_append, List.nil_append, Nat.reduceSub, List.replicate_succ, List.replicate_zero, List.append_nil, ↓reduceIte, atI0]
    refine ⟨by decide, by decide, ?_⟩
    refine at_i4 (by omega) (by omega) fun w hw2 => ?_
    try simp only [ok_bind, ok_pure, ok_eVar, ok_eC, ok_eCls, ok_op2, ok_op1, ok_opL, ok_opN, ok_tst, ok_tNot, ok_tAnd, ok_tOr, ok_eAnd, ok_eOr, ok_eNot, ok_eIf, ok_chain, ok_aNil, ok_aCons, ok_eTup, ok_eLst, ok_nLst, ok_eFrz, ok_oNone, ok_oSome, ok_opS, ok_callV, ok_callN, ok_eCell, ok_opW, ok_opR, kthen_nx, kthen_brk, kthen_cont, kthen_ret, kthen_rtn, ok_sSeq, ok_sNil, ok_brk, ok_cont, ok_sExpr, ok_sRet, ok_sRtn, ok_sIf, ok_putV, ok_putO, ok_sSet, ok_sOwn, ok_sAsg, ok_gTup, ok_gCons, ok_gNil, ok_gSub, ok_sPar, ok_putVs0, ok_putVs1, ok_iSeq, ok_iRng, turn_nx, turn_brk, turn_cont, turn_ret, turn_rtn, ok_sFor, ok_loop0, ok_loop1, fin_nx, fin_val, fin_sl, fin_rtn, ok_runF, rd_non, rd_bl, rd_int, rd_str, rd_tup, rd_lst, rd_dct, rd_scr, rd_cls, rd_ref, rd_sl, snap_v, snap_l, snap_d, rds_nil, ex_rds, toVals_nil, toVals_cons, ex_argsOf, cur_ref, cur_sl, wr_ref, wr_sl, setV_mk, setO_mk, opdOf_v, opdOf_l, opdOf_d, vAdd_ii, vSub_ii, ex_mul, ex_div, ex_mod, ex_pow, vNeg_i, vLt_ii, vLe_ii, vGt_ii, vGe_ii, ex_eq, ex_ne, vIx_l, vIx_t, vIx_c, lAbs_i, lMin_i, lMax_i, lLen_l, lLen_t, lLen_c, lLen_s, lTup_l, lTup_t, ex_append, ex_setL, seqOf_l, seqOf_t, seqOf_c, ex_rng1, ex_rng2, frzO_v, frzO_l, frzO_d, ty_l, ty_d, ty_s, ex_map, ex_bind, ex_if, ok_nComp, ok_tYes, ok_iZip2, ok_sAug, vAddI_ii, wipe_nil, wipe_cons, Option.some.injEq, exists_eq_left', Opd.val.injEq, Val.bl.injEq, Val.int.injEq, List.getElem?_cons_zero, List.getElem?_cons_succ, List.set_cons_zero, List.set_cons_succ, Option.bind_some, id_eq, decide_eq_true_eq, Bool.not_eq_true', decide_eq_false_iff_not, List.length_cons, List.length_nil, Nat.zero_add, Nat.reduceAdd, true_and, and_true, List.zip_cons_cons, List.zip_nil_left, List.zip_nil_right, startS, List.map_cons, List.map_nil, List.cons_append, List.nil_append, Nat.reduceSub, List.replicate_succ, List.replicate_zero, List.append_nil, ↓reduceIte, ex_mulL]
    rcases hw2 with rfl | rfl | rfl | rfl
    · exact ⟨⟨by decide, by decide, by decide⟩, [], rfl, by simp, by decide⟩
    · exact ⟨⟨by decide, by decide, by decide⟩, [z, z], rfl, by intro y hy; simp at hy; subst hy; exact ⟨hz, hl⟩, by simp⟩
    · exact ⟨⟨by decide, by decide, by decide⟩, [z], rfl, by intro y hy; simp at hy; subst hy; exact ⟨hz, hl⟩, by simp⟩
    · exact ⟨⟨by decide, by decide, by decide⟩, [z], rfl, by intro y hy; simp at hy; subst hy; exact ⟨hz, hl⟩, by simp⟩
  rintro s ⟨ys, rfl, hy, hy2⟩
  refine ok_step (fun s => ∃ (ys : List Str) (hp : List OV), s = ⟨[some (.v (.ref i)), some (.v (.str z)), some (.v (.lst morL)), some (.v (.str al)), some (.v (.int way)), some (.v (.str sg)), some (.v (.int 0)), some (.v (.lst [.str z])), some (.v (.lst (ys.map Val.str)))], hp⟩ ∧ (∀ y ∈ ys, SOk y ∧ y.length ≤ 7) ∧ ys.length ≤ 2 ∧ Bag i hp) ?_ ?_
  · try simp only [ok_bind, ok_pure, ok_eVar, ok_eC, ok_eCls, ok_op2, ok_op1, ok_opL, ok_opN, ok_tst, ok_tNot, ok_tAnd, ok_tOr, ok_eAnd, ok_eOr, ok_eNot, ok_eIf, ok_chain, ok_aNil, ok_aCons, ok_eTup, ok_eLst, ok_nLst, ok_eFrz, ok_oNone, ok_oSome, ok_opS, ok_callV, ok_callN, ok_eCell, ok_opW, ok_opR, kthen_nx, kthen_brk, kthen_cont, kthen_ret, kthen_rtn, ok_sSeq, ok_sNil, ok_brk, ok_cont, ok_sExpr, ok_sRet, ok_sRtn, ok_sIf, ok_putV, ok_putO, ok_sSet, ok_sOwn, ok_sAsg, ok_gTup, ok_gCons, ok_gNil, ok_gSub, ok_sPar, ok_putVs0, ok_putVs1, ok_iSeq, ok_iRng, turn_nx, turn_brk, turn_cont, turn_ret, turn_rtn, ok_sFor, ok_loop0, ok_loop1, fin_nx, fin_val, fin_sl, fin_rtn, ok_runF, rd_non, rd_bl, rd_int, rd_str, rd_tup, rd_lst, rd_dct, rd_scr, rd_cls, rd_ref, rd_sl, snap_v, snap_l, snap_d, rds_nil, ex_rds, toVals_nil, toVals_cons, ex_argsOf, cur_ref, cur_sl, wr_ref, wr_sl, setV_mk, setO_mk, opdOf_v, opdOf_l, opdOf_d, vAdd_ii, vSub_ii, ex_mul, ex_div, ex_mod, ex_pow, vNeg_i, vLt_ii, vLe_ii, vGt_ii, vGe_ii, ex_eq, ex_ne, vIx_l, vIx_t, vIx_c, lAbs_i, lMin_i, lMax_i, lLen_l, lLen_t, lLen_c, lLen_s, lTup_l, lTup_t, ex_append, ex_setL, seqOf_l, seqOf_t, seqOf_c, ex_rng1, ex_rng2, frzO_v, frzO_l, frzO_d, ty_l, ty_d, ty_s, ex_map, ex_bind, ex_if, ok_nComp, ok_tYes, ok_iZip2, ok_sAug, vAddI_ii, wipe_nil, wipe_cons, Option.some.injEq, exists_eq_left', Opd.val.injEq, Val.bl.injEq, Val.int.injEq, List.getElem?_cons_zero, List.getElem?_cons_succ, List.set_cons_zero, List.set_cons_succ, Option.bind_some, id_eq, decide_eq_true_eq, Bool.not_eq_true', decide_eq_false_iff_not, List.length_cons, List.length_nil, Nat.zero_add, Nat.reduceAdd, true_and, and_true, List.zip_cons_cons, List.zip_nil_left, List.zip_nil_right, startS, List.map_cons, List.map_nil, List.cons_append, List.nil_append, Nat.reduceSub, List.replicate_succ, List.replicate_zero, List.append_nil, ↓reduceIte, dep_int]
    refine ⟨rfl, ?_⟩
    split
    · refine of_ok hb (by simp) (by simp) fun y hp4 hy hb4 => ?_
      have e : y = .str z := by simpa using hy
      subst e
      try simp only [ok_bind, ok_pure, ok_eVar, ok_eC, ok_eCls, ok_op2, ok_op1, ok_opL, ok_opN, ok_tst, ok_tNot, ok_tAnd, ok_tOr, ok_eAnd, ok_eOr, ok_eNot, ok_eIf, ok_chain, ok_aNil, ok_aCons, ok_eTup, ok_eLst, ok_nLst, ok_eFrz, ok_oNone, ok_oSome, ok_opS, ok_callV, ok_callN, ok_eCell, ok_opW, ok_opR, kthen_nx, kthen_brk, kthen_cont, kthen_ret, kthen_rtn, ok_sSeq, ok_sNil, ok_brk, ok_cont, ok_sExpr, ok_sRet, ok_sRtn, ok_sIf, ok_putV, ok_putO, ok_sSet, ok_sOwn, ok_sAsg, ok_gTup, ok_gCons, ok_gNil, ok_gSub, ok_sPar, ok_putVs0, ok_putVs1, ok_iSeq, ok_iRng, turn_nx, turn_brk, turn_cont, turn_ret, turn_rtn, ok_sFor, ok_loop0, ok_loop1, fin_nx, fin_val, fin_sl, fin_rtn, ok_runF, rd_non, rd_bl, rd_int, rd_str, rd_tup, rd_lst, rd_dct, rd_scr, rd_cls, rd_ref, rd_sl, snap_v, snap_l, snap_d, rds_nil, ex_rds, toVals_nil, toVals_cons, ex_argsOf, cur_ref, cur_sl, wr_ref, wr_sl, setV_mk, setO_mk, opdOf_v, opdOf_l, opdOf_d, vAdd_ii, vSub_ii, ex_mul, ex_div, ex_mod, ex_pow, vNeg_i, vLt_ii, vLe_ii, vGt_ii, vGe_ii, ex_eq, ex_ne, vIx_l, vIx_t, vIx_c, lAbs_i, lMin_i, lMax_i, lLen_l, lLen_t, lLen_c, lLen_s, lTup_l, lTup_t, ex_append, ex_setL, seqOf_l, seqOf_t, seqOf_c, ex_rng1, ex_rng2, frzO_v, frzO_l, frzO_d, ty_l, ty_d, ty_s, ex_map, ex_bind, ex_if, ok_nComp, ok_tYes, ok_iZip2, ok_sAug, vAddI_ii, wipe_nil, wipe_cons, Option.some.injEq, exists_eq_left', Opd.val.injEq, Val.bl.injEq, Val.int.injEq, List.getElem?_cons_zero, List.getElem?_cons_succ, List.set_cons_zero, List.set_cons_succ, Option.bind_some, id_eq, decide_eq_true_eq, Bool.not_eq_true', decide_eq_false_iff_not, List.length_cons, List.length_nil, Nat.zero_add, Nat.reduceAdd, true_and, and_true, List.zip_cons_cons, List.zip_nil_left, List.zip_nil_right, startS, List.map_cons, List.map_nil, List.cons_append, List.nil_append, Nat.reduceSub, List.replicate_succ, List.replicate_zero, List.append_nil, ↓reduceIte]
      exact ⟨by decide, [z], _, rfl, by intro y hy; simp at hy; subst hy; exact ⟨hz, hl⟩, by simp, hb4⟩
    · exact ⟨ys, _, rfl, hy, hy2, hb⟩
  clear hy hy2 ys hb hp
  rintro s ⟨ys, hp, rfl, hy, hy2, hb⟩
  refine ok_step (fun s => ∃ (ys : List Str) (hp : List OV), s = ⟨[some (.v (.ref i)), some (.v (.str z)), some (.v (.lst morL)), some (.v (.str al)), some (.v (.int way)), some (.v (.str sg)), some (.v (.int 0)), some (.v (.lst [.str z])), some (.v (.lst (ys.map Val.str)))], hp⟩ ∧ (∀ y ∈ ys, SOk y ∧ y.length ≤ 7) ∧ ys.length ≤ 2 ∧ Bag i hp) ?_ ?_
  · try simp only [ok_bind, ok_pure, ok_eVar, ok_eC, ok_eCls, ok_op2, ok_op1, ok_opL, ok_opN, ok_tst, ok_tNot, ok_tAnd, ok_tOr, ok_eAnd, ok_eOr, ok_eNot, ok_eIf, ok_chain, ok_aNil, ok_aCons, ok_eTup, ok_eLst, ok_nLst, ok_eFrz, ok_oNone, ok_oSome, ok_opS, ok_callV, ok_callN, ok_eCell, ok_opW, ok_opR, kthen_nx, kthen_brk, kthen_cont, kthen_ret, kthen_rtn, ok_sSeq, ok_sNil, ok_brk, ok_cont, ok_sExpr, ok_sRet, ok_sRtn, ok_sIf, ok_putV, ok_putO, ok_sSet, ok_sOwn, ok_sAsg, ok_gTup, ok_gCons, ok_gNil, ok_gSub, ok_sPar, ok_putVs0, ok_putVs1, ok_iSeq, ok_iRng, turn_nx, turn_brk, turn_cont, turn_ret, turn_rtn, ok_sFor, ok_loop0, ok_loop1, fin_nx, fin_val, fin_sl, fin_rtn, ok_runF, rd_non, rd_bl, rd_int, rd_str, rd_tup, rd_lst, rd_dct, rd_scr, rd_cls, rd_ref, rd_sl, snap_v, snap_l, snap_d, rds_nil, ex_rds, toVals_nil, toVals_cons, ex_argsOf, cur_ref, cur_sl, wr_ref, wr_sl, setV_mk, setO_mk, opdOf_v, opdOf_l, opdOf_d, vAdd_ii, vSub_ii, ex_mul, ex_div, ex_mod, ex_pow, vNeg_i, vLt_ii, vLe_ii, vGt_ii, vGe_ii, ex_eq, ex_ne, vIx_l, vIx_t, vIx_c, lAbs_i, lMin_i, lMax_i, lLen_l, lLen_t, lLen_c, lLen_s, lTup_l, lTup_t, ex_append, ex_setL, seqOf_l, seqOf_t, seqOf_c, ex_rng1, ex_rng2, frzO_v, frzO_l, frzO_d, ty_l, ty_d, ty_s, ex_map, ex_bind, ex_if, ok_nComp, ok_tYes, ok_iZip2, ok_sAug, vAddI_ii, wipe_nil, wipe_cons, Option.some.injEq, exists_eq_left', Opd.val.injEq, Val.bl.injEq, Val.int.injEq, List.getElem?_cons_zero, List.getElem?_cons_succ, List.set_cons_zero, List.set_cons_succ, Option.bind_some, id_eq, decide_eq_true_eq, Bool.not_eq_true', decide_eq_false_iff_not, List.length_cons, List.length_nil, Nat.zero_add, Nat.reduceAdd, true_and, and_true, List.zip_cons_cons, List.zip_nil_left, List.zip_nil_right, startS, List.map_cons, List.map_nil, List.cons_append, List.nil_append, Nat.reduceSub, List.replicate_succ, List.replicate_zero, List.append_nil, ↓reduceIte, dep_int]
    refine ⟨rfl, ?_⟩
    split
    · refine of_ok hb (by decide) (by decide) fun y hp4 hy hb4 => ?_
      obtain ⟨y, rfl, h1, h2⟩ := mor_one hy
      try simp only [ok_bind, ok_pure, ok_eVar, ok_eC, ok_eCls, ok_op2, ok_op1, ok_opL, ok_opN, ok_tst, ok_tNot, ok_tAnd, ok_tOr, ok_eAnd, ok_eOr, ok_eNot, ok_eIf, ok_chain, ok_aNil, ok_aCons, ok_eTup, ok_eLst, ok_nLst, ok_eFrz, ok_oNone, ok_oSome, ok_opS, ok_callV, ok_callN, ok_eCell, ok_opW, ok_opR, kthen_nx, kthen_brk, kthen_cont, kthen_ret, kthen_rtn, ok_sSeq, ok_sNil, ok_brk, ok_cont, ok_sExpr, ok_sRet, ok_sRtn, ok_sIf, ok_putV, ok_putO, ok_sSet, ok_sOwn, ok_sAsg, ok_gTup, ok_gCons, ok_gNil, ok_gSub, ok_sPar, ok_putVs0, ok_putVs1, ok_iSeq, ok_iRng, turn_nx, turn_brk, turn_cont, turn_ret, turn_rtn, ok_sFor, ok_loop0, ok_loop1, fin_nx, fin_val, fin_sl, fin_rtn, ok_runF, rd_non, rd_bl, rd_int, rd_str, rd_tup, rd_lst, rd_dct, rd_scr, rd_cls, rd_ref, rd_sl, snap_v, snap_l, snap_d, rds_nil, ex_rds, toVals_nil, toVals_cons, ex_argsOf, cur_ref, cur_sl, wr_ref, wr_sl, setV_mk, setO_mk, opdOf_v, opdOf_l, opdOf_d, vAdd_ii, vSub_ii, ex_mul, ex_div, ex_mod, ex_pow, vNeg_i, vLt_ii, vLe_ii, vGt_ii, vGe_ii, ex_eq, ex_ne, vIx_l, vIx_t, vIx_c, lAbs_i, lMin_i, lMax_i, lLen_l, lLen_t, lLen_c, lLen_s, lTup_l, lTup_t, ex_append, ex_setL, seqOf_l, seqOf_t, seqOf_c, ex_rng1, ex_rng2, frzO_v, frzO_l, frzO_d, ty_l, ty_d, ty_s, ex_map, ex_bind, ex_if, ok_nComp, ok_tYes, ok_iZip2, ok_sAug, vAddI_ii, wipe_nil, wipe_cons, Option.some.injEq, exists_eq_left', Opd.val.injEq, Val.bl.injEq, Val.int.injEq, List.getElem?_cons_zero, List.getElem?_cons_succ, List.set_cons_zero, List.set_cons_succ, Option.bind_some, id_eq, decide_eq_true_eq, Bool.not_eq_true', decide_eq_false_iff_not, List.length_cons, List.length_nil, Nat.zero_add, Nat.reduceAdd, true_and, and_true, List.zip_cons_cons, List.zip_nil_left, List.zip_nil_right, startS, List.map_cons, List.map_nil, List.cons_append, List.nil_append, Nat.reduceSub, List.replicate_succ, List.replicate_zero, List.append_nil, ↓reduceIte]
      exact ⟨by decide, [y], _, rfl, by intro x hx; simp at hx; subst hx; exact ⟨h1, by omega⟩, by simp, hb4⟩
    · exact ⟨ys, _, rfl, hy, hy2, hb⟩
  clear hy hy2 ys hb hp
  rintro s ⟨ys, hp, rfl, hy, hy2, hb⟩
  have e1 : cutL [Val.str z] none (some (0 : Int)) = [] := rfl
  have e2 : cutL [Val.str z] (some (0 + 1 : Int)) none = [] := rfl
  try simp only [ok_bind, ok_pure, ok_eVar, ok_eC, ok_eCls, ok_op2, ok_op1, ok_opL, ok_opN, ok_tst, ok_tNot, ok_tAnd, ok_tOr, ok_eAnd, ok_eOr, ok_eNot, ok_eIf, ok_chain, ok_aNil, ok_aCons, ok_eTup, ok_eLst, ok_nLst, ok_eFrz, ok_oNone, ok_oSome, ok_opS, ok_callV, ok_callN, ok_eCell, ok_opW, ok_opR, kthen_nx, kthen_brk, kthen_cont, kthen_ret, kthen_rtn, ok_sSeq, ok_sNil, ok_brk, ok_cont, ok_sExpr, ok_sRet, ok_sRtn, ok_sIf, ok_putV, ok_putO, ok_sSet, ok_sOwn, ok_sAsg, ok_gTup, ok_gCons, ok_gNil, ok_gSub, ok_sPar, ok_putVs0, ok_putVs1, ok_iSeq, ok_iRng, turn_nx, turn_brk, turn_cont, turn_ret, turn_rtn, ok_sFor, ok_loop0, ok_loop1, fin_nx, fin_val, fin_sl, fin_rtn, ok_runF, rd_non, rd_bl, rd_int, rd_str, rd_tup, rd_lst, rd_dct, rd_scr, rd_cls, rd_ref, rd_sl, snap_v, snap_l, snap_d, rds_nil, ex_rds, toVals_nil, toVals_cons, ex_argsOf, cur_ref, cur_sl, wr_ref, wr_sl, setV_mk, setO_mk, opdOf_v, opdOf_l, opdOf_d, vAdd_ii, vSub_ii, ex_mul, ex_div, ex_mod, ex_pow, vNeg_i, vLt_ii, vLe_ii, vGt_ii, vGe_ii, ex_eq, ex_ne, vIx_l, vIx_t, vIx_c, lAbs_i, lMin_i, lMax_i, lLen_l, lLen_t, lLen_c, lLen_s, lTup_l, lTup_t, ex_append, ex_setL, seqOf_l, seqOf_t, seqOf_c, ex_rng1, ex_rng2, frzO_v, frzO_l, frzO_d, ty_l, ty_d, ty_s, ex_map, ex_bind, ex_if, ok_nComp, ok_tYes, ok_iZip2, ok_sAug, vAddI_ii, wipe_nil, wipe_cons, Option.some.injEq, exists_eq_left', Opd.val.injEq, Val.bl.injEq, Val.int.injEq, List.getElem?_cons_zero, List.getElem?_cons_succ, List.set_cons_zero, List.set_cons_succ, Option.bind_some, id_eq, decide_eq_true_eq, Bool.not_eq_true', decide_eq_false_iff_not, List.length_cons, List.length_nil, Nat.zero_add, Nat.reduceAdd, true_and, and_true, List.zip_cons_cons, List.zip_nil_left, List.zip_nil_right, startS, List.map_cons, List.map_nil, List.cons_append, List.nil_append, Nat.reduceSub, List.replicate_succ, List.replicate_zero, List.append_nil, ↓reduceIte, vCut_l, vAdd_ll, e1, e2, List.length_map, join_strs hy (show ys.length ≤ 4 by omega)]
  refine ⟨by omega, by omega, ?_⟩
  exact q _ _ hb
end G

namespace G
open PySem PySem.Spec PyProof.Rows L2
open PySem.W (dataLt alike alikeAll minD AlikeAll alike_unique dataLt_all_yes dataLt_all_no dataLt_tuple dataLt_int dataLt_str)
/-! ### pairs in order -/
abbrev PT := Int × Nat
def encP (p : PT) : Val := .tup [.int p.1, chr p.2]
def encD (p : PT) : PyData := .tuple [.int p.1, .str ⟨#[p.2]⟩]
def ltP (p q : PT) : Bool := decide (p.1 < q.1 ∨ (p.1 = q.1 ∧ p.2 < q.2))
theorem toD_enc (p : PT) : toD (encP p) = some (encD p) := by
  unfold encP
  rw [toD, toDs, toD, toDs, toD, toDs]
  rfl
theorem alike_enc (p q : PT) : alike (encD p) (encD q) = true := by
  unfold encD
  simp [alike, alikeAll]
theorem lt_enc (p q : PT) : dataLt (encD p) (encD q) = ltP p q := by
  unfold encD
  rw [dataLt_tuple]
  by_cases h : p.1 = q.1
  · have e : PyData.eqv (.int p.1) (.int q.1) = true := by rw [PyData.eqv]; simp [h]
    rw [dataLt_all_yes (by simp [alike]) e]
    by_cases h2 : p.2 = q.2
    · have e2 : PyData.eqv (.str ⟨#[p.2]⟩) (.str ⟨#[q.2]⟩) = true := by rw [PyData.eqv]; simp [h2]
      rw [dataLt_all_yes (by simp [alike]) e2]
      unfold ltP
      rw [decide_eq_false (by omega)]
      rfl
    · have e2 : PyData.eqv (.str ⟨#[p.2]⟩) (.str ⟨#[q.2]⟩) = false := by
        rw [PyData.eqv, beq_eq_false_iff_ne]
        intro e
        apply h2
        have := congrArg (fun s : Str => s.cps.toList) e
        simpa using this
      rw [dataLt_all_no (by simp [alike]) e2, dataLt_str]
      unfold ltP
      have : ((⟨#[p.2]⟩ : Str).cps.toList < (⟨#[q.2]⟩ : Str).cps.toList) ↔ p.2 < q.2 := by
        show [p.2] < [q.2] ↔ _
        simp [List.cons_lt_cons_iff]
      rw [decide_eq_decide.mpr]
      rw [this]
      omega
  · have e : PyData.eqv (.int p.1) (.int q.1) = false := by rw [PyData.eqv]; simp [h]
    rw [dataLt_all_no (by simp [alike]) e, dataLt_int]
    unfold ltP
    rw [decide_eq_decide.mpr]
    omega
theorem ltV_enc (p q : PT) : ltV (encP p) (encP q) = ltP p q := by
  unfold ltV
  rw [toD_enc, toD_enc]
  exact lt_enc p q
def minP (x : PT) (xs : List PT) : PT := xs.foldl (fun a y => if ltP y a = true then y else a) x
theorem minV_enc : ∀ (xs : List PT) (x : PT), minV (encP x) (xs.map encP) = encP (minP x xs)
  | [], _ => rfl
  | y :: ys, x => by
    show minV (if ltV (encP y) (encP x) = true then encP y else encP x) (ys.map encP) = encP (minP (if ltP y x = true then y else x) ys)
    rw [ltV_enc]
    by_cases h : ltP y x = true
    · rw [if_pos h, if_pos h]; exact minV_enc ys y
    · rw [if_neg h, if_neg h]; exact minV_enc ys x
theorem minP_mem : ∀ (xs : List PT) (x : PT), minP x xs ∈ x :: xs
  | [], x => by simp [minP]
  | y :: ys, x => by
    have h := minP_mem ys (if ltP y x = true then y else x)
    have e : minP x (y :: ys) = minP (if ltP y x = true then y else x) ys := rfl
    rw [e]
    rcases List.mem_cons.mp h with h | h
    · rw [h]; split <;> simp
    · exact List.mem_cons_of_mem _ (List.mem_cons_of_mem _ h)
theorem ltP_iff {p q : PT} : ltP p q = true ↔ (p.1 < q.1 ∨ (p.1 = q.1 ∧ p.2 < q.2)) := by unfold ltP; exact decide_eq_true_iff
theorem minP_le : ∀ (xs : List PT) (x : PT), ∀ y ∈ x :: xs, ¬ ltP y (minP x xs) = true
  | [], x, y, h => by
    have e : y = x := by simpa using h
    subst e
    rw [ltP_iff]
    show ¬ (y.1 < y.1 ∨ (y.1 = y.1 ∧ y.2 < y.2))
    omega
  | z :: ys, x, y, h => by
    have ih := minP_le ys (if ltP z x = true then z else x)
    have e : minP x (z :: ys) = minP (if ltP z x = true then z else x) ys := rfl
    rw [e]
    generalize minP (if ltP z x = true then z else x) ys = m at ih
    have h0 := ih _ List.mem_cons_self
    rcases List.mem_cons.mp h with rfl | h
    · by_cases hz : ltP z y = true
      · rw [if_pos hz] at h0
        rw [ltP_iff] at h0 hz ⊢
        omega
      · rw [if_neg hz] at h0
        exact h0
    · rcases List.mem_cons.mp h with rfl | h
      · by_cases hz : ltP y x = true
        · rw [if_pos hz] at h0
          exact h0
        · rw [if_neg hz] at h0
          rw [ltP_iff] at h0 hz ⊢
          omega
      · exact ih y (List.mem_cons_of_mem _ h)
theorem okMin_enc (ps : List PT) : okMin (ps.map encP) = true := by
  have e : ∀ ps : List PT, toDs (ps.map encP) = some (ps.map encD) := fun ps => by
    induction ps with
    | nil => rw [List.map_nil, toDs]; rfl
    | cons p ps ih => rw [List.map_cons, toDs, toD_enc, ih]; rfl
  have d : ∀ ps : List PT, deps 20 (ps.map encP) = true := fun ps => by
    induction ps with
    | nil => rw [List.map_nil, deps]
    | cons p ps ih =>
      rw [List.map_cons, deps, ih]
      unfold encP
      rw [dep, deps, deps, deps, dep_int, dep_str]
      rfl
  unfold okMin
  rw [d, e]
  show (true && alikeB (ps.map encD)) = true
  unfold alikeB
  rw [Bool.true_and, Bool.and_eq_true, List.all_eq_true, List.all_eq_true]
  refine ⟨fun x hx => ?_, fun x hx => ?_⟩
  · rw [List.all_eq_true]
    intro y hy
    obtain ⟨p, _, rfl⟩ := List.mem_map.mp hx
    obtain ⟨q, _, rfl⟩ := List.mem_map.mp hy
    exact alike_enc p q
  · obtain ⟨p, _, rfl⟩ := List.mem_map.mp hx
    rfl
theorem lMinL_enc {p : PT} {ps : List PT} {P : Val → Prop} : (∃ z, lMinL [.lst ((p :: ps).map encP)] = some z ∧ P z) ↔ P (encP (minP p ps)) := by
  have e : lMinL [.lst ((p :: ps).map encP)] = some (encP (minP p ps)) := by
    show (if okMin (encP p :: ps.map encP) = true then some (minV (encP p) (ps.map encP)) else none) = _
    rw [if_pos (show okMin (encP p :: ps.map encP) = true from okMin_enc (p :: ps)), minV_enc]
  rw [e]
  simp
/-! ### the sign that most say -/
def okBest (col : List Nat) (b : Nat) : Prop := ((∀ c ∈ col, c = 63) ∧ b = 63) ∨ (b ∈ col ∧ b ≠ 63 ∧ ∀ s ∈ col, s ≠ 63 → col.count s < col.count b ∨ (col.count s = col.count b ∧ b ≤ s))
theorem okBest_one {col : List Nat} {b b' : Nat} (h : okBest col b) (h' : okBest col b') : b = b' := by
  rcases h with ⟨h1, h2⟩ | ⟨h1, h2, h3⟩
  · rcases h' with ⟨h4, h5⟩ | ⟨h4, h5, h6⟩
    · omega
    · exact absurd (h1 _ h4) h5
  · rcases h' with ⟨h4, h5⟩ | ⟨h4, h5, h6⟩
    · exact absurd (h4 _ h1) h2
    · have a := h3 b' h4 h5
      have b := h6 b h1 h2
      omega
def some63 (col : List Nat) : List Nat := col.filter fun c => !decide (c = 63)
def best (col : List Nat) : Nat := match (some63 col).map (fun s => ((0 - ((some63 col).count s : Nat) : Int), s)) ++ [((1 : Int), 63)] with
  | [] => 63
  | p :: ps => (minP p ps).2
theorem count63 {col : List Nat} {s : Nat} (h : s ≠ 63) : (some63 col).count s = col.count s := by
  unfold some63
  rw [List.count_filter]
  simp [h]
theorem best_ok (col : List Nat) : okBest col (best col) := by
  unfold best
  split
  · rename_i h
    simp at h
  · rename_i p ps h
    have hm := minP_mem ps p
    have hl := minP_le ps p
    rw [← h] at hm hl
    generalize minP p ps = m at hm hl
    rcases List.mem_append.mp hm with hm | hm
    · obtain ⟨s, hs, rfl⟩ := List.mem_map.mp hm
      unfold some63 at hs
      obtain ⟨h1, h2⟩ := List.mem_filter.mp hs
      have h2 : s ≠ 63 := by simpa using h2
      refine .inr ⟨h1, h2, fun t ht ht2 => ?_⟩
      show col.count t < col.count s ∨ (col.count t = col.count s ∧ s ≤ t)
      have := hl ((0 - ((some63 col).count t : Nat) : Int), t) (List.mem_append_left _ (List.mem_map.mpr ⟨t, by unfold some63; exact List.mem_filter.mpr ⟨ht, by simpa using ht2⟩, rfl⟩))
      rw [ltP_iff] at this
      simp only [count63 h2, count63 ht2] at this
      omega
    · have e : m = ((1 : Int), 63) := by simpa using hm
      subst e
      refine .inl ⟨fun c hc => ?_, rfl⟩
      by_cases h63 : c = 63
      · exact h63
      · exfalso
        have := hl ((0 - ((some63 col).count c : Nat) : Int), c) (List.mem_append_left _ (List.mem_map.mpr ⟨c, by unfold some63; exact List.mem_filter.mpr ⟨hc, by simpa using h63⟩, rfl⟩))
        rw [ltP_iff] at this
        apply this
        left
        show (0 - ((some63 col).count c : Nat) : Int) < 1
        omega
def lbest (col : List Nat) : List Nat → Nat × Nat → Nat × Nat
  | [], st => st
  | s :: r, st => lbest col r (if st.2 < col.count s then (s, col.count s) else st)
theorem lbest_inv {col : List Nat} : ∀ (r P : List Nat) (b m : Nat), (P ++ r).Pairwise (· < ·) → ((m = 0 ∧ b = 63) ∨ (1 ≤ m ∧ b ∈ P ∧ col.count b = m)) → (∀ s ∈ P, col.count s ≤ m ∧ (col.count s = m → 1 ≤ m → b ≤ s)) →
    (((lbest col r (b, m)).2 = 0 ∧ (lbest col r (b, m)).1 = 63) ∨ (1 ≤ (lbest col r (b, m)).2 ∧ (lbest col r (b, m)).1 ∈ P ++ r ∧ col.count (lbest col r (b, m)).1 = (lbest col r (b, m)).2)) ∧
    ∀ s ∈ P ++ r, col.count s ≤ (lbest col r (b, m)).2 ∧ (col.count s = (lbest col r (b, m)).2 → 1 ≤ (lbest col r (b, m)).2 → (lbest col r (b, m)).1 ≤ s)
  | [], P, b, m, _, h1, h2 => by
    rw [List.append_nil]
    exact ⟨h1, h2⟩
  | s :: r, P, b, m, hp, h1, h2 => by
    have e : P ++ s :: r = (P ++ [s]) ++ r := by simp
    rw [e] at hp ⊢
    have hlt : ∀ t ∈ P, t < s := fun t ht => by
      have := (List.pairwise_append.mp (List.pairwise_append.mp hp).1).2.2 t ht s (by simp)
      exact this
    show (((lbest col r (if m < col.count s then (s, col.count s) else (b, m))).2 = 0 ∧ _) ∨ _) ∧ _
    by_cases hc : m < col.count s
    · rw [show lbest col (s :: r) (b, m) = lbest col r (s, col.count s) by rw [lbest, if_pos hc]]
      rw [if_pos hc]
      refine lbest_inv r (P ++ [s]) s (col.count s) hp (.inr ⟨by omega, by simp, rfl⟩) fun t ht => ?_
      rcases List.mem_append.mp ht with ht | ht
      · have := h2 t ht
        exact ⟨by omega, fun e => by omega⟩
      · have e : t = s := by simpa using ht
        subst e
        exact ⟨Nat.le_refl _, fun _ _ => Nat.le_refl _⟩
    · rw [show lbest col (s :: r) (b, m) = lbest col r (b, m) by rw [lbest, if_neg hc]]
      rw [if_neg hc]
      refine lbest_inv r (P ++ [s]) b m hp (h1.imp id fun ⟨a, c, d⟩ => ⟨a, by simp [c], d⟩) fun t ht => ?_
      rcases List.mem_append.mp ht with ht | ht
      · exact h2 t ht
      · have e : t = s := by simpa using ht
        subst e
        refine ⟨by omega, fun e hm => ?_⟩
        rcases h1 with h1 | ⟨_, hb, _⟩
        · omega
        · exact Nat.le_of_lt (hlt b hb)
theorem lbest_ok {col : List Nat} (h : ∀ c ∈ col, c ∈ RSG) : okBest col (lbest col SGN (63, 0)).1 := by
  obtain ⟨h1, h2⟩ := lbest_inv (col := col) SGN [] 63 0 (by decide) (.inl ⟨rfl, rfl⟩) (by simp)
  rw [List.nil_append] at h1 h2
  generalize lbest col SGN (63, 0) = st at h1 h2
  have sg : ∀ c ∈ col, c ≠ 63 → c ∈ SGN := fun c hc n => by
    rcases List.mem_cons.mp (h c hc) with e | e
    · exact absurd e n
    · exact e
  rcases h1 with ⟨h1, h3⟩ | ⟨h1, h3, h4⟩
  · refine .inl ⟨fun c hc => ?_, h3⟩
    by_cases n : c = 63
    · exact n
    · exfalso
      have := (h2 c (sg c hc n)).1
      have : 0 < col.count c := List.count_pos_iff.mpr hc
      omega
  · have hb : st.1 ∈ col := List.count_pos_iff.mp (by omega)
    refine .inr ⟨hb, fun e => ?_, fun s hs n => ?_⟩
    · rw [e] at h3
      revert h3
      decide
    · have := h2 s (sg s hs n)
      have h5 := this.1
      have h6 := this.2
      rw [← h4] at h5 h6
      by_cases e : col.count s = col.count st.1
      · exact .inr ⟨e, h6 e (by omega)⟩
      · exact .inl (by omega)
theorem best_eq {col : List Nat} (h : ∀ c ∈ col, c ∈ RSG) : best col = (lbest col SGN (63, 0)).1 := okBest_one (best_ok col) (lbest_ok h)
end G

namespace G
open PySem PySem.Spec PyProof.Rows L2
/-! ### the plate of readings -/
def zV (l : List Nat) : Val := .str ⟨l.toArray⟩
def colOf (rs : List (List Nat)) (k : Nat) : List Nat := rs.map fun l => l.getD k 0
def plateL (rs : List (List Nat)) : Nat → Nat → List Nat
  | _, 0 => []
  | k, m + 1 => best (colOf rs k) :: plateL rs (k + 1) m
theorem ex_count {ys : List Val} {x : Val} {P : Val → Prop} : (∃ z, mCount (.lst ys) [x] = some z ∧ P z) ↔ (dep 20 x && deps 20 ys) = true ∧ P (.int ((ys.countP fun y => eqv y x : Nat) : Int)) := ex_if
theorem countP_chr {c : Nat} : ∀ l : List Nat, ((l.map chr).countP fun y => eqv y (chr c)) = l.count c
  | [] => rfl
  | d :: l => by
    rw [List.map_cons, List.countP_cons, List.count_cons, countP_chr l, eqv_chr]
    by_cases h : d = c <;> simp [h]
structure Likes (rs : List (List Nat)) (n : Nat) : Prop where
  good : ∀ l ∈ rs, GoodZ l ∧ l.length = n
  few : rs.length ≤ 7
  ne : 0 < rs.length
theorem plate_ok {rs : List (List Nat)} {n : Nat} {hp : List OV} {Q : OV → List OV → Prop} (g : Likes rs n) (q : Q (.v (.str ⟨(plateL rs 0 n).toArray⟩)) hp) : FOk (F_plate_of [.lst (rs.map zV)] hp) Q := by
  obtain ⟨r0, rr, hr⟩ : ∃ r0 rr, rs = r0 :: rr := by
    cases rs with
    | nil => exact absurd g.ne (by simp)
    | cons a b => exact ⟨a, b, rfl⟩
  have g0 := g.good r0 (by rw [hr]; simp)
  have hn : n ≤ 7 := by rw [← g0.2]; exact g0.1.hi
  unfold F_plate_of m_plate_of
  rw [ok_runF]
  refine ok_step (fun s => s = ⟨[some (.v (.lst (rs.map zV))), some (.lst []), none, none, none, none, none], hp⟩) ?_ ?_
  · try simp only [ok_bind, ok_pure, ok_eVar, ok_eC, ok_eCls, ok_op2, ok_op1, ok_opL, ok_opN, ok_tst, ok_tNot, ok_tAnd, ok_tOr, ok_eAnd, ok_eOr, ok_eNot, ok_eIf, ok_chain, ok_aNil, ok_aCons, ok_eTup, ok_eLst, ok_nLst, ok_eFrz, ok_oNone, ok_oSome, ok_opS, ok_callV, ok_callN, ok_eCell, ok_opW, ok_opR, kthen_nx, kthen_brk, kthen_cont, kthen_ret, kthen_rtn, ok_sSeq, ok_sNil, ok_brk, ok_cont, ok_sExpr, ok_sRet, ok_sRtn, ok_sIf, ok_putV, ok_putO, ok_sSet, ok_sOwn, ok_sAsg, ok_gTup, ok_gCons, ok_gNil, ok_gSub, ok_sPar, ok_putVs0, ok_putVs1, ok_iSeq, ok_iRng, turn_nx, turn_brk, turn_cont, turn_ret, turn_rtn, ok_sFor, ok_loop0, ok_loop1, fin_nx, fin_val, fin_sl, fin_rtn, ok_runF, rd_non, rd_bl, rd_int, rd_str, rd_tup, rd_lst, rd_dct, rd_scr, rd_cls, rd_ref, rd_sl, snap_v, snap_l, snap_d, rds_nil, ex_rds, toVals_nil, toVals_cons, ex_argsOf, cur_ref, cur_sl, wr_ref, wr_sl, setV_mk, setO_mk, opdOf_v, opdOf_l, opdOf_d, vAdd_ii, vSub_ii, ex_mul, ex_div, ex_mod, ex_pow, vNeg_i, vLt_ii, vLe_ii, vGt_ii, vGe_ii, ex_eq, ex_ne, vIx_l, vIx_t, vIx_c, lAbs_i, lMin_i, lMax_i, lLen_l, lLen_t, lLen_c, lLen_s, lTup_l, lTup_t, ex_append, ex_setL, seqOf_l, seqOf_t, seqOf_c, ex_rng1, ex_rng2, frzO_v, frzO_l, frzO_d, ty_l, ty_d, ty_s, ex_map, ex_bind, ex_if, ok_nComp, ok_tYes, ok_iZip2, ok_sAug, vAddI_ii, wipe_nil, wipe_cons, Option.some.injEq, exists_eq_left', Opd.val.injEq, Val.bl.injEq, Val.int.injEq, List.getElem?_cons_zero, List.getElem?_cons_succ, List.set_cons_zero, List.set_cons_succ, Option.bind_some, id_eq, decide_eq_true_eq, Bool.not_eq_true', decide_eq_false_iff_not, List.length_cons, List.length_nil, Nat.zero_add, Nat.reduceAdd, true_and, and_true, List.zip_cons_cons, List.zip_nil_left, List.zip_nil_right, startS, List.map_cons, List.map_nil, List.cons_append, List.nil_append, Nat.reduceSub, List.replicate_succ, List.replicate_zero, List.append_nil, ↓reduceIte]
    decide
  rintro s rfl
  refine ok_step (fun s => ∃ (o2 o3 o4 o5 o6 : Option OV), s = ⟨[some (.v (.lst (rs.map zV))), some (.lst ((plateL rs 0 n).map chr)), o2, o3, o4, o5, o6], hp⟩) ?_ ?_
  · have e0 : atI (rs.map zV) 0 = some (zV r0) := by rw [hr]; exact atI0
    have el : (⟨r0.toArray⟩ : Str).length = n := by rw [← g0.2]; show r0.toArray.size = _; simp
    try simp only [ok_bind, ok_pure, ok_eVar, ok_eC, ok_eCls, ok_op2, ok_op1, ok_opL, ok_opN, ok_tst, ok_tNot, ok_tAnd, ok_tOr, ok_eAnd, ok_eOr, ok_eNot, ok_eIf, ok_chain, ok_aNil, ok_aCons, ok_eTup, ok_eLst, ok_nLst, ok_eFrz, ok_oNone, ok_oSome, ok_opS, ok_callV, ok_callN, ok_eCell, ok_opW, ok_opR, kthen_nx, kthen_brk, kthen_cont, kthen_ret, kthen_rtn, ok_sSeq, ok_sNil, ok_brk, ok_cont, ok_sExpr, ok_sRet, ok_sRtn, ok_sIf, ok_putV, ok_putO, ok_sSet, ok_sOwn, ok_sAsg, ok_gTup, ok_gCons, ok_gNil, ok_gSub, ok_sPar, ok_putVs0, ok_putVs1, ok_iSeq, ok_iRng, turn_nx, turn_brk, turn_cont, turn_ret, turn_rtn, ok_sFor, ok_loop0, ok_loop1, fin_nx, fin_val, fin_sl, fin_rtn, ok_runF, rd_non, rd_bl, rd_int, rd_str, rd_tup, rd_lst, rd_dct, rd_scr, rd_cls, rd_ref, rd_sl, snap_v, snap_l, snap_d, rds_nil, ex_rds, toVals_nil, toVals_cons, ex_argsOf, cur_ref, cur_sl, wr_ref, wr_sl, setV_mk, setO_mk, opdOf_v, opdOf_l, opdOf_d, vAdd_ii, vSub_ii, ex_mul, ex_div, ex_mod, ex_pow, vNeg_i, vLt_ii, vLe_ii, vGt_ii, vGe_ii, ex_eq, ex_ne, vIx_l, vIx_t, vIx_c, lAbs_i, lMin_i, lMax_i, lLen_l, lLen_t, lLen_c, lLen_s, lTup_l, lTup_t, ex_append, ex_setL, seqOf_l, seqOf_t, seqOf_c, ex_rng1, ex_rng2, frzO_v, frzO_l, frzO_d, ty_l, ty_d, ty_s, ex_map, ex_bind, ex_if, ok_nComp, ok_tYes, ok_iZip2, ok_sAug, vAddI_ii, wipe_nil, wipe_cons, Option.some.injEq, exists_eq_left', Opd.val.injEq, Val.bl.injEq, Val.int.injEq, List.getElem?_cons_zero, List.getElem?_cons_succ, List.set_cons_zero, List.set_cons_succ, Option.bind_some, id_eq, decide_eq_true_eq, Bool.not_eq_true', decide_eq_false_iff_not, List.length_cons, List.length_nil, Nat.zero_add, Nat.reduceAdd, true_and, and_true, List.zip_cons_cons, List.zip_nil_left, List.zip_nil_right, startS, List.map_cons, List.map_nil, List.cons_append, List.nil_append, Nat.reduceSub, List.replicate_succ, List.replicate_zero, List.append_nil, ↓reduceIte, e0, zV, el]
    refine ⟨⟨by rw [big_lt]; omega, by rw [big_lt]; omega⟩, ?_⟩
    rw [Int.toNat_natCast]
    refine ok_loop (fun xs s => ∃ (k m : Nat) (dn : List Nat) (o2 o3 o5 : Option OV), xs = intsV k m ∧ k + m = n ∧ s = ⟨[some (.v (.lst (rs.map zV))), some (.lst (dn.map chr)), o2, o3, none, o5, none], hp⟩ ∧ dn ++ plateL rs k m = plateL rs 0 n ∧ dn.length = k) ?_ ?_ ?_
    · exact ⟨0, n, [], _, _, _, rfl, by omega, rfl, rfl, rfl⟩
    · rintro x xs s ⟨k, m, dn, o2, o3, o5, e1, hk, rfl, hd, hdl⟩
      cases m with
      | zero => rw [intsV_zero] at e1; cases e1
      | succ m =>
        rw [intsV_succ, List.cons.injEq] at e1
        obtain ⟨rfl, rfl⟩ := e1
        rw [ok_putV]
        refine ok_step (fun s => s = ⟨[some (.v (.lst (rs.map zV))), some (.lst (dn.map chr)), some (.v (.int k)), some (.v (.lst ((some63 (colOf rs k)).map chr))), none, o5, none], hp⟩) ?_ ?_
        · try simp only [ok_bind, ok_pure, ok_eVar, ok_eC, ok_eCls, ok_op2, ok_op1, ok_opL, ok_opN, ok_tst, ok_tNot, ok_tAnd, ok_tOr, ok_eAnd, ok_eOr, ok_eNot, ok_eIf, ok_chain, ok_aNil, ok_aCons, ok_eTup, ok_eLst, ok_nLst, ok_eFrz, ok_oNone, ok_oSome, ok_opS, ok_callV, ok_callN, ok_eCell, ok_opW, ok_opR, kthen_nx, kthen_brk, kthen_cont, kthen_ret, kthen_rtn, ok_sSeq, ok_sNil, ok_brk, ok_cont, ok_sExpr, ok_sRet, ok_sRtn, ok_sIf, ok_putV, ok_putO, ok_sSet, ok_sOwn, ok_sAsg, ok_gTup, ok_gCons, ok_gNil, ok_gSub, ok_sPar, ok_putVs0, ok_putVs1, ok_iSeq, ok_iRng, turn_nx, turn_brk, turn_cont, turn_ret, turn_rtn, ok_sFor, ok_loop0, ok_loop1, fin_nx, fin_val, fin_sl, fin_rtn, ok_runF, rd_non, rd_bl, rd_int, rd_str, rd_tup, rd_lst, rd_dct, rd_scr, rd_cls, rd_ref, rd_sl, snap_v, snap_l, snap_d, rds_nil, ex_rds, toVals_nil, toVals_cons, ex_argsOf, cur_ref, cur_sl, wr_ref, wr_sl, setV_mk, setO_mk, opdOf_v, opdOf_l, opdOf_d, vAdd_ii, vSub_ii, ex_mul, ex_div, ex_mod, ex_pow, vNeg_i, vLt_ii, vLe_ii, vGt_ii, vGe_ii, ex_eq, ex_ne, vIx_l, vIx_t, vIx_c, lAbs_i, lMin_i, lMax_i, lLen_l, lLen_t, lLen_c, lLen_s, lTup_l, lTup_t, ex_append, ex_setL, seqOf_l, seqOf_t, seqOf_c, ex_rng1, ex_rng2, frzO_v, frzO_l, frzO_d, ty_l, ty_d, ty_s, ex_map, ex_bind, ex_if, ok_nComp, ok_tYes, ok_iZip2, ok_sAug, vAddI_ii, wipe_nil, wipe_cons, Option.some.injEq, exists_eq_left', Opd.val.injEq, Val.bl.injEq, Val.int.injEq, List.getElem?_cons_zero, List.getElem?_cons_succ, List.set_cons_zero, List.set_cons_succ, Option.bind_some, id_eq, decide_eq_true_eq, Bool.not_eq_true', decide_eq_false_iff_not, List.length_cons, List.length_nil, Nat.zero_add, Nat.reduceAdd, true_and, and_true, List.zip_cons_cons, List.zip_nil_left, List.zip_nil_right, startS, List.map_cons, List.map_nil, List.cons_append, List.nil_append, Nat.reduceSub, List.replicate_succ, List.replicate_zero, List.append_nil, ↓reduceIte]
          refine ⟨rfl, ?_⟩
          refine (lc_map (fun s => ∃ o, s = ⟨[some (.v (.lst (rs.map zV))), some (.lst (dn.map chr)), some (.v (.int k)), o3, o, o5, none], hp⟩) ⟨_, rfl⟩ (fun x => match x with
            | .str y => !decide (y.cps.toList.getD k 0 = 63)
            | _ => false) (fun x => match x with
            | .str y => chr (y.cps.toList.getD k 0)
            | _ => .non) ?_).mono ?_
          · rintro x hx s ⟨o, rfl⟩
            obtain ⟨l, hl, rfl⟩ := List.mem_map.mp hx
            have gl := g.good l hl
            have hkl : k < l.length := by rw [gl.2]; omega
            have el : l[k]? = some (l.getD k 0) := by rw [List.getElem?_eq_getElem hkl, List.getD_eq_getElem?_getD, List.getElem?_eq_getElem hkl]; rfl
            try simp only [ok_bind, ok_pure, ok_eVar, ok_eC, ok_eCls, ok_op2, ok_op1, ok_opL, ok_opN, ok_tst, ok_tNot, ok_tAnd, ok_tOr, ok_eAnd, ok_eOr, ok_eNot, ok_eIf, ok_chain, ok_aNil, ok_aCons, ok_eTup, ok_eLst, ok_nLst, ok_eFrz, ok_oNone, ok_oSome, ok_opS, ok_callV, ok_callN, ok_eCell, ok_opW, ok_opR, kthen_nx, kthen_brk, kthen_cont, kthen_ret, kthen_rtn, ok_sSeq, ok_sNil, ok_brk, ok_cont, ok_sExpr, ok_sRet, ok_sRtn, ok_sIf, ok_putV, ok_putO, ok_sSet, ok_sOwn, ok_sAsg, ok_gTup, ok_gCons, ok_gNil, ok_gSub, ok_sPar, ok_putVs0, ok_putVs1, ok_iSeq, ok_iRng, turn_nx, turn_brk, turn_cont, turn_ret, turn_rtn, ok_sFor, ok_loop0, ok_loop1, fin_nx, fin_val, fin_sl, fin_rtn, ok_runF, rd_non, rd_bl, rd_int, rd_str, rd_tup, rd_lst, rd_dct, rd_scr, rd_cls, rd_ref, rd_sl, snap_v, snap_l, snap_d, rds_nil, ex_rds, toVals_nil, toVals_cons, ex_argsOf, cur_ref, cur_sl, wr_ref, wr_sl, setV_mk, setO_mk, opdOf_v, opdOf_l, opdOf_d, vAdd_ii, vSub_ii, ex_mul, ex_div, ex_mod, ex_pow, vNeg_i, vLt_ii, vLe_ii, vGt_ii, vGe_ii, ex_eq, ex_ne, vIx_l, vIx_t, vIx_c, lAbs_i, lMin_i, lMax_i, lLen_l, lLen_t, lLen_c, lLen_s, lTup_l, lTup_t, ex_append, ex_setL, seqOf_l, seqOf_t, seqOf_c, ex_rng1, ex_rng2, frzO_v, frzO_l, frzO_d, ty_l, ty_d, ty_s, ex_map, ex_bind, ex_if, ok_nComp, ok_tYes, ok_iZip2, ok_sAug, vAddI_ii, wipe_nil, wipe_cons, Option.some.injEq, exists_eq_left', Opd.val.injEq, Val.bl.injEq, Val.int.injEq, List.getElem?_cons_zero, List.getElem?_cons_succ, List.set_cons_zero, List.set_cons_succ, Option.bind_some, id_eq, decide_eq_true_eq, Bool.not_eq_true', decide_eq_false_iff_not, List.length_cons, List.length_nil, Nat.zero_add, Nat.reduceAdd, true_and, and_true, List.zip_cons_cons, List.zip_nil_left, List.zip_nil_right, startS, List.map_cons, List.map_nil, List.cons_append, List.nil_append, Nat.reduceSub, List.replicate_succ, List.replicate_zero, List.append_nil, ↓reduceIte, zV, vIx_s, at_k el, dep_str, q63, eqv_chr]
            exact ⟨rfl, fun _ => ⟨_, rfl⟩, fun _ => ⟨_, rfl⟩⟩
          · rintro r s ⟨rfl, o, rfl⟩
            refine ⟨rfl, ?_, ?_⟩
            · rw [List.length_map]
              refine Nat.le_trans (List.length_filter_le _ _) ?_
              rw [List.length_map]
              exact Nat.le_trans g.few (by decide)
            · have e : (((rs.map zV).filter (fun x => match x with
                | .str y => !decide (y.cps.toList.getD k 0 = 63)
                | _ => false)).map (fun x => match x with
                | .str y => chr (y.cps.toList.getD k 0)
                | _ => Val.non)) = (some63 (colOf rs k)).map chr := by
                unfold some63 colOf
                rw [List.filter_map, List.map_map, List.filter_map, List.map_map]
                rfl
              rw [e]
              rfl
        rintro s rfl
        refine ok_step (fun s => ∃ o5 : Int, s = ⟨[some (.v (.lst (rs.map zV))), some (.lst (dn.map chr)), some (.v (.int k)), some (.v (.lst ((some63 (colOf rs k)).map chr))), none, some (.v (encP (o5, best (colOf rs k)))), none], hp⟩) ?_ ?_
        · try simp only [ok_bind, ok_pure, ok_eVar, ok_eC, ok_eCls, ok_op2, ok_op1, ok_opL, ok_opN, ok_tst, ok_tNot, ok_tAnd, ok_tOr, ok_eAnd, ok_eOr, ok_eNot, ok_eIf, ok_chain, ok_aNil, ok_aCons, ok_eTup, ok_eLst, ok_nLst, ok_eFrz, ok_oNone, ok_oSome, ok_opS, ok_callV, ok_callN, ok_eCell, ok_opW, ok_opR, kthen_nx, kthen_brk, kthen_cont, kthen_ret, kthen_rtn, ok_sSeq, ok_sNil, ok_brk, ok_cont, ok_sExpr, ok_sRet, ok_sRtn, ok_sIf, ok_putV, ok_putO, ok_sSet, ok_sOwn, ok_sAsg, ok_gTup, ok_gCons, ok_gNil, ok_gSub, ok_sPar, ok_putVs0, ok_putVs1, ok_iSeq, ok_iRng, turn_nx, turn_brk, turn_cont, turn_ret, turn_rtn, ok_sFor, ok_loop0, ok_loop1, fin_nx, fin_val, fin_sl, fin_rtn, ok_runF, rd_non, rd_bl, rd_int, rd_str, rd_tup, rd_lst, rd_dct, rd_scr, rd_cls, rd_ref, rd_sl, snap_v, snap_l, snap_d, rds_nil, ex_rds, toVals_nil, toVals_cons, ex_argsOf, cur_ref, cur_sl, wr_ref, wr_sl, setV_mk, setO_mk, opdOf_v, opdOf_l, opdOf_d, vAdd_ii, vSub_ii, ex_mul, ex_div, ex_mod, ex_pow, vNeg_i, vLt_ii, vLe_ii, vGt_ii, vGe_ii, ex_eq, ex_ne, vIx_l, vIx_t, vIx_c, lAbs_i, lMin_i, lMax_i, lLen_l, lLen_t, lLen_c, lLen_s, lTup_l, lTup_t, ex_append, ex_setL, seqOf_l, seqOf_t, seqOf_c, ex_rng1, ex_rng2, frzO_v, frzO_l, frzO_d, ty_l, ty_d, ty_s, ex_map, ex_bind, ex_if, ok_nComp, ok_tYes, ok_iZip2, ok_sAug, vAddI_ii, wipe_nil, wipe_cons, Option.some.injEq, exists_eq_left', Opd.val.injEq, Val.bl.injEq, Val.int.injEq, List.getElem?_cons_zero, List.getElem?_cons_succ, List.set_cons_zero, List.set_cons_succ, Option.bind_some, id_eq, decide_eq_true_eq, Bool.not_eq_true', decide_eq_false_iff_not, List.length_cons, List.length_nil, Nat.zero_add, Nat.reduceAdd, true_and, and_true, List.zip_cons_cons, List.zip_nil_left, List.zip_nil_right, startS, List.map_cons, List.map_nil, List.cons_append, List.nil_append, Nat.reduceSub, List.replicate_succ, List.replicate_zero, List.append_nil, ↓reduceIte]
          refine ⟨rfl, ?_⟩
          refine (lc_map (fun s => ∃ o, s = ⟨[some (.v (.lst (rs.map zV))), some (.lst (dn.map chr)), some (.v (.int k)), some (.v (.lst ((some63 (colOf rs k)).map chr))), none, o5, o], hp⟩) ⟨_, rfl⟩ (fun _ => true) (fun x => match x with
            | .str y => encP ((0 - ((some63 (colOf rs k)).count (y.cps.toList.headD 0) : Nat) : Int), y.cps.toList.headD 0)
            | _ => .non) ?_).mono ?_
          · rintro x hx s ⟨o, rfl⟩
            obtain ⟨c, hc, rfl⟩ := List.mem_map.mp hx
            try simp only [ok_bind, ok_pure, ok_eVar, ok_eC, ok_eCls, ok_op2, ok_op1, ok_opL, ok_opN, ok_tst, ok_tNot, ok_tAnd, ok_tOr, ok_eAnd, ok_eOr, ok_eNot, ok_eIf, ok_chain, ok_aNil, ok_aCons, ok_eTup, ok_eLst, ok_nLst, ok_eFrz, ok_oNone, ok_oSome, ok_opS, ok_callV, ok_callN, ok_eCell, ok_opW, ok_opR, kthen_nx, kthen_brk, kthen_cont, kthen_ret, kthen_rtn, ok_sSeq, ok_sNil, ok_brk, ok_cont, ok_sExpr, ok_sRet, ok_sRtn, ok_sIf, ok_putV, ok_putO, ok_sSet, ok_sOwn, ok_sAsg, ok_gTup, ok_gCons, ok_gNil, ok_gSub, ok_sPar, ok_putVs0, ok_putVs1, ok_iSeq, ok_iRng, turn_nx, turn_brk, turn_cont, turn_ret, turn_rtn, ok_sFor, ok_loop0, ok_loop1, fin_nx, fin_val, fin_sl, fin_rtn, ok_runF, rd_non, rd_bl, rd_int, rd_str, rd_tup, rd_lst, rd_dct, rd_scr, rd_cls, rd_ref, rd_sl, snap_v, snap_l, snap_d, rds_nil, ex_rds, toVals_nil, toVals_cons, ex_argsOf, cur_ref, cur_sl, wr_ref, wr_sl, setV_mk, setO_mk, opdOf_v, opdOf_l, opdOf_d, vAdd_ii, vSub_ii, ex_mul, ex_div, ex_mod, ex_pow, vNeg_i, vLt_ii, vLe_ii, vGt_ii, vGe_ii, ex_eq, ex_ne, vIx_l, vIx_t, vIx_c, lAbs_i, lMin_i, lMax_i, lLen_l, lLen_t, lLen_c, lLen_s, lTup_l, lTup_t, ex_append, ex_setL, seqOf_l, seqOf_t, seqOf_c, ex_rng1, ex_rng2, frzO_v, frzO_l, frzO_d, ty_l, ty_d, ty_s, ex_map, ex_bind, ex_if, ok_nComp, ok_tYes, ok_iZip2, ok_sAug, vAddI_ii, wipe_nil, wipe_cons, Option.some.injEq, exists_eq_left', Opd.val.injEq, Val.bl.injEq, Val.int.injEq, List.getElem?_cons_zero, List.getElem?_cons_succ, List.set_cons_zero, List.set_cons_succ, Option.bind_some, id_eq, decide_eq_true_eq, Bool.not_eq_true', decide_eq_false_iff_not, List.length_cons, List.length_nil, Nat.zero_add, Nat.reduceAdd, true_and, and_true, List.zip_cons_cons, List.zip_nil_left, List.zip_nil_right, startS, List.map_cons, List.map_nil, List.cons_append, List.nil_append, Nat.reduceSub, List.replicate_succ, List.replicate_zero, List.append_nil, ↓reduceIte, ex_count, dep_str]
            refine ⟨fun _ => ?_, fun z => by cases z⟩
            refine ⟨?_, by decide, ?_, _, rfl⟩
            · rw [deps_str (fun x hx => by obtain ⟨c, _, rfl⟩ := List.mem_map.mp hx; exact ⟨_, rfl⟩)]
              rfl
            · rw [countP_chr]
              rfl
          · rintro r s ⟨rfl, o, rfl⟩
            rw [filter_true, List.map_map]
            have e : ((some63 (colOf rs k)).map ((fun x => match x with
              | .str y => encP ((0 - ((some63 (colOf rs k)).count (y.cps.toList.headD 0) : Nat) : Int), y.cps.toList.headD 0)
              | _ => Val.non) ∘ chr)) = ((some63 (colOf rs k)).map fun s => ((0 - ((some63 (colOf rs k)).count s : Nat) : Int), s)).map encP := by
              rw [List.map_map]
              rfl
            rw [e]
            have h7 : (some63 (colOf rs k)).length ≤ 7 := by
              unfold some63 colOf
              refine Nat.le_trans (List.length_filter_le _ _) ?_
              rw [List.length_map]
              exact g.few
            try simp only [ok_bind, ok_pure, ok_eVar, ok_eC, ok_eCls, ok_op2, ok_op1, ok_opL, ok_opN, ok_tst, ok_tNot, ok_tAnd, ok_tOr, ok_eAnd, ok_eOr, ok_eNot, ok_eIf, ok_chain, ok_aNil, ok_aCons, ok_eTup, ok_eLst, ok_nLst, ok_eFrz, ok_oNone, ok_oSome, ok_opS, ok_callV, ok_callN, ok_eCell, ok_opW, ok_opR, kthen_nx, kthen_brk, kthen_cont, kthen_ret, kthen_rtn, ok_sSeq, ok_sNil, ok_brk, ok_cont, ok_sExpr, ok_sRet, ok_sRtn, ok_sIf, ok_putV, ok_putO, ok_sSet, ok_sOwn, ok_sAsg, ok_gTup, ok_gCons, ok_gNil, ok_gSub, ok_sPar, ok_putVs0, ok_putVs1, ok_iSeq, ok_iRng, turn_nx, turn_brk, turn_cont, turn_ret, turn_rtn, ok_sFor, ok_loop0, ok_loop1, fin_nx, fin_val, fin_sl, fin_rtn, ok_runF, rd_non, rd_bl, rd_int, rd_str, rd_tup, rd_lst, rd_dct, rd_scr, rd_cls, rd_ref, rd_sl, snap_v, snap_l, snap_d, rds_nil, ex_rds, toVals_nil, toVals_cons, ex_argsOf, cur_ref, cur_sl, wr_ref, wr_sl, setV_mk, setO_mk, opdOf_v, opdOf_l, opdOf_d, vAdd_ii, vSub_ii, ex_mul, ex_div, ex_mod, ex_pow, vNeg_i, vLt_ii, vLe_ii, vGt_ii, vGe_ii, ex_eq, ex_ne, vIx_l, vIx_t, vIx_c, lAbs_i, lMin_i, lMax_i, lLen_l, lLen_t, lLen_c, lLen_s, lTup_l, lTup_t, ex_append, ex_setL, seqOf_l, seqOf_t, seqOf_c, ex_rng1, ex_rng2, frzO_v, frzO_l, frzO_d, ty_l, ty_d, ty_s, ex_map, ex_bind, ex_if, ok_nComp, ok_tYes, ok_iZip2, ok_sAug, vAddI_ii, wipe_nil, wipe_cons, Option.some.injEq, exists_eq_left', Opd.val.injEq, Val.bl.injEq, Val.int.injEq, List.getElem?_cons_zero, List.getElem?_cons_succ, List.set_cons_zero, List.set_cons_succ, Option.bind_some, id_eq, decide_eq_true_eq, Bool.not_eq_true', decide_eq_false_iff_not, List.length_cons, List.length_nil, Nat.zero_add, Nat.reduceAdd, true_and, and_true, List.zip_cons_cons, List.zip_nil_left, List.zip_nil_right, startS, List.map_cons, List.map_nil, List.cons_append, List.nil_append, Nat.reduceSub, List.replicate_succ, List.replicate_zero, List.append_nil, ↓reduceIte, vAdd_ll, List.length_map, q63]
            have e2 : ((some63 (colOf rs k)).map fun s => ((0 - ((some63 (colOf rs k)).count s : Nat) : Int), s)).map encP ++ [Val.tup [Val.int 1, Val.str ⟨#[63]⟩]] = (((some63 (colOf rs k)).map fun s => ((0 - ((some63 (colOf rs k)).count s : Nat) : Int), s)) ++ [((1 : Int), 63)]).map encP := by
              rw [List.map_append]
              rfl
            rw [e2]
            refine ⟨Nat.le_trans h7 (by decide), by decide, by decide, Nat.le_trans (show _ ≤ 100 by omega) (by decide), ?_⟩
            have hb : best (colOf rs k) = match ((some63 (colOf rs k)).map fun s => ((0 - ((some63 (colOf rs k)).count s : Nat) : Int), s)) ++ [((1 : Int), 63)] with
              | [] => 63
              | p :: ps => (minP p ps).2 := rfl
            rw [hb]
            generalize hL : ((some63 (colOf rs k)).map fun s => ((0 - ((some63 (colOf rs k)).count s : Nat) : Int), s)) ++ [((1 : Int), 63)] = L
            cases L with
            | nil => simp at hL
            | cons p ps =>
              rw [lMinL_enc]
              exact ⟨(minP p ps).1, rfl⟩
        rintro s ⟨o5', rfl⟩
        unfold encP
        try simp only [ok_bind, ok_pure, ok_eVar, ok_eC, ok_eCls, ok_op2, ok_op1, ok_opL, ok_opN, ok_tst, ok_tNot, ok_tAnd, ok_tOr, ok_eAnd, ok_eOr, ok_eNot, ok_eIf, ok_chain, ok_aNil, ok_aCons, ok_eTup, ok_eLst, ok_nLst, ok_eFrz, ok_oNone, ok_oSome, ok_opS, ok_callV, ok_callN, ok_eCell, ok_opW, ok_opR, kthen_nx, kthen_brk, kthen_cont, kthen_ret, kthen_rtn, ok_sSeq, ok_sNil, ok_brk, ok_cont, ok_sExpr, ok_sRet, ok_sRtn, ok_sIf, ok_putV, ok_putO, ok_sSet, ok_sOwn, ok_sAsg, ok_gTup, ok_gCons, ok_gNil, ok_gSub, ok_sPar, ok_putVs0, ok_putVs1, ok_iSeq, ok_iRng, turn_nx, turn_brk, turn_cont, turn_ret, turn_rtn, ok_sFor, ok_loop0, ok_loop1, fin_nx, fin_val, fin_sl, fin_rtn, ok_runF, rd_non, rd_bl, rd_int, rd_str, rd_tup, rd_lst, rd_dct, rd_scr, rd_cls, rd_ref, rd_sl, snap_v, snap_l, snap_d, rds_nil, ex_rds, toVals_nil, toVals_cons, ex_argsOf, cur_ref, cur_sl, wr_ref, wr_sl, setV_mk, setO_mk, opdOf_v, opdOf_l, opdOf_d, vAdd_ii, vSub_ii, ex_mul, ex_div, ex_mod, ex_pow, vNeg_i, vLt_ii, vLe_ii, vGt_ii, vGe_ii, ex_eq, ex_ne, vIx_l, vIx_t, vIx_c, lAbs_i, lMin_i, lMax_i, lLen_l, lLen_t, lLen_c, lLen_s, lTup_l, lTup_t, ex_append, ex_setL, seqOf_l, seqOf_t, seqOf_c, ex_rng1, ex_rng2, frzO_v, frzO_l, frzO_d, ty_l, ty_d, ty_s, ex_map, ex_bind, ex_if, ok_nComp, ok_tYes, ok_iZip2, ok_sAug, vAddI_ii, wipe_nil, wipe_cons, Option.some.injEq, exists_eq_left', Opd.val.injEq, Val.bl.injEq, Val.int.injEq, List.getElem?_cons_zero, List.getElem?_cons_succ, List.set_cons_zero, List.set_cons_succ, Option.bind_some, id_eq, decide_eq_true_eq, Bool.not_eq_true', decide_eq_false_iff_not, List.length_cons, List.length_nil, Nat.zero_add, Nat.reduceAdd, true_and, and_true, List.zip_cons_cons, List.zip_nil_left, List.zip_nil_right, startS, List.map_cons, List.map_nil, List.cons_append, List.nil_append, Nat.reduceSub, List.replicate_succ, List.replicate_zero, List.append_nil, ↓reduceIte, atI1, List.length_map]
        refine ⟨Nat.lt_of_lt_of_le (show dn.length < 100 by omega) (by decide), k + 1, m, dn ++ [best (colOf rs k)], _, _, _, by rw [show ((k + 1 : Nat) : Int) = (k : Int) + 1 by omega], by omega, by rw [List.map_append]; rfl, ?_, by rw [List.length_append, hdl]; rfl⟩
        rw [← hd, List.append_assoc]
        rfl
    · rintro s ⟨k, m, dn, o2, o3, o5, e1, hk, rfl, hd, hdl⟩
      cases m with
      | succ m => rw [intsV_succ] at e1; cases e1
      | zero =>
        try simp only [ok_bind, ok_pure, ok_eVar, ok_eC, ok_eCls, ok_op2, ok_op1, ok_opL, ok_opN, ok_tst, ok_tNot, ok_tAnd, ok_tOr, ok_eAnd, ok_eOr, ok_eNot, ok_eIf, ok_chain, ok_aNil, ok_aCons, ok_eTup, ok_eLst, ok_nLst, ok_eFrz, ok_oNone, ok_oSome, ok_opS, ok_callV, ok_callN, ok_eCell, ok_opW, ok_opR, kthen_nx, kthen_brk, kthen_cont, kthen_ret, kthen_rtn, ok_sSeq, ok_sNil, ok_brk, ok_cont, ok_sExpr, ok_sRet, ok_sRtn, ok_sIf, ok_putV, ok_putO, ok_sSet, ok_sOwn, ok_sAsg, ok_gTup, ok_gCons, ok_gNil, ok_gSub, ok_sPar, ok_putVs0, ok_putVs1, ok_iSeq, ok_iRng, turn_nx, turn_brk, turn_cont, turn_ret, turn_rtn, ok_sFor, ok_loop0, ok_loop1, fin_nx, fin_val, fin_sl, fin_rtn, ok_runF, rd_non, rd_bl, rd_int, rd_str, rd_tup, rd_lst, rd_dct, rd_scr, rd_cls, rd_ref, rd_sl, snap_v, snap_l, snap_d, rds_nil, ex_rds, toVals_nil, toVals_cons, ex_argsOf, cur_ref, cur_sl, wr_ref, wr_sl, setV_mk, setO_mk, opdOf_v, opdOf_l, opdOf_d, vAdd_ii, vSub_ii, ex_mul, ex_div, ex_mod, ex_pow, vNeg_i, vLt_ii, vLe_ii, vGt_ii, vGe_ii, ex_eq, ex_ne, vIx_l, vIx_t, vIx_c, lAbs_i, lMin_i, lMax_i, lLen_l, lLen_t, lLen_c, lLen_s, lTup_l, lTup_t, ex_append, ex_setL, seqOf_l, seqOf_t, seqOf_c, ex_rng1, ex_rng2, frzO_v, frzO_l, frzO_d, ty_l, ty_d, ty_s, ex_map, ex_bind, ex_if, ok_nComp, ok_tYes, ok_iZip2, ok_sAug, vAddI_ii, wipe_nil, wipe_cons, Option.some.injEq, exists_eq_left', Opd.val.injEq, Val.bl.injEq, Val.int.injEq, List.getElem?_cons_zero, List.getElem?_cons_succ, List.set_cons_zero, List.set_cons_succ, Option.bind_some, id_eq, decide_eq_true_eq, Bool.not_eq_true', decide_eq_false_iff_not, List.length_cons, List.length_nil, Nat.zero_add, Nat.reduceAdd, true_and, and_true, List.zip_cons_cons, List.zip_nil_left, List.zip_nil_right, startS, List.map_cons, List.map_nil, List.cons_append, List.nil_append, Nat.reduceSub, List.replicate_succ, List.replicate_zero, List.append_nil, ↓reduceIte]
        have e : dn = plateL rs 0 n := by rw [← hd]; simp [plateL]
        rw [e]
        exact ⟨_, _, _, _, _, rfl⟩
  · rintro s ⟨o2, o3, o4, o5, o6, rfl⟩
    have hm : ∀ (m k : Nat), k + m ≤ n → (∀ c ∈ plateL rs k m, c ∈ RSG) ∧ (plateL rs k m).length = m := fun m => by
      induction m with
      | zero => intro k _; exact ⟨by simp [plateL], rfl⟩
      | succ m ih =>
        intro k hk
        refine ⟨fun c hc => ?_, by simp [plateL, (ih (k + 1) (by omega)).2]⟩
        rcases List.mem_cons.mp (show c ∈ best (colOf rs k) :: plateL rs (k + 1) m from hc) with e | hc
        · rcases best_ok (colOf rs k) with ⟨_, h⟩ | ⟨h, _⟩
          · rw [e, h]; decide
          · rw [e]
            obtain ⟨l, hl, el⟩ := List.mem_map.mp h
            have gl := g.good l hl
            have hkl : k < l.length := by rw [gl.2]; omega
            rw [← el, List.getD_eq_getElem?_getD, List.getElem?_eq_getElem hkl]
            exact gl.1.all _ (List.getElem_mem hkl)
        · exact (ih (k + 1) (by omega)).1 c hc
    try simp only [ok_bind, ok_pure, ok_eVar, ok_eC, ok_eCls, ok_op2, ok_op1, ok_opL, ok_opN, ok_tst, ok_tNot, ok_tAnd, ok_tOr, ok_eAnd, ok_eOr, ok_eNot, ok_eIf, ok_chain, ok_aNil, ok_aCons, ok_eTup, ok_eLst, ok_nLst, ok_eFrz, ok_oNone, ok_oSome, ok_opS, ok_callV, ok_callN, ok_eCell, ok_opW, ok_opR, kthen_nx, kthen_brk, kthen_cont, kthen_ret, kthen_rtn, ok_sSeq, ok_sNil, ok_brk, ok_cont, ok_sExpr, ok_sRet, ok_sRtn, ok_sIf, ok_putV, ok_putO, ok_sSet, ok_sOwn, ok_sAsg, ok_gTup, ok_gCons, ok_gNil, ok_gSub, ok_sPar, ok_putVs0, ok_putVs1, ok_iSeq, ok_iRng, turn_nx, turn_brk, turn_cont, turn_ret, turn_rtn, ok_sFor, ok_loop0, ok_loop1, fin_nx, fin_val, fin_sl, fin_rtn, ok_runF, rd_non, rd_bl, rd_int, rd_str, rd_tup, rd_lst, rd_dct, rd_scr, rd_cls, rd_ref, rd_sl, snap_v, snap_l, snap_d, rds_nil, ex_rds, toVals_nil, toVals_cons, ex_argsOf, cur_ref, cur_sl, wr_ref, wr_sl, setV_mk, setO_mk, opdOf_v, opdOf_l, opdOf_d, vAdd_ii, vSub_ii, ex_mul, ex_div, ex_mod, ex_pow, vNeg_i, vLt_ii, vLe_ii, vGt_ii, vGe_ii, ex_eq, ex_ne, vIx_l, vIx_t, vIx_c, lAbs_i, lMin_i, lMax_i, lLen_l, lLen_t, lLen_c, lLen_s, lTup_l, lTup_t, ex_append, ex_setL, seqOf_l, seqOf_t, seqOf_c, ex_rng1, ex_rng2, frzO_v, frzO_l, frzO_d, ty_l, ty_d, ty_s, ex_map, ex_bind, ex_if, ok_nComp, ok_tYes, ok_iZip2, ok_sAug, vAddI_ii, wipe_nil, wipe_cons, Option.some.injEq, exists_eq_left', Opd.val.injEq, Val.bl.injEq, Val.int.injEq, List.getElem?_cons_zero, List.getElem?_cons_succ, List.set_cons_zero, List.set_cons_succ, Option.bind_some, id_eq, decide_eq_true_eq, Bool.not_eq_true', decide_eq_false_iff_not, List.length_cons, List.length_nil, Nat.zero_add, Nat.reduceAdd, true_and, and_true, List.zip_cons_cons, List.zip_nil_left, List.zip_nil_right, startS, List.map_cons, List.map_nil, List.cons_append, List.nil_append, Nat.reduceSub, List.replicate_succ, List.replicate_zero, List.append_nil, ↓reduceIte, mJoin_chr (hm n 0 (by omega)).1 (by rw [(hm n 0 (by omega)).2]; omega)]
    exact q
/-! ### the law's own -/
theorem lplate_ok {rs : List (List Nat)} {n : Nat} {hp : List OV} {Q : OV → List OV → Prop} (g : Likes rs n) (q : Q (.v (.str ⟨(plateL rs 0 n).toArray⟩)) hp) : FOk (F__law_plate_of [.lst (rs.map zV)] hp) Q := by
  obtain ⟨r0, rr, hr⟩ : ∃ r0 rr, rs = r0 :: rr := by
    cases rs with
    | nil => exact absurd g.ne (by simp)
    | cons a b => exact ⟨a, b, rfl⟩
  have g0 := g.good r0 (by rw [hr]; simp)
  have hn : n ≤ 7 := by rw [← g0.2]; exact g0.1.hi
  have sgn : ("0123456789ABCDEFGHIJKLMNOPQRSTUVWXYZ" : Str).cps.toList = SGN := by decide +kernel
  unfold F__law_plate_of m__law_plate_of
  rw [ok_runF]
  refine ok_step (fun s => s = ⟨[some (.v (.lst (rs.map zV))), some (.v (zV [])), none, none, none, none, none, none], hp⟩) ?_ ?_
  · try simp only [ok_bind, ok_pure, ok_eVar, ok_eC, ok_eCls, ok_op2, ok_op1, ok_opL, ok_opN, ok_tst, ok_tNot, ok_tAnd, ok_tOr, ok_eAnd, ok_eOr, ok_eNot, ok_eIf, ok_chain, ok_aNil, ok_aCons, ok_eTup, ok_eLst, ok_nLst, ok_eFrz, ok_oNone, ok_oSome, ok_opS, ok_callV, ok_callN, ok_eCell, ok_opW, ok_opR, kthen_nx, kthen_brk, kthen_cont, kthen_ret, kthen_rtn, ok_sSeq, ok_sNil, ok_brk, ok_cont, ok_sExpr, ok_sRet, ok_sRtn, ok_sIf, ok_putV, ok_putO, ok_sSet, ok_sOwn, ok_sAsg, ok_gTup, ok_gCons, ok_gNil, ok_gSub, ok_sPar, ok_putVs0, ok_putVs1, ok_iSeq, ok_iRng, turn_nx, turn_brk, turn_cont, turn_ret, turn_rtn, ok_sFor, ok_loop0, ok_loop1, fin_nx, fin_val, fin_sl, fin_rtn, ok_runF, rd_non, rd_bl, rd_int, rd_str, rd_tup, rd_lst, rd_dct, rd_scr, rd_cls, rd_ref, rd_sl, snap_v, snap_l, snap_d, rds_nil, ex_rds, toVals_nil, toVals_cons, ex_argsOf, cur_ref, cur_sl, wr_ref, wr_sl, setV_mk, setO_mk, opdOf_v, opdOf_l, opdOf_d, vAdd_ii, vSub_ii, ex_mul, ex_div, ex_mod, ex_pow, vNeg_i, vLt_ii, vLe_ii, vGt_ii, vGe_ii, ex_eq, ex_ne, vIx_l, vIx_t, vIx_c, lAbs_i, lMin_i, lMax_i, lLen_l, lLen_t, lLen_c, lLen_s, lTup_l, lTup_t, ex_append, ex_setL, seqOf_l, seqOf_t, seqOf_c, ex_rng1, ex_rng2, frzO_v, frzO_l, frzO_d, ty_l, ty_d, ty_s, ex_map, ex_bind, ex_if, ok_nComp, ok_tYes, ok_iZip2, ok_sAug, vAddI_ii, wipe_nil, wipe_cons, Option.some.injEq, exists_eq_left', Opd.val.injEq, Val.bl.injEq, Val.int.injEq, List.getElem?_cons_zero, List.getElem?_cons_succ, List.set_cons_zero, List.set_cons_succ, Option.bind_some, id_eq, decide_eq_true_eq, Bool.not_eq_true', decide_eq_false_iff_not, List.length_cons, List.length_nil, Nat.zero_add, Nat.reduceAdd, true_and, and_true, List.zip_cons_cons, List.zip_nil_left, List.zip_nil_right, startS, List.map_cons, List.map_nil, List.cons_append, List.nil_append, Nat.reduceSub, List.replicate_succ, List.replicate_zero, List.append_nil, ↓reduceIte]
    rfl
  rintro s rfl
  refine ok_step (fun s => ∃ (o2 o3 o4 o5 o6 : Option OV), s = ⟨[some (.v (.lst (rs.map zV))), some (.v (zV (plateL rs 0 n))), o2, o3, o4, o5, o6, none], hp⟩) ?_ ?_
  · have e0 : atI (rs.map zV) 0 = some (zV r0) := by rw [hr]; exact atI0
    have el : (⟨r0.toArray⟩ : Str).length = n := by rw [← g0.2]; show r0.toArray.size = _; simp
    have hl0 : lLen [zV r0] = some (.int n) := by rw [← el]; rfl
    have rd0 : ∀ (s : Stt) l, s.rd (.val (zV l)) = some (zV l) := fun _ _ => rfl
    try simp only [ok_bind, ok_pure, ok_eVar, ok_eC, ok_eCls, ok_op2, ok_op1, ok_opL, ok_opN, ok_tst, ok_tNot, ok_tAnd, ok_tOr, ok_eAnd, ok_eOr, ok_eNot, ok_eIf, ok_chain, ok_aNil, ok_aCons, ok_eTup, ok_eLst, ok_nLst, ok_eFrz, ok_oNone, ok_oSome, ok_opS, ok_callV, ok_callN, ok_eCell, ok_opW, ok_opR, kthen_nx, kthen_brk, kthen_cont, kthen_ret, kthen_rtn, ok_sSeq, ok_sNil, ok_brk, ok_cont, ok_sExpr, ok_sRet, ok_sRtn, ok_sIf, ok_putV, ok_putO, ok_sSet, ok_sOwn, ok_sAsg, ok_gTup, ok_gCons, ok_gNil, ok_gSub, ok_sPar, ok_putVs0, ok_putVs1, ok_iSeq, ok_iRng, turn_nx, turn_brk, turn_cont, turn_ret, turn_rtn, ok_sFor, ok_loop0, ok_loop1, fin_nx, fin_val, fin_sl, fin_rtn, ok_runF, rd_non, rd_bl, rd_int, rd_str, rd_tup, rd_lst, rd_dct, rd_scr, rd_cls, rd_ref, rd_sl, snap_v, snap_l, snap_d, rds_nil, ex_rds, toVals_nil, toVals_cons, ex_argsOf, cur_ref, cur_sl, wr_ref, wr_sl, setV_mk, setO_mk, opdOf_v, opdOf_l, opdOf_d, vAdd_ii, vSub_ii, ex_mul, ex_div, ex_mod, ex_pow, vNeg_i, vLt_ii, vLe_ii, vGt_ii, vGe_ii, ex_eq, ex_ne, vIx_l, vIx_t, vIx_c, lAbs_i, lMin_i, lMax_i, lLen_l, lLen_t, lLen_c, lLen_s, lTup_l, lTup_t, ex_append, ex_setL, seqOf_l, seqOf_t, seqOf_c, ex_rng1, ex_rng2, frzO_v, frzO_l, frzO_d, ty_l, ty_d, ty_s, ex_map, ex_bind, ex_if, ok_nComp, ok_tYes, ok_iZip2, ok_sAug, vAddI_ii, wipe_nil, wipe_cons, Option.some.injEq, exists_eq_left', Opd.val.injEq, Val.bl.injEq, Val.int.injEq, List.getElem?_cons_zero, List.getElem?_cons_succ, List.set_cons_zero, List.set_cons_succ, Option.bind_some, id_eq, decide_eq_true_eq, Bool.not_eq_true', decide_eq_false_iff_not, List.length_cons, List.length_nil, Nat.zero_add, Nat.reduceAdd, true_and, and_true, List.zip_cons_cons, List.zip_nil_left, List.zip_nil_right, startS, List.map_cons, List.map_nil, List.cons_append, List.nil_append, Nat.reduceSub, List.replicate_succ, List.replicate_zero, List.append_nil, ↓reduceIte, e0, rd0, hl0]
    refine ⟨⟨by rw [big_lt]; omega, by rw [big_lt]; omega⟩, ?_⟩
    rw [Int.toNat_natCast]
    refine ok_loop (fun xs s => ∃ (k m : Nat) (dn : List Nat) (o2 o3 o4 o5 o6 : Option OV), xs = intsV k m ∧ k + m = n ∧ s = ⟨[some (.v (.lst (rs.map zV))), some (.v (zV dn)), o2, o3, o4, o5, o6, none], hp⟩ ∧ dn ++ plateL rs k m = plateL rs 0 n ∧ dn.length = k) ?_ ?_ ?_
    · exact ⟨0, n, [], _, _, _, _, _, rfl, by omega, rfl, rfl, rfl⟩
    · rintro x xs s ⟨k, m, dn, o2, o3, o4, o5, o6, e1, hk, rfl, hd, hdl⟩
      cases m with
      | zero => rw [intsV_zero] at e1; cases e1
      | succ m =>
        rw [intsV_succ, List.cons.injEq] at e1
        obtain ⟨rfl, rfl⟩ := e1
        rw [ok_putV]
        refine ok_step (fun s => s = ⟨[some (.v (.lst (rs.map zV))), some (.v (zV dn)), some (.v (.int k)), some (.v (chr 63)), o4, o5, o6, none], hp⟩) ?_ ?_
        · try simp only [ok_bind, ok_pure, ok_eVar, ok_eC, ok_eCls, ok_op2, ok_op1, ok_opL, ok_opN, ok_tst, ok_tNot, ok_tAnd, ok_tOr, ok_eAnd, ok_eOr, ok_eNot, ok_eIf, ok_chain, ok_aNil, ok_aCons, ok_eTup, ok_eLst, ok_nLst, ok_eFrz, ok_oNone, ok_oSome, ok_opS, ok_callV, ok_callN, ok_eCell, ok_opW, ok_opR, kthen_nx, kthen_brk, kthen_cont, kthen_ret, kthen_rtn, ok_sSeq, ok_sNil, ok_brk, ok_cont, ok_sExpr, ok_sRet, ok_sRtn, ok_sIf, ok_putV, ok_putO, ok_sSet, ok_sOwn, ok_sAsg, ok_gTup, ok_gCons, ok_gNil, ok_gSub, ok_sPar, ok_putVs0, ok_putVs1, ok_iSeq, ok_iRng, turn_nx, turn_brk, turn_cont, turn_ret, turn_rtn, ok_sFor, ok_loop0, ok_loop1, fin_nx, fin_val, fin_sl, fin_rtn, ok_runF, rd_non, rd_bl, rd_int, rd_str, rd_tup, rd_lst, rd_dct, rd_scr, rd_cls, rd_ref, rd_sl, snap_v, snap_l, snap_d, rds_nil, ex_rds, toVals_nil, toVals_cons, ex_argsOf, cur_ref, cur_sl, wr_ref, wr_sl, setV_mk, setO_mk, opdOf_v, opdOf_l, opdOf_d, vAdd_ii, vSub_ii, ex_mul, ex_div, ex_mod, ex_pow, vNeg_i, vLt_ii, vLe_ii, vGt_ii, vGe_ii, ex_eq, ex_ne, vIx_l, vIx_t, vIx_c, lAbs_i, lMin_i, lMax_i, lLen_l, lLen_t, lLen_c, lLen_s, lTup_l, lTup_t, ex_append, ex_setL, seqOf_l, seqOf_t, seqOf_c, ex_rng1, ex_rng2, frzO_v, frzO_l, frzO_d, ty_l, ty_d, ty_s, ex_map, ex_bind, ex_if, ok_nComp, ok_tYes, ok_iZip2, ok_sAug, vAddI_ii, wipe_nil, wipe_cons, Option.some.injEq, exists_eq_left', Opd.val.injEq, Val.bl.injEq, Val.int.injEq, List.getElem?_cons_zero, List.getElem?_cons_succ, List.set_cons_zero, List.set_cons_succ, Option.bind_some, id_eq, decide_eq_true_eq, Bool.not_eq_true', decide_eq_false_iff_not, List.length_cons, List.length_nil, Nat.zero_add, Nat.reduceAdd, true_and, and_true, List.zip_cons_cons, List.zip_nil_left, List.zip_nil_right, startS, List.map_cons, List.map_nil, List.cons_append, List.nil_append, Nat.reduceSub, List.replicate_succ, List.replicate_zero, List.append_nil, ↓reduceIte, q63]
        rintro s rfl
        refine ok_step (fun s => s = ⟨[some (.v (.lst (rs.map zV))), some (.v (zV dn)), some (.v (.int k)), some (.v (chr 63)), some (.v (.int 0)), o5, o6, none], hp⟩) ?_ ?_
        · try simp only [ok_bind, ok_pure, ok_eVar, ok_eC, ok_eCls, ok_op2, ok_op1, ok_opL, ok_opN, ok_tst, ok_tNot, ok_tAnd, ok_tOr, ok_eAnd, ok_eOr, ok_eNot, ok_eIf, ok_chain, ok_aNil, ok_aCons, ok_eTup, ok_eLst, ok_nLst, ok_eFrz, ok_oNone, ok_oSome, ok_opS, ok_callV, ok_callN, ok_eCell, ok_opW, ok_opR, kthen_nx, kthen_brk, kthen_cont, kthen_ret, kthen_rtn, ok_sSeq, ok_sNil, ok_brk, ok_cont, ok_sExpr, ok_sRet, ok_sRtn, ok_sIf, ok_putV, ok_putO, ok_sSet, ok_sOwn, ok_sAsg, ok_gTup, ok_gCons, ok_gNil, ok_gSub, ok_sPar, ok_putVs0, ok_putVs1, ok_iSeq, ok_iRng, turn_nx, turn_brk, turn_cont, turn_ret, turn_rtn, ok_sFor, ok_loop0, ok_loop1, fin_nx, fin_val, fin_sl, fin_rtn, ok_runF, rd_non, rd_bl, rd_int, rd_str, rd_tup, rd_lst, rd_dct, rd_scr, rd_cls, rd_ref, rd_sl, snap_v, snap_l, snap_d, rds_nil, ex_rds, toVals_nil, toVals_cons, ex_argsOf, cur_ref, cur_sl, wr_ref, wr_sl, setV_mk, setO_mk, opdOf_v, opdOf_l, opdOf_d, vAdd_ii, vSub_ii, ex_mul, ex_div, ex_mod, ex_pow, vNeg_i, vLt_ii, vLe_ii, vGt_ii, vGe_ii, ex_eq, ex_ne, vIx_l, vIx_t, vIx_c, lAbs_i, lMin_i, lMax_i, lLen_l, lLen_t, lLen_c, lLen_s, lTup_l, lTup_t, ex_append, ex_setL, seqOf_l, seqOf_t, seqOf_c, ex_rng1, ex_rng2, frzO_v, frzO_l, frzO_d, ty_l, ty_d, ty_s, ex_map, ex_bind, ex_if, ok_nComp, ok_tYes, ok_iZip2, ok_sAug, vAddI_ii, wipe_nil, wipe_cons, Option.some.injEq, exists_eq_left', Opd.val.injEq, Val.bl.injEq, Val.int.injEq, List.getElem?_cons_zero, List.getElem?_cons_succ, List.set_cons_zero, List.set_cons_succ, Option.bind_some, id_eq, decide_eq_true_eq, Bool.not_eq_true', decide_eq_false_iff_not, List.length_cons, List.length_nil, Nat.zero_add, Nat.reduceAdd, true_and, and_true, List.zip_cons_cons, List.zip_nil_left, List.zip_nil_right, startS, List.map_cons, List.map_nil, List.cons_append, List.nil_append, Nat.reduceSub, List.replicate_succ, List.replicate_zero, List.append_nil, ↓reduceIte]
        rintro s rfl
        refine ok_step (fun s => ∃ (o4 o5 o6 : Option OV), s = ⟨[some (.v (.lst (rs.map zV))), some (.v (zV dn)), some (.v (.int k)), some (.v (chr (best (colOf rs k)))), o4, o5, o6, none], hp⟩) ?_ ?_
        · try simp only [ok_bind, ok_pure, ok_eVar, ok_eC, ok_eCls, ok_op2, ok_op1, ok_opL, ok_opN, ok_tst, ok_tNot, ok_tAnd, ok_tOr, ok_eAnd, ok_eOr, ok_eNot, ok_eIf, ok_chain, ok_aNil, ok_aCons, ok_eTup, ok_eLst, ok_nLst, ok_eFrz, ok_oNone, ok_oSome, ok_opS, ok_callV, ok_callN, ok_eCell, ok_opW, ok_opR, kthen_nx, kthen_brk, kthen_cont, kthen_ret, kthen_rtn, ok_sSeq, ok_sNil, ok_brk, ok_cont, ok_sExpr, ok_sRet, ok_sRtn, ok_sIf, ok_putV, ok_putO, ok_sSet, ok_sOwn, ok_sAsg, ok_gTup, ok_gCons, ok_gNil, ok_gSub, ok_sPar, ok_putVs0, ok_putVs1, ok_iSeq, ok_iRng, turn_nx, turn_brk, turn_cont, turn_ret, turn_rtn, ok_sFor, ok_loop0, ok_loop1, fin_nx, fin_val, fin_sl, fin_rtn, ok_runF, rd_non, rd_bl, rd_int, rd_str, rd_tup, rd_lst, rd_dct, rd_scr, rd_cls, rd_ref, rd_sl, snap_v, snap_l, snap_d, rds_nil, ex_rds, toVals_nil, toVals_cons, ex_argsOf, cur_ref, cur_sl, wr_ref, wr_sl, setV_mk, setO_mk, opdOf_v, opdOf_l, opdOf_d, vAdd_ii, vSub_ii, ex_mul, ex_div, ex_mod, ex_pow, vNeg_i, vLt_ii, vLe_ii, vGt_ii, vGe_ii, ex_eq, ex_ne, vIx_l, vIx_t, vIx_c, lAbs_i, lMin_i, lMax_i, lLen_l, lLen_t, lLen_c, lLen_s, lTup_l, lTup_t, ex_append, ex_setL, seqOf_l, seqOf_t, seqOf_c, ex_rng1, ex_rng2, frzO_v, frzO_l, frzO_d, ty_l, ty_d, ty_s, ex_map, ex_bind, ex_if, ok_nComp, ok_tYes, ok_iZip2, ok_sAug, vAddI_ii, wipe_nil, wipe_cons, Option.some.injEq, exists_eq_left', Opd.val.injEq, Val.bl.injEq, Val.int.injEq, List.getElem?_cons_zero, List.getElem?_cons_succ, List.set_cons_zero, List.set_cons_succ, Option.bind_some, id_eq, decide_eq_true_eq, Bool.not_eq_true', decide_eq_false_iff_not, List.length_cons, List.length_nil, Nat.zero_add, Nat.reduceAdd, true_and, and_true, List.zip_cons_cons, List.zip_nil_left, List.zip_nil_right, startS, List.map_cons, List.map_nil, List.cons_append, List.nil_append, Nat.reduceSub, List.replicate_succ, List.replicate_zero, List.append_nil, ↓reduceIte, seqOf_s, sgn]
          refine ok_loop (fun xs s => ∃ (r : List Nat) (b c : Nat) (o5 o6 : Option OV), xs = r.map chr ∧ s = ⟨[some (.v (.lst (rs.map zV))), some (.v (zV dn)), some (.v (.int k)), some (.v (chr b)), some (.v (.int c)), o5, o6, none], hp⟩ ∧ (lbest (colOf rs k) r (b, c)).1 = best (colOf rs k)) ?_ ?_ ?_
          · refine ⟨SGN, 63, 0, _, _, rfl, rfl, ?_⟩
            refine (best_eq fun c hc => ?_).symm
            obtain ⟨l, hl, el⟩ := List.mem_map.mp hc
            have gl := g.good l hl
            have hkl : k < l.length := by rw [gl.2]; omega
            rw [← el, List.getD_eq_getElem?_getD, List.getElem?_eq_getElem hkl]
            exact gl.1.all _ (List.getElem_mem hkl)
          · rintro x xs s ⟨r, b, c, o5, o6, e1, rfl, hb⟩
            cases r with
            | nil => simp at e1
            | cons t r =>
              rw [List.map_cons, List.cons.injEq] at e1
              obtain ⟨rfl, rfl⟩ := e1
              rw [ok_putV]
              refine ok_step (fun s => s = ⟨[some (.v (.lst (rs.map zV))), some (.v (zV dn)), some (.v (.int k)), some (.v (chr b)), some (.v (.int c)), some (.v (chr t)), some (.v (.int ((colOf rs k).count t : Nat))), none], hp⟩) ?_ ?_
              · try simp only [ok_bind, ok_pure, ok_eVar, ok_eC, ok_eCls, ok_op2, ok_op1, ok_opL, ok_opN, ok_tst, ok_tNot, ok_tAnd, ok_tOr, ok_eAnd, ok_eOr, ok_eNot, ok_eIf, ok_chain, ok_aNil, ok_aCons, ok_eTup, ok_eLst, ok_nLst, ok_eFrz, ok_oNone, ok_oSome, ok_opS, ok_callV, ok_callN, ok_eCell, ok_opW, ok_opR, kthen_nx, kthen_brk, kthen_cont, kthen_ret, kthen_rtn, ok_sSeq, ok_sNil, ok_brk, ok_cont, ok_sExpr, ok_sRet, ok_sRtn, ok_sIf, ok_putV, ok_putO, ok_sSet, ok_sOwn, ok_sAsg, ok_gTup, ok_gCons, ok_gNil, ok_gSub, ok_sPar, ok_putVs0, ok_putVs1, ok_iSeq, ok_iRng, turn_nx, turn_brk, turn_cont, turn_ret, turn_rtn, ok_sFor, ok_loop0, ok_loop1, fin_nx, fin_val, fin_sl, fin_rtn, ok_runF, rd_non, rd_bl, rd_int, rd_str, rd_tup, rd_lst, rd_dct, rd_scr, rd_cls, rd_ref, rd_sl, snap_v, snap_l, snap_d, rds_nil, ex_rds, toVals_nil, toVals_cons, ex_argsOf, cur_ref, cur_sl, wr_ref, wr_sl, setV_mk, setO_mk, opdOf_v, opdOf_l, opdOf_d, vAdd_ii, vSub_ii, ex_mul, ex_div, ex_mod, ex_pow, vNeg_i, vLt_ii, vLe_ii, vGt_ii, vGe_ii, ex_eq, ex_ne, vIx_l, vIx_t, vIx_c, lAbs_i, lMin_i, lMax_i, lLen_l, lLen_t, lLen_c, lLen_s, lTup_l, lTup_t, ex_append, ex_setL, seqOf_l, seqOf_t, seqOf_c, ex_rng1, ex_rng2, frzO_v, frzO_l, frzO_d, ty_l, ty_d, ty_s, ex_map, ex_bind, ex_if, ok_nComp, ok_tYes, ok_iZip2, ok_sAug, vAddI_ii, wipe_nil, wipe_cons, Option.some.injEq, exists_eq_left', Opd.val.injEq, Val.bl.injEq, Val.int.injEq, List.getElem?_cons_zero, List.getElem?_cons_succ, List.set_cons_zero, List.set_cons_succ, Option.bind_some, id_eq, decide_eq_true_eq, Bool.not_eq_true', decide_eq_false_iff_not, List.length_cons, List.length_nil, Nat.zero_add, Nat.reduceAdd, true_and, and_true, List.zip_cons_cons, List.zip_nil_left, List.zip_nil_right, startS, List.map_cons, List.map_nil, List.cons_append, List.nil_append, Nat.reduceSub, List.replicate_succ, List.replicate_zero, List.append_nil, ↓reduceIte]
                refine ⟨rfl, ?_⟩
                refine (lc_map (fun s => ∃ o, s = ⟨[some (.v (.lst (rs.map zV))), some (.v (zV dn)), some (.v (.int k)), some (.v (chr b)), some (.v (.int c)), some (.v (chr t)), o6, o], hp⟩) ⟨_, rfl⟩ (fun x => match x with
                  | .str y => decide (y.cps.toList.getD k 0 = t)
                  | _ => false) (fun x => .int 1) ?_).mono ?_
                · rintro x hx s ⟨o, rfl⟩
                  obtain ⟨l, hl, rfl⟩ := List.mem_map.mp hx
                  have gl := g.good l hl
                  have hkl : k < l.length := by rw [gl.2]; omega
                  have el : l[k]? = some (l.getD k 0) := by rw [List.getElem?_eq_getElem hkl, List.getD_eq_getElem?_getD, List.getElem?_eq_getElem hkl]; rfl
                  try simp only [ok_bind, ok_pure, ok_eVar, ok_eC, ok_eCls, ok_op2, ok_op1, ok_opL, ok_opN, ok_tst, ok_tNot, ok_tAnd, ok_tOr, ok_eAnd, ok_eOr, ok_eNot, ok_eIf, ok_chain, ok_aNil, ok_aCons, ok_eTup, ok_eLst, ok_nLst, ok_eFrz, ok_oNone, ok_oSome, ok_opS, ok_callV, ok_callN, ok_eCell, ok_opW, ok_opR, kthen_nx, kthen_brk, kthen_cont, kthen_ret, kthen_rtn, ok_sSeq, ok_sNil, ok_brk, ok_cont, ok_sExpr, ok_sRet, ok_sRtn, ok_sIf, ok_putV, ok_putO, ok_sSet, ok_sOwn, ok_sAsg, ok_gTup, ok_gCons, ok_gNil, ok_gSub, ok_sPar, ok_putVs0, ok_putVs1, ok_iSeq, ok_iRng, turn_nx, turn_brk, turn_cont, turn_ret, turn_rtn, ok_sFor, ok_loop0, ok_loop1, fin_nx, fin_val, fin_sl, fin_rtn, ok_runF, rd_non, rd_bl, rd_int, rd_str, rd_tup, rd_lst, rd_dct, rd_scr, rd_cls, rd_ref, rd_sl, snap_v, snap_l, snap_d, rds_nil, ex_rds, toVals_nil, toVals_cons, ex_argsOf, cur_ref, cur_sl, wr_ref, wr_sl, setV_mk, setO_mk, opdOf_v, opdOf_l, opdOf_d, vAdd_ii, vSub_ii, ex_mul, ex_div, ex_mod, ex_pow, vNeg_i, vLt_ii, vLe_ii, vGt_ii, vGe_ii, ex_eq, ex_ne, vIx_l, vIx_t, vIx_c, lAbs_i, lMin_i, lMax_i, lLen_l, lLen_t, lLen_c, lLen_s, lTup_l, lTup_t, ex_append, ex_setL, seqOf_l, seqOf_t, seqOf_c, ex_rng1, ex_rng2, frzO_v, frzO_l, frzO_d, ty_l, ty_d, ty_s, ex_map, ex_bind, ex_if, ok_nComp, ok_tYes, ok_iZip2, ok_sAug, vAddI_ii, wipe_nil, wipe_cons, Option.some.injEq, exists_eq_left', Opd.val.injEq, Val.bl.injEq, Val.int.injEq, List.getElem?_cons_zero, List.getElem?_cons_succ, List.set_cons_zero, List.set_cons_succ, Option.bind_some, id_eq, decide_eq_true_eq, Bool.not_eq_true', decide_eq_false_iff_not, List.length_cons, List.length_nil, Nat.zero_add, Nat.reduceAdd, true_and, and_true, List.zip_cons_cons, List.zip_nil_left, List.zip_nil_right, startS, List.map_cons, List.map_nil, List.cons_append, List.nil_append, Nat.reduceSub, List.replicate_succ, List.replicate_zero, List.append_nil, ↓reduceIte, zV, vIx_s, at_k el, dep_str, eqv_chr]
                  exact ⟨rfl, fun _ => ⟨_, rfl⟩, fun _ => ⟨_, rfl⟩⟩
                · rintro r s ⟨rfl, o, rfl⟩
                  have e : (((rs.map zV).filter (fun x => match x with
                    | .str y => decide (y.cps.toList.getD k 0 = t)
                    | _ => false)).map (fun _ => Val.int 1)).length = (colOf rs k).count t := by
                    rw [List.length_map, List.filter_map, List.length_map, List.count_eq_countP, colOf, List.countP_map, List.countP_eq_length_filter]
                    congr 1
                  try simp only [ok_bind, ok_pure, ok_eVar, ok_eC, ok_eCls, ok_op2, ok_op1, ok_opL, ok_opN, ok_tst, ok_tNot, ok_tAnd, ok_tOr, ok_eAnd, ok_eOr, ok_eNot, ok_eIf, ok_chain, ok_aNil, ok_aCons, ok_eTup, ok_eLst, ok_nLst, ok_eFrz, ok_oNone, ok_oSome, ok_opS, ok_callV, ok_callN, ok_eCell, ok_opW, ok_opR, kthen_nx, kthen_brk, kthen_cont, kthen_ret, kthen_rtn, ok_sSeq, ok_sNil, ok_brk, ok_cont, ok_sExpr, ok_sRet, ok_sRtn, ok_sIf, ok_putV, ok_putO, ok_sSet, ok_sOwn, ok_sAsg, ok_gTup, ok_gCons, ok_gNil, ok_gSub, ok_sPar, ok_putVs0, ok_putVs1, ok_iSeq, ok_iRng, turn_nx, turn_brk, turn_cont, turn_ret, turn_rtn, ok_sFor, ok_loop0, ok_loop1, fin_nx, fin_val, fin_sl, fin_rtn, ok_runF, rd_non, rd_bl, rd_int, rd_str, rd_tup, rd_lst, rd_dct, rd_scr, rd_cls, rd_ref, rd_sl, snap_v, snap_l, snap_d, rds_nil, ex_rds, toVals_nil, toVals_cons, ex_argsOf, cur_ref, cur_sl, wr_ref, wr_sl, setV_mk, setO_mk, opdOf_v, opdOf_l, opdOf_d, vAdd_ii, vSub_ii, ex_mul, ex_div, ex_mod, ex_pow, vNeg_i, vLt_ii, vLe_ii, vGt_ii, vGe_ii, ex_eq, ex_ne, vIx_l, vIx_t, vIx_c, lAbs_i, lMin_i, lMax_i, lLen_l, lLen_t, lLen_c, lLen_s, lTup_l, lTup_t, ex_append, ex_setL, seqOf_l, seqOf_t, seqOf_c, ex_rng1, ex_rng2, frzO_v, frzO_l, frzO_d, ty_l, ty_d, ty_s, ex_map, ex_bind, ex_if, ok_nComp, ok_tYes, ok_iZip2, ok_sAug, vAddI_ii, wipe_nil, wipe_cons, Option.some.injEq, exists_eq_left', Opd.val.injEq, Val.bl.injEq, Val.int.injEq, List.getElem?_cons_zero, List.getElem?_cons_succ, List.set_cons_zero, List.set_cons_succ, Option.bind_some, id_eq, decide_eq_true_eq, Bool.not_eq_true', decide_eq_false_iff_not, List.length_cons, List.length_nil, Nat.zero_add, Nat.reduceAdd, true_and, and_true, List.zip_cons_cons, List.zip_nil_left, List.zip_nil_right, startS, List.map_cons, List.map_nil, List.cons_append, List.nil_append, Nat.reduceSub, List.replicate_succ, List.replicate_zero, List.append_nil, ↓reduceIte, e]
                  refine ⟨?_, rfl⟩
                  refine Nat.le_trans List.count_le_length ?_
                  unfold colOf
                  rw [List.length_map]
                  exact Nat.le_trans g.few (by decide)
              rintro s rfl
              rw [lbest] at hb
              try simp only [ok_bind, ok_pure, ok_eVar, ok_eC, ok_eCls, ok_op2, ok_op1, ok_opL, ok_opN, ok_tst, ok_tNot, ok_tAnd, ok_tOr, ok_eAnd, ok_eOr, ok_eNot, ok_eIf, ok_chain, ok_aNil, ok_aCons, ok_eTup, ok_eLst, ok_nLst, ok_eFrz, ok_oNone, ok_oSome, ok_opS, ok_callV, ok_callN, ok_eCell, ok_opW, ok_opR, kthen_nx, kthen_brk, kthen_cont, kthen_ret, kthen_rtn, ok_sSeq, ok_sNil, ok_brk, ok_cont, ok_sExpr, ok_sRet, ok_sRtn, ok_sIf, ok_putV, ok_putO, ok_sSet, ok_sOwn, ok_sAsg, ok_gTup, ok_gCons, ok_gNil, ok_gSub, ok_sPar, ok_putVs0, ok_putVs1, ok_iSeq, ok_iRng, turn_nx, turn_brk, turn_cont, turn_ret, turn_rtn, ok_sFor, ok_loop0, ok_loop1, fin_nx, fin_val, fin_sl, fin_rtn, ok_runF, rd_non, rd_bl, rd_int, rd_str, rd_tup, rd_lst, rd_dct, rd_scr, rd_cls, rd_ref, rd_sl, snap_v, snap_l, snap_d, rds_nil, ex_rds, toVals_nil, toVals_cons, ex_argsOf, cur_ref, cur_sl, wr_ref, wr_sl, setV_mk, setO_mk, opdOf_v, opdOf_l, opdOf_d, vAdd_ii, vSub_ii, ex_mul, ex_div, ex_mod, ex_pow, vNeg_i, vLt_ii, vLe_ii, vGt_ii, vGe_ii, ex_eq, ex_ne, vIx_l, vIx_t, vIx_c, lAbs_i, lMin_i, lMax_i, lLen_l, lLen_t, lLen_c, lLen_s, lTup_l, lTup_t, ex_append, ex_setL, seqOf_l, seqOf_t, seqOf_c, ex_rng1, ex_rng2, frzO_v, frzO_l, frzO_d, ty_l, ty_d, ty_s, ex_map, ex_bind, ex_if, ok_nComp, ok_tYes, ok_iZip2, ok_sAug, vAddI_ii, wipe_nil, wipe_cons, Option.some.injEq, exists_eq_left', Opd.val.injEq, Val.bl.injEq, Val.int.injEq, List.getElem?_cons_zero, List.getElem?_cons_succ, List.set_cons_zero, List.set_cons_succ, Option.bind_some, id_eq, decide_eq_true_eq, Bool.not_eq_true', decide_eq_false_iff_not, List.length_cons, List.length_nil, Nat.zero_add, Nat.reduceAdd, true_and, and_true, List.zip_cons_cons, List.zip_nil_left, List.zip_nil_right, startS, List.map_cons, List.map_nil, List.cons_append, List.nil_append, Nat.reduceSub, List.replicate_succ, List.replicate_zero, List.append_nil, ↓reduceIte]
              by_cases hc : c < (colOf rs k).count t
              · rw [if_pos (by omega)]
                rw [if_pos hc] at hb
                try simp only [ok_bind, ok_pure, ok_eVar, ok_eC, ok_eCls, ok_op2, ok_op1, ok_opL, ok_opN, ok_tst, ok_tNot, ok_tAnd, ok_tOr, ok_eAnd, ok_eOr, ok_eNot, ok_eIf, ok_chain, ok_aNil, ok_aCons, ok_eTup, ok_eLst, ok_nLst, ok_eFrz, ok_oNone, ok_oSome, ok_opS, ok_callV, ok_callN, ok_eCell, ok_opW, ok_opR, kthen_nx, kthen_brk, kthen_cont, kthen_ret, kthen_rtn, ok_sSeq, ok_sNil, ok_brk, ok_cont, ok_sExpr, ok_sRet, ok_sRtn, ok_sIf, ok_putV, ok_putO, ok_sSet, ok_sOwn, ok_sAsg, ok_gTup, ok_gCons, ok_gNil, ok_gSub, ok_sPar, ok_putVs0, ok_putVs1, ok_iSeq, ok_iRng, turn_nx, turn_brk, turn_cont, turn_ret, turn_rtn, ok_sFor, ok_loop0, ok_loop1, fin_nx, fin_val, fin_sl, fin_rtn, ok_runF, rd_non, rd_bl, rd_int, rd_str, rd_tup, rd_lst, rd_dct, rd_scr, rd_cls, rd_ref, rd_sl, snap_v, snap_l, snap_d, rds_nil, ex_rds, toVals_nil, toVals_cons, ex_argsOf, cur_ref, cur_sl, wr_ref, wr_sl, setV_mk, setO_mk, opdOf_v, opdOf_l, opdOf_d, vAdd_ii, vSub_ii, ex_mul, ex_div, ex_mod, ex_pow, vNeg_i, vLt_ii, vLe_ii, vGt_ii, vGe_ii, ex_eq, ex_ne, vIx_l, vIx_t, vIx_c, lAbs_i, lMin_i, lMax_i, lLen_l, lLen_t, lLen_c, lLen_s, lTup_l, lTup_t, ex_append, ex_setL, seqOf_l, seqOf_t, seqOf_c, ex_rng1, ex_rng2, frzO_v, frzO_l, frzO_d, ty_l, ty_d, ty_s, ex_map, ex_bind, ex_if, ok_nComp, ok_tYes, ok_iZip2, ok_sAug, vAddI_ii, wipe_nil, wipe_cons, Option.some.injEq, exists_eq_left', Opd.val.injEq, Val.bl.injEq, Val.int.injEq, List.getElem?_cons_zero, List.getElem?_cons_succ, List.set_cons_zero, List.set_cons_succ, Option.bind_some, id_eq, decide_eq_true_eq, Bool.not_eq_true', decide_eq_false_iff_not, List.length_cons, List.length_nil, Nat.zero_add, Nat.reduceAdd, true_and, and_true, List.zip_cons_cons, List.zip_nil_left, List.zip_nil_right, startS, List.map_cons, List.map_nil, List.cons_append, List.nil_append, Nat.reduceSub, List.replicate_succ, List.replicate_zero, List.append_nil, ↓reduceIte]
                exact ⟨r, t, _, _, _, rfl, rfl, hb⟩
              · rw [if_neg (by omega)]
                rw [if_neg hc] at hb
                try simp only [ok_bind, ok_pure, ok_eVar, ok_eC, ok_eCls, ok_op2, ok_op1, ok_opL, ok_opN, ok_tst, ok_tNot, ok_tAnd, ok_tOr, ok_eAnd, ok_eOr, ok_eNot, ok_eIf, ok_chain, ok_aNil, ok_aCons, ok_eTup, ok_eLst, ok_nLst, ok_eFrz, ok_oNone, ok_oSome, ok_opS, ok_callV, ok_callN, ok_eCell, ok_opW, ok_opR, kthen_nx, kthen_brk, kthen_cont, kthen_ret, kthen_rtn, ok_sSeq, ok_sNil, ok_brk, ok_cont, ok_sExpr, ok_sRet, ok_sRtn, ok_sIf, ok_putV, ok_putO, ok_sSet, ok_sOwn, ok_sAsg, ok_gTup, ok_gCons, ok_gNil, ok_gSub, ok_sPar, ok_putVs0, ok_putVs1, ok_iSeq, ok_iRng, turn_nx, turn_brk, turn_cont, turn_ret, turn_rtn, ok_sFor, ok_loop0, ok_loop1, fin_nx, fin_val, fin_sl, fin_rtn, ok_runF, rd_non, rd_bl, rd_int, rd_str, rd_tup, rd_lst, rd_dct, rd_scr, rd_cls, rd_ref, rd_sl, snap_v, snap_l, snap_d, rds_nil, ex_rds, toVals_nil, toVals_cons, ex_argsOf, cur_ref, cur_sl, wr_ref, wr_sl, setV_mk, setO_mk, opdOf_v, opdOf_l, opdOf_d, vAdd_ii, vSub_ii, ex_mul, ex_div, ex_mod, ex_pow, vNeg_i, vLt_ii, vLe_ii, vGt_ii, vGe_ii, ex_eq, ex_ne, vIx_l, vIx_t, vIx_c, lAbs_i, lMin_i, lMax_i, lLen_l, lLen_t, lLen_c, lLen_s, lTup_l, lTup_t, ex_append, ex_setL, seqOf_l, seqOf_t, seqOf_c, ex_rng1, ex_rng2, frzO_v, frzO_l, frzO_d, ty_l, ty_d, ty_s, ex_map, ex_bind, ex_if, ok_nComp, ok_tYes, ok_iZip2, ok_sAug, vAddI_ii, wipe_nil, wipe_cons, Option.some.injEq, exists_eq_left', Opd.val.injEq, Val.bl.injEq, Val.int.injEq, List.getElem?_cons_zero, List.getElem?_cons_succ, List.set_cons_zero, List.set_cons_succ, Option.bind_some, id_eq, decide_eq_true_eq, Bool.not_eq_true', decide_eq_false_iff_not, List.length_cons, List.length_nil, Nat.zero_add, Nat.reduceAdd, true_and, and_true, List.zip_cons_cons, List.zip_nil_left, List.zip_nil_right, startS, List.map_cons, List.map_nil, List.cons_append, List.nil_append, Nat.reduceSub, List.replicate_succ, List.replicate_zero, List.append_nil, ↓reduceIte]
                exact ⟨r, b, c, _, _, rfl, rfl, hb⟩
          · rintro s ⟨r, b, c, o5, o6, e1, rfl, hb⟩
            cases r with
            | cons t r => simp at e1
            | nil =>
              try simp only [ok_bind, ok_pure, ok_eVar, ok_eC, ok_eCls, ok_op2, ok_op1, ok_opL, ok_opN, ok_tst, ok_tNot, ok_tAnd, ok_tOr, ok_eAnd, ok_eOr, ok_eNot, ok_eIf, ok_chain, ok_aNil, ok_aCons, ok_eTup, ok_eLst, ok_nLst, ok_eFrz, ok_oNone, ok_oSome, ok_opS, ok_callV, ok_callN, ok_eCell, ok_opW, ok_opR, kthen_nx, kthen_brk, kthen_cont, kthen_ret, kthen_rtn, ok_sSeq, ok_sNil, ok_brk, ok_cont, ok_sExpr, ok_sRet, ok_sRtn, ok_sIf, ok_putV, ok_putO, ok_sSet, ok_sOwn, ok_sAsg, ok_gTup, ok_gCons, ok_gNil, ok_gSub, ok_sPar, ok_putVs0, ok_putVs1, ok_iSeq, ok_iRng, turn_nx, turn_brk, turn_cont, turn_ret, turn_rtn, ok_sFor, ok_loop0, ok_loop1, fin_nx, fin_val, fin_sl, fin_rtn, ok_runF, rd_non, rd_bl, rd_int, rd_str, rd_tup, rd_lst, rd_dct, rd_scr, rd_cls, rd_ref, rd_sl, snap_v, snap_l, snap_d, rds_nil, ex_rds, toVals_nil, toVals_cons, ex_argsOf, cur_ref, cur_sl, wr_ref, wr_sl, setV_mk, setO_mk, opdOf_v, opdOf_l, opdOf_d, vAdd_ii, vSub_ii, ex_mul, ex_div, ex_mod, ex_pow, vNeg_i, vLt_ii, vLe_ii, vGt_ii, vGe_ii, ex_eq, ex_ne, vIx_l, vIx_t, vIx_c, lAbs_i, lMin_i, lMax_i, lLen_l, lLen_t, lLen_c, lLen_s, lTup_l, lTup_t, ex_append, ex_setL, seqOf_l, seqOf_t, seqOf_c, ex_rng1, ex_rng2, frzO_v, frzO_l, frzO_d, ty_l, ty_d, ty_s, ex_map, ex_bind, ex_if, ok_nComp, ok_tYes, ok_iZip2, ok_sAug, vAddI_ii, wipe_nil, wipe_cons, Option.some.injEq, exists_eq_left', Opd.val.injEq, Val.bl.injEq, Val.int.injEq, List.getElem?_cons_zero, List.getElem?_cons_succ, List.set_cons_zero, List.set_cons_succ, Option.bind_some, id_eq, decide_eq_true_eq, Bool.not_eq_true', decide_eq_false_iff_not, List.length_cons, List.length_nil, Nat.zero_add, Nat.reduceAdd, true_and, and_true, List.zip_cons_cons, List.zip_nil_left, List.zip_nil_right, startS, List.map_cons, List.map_nil, List.cons_append, List.nil_append, Nat.reduceSub, List.replicate_succ, List.replicate_zero, List.append_nil, ↓reduceIte]
              have hb : b = best (colOf rs k) := hb
              rw [hb]
              exact ⟨_, _, _, rfl⟩
        rintro s ⟨o4, o5, o6, rfl⟩
        try simp only [ok_bind, ok_pure, ok_eVar, ok_eC, ok_eCls, ok_op2, ok_op1, ok_opL, ok_opN, ok_tst, ok_tNot, ok_tAnd, ok_tOr, ok_eAnd, ok_eOr, ok_eNot, ok_eIf, ok_chain, ok_aNil, ok_aCons, ok_eTup, ok_eLst, ok_nLst, ok_eFrz, ok_oNone, ok_oSome, ok_opS, ok_callV, ok_callN, ok_eCell, ok_opW, ok_opR, kthen_nx, kthen_brk, kthen_cont, kthen_ret, kthen_rtn, ok_sSeq, ok_sNil, ok_brk, ok_cont, ok_sExpr, ok_sRet, ok_sRtn, ok_sIf, ok_putV, ok_putO, ok_sSet, ok_sOwn, ok_sAsg, ok_gTup, ok_gCons, ok_gNil, ok_gSub, ok_sPar, ok_putVs0, ok_putVs1, ok_iSeq, ok_iRng, turn_nx, turn_brk, turn_cont, turn_ret, turn_rtn, ok_sFor, ok_loop0, ok_loop1, fin_nx, fin_val, fin_sl, fin_rtn, ok_runF, rd_non, rd_bl, rd_int, rd_str, rd_tup, rd_lst, rd_dct, rd_scr, rd_cls, rd_ref, rd_sl, snap_v, snap_l, snap_d, rds_nil, ex_rds, toVals_nil, toVals_cons, ex_argsOf, cur_ref, cur_sl, wr_ref, wr_sl, setV_mk, setO_mk, opdOf_v, opdOf_l, opdOf_d, vAdd_ii, vSub_ii, ex_mul, ex_div, ex_mod, ex_pow, vNeg_i, vLt_ii, vLe_ii, vGt_ii, vGe_ii, ex_eq, ex_ne, vIx_l, vIx_t, vIx_c, lAbs_i, lMin_i, lMax_i, lLen_l, lLen_t, lLen_c, lLen_s, lTup_l, lTup_t, ex_append, ex_setL, seqOf_l, seqOf_t, seqOf_c, ex_rng1, ex_rng2, frzO_v, frzO_l, frzO_d, ty_l, ty_d, ty_s, ex_map, ex_bind, ex_if, ok_nComp, ok_tYes, ok_iZip2, ok_sAug, vAddI_ii, wipe_nil, wipe_cons, Option.some.injEq, exists_eq_left', Opd.val.injEq, Val.bl.injEq, Val.int.injEq, List.getElem?_cons_zero, List.getElem?_cons_succ, List.set_cons_zero, List.set_cons_succ, Option.bind_some, id_eq, decide_eq_true_eq, Bool.not_eq_true', decide_eq_false_iff_not, List.length_cons, List.length_nil, Nat.zero_add, Nat.reduceAdd, true_and, and_true, List.zip_cons_cons, List.zip_nil_left, List.zip_nil_right, startS, List.map_cons, List.map_nil, List.cons_append, List.nil_append, Nat.reduceSub, List.replicate_succ, List.replicate_zero, List.append_nil, ↓reduceIte, zV, vAdd_ss]
        have ea : (⟨dn.toArray⟩ : Str) ++ ⟨#[best (colOf rs k)]⟩ = ⟨(dn ++ [best (colOf rs k)]).toArray⟩ := by
          rw [← TL.mk_tl ((⟨dn.toArray⟩ : Str) ++ ⟨#[best (colOf rs k)]⟩), TL.tl_append]
        rw [ea]
        refine ⟨?_, k + 1, m, dn ++ [best (colOf rs k)], _, _, _, _, _, by rw [show ((k + 1 : Nat) : Int) = (k : Int) + 1 by omega], by omega, rfl, ?_, by rw [List.length_append, hdl]; rfl⟩
        · show dn.toArray.size + 1 ≤ lim
          rw [List.size_toArray]
          exact Nat.le_trans (show _ ≤ 100 by omega) (by decide)
        · rw [← hd, List.append_assoc]
          rfl
    · rintro s ⟨k, m, dn, o2, o3, o4, o5, o6, e1, hk, rfl, hd, hdl⟩
      cases m with
      | succ m => rw [intsV_succ] at e1; cases e1
      | zero =>
        try simp only [ok_bind, ok_pure, ok_eVar, ok_eC, ok_eCls, ok_op2, ok_op1, ok_opL, ok_opN, ok_tst, ok_tNot, ok_tAnd, ok_tOr, ok_eAnd, ok_eOr, ok_eNot, ok_eIf, ok_chain, ok_aNil, ok_aCons, ok_eTup, ok_eLst, ok_nLst, ok_eFrz, ok_oNone, ok_oSome, ok_opS, ok_callV, ok_callN, ok_eCell, ok_opW, ok_opR, kthen_nx, kthen_brk, kthen_cont, kthen_ret, kthen_rtn, ok_sSeq, ok_sNil, ok_brk, ok_cont, ok_sExpr, ok_sRet, ok_sRtn, ok_sIf, ok_putV, ok_putO, ok_sSet, ok_sOwn, ok_sAsg, ok_gTup, ok_gCons, ok_gNil, ok_gSub, ok_sPar, ok_putVs0, ok_putVs1, ok_iSeq, ok_iRng, turn_nx, turn_brk, turn_cont, turn_ret, turn_rtn, ok_sFor, ok_loop0, ok_loop1, fin_nx, fin_val, fin_sl, fin_rtn, ok_runF, rd_non, rd_bl, rd_int, rd_str, rd_tup, rd_lst, rd_dct, rd_scr, rd_cls, rd_ref, rd_sl, snap_v, snap_l, snap_d, rds_nil, ex_rds, toVals_nil, toVals_cons, ex_argsOf, cur_ref, cur_sl, wr_ref, wr_sl, setV_mk, setO_mk, opdOf_v, opdOf_l, opdOf_d, vAdd_ii, vSub_ii, ex_mul, ex_div, ex_mod, ex_pow, vNeg_i, vLt_ii, vLe_ii, vGt_ii, vGe_ii, ex_eq, ex_ne, vIx_l, vIx_t, vIx_c, lAbs_i, lMin_i, lMax_i, lLen_l, lLen_t, lLen_c, lLen_s, lTup_l, lTup_t, ex_append, ex_setL, seqOf_l, seqOf_t, seqOf_c, ex_rng1, ex_rng2, frzO_v, frzO_l, frzO_d, ty_l, ty_d, ty_s, ex_map, ex_bind, ex_if, ok_nComp, ok_tYes, ok_iZip2, ok_sAug, vAddI_ii, wipe_nil, wipe_cons, Option.some.injEq, exists_eq_left', Opd.val.injEq, Val.bl.injEq, Val.int.injEq, List.getElem?_cons_zero, List.getElem?_cons_succ, List.set_cons_zero, List.set_cons_succ, Option.bind_some, id_eq, decide_eq_true_eq, Bool.not_eq_true', decide_eq_false_iff_not, List.length_cons, List.length_nil, Nat.zero_add, Nat.reduceAdd, true_and, and_true, List.zip_cons_cons, List.zip_nil_left, List.zip_nil_right, startS, List.map_cons, List.map_nil, List.cons_append, List.nil_append, Nat.reduceSub, List.replicate_succ, List.replicate_zero, List.append_nil, ↓reduceIte]
        have e : dn = plateL rs 0 n := by rw [← hd]; simp [plateL]
        rw [e]
        exact ⟨_, _, _, _, _, rfl⟩
  · rintro s ⟨o2, o3, o4, o5, o6, rfl⟩
    try simp only [ok_bind, ok_pure, ok_eVar, ok_eC, ok_eCls, ok_op2, ok_op1, ok_opL, ok_opN, ok_tst, ok_tNot, ok_tAnd, ok_tOr, ok_eAnd, ok_eOr, ok_eNot, ok_eIf, ok_chain, ok_aNil, ok_aCons, ok_eTup, ok_eLst, ok_nLst, ok_eFrz, ok_oNone, ok_oSome, ok_opS, ok_callV, ok_callN, ok_eCell, ok_opW, ok_opR, kthen_nx, kthen_brk, kthen_cont, kthen_ret, kthen_rtn, ok_sSeq, ok_sNil, ok_brk, ok_cont, ok_sExpr, ok_sRet, ok_sRtn, ok_sIf, ok_putV, ok_putO, ok_sSet, ok_sOwn, ok_sAsg, ok_gTup, ok_gCons, ok_gNil, ok_gSub, ok_sPar, ok_putVs0, ok_putVs1, ok_iSeq, ok_iRng, turn_nx, turn_brk, turn_cont, turn_ret, turn_rtn, ok_sFor, ok_loop0, ok_loop1, fin_nx, fin_val, fin_sl, fin_rtn, ok_runF, rd_non, rd_bl, rd_int, rd_str, rd_tup, rd_lst, rd_dct, rd_scr, rd_cls, rd_ref, rd_sl, snap_v, snap_l, snap_d, rds_nil, ex_rds, toVals_nil, toVals_cons, ex_argsOf, cur_ref, cur_sl, wr_ref, wr_sl, setV_mk, setO_mk, opdOf_v, opdOf_l, opdOf_d, vAdd_ii, vSub_ii, ex_mul, ex_div, ex_mod, ex_pow, vNeg_i, vLt_ii, vLe_ii, vGt_ii, vGe_ii, ex_eq, ex_ne, vIx_l, vIx_t, vIx_c, lAbs_i, lMin_i, lMax_i, lLen_l, lLen_t, lLen_c, lLen_s, lTup_l, lTup_t, ex_append, ex_setL, seqOf_l, seqOf_t, seqOf_c, ex_rng1, ex_rng2, frzO_v, frzO_l, frzO_d, ty_l, ty_d, ty_s, ex_map, ex_bind, ex_if, ok_nComp, ok_tYes, ok_iZip2, ok_sAug, vAddI_ii, wipe_nil, wipe_cons, Option.some.injEq, exists_eq_left', Opd.val.injEq, Val.bl.injEq, Val.int.injEq, List.getElem?_cons_zero, List.getElem?_cons_succ, List.set_cons_zero, List.set_cons_succ, Option.bind_some, id_eq, decide_eq_true_eq, Bool.not_eq_true', decide_eq_false_iff_not, List.length_cons, List.length_nil, Nat.zero_add, Nat.reduceAdd, true_and, and_true, List.zip_cons_cons, List.zip_nil_left, List.zip_nil_right, startS, List.map_cons, List.map_nil, List.cons_append, List.nil_append, Nat.reduceSub, List.replicate_succ, List.replicate_zero, List.append_nil, ↓reduceIte, zV]
    exact q
end G

namespace G
open PySem PySem.Spec PyProof.Rows L2
/-! ### the three told -/
theorem isOf_congr {a b : Str} (h : ∀ c, c ∈ a.cps.toList ↔ c ∈ b.cps.toList) (x : Val) : isOf x a = isOf x b := by
  cases x with
  | str z =>
    show (_ && z.cps.toList.all _) = (_ && z.cps.toList.all _)
    congr 1
    congr 1
    funext c
    exact decide_eq_decide.mpr (h c)
  | _ => rfl
abbrev sSgn : Str := "0123456789ABCDEFGHIJKLMNOPQRSTUVWXYZ"
abbrev sRsg : Str := "?0123456789ABCDEFGHIJKLMNOPQRSTUVWXYZ"
theorem is_plate_ok {x : Val} {hp : List OV} {Q : OV → List OV → Prop} (h : Kn x) (q : Q (.v (.bl (isOf x sSgn))) hp) : FOk (F_is_plate [x] hp) Q := by
  unfold F_is_plate m_is_plate
  try simp only [ok_bind, ok_pure, ok_eVar, ok_eC, ok_eCls, ok_op2, ok_op1, ok_opL, ok_opN, ok_tst, ok_tNot, ok_tAnd, ok_tOr, ok_eAnd, ok_eOr, ok_eNot, ok_eIf, ok_chain, ok_aNil, ok_aCons, ok_eTup, ok_eLst, ok_nLst, ok_eFrz, ok_oNone, ok_oSome, ok_opS, ok_callV, ok_callN, ok_eCell, ok_opW, ok_opR, kthen_nx, kthen_brk, kthen_cont, kthen_ret, kthen_rtn, ok_sSeq, ok_sNil, ok_brk, ok_cont, ok_sExpr, ok_sRet, ok_sRtn, ok_sIf, ok_putV, ok_putO, ok_sSet, ok_sOwn, ok_sAsg, ok_gTup, ok_gCons, ok_gNil, ok_gSub, ok_sPar, ok_putVs0, ok_putVs1, ok_iSeq, ok_iRng, turn_nx, turn_brk, turn_cont, turn_ret, turn_rtn, ok_sFor, ok_loop0, ok_loop1, fin_nx, fin_val, fin_sl, fin_rtn, ok_runF, rd_non, rd_bl, rd_int, rd_str, rd_tup, rd_lst, rd_dct, rd_scr, rd_cls, rd_ref, rd_sl, snap_v, snap_l, snap_d, rds_nil, ex_rds, toVals_nil, toVals_cons, ex_argsOf, cur_ref, cur_sl, wr_ref, wr_sl, setV_mk, setO_mk, opdOf_v, opdOf_l, opdOf_d, vAdd_ii, vSub_ii, ex_mul, ex_div, ex_mod, ex_pow, vNeg_i, vLt_ii, vLe_ii, vGt_ii, vGe_ii, ex_eq, ex_ne, vIx_l, vIx_t, vIx_c, lAbs_i, lMin_i, lMax_i, lLen_l, lLen_t, lLen_c, lLen_s, lTup_l, lTup_t, ex_append, ex_setL, seqOf_l, seqOf_t, seqOf_c, ex_rng1, ex_rng2, frzO_v, frzO_l, frzO_d, ty_l, ty_d, ty_s, ex_map, ex_bind, ex_if, ok_nComp, ok_tYes, ok_iZip2, ok_sAug, vAddI_ii, wipe_nil, wipe_cons, Option.some.injEq, exists_eq_left', Opd.val.injEq, Val.bl.injEq, Val.int.injEq, List.getElem?_cons_zero, List.getElem?_cons_succ, List.set_cons_zero, List.set_cons_succ, Option.bind_some, id_eq, decide_eq_true_eq, Bool.not_eq_true', decide_eq_false_iff_not, List.length_cons, List.length_nil, Nat.zero_add, Nat.reduceAdd, true_and, and_true, List.zip_cons_cons, List.zip_nil_left, List.zip_nil_right, startS, List.map_cons, List.map_nil, List.cons_append, List.nil_append, Nat.reduceSub, List.replicate_succ, List.replicate_zero, List.append_nil, ↓reduceIte]
  refine is_of_ok h ?_
  try simp only [ok_bind, ok_pure, ok_eVar, ok_eC, ok_eCls, ok_op2, ok_op1, ok_opL, ok_opN, ok_tst, ok_tNot, ok_tAnd, ok_tOr, ok_eAnd, ok_eOr, ok_eNot, ok_eIf, ok_chain, ok_aNil, ok_aCons, ok_eTup, ok_eLst, ok_nLst, ok_eFrz, ok_oNone, ok_oSome, ok_opS, ok_callV, ok_callN, ok_eCell, ok_opW, ok_opR, kthen_nx, kthen_brk, kthen_cont, kthen_ret, kthen_rtn, ok_sSeq, ok_sNil, ok_brk, ok_cont, ok_sExpr, ok_sRet, ok_sRtn, ok_sIf, ok_putV, ok_putO, ok_sSet, ok_sOwn, ok_sAsg, ok_gTup, ok_gCons, ok_gNil, ok_gSub, ok_sPar, ok_putVs0, ok_putVs1, ok_iSeq, ok_iRng, turn_nx, turn_brk, turn_cont, turn_ret, turn_rtn, ok_sFor, ok_loop0, ok_loop1, fin_nx, fin_val, fin_sl, fin_rtn, ok_runF, rd_non, rd_bl, rd_int, rd_str, rd_tup, rd_lst, rd_dct, rd_scr, rd_cls, rd_ref, rd_sl, snap_v, snap_l, snap_d, rds_nil, ex_rds, toVals_nil, toVals_cons, ex_argsOf, cur_ref, cur_sl, wr_ref, wr_sl, setV_mk, setO_mk, opdOf_v, opdOf_l, opdOf_d, vAdd_ii, vSub_ii, ex_mul, ex_div, ex_mod, ex_pow, vNeg_i, vLt_ii, vLe_ii, vGt_ii, vGe_ii, ex_eq, ex_ne, vIx_l, vIx_t, vIx_c, lAbs_i, lMin_i, lMax_i, lLen_l, lLen_t, lLen_c, lLen_s, lTup_l, lTup_t, ex_append, ex_setL, seqOf_l, seqOf_t, seqOf_c, ex_rng1, ex_rng2, frzO_v, frzO_l, frzO_d, ty_l, ty_d, ty_s, ex_map, ex_bind, ex_if, ok_nComp, ok_tYes, ok_iZip2, ok_sAug, vAddI_ii, wipe_nil, wipe_cons, Option.some.injEq, exists_eq_left', Opd.val.injEq, Val.bl.injEq, Val.int.injEq, List.getElem?_cons_zero, List.getElem?_cons_succ, List.set_cons_zero, List.set_cons_succ, Option.bind_some, id_eq, decide_eq_true_eq, Bool.not_eq_true', decide_eq_false_iff_not, List.length_cons, List.length_nil, Nat.zero_add, Nat.reduceAdd, true_and, and_true, List.zip_cons_cons, List.zip_nil_left, List.zip_nil_right, startS, List.map_cons, List.map_nil, List.cons_append, List.nil_append, Nat.reduceSub, List.replicate_succ, List.replicate_zero, List.append_nil, ↓reduceIte]
  exact q
theorem is_reading_ok {x : Val} {hp : List OV} {Q : OV → List OV → Prop} (h : Kn x) (q : Q (.v (.bl (isOf x sRsg))) hp) : FOk (F_is_reading [x] hp) Q := by
  unfold F_is_reading m_is_reading
  try simp only [ok_bind, ok_pure, ok_eVar, ok_eC, ok_eCls, ok_op2, ok_op1, ok_opL, ok_opN, ok_tst, ok_tNot, ok_tAnd, ok_tOr, ok_eAnd, ok_eOr, ok_eNot, ok_eIf, ok_chain, ok_aNil, ok_aCons, ok_eTup, ok_eLst, ok_nLst, ok_eFrz, ok_oNone, ok_oSome, ok_opS, ok_callV, ok_callN, ok_eCell, ok_opW, ok_opR, kthen_nx, kthen_brk, kthen_cont, kthen_ret, kthen_rtn, ok_sSeq, ok_sNil, ok_brk, ok_cont, ok_sExpr, ok_sRet, ok_sRtn, ok_sIf, ok_putV, ok_putO, ok_sSet, ok_sOwn, ok_sAsg, ok_gTup, ok_gCons, ok_gNil, ok_gSub, ok_sPar, ok_putVs0, ok_putVs1, ok_iSeq, ok_iRng, turn_nx, turn_brk, turn_cont, turn_ret, turn_rtn, ok_sFor, ok_loop0, ok_loop1, fin_nx, fin_val, fin_sl, fin_rtn, ok_runF, rd_non, rd_bl, rd_int, rd_str, rd_tup, rd_lst, rd_dct, rd_scr, rd_cls, rd_ref, rd_sl, snap_v, snap_l, snap_d, rds_nil, ex_rds, toVals_nil, toVals_cons, ex_argsOf, cur_ref, cur_sl, wr_ref, wr_sl, setV_mk, setO_mk, opdOf_v, opdOf_l, opdOf_d, vAdd_ii, vSub_ii, ex_mul, ex_div, ex_mod, ex_pow, vNeg_i, vLt_ii, vLe_ii, vGt_ii, vGe_ii, ex_eq, ex_ne, vIx_l, vIx_t, vIx_c, lAbs_i, lMin_i, lMax_i, lLen_l, lLen_t, lLen_c, lLen_s, lTup_l, lTup_t, ex_append, ex_setL, seqOf_l, seqOf_t, seqOf_c, ex_rng1, ex_rng2, frzO_v, frzO_l, frzO_d, ty_l, ty_d, ty_s, ex_map, ex_bind, ex_if, ok_nComp, ok_tYes, ok_iZip2, ok_sAug, vAddI_ii, wipe_nil, wipe_cons, Option.some.injEq, exists_eq_left', Opd.val.injEq, Val.bl.injEq, Val.int.injEq, List.getElem?_cons_zero, List.getElem?_cons_succ, List.set_cons_zero, List.set_cons_succ, Option.bind_some, id_eq, decide_eq_true_eq, Bool.not_eq_true', decide_eq_false_iff_not, List.length_cons, List.length_nil, Nat.zero_add, Nat.reduceAdd, true_and, and_true, List.zip_cons_cons, List.zip_nil_left, List.zip_nil_right, startS, List.map_cons, List.map_nil, List.cons_append, List.nil_append, Nat.reduceSub, List.replicate_succ, List.replicate_zero, List.append_nil, ↓reduceIte, vAdd_ss]
  refine ⟨by decide +kernel, ?_⟩
  refine is_of_ok h ?_
  try simp only [ok_bind, ok_pure, ok_eVar, ok_eC, ok_eCls, ok_op2, ok_op1, ok_opL, ok_opN, ok_tst, ok_tNot, ok_tAnd, ok_tOr, ok_eAnd, ok_eOr, ok_eNot, ok_eIf, ok_chain, ok_aNil, ok_aCons, ok_eTup, ok_eLst, ok_nLst, ok_eFrz, ok_oNone, ok_oSome, ok_opS, ok_callV, ok_callN, ok_eCell, ok_opW, ok_opR, kthen_nx, kthen_brk, kthen_cont, kthen_ret, kthen_rtn, ok_sSeq, ok_sNil, ok_brk, ok_cont, ok_sExpr, ok_sRet, ok_sRtn, ok_sIf, ok_putV, ok_putO, ok_sSet, ok_sOwn, ok_sAsg, ok_gTup, ok_gCons, ok_gNil, ok_gSub, ok_sPar, ok_putVs0, ok_putVs1, ok_iSeq, ok_iRng, turn_nx, turn_brk, turn_cont, turn_ret, turn_rtn, ok_sFor, ok_loop0, ok_loop1, fin_nx, fin_val, fin_sl, fin_rtn, ok_runF, rd_non, rd_bl, rd_int, rd_str, rd_tup, rd_lst, rd_dct, rd_scr, rd_cls, rd_ref, rd_sl, snap_v, snap_l, snap_d, rds_nil, ex_rds, toVals_nil, toVals_cons, ex_argsOf, cur_ref, cur_sl, wr_ref, wr_sl, setV_mk, setO_mk, opdOf_v, opdOf_l, opdOf_d, vAdd_ii, vSub_ii, ex_mul, ex_div, ex_mod, ex_pow, vNeg_i, vLt_ii, vLe_ii, vGt_ii, vGe_ii, ex_eq, ex_ne, vIx_l, vIx_t, vIx_c, lAbs_i, lMin_i, lMax_i, lLen_l, lLen_t, lLen_c, lLen_s, lTup_l, lTup_t, ex_append, ex_setL, seqOf_l, seqOf_t, seqOf_c, ex_rng1, ex_rng2, frzO_v, frzO_l, frzO_d, ty_l, ty_d, ty_s, ex_map, ex_bind, ex_if, ok_nComp, ok_tYes, ok_iZip2, ok_sAug, vAddI_ii, wipe_nil, wipe_cons, Option.some.injEq, exists_eq_left', Opd.val.injEq, Val.bl.injEq, Val.int.injEq, List.getElem?_cons_zero, List.getElem?_cons_succ, List.set_cons_zero, List.set_cons_succ, Option.bind_some, id_eq, decide_eq_true_eq, Bool.not_eq_true', decide_eq_false_iff_not, List.length_cons, List.length_nil, Nat.zero_add, Nat.reduceAdd, true_and, and_true, List.zip_cons_cons, List.zip_nil_left, List.zip_nil_right, startS, List.map_cons, List.map_nil, List.cons_append, List.nil_append, Nat.reduceSub, List.replicate_succ, List.replicate_zero, List.append_nil, ↓reduceIte]
  rw [isOf_congr (b := sRsg) fun c => ?_]
  · exact q
  · have e1 : (sSgn ++ ("?" : Str)).cps.toList = sSgn.cps.toList ++ [63] := by
      have := TL.tl_append sSgn "?"
      rw [show TL.tl ("?" : Str) = [63] by decide +kernel] at this
      exact this
    have e2 : sRsg.cps.toList = 63 :: sSgn.cps.toList := by decide +kernel
    show c ∈ (sSgn ++ ("?" : Str)).cps.toList ↔ _
    rw [e1, e2, List.mem_append, List.mem_singleton, List.mem_cons]
    exact Or.comm
theorem law_is_reading_ok {x : Val} {hp : List OV} {Q : OV → List OV → Prop} (h : Kn x) (q : Q (.v (.bl (isOf x sRsg))) hp) : FOk (F__law_is_reading [x] hp) Q := by
  unfold F__law_is_reading m__law_is_reading
  try simp only [ok_bind, ok_pure, ok_eVar, ok_eC, ok_eCls, ok_op2, ok_op1, ok_opL, ok_opN, ok_tst, ok_tNot, ok_tAnd, ok_tOr, ok_eAnd, ok_eOr, ok_eNot, ok_eIf, ok_chain, ok_aNil, ok_aCons, ok_eTup, ok_eLst, ok_nLst, ok_eFrz, ok_oNone, ok_oSome, ok_opS, ok_callV, ok_callN, ok_eCell, ok_opW, ok_opR, kthen_nx, kthen_brk, kthen_cont, kthen_ret, kthen_rtn, ok_sSeq, ok_sNil, ok_brk, ok_cont, ok_sExpr, ok_sRet, ok_sRtn, ok_sIf, ok_putV, ok_putO, ok_sSet, ok_sOwn, ok_sAsg, ok_gTup, ok_gCons, ok_gNil, ok_gSub, ok_sPar, ok_putVs0, ok_putVs1, ok_iSeq, ok_iRng, turn_nx, turn_brk, turn_cont, turn_ret, turn_rtn, ok_sFor, ok_loop0, ok_loop1, fin_nx, fin_val, fin_sl, fin_rtn, ok_runF, rd_non, rd_bl, rd_int, rd_str, rd_tup, rd_lst, rd_dct, rd_scr, rd_cls, rd_ref, rd_sl, snap_v, snap_l, snap_d, rds_nil, ex_rds, toVals_nil, toVals_cons, ex_argsOf, cur_ref, cur_sl, wr_ref, wr_sl, setV_mk, setO_mk, opdOf_v, opdOf_l, opdOf_d, vAdd_ii, vSub_ii, ex_mul, ex_div, ex_mod, ex_pow, vNeg_i, vLt_ii, vLe_ii, vGt_ii, vGe_ii, ex_eq, ex_ne, vIx_l, vIx_t, vIx_c, lAbs_i, lMin_i, lMax_i, lLen_l, lLen_t, lLen_c, lLen_s, lTup_l, lTup_t, ex_append, ex_setL, seqOf_l, seqOf_t, seqOf_c, ex_rng1, ex_rng2, frzO_v, frzO_l, frzO_d, ty_l, ty_d, ty_s, ex_map, ex_bind, ex_if, ok_nComp, ok_tYes, ok_iZip2, ok_sAug, vAddI_ii, wipe_nil, wipe_cons, Option.some.injEq, exists_eq_left', Opd.val.injEq, Val.bl.injEq, Val.int.injEq, List.getElem?_cons_zero, List.getElem?_cons_succ, List.set_cons_zero, List.set_cons_succ, Option.bind_some, id_eq, decide_eq_true_eq, Bool.not_eq_true', decide_eq_false_iff_not, List.length_cons, List.length_nil, Nat.zero_add, Nat.reduceAdd, true_and, and_true, List.zip_cons_cons, List.zip_nil_left, List.zip_nil_right, startS, List.map_cons, List.map_nil, List.cons_append, List.nil_append, Nat.reduceSub, List.replicate_succ, List.replicate_zero, List.append_nil, ↓reduceIte]
  refine law_is_of_ok h ?_
  try simp only [ok_bind, ok_pure, ok_eVar, ok_eC, ok_eCls, ok_op2, ok_op1, ok_opL, ok_opN, ok_tst, ok_tNot, ok_tAnd, ok_tOr, ok_eAnd, ok_eOr, ok_eNot, ok_eIf, ok_chain, ok_aNil, ok_aCons, ok_eTup, ok_eLst, ok_nLst, ok_eFrz, ok_oNone, ok_oSome, ok_opS, ok_callV, ok_callN, ok_eCell, ok_opW, ok_opR, kthen_nx, kthen_brk, kthen_cont, kthen_ret, kthen_rtn, ok_sSeq, ok_sNil, ok_brk, ok_cont, ok_sExpr, ok_sRet, ok_sRtn, ok_sIf, ok_putV, ok_putO, ok_sSet, ok_sOwn, ok_sAsg, ok_gTup, ok_gCons, ok_gNil, ok_gSub, ok_sPar, ok_putVs0, ok_putVs1, ok_iSeq, ok_iRng, turn_nx, turn_brk, turn_cont, turn_ret, turn_rtn, ok_sFor, ok_loop0, ok_loop1, fin_nx, fin_val, fin_sl, fin_rtn, ok_runF, rd_non, rd_bl, rd_int, rd_str, rd_tup, rd_lst, rd_dct, rd_scr, rd_cls, rd_ref, rd_sl, snap_v, snap_l, snap_d, rds_nil, ex_rds, toVals_nil, toVals_cons, ex_argsOf, cur_ref, cur_sl, wr_ref, wr_sl, setV_mk, setO_mk, opdOf_v, opdOf_l, opdOf_d, vAdd_ii, vSub_ii, ex_mul, ex_div, ex_mod, ex_pow, vNeg_i, vLt_ii, vLe_ii, vGt_ii, vGe_ii, ex_eq, ex_ne, vIx_l, vIx_t, vIx_c, lAbs_i, lMin_i, lMax_i, lLen_l, lLen_t, lLen_c, lLen_s, lTup_l, lTup_t, ex_append, ex_setL, seqOf_l, seqOf_t, seqOf_c, ex_rng1, ex_rng2, frzO_v, frzO_l, frzO_d, ty_l, ty_d, ty_s, ex_map, ex_bind, ex_if, ok_nComp, ok_tYes, ok_iZip2, ok_sAug, vAddI_ii, wipe_nil, wipe_cons, Option.some.injEq, exists_eq_left', Opd.val.injEq, Val.bl.injEq, Val.int.injEq, List.getElem?_cons_zero, List.getElem?_cons_succ, List.set_cons_zero, List.set_cons_succ, Option.bind_some, id_eq, decide_eq_true_eq, Bool.not_eq_true', decide_eq_false_iff_not, List.length_cons, List.length_nil, Nat.zero_add, Nat.reduceAdd, true_and, and_true, List.zip_cons_cons, List.zip_nil_left, List.zip_nil_right, startS, List.map_cons, List.map_nil, List.cons_append, List.nil_append, Nat.reduceSub, List.replicate_succ, List.replicate_zero, List.append_nil, ↓reduceIte]
  exact q
theorem dsum_comm : ∀ a b : List Nat, dsum a b = dsum b a
  | [], [] => rfl
  | [], _ :: _ => rfl
  | _ :: _, [] => rfl
  | c :: a, d :: b => by
    show (if c = d then 0 else if c = 63 ∨ d = 63 then 2 else 9) + dsum a b = (if d = c then 0 else if d = 63 ∨ c = 63 then 2 else 9) + dsum b a
    rw [dsum_comm a b]
    have h1 : (d = c) = (c = d) := propext ⟨Eq.symm, Eq.symm⟩
    have h2 : (d = 63 ∨ c = 63) = (c = 63 ∨ d = 63) := propext Or.comm
    simp only [h1, h2]
theorem dV_comm (a b : List Nat) : dV a b = dV b a := by
  unfold dV
  rw [dsum_comm a b]
  by_cases h : a.length = b.length
  · rw [if_pos h, if_pos h.symm]
  · rw [if_neg h, if_neg (fun e => h e.symm)]
theorem dsum_self : ∀ a : List Nat, dsum a a = 0
  | [] => rfl
  | c :: a => by
    show (if c = c then 0 else _) + dsum a a = 0
    rw [if_pos rfl, dsum_self a]
    rfl
theorem dV_self (a : List Nat) : dV a a = .int 0 := by
  unfold dV
  rw [if_pos rfl, dsum_self, if_pos (by decide)]
theorem dV_cases (a b : List Nat) : dV a b = .non ∨ ∃ i, dV a b = .int i := by
  unfold dV
  split
  · split
    · exact .inr ⟨_, rfl⟩
    · exact .inl rfl
  · exact .inl rfl
theorem dep_dV {a b : List Nat} : dep 20 (dV a b) = true := by
  rcases dV_cases a b with h | ⟨i, h⟩
  · rw [h]; exact dep_non
  · rw [h]; exact dep_int
theorem eqv_dV {a b : List Nat} : eqv (dV a b) (dV a b) = true := by
  rcases dV_cases a b with h | ⟨i, h⟩
  · rw [h, eqv]
  · rw [h, eqv_int]; simp
theorem isi_dV {a b : List Nat} : lIsi [dV a b, .cls "bool"] = some (.bl false) := by
  rcases dV_cases a b with h | ⟨i, h⟩
  · rw [h]; exact isi_non_bool
  · rw [h]; exact isi_int_bool
theorem rd_dV {a b : List Nat} {s : Stt} : s.rd (.val (dV a b)) = some (dV a b) := by
  rcases dV_cases a b with h | ⟨i, h⟩ <;> (rw [h]; rfl)
theorem eqv_strS {a : Str} : eqv (.str a) (.str a) = true := by
  rw [eqv]
  simp
theorem dep_bb {a b : Bool} : dep 20 (.tup [.bl a, .bl b]) = true := by
  rw [dep, deps, deps, deps, dep_bl, dep_bl]
  rfl
theorem eqv_bb {a b : Bool} : eqv (.tup [.bl a, .bl b]) (.tup [.bl a, .bl b]) = true := by
  rw [eqv, eqvs, eqvs, eqvs, eqv, eqv]
  simp
def Fr (o : Option OV) : Prop := o = none ∨ ∃ v, o = some (.v v)
theorem qmul {n : Nat} (h1 : 1 ≤ n) (h2 : n ≤ 8) (c : Str) (hc : c = "?" ∨ c = "A") {P : Val → Prop} : (∃ z, vMulA (.str c) (.int (n : Int)) = some z ∧ P z) ↔ P (.str (Txt.mul c n)) := by
  rw [ex_mulS]
  have hl : c.length = 1 := by rcases hc with h | h <;> (rw [h]; decide +kernel)
  have hs : sokB (Txt.mul c n) = true := by
    have hn : n = 1 ∨ n = 2 ∨ n = 3 ∨ n = 4 ∨ n = 5 ∨ n = 6 ∨ n = 7 ∨ n = 8 := by omega
    rcases hc with h | h <;> rcases hn with e | e | e | e | e | e | e | e <;> (rw [h, e]; decide +kernel)
  constructor
  · exact fun h => h.2
  · intro p
    refine ⟨⟨by omega, by omega, ?_, hs⟩, p⟩
    rw [hl, Nat.one_mul, Int.toNat_natCast]
    exact Nat.le_trans h2 (by decide)
theorem mul_len {n : Nat} (h1 : 1 ≤ n) (h2 : n ≤ 8) : (Txt.mul "?" n).length ≤ 8 := by
  have hn : n = 1 ∨ n = 2 ∨ n = 3 ∨ n = 4 ∨ n = 5 ∨ n = 6 ∨ n = 7 ∨ n = 8 := by omega
  rcases hn with e | e | e | e | e | e | e | e <;> (rw [e]; decide +kernel)
theorem z_len {l : List Nat} : (⟨l.toArray⟩ : Str).length = l.length := by show l.toArray.size = _; simp
theorem rd_z {l : List Nat} {s : Stt} : s.rd (.val (zV l)) = some (zV l) := rfl
theorem len_zV {l : List Nat} : lLen [zV l] = some (.int l.length) := by rw [← z_len]; rfl
theorem cut_zV {l : List Nat} {a b : Option Int} : vCut (zV l) a b = some (.str (cutS ⟨l.toArray⟩ a b)) := rfl
theorem dbt {l m : List Nat} {hp : List OV} {Q : OV → List OV → Prop} (hl : l.length ≤ 7) (q : Q (.v (dV l m)) hp) : FOk (F_doubt [zV l, zV m] hp) Q := doubt_ok (by rw [z_len]; omega) q
theorem law_k03_true (ns : List Int) (hl : ns.length ≤ 63) : FOk (F_law_k03 [.scr (ns.map Val.int)] []) fun o _ => o = .v (.bl true) := by
  unfold F_law_k03 m_law_k03
  rw [ok_runF]
  refine ok_step (fun _ => True) ?_ ?_
  rotate_left
  · rintro s _
    try simp only [ok_bind, ok_pure, ok_eVar, ok_eC, ok_eCls, ok_op2, ok_op1, ok_opL, ok_opN, ok_tst, ok_tNot, ok_tAnd, ok_tOr, ok_eAnd, ok_eOr, ok_eNot, ok_eIf, ok_chain, ok_aNil, ok_aCons, ok_eTup, ok_eLst, ok_nLst, ok_eFrz, ok_oNone, ok_oSome, ok_opS, ok_callV, ok_callN, ok_eCell, ok_opW, ok_opR, kthen_nx, kthen_brk, kthen_cont, kthen_ret, kthen_rtn, ok_sSeq, ok_sNil, ok_brk, ok_cont, ok_sExpr, ok_sRet, ok_sRtn, ok_sIf, ok_putV, ok_putO, ok_sSet, ok_sOwn, ok_sAsg, ok_gTup, ok_gCons, ok_gNil, ok_gSub, ok_sPar, ok_putVs0, ok_putVs1, ok_iSeq, ok_iRng, turn_nx, turn_brk, turn_cont, turn_ret, turn_rtn, ok_sFor, ok_loop0, ok_loop1, fin_nx, fin_val, fin_sl, fin_rtn, ok_runF, rd_non, rd_bl, rd_int, rd_str, rd_tup, rd_lst, rd_dct, rd_scr, rd_cls, rd_ref, rd_sl, snap_v, snap_l, snap_d, rds_nil, ex_rds, toVals_nil, toVals_cons, ex_argsOf, cur_ref, cur_sl, wr_ref, wr_sl, setV_mk, setO_mk, opdOf_v, opdOf_l, opdOf_d, vAdd_ii, vSub_ii, ex_mul, ex_div, ex_mod, ex_pow, vNeg_i, vLt_ii, vLe_ii, vGt_ii, vGe_ii, ex_eq, ex_ne, vIx_l, vIx_t, vIx_c, lAbs_i, lMin_i, lMax_i, lLen_l, lLen_t, lLen_c, lLen_s, lTup_l, lTup_t, ex_append, ex_setL, seqOf_l, seqOf_t, seqOf_c, ex_rng1, ex_rng2, frzO_v, frzO_l, frzO_d, ty_l, ty_d, ty_s, ex_map, ex_bind, ex_if, ok_nComp, ok_tYes, ok_iZip2, ok_sAug, vAddI_ii, wipe_nil, wipe_cons, Option.some.injEq, exists_eq_left', Opd.val.injEq, Val.bl.injEq, Val.int.injEq, List.getElem?_cons_zero, List.getElem?_cons_succ, List.set_cons_zero, List.set_cons_succ, Option.bind_some, id_eq, decide_eq_true_eq, Bool.not_eq_true', decide_eq_false_iff_not, List.length_cons, List.length_nil, Nat.zero_add, Nat.reduceAdd, true_and, and_true, List.zip_cons_cons, List.zip_nil_left, List.zip_nil_right, startS, List.map_cons, List.map_nil, List.cons_append, List.nil_append, Nat.reduceSub, List.replicate_succ, List.replicate_zero, List.append_nil, ↓reduceIte]
  rw [ok_sFor]
  try simp only [ok_bind, ok_pure, ok_eVar, ok_eC, ok_eCls, ok_op2, ok_op1, ok_opL, ok_opN, ok_tst, ok_tNot, ok_tAnd, ok_tOr, ok_eAnd, ok_eOr, ok_eNot, ok_eIf, ok_chain, ok_aNil, ok_aCons, ok_eTup, ok_eLst, ok_nLst, ok_eFrz, ok_oNone, ok_oSome, ok_opS, ok_callV, ok_callN, ok_eCell, ok_opW, ok_opR, kthen_nx, kthen_brk, kthen_cont, kthen_ret, kthen_rtn, ok_sSeq, ok_sNil, ok_brk, ok_cont, ok_sExpr, ok_sRet, ok_sRtn, ok_sIf, ok_putV, ok_putO, ok_sSet, ok_sOwn, ok_sAsg, ok_gTup, ok_gCons, ok_gNil, ok_gSub, ok_sPar, ok_putVs0, ok_putVs1, ok_iSeq, ok_iRng, turn_nx, turn_brk, turn_cont, turn_ret, turn_rtn, ok_sFor, ok_loop0, ok_loop1, fin_nx, fin_val, fin_sl, fin_rtn, ok_runF, rd_non, rd_bl, rd_int, rd_str, rd_tup, rd_lst, rd_dct, rd_scr, rd_cls, rd_ref, rd_sl, snap_v, snap_l, snap_d, rds_nil, ex_rds, toVals_nil, toVals_cons, ex_argsOf, cur_ref, cur_sl, wr_ref, wr_sl, setV_mk, setO_mk, opdOf_v, opdOf_l, opdOf_d, vAdd_ii, vSub_ii, ex_mul, ex_div, ex_mod, ex_pow, vNeg_i, vLt_ii, vLe_ii, vGt_ii, vGe_ii, ex_eq, ex_ne, vIx_l, vIx_t, vIx_c, lAbs_i, lMin_i, lMax_i, lLen_l, lLen_t, lLen_c, lLen_s, lTup_l, lTup_t, ex_append, ex_setL, seqOf_l, seqOf_t, seqOf_c, ex_rng1, ex_rng2, frzO_v, frzO_l, frzO_d, ty_l, ty_d, ty_s, ex_map, ex_bind, ex_if, ok_nComp, ok_tYes, ok_iZip2, ok_sAug, vAddI_ii, wipe_nil, wipe_cons, Option.some.injEq, exists_eq_left', Opd.val.injEq, Val.bl.injEq, Val.int.injEq, List.getElem?_cons_zero, List.getElem?_cons_succ, List.set_cons_zero, List.set_cons_succ, Option.bind_some, id_eq, decide_eq_true_eq, Bool.not_eq_true', decide_eq_false_iff_not, List.length_cons, List.length_nil, Nat.zero_add, Nat.reduceAdd, true_and, and_true, List.zip_cons_cons, List.zip_nil_left, List.zip_nil_right, startS, List.map_cons, List.map_nil, List.cons_append, List.nil_append, Nat.reduceSub, List.replicate_succ, List.replicate_zero, List.append_nil, ↓reduceIte, List.length_map]
  have hmin : ∃ k : Nat, (1 + (if (30:Int) < ns.length then 30 else (ns.length : Int))) = k ∧ k ≤ 31 := by
    split
    · exact ⟨31, by omega, by omega⟩
    · exact ⟨1 + ns.length, by omega, by omega⟩
  obtain ⟨kk, ek, hk⟩ := hmin
  rw [ek]
  refine ⟨⟨by rw [big_lt]; omega, by rw [big_lt]; omega⟩, ?_⟩
  refine ok_loop (fun xs s => ∃ (o1 o2 o3 o5 o6 o7 o8 o9 oa ob : Option OV) (hp : List OV), s = ⟨[some (.v (.scr (ns.map Val.int))), o1, o2, o3, none, o5, o6, o7, o8, o9, oa, ob], hp⟩ ∧ Fr o6 ∧ ∀ x ∈ xs, ∃ k : Int, x = .int k ∧ 0 ≤ k ∧ k < 31) ?_ ?_ ?_
  · refine ⟨_, _, _, _, _, _, _, _, _, _, _, rfl, .inl rfl, fun x hx => ?_⟩
    obtain ⟨k, rfl, h1, h2⟩ := mem_intsV hx
    exact ⟨k, rfl, h1, by omega⟩
  rotate_left
  · rintro s ⟨o1, o2, o3, o5, o6, o7, o8, o9, oa, ob, hp, rfl, hx⟩
    try simp only [ok_bind, ok_pure, ok_eVar, ok_eC, ok_eCls, ok_op2, ok_op1, ok_opL, ok_opN, ok_tst, ok_tNot, ok_tAnd, ok_tOr, ok_eAnd, ok_eOr, ok_eNot, ok_eIf, ok_chain, ok_aNil, ok_aCons, ok_eTup, ok_eLst, ok_nLst, ok_eFrz, ok_oNone, ok_oSome, ok_opS, ok_callV, ok_callN, ok_eCell, ok_opW, ok_opR, kthen_nx, kthen_brk, kthen_cont, kthen_ret, kthen_rtn, ok_sSeq, ok_sNil, ok_brk, ok_cont, ok_sExpr, ok_sRet, ok_sRtn, ok_sIf, ok_putV, ok_putO, ok_sSet, ok_sOwn, ok_sAsg, ok_gTup, ok_gCons, ok_gNil, ok_gSub, ok_sPar, ok_putVs0, ok_putVs1, ok_iSeq, ok_iRng, turn_nx, turn_brk, turn_cont, turn_ret, turn_rtn, ok_sFor, ok_loop0, ok_loop1, fin_nx, fin_val, fin_sl, fin_rtn, ok_runF, rd_non, rd_bl, rd_int, rd_str, rd_tup, rd_lst, rd_dct, rd_scr, rd_cls, rd_ref, rd_sl, snap_v, snap_l, snap_d, rds_nil, ex_rds, toVals_nil, toVals_cons, ex_argsOf, cur_ref, cur_sl, wr_ref, wr_sl, setV_mk, setO_mk, opdOf_v, opdOf_l, opdOf_d, vAdd_ii, vSub_ii, ex_mul, ex_div, ex_mod, ex_pow, vNeg_i, vLt_ii, vLe_ii, vGt_ii, vGe_ii, ex_eq, ex_ne, vIx_l, vIx_t, vIx_c, lAbs_i, lMin_i, lMax_i, lLen_l, lLen_t, lLen_c, lLen_s, lTup_l, lTup_t, ex_append, ex_setL, seqOf_l, seqOf_t, seqOf_c, ex_rng1, ex_rng2, frzO_v, frzO_l, frzO_d, ty_l, ty_d, ty_s, ex_map, ex_bind, ex_if, ok_nComp, ok_tYes, ok_iZip2, ok_sAug, vAddI_ii, wipe_nil, wipe_cons, Option.some.injEq, exists_eq_left', Opd.val.injEq, Val.bl.injEq, Val.int.injEq, List.getElem?_cons_zero, List.getElem?_cons_succ, List.set_cons_zero, List.set_cons_succ, Option.bind_some, id_eq, decide_eq_true_eq, Bool.not_eq_true', decide_eq_false_iff_not, List.length_cons, List.length_nil, Nat.zero_add, Nat.reduceAdd, true_and, and_true, List.zip_cons_cons, List.zip_nil_left, List.zip_nil_right, startS, List.map_cons, List.map_nil, List.cons_append, List.nil_append, Nat.reduceSub, List.replicate_succ, List.replicate_zero, List.append_nil, ↓reduceIte]
  rintro x xs s ⟨o1, o2, o3, o5, o6, o7, o8, o9, oa, ob, hp, rfl, hf6, hx⟩
  obtain ⟨k, rfl, hk0, hk1⟩ := hx x List.mem_cons_self
  have hx' : ∀ x ∈ xs, ∃ k : Int, x = .int k ∧ 0 ≤ k ∧ k < 31 := fun z hz => hx z (List.mem_cons_of_mem _ hz)
  rw [ok_putV]
  refine ok_step (fun s => ∃ (b : Nat) (hp : List OV), s = ⟨[some (.v (.scr (ns.map Val.int))), some (.v (.int k)), some (.v (.ref b)), o3, none, o5, o6, o7, o8, o9, oa, ob], hp⟩ ∧ Bag b hp) ?_ ?_
  · try simp only [ok_bind, ok_pure, ok_eVar, ok_eC, ok_eCls, ok_op2, ok_op1, ok_opL, ok_opN, ok_tst, ok_tNot, ok_tAnd, ok_tOr, ok_eAnd, ok_eOr, ok_eNot, ok_eIf, ok_chain, ok_aNil, ok_aCons, ok_eTup, ok_eLst, ok_nLst, ok_eFrz, ok_oNone, ok_oSome, ok_opS, ok_callV, ok_callN, ok_eCell, ok_opW, ok_opR, kthen_nx, kthen_brk, kthen_cont, kthen_ret, kthen_rtn, ok_sSeq, ok_sNil, ok_brk, ok_cont, ok_sExpr, ok_sRet, ok_sRtn, ok_sIf, ok_putV, ok_putO, ok_sSet, ok_sOwn, ok_sAsg, ok_gTup, ok_gCons, ok_gNil, ok_gSub, ok_sPar, ok_putVs0, ok_putVs1, ok_iSeq, ok_iRng, turn_nx, turn_brk, turn_cont, turn_ret, turn_rtn, ok_sFor, ok_loop0, ok_loop1, fin_nx, fin_val, fin_sl, fin_rtn, ok_runF, rd_non, rd_bl, rd_int, rd_str, rd_tup, rd_lst, rd_dct, rd_scr, rd_cls, rd_ref, rd_sl, snap_v, snap_l, snap_d, rds_nil, ex_rds, toVals_nil, toVals_cons, ex_argsOf, cur_ref, cur_sl, wr_ref, wr_sl, setV_mk, setO_mk, opdOf_v, opdOf_l, opdOf_d, vAdd_ii, vSub_ii, ex_mul, ex_div, ex_mod, ex_pow, vNeg_i, vLt_ii, vLe_ii, vGt_ii, vGe_ii, ex_eq, ex_ne, vIx_l, vIx_t, vIx_c, lAbs_i, lMin_i, lMax_i, lLen_l, lLen_t, lLen_c, lLen_s, lTup_l, lTup_t, ex_append, ex_setL, seqOf_l, seqOf_t, seqOf_c, ex_rng1, ex_rng2, frzO_v, frzO_l, frzO_d, ty_l, ty_d, ty_s, ex_map, ex_bind, ex_if, ok_nComp, ok_tYes, ok_iZip2, ok_sAug, vAddI_ii, wipe_nil, wipe_cons, Option.some.injEq, exists_eq_left', Opd.val.injEq, Val.bl.injEq, Val.int.injEq, List.getElem?_cons_zero, List.getElem?_cons_succ, List.set_cons_zero, List.set_cons_succ, Option.bind_some, id_eq, decide_eq_true_eq, Bool.not_eq_true', decide_eq_false_iff_not, List.length_cons, List.length_nil, Nat.zero_add, Nat.reduceAdd, true_and, and_true, List.zip_cons_cons, List.zip_nil_left, List.zip_nil_right, startS, List.map_cons, List.map_nil, List.cons_append, List.nil_append, Nat.reduceSub, List.replicate_succ, List.replicate_zero, List.append_nil, ↓reduceIte]
    refine bag_ok hk0 (by omega) fun hp1 hb1 => ?_
    try simp only [ok_bind, ok_pure, ok_eVar, ok_eC, ok_eCls, ok_op2, ok_op1, ok_opL, ok_opN, ok_tst, ok_tNot, ok_tAnd, ok_tOr, ok_eAnd, ok_eOr, ok_eNot, ok_eIf, ok_chain, ok_aNil, ok_aCons, ok_eTup, ok_eLst, ok_nLst, ok_eFrz, ok_oNone, ok_oSome, ok_opS, ok_callV, ok_callN, ok_eCell, ok_opW, ok_opR, kthen_nx, kthen_brk, kthen_cont, kthen_ret, kthen_rtn, ok_sSeq, ok_sNil, ok_brk, ok_cont, ok_sExpr, ok_sRet, ok_sRtn, ok_sIf, ok_putV, ok_putO, ok_sSet, ok_sOwn, ok_sAsg, ok_gTup, ok_gCons, ok_gNil, ok_gSub, ok_sPar, ok_putVs0, ok_putVs1, ok_iSeq, ok_iRng, turn_nx, turn_brk, turn_cont, turn_ret, turn_rtn, ok_sFor, ok_loop0, ok_loop1, fin_nx, fin_val, fin_sl, fin_rtn, ok_runF, rd_non, rd_bl, rd_int, rd_str, rd_tup, rd_lst, rd_dct, rd_scr, rd_cls, rd_ref, rd_sl, snap_v, snap_l, snap_d, rds_nil, ex_rds, toVals_nil, toVals_cons, ex_argsOf, cur_ref, cur_sl, wr_ref, wr_sl, setV_mk, setO_mk, opdOf_v, opdOf_l, opdOf_d, vAdd_ii, vSub_ii, ex_mul, ex_div, ex_mod, ex_pow, vNeg_i, vLt_ii, vLe_ii, vGt_ii, vGe_ii, ex_eq, ex_ne, vIx_l, vIx_t, vIx_c, lAbs_i, lMin_i, lMax_i, lLen_l, lLen_t, lLen_c, lLen_s, lTup_l, lTup_t, ex_append, ex_setL, seqOf_l, seqOf_t, seqOf_c, ex_rng1, ex_rng2, frzO_v, frzO_l, frzO_d, ty_l, ty_d, ty_s, ex_map, ex_bind, ex_if, ok_nComp, ok_tYes, ok_iZip2, ok_sAug, vAddI_ii, wipe_nil, wipe_cons, Option.some.injEq, exists_eq_left', Opd.val.injEq, Val.bl.injEq, Val.int.injEq, List.getElem?_cons_zero, List.getElem?_cons_succ, List.set_cons_zero, List.set_cons_succ, Option.bind_some, id_eq, decide_eq_true_eq, Bool.not_eq_true', decide_eq_false_iff_not, List.length_cons, List.length_nil, Nat.zero_add, Nat.reduceAdd, true_and, and_true, List.zip_cons_cons, List.zip_nil_left, List.zip_nil_right, startS, List.map_cons, List.map_nil, List.cons_append, List.nil_append, Nat.reduceSub, List.replicate_succ, List.replicate_zero, List.append_nil, ↓reduceIte]
    exact ⟨_, _, rfl, hb1⟩
  clear hp
  rintro s ⟨b, hp, rfl, hb⟩
  refine ok_step (fun s => ∃ (rs : List (List Nat)) (hp : List OV), s = ⟨[some (.v (.scr (ns.map Val.int))), some (.v (.int k)), some (.v (.ref b)), some (.v (.lst (rs.map zV))), none, o5, o6, o7, o8, o9, oa, ob], hp⟩ ∧ Bag b hp ∧ (∀ l ∈ rs, GoodZ l) ∧ 1 ≤ rs.length ∧ rs.length ≤ 6) ?_ ?_
  · try simp only [ok_bind, ok_pure, ok_eVar, ok_eC, ok_eCls, ok_op2, ok_op1, ok_opL, ok_opN, ok_tst, ok_tNot, ok_tAnd, ok_tOr, ok_eAnd, ok_eOr, ok_eNot, ok_eIf, ok_chain, ok_aNil, ok_aCons, ok_eTup, ok_eLst, ok_nLst, ok_eFrz, ok_oNone, ok_oSome, ok_opS, ok_callV, ok_callN, ok_eCell, ok_opW, ok_opR, kthen_nx, kthen_brk, kthen_cont, kthen_ret, kthen_rtn, ok_sSeq, ok_sNil, ok_brk, ok_cont, ok_sExpr, ok_sRet, ok_sRtn, ok_sIf, ok_putV, ok_putO, ok_sSet, ok_sOwn, ok_sAsg, ok_gTup, ok_gCons, ok_gNil, ok_gSub, ok_sPar, ok_putVs0, ok_putVs1, ok_iSeq, ok_iRng, turn_nx, turn_brk, turn_cont, turn_ret, turn_rtn, ok_sFor, ok_loop0, ok_loop1, fin_nx, fin_val, fin_sl, fin_rtn, ok_runF, rd_non, rd_bl, rd_int, rd_str, rd_tup, rd_lst, rd_dct, rd_scr, rd_cls, rd_ref, rd_sl, snap_v, snap_l, snap_d, rds_nil, ex_rds, toVals_nil, toVals_cons, ex_argsOf, cur_ref, cur_sl, wr_ref, wr_sl, setV_mk, setO_mk, opdOf_v, opdOf_l, opdOf_d, vAdd_ii, vSub_ii, ex_mul, ex_div, ex_mod, ex_pow, vNeg_i, vLt_ii, vLe_ii, vGt_ii, vGe_ii, ex_eq, ex_ne, vIx_l, vIx_t, vIx_c, lAbs_i, lMin_i, lMax_i, lLen_l, lLen_t, lLen_c, lLen_s, lTup_l, lTup_t, ex_append, ex_setL, seqOf_l, seqOf_t, seqOf_c, ex_rng1, ex_rng2, frzO_v, frzO_l, frzO_d, ty_l, ty_d, ty_s, ex_map, ex_bind, ex_if, ok_nComp, ok_tYes, ok_iZip2, ok_sAug, vAddI_ii, wipe_nil, wipe_cons, Option.some.injEq, exists_eq_left', Opd.val.injEq, Val.bl.injEq, Val.int.injEq, List.getElem?_cons_zero, List.getElem?_cons_succ, List.set_cons_zero, List.set_cons_succ, Option.bind_some, id_eq, decide_eq_true_eq, Bool.not_eq_true', decide_eq_false_iff_not, List.length_cons, List.length_nil, Nat.zero_add, Nat.reduceAdd, true_and, and_true, List.zip_cons_cons, List.zip_nil_left, List.zip_nil_right, startS, List.map_cons, List.map_nil, List.cons_append, List.nil_append, Nat.reduceSub, List.replicate_succ, List.replicate_zero, List.append_nil, ↓reduceIte]
    refine take_ok hb (by decide) (by decide) fun t hp1 t0 t1 hb1 => ?_
    try simp only [ok_bind, ok_pure, ok_eVar, ok_eC, ok_eCls, ok_op2, ok_op1, ok_opL, ok_opN, ok_tst, ok_tNot, ok_tAnd, ok_tOr, ok_eAnd, ok_eOr, ok_eNot, ok_eIf, ok_chain, ok_aNil, ok_aCons, ok_eTup, ok_eLst, ok_nLst, ok_eFrz, ok_oNone, ok_oSome, ok_opS, ok_callV, ok_callN, ok_eCell, ok_opW, ok_opR, kthen_nx, kthen_brk, kthen_cont, kthen_ret, kthen_rtn, ok_sSeq, ok_sNil, ok_brk, ok_cont, ok_sExpr, ok_sRet, ok_sRtn, ok_sIf, ok_putV, ok_putO, ok_sSet, ok_sOwn, ok_sAsg, ok_gTup, ok_gCons, ok_gNil, ok_gSub, ok_sPar, ok_putVs0, ok_putVs1, ok_iSeq, ok_iRng, turn_nx, turn_brk, turn_cont, turn_ret, turn_rtn, ok_sFor, ok_loop0, ok_loop1, fin_nx, fin_val, fin_sl, fin_rtn, ok_runF, rd_non, rd_bl, rd_int, rd_str, rd_tup, rd_lst, rd_dct, rd_scr, rd_cls, rd_ref, rd_sl, snap_v, snap_l, snap_d, rds_nil, ex_rds, toVals_nil, toVals_cons, ex_argsOf, cur_ref, cur_sl, wr_ref, wr_sl, setV_mk, setO_mk, opdOf_v, opdOf_l, opdOf_d, vAdd_ii, vSub_ii, ex_mul, ex_div, ex_mod, ex_pow, vNeg_i, vLt_ii, vLe_ii, vGt_ii, vGe_ii, ex_eq, ex_ne, vIx_l, vIx_t, vIx_c, lAbs_i, lMin_i, lMax_i, lLen_l, lLen_t, lLen_c, lLen_s, lTup_l, lTup_t, ex_append, ex_setL, seqOf_l, seqOf_t, seqOf_c, ex_rng1, ex_rng2, frzO_v, frzO_l, frzO_d, ty_l, ty_d, ty_s, ex_map, ex_bind, ex_if, ok_nComp, ok_tYes, ok_iZip2, ok_sAug, vAddI_ii, wipe_nil, wipe_cons, Option.some.injEq, exists_eq_left', Opd.val.injEq, Val.bl.injEq, Val.int.injEq, List.getElem?_cons_zero, List.getElem?_cons_succ, List.set_cons_zero, List.set_cons_succ, Option.bind_some, id_eq, decide_eq_true_eq, Bool.not_eq_true', decide_eq_false_iff_not, List.length_cons, List.length_nil, Nat.zero_add, Nat.reduceAdd, true_and, and_true, List.zip_cons_cons, List.zip_nil_left, List.zip_nil_right, startS, List.map_cons, List.map_nil, List.cons_append, List.nil_append, Nat.reduceSub, List.replicate_succ, List.replicate_zero, List.append_nil, ↓reduceIte]
    refine ⟨⟨by rw [big_lt]; omega, by rw [big_lt]; omega⟩, rfl, ?_⟩
    refine (ok_lc (fun xs s => ∃ (o4 : Option OV) (hp : List OV), s = ⟨[some (.v (.scr (ns.map Val.int))), some (.v (.int k)), some (.v (.ref b)), o3, o4, o5, o6, o7, o8, o9, oa, ob], hp⟩ ∧ Bag b hp) (fun xs zs => ∃ rs : List (List Nat), zs = rs.map zV ∧ (∀ l ∈ rs, GoodZ l) ∧ rs.length = xs.length) ⟨_, _, rfl, hb1⟩ ⟨[], rfl, by simp, rfl⟩ ?_).mono ?_
    · rintro x r s ⟨o4, hp, rfl, hb⟩
      try simp only [ok_bind, ok_pure, ok_eVar, ok_eC, ok_eCls, ok_op2, ok_op1, ok_opL, ok_opN, ok_tst, ok_tNot, ok_tAnd, ok_tOr, ok_eAnd, ok_eOr, ok_eNot, ok_eIf, ok_chain, ok_aNil, ok_aCons, ok_eTup, ok_eLst, ok_nLst, ok_eFrz, ok_oNone, ok_oSome, ok_opS, ok_callV, ok_callN, ok_eCell, ok_opW, ok_opR, kthen_nx, kthen_brk, kthen_cont, kthen_ret, kthen_rtn, ok_sSeq, ok_sNil, ok_brk, ok_cont, ok_sExpr, ok_sRet, ok_sRtn, ok_sIf, ok_putV, ok_putO, ok_sSet, ok_sOwn, ok_sAsg, ok_gTup, ok_gCons, ok_gNil, ok_gSub, ok_sPar, ok_putVs0, ok_putVs1, ok_iSeq, ok_iRng, turn_nx, turn_brk, turn_cont, turn_ret, turn_rtn, ok_sFor, ok_loop0, ok_loop1, fin_nx, fin_val, fin_sl, fin_rtn, ok_runF, rd_non, rd_bl, rd_int, rd_str, rd_tup, rd_lst, rd_dct, rd_scr, rd_cls, rd_ref, rd_sl, snap_v, snap_l, snap_d, rds_nil, ex_rds, toVals_nil, toVals_cons, ex_argsOf, cur_ref, cur_sl, wr_ref, wr_sl, setV_mk, setO_mk, opdOf_v, opdOf_l, opdOf_d, vAdd_ii, vSub_ii, ex_mul, ex_div, ex_mod, ex_pow, vNeg_i, vLt_ii, vLe_ii, vGt_ii, vGe_ii, ex_eq, ex_ne, vIx_l, vIx_t, vIx_c, lAbs_i, lMin_i, lMax_i, lLen_l, lLen_t, lLen_c, lLen_s, lTup_l, lTup_t, ex_append, ex_setL, seqOf_l, seqOf_t, seqOf_c, ex_rng1, ex_rng2, frzO_v, frzO_l, frzO_d, ty_l, ty_d, ty_s, ex_map, ex_bind, ex_if, ok_nComp, ok_tYes, ok_iZip2, ok_sAug, vAddI_ii, wipe_nil, wipe_cons, Option.some.injEq, exists_eq_left', Opd.val.injEq, Val.bl.injEq, Val.int.injEq, List.getElem?_cons_zero, List.getElem?_cons_succ, List.set_cons_zero, List.set_cons_succ, Option.bind_some, id_eq, decide_eq_true_eq, Bool.not_eq_true', decide_eq_false_iff_not, List.length_cons, List.length_nil, Nat.zero_add, Nat.reduceAdd, true_and, and_true, List.zip_cons_cons, List.zip_nil_left, List.zip_nil_right, startS, List.map_cons, List.map_nil, List.cons_append, List.nil_append, Nat.reduceSub, List.replicate_succ, List.replicate_zero, List.append_nil, ↓reduceIte]
      refine reading_ok hb fun l hp' gl hb' => ?_
      try simp only [ok_bind, ok_pure, ok_eVar, ok_eC, ok_eCls, ok_op2, ok_op1, ok_opL, ok_opN, ok_tst, ok_tNot, ok_tAnd, ok_tOr, ok_eAnd, ok_eOr, ok_eNot, ok_eIf, ok_chain, ok_aNil, ok_aCons, ok_eTup, ok_eLst, ok_nLst, ok_eFrz, ok_oNone, ok_oSome, ok_opS, ok_callV, ok_callN, ok_eCell, ok_opW, ok_opR, kthen_nx, kthen_brk, kthen_cont, kthen_ret, kthen_rtn, ok_sSeq, ok_sNil, ok_brk, ok_cont, ok_sExpr, ok_sRet, ok_sRtn, ok_sIf, ok_putV, ok_putO, ok_sSet, ok_sOwn, ok_sAsg, ok_gTup, ok_gCons, ok_gNil, ok_gSub, ok_sPar, ok_putVs0, ok_putVs1, ok_iSeq, ok_iRng, turn_nx, turn_brk, turn_cont, turn_ret, turn_rtn, ok_sFor, ok_loop0, ok_loop1, fin_nx, fin_val, fin_sl, fin_rtn, ok_runF, rd_non, rd_bl, rd_int, rd_str, rd_tup, rd_lst, rd_dct, rd_scr, rd_cls, rd_ref, rd_sl, snap_v, snap_l, snap_d, rds_nil, ex_rds, toVals_nil, toVals_cons, ex_argsOf, cur_ref, cur_sl, wr_ref, wr_sl, setV_mk, setO_mk, opdOf_v, opdOf_l, opdOf_d, vAdd_ii, vSub_ii, ex_mul, ex_div, ex_mod, ex_pow, vNeg_i, vLt_ii, vLe_ii, vGt_ii, vGe_ii, ex_eq, ex_ne, vIx_l, vIx_t, vIx_c, lAbs_i, lMin_i, lMax_i, lLen_l, lLen_t, lLen_c, lLen_s, lTup_l, lTup_t, ex_append, ex_setL, seqOf_l, seqOf_t, seqOf_c, ex_rng1, ex_rng2, frzO_v, frzO_l, frzO_d, ty_l, ty_d, ty_s, ex_map, ex_bind, ex_if, ok_nComp, ok_tYes, ok_iZip2, ok_sAug, vAddI_ii, wipe_nil, wipe_cons, Option.some.injEq, exists_eq_left', Opd.val.injEq, Val.bl.injEq, Val.int.injEq, List.getElem?_cons_zero, List.getElem?_cons_succ, List.set_cons_zero, List.set_cons_succ, Option.bind_some, id_eq, decide_eq_true_eq, Bool.not_eq_true', decide_eq_false_iff_not, List.length_cons, List.length_nil, Nat.zero_add, Nat.reduceAdd, true_and, and_true, List.zip_cons_cons, List.zip_nil_left, List.zip_nil_right, startS, List.map_cons, List.map_nil, List.cons_append, List.nil_append, Nat.reduceSub, List.replicate_succ, List.replicate_zero, List.append_nil, ↓reduceIte]
      refine ⟨⟨_, _, rfl, hb'⟩, ?_⟩
      rintro zs ⟨rs, rfl, h1, h2⟩
      exact ⟨l :: rs, rfl, by intro m hm; rcases List.mem_cons.mp hm with e | hm; (· rw [e]; exact gl); exact h1 m hm, by simp [h2]⟩
    · rintro zs s ⟨⟨rs, rfl, h1, h2⟩, o4, hp, rfl, hb⟩
      rw [intsV_len] at h2
      refine ⟨rfl, by rw [List.length_map]; exact Nat.le_trans (show _ ≤ 100 by omega) (by decide), rs, _, rfl, hb, h1, by omega, by omega⟩
  clear hb hp
  rintro s ⟨rs, hp, rfl, hb, hg, hr1, hr2⟩
  refine ok_step (fun s => ∃ (o5 o6 o7 o8 : Option OV), s = ⟨[some (.v (.scr (ns.map Val.int))), some (.v (.int k)), some (.v (.ref b)), some (.v (.lst (rs.map zV))), none, o5, o6, o7, o8, o9, oa, ob], hp⟩ ∧ Fr o6) ?_ ?_
  · rw [ok_sFor]
    try simp only [ok_bind, ok_pure, ok_eVar, ok_eC, ok_eCls, ok_op2, ok_op1, ok_opL, ok_opN, ok_tst, ok_tNot, ok_tAnd, ok_tOr, ok_eAnd, ok_eOr, ok_eNot, ok_eIf, ok_chain, ok_aNil, ok_aCons, ok_eTup, ok_eLst, ok_nLst, ok_eFrz, ok_oNone, ok_oSome, ok_opS, ok_callV, ok_callN, ok_eCell, ok_opW, ok_opR, kthen_nx, kthen_brk, kthen_cont, kthen_ret, kthen_rtn, ok_sSeq, ok_sNil, ok_brk, ok_cont, ok_sExpr, ok_sRet, ok_sRtn, ok_sIf, ok_putV, ok_putO, ok_sSet, ok_sOwn, ok_sAsg, ok_gTup, ok_gCons, ok_gNil, ok_gSub, ok_sPar, ok_putVs0, ok_putVs1, ok_iSeq, ok_iRng, turn_nx, turn_brk, turn_cont, turn_ret, turn_rtn, ok_sFor, ok_loop0, ok_loop1, fin_nx, fin_val, fin_sl, fin_rtn, ok_runF, rd_non, rd_bl, rd_int, rd_str, rd_tup, rd_lst, rd_dct, rd_scr, rd_cls, rd_ref, rd_sl, snap_v, snap_l, snap_d, rds_nil, ex_rds, toVals_nil, toVals_cons, ex_argsOf, cur_ref, cur_sl, wr_ref, wr_sl, setV_mk, setO_mk, opdOf_v, opdOf_l, opdOf_d, vAdd_ii, vSub_ii, ex_mul, ex_div, ex_mod, ex_pow, vNeg_i, vLt_ii, vLe_ii, vGt_ii, vGe_ii, ex_eq, ex_ne, vIx_l, vIx_t, vIx_c, lAbs_i, lMin_i, lMax_i, lLen_l, lLen_t, lLen_c, lLen_s, lTup_l, lTup_t, ex_append, ex_setL, seqOf_l, seqOf_t, seqOf_c, ex_rng1, ex_rng2, frzO_v, frzO_l, frzO_d, ty_l, ty_d, ty_s, ex_map, ex_bind, ex_if, ok_nComp, ok_tYes, ok_iZip2, ok_sAug, vAddI_ii, wipe_nil, wipe_cons, Option.some.injEq, exists_eq_left', Opd.val.injEq, Val.bl.injEq, Val.int.injEq, List.getElem?_cons_zero, List.getElem?_cons_succ, List.set_cons_zero, List.set_cons_succ, Option.bind_some, id_eq, decide_eq_true_eq, Bool.not_eq_true', decide_eq_false_iff_not, List.length_cons, List.length_nil, Nat.zero_add, Nat.reduceAdd, true_and, and_true, List.zip_cons_cons, List.zip_nil_left, List.zip_nil_right, startS, List.map_cons, List.map_nil, List.cons_append, List.nil_append, Nat.reduceSub, List.replicate_succ, List.replicate_zero, List.append_nil, ↓reduceIte]
    refine ok_loop (fun xs s => ∃ (ls : List (List Nat)) (o5 o6 o7 o8 : Option OV), xs = ls.map zV ∧ (∀ l ∈ ls, l ∈ rs) ∧ s = ⟨[some (.v (.scr (ns.map Val.int))), some (.v (.int k)), some (.v (.ref b)), some (.v (.lst (rs.map zV))), none, o5, o6, o7, o8, o9, oa, ob], hp⟩ ∧ Fr o6) ?_ ?_ ?_
    · exact ⟨rs, _, _, _, _, rfl, fun _ h => h, rfl, hf6⟩
    · clear hf6 o5 o6 o7 o8
      rintro x xs s ⟨ls, o5, o6, o7, o8, e1, hls, rfl, hf6⟩
      cases ls with
      | nil => simp at e1
      | cons l ls =>
        rw [List.map_cons, List.cons.injEq] at e1
        obtain ⟨rfl, rfl⟩ := e1
        have hlr := hls l List.mem_cons_self
        have gl := hg l hlr
        have l1 := gl.lo
        have l7 := gl.hi
        have hls' : ∀ l ∈ ls, l ∈ rs := fun m hm => hls m (List.mem_cons_of_mem _ hm)
        rw [ok_putV]
        refine ok_step (fun s => ∃ (o6 o7 : Option OV), s = ⟨[some (.v (.scr (ns.map Val.int))), some (.v (.int k)), some (.v (.ref b)), some (.v (.lst (rs.map zV))), none, some (.v (zV l)), o6, o7, o8, o9, oa, ob], hp⟩ ∧ Fr o6) ?_ ?_
        · rw [ok_sFor]
          have c1 : (cutS ⟨l.toArray⟩ (some 1) none).length ≤ 7 := cut_len (by rw [z_len]; exact l7)
          have c2 : (cutS ⟨l.toArray⟩ none (some 1)).length ≤ 7 := cut_len (by rw [z_len]; exact l7)
          have hlim : 100 ≤ lim := by decide
          try simp only [ok_bind, ok_pure, ok_eVar, ok_eC, ok_eCls, ok_op2, ok_op1, ok_opL, ok_opN, ok_tst, ok_tNot, ok_tAnd, ok_tOr, ok_eAnd, ok_eOr, ok_eNot, ok_eIf, ok_chain, ok_aNil, ok_aCons, ok_eTup, ok_eLst, ok_nLst, ok_eFrz, ok_oNone, ok_oSome, ok_opS, ok_callV, ok_callN, ok_eCell, ok_opW, ok_opR, kthen_nx, kthen_brk, kthen_cont, kthen_ret, kthen_rtn, ok_sSeq, ok_sNil, ok_brk, ok_cont, ok_sExpr, ok_sRet, ok_sRtn, ok_sIf, ok_putV, ok_putO, ok_sSet, ok_sOwn, ok_sAsg, ok_gTup, ok_gCons, ok_gNil, ok_gSub, ok_sPar, ok_putVs0, ok_putVs1, ok_iSeq, ok_iRng, turn_nx, turn_brk, turn_cont, turn_ret, turn_rtn, ok_sFor, ok_loop0, ok_loop1, fin_nx, fin_val, fin_sl, fin_rtn, ok_runF, rd_non, rd_bl, rd_int, rd_str, rd_tup, rd_lst, rd_dct, rd_scr, rd_cls, rd_ref, rd_sl, snap_v, snap_l, snap_d, rds_nil, ex_rds, toVals_nil, toVals_cons, ex_argsOf, cur_ref, cur_sl, wr_ref, wr_sl, setV_mk, setO_mk, opdOf_v, opdOf_l, opdOf_d, vAdd_ii, vSub_ii, ex_mul, ex_div, ex_mod, ex_pow, vNeg_i, vLt_ii, vLe_ii, vGt_ii, vGe_ii, ex_eq, ex_ne, vIx_l, vIx_t, vIx_c, lAbs_i, lMin_i, lMax_i, lLen_l, lLen_t, lLen_c, lLen_s, lTup_l, lTup_t, ex_append, ex_setL, seqOf_l, seqOf_t, seqOf_c, ex_rng1, ex_rng2, frzO_v, frzO_l, frzO_d, ty_l, ty_d, ty_s, ex_map, ex_bind, ex_if, ok_nComp, ok_tYes, ok_iZip2, ok_sAug, vAddI_ii, wipe_nil, wipe_cons, Option.some.injEq, exists_eq_left', Opd.val.injEq, Val.bl.injEq, Val.int.injEq, List.getElem?_cons_zero, List.getElem?_cons_succ, List.set_cons_zero, List.set_cons_succ, Option.bind_some, id_eq, decide_eq_true_eq, Bool.not_eq_true', decide_eq_false_iff_not, List.length_cons, List.length_nil, Nat.zero_add, Nat.reduceAdd, true_and, and_true, List.zip_cons_cons, List.zip_nil_left, List.zip_nil_right, startS, List.map_cons, List.map_nil, List.cons_append, List.nil_append, Nat.reduceSub, List.replicate_succ, List.replicate_zero, List.append_nil, ↓reduceIte, rd_z, len_zV, qmul l1 (by omega) "?" (.inl rfl), cut_zV, vAdd_ss, vAdd_ll, List.length_map]
          refine ⟨by omega, by decide, by omega, ?_⟩
          refine ok_loop (fun xs s => ∃ (ws : List Str) (o6 o7 : Option OV), xs = ws.map Val.str ∧ (∀ w ∈ ws, w.length ≤ 100) ∧ s = ⟨[some (.v (.scr (ns.map Val.int))), some (.v (.int k)), some (.v (.ref b)), some (.v (.lst (rs.map zV))), none, some (.v (zV l)), o6, o7, o8, o9, oa, ob], hp⟩ ∧ Fr o6) ?_ ?_ ?_
          · refine ⟨rs.map (fun l => (⟨l.toArray⟩ : Str)) ++ [Txt.mul "?" l.length, cutS ⟨l.toArray⟩ (some 1) none ++ cutS ⟨l.toArray⟩ none (some 1)], _, _, ?_, ?_, rfl, hf6⟩
            · rw [List.map_append, List.map_map]
              rfl
            · intro w hw
              rcases List.mem_append.mp hw with hw | hw
              · obtain ⟨m, hm, rfl⟩ := List.mem_map.mp hw
                rw [z_len]
                have := (hg m hm).hi
                omega
              · simp only [List.mem_cons, List.not_mem_nil, or_false] at hw
                rcases hw with rfl | rfl
                · have := mul_len l1 (by omega : l.length ≤ 8); omega
                · rw [len_app]; omega
          · clear hf6 o6 o7
            rintro x xs s ⟨ws, o6, o7, e1, hws, rfl, hf6⟩
            cases ws with
            | nil => simp at e1
            | cons w ws =>
              rw [List.map_cons, List.cons.injEq] at e1
              obtain ⟨rfl, rfl⟩ := e1
              have hw := hws w List.mem_cons_self
              have hws' : ∀ w ∈ ws, w.length ≤ 100 := fun v hv => hws v (List.mem_cons_of_mem _ hv)
              rw [ok_putV]
              refine ok_step (fun s => s = ⟨[some (.v (.scr (ns.map Val.int))), some (.v (.int k)), some (.v (.ref b)), some (.v (.lst (rs.map zV))), none, some (.v (zV l)), some (.v (.str w)), some (.v (dV l w.cps.toList)), o8, o9, oa, ob], hp⟩) ?_ ?_
              · try simp only [ok_bind, ok_pure, ok_eVar, ok_eC, ok_eCls, ok_op2, ok_op1, ok_opL, ok_opN, ok_tst, ok_tNot, ok_tAnd, ok_tOr, ok_eAnd, ok_eOr, ok_eNot, ok_eIf, ok_chain, ok_aNil, ok_aCons, ok_eTup, ok_eLst, ok_nLst, ok_eFrz, ok_oNone, ok_oSome, ok_opS, ok_callV, ok_callN, ok_eCell, ok_opW, ok_opR, kthen_nx, kthen_brk, kthen_cont, kthen_ret, kthen_rtn, ok_sSeq, ok_sNil, ok_brk, ok_cont, ok_sExpr, ok_sRet, ok_sRtn, ok_sIf, ok_putV, ok_putO, ok_sSet, ok_sOwn, ok_sAsg, ok_gTup, ok_gCons, ok_gNil, ok_gSub, ok_sPar, ok_putVs0, ok_putVs1, ok_iSeq, ok_iRng, turn_nx, turn_brk, turn_cont, turn_ret, turn_rtn, ok_sFor, ok_loop0, ok_loop1, fin_nx, fin_val, fin_sl, fin_rtn, ok_runF, rd_non, rd_bl, rd_int, rd_str, rd_tup, rd_lst, rd_dct, rd_scr, rd_cls, rd_ref, rd_sl, snap_v, snap_l, snap_d, rds_nil, ex_rds, toVals_nil, toVals_cons, ex_argsOf, cur_ref, cur_sl, wr_ref, wr_sl, setV_mk, setO_mk, opdOf_v, opdOf_l, opdOf_d, vAdd_ii, vSub_ii, ex_mul, ex_div, ex_mod, ex_pow, vNeg_i, vLt_ii, vLe_ii, vGt_ii, vGe_ii, ex_eq, ex_ne, vIx_l, vIx_t, vIx_c, lAbs_i, lMin_i, lMax_i, lLen_l, lLen_t, lLen_c, lLen_s, lTup_l, lTup_t, ex_append, ex_setL, seqOf_l, seqOf_t, seqOf_c, ex_rng1, ex_rng2, frzO_v, frzO_l, frzO_d, ty_l, ty_d, ty_s, ex_map, ex_bind, ex_if, ok_nComp, ok_tYes, ok_iZip2, ok_sAug, vAddI_ii, wipe_nil, wipe_cons, Option.some.injEq, exists_eq_left', Opd.val.injEq, Val.bl.injEq, Val.int.injEq, List.getElem?_cons_zero, List.getElem?_cons_succ, List.set_cons_zero, List.set_cons_succ, Option.bind_some, id_eq, decide_eq_true_eq, Bool.not_eq_true', decide_eq_false_iff_not, List.length_cons, List.length_nil, Nat.zero_add, Nat.reduceAdd, true_and, and_true, List.zip_cons_cons, List.zip_nil_left, List.zip_nil_right, startS, List.map_cons, List.map_nil, List.cons_append, List.nil_append, Nat.reduceSub, List.replicate_succ, List.replicate_zero, List.append_nil, ↓reduceIte]
                refine doubt_ok (by rw [z_len]; omega) ?_
                try simp only [ok_bind, ok_pure, ok_eVar, ok_eC, ok_eCls, ok_op2, ok_op1, ok_opL, ok_opN, ok_tst, ok_tNot, ok_tAnd, ok_tOr, ok_eAnd, ok_eOr, ok_eNot, ok_eIf, ok_chain, ok_aNil, ok_aCons, ok_eTup, ok_eLst, ok_nLst, ok_eFrz, ok_oNone, ok_oSome, ok_opS, ok_callV, ok_callN, ok_eCell, ok_opW, ok_opR, kthen_nx, kthen_brk, kthen_cont, kthen_ret, kthen_rtn, ok_sSeq, ok_sNil, ok_brk, ok_cont, ok_sExpr, ok_sRet, ok_sRtn, ok_sIf, ok_putV, ok_putO, ok_sSet, ok_sOwn, ok_sAsg, ok_gTup, ok_gCons, ok_gNil, ok_gSub, ok_sPar, ok_putVs0, ok_putVs1, ok_iSeq, ok_iRng, turn_nx, turn_brk, turn_cont, turn_ret, turn_rtn, ok_sFor, ok_loop0, ok_loop1, fin_nx, fin_val, fin_sl, fin_rtn, ok_runF, rd_non, rd_bl, rd_int, rd_str, rd_tup, rd_lst, rd_dct, rd_scr, rd_cls, rd_ref, rd_sl, snap_v, snap_l, snap_d, rds_nil, ex_rds, toVals_nil, toVals_cons, ex_argsOf, cur_ref, cur_sl, wr_ref, wr_sl, setV_mk, setO_mk, opdOf_v, opdOf_l, opdOf_d, vAdd_ii, vSub_ii, ex_mul, ex_div, ex_mod, ex_pow, vNeg_i, vLt_ii, vLe_ii, vGt_ii, vGe_ii, ex_eq, ex_ne, vIx_l, vIx_t, vIx_c, lAbs_i, lMin_i, lMax_i, lLen_l, lLen_t, lLen_c, lLen_s, lTup_l, lTup_t, ex_append, ex_setL, seqOf_l, seqOf_t, seqOf_c, ex_rng1, ex_rng2, frzO_v, frzO_l, frzO_d, ty_l, ty_d, ty_s, ex_map, ex_bind, ex_if, ok_nComp, ok_tYes, ok_iZip2, ok_sAug, vAddI_ii, wipe_nil, wipe_cons, Option.some.injEq, exists_eq_left', Opd.val.injEq, Val.bl.injEq, Val.int.injEq, List.getElem?_cons_zero, List.getElem?_cons_succ, List.set_cons_zero, List.set_cons_succ, Option.bind_some, id_eq, decide_eq_true_eq, Bool.not_eq_true', decide_eq_false_iff_not, List.length_cons, List.length_nil, Nat.zero_add, Nat.reduceAdd, true_and, and_true, List.zip_cons_cons, List.zip_nil_left, List.zip_nil_right, startS, List.map_cons, List.map_nil, List.cons_append, List.nil_append, Nat.reduceSub, List.replicate_succ, List.replicate_zero, List.append_nil, ↓reduceIte]
              rintro s rfl
              try simp only [ok_bind, ok_pure, ok_eVar, ok_eC, ok_eCls, ok_op2, ok_op1, ok_opL, ok_opN, ok_tst, ok_tNot, ok_tAnd, ok_tOr, ok_eAnd, ok_eOr, ok_eNot, ok_eIf, ok_chain, ok_aNil, ok_aCons, ok_eTup, ok_eLst, ok_nLst, ok_eFrz, ok_oNone, ok_oSome, ok_opS, ok_callV, ok_callN, ok_eCell, ok_opW, ok_opR, kthen_nx, kthen_brk, kthen_cont, kthen_ret, kthen_rtn, ok_sSeq, ok_sNil, ok_brk, ok_cont, ok_sExpr, ok_sRet, ok_sRtn, ok_sIf, ok_putV, ok_putO, ok_sSet, ok_sOwn, ok_sAsg, ok_gTup, ok_gCons, ok_gNil, ok_gSub, ok_sPar, ok_putVs0, ok_putVs1, ok_iSeq, ok_iRng, turn_nx, turn_brk, turn_cont, turn_ret, turn_rtn, ok_sFor, ok_loop0, ok_loop1, fin_nx, fin_val, fin_sl, fin_rtn, ok_runF, rd_non, rd_bl, rd_int, rd_str, rd_tup, rd_lst, rd_dct, rd_scr, rd_cls, rd_ref, rd_sl, snap_v, snap_l, snap_d, rds_nil, ex_rds, toVals_nil, toVals_cons, ex_argsOf, cur_ref, cur_sl, wr_ref, wr_sl, setV_mk, setO_mk, opdOf_v, opdOf_l, opdOf_d, vAdd_ii, vSub_ii, ex_mul, ex_div, ex_mod, ex_pow, vNeg_i, vLt_ii, vLe_ii, vGt_ii, vGe_ii, ex_eq, ex_ne, vIx_l, vIx_t, vIx_c, lAbs_i, lMin_i, lMax_i, lLen_l, lLen_t, lLen_c, lLen_s, lTup_l, lTup_t, ex_append, ex_setL, seqOf_l, seqOf_t, seqOf_c, ex_rng1, ex_rng2, frzO_v, frzO_l, frzO_d, ty_l, ty_d, ty_s, ex_map, ex_bind, ex_if, ok_nComp, ok_tYes, ok_iZip2, ok_sAug, vAddI_ii, wipe_nil, wipe_cons, Option.some.injEq, exists_eq_left', Opd.val.injEq, Val.bl.injEq, Val.int.injEq, List.getElem?_cons_zero, List.getElem?_cons_succ, List.set_cons_zero, List.set_cons_succ, Option.bind_some, id_eq, decide_eq_true_eq, Bool.not_eq_true', decide_eq_false_iff_not, List.length_cons, List.length_nil, Nat.zero_add, Nat.reduceAdd, true_and, and_true, List.zip_cons_cons, List.zip_nil_left, List.zip_nil_right, startS, List.map_cons, List.map_nil, List.cons_append, List.nil_append, Nat.reduceSub, List.replicate_succ, List.replicate_zero, List.append_nil, ↓reduceIte, rd_dV]
              refine law_doubt_ok (by rw [z_len]; omega) ?_
              try simp only [ok_bind, ok_pure, ok_eVar, ok_eC, ok_eCls, ok_op2, ok_op1, ok_opL, ok_opN, ok_tst, ok_tNot, ok_tAnd, ok_tOr, ok_eAnd, ok_eOr, ok_eNot, ok_eIf, ok_chain, ok_aNil, ok_aCons, ok_eTup, ok_eLst, ok_nLst, ok_eFrz, ok_oNone, ok_oSome, ok_opS, ok_callV, ok_callN, ok_eCell, ok_opW, ok_opR, kthen_nx, kthen_brk, kthen_cont, kthen_ret, kthen_rtn, ok_sSeq, ok_sNil, ok_brk, ok_cont, ok_sExpr, ok_sRet, ok_sRtn, ok_sIf, ok_putV, ok_putO, ok_sSet, ok_sOwn, ok_sAsg, ok_gTup, ok_gCons, ok_gNil, ok_gSub, ok_sPar, ok_putVs0, ok_putVs1, ok_iSeq, ok_iRng, turn_nx, turn_brk, turn_cont, turn_ret, turn_rtn, ok_sFor, ok_loop0, ok_loop1, fin_nx, fin_val, fin_sl, fin_rtn, ok_runF, rd_non, rd_bl, rd_int, rd_str, rd_tup, rd_lst, rd_dct, rd_scr, rd_cls, rd_ref, rd_sl, snap_v, snap_l, snap_d, rds_nil, ex_rds, toVals_nil, toVals_cons, ex_argsOf, cur_ref, cur_sl, wr_ref, wr_sl, setV_mk, setO_mk, opdOf_v, opdOf_l, opdOf_d, vAdd_ii, vSub_ii, ex_mul, ex_div, ex_mod, ex_pow, vNeg_i, vLt_ii, vLe_ii, vGt_ii, vGe_ii, ex_eq, ex_ne, vIx_l, vIx_t, vIx_c, lAbs_i, lMin_i, lMax_i, lLen_l, lLen_t, lLen_c, lLen_s, lTup_l, lTup_t, ex_append, ex_setL, seqOf_l, seqOf_t, seqOf_c, ex_rng1, ex_rng2, frzO_v, frzO_l, frzO_d, ty_l, ty_d, ty_s, ex_map, ex_bind, ex_if, ok_nComp, ok_tYes, ok_iZip2, ok_sAug, vAddI_ii, wipe_nil, wipe_cons, Option.some.injEq, exists_eq_left', Opd.val.injEq, Val.bl.injEq, Val.int.injEq, List.getElem?_cons_zero, List.getElem?_cons_succ, List.set_cons_zero, List.set_cons_succ, Option.bind_some, id_eq, decide_eq_true_eq, Bool.not_eq_true', decide_eq_false_iff_not, List.length_cons, List.length_nil, Nat.zero_add, Nat.reduceAdd, true_and, and_true, List.zip_cons_cons, List.zip_nil_left, List.zip_nil_right, startS, List.map_cons, List.map_nil, List.cons_append, List.nil_append, Nat.reduceSub, List.replicate_succ, List.replicate_zero, List.append_nil, ↓reduceIte, rd_dV, dep_dV, eqv_dV]
              refine ⟨rfl, ?_⟩
              rw [if_neg (by decide)]
              refine doubt_ok (by omega) ?_
              try simp only [ok_bind, ok_pure, ok_eVar, ok_eC, ok_eCls, ok_op2, ok_op1, ok_opL, ok_opN, ok_tst, ok_tNot, ok_tAnd, ok_tOr, ok_eAnd, ok_eOr, ok_eNot, ok_eIf, ok_chain, ok_aNil, ok_aCons, ok_eTup, ok_eLst, ok_nLst, ok_eFrz, ok_oNone, ok_oSome, ok_opS, ok_callV, ok_callN, ok_eCell, ok_opW, ok_opR, kthen_nx, kthen_brk, kthen_cont, kthen_ret, kthen_rtn, ok_sSeq, ok_sNil, ok_brk, ok_cont, ok_sExpr, ok_sRet, ok_sRtn, ok_sIf, ok_putV, ok_putO, ok_sSet, ok_sOwn, ok_sAsg, ok_gTup, ok_gCons, ok_gNil, ok_gSub, ok_sPar, ok_putVs0, ok_putVs1, ok_iSeq, ok_iRng, turn_nx, turn_brk, turn_cont, turn_ret, turn_rtn, ok_sFor, ok_loop0, ok_loop1, fin_nx, fin_val, fin_sl, fin_rtn, ok_runF, rd_non, rd_bl, rd_int, rd_str, rd_tup, rd_lst, rd_dct, rd_scr, rd_cls, rd_ref, rd_sl, snap_v, snap_l, snap_d, rds_nil, ex_rds, toVals_nil, toVals_cons, ex_argsOf, cur_ref, cur_sl, wr_ref, wr_sl, setV_mk, setO_mk, opdOf_v, opdOf_l, opdOf_d, vAdd_ii, vSub_ii, ex_mul, ex_div, ex_mod, ex_pow, vNeg_i, vLt_ii, vLe_ii, vGt_ii, vGe_ii, ex_eq, ex_ne, vIx_l, vIx_t, vIx_c, lAbs_i, lMin_i, lMax_i, lLen_l, lLen_t, lLen_c, lLen_s, lTup_l, lTup_t, ex_append, ex_setL, seqOf_l, seqOf_t, seqOf_c, ex_rng1, ex_rng2, frzO_v, frzO_l, frzO_d, ty_l, ty_d, ty_s, ex_map, ex_bind, ex_if, ok_nComp, ok_tYes, ok_iZip2, ok_sAug, vAddI_ii, wipe_nil, wipe_cons, Option.some.injEq, exists_eq_left', Opd.val.injEq, Val.bl.injEq, Val.int.injEq, List.getElem?_cons_zero, List.getElem?_cons_succ, List.set_cons_zero, List.set_cons_succ, Option.bind_some, id_eq, decide_eq_true_eq, Bool.not_eq_true', decide_eq_false_iff_not, List.length_cons, List.length_nil, Nat.zero_add, Nat.reduceAdd, true_and, and_true, List.zip_cons_cons, List.zip_nil_left, List.zip_nil_right, startS, List.map_cons, List.map_nil, List.cons_append, List.nil_append, Nat.reduceSub, List.replicate_succ, List.replicate_zero, List.append_nil, ↓reduceIte, rd_dV]
              rw [dV_comm w.cps.toList]
              try simp only [ok_bind, ok_pure, ok_eVar, ok_eC, ok_eCls, ok_op2, ok_op1, ok_opL, ok_opN, ok_tst, ok_tNot, ok_tAnd, ok_tOr, ok_eAnd, ok_eOr, ok_eNot, ok_eIf, ok_chain, ok_aNil, ok_aCons, ok_eTup, ok_eLst, ok_nLst, ok_eFrz, ok_oNone, ok_oSome, ok_opS, ok_callV, ok_callN, ok_eCell, ok_opW, ok_opR, kthen_nx, kthen_brk, kthen_cont, kthen_ret, kthen_rtn, ok_sSeq, ok_sNil, ok_brk, ok_cont, ok_sExpr, ok_sRet, ok_sRtn, ok_sIf, ok_putV, ok_putO, ok_sSet, ok_sOwn, ok_sAsg, ok_gTup, ok_gCons, ok_gNil, ok_gSub, ok_sPar, ok_putVs0, ok_putVs1, ok_iSeq, ok_iRng, turn_nx, turn_brk, turn_cont, turn_ret, turn_rtn, ok_sFor, ok_loop0, ok_loop1, fin_nx, fin_val, fin_sl, fin_rtn, ok_runF, rd_non, rd_bl, rd_int, rd_str, rd_tup, rd_lst, rd_dct, rd_scr, rd_cls, rd_ref, rd_sl, snap_v, snap_l, snap_d, rds_nil, ex_rds, toVals_nil, toVals_cons, ex_argsOf, cur_ref, cur_sl, wr_ref, wr_sl, setV_mk, setO_mk, opdOf_v, opdOf_l, opdOf_d, vAdd_ii, vSub_ii, ex_mul, ex_div, ex_mod, ex_pow, vNeg_i, vLt_ii, vLe_ii, vGt_ii, vGe_ii, ex_eq, ex_ne, vIx_l, vIx_t, vIx_c, lAbs_i, lMin_i, lMax_i, lLen_l, lLen_t, lLen_c, lLen_s, lTup_l, lTup_t, ex_append, ex_setL, seqOf_l, seqOf_t, seqOf_c, ex_rng1, ex_rng2, frzO_v, frzO_l, frzO_d, ty_l, ty_d, ty_s, ex_map, ex_bind, ex_if, ok_nComp, ok_tYes, ok_iZip2, ok_sAug, vAddI_ii, wipe_nil, wipe_cons, Option.some.injEq, exists_eq_left', Opd.val.injEq, Val.bl.injEq, Val.int.injEq, List.getElem?_cons_zero, List.getElem?_cons_succ, List.set_cons_zero, List.set_cons_succ, Option.bind_some, id_eq, decide_eq_true_eq, Bool.not_eq_true', decide_eq_false_iff_not, List.length_cons, List.length_nil, Nat.zero_add, Nat.reduceAdd, true_and, and_true, List.zip_cons_cons, List.zip_nil_left, List.zip_nil_right, startS, List.map_cons, List.map_nil, List.cons_append, List.nil_append, Nat.reduceSub, List.replicate_succ, List.replicate_zero, List.append_nil, ↓reduceIte, rd_dV, dep_dV, eqv_dV]
              refine ⟨rfl, ?_⟩
              rw [if_neg (by decide)]
              try simp only [ok_bind, ok_pure, ok_eVar, ok_eC, ok_eCls, ok_op2, ok_op1, ok_opL, ok_opN, ok_tst, ok_tNot, ok_tAnd, ok_tOr, ok_eAnd, ok_eOr, ok_eNot, ok_eIf, ok_chain, ok_aNil, ok_aCons, ok_eTup, ok_eLst, ok_nLst, ok_eFrz, ok_oNone, ok_oSome, ok_opS, ok_callV, ok_callN, ok_eCell, ok_opW, ok_opR, kthen_nx, kthen_brk, kthen_cont, kthen_ret, kthen_rtn, ok_sSeq, ok_sNil, ok_brk, ok_cont, ok_sExpr, ok_sRet, ok_sRtn, ok_sIf, ok_putV, ok_putO, ok_sSet, ok_sOwn, ok_sAsg, ok_gTup, ok_gCons, ok_gNil, ok_gSub, ok_sPar, ok_putVs0, ok_putVs1, ok_iSeq, ok_iRng, turn_nx, turn_brk, turn_cont, turn_ret, turn_rtn, ok_sFor, ok_loop0, ok_loop1, fin_nx, fin_val, fin_sl, fin_rtn, ok_runF, rd_non, rd_bl, rd_int, rd_str, rd_tup, rd_lst, rd_dct, rd_scr, rd_cls, rd_ref, rd_sl, snap_v, snap_l, snap_d, rds_nil, ex_rds, toVals_nil, toVals_cons, ex_argsOf, cur_ref, cur_sl, wr_ref, wr_sl, setV_mk, setO_mk, opdOf_v, opdOf_l, opdOf_d, vAdd_ii, vSub_ii, ex_mul, ex_div, ex_mod, ex_pow, vNeg_i, vLt_ii, vLe_ii, vGt_ii, vGe_ii, ex_eq, ex_ne, vIx_l, vIx_t, vIx_c, lAbs_i, lMin_i, lMax_i, lLen_l, lLen_t, lLen_c, lLen_s, lTup_l, lTup_t, ex_append, ex_setL, seqOf_l, seqOf_t, seqOf_c, ex_rng1, ex_rng2, frzO_v, frzO_l, frzO_d, ty_l, ty_d, ty_s, ex_map, ex_bind, ex_if, ok_nComp, ok_tYes, ok_iZip2, ok_sAug, vAddI_ii, wipe_nil, wipe_cons, Option.some.injEq, exists_eq_left', Opd.val.injEq, Val.bl.injEq, Val.int.injEq, List.getElem?_cons_zero, List.getElem?_cons_succ, List.set_cons_zero, List.set_cons_succ, Option.bind_some, id_eq, decide_eq_true_eq, Bool.not_eq_true', decide_eq_false_iff_not, List.length_cons, List.length_nil, Nat.zero_add, Nat.reduceAdd, true_and, and_true, List.zip_cons_cons, List.zip_nil_left, List.zip_nil_right, startS, List.map_cons, List.map_nil, List.cons_append, List.nil_append, Nat.reduceSub, List.replicate_succ, List.replicate_zero, List.append_nil, ↓reduceIte, rd_dV, isi_dV]
              rw [if_neg (by decide)]
              exact ⟨ws, _, _, rfl, hws', rfl, .inr ⟨_, rfl⟩⟩
          · rintro s ⟨ws, o6, o7, e1, hws, rfl, hf6⟩
            exact ⟨_, _, rfl, hf6⟩
        clear hf6 o6 o7
        rintro s ⟨o6, o7, rfl, hf6⟩
        refine ok_step (fun s => s = ⟨[some (.v (.scr (ns.map Val.int))), some (.v (.int k)), some (.v (.ref b)), some (.v (.lst (rs.map zV))), none, some (.v (zV l)), o6, o7, o8, o9, oa, ob], hp⟩) ?_ ?_
        · try simp only [ok_bind, ok_pure, ok_eVar, ok_eC, ok_eCls, ok_op2, ok_op1, ok_opL, ok_opN, ok_tst, ok_tNot, ok_tAnd, ok_tOr, ok_eAnd, ok_eOr, ok_eNot, ok_eIf, ok_chain, ok_aNil, ok_aCons, ok_eTup, ok_eLst, ok_nLst, ok_eFrz, ok_oNone, ok_oSome, ok_opS, ok_callV, ok_callN, ok_eCell, ok_opW, ok_opR, kthen_nx, kthen_brk, kthen_cont, kthen_ret, kthen_rtn, ok_sSeq, ok_sNil, ok_brk, ok_cont, ok_sExpr, ok_sRet, ok_sRtn, ok_sIf, ok_putV, ok_putO, ok_sSet, ok_sOwn, ok_sAsg, ok_gTup, ok_gCons, ok_gNil, ok_gSub, ok_sPar, ok_putVs0, ok_putVs1, ok_iSeq, ok_iRng, turn_nx, turn_brk, turn_cont, turn_ret, turn_rtn, ok_sFor, ok_loop0, ok_loop1, fin_nx, fin_val, fin_sl, fin_rtn, ok_runF, rd_non, rd_bl, rd_int, rd_str, rd_tup, rd_lst, rd_dct, rd_scr, rd_cls, rd_ref, rd_sl, snap_v, snap_l, snap_d, rds_nil, ex_rds, toVals_nil, toVals_cons, ex_argsOf, cur_ref, cur_sl, wr_ref, wr_sl, setV_mk, setO_mk, opdOf_v, opdOf_l, opdOf_d, vAdd_ii, vSub_ii, ex_mul, ex_div, ex_mod, ex_pow, vNeg_i, vLt_ii, vLe_ii, vGt_ii, vGe_ii, ex_eq, ex_ne, vIx_l, vIx_t, vIx_c, lAbs_i, lMin_i, lMax_i, lLen_l, lLen_t, lLen_c, lLen_s, lTup_l, lTup_t, ex_append, ex_setL, seqOf_l, seqOf_t, seqOf_c, ex_rng1, ex_rng2, frzO_v, frzO_l, frzO_d, ty_l, ty_d, ty_s, ex_map, ex_bind, ex_if, ok_nComp, ok_tYes, ok_iZip2, ok_sAug, vAddI_ii, wipe_nil, wipe_cons, Option.some.injEq, exists_eq_left', Opd.val.injEq, Val.bl.injEq, Val.int.injEq, List.getElem?_cons_zero, List.getElem?_cons_succ, List.set_cons_zero, List.set_cons_succ, Option.bind_some, id_eq, decide_eq_true_eq, Bool.not_eq_true', decide_eq_false_iff_not, List.length_cons, List.length_nil, Nat.zero_add, Nat.reduceAdd, true_and, and_true, List.zip_cons_cons, List.zip_nil_left, List.zip_nil_right, startS, List.map_cons, List.map_nil, List.cons_append, List.nil_append, Nat.reduceSub, List.replicate_succ, List.replicate_zero, List.append_nil, ↓reduceIte]
          refine doubt_ok (by rw [z_len]; omega) ?_
          try simp only [ok_bind, ok_pure, ok_eVar, ok_eC, ok_eCls, ok_op2, ok_op1, ok_opL, ok_opN, ok_tst, ok_tNot, ok_tAnd, ok_tOr, ok_eAnd, ok_eOr, ok_eNot, ok_eIf, ok_chain, ok_aNil, ok_aCons, ok_eTup, ok_eLst, ok_nLst, ok_eFrz, ok_oNone, ok_oSome, ok_opS, ok_callV, ok_callN, ok_eCell, ok_opW, ok_opR, kthen_nx, kthen_brk, kthen_cont, kthen_ret, kthen_rtn, ok_sSeq, ok_sNil, ok_brk, ok_cont, ok_sExpr, ok_sRet, ok_sRtn, ok_sIf, ok_putV, ok_putO, ok_sSet, ok_sOwn, ok_sAsg, ok_gTup, ok_gCons, ok_gNil, ok_gSub, ok_sPar, ok_putVs0, ok_putVs1, ok_iSeq, ok_iRng, turn_nx, turn_brk, turn_cont, turn_ret, turn_rtn, ok_sFor, ok_loop0, ok_loop1, fin_nx, fin_val, fin_sl, fin_rtn, ok_runF, rd_non, rd_bl, rd_int, rd_str, rd_tup, rd_lst, rd_dct, rd_scr, rd_cls, rd_ref, rd_sl, snap_v, snap_l, snap_d, rds_nil, ex_rds, toVals_nil, toVals_cons, ex_argsOf, cur_ref, cur_sl, wr_ref, wr_sl, setV_mk, setO_mk, opdOf_v, opdOf_l, opdOf_d, vAdd_ii, vSub_ii, ex_mul, ex_div, ex_mod, ex_pow, vNeg_i, vLt_ii, vLe_ii, vGt_ii, vGe_ii, ex_eq, ex_ne, vIx_l, vIx_t, vIx_c, lAbs_i, lMin_i, lMax_i, lLen_l, lLen_t, lLen_c, lLen_s, lTup_l, lTup_t, ex_append, ex_setL, seqOf_l, seqOf_t, seqOf_c, ex_rng1, ex_rng2, frzO_v, frzO_l, frzO_d, ty_l, ty_d, ty_s, ex_map, ex_bind, ex_if, ok_nComp, ok_tYes, ok_iZip2, ok_sAug, vAddI_ii, wipe_nil, wipe_cons, Option.some.injEq, exists_eq_left', Opd.val.injEq, Val.bl.injEq, Val.int.injEq, List.getElem?_cons_zero, List.getElem?_cons_succ, List.set_cons_zero, List.set_cons_succ, Option.bind_some, id_eq, decide_eq_true_eq, Bool.not_eq_true', decide_eq_false_iff_not, List.length_cons, List.length_nil, Nat.zero_add, Nat.reduceAdd, true_and, and_true, List.zip_cons_cons, List.zip_nil_left, List.zip_nil_right, startS, List.map_cons, List.map_nil, List.cons_append, List.nil_append, Nat.reduceSub, List.replicate_succ, List.replicate_zero, List.append_nil, ↓reduceIte, dV_self, dep_int, eqv_int]
          refine ⟨rfl, ?_⟩
          rw [if_neg (by decide)]
          trivial
        rintro s rfl
        refine ok_step (fun s => s = ⟨[some (.v (.scr (ns.map Val.int))), some (.v (.int k)), some (.v (.ref b)), some (.v (.lst (rs.map zV))), none, some (.v (zV l)), o6, o7, some (.v (.lst ((rs.filter fun m => decide (m.length = l.length)).map zV))), o9, oa, ob], hp⟩) ?_ ?_
        · try simp only [ok_bind, ok_pure, ok_eVar, ok_eC, ok_eCls, ok_op2, ok_op1, ok_opL, ok_opN, ok_tst, ok_tNot, ok_tAnd, ok_tOr, ok_eAnd, ok_eOr, ok_eNot, ok_eIf, ok_chain, ok_aNil, ok_aCons, ok_eTup, ok_eLst, ok_nLst, ok_eFrz, ok_oNone, ok_oSome, ok_opS, ok_callV, ok_callN, ok_eCell, ok_opW, ok_opR, kthen_nx, kthen_brk, kthen_cont, kthen_ret, kthen_rtn, ok_sSeq, ok_sNil, ok_brk, ok_cont, ok_sExpr, ok_sRet, ok_sRtn, ok_sIf, ok_putV, ok_putO, ok_sSet, ok_sOwn, ok_sAsg, ok_gTup, ok_gCons, ok_gNil, ok_gSub, ok_sPar, ok_putVs0, ok_putVs1, ok_iSeq, ok_iRng, turn_nx, turn_brk, turn_cont, turn_ret, turn_rtn, ok_sFor, ok_loop0, ok_loop1, fin_nx, fin_val, fin_sl, fin_rtn, ok_runF, rd_non, rd_bl, rd_int, rd_str, rd_tup, rd_lst, rd_dct, rd_scr, rd_cls, rd_ref, rd_sl, snap_v, snap_l, snap_d, rds_nil, ex_rds, toVals_nil, toVals_cons, ex_argsOf, cur_ref, cur_sl, wr_ref, wr_sl, setV_mk, setO_mk, opdOf_v, opdOf_l, opdOf_d, vAdd_ii, vSub_ii, ex_mul, ex_div, ex_mod, ex_pow, vNeg_i, vLt_ii, vLe_ii, vGt_ii, vGe_ii, ex_eq, ex_ne, vIx_l, vIx_t, vIx_c, lAbs_i, lMin_i, lMax_i, lLen_l, lLen_t, lLen_c, lLen_s, lTup_l, lTup_t, ex_append, ex_setL, seqOf_l, seqOf_t, seqOf_c, ex_rng1, ex_rng2, frzO_v, frzO_l, frzO_d, ty_l, ty_d, ty_s, ex_map, ex_bind, ex_if, ok_nComp, ok_tYes, ok_iZip2, ok_sAug, vAddI_ii, wipe_nil, wipe_cons, Option.some.injEq, exists_eq_left', Opd.val.injEq, Val.bl.injEq, Val.int.injEq, List.getElem?_cons_zero, List.getElem?_cons_succ, List.set_cons_zero, List.set_cons_succ, Option.bind_some, id_eq, decide_eq_true_eq, Bool.not_eq_true', decide_eq_false_iff_not, List.length_cons, List.length_nil, Nat.zero_add, Nat.reduceAdd, true_and, and_true, List.zip_cons_cons, List.zip_nil_left, List.zip_nil_right, startS, List.map_cons, List.map_nil, List.cons_append, List.nil_append, Nat.reduceSub, List.replicate_succ, List.replicate_zero, List.append_nil, ↓reduceIte]
          refine ⟨?_, ?_⟩
          · rcases hf6 with h | ⟨v, h⟩ <;> (rw [h]; rfl)
          refine (lc_map (fun s => ∃ o, s = ⟨[some (.v (.scr (ns.map Val.int))), some (.v (.int k)), some (.v (.ref b)), some (.v (.lst (rs.map zV))), none, some (.v (zV l)), o, o7, o8, o9, oa, ob], hp⟩) ⟨_, rfl⟩ (fun x => match x with
            | .str y => decide (y.cps.toList.length = l.length)
            | _ => false) (fun x => x) ?_).mono ?_
          · rintro x hx s ⟨o, rfl⟩
            obtain ⟨m, hm, rfl⟩ := List.mem_map.mp hx
            try simp only [ok_bind, ok_pure, ok_eVar, ok_eC, ok_eCls, ok_op2, ok_op1, ok_opL, ok_opN, ok_tst, ok_tNot, ok_tAnd, ok_tOr, ok_eAnd, ok_eOr, ok_eNot, ok_eIf, ok_chain, ok_aNil, ok_aCons, ok_eTup, ok_eLst, ok_nLst, ok_eFrz, ok_oNone, ok_oSome, ok_opS, ok_callV, ok_callN, ok_eCell, ok_opW, ok_opR, kthen_nx, kthen_brk, kthen_cont, kthen_ret, kthen_rtn, ok_sSeq, ok_sNil, ok_brk, ok_cont, ok_sExpr, ok_sRet, ok_sRtn, ok_sIf, ok_putV, ok_putO, ok_sSet, ok_sOwn, ok_sAsg, ok_gTup, ok_gCons, ok_gNil, ok_gSub, ok_sPar, ok_putVs0, ok_putVs1, ok_iSeq, ok_iRng, turn_nx, turn_brk, turn_cont, turn_ret, turn_rtn, ok_sFor, ok_loop0, ok_loop1, fin_nx, fin_val, fin_sl, fin_rtn, ok_runF, rd_non, rd_bl, rd_int, rd_str, rd_tup, rd_lst, rd_dct, rd_scr, rd_cls, rd_ref, rd_sl, snap_v, snap_l, snap_d, rds_nil, ex_rds, toVals_nil, toVals_cons, ex_argsOf, cur_ref, cur_sl, wr_ref, wr_sl, setV_mk, setO_mk, opdOf_v, opdOf_l, opdOf_d, vAdd_ii, vSub_ii, ex_mul, ex_div, ex_mod, ex_pow, vNeg_i, vLt_ii, vLe_ii, vGt_ii, vGe_ii, ex_eq, ex_ne, vIx_l, vIx_t, vIx_c, lAbs_i, lMin_i, lMax_i, lLen_l, lLen_t, lLen_c, lLen_s, lTup_l, lTup_t, ex_append, ex_setL, seqOf_l, seqOf_t, seqOf_c, ex_rng1, ex_rng2, frzO_v, frzO_l, frzO_d, ty_l, ty_d, ty_s, ex_map, ex_bind, ex_if, ok_nComp, ok_tYes, ok_iZip2, ok_sAug, vAddI_ii, wipe_nil, wipe_cons, Option.some.injEq, exists_eq_left', Opd.val.injEq, Val.bl.injEq, Val.int.injEq, List.getElem?_cons_zero, List.getElem?_cons_succ, List.set_cons_zero, List.set_cons_succ, Option.bind_some, id_eq, decide_eq_true_eq, Bool.not_eq_true', decide_eq_false_iff_not, List.length_cons, List.length_nil, Nat.zero_add, Nat.reduceAdd, true_and, and_true, List.zip_cons_cons, List.zip_nil_left, List.zip_nil_right, startS, List.map_cons, List.map_nil, List.cons_append, List.nil_append, Nat.reduceSub, List.replicate_succ, List.replicate_zero, List.append_nil, ↓reduceIte, rd_z, len_zV, dep_int, eqv_int]
            refine ⟨rfl, ?_, fun _ => ⟨_, rfl⟩, fun _ => ⟨_, rfl⟩⟩
            show _ = decide (m.length = l.length)
            by_cases h : m.length = l.length
            · simp [h]
            · rw [decide_eq_false h, beq_eq_false_iff_ne]
              omega
          · rintro r s ⟨rfl, o, rfl⟩
            rw [List.map_id', List.filter_map]
            refine ⟨rfl, ?_, ?_⟩
            · rw [List.length_map]
              exact Nat.le_trans (List.length_filter_le _ _) (Nat.le_trans (show _ ≤ 100 by omega) (by decide))
            · rfl
        rintro s rfl
        have lk : Likes (rs.filter fun m => decide (m.length = l.length)) l.length := ⟨fun m hm => by
          obtain ⟨h1, h2⟩ := List.mem_filter.mp hm
          exact ⟨hg m h1, by simpa using h2⟩, Nat.le_trans (List.length_filter_le _ _) (by omega), List.length_pos_iff.mpr fun e => by
          have : l ∈ rs.filter fun m => decide (m.length = l.length) := List.mem_filter.mpr ⟨hlr, by simp⟩
          rw [e] at this
          cases this⟩
        try simp only [ok_bind, ok_pure, ok_eVar, ok_eC, ok_eCls, ok_op2, ok_op1, ok_opL, ok_opN, ok_tst, ok_tNot, ok_tAnd, ok_tOr, ok_eAnd, ok_eOr, ok_eNot, ok_eIf, ok_chain, ok_aNil, ok_aCons, ok_eTup, ok_eLst, ok_nLst, ok_eFrz, ok_oNone, ok_oSome, ok_opS, ok_callV, ok_callN, ok_eCell, ok_opW, ok_opR, kthen_nx, kthen_brk, kthen_cont, kthen_ret, kthen_rtn, ok_sSeq, ok_sNil, ok_brk, ok_cont, ok_sExpr, ok_sRet, ok_sRtn, ok_sIf, ok_putV, ok_putO, ok_sSet, ok_sOwn, ok_sAsg, ok_gTup, ok_gCons, ok_gNil, ok_gSub, ok_sPar, ok_putVs0, ok_putVs1, ok_iSeq, ok_iRng, turn_nx, turn_brk, turn_cont, turn_ret, turn_rtn, ok_sFor, ok_loop0, ok_loop1, fin_nx, fin_val, fin_sl, fin_rtn, ok_runF, rd_non, rd_bl, rd_int, rd_str, rd_tup, rd_lst, rd_dct, rd_scr, rd_cls, rd_ref, rd_sl, snap_v, snap_l, snap_d, rds_nil, ex_rds, toVals_nil, toVals_cons, ex_argsOf, cur_ref, cur_sl, wr_ref, wr_sl, setV_mk, setO_mk, opdOf_v, opdOf_l, opdOf_d, vAdd_ii, vSub_ii, ex_mul, ex_div, ex_mod, ex_pow, vNeg_i, vLt_ii, vLe_ii, vGt_ii, vGe_ii, ex_eq, ex_ne, vIx_l, vIx_t, vIx_c, lAbs_i, lMin_i, lMax_i, lLen_l, lLen_t, lLen_c, lLen_s, lTup_l, lTup_t, ex_append, ex_setL, seqOf_l, seqOf_t, seqOf_c, ex_rng1, ex_rng2, frzO_v, frzO_l, frzO_d, ty_l, ty_d, ty_s, ex_map, ex_bind, ex_if, ok_nComp, ok_tYes, ok_iZip2, ok_sAug, vAddI_ii, wipe_nil, wipe_cons, Option.some.injEq, exists_eq_left', Opd.val.injEq, Val.bl.injEq, Val.int.injEq, List.getElem?_cons_zero, List.getElem?_cons_succ, List.set_cons_zero, List.set_cons_succ, Option.bind_some, id_eq, decide_eq_true_eq, Bool.not_eq_true', decide_eq_false_iff_not, List.length_cons, List.length_nil, Nat.zero_add, Nat.reduceAdd, true_and, and_true, List.zip_cons_cons, List.zip_nil_left, List.zip_nil_right, startS, List.map_cons, List.map_nil, List.cons_append, List.nil_append, Nat.reduceSub, List.replicate_succ, List.replicate_zero, List.append_nil, ↓reduceIte]
        refine plate_ok lk ?_
        try simp only [ok_bind, ok_pure, ok_eVar, ok_eC, ok_eCls, ok_op2, ok_op1, ok_opL, ok_opN, ok_tst, ok_tNot, ok_tAnd, ok_tOr, ok_eAnd, ok_eOr, ok_eNot, ok_eIf, ok_chain, ok_aNil, ok_aCons, ok_eTup, ok_eLst, ok_nLst, ok_eFrz, ok_oNone, ok_oSome, ok_opS, ok_callV, ok_callN, ok_eCell, ok_opW, ok_opR, kthen_nx, kthen_brk, kthen_cont, kthen_ret, kthen_rtn, ok_sSeq, ok_sNil, ok_brk, ok_cont, ok_sExpr, ok_sRet, ok_sRtn, ok_sIf, ok_putV, ok_putO, ok_sSet, ok_sOwn, ok_sAsg, ok_gTup, ok_gCons, ok_gNil, ok_gSub, ok_sPar, ok_putVs0, ok_putVs1, ok_iSeq, ok_iRng, turn_nx, turn_brk, turn_cont, turn_ret, turn_rtn, ok_sFor, ok_loop0, ok_loop1, fin_nx, fin_val, fin_sl, fin_rtn, ok_runF, rd_non, rd_bl, rd_int, rd_str, rd_tup, rd_lst, rd_dct, rd_scr, rd_cls, rd_ref, rd_sl, snap_v, snap_l, snap_d, rds_nil, ex_rds, toVals_nil, toVals_cons, ex_argsOf, cur_ref, cur_sl, wr_ref, wr_sl, setV_mk, setO_mk, opdOf_v, opdOf_l, opdOf_d, vAdd_ii, vSub_ii, ex_mul, ex_div, ex_mod, ex_pow, vNeg_i, vLt_ii, vLe_ii, vGt_ii, vGe_ii, ex_eq, ex_ne, vIx_l, vIx_t, vIx_c, lAbs_i, lMin_i, lMax_i, lLen_l, lLen_t, lLen_c, lLen_s, lTup_l, lTup_t, ex_append, ex_setL, seqOf_l, seqOf_t, seqOf_c, ex_rng1, ex_rng2, frzO_v, frzO_l, frzO_d, ty_l, ty_d, ty_s, ex_map, ex_bind, ex_if, ok_nComp, ok_tYes, ok_iZip2, ok_sAug, vAddI_ii, wipe_nil, wipe_cons, Option.some.injEq, exists_eq_left', Opd.val.injEq, Val.bl.injEq, Val.int.injEq, List.getElem?_cons_zero, List.getElem?_cons_succ, List.set_cons_zero, List.set_cons_succ, Option.bind_some, id_eq, decide_eq_true_eq, Bool.not_eq_true', decide_eq_false_iff_not, List.length_cons, List.length_nil, Nat.zero_add, Nat.reduceAdd, true_and, and_true, List.zip_cons_cons, List.zip_nil_left, List.zip_nil_right, startS, List.map_cons, List.map_nil, List.cons_append, List.nil_append, Nat.reduceSub, List.replicate_succ, List.replicate_zero, List.append_nil, ↓reduceIte]
        refine lplate_ok lk ?_
        try simp only [ok_bind, ok_pure, ok_eVar, ok_eC, ok_eCls, ok_op2, ok_op1, ok_opL, ok_opN, ok_tst, ok_tNot, ok_tAnd, ok_tOr, ok_eAnd, ok_eOr, ok_eNot, ok_eIf, ok_chain, ok_aNil, ok_aCons, ok_eTup, ok_eLst, ok_nLst, ok_eFrz, ok_oNone, ok_oSome, ok_opS, ok_callV, ok_callN, ok_eCell, ok_opW, ok_opR, kthen_nx, kthen_brk, kthen_cont, kthen_ret, kthen_rtn, ok_sSeq, ok_sNil, ok_brk, ok_cont, ok_sExpr, ok_sRet, ok_sRtn, ok_sIf, ok_putV, ok_putO, ok_sSet, ok_sOwn, ok_sAsg, ok_gTup, ok_gCons, ok_gNil, ok_gSub, ok_sPar, ok_putVs0, ok_putVs1, ok_iSeq, ok_iRng, turn_nx, turn_brk, turn_cont, turn_ret, turn_rtn, ok_sFor, ok_loop0, ok_loop1, fin_nx, fin_val, fin_sl, fin_rtn, ok_runF, rd_non, rd_bl, rd_int, rd_str, rd_tup, rd_lst, rd_dct, rd_scr, rd_cls, rd_ref, rd_sl, snap_v, snap_l, snap_d, rds_nil, ex_rds, toVals_nil, toVals_cons, ex_argsOf, cur_ref, cur_sl, wr_ref, wr_sl, setV_mk, setO_mk, opdOf_v, opdOf_l, opdOf_d, vAdd_ii, vSub_ii, ex_mul, ex_div, ex_mod, ex_pow, vNeg_i, vLt_ii, vLe_ii, vGt_ii, vGe_ii, ex_eq, ex_ne, vIx_l, vIx_t, vIx_c, lAbs_i, lMin_i, lMax_i, lLen_l, lLen_t, lLen_c, lLen_s, lTup_l, lTup_t, ex_append, ex_setL, seqOf_l, seqOf_t, seqOf_c, ex_rng1, ex_rng2, frzO_v, frzO_l, frzO_d, ty_l, ty_d, ty_s, ex_map, ex_bind, ex_if, ok_nComp, ok_tYes, ok_iZip2, ok_sAug, vAddI_ii, wipe_nil, wipe_cons, Option.some.injEq, exists_eq_left', Opd.val.injEq, Val.bl.injEq, Val.int.injEq, List.getElem?_cons_zero, List.getElem?_cons_succ, List.set_cons_zero, List.set_cons_succ, Option.bind_some, id_eq, decide_eq_true_eq, Bool.not_eq_true', decide_eq_false_iff_not, List.length_cons, List.length_nil, Nat.zero_add, Nat.reduceAdd, true_and, and_true, List.zip_cons_cons, List.zip_nil_left, List.zip_nil_right, startS, List.map_cons, List.map_nil, List.cons_append, List.nil_append, Nat.reduceSub, List.replicate_succ, List.replicate_zero, List.append_nil, ↓reduceIte, dep_str, eqv_strS]
        refine ⟨rfl, ?_⟩
        rw [if_neg (by decide)]
        exact ⟨ls, _, _, _, _, rfl, hls', rfl, hf6⟩
    · rintro s ⟨ls, o5, o6, o7, o8, e1, hls, rfl, hf6⟩
      exact ⟨_, _, _, _, rfl, hf6⟩
  clear hf6 o5 o6 o7 o8
  rintro s ⟨o5, o6, o7, o8, rfl, hf6⟩
  obtain ⟨l0, lr, hr⟩ : ∃ l0 lr, rs = l0 :: lr := by
    cases rs with
    | nil => simp at hr1
    | cons a c => exact ⟨a, c, rfl⟩
  have g0 := hg l0 (by rw [hr]; simp)
  have e0 : atI (rs.map zV) 0 = some (zV l0) := by rw [hr]; exact atI0
  have hlim : 100 ≤ lim := by decide
  rw [ok_sFor]
  try simp only [ok_bind, ok_pure, ok_eVar, ok_eC, ok_eCls, ok_op2, ok_op1, ok_opL, ok_opN, ok_tst, ok_tNot, ok_tAnd, ok_tOr, ok_eAnd, ok_eOr, ok_eNot, ok_eIf, ok_chain, ok_aNil, ok_aCons, ok_eTup, ok_eLst, ok_nLst, ok_eFrz, ok_oNone, ok_oSome, ok_opS, ok_callV, ok_callN, ok_eCell, ok_opW, ok_opR, kthen_nx, kthen_brk, kthen_cont, kthen_ret, kthen_rtn, ok_sSeq, ok_sNil, ok_brk, ok_cont, ok_sExpr, ok_sRet, ok_sRtn, ok_sIf, ok_putV, ok_putO, ok_sSet, ok_sOwn, ok_sAsg, ok_gTup, ok_gCons, ok_gNil, ok_gSub, ok_sPar, ok_putVs0, ok_putVs1, ok_iSeq, ok_iRng, turn_nx, turn_brk, turn_cont, turn_ret, turn_rtn, ok_sFor, ok_loop0, ok_loop1, fin_nx, fin_val, fin_sl, fin_rtn, ok_runF, rd_non, rd_bl, rd_int, rd_str, rd_tup, rd_lst, rd_dct, rd_scr, rd_cls, rd_ref, rd_sl, snap_v, snap_l, snap_d, rds_nil, ex_rds, toVals_nil, toVals_cons, ex_argsOf, cur_ref, cur_sl, wr_ref, wr_sl, setV_mk, setO_mk, opdOf_v, opdOf_l, opdOf_d, vAdd_ii, vSub_ii, ex_mul, ex_div, ex_mod, ex_pow, vNeg_i, vLt_ii, vLe_ii, vGt_ii, vGe_ii, ex_eq, ex_ne, vIx_l, vIx_t, vIx_c, lAbs_i, lMin_i, lMax_i, lLen_l, lLen_t, lLen_c, lLen_s, lTup_l, lTup_t, ex_append, ex_setL, seqOf_l, seqOf_t, seqOf_c, ex_rng1, ex_rng2, frzO_v, frzO_l, frzO_d, ty_l, ty_d, ty_s, ex_map, ex_bind, ex_if, ok_nComp, ok_tYes, ok_iZip2, ok_sAug, vAddI_ii, wipe_nil, wipe_cons, Option.some.injEq, exists_eq_left', Opd.val.injEq, Val.bl.injEq, Val.int.injEq, List.getElem?_cons_zero, List.getElem?_cons_succ, List.set_cons_zero, List.set_cons_succ, Option.bind_some, id_eq, decide_eq_true_eq, Bool.not_eq_true', decide_eq_false_iff_not, List.length_cons, List.length_nil, Nat.zero_add, Nat.reduceAdd, true_and, and_true, List.zip_cons_cons, List.zip_nil_left, List.zip_nil_right, startS, List.map_cons, List.map_nil, List.cons_append, List.nil_append, Nat.reduceSub, List.replicate_succ, List.replicate_zero, List.append_nil, ↓reduceIte, e0]
  refine ⟨by decide, ?_⟩
  refine bent_ok hb g0 (sok_rsg g0.all (Nat.le_trans g0.hi (by decide))) fun w hp1 hb1 => ?_
  try simp only [ok_bind, ok_pure, ok_eVar, ok_eC, ok_eCls, ok_op2, ok_op1, ok_opL, ok_opN, ok_tst, ok_tNot, ok_tAnd, ok_tOr, ok_eAnd, ok_eOr, ok_eNot, ok_eIf, ok_chain, ok_aNil, ok_aCons, ok_eTup, ok_eLst, ok_nLst, ok_eFrz, ok_oNone, ok_oSome, ok_opS, ok_callV, ok_callN, ok_eCell, ok_opW, ok_opR, kthen_nx, kthen_brk, kthen_cont, kthen_ret, kthen_rtn, ok_sSeq, ok_sNil, ok_brk, ok_cont, ok_sExpr, ok_sRet, ok_sRtn, ok_sIf, ok_putV, ok_putO, ok_sSet, ok_sOwn, ok_sAsg, ok_gTup, ok_gCons, ok_gNil, ok_gSub, ok_sPar, ok_putVs0, ok_putVs1, ok_iSeq, ok_iRng, turn_nx, turn_brk, turn_cont, turn_ret, turn_rtn, ok_sFor, ok_loop0, ok_loop1, fin_nx, fin_val, fin_sl, fin_rtn, ok_runF, rd_non, rd_bl, rd_int, rd_str, rd_tup, rd_lst, rd_dct, rd_scr, rd_cls, rd_ref, rd_sl, snap_v, snap_l, snap_d, rds_nil, ex_rds, toVals_nil, toVals_cons, ex_argsOf, cur_ref, cur_sl, wr_ref, wr_sl, setV_mk, setO_mk, opdOf_v, opdOf_l, opdOf_d, vAdd_ii, vSub_ii, ex_mul, ex_div, ex_mod, ex_pow, vNeg_i, vLt_ii, vLe_ii, vGt_ii, vGe_ii, ex_eq, ex_ne, vIx_l, vIx_t, vIx_c, lAbs_i, lMin_i, lMax_i, lLen_l, lLen_t, lLen_c, lLen_s, lTup_l, lTup_t, ex_append, ex_setL, seqOf_l, seqOf_t, seqOf_c, ex_rng1, ex_rng2, frzO_v, frzO_l, frzO_d, ty_l, ty_d, ty_s, ex_map, ex_bind, ex_if, ok_nComp, ok_tYes, ok_iZip2, ok_sAug, vAddI_ii, wipe_nil, wipe_cons, Option.some.injEq, exists_eq_left', Opd.val.injEq, Val.bl.injEq, Val.int.injEq, List.getElem?_cons_zero, List.getElem?_cons_succ, List.set_cons_zero, List.set_cons_succ, Option.bind_some, id_eq, decide_eq_true_eq, Bool.not_eq_true', decide_eq_false_iff_not, List.length_cons, List.length_nil, Nat.zero_add, Nat.reduceAdd, true_and, and_true, List.zip_cons_cons, List.zip_nil_left, List.zip_nil_right, startS, List.map_cons, List.map_nil, List.cons_append, List.nil_append, Nat.reduceSub, List.replicate_succ, List.replicate_zero, List.append_nil, ↓reduceIte]
  refine odd_ok hb1 fun y hp2 hy hb2 => ?_
  try simp only [ok_bind, ok_pure, ok_eVar, ok_eC, ok_eCls, ok_op2, ok_op1, ok_opL, ok_opN, ok_tst, ok_tNot, ok_tAnd, ok_tOr, ok_eAnd, ok_eOr, ok_eNot, ok_eIf, ok_chain, ok_aNil, ok_aCons, ok_eTup, ok_eLst, ok_nLst, ok_eFrz, ok_oNone, ok_oSome, ok_opS, ok_callV, ok_callN, ok_eCell, ok_opW, ok_opR, kthen_nx, kthen_brk, kthen_cont, kthen_ret, kthen_rtn, ok_sSeq, ok_sNil, ok_brk, ok_cont, ok_sExpr, ok_sRet, ok_sRtn, ok_sIf, ok_putV, ok_putO, ok_sSet, ok_sOwn, ok_sAsg, ok_gTup, ok_gCons, ok_gNil, ok_gSub, ok_sPar, ok_putVs0, ok_putVs1, ok_iSeq, ok_iRng, turn_nx, turn_brk, turn_cont, turn_ret, turn_rtn, ok_sFor, ok_loop0, ok_loop1, fin_nx, fin_val, fin_sl, fin_rtn, ok_runF, rd_non, rd_bl, rd_int, rd_str, rd_tup, rd_lst, rd_dct, rd_scr, rd_cls, rd_ref, rd_sl, snap_v, snap_l, snap_d, rds_nil, ex_rds, toVals_nil, toVals_cons, ex_argsOf, cur_ref, cur_sl, wr_ref, wr_sl, setV_mk, setO_mk, opdOf_v, opdOf_l, opdOf_d, vAdd_ii, vSub_ii, ex_mul, ex_div, ex_mod, ex_pow, vNeg_i, vLt_ii, vLe_ii, vGt_ii, vGe_ii, ex_eq, ex_ne, vIx_l, vIx_t, vIx_c, lAbs_i, lMin_i, lMax_i, lLen_l, lLen_t, lLen_c, lLen_s, lTup_l, lTup_t, ex_append, ex_setL, seqOf_l, seqOf_t, seqOf_c, ex_rng1, ex_rng2, frzO_v, frzO_l, frzO_d, ty_l, ty_d, ty_s, ex_map, ex_bind, ex_if, ok_nComp, ok_tYes, ok_iZip2, ok_sAug, vAddI_ii, wipe_nil, wipe_cons, Option.some.injEq, exists_eq_left', Opd.val.injEq, Val.bl.injEq, Val.int.injEq, List.getElem?_cons_zero, List.getElem?_cons_succ, List.set_cons_zero, List.set_cons_succ, Option.bind_some, id_eq, decide_eq_true_eq, Bool.not_eq_true', decide_eq_false_iff_not, List.length_cons, List.length_nil, Nat.zero_add, Nat.reduceAdd, true_and, and_true, List.zip_cons_cons, List.zip_nil_left, List.zip_nil_right, startS, List.map_cons, List.map_nil, List.cons_append, List.nil_append, Nat.reduceSub, List.replicate_succ, List.replicate_zero, List.append_nil, ↓reduceIte]
  have m7 : ∀ {P : Val → Prop}, (∃ z, vMulA (.str "A") (.int 7) = some z ∧ P z) ↔ P (.str (Txt.mul "A" 7)) := fun {P} => qmul (n := 7) (by decide) (by decide) "A" (.inr rfl)
  have m8 : ∀ {P : Val → Prop}, (∃ z, vMulA (.str "A") (.int 8) = some z ∧ P z) ↔ P (.str (Txt.mul "A" 8)) := fun {P} => qmul (n := 8) (by decide) (by decide) "A" (.inr rfl)
  try simp only [ok_bind, ok_pure, ok_eVar, ok_eC, ok_eCls, ok_op2, ok_op1, ok_opL, ok_opN, ok_tst, ok_tNot, ok_tAnd, ok_tOr, ok_eAnd, ok_eOr, ok_eNot, ok_eIf, ok_chain, ok_aNil, ok_aCons, ok_eTup, ok_eLst, ok_nLst, ok_eFrz, ok_oNone, ok_oSome, ok_opS, ok_callV, ok_callN, ok_eCell, ok_opW, ok_opR, kthen_nx, kthen_brk, kthen_cont, kthen_ret, kthen_rtn, ok_sSeq, ok_sNil, ok_brk, ok_cont, ok_sExpr, ok_sRet, ok_sRtn, ok_sIf, ok_putV, ok_putO, ok_sSet, ok_sOwn, ok_sAsg, ok_gTup, ok_gCons, ok_gNil, ok_gSub, ok_sPar, ok_putVs0, ok_putVs1, ok_iSeq, ok_iRng, turn_nx, turn_brk, turn_cont, turn_ret, turn_rtn, ok_sFor, ok_loop0, ok_loop1, fin_nx, fin_val, fin_sl, fin_rtn, ok_runF, rd_non, rd_bl, rd_int, rd_str, rd_tup, rd_lst, rd_dct, rd_scr, rd_cls, rd_ref, rd_sl, snap_v, snap_l, snap_d, rds_nil, ex_rds, toVals_nil, toVals_cons, ex_argsOf, cur_ref, cur_sl, wr_ref, wr_sl, setV_mk, setO_mk, opdOf_v, opdOf_l, opdOf_d, vAdd_ii, vSub_ii, ex_mul, ex_div, ex_mod, ex_pow, vNeg_i, vLt_ii, vLe_ii, vGt_ii, vGe_ii, ex_eq, ex_ne, vIx_l, vIx_t, vIx_c, lAbs_i, lMin_i, lMax_i, lLen_l, lLen_t, lLen_c, lLen_s, lTup_l, lTup_t, ex_append, ex_setL, seqOf_l, seqOf_t, seqOf_c, ex_rng1, ex_rng2, frzO_v, frzO_l, frzO_d, ty_l, ty_d, ty_s, ex_map, ex_bind, ex_if, ok_nComp, ok_tYes, ok_iZip2, ok_sAug, vAddI_ii, wipe_nil, wipe_cons, Option.some.injEq, exists_eq_left', Opd.val.injEq, Val.bl.injEq, Val.int.injEq, List.getElem?_cons_zero, List.getElem?_cons_succ, List.set_cons_zero, List.set_cons_succ, Option.bind_some, id_eq, decide_eq_true_eq, Bool.not_eq_true', decide_eq_false_iff_not, List.length_cons, List.length_nil, Nat.zero_add, Nat.reduceAdd, true_and, and_true, List.zip_cons_cons, List.zip_nil_left, List.zip_nil_right, startS, List.map_cons, List.map_nil, List.cons_append, List.nil_append, Nat.reduceSub, List.replicate_succ, List.replicate_zero, List.append_nil, ↓reduceIte, m7, m8, vAdd_ll, List.length_map]
  refine ⟨by decide, by omega, ?_⟩
  refine ok_loop (fun xs s => ∃ (o9 oa ob : Option OV), (∀ x ∈ xs, Kn x) ∧ s = ⟨[some (.v (.scr (ns.map Val.int))), some (.v (.int k)), some (.v (.ref b)), some (.v (.lst (rs.map zV))), none, o5, o6, o7, o8, o9, oa, ob], hp2⟩) ?_ ?_ ?_
  · refine ⟨_, _, _, fun x hx => ?_, rfl⟩
    rcases List.mem_append.mp hx with hx | hx
    · obtain ⟨l, _, rfl⟩ := List.mem_map.mp hx
      rfl
    · simp only [List.mem_cons, List.not_mem_nil, or_false] at hx
      rcases hx with h | h | h | h
      · rw [h]; rfl
      · rw [h]; exact hy
      · rw [h]; rfl
      · rw [h]; rfl
  · rintro x xs s ⟨o9, oa, ob, hx, rfl⟩
    have kx := hx x List.mem_cons_self
    have hx' : ∀ x ∈ xs, Kn x := fun z hz => hx z (List.mem_cons_of_mem _ hz)
    rw [ok_putV]
    refine ok_step (fun s => s = ⟨[some (.v (.scr (ns.map Val.int))), some (.v (.int k)), some (.v (.ref b)), some (.v (.lst (rs.map zV))), none, o5, o6, o7, o8, some (.v x), some (.v (.bl (isOf x sSgn))), ob], hp2⟩) ?_ ?_
    · try simp only [ok_bind, ok_pure, ok_eVar, ok_eC, ok_eCls, ok_op2, ok_op1, ok_opL, ok_opN, ok_tst, ok_tNot, ok_tAnd, ok_tOr, ok_eAnd, ok_eOr, ok_eNot, ok_eIf, ok_chain, ok_aNil, ok_aCons, ok_eTup, ok_eLst, ok_nLst, ok_eFrz, ok_oNone, ok_oSome, ok_opS, ok_callV, ok_callN, ok_eCell, ok_opW, ok_opR, kthen_nx, kthen_brk, kthen_cont, kthen_ret, kthen_rtn, ok_sSeq, ok_sNil, ok_brk, ok_cont, ok_sExpr, ok_sRet, ok_sRtn, ok_sIf, ok_putV, ok_putO, ok_sSet, ok_sOwn, ok_sAsg, ok_gTup, ok_gCons, ok_gNil, ok_gSub, ok_sPar, ok_putVs0, ok_putVs1, ok_iSeq, ok_iRng, turn_nx, turn_brk, turn_cont, turn_ret, turn_rtn, ok_sFor, ok_loop0, ok_loop1, fin_nx, fin_val, fin_sl, fin_rtn, ok_runF, rd_non, rd_bl, rd_int, rd_str, rd_tup, rd_lst, rd_dct, rd_scr, rd_cls, rd_ref, rd_sl, snap_v, snap_l, snap_d, rds_nil, ex_rds, toVals_nil, toVals_cons, ex_argsOf, cur_ref, cur_sl, wr_ref, wr_sl, setV_mk, setO_mk, opdOf_v, opdOf_l, opdOf_d, vAdd_ii, vSub_ii, ex_mul, ex_div, ex_mod, ex_pow, vNeg_i, vLt_ii, vLe_ii, vGt_ii, vGe_ii, ex_eq, ex_ne, vIx_l, vIx_t, vIx_c, lAbs_i, lMin_i, lMax_i, lLen_l, lLen_t, lLen_c, lLen_s, lTup_l, lTup_t, ex_append, ex_setL, seqOf_l, seqOf_t, seqOf_c, ex_rng1, ex_rng2, frzO_v, frzO_l, frzO_d, ty_l, ty_d, ty_s, ex_map, ex_bind, ex_if, ok_nComp, ok_tYes, ok_iZip2, ok_sAug, vAddI_ii, wipe_nil, wipe_cons, Option.some.injEq, exists_eq_left', Opd.val.injEq, Val.bl.injEq, Val.int.injEq, List.getElem?_cons_zero, List.getElem?_cons_succ, List.set_cons_zero, List.set_cons_succ, Option.bind_some, id_eq, decide_eq_true_eq, Bool.not_eq_true', decide_eq_false_iff_not, List.length_cons, List.length_nil, Nat.zero_add, Nat.reduceAdd, true_and, and_true, List.zip_cons_cons, List.zip_nil_left, List.zip_nil_right, startS, List.map_cons, List.map_nil, List.cons_append, List.nil_append, Nat.reduceSub, List.replicate_succ, List.replicate_zero, List.append_nil, ↓reduceIte]
      refine law_is_of_ok kx ?_
      try simp only [ok_bind, ok_pure, ok_eVar, ok_eC, ok_eCls, ok_op2, ok_op1, ok_opL, ok_opN, ok_tst, ok_tNot, ok_tAnd, ok_tOr, ok_eAnd, ok_eOr, ok_eNot, ok_eIf, ok_chain, ok_aNil, ok_aCons, ok_eTup, ok_eLst, ok_nLst, ok_eFrz, ok_oNone, ok_oSome, ok_opS, ok_callV, ok_callN, ok_eCell, ok_opW, ok_opR, kthen_nx, kthen_brk, kthen_cont, kthen_ret, kthen_rtn, ok_sSeq, ok_sNil, ok_brk, ok_cont, ok_sExpr, ok_sRet, ok_sRtn, ok_sIf, ok_putV, ok_putO, ok_sSet, ok_sOwn, ok_sAsg, ok_gTup, ok_gCons, ok_gNil, ok_gSub, ok_sPar, ok_putVs0, ok_putVs1, ok_iSeq, ok_iRng, turn_nx, turn_brk, turn_cont, turn_ret, turn_rtn, ok_sFor, ok_loop0, ok_loop1, fin_nx, fin_val, fin_sl, fin_rtn, ok_runF, rd_non, rd_bl, rd_int, rd_str, rd_tup, rd_lst, rd_dct, rd_scr, rd_cls, rd_ref, rd_sl, snap_v, snap_l, snap_d, rds_nil, ex_rds, toVals_nil, toVals_cons, ex_argsOf, cur_ref, cur_sl, wr_ref, wr_sl, setV_mk, setO_mk, opdOf_v, opdOf_l, opdOf_d, vAdd_ii, vSub_ii, ex_mul, ex_div, ex_mod, ex_pow, vNeg_i, vLt_ii, vLe_ii, vGt_ii, vGe_ii, ex_eq, ex_ne, vIx_l, vIx_t, vIx_c, lAbs_i, lMin_i, lMax_i, lLen_l, lLen_t, lLen_c, lLen_s, lTup_l, lTup_t, ex_append, ex_setL, seqOf_l, seqOf_t, seqOf_c, ex_rng1, ex_rng2, frzO_v, frzO_l, frzO_d, ty_l, ty_d, ty_s, ex_map, ex_bind, ex_if, ok_nComp, ok_tYes, ok_iZip2, ok_sAug, vAddI_ii, wipe_nil, wipe_cons, Option.some.injEq, exists_eq_left', Opd.val.injEq, Val.bl.injEq, Val.int.injEq, List.getElem?_cons_zero, List.getElem?_cons_succ, List.set_cons_zero, List.set_cons_succ, Option.bind_some, id_eq, decide_eq_true_eq, Bool.not_eq_true', decide_eq_false_iff_not, List.length_cons, List.length_nil, Nat.zero_add, Nat.reduceAdd, true_and, and_true, List.zip_cons_cons, List.zip_nil_left, List.zip_nil_right, startS, List.map_cons, List.map_nil, List.cons_append, List.nil_append, Nat.reduceSub, List.replicate_succ, List.replicate_zero, List.append_nil, ↓reduceIte]
    rintro s rfl
    refine ok_step (fun s => s = ⟨[some (.v (.scr (ns.map Val.int))), some (.v (.int k)), some (.v (.ref b)), some (.v (.lst (rs.map zV))), none, o5, o6, o7, o8, some (.v x), some (.v (.bl (isOf x sSgn))), some (.v (.tup [.bl (isOf x sSgn), .bl (isOf x sRsg)]))], hp2⟩) ?_ ?_
    · try simp only [ok_bind, ok_pure, ok_eVar, ok_eC, ok_eCls, ok_op2, ok_op1, ok_opL, ok_opN, ok_tst, ok_tNot, ok_tAnd, ok_tOr, ok_eAnd, ok_eOr, ok_eNot, ok_eIf, ok_chain, ok_aNil, ok_aCons, ok_eTup, ok_eLst, ok_nLst, ok_eFrz, ok_oNone, ok_oSome, ok_opS, ok_callV, ok_callN, ok_eCell, ok_opW, ok_opR, kthen_nx, kthen_brk, kthen_cont, kthen_ret, kthen_rtn, ok_sSeq, ok_sNil, ok_brk, ok_cont, ok_sExpr, ok_sRet, ok_sRtn, ok_sIf, ok_putV, ok_putO, ok_sSet, ok_sOwn, ok_sAsg, ok_gTup, ok_gCons, ok_gNil, ok_gSub, ok_sPar, ok_putVs0, ok_putVs1, ok_iSeq, ok_iRng, turn_nx, turn_brk, turn_cont, turn_ret, turn_rtn, ok_sFor, ok_loop0, ok_loop1, fin_nx, fin_val, fin_sl, fin_rtn, ok_runF, rd_non, rd_bl, rd_int, rd_str, rd_tup, rd_lst, rd_dct, rd_scr, rd_cls, rd_ref, rd_sl, snap_v, snap_l, snap_d, rds_nil, ex_rds, toVals_nil, toVals_cons, ex_argsOf, cur_ref, cur_sl, wr_ref, wr_sl, setV_mk, setO_mk, opdOf_v, opdOf_l, opdOf_d, vAdd_ii, vSub_ii, ex_mul, ex_div, ex_mod, ex_pow, vNeg_i, vLt_ii, vLe_ii, vGt_ii, vGe_ii, ex_eq, ex_ne, vIx_l, vIx_t, vIx_c, lAbs_i, lMin_i, lMax_i, lLen_l, lLen_t, lLen_c, lLen_s, lTup_l, lTup_t, ex_append, ex_setL, seqOf_l, seqOf_t, seqOf_c, ex_rng1, ex_rng2, frzO_v, frzO_l, frzO_d, ty_l, ty_d, ty_s, ex_map, ex_bind, ex_if, ok_nComp, ok_tYes, ok_iZip2, ok_sAug, vAddI_ii, wipe_nil, wipe_cons, Option.some.injEq, exists_eq_left', Opd.val.injEq, Val.bl.injEq, Val.int.injEq, List.getElem?_cons_zero, List.getElem?_cons_succ, List.set_cons_zero, List.set_cons_succ, Option.bind_some, id_eq, decide_eq_true_eq, Bool.not_eq_true', decide_eq_false_iff_not, List.length_cons, List.length_nil, Nat.zero_add, Nat.reduceAdd, true_and, and_true, List.zip_cons_cons, List.zip_nil_left, List.zip_nil_right, startS, List.map_cons, List.map_nil, List.cons_append, List.nil_append, Nat.reduceSub, List.replicate_succ, List.replicate_zero, List.append_nil, ↓reduceIte]
      refine is_plate_ok kx ?_
      try simp only [ok_bind, ok_pure, ok_eVar, ok_eC, ok_eCls, ok_op2, ok_op1, ok_opL, ok_opN, ok_tst, ok_tNot, ok_tAnd, ok_tOr, ok_eAnd, ok_eOr, ok_eNot, ok_eIf, ok_chain, ok_aNil, ok_aCons, ok_eTup, ok_eLst, ok_nLst, ok_eFrz, ok_oNone, ok_oSome, ok_opS, ok_callV, ok_callN, ok_eCell, ok_opW, ok_opR, kthen_nx, kthen_brk, kthen_cont, kthen_ret, kthen_rtn, ok_sSeq, ok_sNil, ok_brk, ok_cont, ok_sExpr, ok_sRet, ok_sRtn, ok_sIf, ok_putV, ok_putO, ok_sSet, ok_sOwn, ok_sAsg, ok_gTup, ok_gCons, ok_gNil, ok_gSub, ok_sPar, ok_putVs0, ok_putVs1, ok_iSeq, ok_iRng, turn_nx, turn_brk, turn_cont, turn_ret, turn_rtn, ok_sFor, ok_loop0, ok_loop1, fin_nx, fin_val, fin_sl, fin_rtn, ok_runF, rd_non, rd_bl, rd_int, rd_str, rd_tup, rd_lst, rd_dct, rd_scr, rd_cls, rd_ref, rd_sl, snap_v, snap_l, snap_d, rds_nil, ex_rds, toVals_nil, toVals_cons, ex_argsOf, cur_ref, cur_sl, wr_ref, wr_sl, setV_mk, setO_mk, opdOf_v, opdOf_l, opdOf_d, vAdd_ii, vSub_ii, ex_mul, ex_div, ex_mod, ex_pow, vNeg_i, vLt_ii, vLe_ii, vGt_ii, vGe_ii, ex_eq, ex_ne, vIx_l, vIx_t, vIx_c, lAbs_i, lMin_i, lMax_i, lLen_l, lLen_t, lLen_c, lLen_s, lTup_l, lTup_t, ex_append, ex_setL, seqOf_l, seqOf_t, seqOf_c, ex_rng1, ex_rng2, frzO_v, frzO_l, frzO_d, ty_l, ty_d, ty_s, ex_map, ex_bind, ex_if, ok_nComp, ok_tYes, ok_iZip2, ok_sAug, vAddI_ii, wipe_nil, wipe_cons, Option.some.injEq, exists_eq_left', Opd.val.injEq, Val.bl.injEq, Val.int.injEq, List.getElem?_cons_zero, List.getElem?_cons_succ, List.set_cons_zero, List.set_cons_succ, Option.bind_some, id_eq, decide_eq_true_eq, Bool.not_eq_true', decide_eq_false_iff_not, List.length_cons, List.length_nil, Nat.zero_add, Nat.reduceAdd, true_and, and_true, List.zip_cons_cons, List.zip_nil_left, List.zip_nil_right, startS, List.map_cons, List.map_nil, List.cons_append, List.nil_append, Nat.reduceSub, List.replicate_succ, List.replicate_zero, List.append_nil, ↓reduceIte]
      refine is_reading_ok kx ?_
      try simp only [ok_bind, ok_pure, ok_eVar, ok_eC, ok_eCls, ok_op2, ok_op1, ok_opL, ok_opN, ok_tst, ok_tNot, ok_tAnd, ok_tOr, ok_eAnd, ok_eOr, ok_eNot, ok_eIf, ok_chain, ok_aNil, ok_aCons, ok_eTup, ok_eLst, ok_nLst, ok_eFrz, ok_oNone, ok_oSome, ok_opS, ok_callV, ok_callN, ok_eCell, ok_opW, ok_opR, kthen_nx, kthen_brk, kthen_cont, kthen_ret, kthen_rtn, ok_sSeq, ok_sNil, ok_brk, ok_cont, ok_sExpr, ok_sRet, ok_sRtn, ok_sIf, ok_putV, ok_putO, ok_sSet, ok_sOwn, ok_sAsg, ok_gTup, ok_gCons, ok_gNil, ok_gSub, ok_sPar, ok_putVs0, ok_putVs1, ok_iSeq, ok_iRng, turn_nx, turn_brk, turn_cont, turn_ret, turn_rtn, ok_sFor, ok_loop0, ok_loop1, fin_nx, fin_val, fin_sl, fin_rtn, ok_runF, rd_non, rd_bl, rd_int, rd_str, rd_tup, rd_lst, rd_dct, rd_scr, rd_cls, rd_ref, rd_sl, snap_v, snap_l, snap_d, rds_nil, ex_rds, toVals_nil, toVals_cons, ex_argsOf, cur_ref, cur_sl, wr_ref, wr_sl, setV_mk, setO_mk, opdOf_v, opdOf_l, opdOf_d, vAdd_ii, vSub_ii, ex_mul, ex_div, ex_mod, ex_pow, vNeg_i, vLt_ii, vLe_ii, vGt_ii, vGe_ii, ex_eq, ex_ne, vIx_l, vIx_t, vIx_c, lAbs_i, lMin_i, lMax_i, lLen_l, lLen_t, lLen_c, lLen_s, lTup_l, lTup_t, ex_append, ex_setL, seqOf_l, seqOf_t, seqOf_c, ex_rng1, ex_rng2, frzO_v, frzO_l, frzO_d, ty_l, ty_d, ty_s, ex_map, ex_bind, ex_if, ok_nComp, ok_tYes, ok_iZip2, ok_sAug, vAddI_ii, wipe_nil, wipe_cons, Option.some.injEq, exists_eq_left', Opd.val.injEq, Val.bl.injEq, Val.int.injEq, List.getElem?_cons_zero, List.getElem?_cons_succ, List.set_cons_zero, List.set_cons_succ, Option.bind_some, id_eq, decide_eq_true_eq, Bool.not_eq_true', decide_eq_false_iff_not, List.length_cons, List.length_nil, Nat.zero_add, Nat.reduceAdd, true_and, and_true, List.zip_cons_cons, List.zip_nil_left, List.zip_nil_right, startS, List.map_cons, List.map_nil, List.cons_append, List.nil_append, Nat.reduceSub, List.replicate_succ, List.replicate_zero, List.append_nil, ↓reduceIte]
      decide
    rintro s rfl
    refine ok_step (fun s => s = ⟨[some (.v (.scr (ns.map Val.int))), some (.v (.int k)), some (.v (.ref b)), some (.v (.lst (rs.map zV))), none, o5, o6, o7, o8, some (.v x), some (.v (.bl (isOf x sSgn))), some (.v (.tup [.bl (isOf x sSgn), .bl (isOf x sRsg)]))], hp2⟩) ?_ ?_
    · try simp only [ok_bind, ok_pure, ok_eVar, ok_eC, ok_eCls, ok_op2, ok_op1, ok_opL, ok_opN, ok_tst, ok_tNot, ok_tAnd, ok_tOr, ok_eAnd, ok_eOr, ok_eNot, ok_eIf, ok_chain, ok_aNil, ok_aCons, ok_eTup, ok_eLst, ok_nLst, ok_eFrz, ok_oNone, ok_oSome, ok_opS, ok_callV, ok_callN, ok_eCell, ok_opW, ok_opR, kthen_nx, kthen_brk, kthen_cont, kthen_ret, kthen_rtn, ok_sSeq, ok_sNil, ok_brk, ok_cont, ok_sExpr, ok_sRet, ok_sRtn, ok_sIf, ok_putV, ok_putO, ok_sSet, ok_sOwn, ok_sAsg, ok_gTup, ok_gCons, ok_gNil, ok_gSub, ok_sPar, ok_putVs0, ok_putVs1, ok_iSeq, ok_iRng, turn_nx, turn_brk, turn_cont, turn_ret, turn_rtn, ok_sFor, ok_loop0, ok_loop1, fin_nx, fin_val, fin_sl, fin_rtn, ok_runF, rd_non, rd_bl, rd_int, rd_str, rd_tup, rd_lst, rd_dct, rd_scr, rd_cls, rd_ref, rd_sl, snap_v, snap_l, snap_d, rds_nil, ex_rds, toVals_nil, toVals_cons, ex_argsOf, cur_ref, cur_sl, wr_ref, wr_sl, setV_mk, setO_mk, opdOf_v, opdOf_l, opdOf_d, vAdd_ii, vSub_ii, ex_mul, ex_div, ex_mod, ex_pow, vNeg_i, vLt_ii, vLe_ii, vGt_ii, vGe_ii, ex_eq, ex_ne, vIx_l, vIx_t, vIx_c, lAbs_i, lMin_i, lMax_i, lLen_l, lLen_t, lLen_c, lLen_s, lTup_l, lTup_t, ex_append, ex_setL, seqOf_l, seqOf_t, seqOf_c, ex_rng1, ex_rng2, frzO_v, frzO_l, frzO_d, ty_l, ty_d, ty_s, ex_map, ex_bind, ex_if, ok_nComp, ok_tYes, ok_iZip2, ok_sAug, vAddI_ii, wipe_nil, wipe_cons, Option.some.injEq, exists_eq_left', Opd.val.injEq, Val.bl.injEq, Val.int.injEq, List.getElem?_cons_zero, List.getElem?_cons_succ, List.set_cons_zero, List.set_cons_succ, Option.bind_some, id_eq, decide_eq_true_eq, Bool.not_eq_true', decide_eq_false_iff_not, List.length_cons, List.length_nil, Nat.zero_add, Nat.reduceAdd, true_and, and_true, List.zip_cons_cons, List.zip_nil_left, List.zip_nil_right, startS, List.map_cons, List.map_nil, List.cons_append, List.nil_append, Nat.reduceSub, List.replicate_succ, List.replicate_zero, List.append_nil, ↓reduceIte]
      refine law_is_reading_ok kx ?_
      try simp only [ok_bind, ok_pure, ok_eVar, ok_eC, ok_eCls, ok_op2, ok_op1, ok_opL, ok_opN, ok_tst, ok_tNot, ok_tAnd, ok_tOr, ok_eAnd, ok_eOr, ok_eNot, ok_eIf, ok_chain, ok_aNil, ok_aCons, ok_eTup, ok_eLst, ok_nLst, ok_eFrz, ok_oNone, ok_oSome, ok_opS, ok_callV, ok_callN, ok_eCell, ok_opW, ok_opR, kthen_nx, kthen_brk, kthen_cont, kthen_ret, kthen_rtn, ok_sSeq, ok_sNil, ok_brk, ok_cont, ok_sExpr, ok_sRet, ok_sRtn, ok_sIf, ok_putV, ok_putO, ok_sSet, ok_sOwn, ok_sAsg, ok_gTup, ok_gCons, ok_gNil, ok_gSub, ok_sPar, ok_putVs0, ok_putVs1, ok_iSeq, ok_iRng, turn_nx, turn_brk, turn_cont, turn_ret, turn_rtn, ok_sFor, ok_loop0, ok_loop1, fin_nx, fin_val, fin_sl, fin_rtn, ok_runF, rd_non, rd_bl, rd_int, rd_str, rd_tup, rd_lst, rd_dct, rd_scr, rd_cls, rd_ref, rd_sl, snap_v, snap_l, snap_d, rds_nil, ex_rds, toVals_nil, toVals_cons, ex_argsOf, cur_ref, cur_sl, wr_ref, wr_sl, setV_mk, setO_mk, opdOf_v, opdOf_l, opdOf_d, vAdd_ii, vSub_ii, ex_mul, ex_div, ex_mod, ex_pow, vNeg_i, vLt_ii, vLe_ii, vGt_ii, vGe_ii, ex_eq, ex_ne, vIx_l, vIx_t, vIx_c, lAbs_i, lMin_i, lMax_i, lLen_l, lLen_t, lLen_c, lLen_s, lTup_l, lTup_t, ex_append, ex_setL, seqOf_l, seqOf_t, seqOf_c, ex_rng1, ex_rng2, frzO_v, frzO_l, frzO_d, ty_l, ty_d, ty_s, ex_map, ex_bind, ex_if, ok_nComp, ok_tYes, ok_iZip2, ok_sAug, vAddI_ii, wipe_nil, wipe_cons, Option.some.injEq, exists_eq_left', Opd.val.injEq, Val.bl.injEq, Val.int.injEq, List.getElem?_cons_zero, List.getElem?_cons_succ, List.set_cons_zero, List.set_cons_succ, Option.bind_some, id_eq, decide_eq_true_eq, Bool.not_eq_true', decide_eq_false_iff_not, List.length_cons, List.length_nil, Nat.zero_add, Nat.reduceAdd, true_and, and_true, List.zip_cons_cons, List.zip_nil_left, List.zip_nil_right, startS, List.map_cons, List.map_nil, List.cons_append, List.nil_append, Nat.reduceSub, List.replicate_succ, List.replicate_zero, List.append_nil, ↓reduceIte, dep_bb, eqv_bb]
      refine ⟨by decide, rfl, ?_⟩
      rw [if_neg (by decide)]
      trivial
    rintro s rfl
    try simp only [ok_bind, ok_pure, ok_eVar, ok_eC, ok_eCls, ok_op2, ok_op1, ok_opL, ok_opN, ok_tst, ok_tNot, ok_tAnd, ok_tOr, ok_eAnd, ok_eOr, ok_eNot, ok_eIf, ok_chain, ok_aNil, ok_aCons, ok_eTup, ok_eLst, ok_nLst, ok_eFrz, ok_oNone, ok_oSome, ok_opS, ok_callV, ok_callN, ok_eCell, ok_opW, ok_opR, kthen_nx, kthen_brk, kthen_cont, kthen_ret, kthen_rtn, ok_sSeq, ok_sNil, ok_brk, ok_cont, ok_sExpr, ok_sRet, ok_sRtn, ok_sIf, ok_putV, ok_putO, ok_sSet, ok_sOwn, ok_sAsg, ok_gTup, ok_gCons, ok_gNil, ok_gSub, ok_sPar, ok_putVs0, ok_putVs1, ok_iSeq, ok_iRng, turn_nx, turn_brk, turn_cont, turn_ret, turn_rtn, ok_sFor, ok_loop0, ok_loop1, fin_nx, fin_val, fin_sl, fin_rtn, ok_runF, rd_non, rd_bl, rd_int, rd_str, rd_tup, rd_lst, rd_dct, rd_scr, rd_cls, rd_ref, rd_sl, snap_v, snap_l, snap_d, rds_nil, ex_rds, toVals_nil, toVals_cons, ex_argsOf, cur_ref, cur_sl, wr_ref, wr_sl, setV_mk, setO_mk, opdOf_v, opdOf_l, opdOf_d, vAdd_ii, vSub_ii, ex_mul, ex_div, ex_mod, ex_pow, vNeg_i, vLt_ii, vLe_ii, vGt_ii, vGe_ii, ex_eq, ex_ne, vIx_l, vIx_t, vIx_c, lAbs_i, lMin_i, lMax_i, lLen_l, lLen_t, lLen_c, lLen_s, lTup_l, lTup_t, ex_append, ex_setL, seqOf_l, seqOf_t, seqOf_c, ex_rng1, ex_rng2, frzO_v, frzO_l, frzO_d, ty_l, ty_d, ty_s, ex_map, ex_bind, ex_if, ok_nComp, ok_tYes, ok_iZip2, ok_sAug, vAddI_ii, wipe_nil, wipe_cons, Option.some.injEq, exists_eq_left', Opd.val.injEq, Val.bl.injEq, Val.int.injEq, List.getElem?_cons_zero, List.getElem?_cons_succ, List.set_cons_zero, List.set_cons_succ, Option.bind_some, id_eq, decide_eq_true_eq, Bool.not_eq_true', decide_eq_false_iff_not, List.length_cons, List.length_nil, Nat.zero_add, Nat.reduceAdd, true_and, and_true, List.zip_cons_cons, List.zip_nil_left, List.zip_nil_right, startS, List.map_cons, List.map_nil, List.cons_append, List.nil_append, Nat.reduceSub, List.replicate_succ, List.replicate_zero, List.append_nil, ↓reduceIte, atI0, atI1, isi_bl_bool]
    rw [if_neg (by decide)]
    try simp only [ok_bind, ok_pure, ok_eVar, ok_eC, ok_eCls, ok_op2, ok_op1, ok_opL, ok_opN, ok_tst, ok_tNot, ok_tAnd, ok_tOr, ok_eAnd, ok_eOr, ok_eNot, ok_eIf, ok_chain, ok_aNil, ok_aCons, ok_eTup, ok_eLst, ok_nLst, ok_eFrz, ok_oNone, ok_oSome, ok_opS, ok_callV, ok_callN, ok_eCell, ok_opW, ok_opR, kthen_nx, kthen_brk, kthen_cont, kthen_ret, kthen_rtn, ok_sSeq, ok_sNil, ok_brk, ok_cont, ok_sExpr, ok_sRet, ok_sRtn, ok_sIf, ok_putV, ok_putO, ok_sSet, ok_sOwn, ok_sAsg, ok_gTup, ok_gCons, ok_gNil, ok_gSub, ok_sPar, ok_putVs0, ok_putVs1, ok_iSeq, ok_iRng, turn_nx, turn_brk, turn_cont, turn_ret, turn_rtn, ok_sFor, ok_loop0, ok_loop1, fin_nx, fin_val, fin_sl, fin_rtn, ok_runF, rd_non, rd_bl, rd_int, rd_str, rd_tup, rd_lst, rd_dct, rd_scr, rd_cls, rd_ref, rd_sl, snap_v, snap_l, snap_d, rds_nil, ex_rds, toVals_nil, toVals_cons, ex_argsOf, cur_ref, cur_sl, wr_ref, wr_sl, setV_mk, setO_mk, opdOf_v, opdOf_l, opdOf_d, vAdd_ii, vSub_ii, ex_mul, ex_div, ex_mod, ex_pow, vNeg_i, vLt_ii, vLe_ii, vGt_ii, vGe_ii, ex_eq, ex_ne, vIx_l, vIx_t, vIx_c, lAbs_i, lMin_i, lMax_i, lLen_l, lLen_t, lLen_c, lLen_s, lTup_l, lTup_t, ex_append, ex_setL, seqOf_l, seqOf_t, seqOf_c, ex_rng1, ex_rng2, frzO_v, frzO_l, frzO_d, ty_l, ty_d, ty_s, ex_map, ex_bind, ex_if, ok_nComp, ok_tYes, ok_iZip2, ok_sAug, vAddI_ii, wipe_nil, wipe_cons, Option.some.injEq, exists_eq_left', Opd.val.injEq, Val.bl.injEq, Val.int.injEq, List.getElem?_cons_zero, List.getElem?_cons_succ, List.set_cons_zero, List.set_cons_succ, Option.bind_some, id_eq, decide_eq_true_eq, Bool.not_eq_true', decide_eq_false_iff_not, List.length_cons, List.length_nil, Nat.zero_add, Nat.reduceAdd, true_and, and_true, List.zip_cons_cons, List.zip_nil_left, List.zip_nil_right, startS, List.map_cons, List.map_nil, List.cons_append, List.nil_append, Nat.reduceSub, List.replicate_succ, List.replicate_zero, List.append_nil, ↓reduceIte, atI0, atI1, isi_bl_bool]
    rw [if_neg (by decide)]
    exact ⟨_, _, _, hx', rfl⟩
  · rintro s ⟨o9, oa, ob, hx, rfl⟩
    try simp only [ok_bind, ok_pure, ok_eVar, ok_eC, ok_eCls, ok_op2, ok_op1, ok_opL, ok_opN, ok_tst, ok_tNot, ok_tAnd, ok_tOr, ok_eAnd, ok_eOr, ok_eNot, ok_eIf, ok_chain, ok_aNil, ok_aCons, ok_eTup, ok_eLst, ok_nLst, ok_eFrz, ok_oNone, ok_oSome, ok_opS, ok_callV, ok_callN, ok_eCell, ok_opW, ok_opR, kthen_nx, kthen_brk, kthen_cont, kthen_ret, kthen_rtn, ok_sSeq, ok_sNil, ok_brk, ok_cont, ok_sExpr, ok_sRet, ok_sRtn, ok_sIf, ok_putV, ok_putO, ok_sSet, ok_sOwn, ok_sAsg, ok_gTup, ok_gCons, ok_gNil, ok_gSub, ok_sPar, ok_putVs0, ok_putVs1, ok_iSeq, ok_iRng, turn_nx, turn_brk, turn_cont, turn_ret, turn_rtn, ok_sFor, ok_loop0, ok_loop1, fin_nx, fin_val, fin_sl, fin_rtn, ok_runF, rd_non, rd_bl, rd_int, rd_str, rd_tup, rd_lst, rd_dct, rd_scr, rd_cls, rd_ref, rd_sl, snap_v, snap_l, snap_d, rds_nil, ex_rds, toVals_nil, toVals_cons, ex_argsOf, cur_ref, cur_sl, wr_ref, wr_sl, setV_mk, setO_mk, opdOf_v, opdOf_l, opdOf_d, vAdd_ii, vSub_ii, ex_mul, ex_div, ex_mod, ex_pow, vNeg_i, vLt_ii, vLe_ii, vGt_ii, vGe_ii, ex_eq, ex_ne, vIx_l, vIx_t, vIx_c, lAbs_i, lMin_i, lMax_i, lLen_l, lLen_t, lLen_c, lLen_s, lTup_l, lTup_t, ex_append, ex_setL, seqOf_l, seqOf_t, seqOf_c, ex_rng1, ex_rng2, frzO_v, frzO_l, frzO_d, ty_l, ty_d, ty_s, ex_map, ex_bind, ex_if, ok_nComp, ok_tYes, ok_iZip2, ok_sAug, vAddI_ii, wipe_nil, wipe_cons, Option.some.injEq, exists_eq_left', Opd.val.injEq, Val.bl.injEq, Val.int.injEq, List.getElem?_cons_zero, List.getElem?_cons_succ, List.set_cons_zero, List.set_cons_succ, Option.bind_some, id_eq, decide_eq_true_eq, Bool.not_eq_true', decide_eq_false_iff_not, List.length_cons, List.length_nil, Nat.zero_add, Nat.reduceAdd, true_and, and_true, List.zip_cons_cons, List.zip_nil_left, List.zip_nil_right, startS, List.map_cons, List.map_nil, List.cons_append, List.nil_append, Nat.reduceSub, List.replicate_succ, List.replicate_zero, List.append_nil, ↓reduceIte]
    exact ⟨_, _, _, _, _, _, _, _, _, _, _, rfl, hf6, hx'⟩
end G

namespace Lk03
open PySem PySem.Spec PyProof.Rows L2 G
abbrev topS (i : Nat) : Stmt := PySem.Challenge.pw_gantryroad_k03_plates_and_doubts.main.body.getD i (.Pass ⟨0, 0, 0, 0⟩)
abbrev s_is_of : Stmt := topS 5
theorem sc_is_of : FnScope ["thing", "signs", "sign"] ["thing", "signs"] (defScope s_is_of) := ⟨rfl, rfl, rfl, by decide +kernel, rfl, by decide +kernel, by decide +kernel⟩
abbrev s_is_plate : Stmt := topS 6
theorem sc_is_plate : FnScope ["thing"] ["thing"] (defScope s_is_plate) := ⟨rfl, rfl, rfl, by decide +kernel, rfl, by decide +kernel, by decide +kernel⟩
abbrev s_is_reading : Stmt := topS 7
theorem sc_is_reading : FnScope ["thing"] ["thing"] (defScope s_is_reading) := ⟨rfl, rfl, rfl, by decide +kernel, rfl, by decide +kernel, by decide +kernel⟩
abbrev s_doubt : Stmt := topS 8
theorem sc_doubt : FnScope ["one", "other", "found", "sign", "there"] ["one", "other"] (defScope s_doubt) := ⟨rfl, rfl, rfl, by decide +kernel, rfl, by decide +kernel, by decide +kernel⟩
abbrev s_plate_of : Stmt := topS 9
theorem sc_plate_of : FnScope ["readings", "found", "at", "some", "reading", "best", "sign"] ["readings"] (defScope s_plate_of) := ⟨rfl, rfl, rfl, by decide +kernel, rfl, by decide +kernel, by decide +kernel⟩
abbrev s__law_bag : Stmt := topS 11
theorem sc__law_bag : FnScope ["_law_script", "_law_k", "_law_cell"] ["_law_script", "_law_k"] (defScope s__law_bag) := ⟨rfl, rfl, rfl, by decide +kernel, rfl, by decide +kernel, by decide +kernel⟩
abbrev s__law_take : Stmt := topS 12
theorem sc__law_take : FnScope ["_law_bag_here", "_law_many", "_law_found"] ["_law_bag_here", "_law_many"] (defScope s__law_take) := ⟨rfl, rfl, rfl, by decide +kernel, rfl, by decide +kernel, by decide +kernel⟩
abbrev s__law_of : Stmt := topS 13
theorem sc__law_of : FnScope ["_law_bag_here", "_law_some"] ["_law_bag_here", "_law_some"] (defScope s__law_of) := ⟨rfl, rfl, rfl, by decide +kernel, rfl, by decide +kernel, by decide +kernel⟩
abbrev s__law_bent : Stmt := topS 14
theorem sc__law_bent : FnScope ["_law_bag_here", "_law_text", "_law_more", "_law_all1", "_law_way", "_law_sign", "_law_at", "_law_words", "_law_some"] ["_law_bag_here", "_law_text", "_law_more"] (defScope s__law_bent) := ⟨rfl, rfl, rfl, by decide +kernel, rfl, by decide +kernel, by decide +kernel⟩
abbrev s__law_odd : Stmt := topS 15
theorem sc__law_odd : FnScope ["_law_bag_here", "_law_some"] ["_law_bag_here"] (defScope s__law_odd) := ⟨rfl, rfl, rfl, by decide +kernel, rfl, by decide +kernel, by decide +kernel⟩
abbrev s__law_is_of : Stmt := topS 16
theorem sc__law_is_of : FnScope ["_law_thing", "_law_signs", "_law_sign"] ["_law_thing", "_law_signs"] (defScope s__law_is_of) := ⟨rfl, rfl, rfl, by decide +kernel, rfl, by decide +kernel, by decide +kernel⟩
abbrev s__law_is_reading : Stmt := topS 17
theorem sc__law_is_reading : FnScope ["_law_thing"] ["_law_thing"] (defScope s__law_is_reading) := ⟨rfl, rfl, rfl, by decide +kernel, rfl, by decide +kernel, by decide +kernel⟩
abbrev s__law_doubt : Stmt := topS 18
theorem sc__law_doubt : FnScope ["_law_one", "_law_other", "_law_found", "_law_at"] ["_law_one", "_law_other"] (defScope s__law_doubt) := ⟨rfl, rfl, rfl, by decide +kernel, rfl, by decide +kernel, by decide +kernel⟩
abbrev s__law_reading : Stmt := topS 19
theorem sc__law_reading : FnScope ["_law_bag_here", "_law_signs", "_law_turn"] ["_law_bag_here"] (defScope s__law_reading) := ⟨rfl, rfl, rfl, by decide +kernel, rfl, by decide +kernel, by decide +kernel⟩
abbrev s__law_plate_of : Stmt := topS 20
theorem sc__law_plate_of : FnScope ["_law_readings", "_law_found", "_law_at", "_law_best", "_law_most", "_law_sign", "_law_many", "_law_reading_here"] ["_law_readings"] (defScope s__law_plate_of) := ⟨rfl, rfl, rfl, by decide +kernel, rfl, by decide +kernel, by decide +kernel⟩
abbrev s_law : Stmt := topS 21
theorem sc_law : FnScope ["_law_script", "_law_k", "_law_bag_here", "_law_some", "_law_turn", "_law_one", "_law_other", "_law_found", "_law_like", "_law_thing", "_law_plain", "_law_told"] ["_law_script"] (defScope s_law) := ⟨rfl, rfl, rfl, by decide +kernel, rfl, by decide +kernel, by decide +kernel⟩
theorem B_abs : bootBuiltins "abs" = some (.builtin "abs") := by with_unfolding_all rfl
theorem B_min : bootBuiltins "min" = some (.builtin "min") := by with_unfolding_all rfl
theorem B_isinstance : bootBuiltins "isinstance" = some (.builtin "isinstance") := by with_unfolding_all rfl
theorem B_all : bootBuiltins "all" = some (.builtin "all") := by with_unfolding_all rfl
theorem B_bool : bootBuiltins "bool" = some (.type "bool") := by with_unfolding_all rfl
theorem B_list : bootBuiltins "list" = some (.type "list") := by with_unfolding_all rfl
theorem B_str : bootBuiltins "str" = some (.type "str") := by with_unfolding_all rfl
structure Fcts (K : PySem.W.Frag) (mg : Str → Option Value) : Prop where
  f_is_of : Fct K mg "is_of" (topS 5)
  f_is_plate : Fct K mg "is_plate" (topS 6)
  f_is_reading : Fct K mg "is_reading" (topS 7)
  f_doubt : Fct K mg "doubt" (topS 8)
  f_plate_of : Fct K mg "plate_of" (topS 9)
  f__law_bag : Fct K mg "_law_bag" (topS 11)
  f__law_take : Fct K mg "_law_take" (topS 12)
  f__law_of : Fct K mg "_law_of" (topS 13)
  f__law_bent : Fct K mg "_law_bent" (topS 14)
  f__law_odd : Fct K mg "_law_odd" (topS 15)
  f__law_is_of : Fct K mg "_law_is_of" (topS 16)
  f__law_is_reading : Fct K mg "_law_is_reading" (topS 17)
  f__law_doubt : Fct K mg "_law_doubt" (topS 18)
  f__law_reading : Fct K mg "_law_reading" (topS 19)
  f__law_plate_of : Fct K mg "_law_plate_of" (topS 20)
  f_law : Fct K mg "law" (topS 21)
  b_isinstance : mg "isinstance" = none
  b_str : mg "str" = none
  b_len : mg "len" = none
  b_all : mg "all" = none
  b_zip : mg "zip" = none
  b_range : mg "range" = none
  b_min : mg "min" = none
  b_abs : mg "abs" = none
  b_list : mg "list" = none
  b_bool : mg "bool" = none
  c_MOST_SIGNS : ∃ t, mg "MOST_SIGNS" = some (.int 7 t)
  c_SIGNS : ∃ t, mg "SIGNS" = some (.str "0123456789ABCDEFGHIJKLMNOPQRSTUVWXYZ" t)
  c_UNSEEN : ∃ t, mg "UNSEEN" = some (.str "?" t)
  c_MOST_DOUBT : ∃ t, mg "MOST_DOUBT" = some (.int 20 t)
section
variable {P : Program} {w : World} {K : PySem.W.Frag} {mg : Str → Option Value} {base : Heap}
theorem d_is_of (T : Fcts K mg) : Def P w K mg base "is_of" ["thing", "signs"] 1 2 F_is_of := by
  refine def_ok T.f_is_of sc_is_of (by decide) (fun _ _ _ _ _ _ us hl => match us, hl with | [_, _], _ => rfl) fun f cdv A outer s H E hr => ?_
  have hc : Cok (cxOf CX0 P w K mg base ["thing", "signs", "sign"] "is_of" (defScope s_is_of) f cdv A outer s H E).nox := .of rfl hr sc_is_of.nd
  exact fss_one (fs_ret (fe_and (fe_callB call_isi imp_isi (by rfl) T.b_isinstance B_isinstance (fa_cons (fe_var (pv 0)) (fa_cons (fe_cls (by rfl) T.b_str B_str) (fa_nil)))) (fe_and (fe_chain op_le imp_le op_le imp_le (fe_int) (fe_callB call_lenS imp_len (by rfl) T.b_len PySem.boot_len (fa_cons (fe_var (pv 0)) (fa_nil))) (fe_gint (by rfl) T.c_MOST_SIGNS.choose_spec)) (fe_one (fe_callB (call_all hc) imp_LG (by rfl) T.b_all B_all (fa_cons (fe_frz (fn_comp (own := [("sign", 2)]) hc (fi_seq (fe_var (pv 0))) (blkOk_by (N := ["thing", "signs", "sign"]) (sc := defScope s_is_of) (own := [("sign", 2)]) (by decide +kernel)) (fun _ _ _ _ _ => fgc_name (i := 2) hc.blk rfl (.inl rfl) (by decide)) (fun _ _ _ _ _ => fts_nil) (fun _ _ _ _ _ => fe_cmp (op_inG hc.blk) imp_2G (fe_var (pv 2)) (fe_var (pv 1)) (by with_unfolding_all rfl)))) (fa_nil)))))))
theorem d_is_plate (T : Fcts K mg) : Def P w K mg base "is_plate" ["thing"] 2 1 F_is_plate := by
  refine def_ok T.f_is_plate sc_is_plate (by decide) (fun _ _ _ _ _ _ us hl => match us, hl with | [_], _ => rfl) fun f cdv A outer s H E hr => ?_
  have hc : Cok (cxOf CX0 P w K mg base ["thing"] "is_plate" (defScope s_is_plate) f cdv A outer s H E).nox := .of rfl hr sc_is_plate.nd
  have D_is_of := d_is_of (P := P) (w := w) (base := base) T
  exact fss_one (fs_ret (fe_callD D_is_of (hr.mono (by decide)) (by rfl) (fa_cons (fe_var (pv 0)) (fa_cons (fe_gstr (by rfl) T.c_SIGNS.choose_spec) (fa_nil)))))
theorem d_is_reading (T : Fcts K mg) : Def P w K mg base "is_reading" ["thing"] 2 1 F_is_reading := by
  refine def_ok T.f_is_reading sc_is_reading (by decide) (fun _ _ _ _ _ _ us hl => match us, hl with | [_], _ => rfl) fun f cdv A outer s H E hr => ?_
  have hc : Cok (cxOf CX0 P w K mg base ["thing"] "is_reading" (defScope s_is_reading) f cdv A outer s H E).nox := .of rfl hr sc_is_reading.nd
  have D_is_of := d_is_of (P := P) (w := w) (base := base) T
  exact fss_one (fs_ret (fe_callD D_is_of (hr.mono (by decide)) (by rfl) (fa_cons (fe_var (pv 0)) (fa_cons (fe_op2 op_addA imp_add (fe_gstr (by rfl) T.c_SIGNS.choose_spec) (fe_gstr (by rfl) T.c_UNSEEN.choose_spec)) (fa_nil)))))
theorem d_doubt (T : Fcts K mg) : Def P w K mg base "doubt" ["one", "other"] 1 2 F_doubt := by
  refine def_ok T.f_doubt sc_doubt (by decide) (fun _ _ _ _ _ _ us hl => match us, hl with | [_, _], _ => rfl) fun f cdv A outer s H E hr => ?_
  have hc : Cok (cxOf CX0 P w K mg base ["one", "other", "found", "sign", "there"] "doubt" (defScope s_doubt) f cdv A outer s H E).nox := .of rfl hr sc_doubt.nd
  exact fss_cons (fs_if (ft_cmp (op_neD hc.u64) imp_ne (fe_callB call_lenS imp_len (by rfl) T.b_len PySem.boot_len (fa_cons (fe_var (pv 0)) (fa_nil))) (fe_callB call_lenS imp_len (by rfl) T.b_len PySem.boot_len (fa_cons (fe_var (pv 1)) (fa_nil))) (nomark _)) (fss_one (fs_ret (fe_non))) (fss_nil))
      (fss_cons (fs_set (i := 2) hc rfl (.inl rfl) (fe_int))
      (fss_cons (fs_for PassesOwn.never hc (fi_zip (by rfl) T.b_zip (fa_cons (fe_var (pv 0)) (fa_cons (fe_var (pv 1)) (fa_nil)))) (fg_tup hc (fgs_cons (fg_name (i := 3) hc rfl (.inl rfl)) (fgs_cons (fg_name (i := 4) hc rfl (.inl rfl)) (fgs_nil)))) (fss_one (fs_if (ft_cmp (op_neD hc.u64) imp_ne (fe_var (pv 3)) (fe_var (pv 4)) (nomark _)) (fss_one (fs_augI (i := 2) hc rfl (.inl rfl) (fe_if (ft_cmp (op_inG hc) imp_2G (fe_gstr (by rfl) T.c_UNSEEN.choose_spec) (fe_tup (fa_cons (fe_var (pv 3)) (fa_cons (fe_var (pv 4)) (fa_nil)))) (by with_unfolding_all rfl)) (fe_int) (fe_int)))) (fss_nil))))
      (fss_one (fs_ret (fe_if (ft_cmp op_le imp_le (fe_var (pv 2)) (fe_gint (by rfl) T.c_MOST_DOUBT.choose_spec) (nomark _)) (fe_var (pv 2)) (fe_non))))))
theorem d_plate_of (T : Fcts K mg) : Def P w K mg base "plate_of" ["readings"] 1 1 F_plate_of := by
  refine def_ok T.f_plate_of sc_plate_of (by decide) (fun _ _ _ _ _ _ us hl => match us, hl with | [_], _ => rfl) fun f cdv A outer s H E hr => ?_
  have hc : Cok (cxOf CX0 P w K mg base ["readings", "found", "at", "some", "reading", "best", "sign"] "plate_of" (defScope s_plate_of) f cdv A outer s H E).nox := .of rfl hr sc_plate_of.nd
  exact fss_cons (fs_own (i := 1) hc rfl (.inl rfl) (fn_lst (fa_nil)))
      (fss_cons (fs_for PassesOwn.never hc (fi_range1 (by rfl) T.b_range (fa_cons (fe_callB call_lenS imp_len (by rfl) T.b_len PySem.boot_len (fa_cons (fe_ix ix_seq imp_ix (fe_var (pv 0)) (fe_int) (fun _ _ => rfl)) (fa_nil))) (fa_nil))) (fg_name (i := 2) hc rfl (.inr rfl)) (fss_cons (fs_set (i := 3) hc rfl (.inr rfl) (fe_frz (fn_comp (own := [("reading", 4)]) hc (fi_seq (fe_var (pv 0))) (blkOk_by (N := ["readings", "found", "at", "some", "reading", "best", "sign"]) (sc := defScope s_plate_of) (own := [("reading", 4)]) (by decide +kernel)) (fun _ _ _ _ _ => fgc_name (i := 4) hc.blk rfl (.inl rfl) (by decide)) (fun _ _ _ _ _ => fts_one (ft_cmp (op_neD hc.blk.u64) imp_ne (fe_ix ix_seq imp_ix (fe_var (pv 4)) (fe_var (pv 2)) (fun _ _ => rfl)) (fe_gstr (by rfl) T.c_UNSEEN.choose_spec) (nomark _))) (fun _ _ _ _ _ => fe_ix ix_seq imp_ix (fe_var (pv 4)) (fe_var (pv 2)) (fun _ _ => rfl)))))
      (fss_cons (fs_set (i := 5) hc rfl (.inl rfl) (fe_callB (call_minL hc) imp_LG (by rfl) T.b_min B_min (fa_cons (fe_op2 op_addA imp_add (fe_frz (fn_comp (own := [("sign", 6)]) hc (fi_seq (fe_var (pv 3))) (blkOk_by (N := ["readings", "found", "at", "some", "reading", "best", "sign"]) (sc := defScope s_plate_of) (own := [("sign", 6)]) (by decide +kernel)) (fun _ _ _ _ _ => fgc_name (i := 6) hc.blk rfl (.inl rfl) (by decide)) (fun _ _ _ _ _ => fts_nil) (fun _ _ _ _ _ => fe_tup (fa_cons (fe_op2 op_sub imp_sub (fe_int) (fe_mR PySem.F.plainAttrs_list PySem.F.slot_list_count PySem.F.type_list_count (mt_count hc.blk) imp_MG (by decide) (fe_var (pv 3)) (fa_cons (fe_var (pv 6)) (fa_nil)))) (fa_cons (fe_var (pv 6)) (fa_nil)))))) (fe_lst (fa_cons (fe_tup (fa_cons (fe_int) (fa_cons (fe_gstr (by rfl) T.c_UNSEEN.choose_spec) (fa_nil)))) (fa_nil)))) (fa_nil))))
      (fss_one (fs_expr (fe_mW PySem.F.plainAttrs_list PySem.F.slot_list_append PySem.F.type_list_append mt_append imp_append (by decide) isC_append (fe_var (pv 1)) (fa_cons (fe_ix ix_seq imp_ix (fe_var (pv 5)) (fe_int) (fun _ _ => rfl)) (fa_nil))))))))
      (fss_one (fs_ret (fe_mR PySem.F.plainAttrs_str PySem.F.slot_str_join PySem.F.type_str_join mt_joinG imp_MG (by decide) (fe_str) (fa_cons (fe_var (pv 1)) (fa_nil))))))
theorem d__law_bag (T : Fcts K mg) : Def P w K mg base "_law_bag" ["_law_script", "_law_k"] 1 2 F__law_bag := by
  refine def_ok T.f__law_bag sc__law_bag (by decide) (fun _ _ _ _ _ _ us hl => match us, hl with | [_, _], _ => rfl) fun f cdv A outer s H E hr => ?_
  have hc : Cok (cxOf CX0 P w K mg base ["_law_script", "_law_k", "_law_cell"] "_law_bag" (defScope s__law_bag) f cdv A outer s H E).nox := .of rfl hr sc__law_bag.nd
  exact fss_cons (fs_set (i := 2) hc rfl (.inl rfl) (fe_int))
      (fss_cons (fs_if (ft_cmp op_lt imp_lt (fe_var (pv 1)) (fe_callB call_lenS imp_len (by rfl) T.b_len PySem.boot_len (fa_cons (fe_var (pv 0)) (fa_nil))) (nomark _)) (fss_one (fs_set (i := 2) hc rfl (.inl rfl) (fe_callB call_abs imp_abs (by rfl) T.b_abs B_abs (fa_cons (fe_ix ix_seq imp_ix (fe_var (pv 0)) (fe_var (pv 1)) (fun _ _ => rfl)) (fa_nil))))) (fss_nil))
      (fss_cons (fs_if (ft_cmp op_lt imp_lt (fe_var (pv 2)) (fe_op2 op_pow imp_pow (fe_int) (fe_int)) (nomark _)) (fss_one (fs_ret (fe_cell (fn_lst (fa_cons (fe_int) (fa_cons (fe_op2 op_addA imp_add (fe_int) (fe_op2 op_mod imp_mod (fe_op2 op_addA imp_add (fe_op2 op_mul imp_mul (fe_var (pv 2)) (fe_int)) (fe_op2 op_mul imp_mul (fe_int) (fe_var (pv 1)))) (fe_int))) (fa_nil))))))) (fss_nil))
      (fss_one (fs_ret (fe_cell (fn_lst (fa_cons (fe_var (pv 2)) (fa_cons (fe_op2 op_addA imp_add (fe_int) (fe_op2 op_mod imp_mod (fe_op2 op_addA imp_add (fe_var (pv 2)) (fe_var (pv 1))) (fe_int))) (fa_nil)))))))))
theorem d__law_take (T : Fcts K mg) : Def P w K mg base "_law_take" ["_law_bag_here", "_law_many"] 1 2 F__law_take := by
  refine def_ok T.f__law_take sc__law_take (by decide) (fun _ _ _ _ _ _ us hl => match us, hl with | [_, _], _ => rfl) fun f cdv A outer s H E hr => ?_
  have hc : Cok (cxOf CX0 P w K mg base ["_law_bag_here", "_law_many", "_law_found"] "_law_take" (defScope s__law_take) f cdv A outer s H E).nox := .of rfl hr sc__law_take.nd
  exact fss_cons (fs_if (ft_cmp op_gt imp_gt (fe_ix ix_seq imp_ix (fe_var (pv 0)) (fe_int) (fun _ _ => rfl)) (fe_int) (nomark _)) (fss_cons (fs_set (i := 2) hc rfl (.inl rfl) (fe_op2 op_mod imp_mod (fe_ix ix_seq imp_ix (fe_var (pv 0)) (fe_int) (fun _ _ => rfl)) (fe_var (pv 1))))
      (fss_cons (fs_asg (fe_op2 op_fdiv imp_div (fe_ix ix_seq imp_ix (fe_var (pv 0)) (fe_int) (fun _ _ => rfl)) (fe_var (pv 1))) (fg_sub set_list imp_setL isC_setL (fe_var (pv 0)) (fe_int)))
      (fss_one (fs_ret (fe_var (pv 2)))))) (fss_nil))
      (fss_cons (fs_asg (fe_op2 op_mod imp_mod (fe_op2 op_mul imp_mul (fe_ix ix_seq imp_ix (fe_var (pv 0)) (fe_int) (fun _ _ => rfl)) (fe_int)) (fe_int)) (fg_sub set_list imp_setL isC_setL (fe_var (pv 0)) (fe_int)))
      (fss_one (fs_ret (fe_op2 op_mod imp_mod (fe_op2 op_fdiv imp_div (fe_op2 op_mod imp_mod (fe_op2 op_mul imp_mul (fe_ix ix_seq imp_ix (fe_var (pv 0)) (fe_int) (fun _ _ => rfl)) (fe_ix ix_seq imp_ix (fe_var (pv 0)) (fe_int) (fun _ _ => rfl))) (fe_int)) (fe_int)) (fe_var (pv 1))))))
theorem d__law_of (T : Fcts K mg) : Def P w K mg base "_law_of" ["_law_bag_here", "_law_some"] 2 2 F__law_of := by
  refine def_ok T.f__law_of sc__law_of (by decide) (fun _ _ _ _ _ _ us hl => match us, hl with | [_, _], _ => rfl) fun f cdv A outer s H E hr => ?_
  have hc : Cok (cxOf CX0 P w K mg base ["_law_bag_here", "_law_some"] "_law_of" (defScope s__law_of) f cdv A outer s H E).nox := .of rfl hr sc__law_of.nd
  have D__law_take := d__law_take (P := P) (w := w) (base := base) T
  exact fss_one (fs_ret (fe_ix ix_seq imp_ix (fe_var (pv 1)) (fe_callD D__law_take (hr.mono (by decide)) (by rfl) (fa_cons (fe_var (pv 0)) (fa_cons (fe_callB call_lenS imp_len (by rfl) T.b_len PySem.boot_len (fa_cons (fe_var (pv 1)) (fa_nil))) (fa_nil)))) (fun _ _ => rfl)))
theorem d__law_bent (T : Fcts K mg) : Def P w K mg base "_law_bent" ["_law_bag_here", "_law_text", "_law_more"] 3 3 F__law_bent := by
  refine def_ok T.f__law_bent sc__law_bent (by decide) (fun _ _ _ _ _ _ us hl => match us, hl with | [_, _, _], _ => rfl) fun f cdv A outer s H E hr => ?_
  have hc : Cok (cxOf CX0 P w K mg base ["_law_bag_here", "_law_text", "_law_more", "_law_all1", "_law_way", "_law_sign", "_law_at", "_law_words", "_law_some"] "_law_bent" (defScope s__law_bent) f cdv A outer s H E).nox := .of rfl hr sc__law_bent.nd
  have D__law_of := d__law_of (P := P) (w := w) (base := base) T
  have D__law_take := d__law_take (P := P) (w := w) (base := base) T
  exact fss_cons (fs_set (i := 3) hc rfl (.inl rfl) (fe_str))
      (fss_cons (fs_set (i := 4) hc rfl (.inl rfl) (fe_callD D__law_take (hr.mono (by decide)) (by rfl) (fa_cons (fe_var (pv 0)) (fa_cons (fe_int) (fa_nil)))))
      (fss_cons (fs_set (i := 5) hc rfl (.inl rfl) (fe_callD D__law_of (hr.mono (by decide)) (by rfl) (fa_cons (fe_var (pv 0)) (fa_cons (fe_var (pv 3)) (fa_nil)))))
      (fss_cons (fs_if (ft_cmp (op_eqD hc.u64) imp_eq (fe_callD D__law_take (hr.mono (by decide)) (by rfl) (fa_cons (fe_var (pv 0)) (fa_cons (fe_int) (fa_nil)))) (fe_int) (nomark _)) (fss_one (fs_set (i := 5) hc rfl (.inl rfl) (fe_callD D__law_of (hr.mono (by decide)) (by rfl) (fa_cons (fe_var (pv 0)) (fa_cons (fe_var (pv 2)) (fa_nil)))))) (fss_nil))
      (fss_cons (fs_set (i := 6) hc rfl (.inl rfl) (fe_callD D__law_take (hr.mono (by decide)) (by rfl) (fa_cons (fe_var (pv 0)) (fa_cons (fe_op2 op_addA imp_add (fe_callB call_lenS imp_len (by rfl) T.b_len PySem.boot_len (fa_cons (fe_var (pv 1)) (fa_nil))) (fe_int)) (fa_nil)))))
      (fss_cons (fs_if (ft_cmp op_lt imp_lt (fe_var (pv 4)) (fe_int) (nomark _)) (fss_one (fs_ret (fe_op2 op_addA imp_add (fe_op2 op_addA imp_add (fe_slice sl_all imp_cut (fe_var (pv 1)) (fo_none) (fo_some (fe_var (pv 6)))) (fe_var (pv 5))) (fe_slice sl_all imp_cut (fe_var (pv 1)) (fo_some (fe_op2 op_addA imp_add (fe_var (pv 6)) (fe_var (pv 4)))) (fo_none))))) (fss_nil))
      (fss_cons (fs_if (ft_cmp (op_eqD hc.u64) imp_eq (fe_var (pv 4)) (fe_int) (nomark _)) (fss_one (fs_ret (fe_op2 op_addA imp_add (fe_slice sl_all imp_cut (fe_var (pv 1)) (fo_none) (fo_some (fe_var (pv 6)))) (fe_slice sl_all imp_cut (fe_var (pv 1)) (fo_some (fe_op2 op_addA imp_add (fe_var (pv 6)) (fe_int))) (fo_none))))) (fss_nil))
      (fss_cons (fs_if (ft_cmp (op_eqD hc.u64) imp_eq (fe_var (pv 4)) (fe_int) (nomark _)) (fss_one (fs_ret (fe_op2 op_addA imp_add (fe_slice sl_all imp_cut (fe_var (pv 1)) (fo_none) (fo_some (fe_op2 op_addA imp_add (fe_var (pv 6)) (fe_int)))) (fe_slice sl_all imp_cut (fe_var (pv 1)) (fo_some (fe_var (pv 6))) (fo_none))))) (fss_nil))
      (fss_cons (fs_if (ft_cmp (op_eqD hc.u64) imp_eq (fe_var (pv 4)) (fe_int) (nomark _)) (fss_one (fs_ret (fe_op2 op_addA imp_add (fe_op2 op_addA imp_add (fe_slice sl_all imp_cut (fe_var (pv 1)) (fo_none) (fo_some (fe_var (pv 6)))) (fe_revS (fe_slice sl_all imp_cut (fe_var (pv 1)) (fo_some (fe_var (pv 6))) (fo_some (fe_op2 op_addA imp_add (fe_var (pv 6)) (fe_int)))))) (fe_slice sl_all imp_cut (fe_var (pv 1)) (fo_some (fe_op2 op_addA imp_add (fe_var (pv 6)) (fe_int))) (fo_none))))) (fss_nil))
      (fss_cons (fs_set (i := 7) hc rfl (.inl rfl) (fe_mR PySem.F.plainAttrs_str PySem.F.slot_str_split PySem.F.type_str_split mt_splitG imp_MG (by decide) (fe_var (pv 1)) (fa_cons (fe_str) (fa_nil))))
      (fss_cons (fs_set (i := 6) hc rfl (.inl rfl) (fe_callD D__law_take (hr.mono (by decide)) (by rfl) (fa_cons (fe_var (pv 0)) (fa_cons (fe_callB call_lenS imp_len (by rfl) T.b_len PySem.boot_len (fa_cons (fe_var (pv 7)) (fa_nil))) (fa_nil)))))
      (fss_cons (fs_set (i := 8) hc rfl (.inl rfl) (fe_op2 op_mulG imp_2G (fe_lst (fa_cons (fe_ix ix_seq imp_ix (fe_var (pv 7)) (fe_var (pv 6)) (fun _ _ => rfl)) (fa_nil))) (fe_ix ix_seq imp_ix (fe_lst (fa_cons (fe_int) (fa_cons (fe_int) (fa_cons (fe_int) (fa_cons (fe_int) (fa_nil)))))) (fe_op2 op_sub imp_sub (fe_var (pv 4)) (fe_int)) (fun _ _ => rfl))))
      (fss_cons (fs_if (ft_cmp (op_eqD hc.u64) imp_eq (fe_var (pv 4)) (fe_int) (nomark _)) (fss_one (fs_set (i := 8) hc rfl (.inl rfl) (fe_lst (fa_cons (fe_callD D__law_of (hr.mono (by decide)) (by rfl) (fa_cons (fe_var (pv 0)) (fa_cons (fe_var (pv 7)) (fa_nil)))) (fa_nil))))) (fss_nil))
      (fss_cons (fs_if (ft_cmp (op_eqD hc.u64) imp_eq (fe_var (pv 4)) (fe_int) (nomark _)) (fss_one (fs_set (i := 8) hc rfl (.inl rfl) (fe_lst (fa_cons (fe_callD D__law_of (hr.mono (by decide)) (by rfl) (fa_cons (fe_var (pv 0)) (fa_cons (fe_var (pv 2)) (fa_nil)))) (fa_nil))))) (fss_nil))
      (fss_one (fs_ret (fe_mR PySem.F.plainAttrs_str PySem.F.slot_str_join PySem.F.type_str_join mt_joinG imp_MG (by decide) (fe_str) (fa_cons (fe_op2 op_addA imp_add (fe_op2 op_addA imp_add (fe_slice sl_all imp_cut (fe_var (pv 7)) (fo_none) (fo_some (fe_var (pv 6)))) (fe_var (pv 8))) (fe_slice sl_all imp_cut (fe_var (pv 7)) (fo_some (fe_op2 op_addA imp_add (fe_var (pv 6)) (fe_int))) (fo_none))) (fa_nil))))))))))))))))))
theorem d__law_odd (T : Fcts K mg) : Def P w K mg base "_law_odd" ["_law_bag_here"] 2 1 F__law_odd := by
  refine def_ok T.f__law_odd sc__law_odd (by decide) (fun _ _ _ _ _ _ us hl => match us, hl with | [_], _ => rfl) fun f cdv A outer s H E hr => ?_
  have hc : Cok (cxOf CX0 P w K mg base ["_law_bag_here", "_law_some"] "_law_odd" (defScope s__law_odd) f cdv A outer s H E).nox := .of rfl hr sc__law_odd.nd
  have D__law_take := d__law_take (P := P) (w := w) (base := base) T
  exact fss_cons (fs_set (i := 1) hc rfl (.inl rfl) (fe_lst (fa_cons (fe_non) (fa_cons (fe_bl) (fa_cons (fe_bl) (fa_cons (fe_int) (fa_cons (fe_int) (fa_cons (fe_op1 un_neg imp_neg (fe_int)) (fa_cons (fe_int) (fa_cons (fe_op2 op_pow imp_pow (fe_int) (fe_int)) (fa_cons (fe_str) (fa_cons (fe_str) (fa_cons (fe_str) (fa_cons (fe_str) (fa_cons (fe_str) (fa_cons (fe_tup (fa_nil)) (fa_cons (fe_lst (fa_nil)) (fa_cons (fe_tup (fa_cons (fe_int) (fa_cons (fe_int) (fa_nil)))) (fa_cons (fe_str) (fa_cons (fe_tup (fa_cons (fe_non) (fa_nil))) (fa_nil)))))))))))))))))))))
      (fss_cons (fs_set (i := 1) hc rfl (.inl rfl) (fe_op2 op_addA imp_add (fe_var (pv 1)) (fe_lst (fa_cons (fe_tup (fa_cons (fe_tup (fa_cons (fe_str) (fa_cons (fe_str) (fa_cons (fe_int) (fa_cons (fe_int) (fa_nil)))))) (fa_cons (fe_tup (fa_cons (fe_str) (fa_cons (fe_str) (fa_cons (fe_int) (fa_cons (fe_int) (fa_nil)))))) (fa_nil)))) (fa_cons (fe_lst (fa_cons (fe_tup (fa_cons (fe_str) (fa_cons (fe_str) (fa_cons (fe_int) (fa_cons (fe_int) (fa_nil)))))) (fa_cons (fe_tup (fa_cons (fe_str) (fa_cons (fe_str) (fa_cons (fe_int) (fa_cons (fe_int) (fa_nil)))))) (fa_nil)))) (fa_cons (fe_tup (fa_cons (fe_tup (fa_cons (fe_int) (fa_cons (fe_int) (fa_cons (fe_int) (fa_nil))))) (fa_nil))) (fa_nil)))))))
      (fss_cons (fs_set (i := 1) hc rfl (.inl rfl) (fe_op2 op_addA imp_add (fe_var (pv 1)) (fe_lst (fa_cons (fe_tup (fa_cons (fe_tup (fa_cons (fe_int) (fa_cons (fe_int) (fa_cons (fe_str) (fa_cons (fe_str) (fa_nil)))))) (fa_nil))) (fa_cons (fe_lst (fa_cons (fe_tup (fa_cons (fe_int) (fa_cons (fe_int) (fa_cons (fe_str) (fa_cons (fe_str) (fa_nil)))))) (fa_nil))) (fa_cons (fe_tup (fa_cons (fe_tup (fa_nil)) (fa_cons (fe_tup (fa_nil)) (fa_nil)))) (fa_cons (fe_tup (fa_cons (fe_tup (fa_cons (fe_int) (fa_cons (fe_int) (fa_nil)))) (fa_nil))) (fa_cons (fe_tup (fa_cons (fe_tup (fa_cons (fe_int) (fa_cons (fe_int) (fa_cons (fe_int) (fa_nil))))) (fa_nil))) (fa_nil)))))))))
      (fss_one (fs_ret (fe_ix ix_seq imp_ix (fe_var (pv 1)) (fe_callD D__law_take (hr.mono (by decide)) (by rfl) (fa_cons (fe_var (pv 0)) (fa_cons (fe_callB call_lenS imp_len (by rfl) T.b_len PySem.boot_len (fa_cons (fe_var (pv 1)) (fa_nil))) (fa_nil)))) (fun _ _ => rfl))))))
theorem d__law_is_of (T : Fcts K mg) : Def P w K mg base "_law_is_of" ["_law_thing", "_law_signs"] 1 2 F__law_is_of := by
  refine def_ok T.f__law_is_of sc__law_is_of (by decide) (fun _ _ _ _ _ _ us hl => match us, hl with | [_, _], _ => rfl) fun f cdv A outer s H E hr => ?_
  have hc : Cok (cxOf CX0 P w K mg base ["_law_thing", "_law_signs", "_law_sign"] "_law_is_of" (defScope s__law_is_of) f cdv A outer s H E).nox := .of rfl hr sc__law_is_of.nd
  exact fss_cons (fs_if (ft_w (fw_or (ft_not (ft_val (fe_callB call_isi imp_isi (by rfl) T.b_isinstance B_isinstance (fa_cons (fe_var (pv 0)) (fa_cons (fe_cls (by rfl) T.b_str B_str) (fa_nil)))))) (fw_or1 (ft_not (ft_chain op_le imp_le op_le imp_le (fe_int) (fe_callB call_lenS imp_len (by rfl) T.b_len PySem.boot_len (fa_cons (fe_var (pv 0)) (fa_nil))) (fe_int)))))) (fss_one (fs_ret (fe_bl))) (fss_nil))
      (fss_one (fs_ret (fe_cmp (op_eqD hc.u64) imp_eq (fe_frz (fn_comp (own := [("_law_sign", 2)]) hc (fi_seq (fe_var (pv 0))) (blkOk_by (N := ["_law_thing", "_law_signs", "_law_sign"]) (sc := defScope s__law_is_of) (own := [("_law_sign", 2)]) (by decide +kernel)) (fun _ _ _ _ _ => fgc_name (i := 2) hc.blk rfl (.inl rfl) (by decide)) (fun _ _ _ _ _ => fts_one (ft_cmp (op_notInG hc.blk) imp_2G (fe_var (pv 2)) (fe_var (pv 1)) (by with_unfolding_all rfl))) (fun _ _ _ _ _ => fe_var (pv 2)))) (fe_lst (fa_nil)) (nomark _))))
theorem d__law_is_reading (T : Fcts K mg) : Def P w K mg base "_law_is_reading" ["_law_thing"] 2 1 F__law_is_reading := by
  refine def_ok T.f__law_is_reading sc__law_is_reading (by decide) (fun _ _ _ _ _ _ us hl => match us, hl with | [_], _ => rfl) fun f cdv A outer s H E hr => ?_
  have hc : Cok (cxOf CX0 P w K mg base ["_law_thing"] "_law_is_reading" (defScope s__law_is_reading) f cdv A outer s H E).nox := .of rfl hr sc__law_is_reading.nd
  have D__law_is_of := d__law_is_of (P := P) (w := w) (base := base) T
  exact fss_one (fs_ret (fe_callD D__law_is_of (hr.mono (by decide)) (by rfl) (fa_cons (fe_var (pv 0)) (fa_cons (fe_str) (fa_nil)))))
theorem d__law_doubt (T : Fcts K mg) : Def P w K mg base "_law_doubt" ["_law_one", "_law_other"] 1 2 F__law_doubt := by
  refine def_ok T.f__law_doubt sc__law_doubt (by decide) (fun _ _ _ _ _ _ us hl => match us, hl with | [_, _], _ => rfl) fun f cdv A outer s H E hr => ?_
  have hc : Cok (cxOf CX0 P w K mg base ["_law_one", "_law_other", "_law_found", "_law_at"] "_law_doubt" (defScope s__law_doubt) f cdv A outer s H E).nox := .of rfl hr sc__law_doubt.nd
  exact fss_cons (fs_if (ft_cmp (op_neD hc.u64) imp_ne (fe_callB call_lenS imp_len (by rfl) T.b_len PySem.boot_len (fa_cons (fe_var (pv 0)) (fa_nil))) (fe_callB call_lenS imp_len (by rfl) T.b_len PySem.boot_len (fa_cons (fe_var (pv 1)) (fa_nil))) (nomark _)) (fss_one (fs_ret (fe_non))) (fss_nil))
      (fss_cons (fs_set (i := 2) hc rfl (.inl rfl) (fe_int))
      (fss_cons (fs_for PassesOwn.never hc (fi_range1 (by rfl) T.b_range (fa_cons (fe_callB call_lenS imp_len (by rfl) T.b_len PySem.boot_len (fa_cons (fe_var (pv 0)) (fa_nil))) (fa_nil))) (fg_name (i := 3) hc rfl (.inl rfl)) (fss_one (fs_if (ft_cmp (op_neD hc.u64) imp_ne (fe_ix ix_seq imp_ix (fe_var (pv 0)) (fe_var (pv 3)) (fun _ _ => rfl)) (fe_ix ix_seq imp_ix (fe_var (pv 1)) (fe_var (pv 3)) (fun _ _ => rfl)) (nomark _)) (fss_one (fs_set (i := 2) hc rfl (.inl rfl) (fe_op2 op_addA imp_add (fe_var (pv 2)) (fe_if (ft_w (fw_or (ft_cmp (op_eqD hc.u64) imp_eq (fe_ix ix_seq imp_ix (fe_var (pv 0)) (fe_var (pv 3)) (fun _ _ => rfl)) (fe_str) (nomark _)) (fw_or1 (ft_cmp (op_eqD hc.u64) imp_eq (fe_ix ix_seq imp_ix (fe_var (pv 1)) (fe_var (pv 3)) (fun _ _ => rfl)) (fe_str) (nomark _))))) (fe_int) (fe_int))))) (fss_nil))))
      (fss_one (fs_ret (fe_if (ft_cmp op_lt imp_lt (fe_var (pv 2)) (fe_int) (nomark _)) (fe_var (pv 2)) (fe_non))))))
theorem d__law_reading (T : Fcts K mg) : Def P w K mg base "_law_reading" ["_law_bag_here"] 3 1 F__law_reading := by
  refine def_ok T.f__law_reading sc__law_reading (by decide) (fun _ _ _ _ _ _ us hl => match us, hl with | [_], _ => rfl) fun f cdv A outer s H E hr => ?_
  have hc : Cok (cxOf CX0 P w K mg base ["_law_bag_here", "_law_signs", "_law_turn"] "_law_reading" (defScope s__law_reading) f cdv A outer s H E).nox := .of rfl hr sc__law_reading.nd
  have D__law_take := d__law_take (P := P) (w := w) (base := base) T
  have D__law_of := d__law_of (P := P) (w := w) (base := base) T
  exact fss_cons (fs_own (i := 1) hc rfl (.inl rfl) (fn_callTy (call_list_of.or (call_listS hc)) imp_listA (by rfl) T.b_list B_list (fa_cons (fe_callD D__law_of (hr.mono (by decide)) (by rfl) (fa_cons (fe_var (pv 0)) (fa_cons (fe_lst (fa_cons (fe_str) (fa_cons (fe_str) (fa_cons (fe_str) (fa_cons (fe_str) (fa_cons (fe_str) (fa_cons (fe_str) (fa_nil)))))))) (fa_nil)))) (fa_nil))))
      (fss_cons (fs_for PassesOwn.never hc (fi_range1 (by rfl) T.b_range (fa_cons (fe_callD D__law_take (hr.mono (by decide)) (by rfl) (fa_cons (fe_var (pv 0)) (fa_cons (fe_int) (fa_nil)))) (fa_nil))) (fg_name (i := 2) hc rfl (.inl rfl)) (fss_one (fs_asg (fe_callD D__law_of (hr.mono (by decide)) (by rfl) (fa_cons (fe_var (pv 0)) (fa_cons (fe_lst (fa_cons (fe_str) (fa_cons (fe_str) (fa_cons (fe_str) (fa_cons (fe_str) (fa_cons (fe_str) (fa_cons (fe_str) (fa_nil)))))))) (fa_nil)))) (fg_sub set_list imp_setL isC_setL (fe_var (pv 1)) (fe_callD D__law_take (hr.mono (by decide)) (by rfl) (fa_cons (fe_var (pv 0)) (fa_cons (fe_callB call_lenS imp_len (by rfl) T.b_len PySem.boot_len (fa_cons (fe_var (pv 1)) (fa_nil))) (fa_nil))))))))
      (fss_one (fs_ret (fe_mR PySem.F.plainAttrs_str PySem.F.slot_str_join PySem.F.type_str_join mt_joinG imp_MG (by decide) (fe_str) (fa_cons (fe_var (pv 1)) (fa_nil))))))
theorem d__law_plate_of (T : Fcts K mg) : Def P w K mg base "_law_plate_of" ["_law_readings"] 1 1 F__law_plate_of := by
  refine def_ok T.f__law_plate_of sc__law_plate_of (by decide) (fun _ _ _ _ _ _ us hl => match us, hl with | [_], _ => rfl) fun f cdv A outer s H E hr => ?_
  have hc : Cok (cxOf CX0 P w K mg base ["_law_readings", "_law_found", "_law_at", "_law_best", "_law_most", "_law_sign", "_law_many", "_law_reading_here"] "_law_plate_of" (defScope s__law_plate_of) f cdv A outer s H E).nox := .of rfl hr sc__law_plate_of.nd
  exact fss_cons (fs_set (i := 1) hc rfl (.inl rfl) (fe_str))
      (fss_cons (fs_for PassesOwn.never hc (fi_range1 (by rfl) T.b_range (fa_cons (fe_callB call_lenS imp_len (by rfl) T.b_len PySem.boot_len (fa_cons (fe_ix ix_seq imp_ix (fe_var (pv 0)) (fe_int) (fun _ _ => rfl)) (fa_nil))) (fa_nil))) (fg_name (i := 2) hc rfl (.inr rfl)) (fss_cons (fs_set (i := 3) hc rfl (.inl rfl) (fe_str))
      (fss_cons (fs_set (i := 4) hc rfl (.inl rfl) (fe_int))
      (fss_cons (fs_for PassesOwn.never hc (fi_seq (fe_str)) (fg_name (i := 5) hc rfl (.inr rfl)) (fss_cons (fs_set (i := 6) hc rfl (.inl rfl) (fe_callB call_lenS imp_len (by rfl) T.b_len PySem.boot_len (fa_cons (fe_frz (fn_comp (own := [("_law_reading_here", 7)]) hc (fi_seq (fe_var (pv 0))) (blkOk_by (N := ["_law_readings", "_law_found", "_law_at", "_law_best", "_law_most", "_law_sign", "_law_many", "_law_reading_here"]) (sc := defScope s__law_plate_of) (own := [("_law_reading_here", 7)]) (by decide +kernel)) (fun _ _ _ _ _ => fgc_name (i := 7) hc.blk rfl (.inl rfl) (by decide)) (fun _ _ _ _ _ => fts_one (ft_cmp (op_eqD hc.blk.u64) imp_eq (fe_ix ix_seq imp_ix (fe_var (pv 7)) (fe_var (pv 2)) (fun _ _ => rfl)) (fe_var (pv 5)) (nomark _))) (fun _ _ _ _ _ => fe_int))) (fa_nil))))
      (fss_one (fs_if (ft_cmp op_gt imp_gt (fe_var (pv 6)) (fe_var (pv 4)) (nomark _)) (fss_one (fs_par2 (i := 3) (j := 4) hc (fa_cons (fe_var (pv 5)) (fa_cons (fe_var (pv 6)) (fa_nil))) rfl rfl (by decide) rfl rfl rfl)) (fss_nil)))))
      (fss_one (fs_set (i := 1) hc rfl (.inl rfl) (fe_op2 op_addA imp_add (fe_var (pv 1)) (fe_var (pv 3)))))))))
      (fss_one (fs_ret (fe_var (pv 1)))))
theorem ok_law (T : Fcts K mg) {fa : Addr} {fd : FuncData} (FL : Fun K "law" "law" s_law fa fd) : FnOk P w K mg base CX0 4 fa fd ["_law_script"] (spF ⟨P, w, K⟩ 1 F_law_k03) := by
  refine fn_ok FL sc_law (by decide) fun cdv A outer s H E hr => ?_
  have hc : Cok (cxOf CX0 P w K mg base ["_law_script", "_law_k", "_law_bag_here", "_law_some", "_law_turn", "_law_one", "_law_other", "_law_found", "_law_like", "_law_thing", "_law_plain", "_law_told"] "law" (defScope s_law) fa cdv A outer s H E).nox := .of rfl hr sc_law.nd
  have D__law_odd := d__law_odd (P := P) (w := w) (base := base) T
  have D__law_bent := d__law_bent (P := P) (w := w) (base := base) T
  have D__law_is_reading := d__law_is_reading (P := P) (w := w) (base := base) T
  have D_is_reading := d_is_reading (P := P) (w := w) (base := base) T
  have D_is_plate := d_is_plate (P := P) (w := w) (base := base) T
  have D__law_is_of := d__law_is_of (P := P) (w := w) (base := base) T
  have D_plate_of := d_plate_of (P := P) (w := w) (base := base) T
  have D__law_plate_of := d__law_plate_of (P := P) (w := w) (base := base) T
  have D_doubt := d_doubt (P := P) (w := w) (base := base) T
  have D__law_doubt := d__law_doubt (P := P) (w := w) (base := base) T
  have D__law_take := d__law_take (P := P) (w := w) (base := base) T
  have D__law_reading := d__law_reading (P := P) (w := w) (base := base) T
  have D__law_bag := d__law_bag (P := P) (w := w) (base := base) T
  exact fss_cons (fs_for PassesOwn.never hc (fi_range1 (by rfl) T.b_range (fa_cons (fe_op2 op_addA imp_add (fe_int) (fe_callB (call_min2 hc.calm) imp_min (by rfl) T.b_min B_min (fa_cons (fe_callB call_lenS imp_len (by rfl) T.b_len PySem.boot_len (fa_cons (fe_var (pv 0)) (fa_nil))) (fa_cons (fe_int) (fa_nil))))) (fa_nil))) (fg_name (i := 1) hc rfl (.inl rfl)) (fss_cons (fs_set (i := 2) hc rfl (.inr rfl) (fe_callD D__law_bag (hr.mono (by decide)) (by rfl) (fa_cons (fe_var (pv 0)) (fa_cons (fe_var (pv 1)) (fa_nil)))))
      (fss_cons (fs_setLc (i := 3) (own := [("_law_turn", 4)]) hc rfl rfl (sw_true rfl rfl rfl (by decide +kernel)) (fi_range1 (by rfl) T.b_range (fa_cons (fe_op2 op_addA imp_add (fe_int) (fe_callD D__law_take (hr.mono (by decide)) (by rfl) (fa_cons (fe_var (pv 2)) (fa_cons (fe_int) (fa_nil))))) (fa_nil))) (blkOk_by (N := ["_law_script", "_law_k", "_law_bag_here", "_law_some", "_law_turn", "_law_one", "_law_other", "_law_found", "_law_like", "_law_thing", "_law_plain", "_law_told"]) (sc := defScope s_law) (own := [("_law_turn", 4)]) (by decide +kernel)) (fun _ _ _ _ _ => fgc_name (i := 4) hc.blk rfl (.inl rfl) (by decide)) (fun _ _ _ _ _ => fts_nil) (fun _ _ _ _ _ => fe_callD D__law_reading (hr.mono (by decide)) (by rfl) (fa_cons (fe_var (pv 2)) (fa_nil))))
      (fss_cons (fs_for PassesOwn.never hc (fi_seq (fe_var (pv 3))) (fg_name (i := 5) hc rfl (.inr rfl)) (fss_cons (fs_for PassesOwn.never hc (fi_seq (fe_op2 op_addA imp_add (fe_var (pv 3)) (fe_lst (fa_cons (fe_op2 op_mulG imp_2G (fe_str) (fe_callB call_lenS imp_len (by rfl) T.b_len PySem.boot_len (fa_cons (fe_var (pv 5)) (fa_nil)))) (fa_cons (fe_op2 op_addA imp_add (fe_slice sl_all imp_cut (fe_var (pv 5)) (fo_some (fe_int)) (fo_none)) (fe_slice sl_all imp_cut (fe_var (pv 5)) (fo_none) (fo_some (fe_int)))) (fa_nil)))))) (fg_name (i := 6) hc rfl (.inl rfl)) (fss_cons (fs_set (i := 7) hc rfl (.inl rfl) (fe_callD D_doubt (hr.mono (by decide)) (by rfl) (fa_cons (fe_var (pv 5)) (fa_cons (fe_var (pv 6)) (fa_nil)))))
      (fss_one (fs_if (ft_w (fw_or (ft_cmp (op_neD hc.u64) imp_ne (fe_var (pv 7)) (fe_callD D__law_doubt (hr.mono (by decide)) (by rfl) (fa_cons (fe_var (pv 5)) (fa_cons (fe_var (pv 6)) (fa_nil)))) (nomark _)) (fw_or (ft_cmp (op_neD hc.u64) imp_ne (fe_callD D_doubt (hr.mono (by decide)) (by rfl) (fa_cons (fe_var (pv 6)) (fa_cons (fe_var (pv 5)) (fa_nil)))) (fe_var (pv 7)) (nomark _)) (fw_or1 (ft_val (fe_callB call_isi imp_isi (by rfl) T.b_isinstance B_isinstance (fa_cons (fe_var (pv 7)) (fa_cons (fe_cls (by rfl) T.b_bool B_bool) (fa_nil))))))))) (fss_one (fs_ret (fe_bl))) (fss_nil)))))
      (fss_cons (fs_if (ft_cmp (op_neD hc.u64) imp_ne (fe_callD D_doubt (hr.mono (by decide)) (by rfl) (fa_cons (fe_var (pv 5)) (fa_cons (fe_var (pv 5)) (fa_nil)))) (fe_int) (nomark _)) (fss_one (fs_ret (fe_bl))) (fss_nil))
      (fss_cons (fs_setLc (i := 8) (own := [("_law_other", 6)]) hc rfl rfl (sw_true rfl rfl rfl (by decide +kernel)) (fi_seq (fe_var (pv 3))) (blkOk_by (N := ["_law_script", "_law_k", "_law_bag_here", "_law_some", "_law_turn", "_law_one", "_law_other", "_law_found", "_law_like", "_law_thing", "_law_plain", "_law_told"]) (sc := defScope s_law) (own := [("_law_other", 6)]) (by decide +kernel)) (fun _ _ _ _ _ => fgc_name (i := 6) hc.blk rfl (.inl rfl) (by decide)) (fun _ _ _ _ _ => fts_one (ft_cmp (op_eqD hc.blk.u64) imp_eq (fe_callB call_lenS imp_len (by rfl) T.b_len PySem.boot_len (fa_cons (fe_var (pv 6)) (fa_nil))) (fe_callB call_lenS imp_len (by rfl) T.b_len PySem.boot_len (fa_cons (fe_var (pv 5)) (fa_nil))) (nomark _))) (fun _ _ _ _ _ => fe_var (pv 6)))
      (fss_one (fs_if (ft_cmp (op_neD hc.u64) imp_ne (fe_callD D_plate_of (hr.mono (by decide)) (by rfl) (fa_cons (fe_var (pv 8)) (fa_nil))) (fe_callD D__law_plate_of (hr.mono (by decide)) (by rfl) (fa_cons (fe_var (pv 8)) (fa_nil))) (nomark _)) (fss_one (fs_ret (fe_bl))) (fss_nil)))))))
      (fss_one (fs_for PassesOwn.never hc (fi_seq (fe_op2 op_addA imp_add (fe_var (pv 3)) (fe_lst (fa_cons (fe_callD D__law_bent (hr.mono (by decide)) (by rfl) (fa_cons (fe_var (pv 2)) (fa_cons (fe_ix ix_seq imp_ix (fe_var (pv 3)) (fe_int) (fun _ _ => rfl)) (fa_cons (fe_lst (fa_cons (fe_str) (fa_cons (fe_str) (fa_cons (fe_str) (fa_cons (fe_str) (fa_cons (fe_str) (fa_cons (fe_str) (fa_nil)))))))) (fa_nil))))) (fa_cons (fe_callD D__law_odd (hr.mono (by decide)) (by rfl) (fa_cons (fe_var (pv 2)) (fa_nil))) (fa_cons (fe_op2 op_mulG imp_2G (fe_str) (fe_int)) (fa_cons (fe_op2 op_mulG imp_2G (fe_str) (fe_int)) (fa_nil)))))))) (fg_name (i := 9) hc rfl (.inl rfl)) (fss_cons (fs_set (i := 10) hc rfl (.inl rfl) (fe_callD D__law_is_of (hr.mono (by decide)) (by rfl) (fa_cons (fe_var (pv 9)) (fa_cons (fe_str) (fa_nil)))))
      (fss_cons (fs_set (i := 11) hc rfl (.inl rfl) (fe_tup (fa_cons (fe_callD D_is_plate (hr.mono (by decide)) (by rfl) (fa_cons (fe_var (pv 9)) (fa_nil))) (fa_cons (fe_callD D_is_reading (hr.mono (by decide)) (by rfl) (fa_cons (fe_var (pv 9)) (fa_nil))) (fa_nil)))))
      (fss_cons (fs_if (ft_cmp (op_neD hc.u64) imp_ne (fe_var (pv 11)) (fe_tup (fa_cons (fe_var (pv 10)) (fa_cons (fe_callD D__law_is_reading (hr.mono (by decide)) (by rfl) (fa_cons (fe_var (pv 9)) (fa_nil))) (fa_nil)))) (nomark _)) (fss_one (fs_ret (fe_bl))) (fss_nil))
      (fss_one (fs_if (ft_w (fw_or (ft_not (ft_val (fe_callB call_isi imp_isi (by rfl) T.b_isinstance B_isinstance (fa_cons (fe_ix ix_seq imp_ix (fe_var (pv 11)) (fe_int) (fun _ _ => rfl)) (fa_cons (fe_cls (by rfl) T.b_bool B_bool) (fa_nil)))))) (fw_or1 (ft_not (ft_val (fe_callB call_isi imp_isi (by rfl) T.b_isinstance B_isinstance (fa_cons (fe_ix ix_seq imp_ix (fe_var (pv 11)) (fe_int) (fun _ _ => rfl)) (fa_cons (fe_cls (by rfl) T.b_bool B_bool) (fa_nil))))))))) (fss_one (fs_ret (fe_bl))) (fss_nil))))))))))))
      (fss_one (fs_ret (fe_bl)))
end
theorem all_mk {l : PySem.W.OpenLaw} {w : World} {K : PySem.W.Frag} {h : Heap} {mg : Str → Option Value} {fa : Addr} (X : K.In h) (G : h.Ns mainGlobals mg) (hfa : mg "law" = some (.ref fa))
    {f1 : Addr} {od1 an1 : Option Addr} {sl1 : Array (Option Value)} {oc1 kV1 dc1 pm1 cd1 ct1 : Value} {f2 : Addr} {od2 an2 : Option Addr} {sl2 : Array (Option Value)} {oc2 kV2 dc2 pm2 cd2 ct2 : Value} {f3 : Addr} {od3 an3 : Option Addr} {sl3 : Array (Option Value)} {oc3 kV3 dc3 pm3 cd3 ct3 : Value} {f4 : Addr} {od4 an4 : Option Addr} {sl4 : Array (Option Value)} {oc4 kV4 dc4 pm4 cd4 ct4 : Value} {f5 : Addr} {od5 an5 : Option Addr} {sl5 : Array (Option Value)} {oc5 kV5 dc5 pm5 cd5 ct5 : Value} {f6 : Addr} {od6 an6 : Option Addr} {sl6 : Array (Option Value)} {oc6 kV6 dc6 pm6 cd6 ct6 : Value} {f7 : Addr} {od7 an7 : Option Addr} {sl7 : Array (Option Value)} {oc7 kV7 dc7 pm7 cd7 ct7 : Value} {f8 : Addr} {od8 an8 : Option Addr} {sl8 : Array (Option Value)} {oc8 kV8 dc8 pm8 cd8 ct8 : Value} {f9 : Addr} {od9 an9 : Option Addr} {sl9 : Array (Option Value)} {oc9 kV9 dc9 pm9 cd9 ct9 : Value} {f10 : Addr} {od10 an10 : Option Addr} {sl10 : Array (Option Value)} {oc10 kV10 dc10 pm10 cd10 ct10 : Value} {f11 : Addr} {od11 an11 : Option Addr} {sl11 : Array (Option Value)} {oc11 kV11 dc11 pm11 cd11 ct11 : Value} {f12 : Addr} {od12 an12 : Option Addr} {sl12 : Array (Option Value)} {oc12 kV12 dc12 pm12 cd12 ct12 : Value} {f13 : Addr} {od13 an13 : Option Addr} {sl13 : Array (Option Value)} {oc13 kV13 dc13 pm13 cd13 ct13 : Value} {f14 : Addr} {od14 an14 : Option Addr} {sl14 : Array (Option Value)} {oc14 kV14 dc14 pm14 cd14 ct14 : Value} {f15 : Addr} {od15 an15 : Option Addr} {sl15 : Array (Option Value)} {oc15 kV15 dc15 pm15 cd15 ct15 : Value} {f16 : Addr} {od16 an16 : Option Addr} {sl16 : Array (Option Value)} {oc16 kV16 dc16 pm16 cd16 ct16 : Value} {t1 : Tok} {t2 : Tok} {t3 : Tok} {t4 : Tok}
    (a1 : PySem.W.nsIn K mainGlobals "is_of" = some (some (.ref f1))) (l1 : K.lookup f1 = some ⟨oc1, od1, .func (PySem.W.fnOf "is_of" "is_of" (defArgs s_is_of) (defBody s_is_of) (defScope s_is_of) .none kV1 dc1 pm1 an1 cd1 ct1), sl1⟩) (c1 : PySem.W.codeIn K cd1 "is_of" = true) (k1 : PySem.W.keepIn K (.ref f1) = true)
    (a2 : PySem.W.nsIn K mainGlobals "is_plate" = some (some (.ref f2))) (l2 : K.lookup f2 = some ⟨oc2, od2, .func (PySem.W.fnOf "is_plate" "is_plate" (defArgs s_is_plate) (defBody s_is_plate) (defScope s_is_plate) .none kV2 dc2 pm2 an2 cd2 ct2), sl2⟩) (c2 : PySem.W.codeIn K cd2 "is_plate" = true) (k2 : PySem.W.keepIn K (.ref f2) = true)
    (a3 : PySem.W.nsIn K mainGlobals "is_reading" = some (some (.ref f3))) (l3 : K.lookup f3 = some ⟨oc3, od3, .func (PySem.W.fnOf "is_reading" "is_reading" (defArgs s_is_reading) (defBody s_is_reading) (defScope s_is_reading) .none kV3 dc3 pm3 an3 cd3 ct3), sl3⟩) (c3 : PySem.W.codeIn K cd3 "is_reading" = true) (k3 : PySem.W.keepIn K (.ref f3) = true)
    (a4 : PySem.W.nsIn K mainGlobals "doubt" = some (some (.ref f4))) (l4 : K.lookup f4 = some ⟨oc4, od4, .func (PySem.W.fnOf "doubt" "doubt" (defArgs s_doubt) (defBody s_doubt) (defScope s_doubt) .none kV4 dc4 pm4 an4 cd4 ct4), sl4⟩) (c4 : PySem.W.codeIn K cd4 "doubt" = true) (k4 : PySem.W.keepIn K (.ref f4) = true)
    (a5 : PySem.W.nsIn K mainGlobals "plate_of" = some (some (.ref f5))) (l5 : K.lookup f5 = some ⟨oc5, od5, .func (PySem.W.fnOf "plate_of" "plate_of" (defArgs s_plate_of) (defBody s_plate_of) (defScope s_plate_of) .none kV5 dc5 pm5 an5 cd5 ct5), sl5⟩) (c5 : PySem.W.codeIn K cd5 "plate_of" = true) (k5 : PySem.W.keepIn K (.ref f5) = true)
    (a6 : PySem.W.nsIn K mainGlobals "_law_bag" = some (some (.ref f6))) (l6 : K.lookup f6 = some ⟨oc6, od6, .func (PySem.W.fnOf "_law_bag" "_law_bag" (defArgs s__law_bag) (defBody s__law_bag) (defScope s__law_bag) .none kV6 dc6 pm6 an6 cd6 ct6), sl6⟩) (c6 : PySem.W.codeIn K cd6 "_law_bag" = true) (k6 : PySem.W.keepIn K (.ref f6) = true)
    (a7 : PySem.W.nsIn K mainGlobals "_law_take" = some (some (.ref f7))) (l7 : K.lookup f7 = some ⟨oc7, od7, .func (PySem.W.fnOf "_law_take" "_law_take" (defArgs s__law_take) (defBody s__law_take) (defScope s__law_take) .none kV7 dc7 pm7 an7 cd7 ct7), sl7⟩) (c7 : PySem.W.codeIn K cd7 "_law_take" = true) (k7 : PySem.W.keepIn K (.ref f7) = true)
    (a8 : PySem.W.nsIn K mainGlobals "_law_of" = some (some (.ref f8))) (l8 : K.lookup f8 = some ⟨oc8, od8, .func (PySem.W.fnOf "_law_of" "_law_of" (defArgs s__law_of) (defBody s__law_of) (defScope s__law_of) .none kV8 dc8 pm8 an8 cd8 ct8), sl8⟩) (c8 : PySem.W.codeIn K cd8 "_law_of" = true) (k8 : PySem.W.keepIn K (.ref f8) = true)
    (a9 : PySem.W.nsIn K mainGlobals "_law_bent" = some (some (.ref f9))) (l9 : K.lookup f9 = some ⟨oc9, od9, .func (PySem.W.fnOf "_law_bent" "_law_bent" (defArgs s__law_bent) (defBody s__law_bent) (defScope s__law_bent) .none kV9 dc9 pm9 an9 cd9 ct9), sl9⟩) (c9 : PySem.W.codeIn K cd9 "_law_bent" = true) (k9 : PySem.W.keepIn K (.ref f9) = true)
    (a10 : PySem.W.nsIn K mainGlobals "_law_odd" = some (some (.ref f10))) (l10 : K.lookup f10 = some ⟨oc10, od10, .func (PySem.W.fnOf "_law_odd" "_law_odd" (defArgs s__law_odd) (defBody s__law_odd) (defScope s__law_odd) .none kV10 dc10 pm10 an10 cd10 ct10), sl10⟩) (c10 : PySem.W.codeIn K cd10 "_law_odd" = true) (k10 : PySem.W.keepIn K (.ref f10) = true)
    (a11 : PySem.W.nsIn K mainGlobals "_law_is_of" = some (some (.ref f11))) (l11 : K.lookup f11 = some ⟨oc11, od11, .func (PySem.W.fnOf "_law_is_of" "_law_is_of" (defArgs s__law_is_of) (defBody s__law_is_of) (defScope s__law_is_of) .none kV11 dc11 pm11 an11 cd11 ct11), sl11⟩) (c11 : PySem.W.codeIn K cd11 "_law_is_of" = true) (k11 : PySem.W.keepIn K (.ref f11) = true)
    (a12 : PySem.W.nsIn K mainGlobals "_law_is_reading" = some (some (.ref f12))) (l12 : K.lookup f12 = some ⟨oc12, od12, .func (PySem.W.fnOf "_law_is_reading" "_law_is_reading" (defArgs s__law_is_reading) (defBody s__law_is_reading) (defScope s__law_is_reading) .none kV12 dc12 pm12 an12 cd12 ct12), sl12⟩) (c12 : PySem.W.codeIn K cd12 "_law_is_reading" = true) (k12 : PySem.W.keepIn K (.ref f12) = true)
    (a13 : PySem.W.nsIn K mainGlobals "_law_doubt" = some (some (.ref f13))) (l13 : K.lookup f13 = some ⟨oc13, od13, .func (PySem.W.fnOf "_law_doubt" "_law_doubt" (defArgs s__law_doubt) (defBody s__law_doubt) (defScope s__law_doubt) .none kV13 dc13 pm13 an13 cd13 ct13), sl13⟩) (c13 : PySem.W.codeIn K cd13 "_law_doubt" = true) (k13 : PySem.W.keepIn K (.ref f13) = true)
    (a14 : PySem.W.nsIn K mainGlobals "_law_reading" = some (some (.ref f14))) (l14 : K.lookup f14 = some ⟨oc14, od14, .func (PySem.W.fnOf "_law_reading" "_law_reading" (defArgs s__law_reading) (defBody s__law_reading) (defScope s__law_reading) .none kV14 dc14 pm14 an14 cd14 ct14), sl14⟩) (c14 : PySem.W.codeIn K cd14 "_law_reading" = true) (k14 : PySem.W.keepIn K (.ref f14) = true)
    (a15 : PySem.W.nsIn K mainGlobals "_law_plate_of" = some (some (.ref f15))) (l15 : K.lookup f15 = some ⟨oc15, od15, .func (PySem.W.fnOf "_law_plate_of" "_law_plate_of" (defArgs s__law_plate_of) (defBody s__law_plate_of) (defScope s__law_plate_of) .none kV15 dc15 pm15 an15 cd15 ct15), sl15⟩) (c15 : PySem.W.codeIn K cd15 "_law_plate_of" = true) (k15 : PySem.W.keepIn K (.ref f15) = true)
    (a16 : PySem.W.nsIn K mainGlobals "law" = some (some (.ref f16))) (l16 : K.lookup f16 = some ⟨oc16, od16, .func (PySem.W.fnOf "law" "law" (defArgs s_law) (defBody s_law) (defScope s_law) .none kV16 dc16 pm16 an16 cd16 ct16), sl16⟩) (c16 : PySem.W.codeIn K cd16 "law" = true) (k16 : PySem.W.keepIn K (.ref f16) = true)
    (z1 : PySem.W.nsIn K mainGlobals "isinstance" = some none)
    (z2 : PySem.W.nsIn K mainGlobals "str" = some none)
    (z3 : PySem.W.nsIn K mainGlobals "len" = some none)
    (z4 : PySem.W.nsIn K mainGlobals "all" = some none)
    (z5 : PySem.W.nsIn K mainGlobals "zip" = some none)
    (z6 : PySem.W.nsIn K mainGlobals "range" = some none)
    (z7 : PySem.W.nsIn K mainGlobals "min" = some none)
    (z8 : PySem.W.nsIn K mainGlobals "abs" = some none)
    (z9 : PySem.W.nsIn K mainGlobals "list" = some none)
    (z10 : PySem.W.nsIn K mainGlobals "bool" = some none)
    (g1 : PySem.W.nsIn K mainGlobals "MOST_SIGNS" = some (some (.int 7 t1)))
    (g2 : PySem.W.nsIn K mainGlobals "SIGNS" = some (some (.str "0123456789ABCDEFGHIJKLMNOPQRSTUVWXYZ" t2)))
    (g3 : PySem.W.nsIn K mainGlobals "UNSEEN" = some (some (.str "?" t3)))
    (g4 : PySem.W.nsIn K mainGlobals "MOST_DOUBT" = some (some (.int 20 t4)))
    : ∃ fd : FuncData, (∀ (s : Shared) (v : Value), BindsTo s fd ⟨[v], []⟩ [("_law_script", v)]) ∧ ∀ base : Heap, K.In base → base.Ns mainGlobals mg → FnOk l.prog w K mg base CX0 4 fa fd ["_law_script"] (spF ⟨l.prog, w, K⟩ 1 F_law_k03) := by
  have e := hfa.symm.trans (PySem.W.mg_of X G a16)
  cases e
  have T : Fcts K mg := ⟨⟨_, _, fun_mk (st := s_is_of) l1 c1 k1, PySem.W.mg_of X G a1⟩, ⟨_, _, fun_mk (st := s_is_plate) l2 c2 k2, PySem.W.mg_of X G a2⟩, ⟨_, _, fun_mk (st := s_is_reading) l3 c3 k3, PySem.W.mg_of X G a3⟩, ⟨_, _, fun_mk (st := s_doubt) l4 c4 k4, PySem.W.mg_of X G a4⟩, ⟨_, _, fun_mk (st := s_plate_of) l5 c5 k5, PySem.W.mg_of X G a5⟩, ⟨_, _, fun_mk (st := s__law_bag) l6 c6 k6, PySem.W.mg_of X G a6⟩, ⟨_, _, fun_mk (st := s__law_take) l7 c7 k7, PySem.W.mg_of X G a7⟩, ⟨_, _, fun_mk (st := s__law_of) l8 c8 k8, PySem.W.mg_of X G a8⟩, ⟨_, _, fun_mk (st := s__law_bent) l9 c9 k9, PySem.W.mg_of X G a9⟩, ⟨_, _, fun_mk (st := s__law_odd) l10 c10 k10, PySem.W.mg_of X G a10⟩, ⟨_, _, fun_mk (st := s__law_is_of) l11 c11 k11, PySem.W.mg_of X G a11⟩, ⟨_, _, fun_mk (st := s__law_is_reading) l12 c12 k12, PySem.W.mg_of X G a12⟩, ⟨_, _, fun_mk (st := s__law_doubt) l13 c13 k13, PySem.W.mg_of X G a13⟩, ⟨_, _, fun_mk (st := s__law_reading) l14 c14 k14, PySem.W.mg_of X G a14⟩, ⟨_, _, fun_mk (st := s__law_plate_of) l15 c15 k15, PySem.W.mg_of X G a15⟩, ⟨_, _, fun_mk (st := s_law) l16 c16 k16, PySem.W.mg_of X G a16⟩, PySem.W.mg_none_of X G z1, PySem.W.mg_none_of X G z2, PySem.W.mg_none_of X G z3, PySem.W.mg_none_of X G z4, PySem.W.mg_none_of X G z5, PySem.W.mg_none_of X G z6, PySem.W.mg_none_of X G z7, PySem.W.mg_none_of X G z8, PySem.W.mg_none_of X G z9, PySem.W.mg_none_of X G z10, ⟨_, PySem.W.mg_of X G g1⟩, ⟨_, PySem.W.mg_of X G g2⟩, ⟨_, PySem.W.mg_of X G g3⟩, ⟨_, PySem.W.mg_of X G g4⟩⟩
  refine ⟨PySem.W.fnOf "law" "law" (defArgs s_law) (defBody s_law) (defScope s_law) .none kV16 dc16 pm16 an16 cd16 ct16, fun s v => .of_eq rfl, fun base _ _ => ?_⟩
  exact ok_law T (fun_mk (st := s_law) l16 c16 k16)
end Lk03

namespace Lk03
open PySem G
theorem law_true (ns : List Int) (hl : ns.length ≤ 63) : ∃ hp, G.F_law_k03 [.scr (ns.map Val.int)] [] = .ok (.v (.bl true)) hp :=
  let ⟨_, hp, e, q⟩ := G.law_k03_true ns hl
  ⟨hp, by rw [e, q]⟩
end Lk03
open PySem PySem.W PyProof.Rows
set_option maxHeartbeats 0 in
theorem PySem.Challenge.cw_gantryroad_k03_plates_and_doubts_holds : PySem.Challenge.rw_gantryroad_k03_plates_and_doubts.Holds := by
  w_on; o_law; k_head; (case hw => w_witness2)
  k_fill
  refine L2.walk_of (l := PySem.Challenge.rw_gantryroad_k03_plates_and_doubts) (n := 63) (k := 4) (x := "_law_script") (CX := fun _ => L2.CX0) (sp := fun w => G.spF ⟨PySem.Challenge.rw_gantryroad_k03_plates_and_doubts.prog, w, _⟩ 1 G.F_law_k03) rfl (by decide) rfl ⟨rfl, by decide, by decide⟩ (fun w h Y => PySem.W.kIn_of Y) ?F (fun _ _ a ns hl _ hS => (Lk03.law_true ns hl).elim fun _ h => G.law_sp h hS _) (fun _ _ _ _ _ h => h)
  case F =>
    intro w mg fa h KX G hmg
    refine' Lk03.all_mk KX G hmg ?a1 ?l1 ?c1 ?k1 ?a2 ?l2 ?c2 ?k2 ?a3 ?l3 ?c3 ?k3 ?a4 ?l4 ?c4 ?k4 ?a5 ?l5 ?c5 ?k5 ?a6 ?l6 ?c6 ?k6 ?a7 ?l7 ?c7 ?k7 ?a8 ?l8 ?c8 ?k8 ?a9 ?l9 ?c9 ?k9 ?a10 ?l10 ?c10 ?k10 ?a11 ?l11 ?c11 ?k11 ?a12 ?l12 ?c12 ?k12 ?a13 ?l13 ?c13 ?k13 ?a14 ?l14 ?c14 ?k14 ?a15 ?l15 ?c15 ?k15 ?a16 ?l16 ?c16 ?k16 ?z1 ?z2 ?z3 ?z4 ?z5 ?z6 ?z7 ?z8 ?z9 ?z10 ?g1 ?g2 ?g3 ?g4
    (case a1 => k_is); (case l1 => k_is); (case c1 => k_is); (case k1 => k_is); (case a2 => k_is); (case l2 => k_is); (case c2 => k_is); (case k2 => k_is); (case a3 => k_is); (case l3 => k_is); (case c3 => k_is); (case k3 => k_is); (case a4 => k_is); (case l4 => k_is); (case c4 => k_is); (case k4 => k_is); (case a5 => k_is); (case l5 => k_is); (case c5 => k_is); (case k5 => k_is); (case a6 => k_is); (case l6 => k_is); (case c6 => k_is); (case k6 => k_is); (case a7 => k_is); (case l7 => k_is); (case c7 => k_is); (case k7 => k_is); (case a8 => k_is); (case l8 => k_is); (case c8 => k_is); (case k8 => k_is); (case a9 => k_is); (case l9 => k_is); (case c9 => k_is); (case k9 => k_is); (case a10 => k_is); (case l10 => k_is); (case c10 => k_is); (case k10 => k_is); (case a11 => k_is); (case l11 => k_is); (case c11 => k_is); (case k11 => k_is); (case a12 => k_is); (case l12 => k_is); (case c12 => k_is); (case k12 => k_is); (case a13 => k_is); (case l13 => k_is); (case c13 => k_is); (case k13 => k_is); (case a14 => k_is); (case l14 => k_is); (case c14 => k_is); (case k14 => k_is); (case a15 => k_is); (case l15 => k_is); (case c15 => k_is); (case k15 => k_is); (case a16 => k_is); (case l16 => k_is); (case c16 => k_is); (case k16 => k_is); (case z1 => k_is); (case z2 => k_is); (case z3 => k_is); (case z4 => k_is); (case z5 => k_is); (case z6 => k_is); (case z7 => k_is); (case z8 => k_is); (case z9 => k_is); (case z10 => k_is); (case g1 => k_is); (case g2 => k_is); (case g3 => k_is); (case g4 => k_is)


