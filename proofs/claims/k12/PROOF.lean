import PyProof.Rows.All
import Wide.All
import OpenK.AllK
import Wide.FinOn
import HandS.ForMost
import HandS.TupAny
import HandS.TupMul
import HandS.IsInst
import HandS.ForExc
import HandS.Walk
import HandS.Wide
import HandS.Style
import HandS.Deep
import HandS.Text
import HandS.Dict
import HandS.Gcd
import HandS.SortOrd
import HandS.SortRule
import HandS.SortInts
import HandS.More
import HandS.Strs
import HandS.MakeKw
import HandS.CallSlots
import HandS.Zip
import HandS.Rev
import HandS.Star
import HandS.ExcInit
import HandS.Nested
import HandS.ClsMeth
import KE.KExcSuper
import KE.KSuper
import HandS.TryMany
import HandS.ExcField
import KE.SortData
import HandS.TupSets
import HandS.Conv
import HandS.DictComp
import HandS.HeadHook1
import HandS.HeadHook2
import HandS.Head0
import HandS.Head1
import HandS.Head2
import HandS.HeadEnd
import HandS.Ends
import KE.KEqSeq
import KE.KStateDown
import HandS.Codes
import PySem.Challenge.RW_seenbywebs_k12_webs_pinched_and_pieces
set_option Elab.async false
set_option linter.all false
set_option maxRecDepth 100000
/-! Fz: tuples whose object is known (no dict of its own). -/
namespace Pv
open PySem PySem.Spec PyProof.Rows L2
/-- the object of a new tuple -/
abbrev tupObj (its : Array Value) : Obj := { cls := .type "tuple", data := .seq its }
section
variable {X : Cx}
/-- a new tuple is laid, its object known -/
theorem new_fz {pins : List (Addr × Obj)} {σ : L2.St} {H : Hp} {s : Shared} {xs : List V} {its : List Value} {Q : VK} {tk : Nat} (I : Inv X pins σ H s) (r : Vals xs its) (z : xs.length ≤ sizeLine) (q : ∀ p o, H p = none → o.dict = none → Q (.ref p) (upd H p (.frz o (.tup xs)))) :
    EP X pins σ Q (.ref s.heap.objs.size) { s with heap := s.heap.push (tupObj its.toArray), toks := tk } := by
  have hf : H s.heap.objs.size = none := I.hok.fresh (Nat.le_refl _)
  have hg : (s.heap.push (tupObj its.toArray)).get? s.heap.objs.size = some (tupObj its.toArray) := Heap.get?_push_size _ rfl
  refine ⟨.ref s.heap.objs.size, upd H s.heap.objs.size (.frz (tupObj its.toArray) (.tup xs)), I.laid (t' := tk) (fun b u e => Heap.get?_push_of_some _ e) (Nat.le_refl _) ?_, rfl, q _ _ hf rfl⟩
  exact ⟨hg, z, its, r, ⟨_, hg, rfl, _, rfl⟩⟩
def tTupF (t : TA) : TE := fun σ H Q => t σ H fun xs H1 => xs.length ≤ sizeLine ∧ ∀ p o, H1 p = none → o.dict = none → Q (.ref p) (upd H1 p (.frz o (.tup xs)))
theorem pe_tupF {es : List Expr} {t : TA} {pos : Pos} {x1 : Nat} (h : PA X es t) : PE X (.Tuple es x1 pos) (tTupF t) := by
  refine ⟨fun pins s σ H Q I hq => ?_⟩
  exact wpAny_Tuple_spliced (thn (h.run pos pins s σ H _ I hq) fun us s1 ⟨xs, H1, I1, r, z, q⟩ => ⟨by rw [← r.length]; exact z, new_fz (tk := s1.toks) I1 r z q⟩)
theorem call_tupF : CallR X (.type "tuple") (fun xs H Q => ∃ p ys, xs = [.ref p] ∧ ((SqL X.K H p ys ∧ ∀ l o, H l = none → o.dict = none → Q (.ref l) (upd H l (.frz o (.tup ys)))) ∨ (SqT X.K H p ys ∧ Q (.ref p) H))) := by
  intro pins s σ H xs us Q I r h
  obtain ⟨p, ys, rfl, h⟩ := h
  obtain ⟨u, rfl, rx⟩ := vals1 r
  cases rx
  rcases h with ⟨hq, q⟩ | ⟨hq, q⟩
  · obtain ⟨its, r', pl, hz⟩ := I.list hq
    have hlen := r'.length
    refine call_tuple_list pl.isList (fun h' kp => ?_) (by simp only [List.size_toArray] <;> omega)
    have I1 : Inv X pins σ H { s with heap := h' } := I.kept (t' := s.toks) kp
    exact new_fz (tk := s.toks) I1 r' hz q
  · obtain ⟨its, r', pl, hz⟩ := I.tuple hq
    exact call_tuple_same pl ⟨.ref p, H, I, rfl, q⟩
def rCatF (K : PySem.W.Frag) : R2 := fun x y H Q => ∃ a b xs ys, x = .ref a ∧ y = .ref b ∧ SqT K H a xs ∧ SqT K H b ys ∧ xs.length + ys.length ≤ sizeLine ∧
  (xs = [] → Q (.ref b) H) ∧ (xs ≠ [] → ys = [] → Q (.ref a) H) ∧ (xs ≠ [] → ys ≠ [] → ∀ p o, H p = none → o.dict = none → Q (.ref p) (upd H p (.frz o (.tup (xs ++ ys)))))
theorem op_catF : OpR X (binaryOp .Add) (rCatF X.K) := by
  intro pins s σ H x y v u Q I rx ry h
  obtain ⟨a, b, xs, ys, rfl, rfl, ha, hb, hz, q0, q1, q2⟩ := h
  cases rx
  cases ry
  obtain ⟨its, r1, p1, _⟩ := I.tuple ha
  obtain ⟨its2, r2, p2, _⟩ := I.tuple hb
  by_cases hx : xs = []
  · subst hx
    cases r1
    exact cat_tup0 p1 p2 ⟨.ref b, H, I, rfl, q0 rfl⟩
  · have n1 : its ≠ [] := fun z => hx ((Vals.nil_iff r1).mp z)
    refine HT.cat_tup p1 p2 n1 (fun z => ⟨.ref a, H, I, rfl, q1 hx ((Vals.nil_iff r2).mp z)⟩) (fun z => ?_) ?_
    · exact new_fz (tk := s.toks) I (r1.append r2) (by rw [List.length_append]; exact hz) (q2 hx fun w => z ((Vals.nil_iff r2).mpr w))
    · have e1 := r1.length
      have e2 := r2.length
      omega
def rSlF (K : PySem.W.Frag) : V → Option Int → Option Int → Hp → VK → Prop := fun x lo hi H Q => ∃ a xs, x = .ref a ∧ SqT K H a xs ∧
  (HT.sIx xs.length 0 lo = 0 ∧ HT.sIx xs.length xs.length hi = xs.length → Q (.ref a) H) ∧ (¬ (HT.sIx xs.length 0 lo = 0 ∧ HT.sIx xs.length xs.length hi = xs.length) → ∀ p o, H p = none → o.dict = none → Q (.ref p) (upd H p (.frz o (.tup (cutV xs lo hi)))))
theorem sl_tupF : SlR X (rSlF X.K) := by
  intro pins s σ H x v vl vu lo hi sl Q I rx hs pl pu h
  obtain ⟨a, xs, rfl, hx, q1, q2⟩ := h
  cases rx
  obtain ⟨its, r, ht, hz⟩ := I.tuple hx
  have hlen : its.toArray.size = xs.length := by rw [List.size_toArray]; exact r.length.symm
  refine ⟨"tuple", _, PyProof.Rows.slot_tuple_getitem.lookup, ht.typeIs, ?_⟩
  by_cases hw : HT.sIx xs.length 0 lo = 0 ∧ HT.sIx xs.length xs.length hi = xs.length
  · exact getItem_tuple_whole ht hs pl pu (by rw [hlen]; exact hw) ⟨.ref a, H, I, rfl, q1 hw⟩
  · refine HT.getItem_tuple_cut ht hs pl pu (by rw [hlen]; exact hw) ?_ (by rw [hlen]; exact hz)
    rw [hlen]
    refine new_fz (tk := s.toks) I (xs := cutV xs lo hi) ?_ (Nat.le_trans (cutV_length _ _ _) hz) (q2 hw)
    exact (r.drop _).take _
/-- isinstance(x, t), t a tuple of classes -/
def rIsiF (K : PySem.W.Frag) : List V → Hp → VK → Prop := fun xs H Q => ∃ (x : V) (tp : Addr) (cs : List V) (t : Value) (us : List Value) (b : Bool), xs = [x, .ref tp] ∧ SqT K H tp cs ∧ Paired ClsV cs us ∧ TyX K H x t ∧ PySem.W.kitAny K t us = some b ∧ Q (.bl b) H
theorem call_isiF : CallR X (.builtin "isinstance") (rIsiF X.K) := by
  intro pins s σ H xs us Q I r h
  obtain ⟨x, tp, cs, t, ws, b, rfl, hT, k, ty, e, q⟩ := h
  obtain ⟨u1, u2, rfl, r1, r2⟩ := vals2 r
  cases (show u2 = Value.ref tp from r2)
  obtain ⟨P, Z, p, hx⟩ := kit_of I r1 ty
  obtain ⟨its, rv, ⟨o, h1, h2, n, h3⟩, _⟩ := I.tuple hT
  have e3 := ClsV.all k rv
  subst e3
  obtain ⟨oc, od, dt, sl⟩ := o
  simp only at h2 h3
  subst h2 h3
  exact PySem.W.kia_tup Z I.kIn p h1 e hx fun tk => ⟨.bl b, H, I.tok tk, rfl, q⟩
end
end Pv

set_option Elab.async false
set_option linter.all false
set_option maxRecDepth 100000
/-! Ev1: plain data, the small heap, how they stand in the abstract heap. -/
namespace Pv
open PySem PySem.Spec PyProof.Rows L2

inductive D where
  | non | bl (b : Bool) | int (i : Int) | str (x : Str)
  | tup (xs : List D) | ktup (xs : List D) | lst (xs : List D) | scr (ns : List Int)
  | dct (ks : List Key) (vs : List D)
  | obj (c : Str) (ns : List Str) (vs : List D)
  | ref (n : Nat)
  | ty (n : String) | cls (c : Str) | fn (f : Str)
  deriving Inhabited
/-- an object that may change -/
inductive DO where
  | lst (xs : List D)
  | dct (ks : List Key) (vs : List D)
  | ins (c : Str) (ns : List Str) (vs : List D)
  /-- a dict while it is walked -/
  | fdct (ks : List Key) (vs : List D)
  | dead
  deriving Inhabited
abbrev DS := List DO
abbrev Env' := List (Option D)
/-- an exception: its class, its fields -/
structure Exn where
  c : Str
  ns : List Str
  vs : List D
inductive R (α : Type) where
  | ok (a : α) (s : DS)
  | exc (x : Exn) (s : DS)
  | bad
namespace R
@[reducible] def bind {α β : Type} (r : R α) (k : α → DS → R β) : R β := match r with
  | ok a s => k a s
  | exc x s => exc x s
  | bad => bad
def ofO {α : Type} : Option (α × DS) → R α
  | some (a, s) => ok a s
  | none => bad
end R

/-- a caught exception: its name's slot, its object, its class, its dict, what it is -/
structure XA where
  i : Nat
  a : Addr
  C : Addr
  d : Addr
  x : Exn
/-- where the module's names stand -/
structure Gl where
  P : Program
  w : World
  K : PySem.W.Frag
  mg : Str → Option Value
  base : Heap
  /-- own classes -/
  ca : Str → Option Addr
  /-- own functions -/
  fa : Str → Option Addr
  /-- what is handled -/
  xa : Option XA := none

/-- a tuple whose object is known, or a written one -/
def TupAt (K : PySem.W.Frag) (F : Hp) (a : Addr) (vs : List V) : Prop := (∃ o : Obj, F a = some (.frz o (.tup vs)) ∧ o.dict = none) ∨
  ∃ (o : Obj) (its : Array Value) (n : Nat), K.lookup a = some o ∧ o.cls = .type "tuple" ∧ o.data = .seq its n ∧ its.size ≤ sizeLine ∧ Vals vs its.toList ∧ o.dict = none
theorem TupAt.mono {K : PySem.W.Frag} {F F' : Hp} {a : Addr} {vs : List V} (l : ∀ a o, F a = some o → F' a = some o) (h : TupAt K F a vs) : TupAt K F' a vs := h.imp (fun ⟨o, z, d⟩ => ⟨o, l _ _ z, d⟩) id
theorem TupAt.sqT {K : PySem.W.Frag} {F : Hp} {a : Addr} {vs : List V} (h : TupAt K F a vs) : SqT K F a vs := h.imp (fun ⟨o, z, _⟩ => .inr ⟨o, z⟩) fun ⟨o, its, n, h1, h2, h3, h4, h5, _⟩ => ⟨o, its, n, h1, h2, h3, h4, h5⟩
mutual
inductive Rep (G : Gl) (F : Hp) (mu : List Addr) : D → V → Prop
  | non : Rep G F mu .non .non
  | bl (b : Bool) : Rep G F mu (.bl b) (.bl b)
  | int (i : Int) : Rep G F mu (.int i) (.int i)
  | str (x : Str) : Rep G F mu (.str x) (.str x)
  | tup {a : Addr} {xs : List D} {vs : List V} : TupAt G.K F a vs → RepL G F mu xs vs → Rep G F mu (.tup xs) (.ref a)
  | ktup {a : Addr} {xs : List D} {vs : List V} : F a = some (.tup vs) → RepL G F mu xs vs → Rep G F mu (.ktup xs) (.ref a)
  | lst {a : Addr} {xs : List D} {vs : List V} : F a = some (.lst vs) → RepL G F mu xs vs → Rep G F mu (.lst xs) (.ref a)
  | scr {a : Addr} {ns : List Int} : SqL G.K F a (ns.map V.int) → Rep G F mu (.scr ns) (.ref a)
  | dct {a : Addr} {o : Obj} {ks : List Key} {xs : List D} {vs : List V} : F a = some (.frz o (.dK (ks.zip vs))) → ks.length = vs.length → RepL G F mu xs vs → Rep G F mu (.dct ks xs) (.ref a)
  | obj {a C dx : Addr} {c : Str} {ns : List Str} {xs : List D} {vs : List V} : F a = some (.ins C dx (ns.zip vs)) → ns.length = vs.length → G.ca c = some C → RepL G F mu xs vs → Rep G F mu (.obj c ns xs) (.ref a)
  | ref {n : Nat} {a : Addr} : mu[n]? = some a → Rep G F mu (.ref n) (.ref a)
  | ty (n : String) : Rep G F mu (.ty n) (.ty n)
  | cls {c : Str} {C : Addr} : G.ca c = some C → Rep G F mu (.cls c) (.ref C)
  | fn {f : Str} {a : Addr} : G.fa f = some a → Rep G F mu (.fn f) (.ref a)
inductive RepL (G : Gl) (F : Hp) (mu : List Addr) : List D → List V → Prop
  | nil : RepL G F mu [] []
  | cons {d : D} {v : V} {ds : List D} {vs : List V} : Rep G F mu d v → RepL G F mu ds vs → RepL G F mu (d :: ds) (v :: vs)
end

section
variable {G : Gl} {F F' : Hp} {mu mu' : List Addr}
theorem RepL.length : ∀ {ds : List D} {vs : List V}, RepL G F mu ds vs → ds.length = vs.length
  | _, _, .nil => rfl
  | _, _, .cons _ t => congrArg (· + 1) (RepL.length t)
theorem RepL.get : ∀ {ds : List D} {vs : List V} {i : Nat} {d : D}, RepL G F mu ds vs → ds[i]? = some d → ∃ v, vs[i]? = some v ∧ Rep G F mu d v
  | _, _, _, _, .nil, e => by simp at e
  | _, _, 0, _, .cons r _, e => by simp at e; subst e; exact ⟨_, rfl, r⟩
  | _, _, i + 1, d, .cons _ t, e => by
    obtain ⟨v, h1, h2⟩ := RepL.get (i := i) (d := d) t (by simpa using e)
    exact ⟨v, by simpa using h1, h2⟩
theorem RepL.append : ∀ {xs ys : List D} {us ws : List V}, RepL G F mu xs us → RepL G F mu ys ws → RepL G F mu (xs ++ ys) (us ++ ws)
  | _, _, _, _, .nil, s => s
  | _, _, _, _, .cons r t, s => .cons r (RepL.append t s)
theorem RepL.take : ∀ {xs : List D} {us : List V} (n : Nat), RepL G F mu xs us → RepL G F mu (xs.take n) (us.take n)
  | _, _, 0, _ => .nil
  | _, _, _ + 1, .nil => .nil
  | _, _, n + 1, .cons r t => .cons r (RepL.take n t)
theorem RepL.drop : ∀ {xs : List D} {us : List V} (n : Nat), RepL G F mu xs us → RepL G F mu (xs.drop n) (us.drop n)
  | _, _, 0, r => r
  | _, _, _ + 1, .nil => .nil
  | _, _, n + 1, .cons _ t => RepL.drop n t
theorem RepL.set {x : D} {u : V} (r : Rep G F mu x u) : ∀ {xs : List D} {us : List V} (i : Nat), RepL G F mu xs us → RepL G F mu (xs.set i x) (us.set i u)
  | _, _, _, .nil => .nil
  | _, _, 0, .cons _ t => .cons r t
  | _, _, i + 1, .cons q t => .cons q (RepL.set r i t)
theorem RepL.eraseIdx : ∀ {xs : List D} {us : List V} (i : Nat), RepL G F mu xs us → RepL G F mu (xs.eraseIdx i) (us.eraseIdx i)
  | _, _, _, .nil => .nil
  | _, _, 0, .cons _ t => t
  | _, _, i + 1, .cons q t => .cons q (RepL.eraseIdx i t)
theorem RepL.reverse : ∀ {xs : List D} {us : List V}, RepL G F mu xs us → RepL G F mu xs.reverse us.reverse
  | _, _, .nil => .nil
  | _, _, .cons r t => by
    rw [List.reverse_cons, List.reverse_cons]
    exact (RepL.reverse t).append (.cons r .nil)
theorem RepL.one {d : D} {v : V} (r : Rep G F mu d v) : RepL G F mu [d] [v] := .cons r .nil
theorem RepL.inv1 {d : D} {vs : List V} (r : RepL G F mu [d] vs) : ∃ v, vs = [v] ∧ Rep G F mu d v := by
  cases r with
  | cons h t => cases t; exact ⟨_, rfl, h⟩
theorem RepL.inv2 {d e : D} {vs : List V} (r : RepL G F mu [d, e] vs) : ∃ v w, vs = [v, w] ∧ Rep G F mu d v ∧ Rep G F mu e w := by
  cases r with
  | cons h t =>
    cases t with
    | cons h2 t2 => cases t2; exact ⟨_, _, rfl, h, h2⟩
theorem RepL.ints : ∀ {ns : List Int} {vs : List V}, RepL G F mu (ns.map D.int) vs → vs = ns.map V.int
  | [], _, .nil => rfl
  | _ :: _, _, .cons r t => by
    cases r
    rw [List.map_cons, RepL.ints t]
theorem RepL.of_ints : ∀ (ns : List Int), RepL G F mu (ns.map D.int) (ns.map V.int)
  | [] => .nil
  | n :: r => .cons (.int n) (RepL.of_ints r)

/-- more is known -/
structure Le (F : Hp) (mu : List Addr) (F' : Hp) (mu' : List Addr) : Prop where
  f : ∀ a o, F a = some o → F' a = some o
  m : ∀ (n : Nat) (a : Addr), mu[n]? = some a → mu'[n]? = some a
theorem Le.sqT {K : PySem.W.Frag} {a : Addr} {vs : List V} (l : ∀ a o, F a = some o → F' a = some o) (h : SqT K F a vs) : SqT K F' a vs := by
  rcases h with h | h
  · rcases h with h | ⟨o, h⟩
    · exact .inl (.inl (l _ _ h))
    · exact .inl (.inr ⟨o, l _ _ h⟩)
  · exact .inr h
theorem Le.sqL {K : PySem.W.Frag} {a : Addr} {vs : List V} (l : ∀ a o, F a = some o → F' a = some o) (h : SqL K F a vs) : SqL K F' a vs := by
  rcases h with h | h
  · rcases h with h | ⟨o, h⟩
    · exact .inl (.inl (l _ _ h))
    · exact .inl (.inr ⟨o, l _ _ h⟩)
  · exact .inr h
mutual
theorem Rep.mono (l : Le F mu F' mu') : ∀ {d : D} {v : V}, Rep G F mu d v → Rep G F' mu' d v
  | _, _, .non => .non
  | _, _, .bl b => .bl b
  | _, _, .int i => .int i
  | _, _, .str x => .str x
  | _, _, .tup h r => .tup (h.mono l.f) (RepL.mono l r)
  | _, _, .ktup h r => .ktup (l.f _ _ h) (RepL.mono l r)
  | _, _, .lst h r => .lst (l.f _ _ h) (RepL.mono l r)
  | _, _, .scr h => .scr (Le.sqL l.f h)
  | _, _, .dct h z r => .dct (l.f _ _ h) z (RepL.mono l r)
  | _, _, .obj h z c r => .obj (l.f _ _ h) z c (RepL.mono l r)
  | _, _, .ref h => .ref (l.m _ _ h)
  | _, _, .ty n => .ty n
  | _, _, .cls h => .cls h
  | _, _, .fn h => .fn h
theorem RepL.mono (l : Le F mu F' mu') : ∀ {ds : List D} {vs : List V}, RepL G F mu ds vs → RepL G F' mu' ds vs
  | _, _, .nil => .nil
  | _, _, .cons r t => .cons (Rep.mono l r) (RepL.mono l t)
end
end

/-- a changing object as it stands -/
inductive ORep (G : Gl) (F : Hp) (mu : List Addr) : DO → HO → Prop
  | lst {xs : List D} {vs : List V} : RepL G F mu xs vs → ORep G F mu (.lst xs) (.lst vs)
  | dct {ks : List Key} {xs : List D} {vs : List V} : ks.length = vs.length → RepL G F mu xs vs → ORep G F mu (.dct ks xs) (.dK (ks.zip vs))
  | fdct {o : Obj} {ks : List Key} {xs : List D} {vs : List V} : ks.length = vs.length → RepL G F mu xs vs → ORep G F mu (.fdct ks xs) (.frz o (.dK (ks.zip vs)))
  | ins {c : Str} {C dx : Addr} {ns : List Str} {xs : List D} {vs : List V} : ns.length = vs.length → G.ca c = some C → RepL G F mu xs vs → ORep G F mu (.ins c ns xs) (.ins C dx (ns.zip vs))
theorem ORep.mono {G : Gl} {F F' : Hp} {mu mu' : List Addr} (l : Le F mu F' mu') {o : DO} {h : HO} (r : ORep G F mu o h) : ORep G F' mu' o h := by
  cases r with
  | lst r => exact .lst (r.mono l)
  | dct z r => exact .dct z (r.mono l)
  | fdct z r => exact .fdct z (r.mono l)
  | ins z c r => exact .ins z c (r.mono l)

/-- the state as it stands -/
structure SR (G : Gl) (F : Hp) (mu : List Addr) (s : DS) (H : Hp) : Prop where
  sub : ∀ a o, F a = some o → H a = some o
  len : mu.length = s.length
  nd : mu.Nodup
  live : ∀ (n : Nat) (o : DO) (a : Addr), s[n]? = some o → o ≠ .dead → mu[n]? = some a → F a = none ∧ ∃ ho, H a = some ho ∧ ORep G F mu o ho
  ne : ∀ a ∈ mu, H a ≠ none

/-- how it goes on -/
structure Ex (F : Hp) (mu : List Addr) (H : Hp) (F' : Hp) (mu' : List Addr) (H' : Hp) : Prop where
  f : ∀ a o, F a = some o → F' a = some o
  m : ∃ l, mu' = mu ++ l ∧ ∀ a ∈ l, H a = none
  h : ∀ a o, H a = some o → a ∉ mu → H' a = some o
  g : ∀ a, F' a ≠ none → F a ≠ none ∨ H a = none ∨ a ∈ mu
  z : ∀ a o u, H a = some (.frz o u) → H' a = some (.frz o u)
section
variable {G : Gl} {F F1 F2 : Hp} {mu mu1 mu2 : List Addr} {H H1 H2 : Hp} {s : DS}
theorem Ex.le (x : Ex F mu H F1 mu1 H1) : Le F mu F1 mu1 := ⟨x.f, fun n a e => by
  obtain ⟨l, rfl, _⟩ := x.m
  rw [List.getElem?_append_left (by have := (List.getElem?_eq_some_iff.mp e).1; omega)]
  exact e⟩
theorem Ex.refl : Ex F mu H F mu H := ⟨fun _ _ e => e, ⟨[], by simp, fun _ h => nomatch h⟩, fun _ _ e _ => e, fun _ e => .inl e, fun _ _ _ e => e⟩
/-- what is in mu stays there -/
theorem Ex.trans (hn : ∀ a, a ∈ mu → H a ≠ none) (x : Ex F mu H F1 mu1 H1) (hn1 : ∀ a, a ∈ mu1 → H1 a ≠ none) (y : Ex F1 mu1 H1 F2 mu2 H2) : Ex F mu H F2 mu2 H2 := by
  obtain ⟨l, e, hl⟩ := x.m
  obtain ⟨l2, e2, hl2⟩ := y.m
  refine ⟨fun a o h => y.f a o (x.f a o h), ⟨l ++ l2, by rw [e2, e, List.append_assoc], fun a ha => ?_⟩, fun a o h hm => ?_, fun a ha => ?_, fun a o u h => y.z a o u (x.z a o u h)⟩
  · rcases List.mem_append.mp ha with ha | ha
    · exact hl a ha
    · cases q : H a with
      | none => rfl
      | some o =>
        exfalso
        by_cases hm : a ∈ mu
        · exact hn1 a (by rw [e]; exact List.mem_append_left _ hm) (hl2 a ha)
        · have := x.h a o q hm
          rw [hl2 a ha] at this
          cases this
  · have h1 := x.h a o h hm
    refine y.h a o h1 fun hm1 => ?_
    rw [e] at hm1
    rcases List.mem_append.mp hm1 with z | z
    · exact hm z
    · rw [hl a z] at h; cases h
  · rcases y.g a ha with z | z | z
    · exact x.g a z
    · cases q : H a with
      | none => exact .inr (.inl rfl)
      | some o =>
        by_cases hm : a ∈ mu
        · exact .inr (.inr hm)
        · rw [x.h a o q hm] at z; cases z
    · rw [e] at z
      rcases List.mem_append.mp z with z | z
      · exact .inr (.inr z)
      · exact .inr (.inl (hl a z))
theorem SR.trans {s1 : DS} (r : SR G F mu s H) (x : Ex F mu H F1 mu1 H1) (r1 : SR G F1 mu1 s1 H1) (y : Ex F1 mu1 H1 F2 mu2 H2) : Ex F mu H F2 mu2 H2 := Ex.trans r.ne x r1.ne y
theorem SR.new_notin (r : SR G F mu s H) {p : Addr} (h : H p = none) : p ∉ mu := fun hm => r.ne p hm h
theorem SR.new_f (r : SR G F mu s H) {p : Addr} (h : H p = none) : F p = none := by
  cases e : F p with
  | none => rfl
  | some o => rw [r.sub p o e] at h; cases h
/-- a new frozen object -/
theorem Ex.frozen (r : SR G F mu s H) {p : Addr} {o : HO} (h : H p = none) : Ex F mu H (upd F p o) mu (upd H p o) := by
  have hF := r.new_f h
  refine ⟨fun a u e => ?_, ⟨[], by simp, fun _ z => nomatch z⟩, fun a u e _ => ?_, fun a e => ?_, fun a o u e => ?_⟩
  · rw [upd_ne (ne_of_none e hF)]; exact e
  · rw [upd_ne (ne_of_none e h)]; exact e
  · by_cases q : a = p
    · subst q; exact .inr (.inl h)
    · rw [upd_ne q] at e; exact .inl e
  · rw [upd_ne (ne_of_none e h)]; exact e
theorem SR.frozen (r : SR G F mu s H) {p : Addr} {o : HO} (h : H p = none) : SR G (upd F p o) mu s (upd H p o) := by
  have x : Ex F mu H (upd F p o) mu (upd H p o) := Ex.frozen r h
  refine ⟨fun a u e => ?_, r.len, r.nd, fun n u a e1 e2 e3 => ?_, fun a hm => ?_⟩
  · by_cases q : a = p
    · subst q; rw [upd_same] at e ⊢; exact e
    · rw [upd_ne q] at e ⊢; exact r.sub a u e
  · obtain ⟨z1, ho, z2, z3⟩ := r.live n u a e1 e2 e3
    have hne : a ≠ p := ne_of_none z2 h
    exact ⟨by rw [upd_ne hne]; exact z1, ho, by rw [upd_ne hne]; exact z2, z3.mono x.le⟩
  · have hne : a ≠ p := fun q => r.new_notin h (q ▸ hm)
    rw [upd_ne hne]; exact r.ne a hm
/-- the heap grows by what we do not track -/
theorem SR.heap (r : SR G F mu s H) (hk : ∀ a o, H a = some o → H1 a = some o) : SR G F mu s H1 :=
  ⟨fun a o e => hk a o (r.sub a o e), r.len, r.nd, fun n o a e1 e2 e3 => by
    obtain ⟨z1, ho, z2, z3⟩ := r.live n o a e1 e2 e3
    exact ⟨z1, ho, hk _ _ z2, z3⟩, fun a hm => by
    cases e : H a with
    | none => exact absurd e (r.ne a hm)
    | some o => rw [hk a o e]; exact fun z => nomatch z⟩
theorem Ex.heap (hk : ∀ a o, H a = some o → H1 a = some o) : Ex F mu H F mu H1 := ⟨fun _ _ e => e, ⟨[], by simp, fun _ h => nomatch h⟩, fun a o e _ => hk a o e, fun _ e => .inl e, fun a o u e => hk a _ e⟩
/-- a new changing object -/
theorem Ex.alloc (r : SR G F mu s H) {p : Addr} {o : HO} (h : H p = none) : Ex F mu H F (mu ++ [p]) (upd H p o) :=
  ⟨fun _ _ e => e, ⟨[p], rfl, fun a ha => by rw [List.mem_singleton.mp ha]; exact h⟩, fun a u e _ => by rw [upd_ne (ne_of_none e h)]; exact e, fun _ e => .inl e, fun a o u e => by rw [upd_ne (ne_of_none e h)]; exact e⟩
theorem SR.alloc (r : SR G F mu s H) {p : Addr} {o : DO} {ho : HO} (h : H p = none) (q : ORep G F (mu ++ [p]) o ho) : SR G F (mu ++ [p]) (s ++ [o]) (upd H p ho) := by
  have x : Ex F mu H F (mu ++ [p]) (upd H p ho) := Ex.alloc r h
  refine ⟨fun a u e => ?_, by simp [r.len], ?_, fun n u a e1 e2 e3 => ?_, fun a hm => ?_⟩
  · rw [upd_ne (ne_of_none (r.sub a u e) h)]; exact r.sub a u e
  · refine List.nodup_append.mpr ⟨r.nd, by simp, fun a ha b hb => ?_⟩
    rw [List.mem_singleton.mp hb]
    exact fun z => r.new_notin h (z ▸ ha)
  · by_cases hn : n < s.length
    · rw [List.getElem?_append_left hn] at e1
      rw [List.getElem?_append_left (by rw [r.len]; exact hn)] at e3
      obtain ⟨z1, ho', z2, z3⟩ := r.live n u a e1 e2 e3
      exact ⟨z1, ho', by rw [upd_ne (ne_of_none z2 h)]; exact z2, z3.mono x.le⟩
    · have hn2 : n = s.length := by
        have := (List.getElem?_eq_some_iff.mp e1).1
        simp at this; omega
      subst hn2
      rw [List.getElem?_append_right (Nat.le_refl _), Nat.sub_self] at e1
      rw [List.getElem?_append_right (by rw [r.len]; exact Nat.le_refl _), r.len, Nat.sub_self] at e3
      simp at e1 e3
      subst e1 e3
      exact ⟨r.new_f h, ho, upd_same, q⟩
  · rcases List.mem_append.mp hm with z | z
    · rw [upd_ne (fun q : a = p => r.new_notin h (by rw [← q]; exact z))]; exact r.ne a z
    · rw [List.mem_singleton.mp z, upd_same]; exact fun z => nomatch z
/-- a changing object changes -/
theorem Ex.write {n : Nat} {a : Addr} {ho : HO} (e : mu[n]? = some a) (hz : ∀ o u, H a ≠ some (.frz o u)) : Ex F mu H F mu (upd H a ho) :=
  ⟨fun _ _ e => e, ⟨[], by simp, fun _ z => nomatch z⟩, fun b u h hm => by
    rw [upd_ne (fun q : b = a => hm (by rw [q]; exact List.mem_of_getElem? e))]; exact h, fun _ e => .inl e, fun b o u h => by
    rw [upd_ne (fun q : b = a => hz o u (by rw [← q]; exact h))]; exact h⟩
theorem nodup_get {α : Type} {l : List α} (h : l.Nodup) {i j : Nat} {a : α} (e1 : l[i]? = some a) (e2 : l[j]? = some a) : i = j := by
  have h1 := (List.getElem?_eq_some_iff.mp e1).1
  exact (List.getElem?_inj h1 h).mp (e1.trans e2.symm)
theorem SR.write (r : SR G F mu s H) {n : Nat} {a : Addr} {o o0 : DO} {ho : HO} (e0 : s[n]? = some o0) (hd : o0 ≠ .dead) (e : mu[n]? = some a) (q : ORep G F mu o ho) : SR G F mu (s.set n o) (upd H a ho) := by
  obtain ⟨zf, _, _, _⟩ := r.live n o0 a e0 hd e
  refine ⟨fun b u eb => ?_, by simp [r.len], r.nd, fun m u b e1 e2 e3 => ?_, fun b hm => ?_⟩
  · rw [upd_ne (fun z => by rw [z, zf] at eb; cases eb)]; exact r.sub b u eb
  · by_cases hm : m = n
    · subst hm
      have hl : m < s.length := (List.getElem?_eq_some_iff.mp e0).1
      rw [List.getElem?_set_self hl] at e1
      have eq : b = a := Option.some.inj (e3.symm.trans e)
      cases e1
      subst eq
      exact ⟨zf, ho, upd_same, q⟩
    · rw [List.getElem?_set_ne (Ne.symm hm)] at e1
      obtain ⟨z1, ho', z2, z3⟩ := r.live m u b e1 e2 e3
      have hne : b ≠ a := fun z => hm (nodup_get r.nd (z ▸ e3) e)
      exact ⟨z1, ho', by rw [upd_ne hne]; exact z2, z3⟩
  · by_cases z : b = a
    · rw [z, upd_same]; exact fun z => nomatch z
    · rw [upd_ne z]; exact r.ne b hm
/-- a changing object is frozen -/
theorem Ex.freeze {n : Nat} {a : Addr} {o0 : DO} {ho : HO} (r : SR G F mu s H) (e0 : s[n]? = some o0) (hd : o0 ≠ .dead) (e : mu[n]? = some a) (hh : H a = some ho) : Ex F mu H (upd F a ho) mu H := by
  obtain ⟨zf, _, _, _⟩ := r.live n o0 a e0 hd e
  refine ⟨fun b u h => ?_, ⟨[], by simp, fun _ z => nomatch z⟩, fun _ _ h _ => h, fun b hb => ?_, fun _ _ _ h => h⟩
  · rw [upd_ne (fun z => by rw [z, zf] at h; cases h)]; exact h
  · by_cases q : b = a
    · subst q; exact .inr (.inr (List.mem_of_getElem? e))
    · rw [upd_ne q] at hb; exact .inl hb
theorem SR.freeze {n : Nat} {a : Addr} {o0 : DO} {ho : HO} (r : SR G F mu s H) (e0 : s[n]? = some o0) (hd : o0 ≠ .dead) (e : mu[n]? = some a) (hh : H a = some ho) : SR G (upd F a ho) mu (s.set n .dead) H := by
  have x := Ex.freeze (ho := ho) r e0 hd e hh
  refine ⟨fun b u eb => ?_, by simp [r.len], r.nd, fun m u b e1 e2 e3 => ?_, r.ne⟩
  · by_cases z : b = a
    · subst z; rw [upd_same] at eb; cases eb; exact hh
    · rw [upd_ne z] at eb; exact r.sub b u eb
  · by_cases hm : m = n
    · subst hm
      have hl : m < s.length := (List.getElem?_eq_some_iff.mp e0).1
      rw [List.getElem?_set_self hl] at e1
      cases e1
      exact absurd rfl e2
    · rw [List.getElem?_set_ne (Ne.symm hm)] at e1
      obtain ⟨z1, ho', z2, z3⟩ := r.live m u b e1 e2 e3
      have hne : b ≠ a := fun z => hm (nodup_get r.nd (z ▸ e3) e)
      exact ⟨by rw [upd_ne hne]; exact z1, ho', z2, z3.mono x.le⟩
end

/-- the names' values -/
structure ER (G : Gl) (F : Hp) (mu : List Addr) (env : Env') (σ : L2.St) : Prop where
  len : env.length = σ.length
  get : ∀ (i : Nat) (d : D), env[i]? = some (some d) → ∃ v, σ[i]? = some (some v) ∧ Rep G F mu d v
  xc : ∀ z, G.xa = some z → σ[z.i]? = some (some (.ref z.a)) ∧ G.ca z.x.c = some z.C ∧ ∃ ws, F z.d = some (.xd (z.x.ns.zip ws)) ∧ z.x.ns.length = ws.length ∧ RepL G F mu z.x.vs ws
/-- the slot is not that of what is handled -/
def Gl.at_ (G : Gl) (i : Nat) : Prop := ∀ z, G.xa = some z → z.i ≠ i
section
variable {G : Gl} {F F1 : Hp} {mu mu1 : List Addr} {env : Env'} {σ : L2.St}
theorem ER.mono (l : Le F mu F1 mu1) (e : ER G F mu env σ) : ER G F1 mu1 env σ := ⟨e.len, fun i d h => by
  obtain ⟨v, h1, h2⟩ := e.get i d h
  exact ⟨v, h1, h2.mono l⟩, fun z hz => by
  obtain ⟨h1, h5, ws, h2, h3, h4⟩ := e.xc z hz
  exact ⟨h1, h5, ws, l.f _ _ h2, h3, h4.mono l⟩⟩
theorem ER.set (e : ER G F mu env σ) (i : Nat) {d : D} {v : V} (r : Rep G F mu d v) (hx : G.at_ i) : ER G F mu (env.set i (some d)) (σ.set i (some v)) := by
  refine ⟨by simp [e.len], fun j c h => ?_, fun z hz => by
    obtain ⟨h1, h2⟩ := e.xc z hz
    exact ⟨by rw [List.getElem?_set_ne (Ne.symm (hx z hz))]; exact h1, h2⟩⟩
  by_cases q : j = i
  · subst q
    have hl : j < env.length := by
      have := (List.getElem?_eq_some_iff.mp h).1
      simpa using this
    rw [List.getElem?_set_self hl] at h
    cases h
    exact ⟨v, by rw [List.getElem?_set_self (by rw [← e.len]; exact hl)], r⟩
  · rw [List.getElem?_set_ne (Ne.symm q)] at h
    obtain ⟨u, h1, h2⟩ := e.get j c h
    exact ⟨u, by rw [List.getElem?_set_ne (Ne.symm q)]; exact h1, h2⟩
/-- a slot is forgotten -/
theorem ER.wipe1 (e : ER G F mu env σ) (i : Nat) (x : Option V) (hx : G.at_ i) : ER G F mu (env.set i none) (σ.set i x) := by
  refine ⟨by simp [e.len], fun j c h => ?_, fun z hz => by
    obtain ⟨h1, h2⟩ := e.xc z hz
    exact ⟨by rw [List.getElem?_set_ne (Ne.symm (hx z hz))]; exact h1, h2⟩⟩
  by_cases q : j = i
  · subst q
    have hl : j < env.length := by
      have := (List.getElem?_eq_some_iff.mp h).1
      simpa using this
    rw [List.getElem?_set_self hl] at h
    cases h
  · rw [List.getElem?_set_ne (Ne.symm q)] at h
    obtain ⟨u, h1, h2⟩ := e.get j c h
    exact ⟨u, by rw [List.getElem?_set_ne (Ne.symm q)]; exact h1, h2⟩
end

section
variable {G G' : Gl} {F : Hp} {mu : List Addr}
mutual
theorem Rep.to (hK : G'.K = G.K) (hc : G'.ca = G.ca) (hf : G'.fa = G.fa) : ∀ {d : D} {v : V}, Rep G F mu d v → Rep G' F mu d v
  | _, _, .non => .non
  | _, _, .bl b => .bl b
  | _, _, .int i => .int i
  | _, _, .str x => .str x
  | _, _, .tup h r => .tup (by rw [hK]; exact h) (RepL.to hK hc hf r)
  | _, _, .ktup h r => .ktup h (RepL.to hK hc hf r)
  | _, _, .lst h r => .lst h (RepL.to hK hc hf r)
  | _, _, .scr h => .scr (by rw [hK]; exact h)
  | _, _, .dct h z r => .dct h z (RepL.to hK hc hf r)
  | _, _, .obj h z c r => .obj h z (by rw [hc]; exact c) (RepL.to hK hc hf r)
  | _, _, .ref h => .ref h
  | _, _, .ty n => .ty n
  | _, _, .cls h => .cls (by rw [hc]; exact h)
  | _, _, .fn h => .fn (by rw [hf]; exact h)
theorem RepL.to (hK : G'.K = G.K) (hc : G'.ca = G.ca) (hf : G'.fa = G.fa) : ∀ {ds : List D} {vs : List V}, RepL G F mu ds vs → RepL G' F mu ds vs
  | _, _, .nil => .nil
  | _, _, .cons r t => .cons (Rep.to hK hc hf r) (RepL.to hK hc hf t)
end
theorem SR.to (hK : G'.K = G.K) (hc : G'.ca = G.ca) (hf : G'.fa = G.fa) {s : DS} {H : Hp} (r : SR G F mu s H) : SR G' F mu s H :=
  ⟨r.sub, r.len, r.nd, fun n o a h1 h2 h3 => by
    obtain ⟨z1, ho, z2, z3⟩ := r.live n o a h1 h2 h3
    refine ⟨z1, ho, z2, ?_⟩
    cases z3 with
    | lst r => exact .lst (r.to hK hc hf)
    | dct z r => exact .dct z (r.to hK hc hf)
    | fdct z r => exact .fdct z (r.to hK hc hf)
    | ins z c r => exact .ins z (by rw [hc]; exact c) (r.to hK hc hf), r.ne⟩
end
/-- an exception as it stands -/
def XRep (G : Gl) (F : Hp) (mu : List Addr) (x : Exn) (cls : Value) (dd : Option Addr) : Prop :=
  ∃ (C d : Addr) (vs : List V), cls = .ref C ∧ dd = some d ∧ G.ca x.c = some C ∧ F d = some (.xd (x.ns.zip vs)) ∧ x.ns.length = vs.length ∧ RepL G F mu x.vs vs

/-- how a result stands: a value, a list of values, a truth value -/
class RepC (G : Gl) (α : Type) (β : outParam Type) where
  rep : Hp → List Addr → Hp → α → β → Prop
instance repD {G : Gl} : RepC G D V := ⟨fun F mu _ => Rep G F mu⟩
instance repL {G : Gl} : RepC G (List D) (List V) := ⟨fun F mu _ => RepL G F mu⟩
instance repB {G : Gl} : RepC G Bool Bool := ⟨fun _ _ _ a b => b = a⟩
instance repO {G : Gl} : RepC G (Option Int) (Option Int) := ⟨fun _ _ _ a b => b = a⟩
/-- what is wanted behind an expression -/
def Post (G : Gl) {α β : Type} [RepC G α β] (F : Hp) (mu : List Addr) (H : Hp) (E : XK) (r : R α) (Q : β → Hp → Prop) : Prop := match r with
  | .ok d s' => ∀ F' mu' H' v, Ex F mu H F' mu' H' → SR G F' mu' s' H' → RepC.rep G F' mu' H' d v → Q v H'
  | .exc x s' => ∀ F' mu' H' cls dd, Ex F mu H F' mu' H' → SR G F' mu' s' H' → XRep G F' mu' x cls dd → E cls dd H'
  | .bad => False
abbrev EV (α : Type) := Env' → DS → R α
abbrev WE' (W : WX) (σ : L2.St) : XK := fun c d H' => W c d σ H'
/-- the reading of an expression: it evaluates as f says -/
def tD (G : Gl) {α β : Type} [RepC G α β] (f : EV α) (W : WX) : L2.St → Hp → (β → Hp → Prop) → Prop := fun σ H Q => ∃ F mu env s, SR G F mu s H ∧ ER G F mu env σ ∧ Post G F mu H (WE' W σ) (f env s) Q
section
variable {G : Gl} {α β : Type} [RepC G α β] {F F1 : Hp} {mu mu1 : List Addr} {H H1 : Hp} {s : DS} {E : XK} {Q : β → Hp → Prop}
theorem Post.mono {s1 : DS} {r : R α} (hs : SR G F mu s H) (hs1 : SR G F1 mu1 s1 H1) (x : Ex F mu H F1 mu1 H1) (h : Post G F mu H E r Q) : Post G F1 mu1 H1 E r Q := by
  cases r with
  | ok d s' => exact fun F' mu' H' v y q => h F' mu' H' v (hs.trans x hs1 y) q
  | exc c s' => exact fun F' mu' H' v dd y q => h F' mu' H' v dd (hs.trans x hs1 y) q
  | bad => exact h
theorem Post.imp {r : R α} {Q' : β → Hp → Prop} (h : Post G F mu H E r Q) (hk : ∀ v H', Q v H' → Q' v H') : Post G F mu H E r Q' := by
  cases r with
  | ok d s' => exact fun F' mu' H' v y q z => hk v H' (h F' mu' H' v y q z)
  | exc c s' => exact h
  | bad => exact h
/-- one behind the other -/
theorem Post.bind {α' β' : Type} [RepC G α' β'] {r : R α'} {Q' : β' → Hp → Prop} {k : α' → DS → R α} (hs : SR G F mu s H) (h : Post G F mu H E (r.bind k) Q)
    (hk : ∀ F1 mu1 H1 d v s1, Ex F mu H F1 mu1 H1 → SR G F1 mu1 s1 H1 → RepC.rep G F1 mu1 H1 d v → Post G F1 mu1 H1 E (k d s1) Q → Q' v H1) : Post G F mu H E r Q' := by
  cases r with
  | ok d s' => exact fun F' mu' H' v x q rp => hk F' mu' H' d v s' x q rp (Post.mono hs q x h)
  | exc c s' => exact h
  | bad => exact h
theorem Post.here {d : α} {v : β} (hs : SR G F mu s H) (r : RepC.rep G F mu H d v) (h : Post G F mu H E (.ok d s) Q) : Q v H := h F mu H v Ex.refl hs r
end

/-- a name's place -/
def slotOf : List Str → Str → Option Nat
  | [], _ => none
  | y :: r, x => if y = x then some 0 else (slotOf r x).map (· + 1)
theorem slotOf_ok : ∀ {N : List Str} {x : Str} {i : Nat}, slotOf N x = some i → N[i]? = some x
  | [], _, _, h => by cases h
  | y :: r, x, i, h => by
    unfold slotOf at h
    split at h
    · rename_i e
      cases h; rw [e]; rfl
    · obtain ⟨j, h1, h2⟩ := Option.map_eq_some_iff.mp h
      subst h2
      show r[j]? = some x
      exact slotOf_ok h1
/-- where one stands: names, the scope that runs, the written one (for stores), in a def's body -/
structure Ct where
  N : List Str
  sc : Scope
  wr : Scope
  top : Bool
  calm : Bool := true
  /-- the slot of the exception that is handled -/
  xi : Option Nat := none
def visB (sc : Scope) (x : Str) : Bool := match sc.names.lookup x with
  | some .local => true
  | some .cell => true
  | some .free => true
  | _ => false
theorem visB_ok {sc : Scope} {x : Str} (h : visB sc x = true) : Vis sc x := by
  unfold visB at h
  split at h
  · rename_i e; exact .inl e
  · rename_i e; exact .inr (.inl e)
  · rename_i e; exact .inr (.inr e)
  · cases h
def locB (sc : Scope) (x : Str) : Bool := match sc.names.lookup x with
  | some .local => true
  | some .cell => true
  | _ => false
structure XOk (G : Gl) (k : Nat) (c : Ct) (X : Cx) (W : WX) : Prop where
  prog : X.prog = G.P
  w : X.w = G.w
  K : X.K = G.K
  mg : X.mg = G.mg
  base : X.base = G.base
  N : X.N = c.N
  nd : c.N.Nodup
  sc : X.env.scope = c.sc
  calm : c.calm = true → X.calm = true ∧ G.xa = none
  tk : Takes X W
  room : c.calm = true → Room k X.A
  units : X.A.units + 65 < cLine
  xi : ∀ z, G.xa = some z → c.xi = some z.i ∧ ∃ X0 oe pn, X = Cx.suite X0 z.a ((z.a, oe) :: pn) ∧ Zc (.ref z.C) (some z.d) oe ∧ ∃ vs, oe.data = .fields vs
  top : c.top = true → PassesOwn (model X.prog X.w) X.A X.env X.xe ∧ X.stack = X.env :: X.outer ∧ X.env.frame = some X.env.locals
  st : ∀ x, locB c.wr x = true → Loc X.env.scope x ∧ (X.fn x = true ∨ X.env.scope.names.lookup x = some .local)
theorem XOk.at_ {G : Gl} {k : Nat} {c : Ct} {X : Cx} {W : WX} (ok : XOk G k c X W) {i : Nat} (h : c.xi ≠ some i) : G.at_ i := fun z hz e => h (by rw [(ok.xi z hz).1, e])
/-- what is known of the text's names -/
structure Tab where
  /-- a module's name, a built-in type -/
  glob : Str → Option D
  /-- a name that the module does not bind -/
  free : Str → Bool
def PEd (G : Gl) (k : Nat) (c : Ct) (f : EV D) (e : Expr) : Prop := ∀ X W, XOk G k c X W → PE X e (tD G f W)
def PTd (G : Gl) (k : Nat) (c : Ct) (f : EV Bool) (e : Expr) : Prop := ∀ X W, XOk G k c X W → PT X e (tD G f W)
def PAd (G : Gl) (k : Nat) (c : Ct) (f : EV (List D)) (es : List Expr) : Prop := ∀ X W, XOk G k c X W → PA X es (tD G f W)
/-- a reading by another -/
theorem PE.by {X : Cx} {e : Expr} {t t' : TE} (h : PE X e t) (i : ∀ σ H Q, t' σ H Q → t σ H Q) : PE X e t' := ⟨fun pins s σ H Q I q => h.run pins s σ H Q I (i σ H Q q)⟩
theorem PT.by {X : Cx} {e : Expr} {t t' : TT} (h : PT X e t) (i : ∀ σ H Q, t' σ H Q → t σ H Q) : PT X e t' := ⟨fun pins s σ H Q I q => h.run pins s σ H Q I (i σ H Q q)⟩
theorem PA.by {X : Cx} {e : List Expr} {t t' : TA} (h : PA X e t) (i : ∀ σ H Q, t' σ H Q → t σ H Q) : PA X e t' := ⟨fun po pins s σ H Q I q => h.run po pins s σ H Q I (i σ H Q q)⟩
theorem PS.by {X : Cx} {e : Stmt} {t t' : TS} (h : PS X e t) (i : ∀ D σ H, t' D σ H → t D σ H) : PS X e t' := ⟨fun pins s σ H D I q => h.run pins s σ H D I (i D σ H q)⟩
theorem PSs.by {X : Cx} {e : List Stmt} {t t' : TS} (h : PSs X e t) (i : ∀ D σ H, t' D σ H → t D σ H) : PSs X e t' := ⟨fun pins s σ H D I q => h.run pins s σ H D I (i D σ H q)⟩

/-- what is wanted behind a statement -/
inductive SR' where
  | nx (env : Env') (s : DS)
  | rt (d : D) (s : DS)
  | bk (env : Env') (s : DS)
  | ct (env : Env') (s : DS)
  | exc (x : Exn) (env : Env') (s : DS)
  | bad
abbrev SV := Env' → DS → SR'
def PostS (G : Gl) (F : Hp) (mu : List Addr) (H : Hp) (W : WX) (r : SR') (Dn : Ends) : Prop := match r with
  | .nx env s => ∀ F' mu' H' σ', Ex F mu H F' mu' H' → SR G F' mu' s H' → ER G F' mu' env σ' → Dn.nx σ' H'
  | .rt d s => ∀ F' mu' H' v, Ex F mu H F' mu' H' → SR G F' mu' s H' → Rep G F' mu' d v → Dn.rt v H'
  | .bk env s => ∀ F' mu' H' σ', Ex F mu H F' mu' H' → SR G F' mu' s H' → ER G F' mu' env σ' → Dn.bk σ' H'
  | .ct env s => ∀ F' mu' H' σ', Ex F mu H F' mu' H' → SR G F' mu' s H' → ER G F' mu' env σ' → Dn.ct σ' H'
  | .exc x env s => ∀ F' mu' H' σ' cls dd, Ex F mu H F' mu' H' → SR G F' mu' s H' → ER G F' mu' env σ' → XRep G F' mu' x cls dd → W cls dd σ' H'
  | .bad => False
def tS (G : Gl) (f : SV) (W : WX) : TS := fun Dn σ H => ∃ F mu env s, SR G F mu s H ∧ ER G F mu env σ ∧ PostS G F mu H W (f env s) Dn
def PSd (G : Gl) (k : Nat) (c : Ct) (f : SV) (st : Stmt) : Prop := ∀ X W, XOk G k c X W → PS X st (tS G f W)
def PBd (G : Gl) (k : Nat) (c : Ct) (f : SV) (st : List Stmt) : Prop := ∀ X W, XOk G k c X W → PSs X st (tS G f W)
theorem PostS.mono {G : Gl} {F F1 : Hp} {mu mu1 : List Addr} {H H1 : Hp} {s s1 : DS} {W : WX} {r : SR'} {Dn : Ends} (hs : SR G F mu s H) (hs1 : SR G F1 mu1 s1 H1) (x : Ex F mu H F1 mu1 H1) (h : PostS G F mu H W r Dn) : PostS G F1 mu1 H1 W r Dn := by
  cases r with
  | nx e s' => exact fun F' mu' H' v y q => h F' mu' H' v (hs.trans x hs1 y) q
  | rt e s' => exact fun F' mu' H' v y q => h F' mu' H' v (hs.trans x hs1 y) q
  | bk e s' => exact fun F' mu' H' v y q => h F' mu' H' v (hs.trans x hs1 y) q
  | ct e s' => exact fun F' mu' H' v y q => h F' mu' H' v (hs.trans x hs1 y) q
  | exc c e s' => exact fun F' mu' H' v c dd y q => h F' mu' H' v c dd (hs.trans x hs1 y) q
  | bad => exact h
/-- an expression's result, then a statement's -/
@[reducible] def R.toS {α : Type} (r : R α) (env : Env') (k : α → DS → SR') : SR' := match r with
  | .ok a s => k a s
  | .exc x s => .exc x env s
  | .bad => .bad
theorem Post.toS {G : Gl} {α β : Type} [RepC G α β] {F : Hp} {mu : List Addr} {H : Hp} {s : DS} {W : WX} {env : Env'} {σ : L2.St} {Dn : Ends} {r : R α} {k : α → DS → SR'} {Q : β → Hp → Prop} (hs : SR G F mu s H) (he : ER G F mu env σ)
    (h : PostS G F mu H W (r.toS env k) Dn) (hk : ∀ F1 mu1 H1 d v s1, Ex F mu H F1 mu1 H1 → SR G F1 mu1 s1 H1 → RepC.rep G F1 mu1 H1 d v → ER G F1 mu1 env σ → PostS G F1 mu1 H1 W (k d s1) Dn → Q v H1) : Post G F mu H (WE' W σ) r Q := by
  cases r with
  | ok d s' => exact fun F' mu' H' v x q rp => hk F' mu' H' d v s' x q rp (he.mono x.le) (PostS.mono hs q x h)
  | exc c s' => exact fun F' mu' H' c' dd x q rp => h F' mu' H' σ c' dd x q (he.mono x.le) rp
  | bad => exact h
end Pv

set_option Elab.async false
set_option linter.all false
set_option maxRecDepth 100000
/-! Ev2: expressions, tests, statements as combinators. -/
namespace Pv
open PySem PySem.Spec PyProof.Rows L2
section
variable {G : Gl} {k : Nat} {c : Ct} {f g h : EV D} {ft gt : EV Bool} {e a b : Expr} {pos : Pos}

/-! ### expressions -/
def eC (d : D) : EV D := fun _ s => .ok d s
def eVar (i : Nat) : EV D := fun env s => match env[i]? with
  | some (some d) => .ok d s
  | _ => .bad
theorem pe_dvar {i : Nat} {x : Str} (hi : slotOf c.N x = some i) (hv : visB c.sc x = true) (hd : (x == ("__debug__" : Str)) = false) (hcd : (x == ("__classdict__" : Str)) = false) : PEd G k c (eVar i) (.Name x pos) := fun X W ok => by
  refine PE.by (pe_var (i := i) (by rw [ok.N]; exact slotOf_ok hi) (by rw [ok.sc]; exact visB_ok hv) hd hcd) fun σ H Q q => ?_
  obtain ⟨F, mu, env, s, hs, he, p⟩ := q
  unfold eVar at p
  split at p
  · rename_i d ed
    obtain ⟨v, h1, h2⟩ := he.get i d ed
    exact ⟨v, h1, Post.here (G := G) hs h2 p⟩
  · exact p.elim
theorem tD_c {d : D} {v : V} {W : WX} (r : ∀ F mu, Rep G F mu d v) {σ : L2.St} {H : Hp} {Q : VK} (q : tD G (eC d) W σ H Q) : tC v σ H Q := by
  obtain ⟨F, mu, env, s, hs, he, p⟩ := q
  exact Post.here (G := G) hs (r F mu) p
theorem pe_dint {i j} : PEd G k c (eC (.int i)) (.Constant (.int i) j pos) := fun X W ok => PE.by pe_int fun _ _ _ q => tD_c (fun _ _ => .int i) q
theorem pe_dstr {i j} : PEd G k c (eC (.str i)) (.Constant (.str i) j pos) := fun X W ok => PE.by pe_str fun _ _ _ q => tD_c (fun _ _ => .str i) q
theorem pe_dbl {i j} : PEd G k c (eC (.bl i)) (.Constant (.bool i) j pos) := fun X W ok => PE.by pe_bl fun _ _ _ q => tD_c (fun _ _ => .bl i) q
theorem pe_dnon {j} : PEd G k c (eC .non) (.Constant .none j pos) := fun X W ok => PE.by pe_non fun _ _ _ q => tD_c (fun _ _ => .non) q
/-- what a module's name stands for -/
structure GlobOk (G : Gl) (x : Str) (d : D) : Prop where
  is : ∃ (v : V) (u : Value), RelV v u ∧ (∀ F mu, Rep G F mu d v) ∧ (G.mg x = some u ∨ (G.mg x = none ∧ bootBuiltins x = some u ∧ x ≠ "__name__"))
theorem pe_dglob {x : Str} {d : D} (hg : c.sc.names.lookup x = some .globalImplicit) (hx : GlobOk G x d) (hd : (x == ("__debug__" : Str)) = false) : PEd G k c (eC d) (.Name x pos) := fun X W ok => by
  obtain ⟨v, u, r, rp, m⟩ := hx.is
  have hG : L2.Gl X x := by
    show X.env.scope.names.lookup x = _
    rw [ok.sc]; exact hg
  rcases m with m | ⟨m, m2, m3⟩
  · exact PE.by (pe_glob hG (by rw [ok.mg]; exact m) r hd) fun _ _ _ q => tD_c rp q
  · exact PE.by (pe_bltn hG (by rw [ok.mg]; exact m) m2 r m3 hd) fun _ _ _ q => tD_c rp q

/-- an operation on values -/
def r2D (G : Gl) (op : D → D → DS → Option (D × DS)) : R2 := fun x y H Q => ∃ F mu s d e, SR G F mu s H ∧ Rep G F mu d x ∧ Rep G F mu e y ∧ Post G F mu H (fun _ _ _ => False) (R.ofO (op d e s)) Q
def eBin (op : D → D → DS → Option (D × DS)) (f g : EV D) : EV D := fun env s => (f env s).bind fun a s1 => (g env s1).bind fun b s2 => R.ofO (op a b s2)
theorem Post.ofO {α β : Type} [RepC G α β] {F : Hp} {mu : List Addr} {H : Hp} {E E' : XK} {o : Option (α × DS)} {Q : β → Hp → Prop} (h : Post G F mu H E (R.ofO o) Q) : Post G F mu H E' (R.ofO o) Q := by
  cases o with
  | none => exact h
  | some p => exact h
theorem tD_bin {op : D → D → DS → Option (D × DS)} {W : WX} {σ : L2.St} {H : Hp} {Q : VK} (q : tD G (eBin op f g) W σ H Q) : tOp (r2D G op) (tD G f W) (tD G g W) σ H Q := by
  obtain ⟨F, mu, env, s, hs, he, p⟩ := q
  refine ⟨F, mu, env, s, hs, he, Post.bind hs p fun F1 mu1 H1 d v s1 x1 hs1 r1 p1 => ?_⟩
  refine ⟨F1, mu1, env, s1, hs1, he.mono x1.le, Post.bind hs1 p1 fun F2 mu2 H2 d2 v2 s2 x2 hs2 r2 p2 => ?_⟩
  exact ⟨F2, mu2, s2, d, d2, hs2, Rep.mono x2.le r1, r2, Post.ofO p2⟩
/-- an operation is sound -/
def OpOk (G : Gl) (k : Nat) (F : Value → Value → Sem Value) (op : D → D → DS → Option (D × DS)) : Prop := ∀ c X W, XOk G k c X W → OpR X F (r2D G op)
theorem pe_dbin {o : Operator} {op : D → D → DS → Option (D × DS)} (ho : OpOk G k (binaryOp o) op) (ha : PEd G k c f a) (hb : PEd G k c g b) : PEd G k c (eBin op f g) (.BinOp a o b pos) := fun X W ok =>
  PE.by (pe_op (ho c X W ok) (ha X W ok) (hb X W ok)) fun _ _ _ q => tD_bin q
theorem pe_dcmp {o : CmpOp} {op : D → D → DS → Option (D × DS)} (ho : OpOk G k (compareOp o) op) (ha : PEd G k c f a) (hb : PEd G k c g b) (hm : behindInMarks o b = false) : PEd G k c (eBin op f g) (.Compare a [o] [b] pos) := fun X W ok =>
  PE.by (pe_cmpR (ho c X W ok) (ha X W ok) (hb X W ok) hm) fun _ _ _ q => tD_bin q
def r1D (G : Gl) (op : D → DS → Option (D × DS)) : V → Hp → VK → Prop := fun x H Q => ∃ F mu s d, SR G F mu s H ∧ Rep G F mu d x ∧ Post G F mu H (fun _ _ _ => False) (R.ofO (op d s)) Q
def eUn (op : D → DS → Option (D × DS)) (f : EV D) : EV D := fun env s => (f env s).bind fun a s1 => R.ofO (op a s1)
def UnOk (G : Gl) (k : Nat) (F : Value → Sem Value) (op : D → DS → Option (D × DS)) : Prop := ∀ c X W, XOk G k c X W → UnR X F (r1D G op)
theorem pe_dun {o : UnaryOp} {op : D → DS → Option (D × DS)} (ho : UnOk G k (unaryOp o) op) (ha : PEd G k c f a) : PEd G k c (eUn op f) (.UnaryOp o a pos) := fun X W ok =>
  PE.by (pe_un (ho c X W ok) (ha X W ok)) fun σ H Q q => by
    obtain ⟨F, mu, env, s, hs, he, p⟩ := q
    refine ⟨F, mu, env, s, hs, he, Post.bind hs p fun F1 mu1 H1 d v s1 x1 hs1 r1 p1 => ?_⟩
    exact ⟨F1, mu1, s1, d, hs1, r1, Post.ofO p1⟩

/-! ### tests -/
/-- a value's truth -/
def truD : D → DS → Option Bool
  | .non, _ => some false
  | .bl b, _ => some b
  | .int i, _ => some (i != 0)
  | .str y, _ => if y.length ≤ sizeLine then some ((y.length : Int) != 0) else none
  | .tup xs, _ => some (!xs.isEmpty)
  | .ktup xs, _ => some (!xs.isEmpty)
  | .lst xs, _ => some (!xs.isEmpty)
  | .scr ns, _ => some (!ns.isEmpty)
  | .ref n, s => match s[n]? with
    | some (.lst xs) => some (!xs.isEmpty)
    | _ => none
  | _, _ => none
theorem isEmpty_rep {F : Hp} {mu : List Addr} {xs : List D} {vs : List V} (r : RepL G F mu xs vs) : xs.isEmpty = vs.isEmpty := by cases r <;> rfl
theorem SR.sqT {F : Hp} {mu : List Addr} {s : DS} {H : Hp} (hs : SR G F mu s H) {K : PySem.W.Frag} {a : Addr} {vs : List V} (h : TupAt K F a vs) : SqT K H a vs := (h.mono hs.sub).sqT
theorem SR.sqL {F : Hp} {mu : List Addr} {s : DS} {H : Hp} (hs : SR G F mu s H) {K : PySem.W.Frag} {a : Addr} {vs : List V} (h : SqL K F a vs) : SqL K H a vs := Le.sqL hs.sub h
theorem truD_ok {F : Hp} {mu : List Addr} {s : DS} {H : Hp} {d : D} {v : V} {b : Bool} (hs : SR G F mu s H) (r : Rep G F mu d v) (h : truD d s = some b) : TruV G.K v H b := by
  cases r with
  | non => exact (Option.some.inj h).symm
  | bl => exact (Option.some.inj h).symm
  | int => exact (Option.some.inj h).symm
  | str x =>
    simp only [truD] at h
    split at h
    · rename_i z
      exact ⟨z, (Option.some.inj h).symm⟩
    · cases h
  | tup q r => exact .inr (.inl ⟨_, hs.sqT q, by rw [← Option.some.inj h, isEmpty_rep r]⟩)
  | ktup q r => exact .inr (.inl ⟨_, SqT.of (hs.sub _ _ q), by rw [← Option.some.inj h, isEmpty_rep r]⟩)
  | lst q r => exact .inl ⟨_, SqL.of (hs.sub _ _ q), by rw [← Option.some.inj h, isEmpty_rep r]⟩
  | scr q => exact .inl ⟨_, hs.sqL q, by rw [← Option.some.inj h]; cases (‹List Int› : List Int) <;> rfl⟩
  | ref e =>
    simp only [truD] at h
    split at h
    · rename_i xs en
      obtain ⟨_, ho, h1, h2⟩ := hs.live _ _ _ en (fun z => nomatch z) e
      cases h2 with
      | lst r => exact .inl ⟨_, SqL.of h1, by rw [← Option.some.inj h, isEmpty_rep r]⟩
    · cases h
  | _ => cases h
def tTru (f : EV D) : EV Bool := fun env s => (f env s).bind fun a s1 => match truD a s1 with
  | some b => .ok b s1
  | none => .bad
theorem pt_dtru (ha : PEd G k c f a) (ht : ∀ (env : Env) (whole : Sem Value), isTrue a env whole = (do let v ← whole; standAt a.pos; holding [v] (truthy v))) : PTd G k c (tTru f) a := fun X W ok =>
  PT.by (pt_truth (ha X W ok) (ht X.env)) fun σ H Q q => by
    obtain ⟨F, mu, env, s, hs, he, p⟩ := q
    refine ⟨F, mu, env, s, hs, he, Post.bind hs p fun F1 mu1 H1 d v s1 x1 hs1 r1 p1 => ?_⟩
    try dsimp only at p1
    split at p1
    · rename_i b eb
      exact ⟨b, by rw [ok.K]; exact truD_ok hs1 r1 eb, Post.here (G := G) hs1 rfl p1⟩
    · exact p1.elim
/-- a comparison as a test: its value is a bool -/
def tBl (f : EV D) : EV Bool := fun env s => (f env s).bind fun a s1 => match a with
  | .bl b => .ok b s1
  | _ => .bad
theorem tD_bl {W : WX} {σ : L2.St} {H : Hp} {Q : Bool → Hp → Prop} (q : tD G (tBl f) W σ H Q) : tTest (tD G f W) σ H Q := by
  obtain ⟨F, mu, env, s, hs, he, p⟩ := q
  refine ⟨F, mu, env, s, hs, he, Post.bind hs p fun F1 mu1 H1 d v s1 x1 hs1 r1 p1 => ?_⟩
  try dsimp only at p1
  split at p1
  · rename_i b
    cases r1
    exact ⟨b, rfl, Post.here (G := G) hs1 rfl p1⟩
  · exact p1.elim
theorem tTest_by {t t' : TE} (i : ∀ σ H Q, t' σ H Q → t σ H Q) {σ : L2.St} {H : Hp} {Q : Bool → Hp → Prop} (h : tTest t' σ H Q) : tTest t σ H Q := i _ _ _ h
theorem pt_dcmp {o : CmpOp} {op : D → D → DS → Option (D × DS)} (ho : OpOk G k (compareOp o) op) (ha : PEd G k c f a) (hb : PEd G k c g b) (hm : behindInMarks o b = false) : PTd G k c (tBl (eBin op f g)) (.Compare a [o] [b] pos) := fun X W ok =>
  PT.by (pt_cmpR (ho c X W ok) (ha X W ok) (hb X W ok) hm) fun _ _ _ q => tTest_by (fun _ _ _ => tD_bin) (tD_bl q)
/-- a op b op c -/
def eChain (op op' : D → D → DS → Option (D × DS)) (f g h : EV D) : EV D := fun env s => (f env s).bind fun a s1 => (g env s1).bind fun b s2 => (R.ofO (op a b s2)).bind fun z s3 => match z with
  | .bl true => (h env s3).bind fun d s4 => R.ofO (op' b d s4)
  | .bl false => .ok (.bl false) s3
  | _ => .bad
theorem tD_chain {op op' : D → D → DS → Option (D × DS)} {W : WX} {σ : L2.St} {H : Hp} {Q : VK} (q : tD G (eChain op op' f g h) W σ H Q) : tChain (r2D G op) (r2D G op') (tD G f W) (tD G g W) (tD G h W) σ H Q := by
  obtain ⟨F, mu, env, s, hs, he, p⟩ := q
  refine ⟨F, mu, env, s, hs, he, Post.bind hs p fun F1 mu1 H1 d v s1 x1 hs1 r1 p1 => ?_⟩
  refine ⟨F1, mu1, env, s1, hs1, he.mono x1.le, Post.bind hs1 p1 fun F2 mu2 H2 d2 v2 s2 x2 hs2 r2 p2 => ?_⟩
  refine ⟨F2, mu2, s2, d, d2, hs2, Rep.mono x2.le r1, r2, Post.ofO (E := WE' W σ) ?_⟩
  refine Post.bind hs2 p2 fun F3 mu3 H3 z vz s3 x3 hs3 r3 p3 => ?_
  try dsimp only at p3
  split at p3
  · cases r3
    refine ⟨true, rfl, ?_⟩
    refine ⟨F3, mu3, env, s3, hs3, ((he.mono x1.le).mono x2.le).mono x3.le, Post.bind hs3 p3 fun F4 mu4 H4 d4 v4 s4 x4 hs4 r4 p4 => ?_⟩
    exact ⟨F4, mu4, s4, d2, d4, hs4, Rep.mono x4.le (Rep.mono x3.le r2), r4, Post.ofO p4⟩
  · cases r3
    exact ⟨false, rfl, Post.here (G := G) hs3 (show Rep G _ _ _ _ from .bl false) p3⟩
  · exact p3.elim
theorem pe_dchain {o o' : CmpOp} {op op' : D → D → DS → Option (D × DS)} {cc : Expr} (ho : OpOk G k (compareOp o) op) (ho' : OpOk G k (compareOp o') op') (ha : PEd G k c f a) (hb : PEd G k c g b) (hc : PEd G k c h cc) (hm : lastMarks [o, o'] [b, cc] = false) : PEd G k c (eChain op op' f g h) (.Compare a [o, o'] [b, cc] pos) := fun X W ok =>
  PE.by (pe_chain (ho c X W ok) (ho' c X W ok) (ha X W ok) (hb X W ok) (hc X W ok) hm) fun _ _ _ q => tD_chain q
theorem pt_dchain {o o' : CmpOp} {op op' : D → D → DS → Option (D × DS)} {cc : Expr} (ho : OpOk G k (compareOp o) op) (ho' : OpOk G k (compareOp o') op') (ha : PEd G k c f a) (hb : PEd G k c g b) (hc : PEd G k c h cc) (hm : lastMarks [o, o'] [b, cc] = false) : PTd G k c (tBl (eChain op op' f g h)) (.Compare a [o, o'] [b, cc] pos) := fun X W ok =>
  PT.by (pt_chain (ho c X W ok) (ho' c X W ok) (ha X W ok) (hb X W ok) (hc X W ok) hm) fun _ _ _ q => tTest_by (fun _ _ _ => tD_chain) (tD_bl q)
/-- not, and, or as tests -/
def tNotD (f : EV Bool) : EV Bool := fun env s => (f env s).bind fun b s1 => .ok (!b) s1
def tAndD (f g : EV Bool) : EV Bool := fun env s => (f env s).bind fun b s1 => if b = true then g env s1 else .ok false s1
def tOrD (f g : EV Bool) : EV Bool := fun env s => (f env s).bind fun b s1 => if b = true then .ok true s1 else g env s1
theorem pt_dnot (ha : PTd G k c ft a) : PTd G k c (tNotD ft) (.UnaryOp .Not a pos) := fun X W ok =>
  PT.by (pt_not (ha X W ok)) fun σ H Q q => by
    obtain ⟨F, mu, env, s, hs, he, p⟩ := q
    refine ⟨F, mu, env, s, hs, he, Post.bind hs p fun F1 mu1 H1 d v s1 x1 hs1 r1 p1 => ?_⟩
    have r1' : v = d := r1
    subst r1'
    exact Post.here (G := G) hs1 rfl p1
/-- a list of tests: and, or -/
def PWd (G : Gl) (k : Nat) (c : Ct) (f : EV Bool) (e : Expr) : Prop := ∀ X W, XOk G k c X W → PW X e (tD G f W)
theorem PW.by {X : Cx} {e : Expr} {t t' : TT} (h : PW X e t) (i : ∀ σ H Q, t' σ H Q → t σ H Q) : PW X e t' := ⟨fun wh pins s σ H Q I q => h.run wh pins s σ H Q I (i σ H Q q)⟩
theorem pw_dand1 (ha : PTd G k c ft a) : PWd G k c ft (.BoolOp .And [a] pos) := fun X W ok => pw_and1 (ha X W ok)
theorem pw_dor1 (ha : PTd G k c ft a) : PWd G k c ft (.BoolOp .Or [a] pos) := fun X W ok => pw_or1 (ha X W ok)
theorem pw_dand {rest : List Expr} (ha : PTd G k c ft a) (hb : PWd G k c gt (.BoolOp .And (b :: rest) pos)) : PWd G k c (tAndD ft gt) (.BoolOp .And (a :: b :: rest) pos) := fun X W ok =>
  PW.by (pw_and (ha X W ok) (hb X W ok)) fun σ H Q q => by
    obtain ⟨F, mu, env, s, hs, he, p⟩ := q
    refine ⟨F, mu, env, s, hs, he, Post.bind hs p fun F1 mu1 H1 d v s1 x1 hs1 r1 p1 => ?_⟩
    have r1' : v = d := r1
    subst r1'
    try dsimp only at p1 ⊢
    split
    · rename_i z
      rw [if_pos z] at p1
      exact ⟨F1, mu1, env, s1, hs1, he.mono x1.le, p1⟩
    · rename_i z
      rw [if_neg z] at p1
      exact Post.here (G := G) hs1 rfl p1
theorem pw_dor {rest : List Expr} (ha : PTd G k c ft a) (hb : PWd G k c gt (.BoolOp .Or (b :: rest) pos)) : PWd G k c (tOrD ft gt) (.BoolOp .Or (a :: b :: rest) pos) := fun X W ok =>
  PW.by (pw_or (ha X W ok) (hb X W ok)) fun σ H Q q => by
    obtain ⟨F, mu, env, s, hs, he, p⟩ := q
    refine ⟨F, mu, env, s, hs, he, Post.bind hs p fun F1 mu1 H1 d v s1 x1 hs1 r1 p1 => ?_⟩
    have r1' : v = d := r1
    subst r1'
    try dsimp only at p1 ⊢
    split
    · rename_i z
      rw [if_pos z] at p1
      exact Post.here (G := G) hs1 rfl p1
    · rename_i z
      rw [if_neg z] at p1
      exact ⟨F1, mu1, env, s1, hs1, he.mono x1.le, p1⟩
/-- a if t else b; and, or, not as values of bools -/
def eIf (t : EV Bool) (f g : EV D) : EV D := fun env s => (t env s).bind fun b s1 => if b = true then f env s1 else g env s1
theorem pe_dif {t : Expr} (ht : PTd G k c ft t) (ha : PEd G k c f a) (hb : PEd G k c g b) : PEd G k c (eIf ft f g) (.IfExp t a b pos) := fun X W ok =>
  PE.by (pe_ifExp (ht X W ok) (ha X W ok) (hb X W ok)) fun σ H Q q => by
    obtain ⟨F, mu, env, s, hs, he, p⟩ := q
    refine ⟨F, mu, env, s, hs, he, Post.bind hs p fun F1 mu1 H1 d v s1 x1 hs1 r1 p1 => ?_⟩
    have r1' : v = d := r1
    subst r1'
    try dsimp only at p1 ⊢
    split
    · rename_i z
      rw [if_pos z] at p1
      exact ⟨F1, mu1, env, s1, hs1, he.mono x1.le, p1⟩
    · rename_i z
      rw [if_neg z] at p1
      exact ⟨F1, mu1, env, s1, hs1, he.mono x1.le, p1⟩
def eAnd (f g : EV D) : EV D := fun env s => (f env s).bind fun a s1 => match a with
  | .bl true => g env s1
  | .bl false => .ok (.bl false) s1
  | _ => .bad
def eOr (f g : EV D) : EV D := fun env s => (f env s).bind fun a s1 => match a with
  | .bl true => .ok (.bl true) s1
  | .bl false => g env s1
  | _ => .bad
def eNot (f : EV D) : EV D := fun env s => (f env s).bind fun a s1 => match a with
  | .bl b => .ok (.bl (!b)) s1
  | _ => .bad
theorem pe_done {op} (ha : PEd G k c f a) : PEd G k c f (.BoolOp op [a] pos) := fun X W ok => pe_one (ha X W ok)
theorem pe_dand {rest : List Expr} (ha : PEd G k c f a) (hb : PEd G k c g (.BoolOp .And (b :: rest) pos)) : PEd G k c (eAnd f g) (.BoolOp .And (a :: b :: rest) pos) := fun X W ok =>
  PE.by (pe_and (ha X W ok) (hb X W ok)) fun σ H Q q => by
    obtain ⟨F, mu, env, s, hs, he, p⟩ := q
    refine ⟨F, mu, env, s, hs, he, Post.bind hs p fun F1 mu1 H1 d v s1 x1 hs1 r1 p1 => ?_⟩
    try dsimp only at p1
    split at p1
    · cases r1
      exact ⟨true, rfl, F1, mu1, env, s1, hs1, he.mono x1.le, p1⟩
    · cases r1
      exact ⟨false, rfl, Post.here (G := G) hs1 (show Rep G _ _ _ _ from .bl false) p1⟩
    · exact p1.elim
theorem pe_dor {rest : List Expr} (ha : PEd G k c f a) (hb : PEd G k c g (.BoolOp .Or (b :: rest) pos)) : PEd G k c (eOr f g) (.BoolOp .Or (a :: b :: rest) pos) := fun X W ok =>
  PE.by (pe_or (ha X W ok) (hb X W ok)) fun σ H Q q => by
    obtain ⟨F, mu, env, s, hs, he, p⟩ := q
    refine ⟨F, mu, env, s, hs, he, Post.bind hs p fun F1 mu1 H1 d v s1 x1 hs1 r1 p1 => ?_⟩
    try dsimp only at p1
    split at p1
    · cases r1
      exact ⟨true, rfl, Post.here (G := G) hs1 (show Rep G _ _ _ _ from .bl true) p1⟩
    · cases r1
      exact ⟨false, rfl, F1, mu1, env, s1, hs1, he.mono x1.le, p1⟩
    · exact p1.elim
theorem pe_dnot (ha : PEd G k c f a) : PEd G k c (eNot f) (.UnaryOp .Not a pos) := fun X W ok =>
  PE.by (pe_not (ha X W ok)) fun σ H Q q => by
    obtain ⟨F, mu, env, s, hs, he, p⟩ := q
    refine ⟨F, mu, env, s, hs, he, Post.bind hs p fun F1 mu1 H1 d v s1 x1 hs1 r1 p1 => ?_⟩
    try dsimp only at p1
    split at p1
    · cases r1
      exact ⟨_, rfl, Post.here (G := G) hs1 (show Rep G _ _ _ _ from .bl _) p1⟩
    · exact p1.elim

/-! ### arguments, displays -/
def aNil : EV (List D) := fun _ s => .ok [] s
def aCons (f : EV D) (g : EV (List D)) : EV (List D) := fun env s => (f env s).bind fun a s1 => (g env s1).bind fun b s2 => .ok (a :: b) s2
def notStar : Expr → Bool
  | .Starred .. => false
  | _ => true
theorem starEach_cons {e : Expr} {es : List Expr} {env : Env} (h : notStar e = true) : starEach (e :: es) env = (false, eval e env) :: starEach es env := by
  cases e <;> first | rfl | cases h
theorem pa_dnil : PAd G k c aNil [] := fun X W ok => PA.by pa_nil fun σ H Q q => by
  obtain ⟨F, mu, env, s, hs, he, p⟩ := q
  exact Post.here (G := G) hs (show RepL G _ _ _ _ from .nil) p
theorem tD_cons {fs : EV (List D)} {W : WX} {σ : L2.St} {H : Hp} {Q : List V → Hp → Prop} (q : tD G (aCons f fs) W σ H Q) : tCons (tD G f W) (tD G fs W) σ H Q := by
  obtain ⟨F, mu, env, s, hs, he, p⟩ := q
  refine ⟨F, mu, env, s, hs, he, Post.bind hs p fun F1 mu1 H1 d v s1 x1 hs1 r1 p1 => ?_⟩
  refine ⟨F1, mu1, env, s1, hs1, he.mono x1.le, Post.bind hs1 p1 fun F2 mu2 H2 d2 v2 s2 x2 hs2 r2 p2 => ?_⟩
  exact Post.here (G := G) hs2 (show RepL G _ _ _ _ from .cons (Rep.mono x2.le r1) r2) p2
theorem pa_dcons {fs : EV (List D)} {es : List Expr} (ha : PEd G k c f a) (hr : PAd G k c fs es) (hn : notStar a = true) : PAd G k c (aCons f fs) (a :: es) := fun X W ok =>
  PA.by (pa_cons (ha X W ok) (hr X W ok) (starEach_cons hn)) fun σ H Q q => tD_cons q
def eTup (f : EV (List D)) : EV D := fun env s => (f env s).bind fun xs s1 => if xs.length ≤ sizeLine then .ok (.tup xs) s1 else .bad
def eLst (f : EV (List D)) : EV D := fun env s => (f env s).bind fun xs s1 => if xs.length ≤ sizeLine then .ok (.lst xs) s1 else .bad
/-- a list that may change -/
def eLstM (f : EV (List D)) : EV D := fun env s => (f env s).bind fun xs s1 => if xs.length ≤ sizeLine then .ok (.ref s1.length) (s1 ++ [.lst xs]) else .bad
theorem pe_dtup {fs : EV (List D)} {es : List Expr} {x1 : Nat} (ha : PAd G k c fs es) : PEd G k c (eTup fs) (.Tuple es x1 pos) := fun X W ok =>
  PE.by (pe_tupF (ha X W ok)) fun σ H Q q => by
    obtain ⟨F, mu, env, s, hs, he, p⟩ := q
    refine ⟨F, mu, env, s, hs, he, Post.bind hs p fun F1 mu1 H1 d v s1 x1 hs1 r1 p1 => ?_⟩
    try dsimp only at p1
    have r1' : RepL G F1 mu1 d v := r1
    split at p1
    · rename_i z
      refine ⟨by rw [← r1'.length]; exact z, fun pa ob hp hd => ?_⟩
      have x := Ex.frozen (o := .frz ob (.tup v)) hs1 hp
      exact p1 _ _ _ _ x (hs1.frozen hp) (show Rep G _ _ _ _ from .tup (.inl ⟨ob, upd_same, hd⟩) (r1'.mono x.le))
    · exact p1.elim
theorem pe_dlst {fs : EV (List D)} {es : List Expr} (ha : PAd G k c fs es) : PEd G k c (eLst fs) (.List es pos) := fun X W ok =>
  PE.by (pe_lst (ha X W ok)) fun σ H Q q => by
    obtain ⟨F, mu, env, s, hs, he, p⟩ := q
    refine ⟨F, mu, env, s, hs, he, Post.bind hs p fun F1 mu1 H1 d v s1 x1 hs1 r1 p1 => ?_⟩
    try dsimp only at p1
    have r1' : RepL G F1 mu1 d v := r1
    split at p1
    · rename_i z
      refine ⟨by rw [← r1'.length]; exact z, fun pa hp => ?_⟩
      have x := Ex.frozen (o := .lst v) hs1 hp
      exact p1 _ _ _ _ x (hs1.frozen hp) (show Rep G _ _ _ _ from .lst upd_same (r1'.mono x.le))
    · exact p1.elim
theorem alloc_ref {F : Hp} {mu : List Addr} {s : DS} {H : Hp} (hs : SR G F mu s H) {p : Addr} : Rep G F (mu ++ [p]) (.ref s.length) (.ref p) := .ref (by rw [List.getElem?_append_right (by rw [hs.len]; exact Nat.le_refl _), hs.len, Nat.sub_self]; rfl)
theorem pe_dlstM {fs : EV (List D)} {es : List Expr} (ha : PAd G k c fs es) : PEd G k c (eLstM fs) (.List es pos) := fun X W ok =>
  PE.by (pe_lst (ha X W ok)) fun σ H Q q => by
    obtain ⟨F, mu, env, s, hs, he, p⟩ := q
    refine ⟨F, mu, env, s, hs, he, Post.bind hs p fun F1 mu1 H1 d v s1 x1 hs1 r1 p1 => ?_⟩
    try dsimp only at p1
    have r1' : RepL G F1 mu1 d v := r1
    split at p1
    · rename_i z
      refine ⟨by rw [← r1'.length]; exact z, fun pa hp => ?_⟩
      have x : Ex F1 mu1 H1 F1 (mu1 ++ [pa]) (upd H1 pa (.lst v)) := Ex.alloc hs1 hp
      exact p1 _ _ _ _ x (hs1.alloc hp (.lst (r1'.mono x.le))) (alloc_ref hs1)
    · exact p1.elim

/-! ### statements -/
def sSeq (f g : SV) : SV := fun env s => match f env s with
  | .nx env' s' => g env' s'
  | r => r
def sNext : SV := fun env s => .nx env s
theorem pb_dnil : PBd G k c sNext [] := fun X W ok => PSs.by pss_nil fun D σ H q => by
  obtain ⟨F, mu, env, s, hs, he, p⟩ := q
  exact p F mu H σ Ex.refl hs he
theorem PostS.seq {F : Hp} {mu : List Addr} {s : DS} {H : Hp} {W : WX} {Dn : Ends} {f g : SV} {env : Env'} {nx' : L2.St → Hp → Prop} (hs : SR G F mu s H) (p : PostS G F mu H W (sSeq f g env s) Dn)
    (hk : ∀ F1 mu1 H1 env1 σ1 s1, Ex F mu H F1 mu1 H1 → SR G F1 mu1 s1 H1 → ER G F1 mu1 env1 σ1 → PostS G F1 mu1 H1 W (g env1 s1) Dn → nx' σ1 H1) : PostS G F mu H W (f env s) { Dn with nx := nx' } := by
  unfold sSeq at p
  cases e : f env s with
  | nx env' s' =>
    rw [e] at p
    exact fun F' mu' H' σ' x q r => hk F' mu' H' env' σ' s' x q r (PostS.mono hs q x p)
  | rt d s' => rw [e] at p; exact p
  | bk env' s' => rw [e] at p; exact p
  | ct env' s' => rw [e] at p; exact p
  | exc x env' s' => rw [e] at p; exact p
  | bad => rw [e] at p; exact p
theorem pb_dcons {st : Stmt} {rest : List Stmt} {f g : SV} (h1 : PSd G k c f st) (h2 : PBd G k c g rest) : PBd G k c (sSeq f g) (st :: rest) := fun X W ok =>
  PSs.by (pss_cons (h1 X W ok) (h2 X W ok)) fun Dn σ H q => by
    obtain ⟨F, mu, env, s, hs, he, p⟩ := q
    exact ⟨F, mu, env, s, hs, he, PostS.seq hs p fun F1 mu1 H1 env1 σ1 s1 x hs1 he1 p1 => ⟨F1, mu1, env1, s1, hs1, he1, p1⟩⟩
theorem ps_dpass : PSd G k c sNext (.Pass pos) := fun X W ok => PS.by ps_pass fun D σ H q => by
  obtain ⟨F, mu, env, s, hs, he, p⟩ := q
  exact p F mu H σ Ex.refl hs he
def sBrk : SV := fun env s => .bk env s
def sCnt : SV := fun env s => .ct env s
theorem ps_dbrk : PSd G k c sBrk (.Break pos) := fun X W ok => PS.by ps_break fun D σ H q => by
  obtain ⟨F, mu, env, s, hs, he, p⟩ := q
  exact p F mu H σ Ex.refl hs he
theorem ps_dcnt : PSd G k c sCnt (.Continue pos) := fun X W ok => PS.by ps_continue fun D σ H q => by
  obtain ⟨F, mu, env, s, hs, he, p⟩ := q
  exact p F mu H σ Ex.refl hs he
def sRet (f : EV D) : SV := fun env s => (f env s).toS env fun d s1 => .rt d s1
theorem ps_dret (ha : PEd G k c f a) : PSd G k c (sRet f) (.Return (some a) pos) := fun X W ok => PS.by (ps_ret (ha X W ok)) fun Dn σ H q => by
  obtain ⟨F, mu, env, s, hs, he, p⟩ := q
  exact ⟨F, mu, env, s, hs, he, Post.toS hs he p fun F1 mu1 H1 d v s1 x1 hs1 r1 he1 p1 => p1 F1 mu1 H1 v Ex.refl hs1 r1⟩
def sRetN : SV := fun _ s => .rt .non s
theorem ps_dretN : PSd G k c sRetN (.Return none pos) := fun X W ok => PS.by ps_retN fun Dn σ H q => by
  obtain ⟨F, mu, env, s, hs, he, p⟩ := q
  exact p F mu H .non Ex.refl hs .non
def isComp : Expr → Bool
  | .ListComp .. => true
  | .SetComp .. => true
  | .DictComp .. => true
  | _ => false
theorem swaps_no {e : Expr} {t : Option Expr} {l : Nat} {env : Env} (h : isComp e = false) : swapsWith e t l env = pure false := by
  cases e <;> first | rfl | cases h
def sDrop (f : EV D) : SV := fun env s => (f env s).toS env fun _ s1 => .nx env s1
theorem ps_ddrop (ha : PEd G k c f a) (hc : isComp a = false) : PSd G k c (sDrop f) (.Expr a pos) := fun X W ok => PS.by (ps_expr (ha X W ok) (swaps_no hc)) fun Dn σ H q => by
  obtain ⟨F, mu, env, s, hs, he, p⟩ := q
  exact ⟨F, mu, env, s, hs, he, Post.toS hs he p fun F1 mu1 H1 d v s1 x1 hs1 r1 he1 p1 => p1 F1 mu1 H1 σ Ex.refl hs1 he1⟩
def sIf (t : EV Bool) (f g : SV) : SV := fun env s => (t env s).toS env fun b s1 => if b = true then f env s1 else g env s1
theorem ps_dif {t : Expr} {as bs : List Stmt} {fa fb : SV} (ht : PTd G k c ft t) (ha : PBd G k c fa as) (hb : PBd G k c fb bs) : PSd G k c (sIf ft fa fb) (.If t as bs pos) := fun X W ok => PS.by (ps_if (ht X W ok) (ha X W ok) (hb X W ok)) fun Dn σ H q => by
  obtain ⟨F, mu, env, s, hs, he, p⟩ := q
  refine ⟨F, mu, env, s, hs, he, Post.toS hs he p fun F1 mu1 H1 d v s1 x1 hs1 r1 he1 p1 => ?_⟩
  have r1' : v = d := r1
  subst r1'
  try dsimp only at p1 ⊢
  split
  · rename_i z
    rw [if_pos z] at p1
    exact ⟨F1, mu1, env, s1, hs1, he1, p1⟩
  · rename_i z
    rw [if_neg z] at p1
    exact ⟨F1, mu1, env, s1, hs1, he1, p1⟩
/-- x = e -/
def sSet (i : Nat) (f : EV D) : SV := fun env s => (f env s).toS env fun d s1 => .nx (env.set i (some d)) s1
theorem ps_dset {x : Str} {i : Nat} {pos' : Pos} (hxi : c.xi ≠ some i) (hi : slotOf c.N x = some i) (hx : locB c.wr x = true) (ha : PEd G k c f a) (hc : isComp a = false) : PSd G k c (sSet i f) (.Assign [.Name x pos'] a pos) := fun X W ok => by
  have st := ok.st x hx
  refine PS.by (ps_set (i := i) (by rw [ok.N]; exact ok.nd) (by rw [ok.N]; exact slotOf_ok hi) st.1 (ha X W ok) (swaps_no hc) st.2) fun Dn σ H q => ?_
  obtain ⟨F, mu, env, s, hs, he, p⟩ := q
  exact ⟨F, mu, env, s, hs, he, Post.toS hs he p fun F1 mu1 H1 d v s1 x1 hs1 r1 he1 p1 => p1 F1 mu1 H1 _ Ex.refl hs1 (he1.set i r1 (ok.at_ hxi))⟩
end
end Pv

set_option Elab.async false
set_option linter.all false
set_option maxRecDepth 100000
/-! Ev3: targets, loops. -/
namespace Pv
open PySem PySem.Spec PyProof.Rows L2
section
variable {G : Gl} {k : Nat} {c : Ct} {f g h : EV D} {ft gt : EV Bool} {e a b : Expr} {pos : Pos}

/-! ### targets -/
abbrev TV := D → Env' → DS → Option (Env' × DS)
def tG (G : Gl) (g : TV) : TG := fun v σ H Q => ∃ F mu env s d, SR G F mu s H ∧ ER G F mu env σ ∧ Rep G F mu d v ∧ match g d env s with
  | some (env', s') => ∀ F' mu' H' σ', Ex F mu H F' mu' H' → SR G F' mu' s' H' → ER G F' mu' env' σ' → Q σ' H'
  | none => False
def PGd (G : Gl) (k : Nat) (c : Ct) (g : TV) (t : Expr) : Prop := ∀ X W, XOk G k c X W → PG X t (tG G g)
theorem PG.by {X : Cx} {e : Expr} {t t' : TG} (h : PG X e t) (i : ∀ v σ H Q, t' v σ H Q → t v σ H Q) : PG X e t' := ⟨fun pins s σ H v u Q I r q => h.run pins s σ H v u Q I r (i v σ H Q q)⟩
def gNm (i : Nat) : TV := fun d env s => some (env.set i (some d), s)
theorem pg_dname {x : Str} {i : Nat} (hxi : c.xi ≠ some i) (hi : slotOf c.N x = some i) (hx : locB c.wr x = true) : PGd G k c (gNm i) (.Name x pos) := fun X W ok => by
  have st := ok.st x hx
  refine PG.by (pg_name (i := i) (by rw [ok.N]; exact ok.nd) (by rw [ok.N]; exact slotOf_ok hi) st.1 st.2) fun v σ H Q q => ?_
  obtain ⟨F, mu, env, s, d, hs, he, r, p⟩ := q
  exact p F mu H _ Ex.refl hs (he.set i r (ok.at_ hxi))
/-- a tuple of targets -/
def gsNil : List D → Env' → DS → Option (Env' × DS) := fun ds env s => match ds with
  | [] => some (env, s)
  | _ => none
def gsCons (g : TV) (gs : List D → Env' → DS → Option (Env' × DS)) : List D → Env' → DS → Option (Env' × DS) := fun ds env s => match ds with
  | d :: r => (g d env s).bind fun p => gs r p.1 p.2
  | [] => none
def tGs (G : Gl) (g : List D → Env' → DS → Option (Env' × DS)) : TGs := fun vs σ H Q => ∃ F mu env s ds, SR G F mu s H ∧ ER G F mu env σ ∧ RepL G F mu ds vs ∧ match g ds env s with
  | some (env', s') => ∀ F' mu' H' σ', Ex F mu H F' mu' H' → SR G F' mu' s' H' → ER G F' mu' env' σ' → Q σ' H'
  | none => False
def PGsd (G : Gl) (k : Nat) (c : Ct) (g : List D → Env' → DS → Option (Env' × DS)) (t : List Expr) : Prop := ∀ X W, XOk G k c X W → PGs X t (tGs G g)
theorem PGs.by {X : Cx} {e : List Expr} {t t' : TGs} (h : PGs X e t) (i : ∀ v σ H Q, t' v σ H Q → t v σ H Q) : PGs X e t' := ⟨fun pins s σ H v u Q I r q => h.run pins s σ H v u Q I r (i v σ H Q q)⟩
theorem pgs_dnil : PGsd G k c gsNil [] := fun X W ok => PGs.by pgs_nil fun v σ H Q q => by
  obtain ⟨F, mu, env, s, ds, hs, he, r, p⟩ := q
  unfold gsNil at p
  cases r with
  | nil => exact ⟨rfl, p F mu H σ Ex.refl hs he⟩
  | cons _ _ => exact p.elim
theorem assignEach_cons {e : Expr} {es : List Expr} {env : Env} (h : notStar e = true) : assignEach (e :: es) env = (false, assign e env) :: assignEach es env := by
  cases e <;> first | rfl | cases h
theorem pgs_dcons {g : TV} {gs : List D → Env' → DS → Option (Env' × DS)} {es : List Expr} (h1 : PGd G k c g e) (h2 : PGsd G k c gs es) (hn : notStar e = true) : PGsd G k c (gsCons g gs) (e :: es) := fun X W ok =>
  PGs.by (pgs_cons (h1 X W ok) (h2 X W ok) (by rw [assignEach_cons hn]; rfl)) fun v σ H Q q => by
    obtain ⟨F, mu, env, s, ds, hs, he, r, p⟩ := q
    unfold gsCons at p
    cases r with
    | nil => exact p.elim
    | cons r0 rs =>
      rename_i d v0 ds vs
      refine ⟨v0, vs, rfl, F, mu, env, s, d, hs, he, r0, ?_⟩
      dsimp only at p
      cases e1 : g d env s with
      | none => rw [e1] at p; exact p.elim
      | some q =>
        rw [e1] at p
        obtain ⟨env1, s1⟩ := q
        intro F1 mu1 H1 σ1 x1 hs1 he1
        refine ⟨F1, mu1, env1, s1, ds, hs1, he1, rs.mono x1.le, ?_⟩
        have p' : match gs ds env1 s1 with
          | some (env', s') => ∀ F' mu' H' σ', Ex F mu H F' mu' H' → SR G F' mu' s' H' → ER G F' mu' env' σ' → Q σ' H'
          | none => False := p
        cases e2 : gs ds env1 s1 with
        | none => rw [e2] at p'; exact p'.elim
        | some q2 =>
          rw [e2] at p'
          exact fun F' mu' H' σ' x => p' F' mu' H' σ' (hs.trans x1 hs1 x)
def noStars (es : List Expr) : Bool := es.all notStar
theorem assignEach_len {env : Env} : ∀ {es : List Expr}, (assignEach es env).length = es.length
  | [] => rfl
  | e :: es => by
    cases e <;> (show (assignEach es env).length + 1 = es.length + 1; rw [assignEach_len])
theorem assignEach_nostar {env : Env} : ∀ {es : List Expr}, noStars es = true → (assignEach es env).findIdx? (·.1) = none
  | [], _ => rfl
  | e :: es, h => by
    have h2 : notStar e = true ∧ noStars es = true := by simpa [noStars] using h
    rw [assignEach_cons h2.1, List.findIdx?_cons]
    show (if (false = true) then _ else _) = none
    rw [if_neg (by decide), assignEach_nostar h2.2] <;> rfl
/-- unpack: a tuple of just so many -/
def gTp (n : Nat) (gs : List D → Env' → DS → Option (Env' × DS)) : TV := fun d env s => match d with
  | .tup xs => if xs.length = n then gs xs env s else none
  | .ktup xs => if xs.length = n then gs xs env s else none
  | _ => none
theorem pg_dtup (hcm : c.calm = true) {gs : List D → Env' → DS → Option (Env' × DS)} {es : List Expr} {j : Nat} (h1 : PGsd G k c gs es) (hn : noStars es = true) : PGd G k c (gTp es.length gs) (.Tuple es j pos) := fun X W ok =>
  PG.by (pg_tup (n := es.length) (ok.calm hcm).1 (h1 X W ok) assignEach_len (assignEach_nostar hn)) fun v σ H Q q => by
    obtain ⟨F, mu, env, s, d, hs, he, r, p⟩ := q
    cases r with
    | tup h1 h2 =>
      rename_i a xs vs
      dsimp only [gTp] at p
      by_cases z : xs.length = es.length
      · rw [if_pos z] at p
        exact ⟨a, vs, rfl, by rw [ok.K]; exact hs.sqT h1, by rw [← h2.length]; exact z, F, mu, env, s, xs, hs, he, h2, p⟩
      · rw [if_neg z] at p; exact p.elim
    | ktup h1 h2 =>
      rename_i a xs vs
      dsimp only [gTp] at p
      by_cases z : xs.length = es.length
      · rw [if_pos z] at p
        exact ⟨a, vs, rfl, by rw [ok.K]; exact SqT.of (hs.sub _ _ h1), by rw [← h2.length]; exact z, F, mu, env, s, xs, hs, he, h2, p⟩
      · rw [if_neg z] at p; exact p.elim
    | _ => exact p.elim
/-- target = e, where nothing is swapped -/
def sAsg (g : TV) (f : EV D) : SV := fun env s => (f env s).toS env fun d s1 => match g d env s1 with
  | some (env', s') => .nx env' s'
  | none => .bad
theorem ps_dasg {g : TV} {t : Expr} (ha : PEd G k c f a) (hg : PGd G k c g t) (hc : isComp a = false) (hw : ∀ env : Env, env.scope = c.sc → swappedStores [t] a env = pure none) (hn : notStar t = true) : PSd G k c (sAsg g f) (.Assign [t] a pos) := fun X W ok => by
  refine PS.by (ps_asg (ha X W ok) (hg X W ok) (swaps_no hc) (hw X.env ok.sc) (by rw [assignEach_cons hn]; rfl)) fun Dn σ H q => ?_
  obtain ⟨F, mu, env, s, hs, he, p⟩ := q
  refine ⟨F, mu, env, s, hs, he, Post.toS hs he p fun F1 mu1 H1 d v s1 x1 hs1 r1 he1 p1 => ?_⟩
  refine ⟨F1, mu1, env, s1, d, hs1, he1, r1, ?_⟩
  cases e1 : g d env s1 with
  | none => rw [e1] at p1; exact p1.elim
  | some q =>
    rw [e1] at p1
    exact fun F' mu' H' σ' x hs' he' => p1 F' mu' H' σ' x hs' he'

/-! ### targets of plain names: what else stands stays -/
def tGV (G : Gl) (vs : List Nat) (g : TV) : TG := fun v σ H Q => ∃ F mu env s d, SR G F mu s H ∧ ER G F mu env σ ∧ Rep G F mu d v ∧ match g d env s with
  | some (env', s') => s' = s ∧ ∀ σ', ER G F mu env' σ' → wipe σ' vs = wipe σ vs → Q σ' H
  | none => False
def PGv (G : Gl) (k : Nat) (c : Ct) (vs : List Nat) (g : TV) (t : Expr) : Prop := ∀ X W, XOk G k c X W → PG X t (tGV G vs g)
theorem wipe_in {m : Nat} : ∀ {ws : List Nat} {τ : L2.St}, m ∈ ws → (wipe τ ws)[m]? = if m < τ.length then some none else none
  | a :: r, τ, h => by
    show ((wipe τ r).set a none)[m]? = _
    by_cases z : m = a
    · subst z
      by_cases l : m < τ.length
      · rw [List.getElem?_set_self (by rw [wipe_length]; exact l), if_pos l]
      · rw [List.getElem?_eq_none (by rw [List.length_set, wipe_length]; omega), if_neg l]
    · rw [List.getElem?_set_ne (Ne.symm z)]
      rcases List.mem_cons.mp h with y | y
      · exact absurd y z
      · exact wipe_in y
theorem wipe_idem {vs : List Nat} {σ : L2.St} : wipe (wipe σ vs) vs = wipe σ vs := by
  refine List.ext_getElem? fun m => ?_
  by_cases hm : m ∈ vs
  · rw [wipe_in hm, wipe_in hm, wipe_length]
  · rw [wipe_out hm]
theorem wipe_set {v : Option V} {i : Nat} {vs : List Nat} {σ : L2.St} (h : i ∈ vs) : wipe (σ.set i v) vs = wipe σ vs := by
  refine List.ext_getElem? fun m => ?_
  by_cases hm : m ∈ vs
  · rw [wipe_in hm, wipe_in hm, List.length_set]
  · rw [wipe_out hm, wipe_out hm, List.getElem?_set_ne (fun z : i = m => hm (by rw [← z]; exact h))]
theorem pv_dname {x : Str} {i : Nat} {vs : List Nat} (hxi : c.xi ≠ some i) (hi : slotOf c.N x = some i) (hx : locB c.wr x = true) (hv : i ∈ vs) : PGv G k c vs (gNm i) (.Name x pos) := fun X W ok => by
  have st := ok.st x hx
  refine PG.by (pg_name (i := i) (by rw [ok.N]; exact ok.nd) (by rw [ok.N]; exact slotOf_ok hi) st.1 st.2) fun v σ H Q q => ?_
  obtain ⟨F, mu, env, s, d, hs, he, r, p⟩ := q
  exact p.2 _ (he.set i r (ok.at_ hxi)) (wipe_set hv)
def tGVs (G : Gl) (ws : List Nat) (g : List D → Env' → DS → Option (Env' × DS)) : TGs := fun vs σ H Q => ∃ F mu env s ds, SR G F mu s H ∧ ER G F mu env σ ∧ RepL G F mu ds vs ∧ match g ds env s with
  | some (env', s') => s' = s ∧ ∀ σ', ER G F mu env' σ' → wipe σ' ws = wipe σ ws → Q σ' H
  | none => False
def PGvs (G : Gl) (k : Nat) (c : Ct) (ws : List Nat) (g : List D → Env' → DS → Option (Env' × DS)) (t : List Expr) : Prop := ∀ X W, XOk G k c X W → PGs X t (tGVs G ws g)
theorem pvs_dnil {ws : List Nat} : PGvs G k c ws gsNil [] := fun X W ok => PGs.by pgs_nil fun v σ H Q q => by
  obtain ⟨F, mu, env, s, ds, hs, he, r, p⟩ := q
  unfold gsNil at p
  cases r with
  | nil => exact ⟨rfl, p.2 σ he rfl⟩
  | cons _ _ => exact p.elim
/-- a target that leaves the heap -/
def gPure (g : TV) : Prop := ∀ d env s env' s', g d env s = some (env', s') → s' = s
theorem pvs_dcons {ws : List Nat} {g : TV} {gs : List D → Env' → DS → Option (Env' × DS)} {es : List Expr} (hp : gPure g) (h1 : PGv G k c ws g e) (h2 : PGvs G k c ws gs es) (hn : notStar e = true) : PGvs G k c ws (gsCons g gs) (e :: es) := fun X W ok =>
  PGs.by (pgs_cons (h1 X W ok) (h2 X W ok) (by rw [assignEach_cons hn]; rfl)) fun v σ H Q q => by
    obtain ⟨F, mu, env, s, ds, hs, he, r, p⟩ := q
    unfold gsCons at p
    cases r with
    | nil => exact p.elim
    | cons r0 rs =>
      rename_i d v0 ds vs
      refine ⟨v0, vs, rfl, F, mu, env, s, d, hs, he, r0, ?_⟩
      dsimp only at p
      cases e1 : g d env s with
      | none => rw [e1] at p; exact p.elim
      | some q =>
        rw [e1] at p
        obtain ⟨env1, s1⟩ := q
        have es := hp _ _ _ _ _ e1
        subst es
        refine ⟨rfl, fun σ1 he1 hw1 => ?_⟩
        refine ⟨F, mu, env1, s1, ds, hs, he1, rs, ?_⟩
        have p' : match gs ds env1 s1 with
          | some (env', s') => s' = s1 ∧ ∀ σ', ER G F mu env' σ' → wipe σ' ws = wipe σ ws → Q σ' H
          | none => False := p
        cases e2 : gs ds env1 s1 with
        | none => rw [e2] at p'; exact p'.elim
        | some q2 =>
          rw [e2] at p'
          exact ⟨p'.1, fun σ' he' hw' => p'.2 σ' he' (hw'.trans hw1)⟩
theorem pv_dtup (hcm : c.calm = true) {ws : List Nat} {gs : List D → Env' → DS → Option (Env' × DS)} {es : List Expr} {j : Nat} (h1 : PGvs G k c ws gs es) (hn : noStars es = true) : PGv G k c ws (gTp es.length gs) (.Tuple es j pos) := fun X W ok =>
  PG.by (pg_tup (n := es.length) (ok.calm hcm).1 (h1 X W ok) assignEach_len (assignEach_nostar hn)) fun v σ H Q q => by
    obtain ⟨F, mu, env, s, d, hs, he, r, p⟩ := q
    cases r with
    | tup h1 h2 =>
      rename_i a xs vs
      dsimp only [gTp] at p
      by_cases z : xs.length = es.length
      · rw [if_pos z] at p
        exact ⟨a, vs, rfl, by rw [ok.K]; exact hs.sqT h1, by rw [← h2.length]; exact z, F, mu, env, s, xs, hs, he, h2, p⟩
      · rw [if_neg z] at p; exact p.elim
    | ktup h1 h2 =>
      rename_i a xs vs
      dsimp only [gTp] at p
      by_cases z : xs.length = es.length
      · rw [if_pos z] at p
        exact ⟨a, vs, rfl, by rw [ok.K]; exact SqT.of (hs.sub _ _ h1), by rw [← h2.length]; exact z, F, mu, env, s, xs, hs, he, h2, p⟩
      · rw [if_neg z] at p; exact p.elim
    | _ => exact p.elim
theorem gPure_nm {i : Nat} : gPure (gNm i) := fun _ _ _ _ _ h => by cases h; rfl

/-! ### what is walked -/
/-- the items; lists that must stay while they are walked -/
structure Items where
  l : List D
  lv : List (Nat × List D)
def okL (lv : List (Nat × List D)) (s : DS) : Prop := ∀ p ∈ lv, s[p.1]? = some (.lst p.2)
theorem okL_nil {s : DS} : okL [] s := fun _ h => nomatch h
/-- the walk J gives the items, one after the other -/
def WalkD (G : Gl) (F : Hp) (mu : List Addr) (H0 : Hp) (it : Items) (J : It) : Prop := ∀ (F' : Hp) (mu' : List Addr) (s : DS) (H : Hp), Le F mu F' mu' → SR G F' mu' s H → okL it.lv s → (∀ a o u, H0 a = some (.frz o u) → H a = some (.frz o u)) →
  J.stop it.l.length H ∧ ∀ i, i < it.l.length → J.go i H ∧ ∀ x H', J.yld i H x H' → (H' = H ∧ ∃ d, it.l[i]? = some d ∧ Rep G F' mu' d x) ∨
    ∃ T x1 x2 d1 d2, x = .ref T ∧ H T = none ∧ H' = upd H T (.tup [x1, x2]) ∧ it.l[i]? = some (.ktup [d1, d2]) ∧ Rep G F' mu' d1 x1 ∧ Rep G F' mu' d2 x2
theorem Le.trans {F F1 F2 : Hp} {mu mu1 mu2 : List Addr} (a : Le F mu F1 mu1) (b : Le F1 mu1 F2 mu2) : Le F mu F2 mu2 := ⟨fun x o e => b.f x o (a.f x o e), fun n x e => b.m n x (a.m n x e)⟩
instance repI {G : Gl} : RepC G Items It := ⟨WalkD G⟩
/-- a walk by the library, over what is frozen -/
theorem WalkD.of {F H0 : Hp} {mu : List Addr} {l : List D} {J : It} {Gd : Hp → Prop} {Y : Nat → Hp → V → Hp → Prop} (w : Walk J l.length Gd Y) (hG : ∀ H, (∀ a o, F a = some o → H a = some o) → Gd H)
    (hY : ∀ i H x H', Y i H x H' → (H' = H ∧ ∃ d, l[i]? = some d ∧ Rep G F mu d x) ∨ ∃ T x1 x2 d1 d2, x = .ref T ∧ H T = none ∧ H' = upd H T (.tup [x1, x2]) ∧ l[i]? = some (.ktup [d1, d2]) ∧ Rep G F mu d1 x1 ∧ Rep G F mu d2 x2) : WalkD G F mu H0 ⟨l, []⟩ J := by
  intro F' mu' s H le hs _ _
  have g := hG H fun a o e => hs.sub a o (le.f a o e)
  refine ⟨w.stops H g, fun i hi => ⟨w.goes i H hi g, fun x H' y => ?_⟩⟩
  rcases hY i H x H' (w.yields i H x H' hi g y) with ⟨q, d, e, r⟩ | ⟨T, x1, x2, d1, d2, e1, e2, e3, e4, r1, r2⟩
  · exact .inl ⟨q, d, e, r.mono le⟩
  · exact .inr ⟨T, x1, x2, d1, d2, e1, e2, e3, e4, r1.mono le, r2.mono le⟩
def PId (G : Gl) (k : Nat) (c : Ct) (f : EV Items) (tg e : Expr) : Prop := ∀ X W, XOk G k c X W → PI X tg e (tD G f W)
theorem PI.by {X : Cx} {tg e : Expr} {t t' : TI} (h : PI X tg e t) (i : ∀ σ H Q, t' σ H Q → t σ H Q) : PI X tg e t' := ⟨fun pins s σ H R I q => h.run pins s σ H R I (i σ H R q)⟩
open Classical in
/-- the turns -/
noncomputable def forL (lv : List (Nat × List D)) (g : TV) (body : SV) : List D → SV
  | [], env, s => if okL lv s then .nx env s else .bad
  | d :: r, env, s => if okL lv s then match g d env s with
    | none => .bad
    | some (env1, s1) => match body env1 s1 with
      | .nx env2 s2 => forL lv g body r env2 s2
      | .ct env2 s2 => forL lv g body r env2 s2
      | .bk env2 s2 => .nx env2 s2
      | .rt d s2 => .rt d s2
      | .exc x env2 s2 => .exc x env2 s2
      | .bad => .bad
    else .bad
noncomputable def sFor (it : EV Items) (g : TV) (body : SV) : SV := fun env s => (it env s).toS env fun l s1 => forL l.lv g body l.l env s1
def notSet : Expr → Bool
  | .Set .. => false
  | _ => true
theorem folded_no {e : Expr} {env : Env} (h : notSet e = true) : ∀ x, foldedSetIterable e env x = pure x := fun x => by
  cases e <;> first | rfl | cases h
theorem ps_dfor (hcm : c.calm = true) {it : EV Items} {g : TV} {fb : SV} {t : Expr} {body : List Stmt} (hi : PId G k c it t e) (hg : PGd G k c g t) (hb : PBd G k c fb body) (ht : c.top = true) (hn : notSet e = true) : PSd G k c (sFor it g fb) (.For t e body [] pos) := fun X W ok => by
  refine PS.by (ps_for (ok.top ht).1 (ok.calm hcm).1 (hi X W ok) (hg X W ok) (hb X W ok) (folded_no hn)) fun Dn σ H q => ?_
  obtain ⟨F, mu, env, s, hs, he, p⟩ := q
  refine ⟨F, mu, env, s, hs, he, Post.toS hs he p fun F1 mu1 H1 l J s1 x1 hs1 r1 he1 p1 => ?_⟩
  have w : WalkD G F1 mu1 H1 l J := r1
  obtain ⟨Pv, hPv⟩ : ∃ P : Nat → L2.St → Hp → Prop, P = fun i σ H => ∃ F' mu' env' s', (∀ a o u, H1 a = some (.frz o u) → H a = some (.frz o u)) ∧ Le F1 mu1 F' mu' ∧ SR G F' mu' s' H ∧ ER G F' mu' env' σ ∧ PostS G F' mu' H W (forL l.lv g fb (l.l.drop i) env' s') Dn := ⟨_, rfl⟩
  refine ⟨fun i m σ H => m = l.l.length - i ∧ i ≤ l.l.length ∧ Pv i σ H, ⟨l.l.length, by simp, Nat.zero_le _, ?_⟩, ?_⟩
  · rw [hPv]; exact ⟨F1, mu1, env, s1, fun _ _ _ e => e, ⟨fun _ _ e => e, fun _ _ e => e⟩, hs1, he1, p1⟩
  rintro i m σ H ⟨rfl, hi, pv⟩
  rw [hPv] at pv
  obtain ⟨F', mu', env', s', zz, le, hs', he', p'⟩ := pv
  by_cases hlt : i < l.l.length
  · rw [List.drop_eq_getElem_cons hlt] at p'
    unfold forL at p'
    split at p'
    · rename_i hok
      obtain ⟨_, hw⟩ := w F' mu' s' H le hs' hok zz
      obtain ⟨hgo, hy⟩ := hw i hlt
      refine .inr ⟨hgo, Pv (i + 1), fun σ' H' q => ⟨l.l.length - (i + 1), by omega, rfl, hlt, q⟩, fun x H' y => ?_⟩
      have key : ∀ F2 mu2 H2 d, Ex F' mu' H F2 mu2 H2 → SR G F2 mu2 s' H2 → Rep G F2 mu2 d x → l.l[i]? = some d → tG G g x σ H2 fun σ2 H3 => tS G fb W { Dn with nx := Pv (i + 1), ct := Pv (i + 1), bk := Dn.nx } σ2 H3 := by
        intro F2 mu2 H2 d x2 hs2 r2 ed
        have ed' : l.l[i] = d := (List.getElem?_eq_some_iff.mp ed).2
        rw [ed'] at p'
        refine ⟨F2, mu2, env', s', d, hs2, he'.mono x2.le, r2, ?_⟩
        cases e1 : g d env' s' with
        | none => rw [e1] at p'; exact p'.elim
        | some q =>
          rw [e1] at p'
          obtain ⟨env1, s1'⟩ := q
          intro F3 mu3 H3 σ3 x3 hs3 he3
          refine ⟨F3, mu3, env1, s1', hs3, he3, ?_⟩
          have xx := hs'.trans x2 hs2 x3
          have zl : ∀ {F4 mu4 H4}, Ex F3 mu3 H3 F4 mu4 H4 → ∀ a o u, H1 a = some (.frz o u) → H4 a = some (.frz o u) := fun x4 a o u e => x4.z a o u (xx.z a o u (zz a o u e))
          have ll : ∀ {F4 mu4 H4}, Ex F3 mu3 H3 F4 mu4 H4 → Le F1 mu1 F4 mu4 := fun x4 => (le.trans xx.le).trans x4.le
          have p2 := p'
          dsimp only at p2
          rw [hPv]
          cases e2 : fb env1 s1' with
          | nx env2 s2 =>
            rw [e2] at p2
            exact fun F4 mu4 H4 σ4 x4 hs4 he4 => ⟨F4, mu4, env2, s2, zl x4, ll x4, hs4, he4, PostS.mono hs' hs4 (hs'.trans xx hs3 x4) p2⟩
          | ct env2 s2 =>
            rw [e2] at p2
            exact fun F4 mu4 H4 σ4 x4 hs4 he4 => ⟨F4, mu4, env2, s2, zl x4, ll x4, hs4, he4, PostS.mono hs' hs4 (hs'.trans xx hs3 x4) p2⟩
          | bk env2 s2 =>
            rw [e2] at p2
            exact fun F4 mu4 H4 σ4 x4 hs4 he4 => p2 F4 mu4 H4 σ4 (hs'.trans xx hs3 x4) hs4 he4
          | rt d2 s2 =>
            rw [e2] at p2
            exact fun F4 mu4 H4 v4 x4 hs4 r4 => p2 F4 mu4 H4 v4 (hs'.trans xx hs3 x4) hs4 r4
          | exc c2 env2 s2 =>
            rw [e2] at p2
            exact fun F4 mu4 H4 σ4 cls dd x4 hs4 he4 r4 => p2 F4 mu4 H4 σ4 cls dd (hs'.trans xx hs3 x4) hs4 he4 r4
          | bad => rw [e2] at p2; exact p2.elim
      rcases hy x H' y with ⟨rfl, d, ed, r⟩ | ⟨T, x1', x2', d1, d2, rfl, e2, rfl, ed, r1, r2⟩
      · exact key F' mu' H' d Ex.refl hs' r ed
      · have x2 := Ex.frozen (o := .tup [x1', x2']) hs' e2
        have l2 := x2.le
        refine key _ _ _ _ x2 (hs'.frozen e2) (.ktup upd_same ?_) ed
        exact .cons (r1.mono l2) (.cons (r2.mono l2) .nil)
    · exact p'.elim
  · have hi' : i = l.l.length := by omega
    subst hi'
    rw [List.drop_length] at p'
    unfold forL at p'
    split at p'
    · rename_i hok
      exact .inl ⟨(w F' mu' s' H le hs' hok zz).1, p' F' mu' H σ Ex.refl hs' he'⟩
    · exact p'.elim
/-- while -/
def whD (t : EV Bool) (body : SV) : Nat → SV
  | 0, _, _ => .bad
  | n + 1, env, s => (t env s).toS env fun b s1 => if b = true then
      match body env s1 with
      | .nx env2 s2 => whD t body n env2 s2
      | .ct env2 s2 => whD t body n env2 s2
      | .bk env2 s2 => .nx env2 s2
      | .rt d s2 => .rt d s2
      | .exc x env2 s2 => .exc x env2 s2
      | .bad => .bad
    else .nx env s1
theorem ps_dwhile {fb : SV} {t : Expr} {body : List Stmt} (n : Nat) (hc : PTd G k c ft t) (hb : PBd G k c fb body) (ht : c.top = true) : PSd G k c (whD ft fb n) (.While t body [] pos) := fun X W ok => by
  refine PS.by (ps_while (ok.top ht).1 (hc X W ok) (hb X W ok)) fun Dn σ H q => ?_
  obtain ⟨F, mu, env, s, hs, he, p⟩ := q
  refine ⟨fun m σ H => ∃ F mu env s, SR G F mu s H ∧ ER G F mu env σ ∧ PostS G F mu H W (whD ft fb m env s) Dn, ⟨n, F, mu, env, s, hs, he, p⟩, fun m σ H z => ?_⟩
  obtain ⟨F, mu, env, s, hs, he, p⟩ := z
  cases m with
  | zero => exact p.elim
  | succ m =>
    refine ⟨F, mu, env, s, hs, he, Post.toS (σ := σ) hs he (show PostS G F mu H W ((ft env s).toS env _) Dn from p) fun F1 mu1 H1 d v s1 x1 hs1 r1 he1 p1 => ?_⟩
    have r1' : v = d := r1
    subst r1'
    try dsimp only at p1 ⊢
    split
    · rename_i z
      rw [if_pos z] at p1
      refine ⟨fun σ H => ∃ F mu env s, SR G F mu s H ∧ ER G F mu env σ ∧ PostS G F mu H W (whD ft fb m env s) Dn, fun σ' H' z => ⟨m, Nat.lt_succ_self m, z⟩, F1, mu1, env, s1, hs1, he1, ?_⟩
      cases e2 : fb env s1 with
      | nx env2 s2 =>
        rw [e2] at p1
        exact fun F4 mu4 H4 σ4 x4 hs4 he4 => ⟨F4, mu4, env2, s2, hs4, he4, PostS.mono hs1 hs4 x4 p1⟩
      | ct env2 s2 =>
        rw [e2] at p1
        exact fun F4 mu4 H4 σ4 x4 hs4 he4 => ⟨F4, mu4, env2, s2, hs4, he4, PostS.mono hs1 hs4 x4 p1⟩
      | bk env2 s2 => rw [e2] at p1; exact p1
      | rt d2 s2 => rw [e2] at p1; exact p1
      | exc c2 env2 s2 => rw [e2] at p1; exact p1
      | bad => rw [e2] at p1; exact p1.elim
    · rename_i z
      rw [if_neg z] at p1
      exact p1 F1 mu1 H1 σ Ex.refl hs1 he1
end
end Pv

set_option Elab.async false
set_option linter.all false
set_option maxRecDepth 100000
/-! Ev4: operations on values. -/
namespace Pv
open PySem PySem.Spec PyProof.Rows L2

/-! ### helpers -/
section
variable {G : Gl} {k : Nat}
/-- the list that a value is -/
def lstOf : D → DS → Option (List D)
  | .lst xs, _ => some xs
  | .ref n, s => match s[n]? with
    | some (.lst xs) => some xs
    | _ => none
  | _, _ => none
theorem lstOf_ok {F : Hp} {mu : List Addr} {s : DS} {H : Hp} {d : D} {v : V} {xs : List D} (hs : SR G F mu s H) (r : Rep G F mu d v) (h : lstOf d s = some xs) : ∃ a vs, v = .ref a ∧ H a = some (.lst vs) ∧ RepL G F mu xs vs := by
  cases r with
  | lst q r => cases h; exact ⟨_, _, rfl, hs.sub _ _ q, r⟩
  | ref e =>
    simp only [lstOf] at h
    split at h
    · rename_i en
      cases h
      obtain ⟨_, ho, h1, h2⟩ := hs.live _ _ _ en (fun z => nomatch z) e
      cases h2 with
      | lst r => exact ⟨_, _, rfl, h1, r⟩
    · cases h
  | _ => cases h
/-- a new frozen object is handed on -/
theorem Post.new {F : Hp} {mu : List Addr} {s : DS} {H : Hp} {E : XK} {d : D} {Q : VK} (hs : SR G F mu s H) (p : Post G F mu H E (.ok d s) Q) {o : HO} (hr : ∀ a, H a = none → Rep G (upd F a o) mu d (.ref a)) : ∀ a, H a = none → Q (.ref a) (upd H a o) := fun a ha =>
  p _ _ _ _ (Ex.frozen hs ha) (hs.frozen ha) (hr a ha)
theorem new_le {F : Hp} {mu : List Addr} {s : DS} {H : Hp} (hs : SR G F mu s H) {a : Addr} {o : HO} (ha : H a = none) : Le F mu (upd F a o) mu := (Ex.frozen (o := o) hs ha).le

/-- the items of a tuple -/
def tupOf : D → Option (List D)
  | .tup xs => some xs
  | .ktup xs => some xs
  | _ => none
theorem tupOf_ok {F : Hp} {mu : List Addr} {s : DS} {H : Hp} {d : D} {v : V} {xs : List D} (hs : SR G F mu s H) (r : Rep G F mu d v) (h : tupOf d = some xs) : ∃ a vs, v = .ref a ∧ SqT G.K H a vs ∧ RepL G F mu xs vs := by
  cases r with
  | tup q r => cases h; exact ⟨_, _, rfl, hs.sqT q, r⟩
  | ktup q r => cases h; exact ⟨_, _, rfl, SqT.of (hs.sub _ _ q), r⟩
  | _ => cases h
/-- a new tuple is handed on -/
theorem Post.newF {F : Hp} {mu : List Addr} {s : DS} {H : Hp} {E : XK} {xs : List D} {vs : List V} {Q : VK} (hs : SR G F mu s H) (r : RepL G F mu xs vs) (p : Post G F mu H E (.ok (D.tup xs) s) Q) : ∀ a o, H a = none → o.dict = none → Q (.ref a) (upd H a (.frz o (.tup vs))) := fun a o ha hd =>
  p _ _ _ _ (Ex.frozen hs ha) (hs.frozen ha) (.tup (.inl ⟨o, upd_same, hd⟩) (r.mono (new_le hs ha)))
/-- plain data as the library has it -/
def pdD : D → Option PyData
  | .non => some .none
  | .bl b => some (.bool b)
  | .int i => some (.int i)
  | .str x => some (.str x)
  | .tup xs => (pdL xs).map .tuple
  | .ktup xs => (pdL xs).map .tuple
  | .lst xs => (pdL xs).map .list
  | _ => none
where pdL : List D → Option (List PyData)
  | [] => some []
  | x :: xs => (pdD x).bind fun d => (pdL xs).map fun ds => d :: ds
mutual
theorem pdD_ok {F : Hp} {mu : List Addr} {s : DS} {H : Hp} (hs : SR G F mu s H) : ∀ {d : D} {v : V} {p : PyData}, Rep G F mu d v → pdD d = some p → Dp G.K H v p
  | _, _, _, .non, h => by cases h; exact .non
  | _, _, _, .bl b, h => by cases h; exact .bl b
  | _, _, _, .int i, h => by cases h; exact .int i
  | _, _, _, .str x, h => by cases h; exact .str x
  | _, _, _, .tup q r, h => by
    obtain ⟨ps, e1, e2⟩ := Option.map_eq_some_iff.mp h
    subst e2
    exact .tup (hs.sqT q) (pdL_ok hs r e1)
  | _, _, _, .ktup q r, h => by
    obtain ⟨ps, e1, e2⟩ := Option.map_eq_some_iff.mp h
    subst e2
    exact .tup (SqT.of (hs.sub _ _ q)) (pdL_ok hs r e1)
  | _, _, _, .lst q r, h => by
    obtain ⟨ps, e1, e2⟩ := Option.map_eq_some_iff.mp h
    subst e2
    exact .lst (SqL.of (hs.sub _ _ q)) (pdL_ok hs r e1)
  | _, _, _, .scr _, h => by cases h
  | _, _, _, .dct _ _ _, h => by cases h
  | _, _, _, .obj _ _ _ _, h => by cases h
  | _, _, _, .ref _, h => by cases h
  | _, _, _, .ty _, h => by cases h
  | _, _, _, .cls _, h => by cases h
  | _, _, _, .fn _, h => by cases h
theorem pdL_ok {F : Hp} {mu : List Addr} {s : DS} {H : Hp} (hs : SR G F mu s H) : ∀ {ds : List D} {vs : List V} {ps : List PyData}, RepL G F mu ds vs → pdD.pdL ds = some ps → DpAll G.K H vs ps
  | _, _, _, .nil, h => by cases h; exact .nil
  | _, _, _, .cons r t, h => by
    obtain ⟨p, e1, e2⟩ := Option.bind_eq_some_iff.mp h
    obtain ⟨ps, e3, e4⟩ := Option.map_eq_some_iff.mp e2
    subst e4
    exact .cons (pdD_ok hs r e1) (pdL_ok hs t e3)
end
/-- a value, changing lists at its top read -/
def topD (d : D) (s : DS) : D := match lstOf d s with
  | some xs => .lst xs
  | none => d
theorem pd_top {F : Hp} {mu : List Addr} {s : DS} {H : Hp} {d : D} {v : V} {p : PyData} (hs : SR G F mu s H) (r : Rep G F mu d v) (h : pdD (topD d s) = some p) : Dp G.K H v p := by
  unfold topD at h
  split at h
  · rename_i xs e
    obtain ⟨a, vs, rfl, h1, h2⟩ := lstOf_ok hs r e
    obtain ⟨ps, e1, e2⟩ := Option.map_eq_some_iff.mp h
    subst e2
    exact .lst (SqL.of h1) (pdL_ok hs h2 e1)
  · exact pdD_ok hs r h
end

/-! ### arithmetic -/
def mulOk (i j : Int) : Bool := decide (i.natAbs.log2 + j.natAbs.log2 < 1000000)
def isBin : Operator → D → D → DS → Option (D × DS)
  | .Add, .int i, .int j, s => some (.int (i + j), s)
  | .Add, .str x, .str y, s => if x.length + y.length ≤ sizeLine then some (.str (x ++ y), s) else none
  | .Add, a, b, s => match tupOf a with
    | some xs => (tupOf b).bind fun ys => if xs = [] then some (b, s) else if ys = [] then some (a, s) else if xs.length + ys.length ≤ sizeLine then some (.tup (xs ++ ys), s) else none
    | none => (lstOf a s).bind fun xs => (lstOf b s).bind fun ys => if xs.length + ys.length ≤ sizeLine then some (.lst (xs ++ ys), s) else none
  | .Sub, .int i, .int j, s => some (.int (i - j), s)
  | .Mult, .int i, .int j, s => if mulOk i j = true then some (.int (i * j), s) else none
  | .Mult, a, .int j, s => match tupOf a with
    | some xs => if xs ≠ [] ∧ 2 ≤ j ∧ j ≤ 1000 ∧ xs.length ≤ 1000 then some (.ktup (List.replicate j.toNat xs).flatten, s) else none
    | none => (lstOf a s).bind fun xs => if -(2 ^ 63) ≤ j ∧ j < 2 ^ 63 ∧ xs.length * j.toNat ≤ sizeLine then some (.lst (List.replicate j.toNat xs).flatten, s) else none
  | .FloorDiv, .int i, .int j, s => if j ≠ 0 ∧ j.natAbs.log2 < 9000 then some (.int (i.fdiv j), s) else none
  | .Mod, .int i, .int j, s => if j ≠ 0 then some (.int (i.fmod j), s) else none
  | .Pow, .int i, .int j, s => if 0 ≤ j ∧ j ≤ 1000000 ∧ i.natAbs < 2 ^ 64 then some (.int (i ^ j.toNat), s) else none
  | _, _, _, _ => none
section
variable {G : Gl} {k : Nat}
/-- one case of an operation -/
theorem OpR.use {X : Cx} {f : Value → Value → Sem Value} {r : R2} (h : OpR X f r) {pins : List (Addr × Obj)} {s : Shared} {σ : L2.St} {H : Hp} {x y : V} {v u : Value} {Q : VK} (I : Inv X pins σ H s) (rx : RelV x v) (ry : RelV y u) (q : r x y H Q) : wpAny (model X.prog X.w) X.A (f v u) (EP X pins σ Q) X.xe s := h pins s σ H x y v u Q I rx ry q
theorem post_here {F : Hp} {mu : List Addr} {s : DS} {H : Hp} {E : XK} {d : D} {v : V} {Q : VK} (hs : SR G F mu s H) (p : Post G F mu H E (R.ofO (some (d, s))) Q) (r : Rep G F mu d v) : Q v H := Post.here (G := G) hs r p
theorem repl_flat {F : Hp} {mu : List Addr} {xs : List D} {vs : List V} (r : RepL G F mu xs vs) : ∀ n : Nat, RepL G F mu (List.replicate n xs).flatten (List.replicate n vs).flatten
  | 0 => .nil
  | n + 1 => by
    rw [List.replicate_succ, List.replicate_succ, List.flatten_cons, List.flatten_cons]
    exact r.append (repl_flat r n)
theorem nil_iff {F : Hp} {mu : List Addr} {xs : List D} {vs : List V} (r : RepL G F mu xs vs) : xs = [] ↔ vs = [] := by
  cases r <;> simp
theorem op_floorW {X : Cx} : OpR X (binaryOp .FloorDiv) (rI (fun _ j => j ≠ 0 ∧ j.natAbs.log2 < 9000) fun i j => .int (i.fdiv j)) := opI fun i j _ _ _ _ _ hc q => floordiv_int hc.1 q (.inl (PyProof.noPylong_of_log2 hc.2))
theorem repl_len {F : Hp} {mu : List Addr} {xs : List D} {vs : List V} (r : RepL G F mu xs vs) : vs.length = xs.length := r.length.symm
theorem op_lstCat {F : Hp} {mu : List Addr} {s : DS} {H : Hp} {X : Cx} {pins : List (Addr × Obj)} {sh : Shared} {σ : L2.St} {d e : D} {x y : V} {v u : Value} {Q : VK} {E : XK} (I : Inv X pins σ H sh) (rx : RelV x v) (ry : RelV y u) (hs : SR G F mu s H) (rd : Rep G F mu d x) (re : Rep G F mu e y)
    (p : Post G F mu H E (R.ofO ((lstOf d s).bind fun xs => (lstOf e s).bind fun ys => if xs.length + ys.length ≤ sizeLine then some (D.lst (xs ++ ys), s) else none)) Q) : wpAny (model X.prog X.w) X.A (binaryOp .Add v u) (EP X pins σ Q) X.xe sh := by
  cases e1 : lstOf d s with
  | none => rw [e1] at p; exact p.elim
  | some xs =>
    cases e2 : lstOf e s with
    | none => rw [e1, e2] at p; exact p.elim
    | some ys =>
      rw [e1, e2] at p
      obtain ⟨a, vs, rfl, h1, r1⟩ := lstOf_ok hs rd e1
      obtain ⟨b, ws, rfl, h2, r2⟩ := lstOf_ok hs re e2
      by_cases z : xs.length + ys.length ≤ sizeLine
      · have p' : Post G F mu H E (.ok (D.lst (xs ++ ys)) s) Q := by
          have q : (Option.some xs).bind (fun xs => (Option.some ys).bind fun ys => if xs.length + ys.length ≤ sizeLine then some (D.lst (xs ++ ys), s) else none) = some (D.lst (xs ++ ys), s) := if_pos z
          rw [q] at p; exact p
        refine OpR.use op_cat I rx ry ⟨a, b, vs, ws, rfl, rfl, h1, h2, by rw [repl_len r1, repl_len r2]; exact z, Post.new hs p' fun c hc => ?_⟩
        have l := new_le (o := .lst (vs ++ ws)) hs hc
        exact .lst upd_same ((r1.mono l).append (r2.mono l))
      · have q : (Option.some xs).bind (fun xs => (Option.some ys).bind fun ys => if xs.length + ys.length ≤ sizeLine then some (D.lst (xs ++ ys), s) else none) = none := if_neg z
        rw [q] at p; exact p.elim
theorem op_tupCat {F : Hp} {mu : List Addr} {s : DS} {H : Hp} {X : Cx} (hK : X.K = G.K) {pins : List (Addr × Obj)} {sh : Shared} {σ : L2.St} {d e : D} {a : Addr} {xs : List D} {vs : List V} {y : V} {v u : Value} {Q : VK} {E : XK} (I : Inv X pins σ H sh) (rx : RelV (.ref a) v) (ry : RelV y u) (hs : SR G F mu s H) (rd : Rep G F mu d (.ref a)) (h1 : SqT G.K H a vs) (r1 : RepL G F mu xs vs) (re : Rep G F mu e y)
    (p : Post G F mu H E (R.ofO ((tupOf e).bind fun ys => if xs = [] then some (e, s) else if ys = [] then some (d, s) else if xs.length + ys.length ≤ sizeLine then some (D.tup (xs ++ ys), s) else none)) Q) (hz0 : ∀ n : Nat, n = 0 → n ≤ sizeLine := fun _ z => by omega) : wpAny (model X.prog X.w) X.A (binaryOp .Add v u) (EP X pins σ Q) X.xe sh := by
  cases e1 : tupOf e with
  | none => rw [e1] at p; exact p.elim
  | some ys =>
    rw [e1] at p
    obtain ⟨b, ws, rfl, h2, r2⟩ := tupOf_ok hs re e1
    have p' : Post G F mu H E (R.ofO (if xs = [] then some (e, s) else if ys = [] then some (d, s) else if xs.length + ys.length ≤ sizeLine then some (D.tup (xs ++ ys), s) else none)) Q := p
    have sz : ∀ {c : Addr} {us : List V}, SqT G.K H c us → us.length ≤ sizeLine := fun h => by
      rw [← hK] at h
      obtain ⟨_, _, _, z⟩ := I.tuple h
      exact z
    rw [← hK] at h1 h2
    by_cases hx : xs = []
    · rw [if_pos hx] at p'
      have hv := (nil_iff r1).mp hx
      refine OpR.use op_catF I rx ry ⟨_, _, _, _, rfl, rfl, h1, h2, ?_, fun _ => post_here hs p' re, fun en => absurd hv en, fun en => absurd hv en⟩
      rw [hv, List.length_nil, Nat.zero_add]
      exact sz (by rw [← hK]; exact h2)
    · rw [if_neg hx] at p'
      have hv : vs ≠ [] := fun z => hx ((nil_iff r1).mpr z)
      by_cases hy : ys = []
      · rw [if_pos hy] at p'
        have hw := (nil_iff r2).mp hy
        refine OpR.use op_catF I rx ry ⟨_, _, _, _, rfl, rfl, h1, h2, ?_, fun en => absurd en hv, fun _ _ => post_here hs p' rd, fun _ en => absurd hw en⟩
        rw [hw, List.length_nil, Nat.add_zero]
        exact sz (by rw [← hK]; exact h1)
      · rw [if_neg hy] at p'
        have hw : ws ≠ [] := fun z => hy ((nil_iff r2).mpr z)
        by_cases z : xs.length + ys.length ≤ sizeLine
        · rw [if_pos z] at p'
          exact OpR.use op_catF I rx ry ⟨_, _, _, _, rfl, rfl, h1, h2, by rw [repl_len r1, repl_len r2]; exact z, fun en => absurd en hv, fun _ en => absurd en hw, fun _ _ => Post.newF hs (r1.append r2) p'⟩
        · rw [if_neg z] at p'; exact p'.elim
theorem mulOk_ok {i j : Int} (h : mulOk i j = true) : CMulW i j := by
  have h2 : decide (i.natAbs.log2 + j.natAbs.log2 < 1000000) = true := h
  show i.natAbs.log2 + j.natAbs.log2 < 1000000
  exact of_decide_eq_true h2
theorem op_lstRep {F : Hp} {mu : List Addr} {s : DS} {H : Hp} {X : Cx} {pins : List (Addr × Obj)} {sh : Shared} {σ : L2.St} {d : D} {j : Int} {x y : V} {v u : Value} {Q : VK} {E : XK} (I : Inv X pins σ H sh) (rx : RelV x v) (ry : RelV y u) (hs : SR G F mu s H) (rd : Rep G F mu d x) (re : Rep G F mu (.int j) y)
    (p : Post G F mu H E (R.ofO ((lstOf d s).bind fun xs => if -(2 ^ 63) ≤ j ∧ j < 2 ^ 63 ∧ xs.length * j.toNat ≤ sizeLine then some (D.lst (List.replicate j.toNat xs).flatten, s) else none)) Q) : wpAny (model X.prog X.w) X.A (binaryOp .Mult v u) (EP X pins σ Q) X.xe sh := by
  cases re
  cases e1 : lstOf d s with
  | none => rw [e1] at p; exact p.elim
  | some xs =>
    rw [e1] at p
    obtain ⟨a, vs, rfl, h1, r1⟩ := lstOf_ok hs rd e1
    by_cases z : -(2 ^ 63) ≤ j ∧ j < 2 ^ 63 ∧ xs.length * j.toNat ≤ sizeLine
    · have p' : Post G F mu H E (.ok (D.lst (List.replicate j.toNat xs).flatten) s) Q := by
        have q : (Option.some xs).bind (fun xs => if -(2 ^ 63) ≤ j ∧ j < 2 ^ 63 ∧ xs.length * j.toNat ≤ sizeLine then some (D.lst (List.replicate j.toNat xs).flatten, s) else none) = some (D.lst (List.replicate j.toNat xs).flatten, s) := if_pos z
        rw [q] at p; exact p
      refine OpR.use op_rep I rx ry ⟨a, j, vs, rfl, rfl, h1, z.1, z.2.1, by rw [repl_len r1]; exact z.2.2, Post.new hs p' fun c hc => ?_⟩
      exact .lst upd_same (repl_flat (r1.mono (new_le hs hc)) _)
    · have q : (Option.some xs).bind (fun xs => if -(2 ^ 63) ≤ j ∧ j < 2 ^ 63 ∧ xs.length * j.toNat ≤ sizeLine then some (D.lst (List.replicate j.toNat xs).flatten, s) else none) = none := if_neg z
      rw [q] at p; exact p.elim
theorem op_dbin (o : Operator) : OpOk G k (binaryOp o) (isBin o) := fun c X W ok pins sh σ H x y v u Q I rx ry q => by
  obtain ⟨F, mu, s, d, e, hs, rd, re, p⟩ := q
  unfold isBin at p
  split at p
  · cases rd; cases re
    exact OpR.use op_add I rx ry ⟨_, _, rfl, rfl, post_here hs p (.int _)⟩
  · cases rd; cases re
    split at p
    · rename_i z
      exact OpR.use op_add_str I rx ry ⟨_, _, rfl, rfl, z, post_here hs p (.str _)⟩
    · exact p.elim
  · split at p
    · rename_i xs e1
      obtain ⟨a, vs, rfl, h1, r1⟩ := tupOf_ok hs rd e1
      exact op_tupCat ok.K I rx ry hs rd h1 r1 re p
    · exact op_lstCat I rx ry hs rd re p
  · cases rd; cases re
    exact OpR.use op_sub I rx ry ⟨_, _, rfl, rfl, post_here hs p (.int _)⟩
  · cases rd; cases re
    split at p
    · rename_i z
      exact OpR.use op_mulW I rx ry ⟨_, _, rfl, rfl, mulOk_ok z, post_here hs p (.int _)⟩
    · exact p.elim
  · split at p
    · rename_i xs e1
      cases re
      obtain ⟨a, vs, rfl, h1, r1⟩ := tupOf_ok hs rd e1
      split at p
      · rename_i z
        refine OpR.use op_repT I rx ry ⟨_, _, _, rfl, rfl, by rw [ok.K]; exact h1, fun en => z.1 ((nil_iff r1).mpr en), z.2.1, z.2.2.1, by rw [repl_len r1]; exact z.2.2.2, Post.new hs p fun c hc => ?_⟩
        exact .ktup upd_same (repl_flat (r1.mono (new_le hs hc)) _)
      · exact p.elim
    · exact op_lstRep I rx ry hs rd re p
  · cases rd; cases re
    split at p
    · rename_i z
      exact OpR.use op_floorW I rx ry ⟨_, _, rfl, rfl, z, post_here hs p (.int _)⟩
    · exact p.elim
  · cases rd; cases re
    split at p
    · rename_i z
      exact OpR.use op_modN I rx ry ⟨_, _, rfl, rfl, z, post_here hs p (.int _)⟩
    · exact p.elim
  · cases rd; cases re
    split at p
    · rename_i z
      exact OpR.use op_pow I rx ry ⟨_, _, rfl, rfl, z, post_here hs p (.int _)⟩
    · exact p.elim
  · exact p.elim
end
end Pv

set_option Elab.async false
set_option linter.all false
set_option maxRecDepth 100000
/-! Ev5: comparisons, subscripts, slices, attributes. -/
namespace Pv
open PySem PySem.Spec PyProof.Rows L2

/-! ### comparisons -/
def scalEq : D → D → Option Bool
  | .int i, .int j => some (decide (i = j))
  | .str x, .str y => some (decide (x = y))
  | .bl a, .bl b => some (decide (a = b))
  | .non, .non => some true
  | .non, .int _ => some false
  | .int _, .non => some false
  | .non, .bl _ => some false
  | .bl _, .non => some false
  | .non, .str _ => some false
  | .str _, .non => some false
  | .int _, .str _ => some false
  | .str _, .int _ => some false
  | .bl _, .str _ => some false
  | .str _, .bl _ => some false
  | _, _ => none
def deepEq (a b : D) (s : DS) : Option Bool := (pdD (topD a s)).bind fun p => (pdD (topD b s)).bind fun q => if SeqAt.shaped p = true ∧ SeqAt.shaped q = true then some (PyData.eqv p q) else none
/-- == -/
def eqO (a b : D) (s : DS) : Option Bool := match scalEq a b with
  | some r => some r
  | none => deepEq a b s
def flatD : D → Bool
  | .non => true
  | .bl _ => true
  | .int _ => true
  | .str _ => true
  | _ => false
/-- == of flat values -/
def eqF : D → D → Bool
  | .non, .non => true
  | .bl a, .bl b => a == b
  | .bl a, .int b => (if a then 1 else 0) == b
  | .int a, .bl b => a == (if b then 1 else 0)
  | .int a, .int b => a == b
  | .str a, .str b => a == b
  | _, _ => false
/-- a list's, a tuple's items -/
def seqOf (d : D) (s : DS) : Option (List D) := match d with
  | .tup xs => some xs
  | .ktup xs => some xs
  | d => lstOf d s
def keyOf : D → Option Key
  | .int i => some (.inl i)
  | .str x => some (.inr x)
  | _ => none
/-- the pairs of a dict -/
def dctOf (d : D) (s : DS) : Option (List Key × List D) := match d with
  | .dct ks vs => some (ks, vs)
  | .ref n => match s[n]? with
    | some (.dct ks vs) => some (ks, vs)
    | some (.fdct ks vs) => some (ks, vs)
    | _ => none
  | _ => none
def lookK : List Key → List D → Key → Option D
  | j :: ks, d :: ds, k => if j = k then some d else lookK ks ds k
  | _, _, _ => none
def inStr (x z : Str) : Bool := match x.cps.toList with
  | [c] => decide (c ∈ z.cps.toList)
  | _ => !(Builtin.Str.occurrences z x 0 z.length 1).isEmpty
/-- in -/
def inO (x y : D) (s : DS) : Option Bool := match seqOf y s with
  | some ys => if flatD x = true ∧ ys.all flatD = true then some (ys.any fun z => eqF z x) else
      match y with
      | .tup _ => none
      | .ktup _ => none
      | _ => (pdD x).bind fun p => (pdD.pdL ys).bind fun qs => if SeqAt.shaped p = true ∧ SeqAt.shaped (.list qs) = true then some (qs.any fun z => PyData.eqv z p) else none
  | none => match dctOf y s with
    | some (ks, vs) => (keyOf x).map fun k => (lookK ks vs k).isSome
    | none => match x, y with
      | .str a, .str b => some (inStr a b)
      | _, _ => none
def isNonD : D → Bool
  | .non => true
  | _ => false
def isO : D → D → Option Bool
  | a, .non => some (isNonD a)
  | .bl a, .bl b => some (decide (a = b))
  | _, _ => none
def cmpB : CmpOp → D → D → DS → Option Bool
  | .Eq, a, b, s => eqO a b s
  | .NotEq, a, b, s => (eqO a b s).map not
  | .Lt, .int i, .int j, _ => some (decide (i < j))
  | .LtE, .int i, .int j, _ => some (decide (i ≤ j))
  | .Gt, .int i, .int j, _ => some (decide (j < i))
  | .GtE, .int i, .int j, _ => some (decide (j ≤ i))
  | .In, a, b, s => inO a b s
  | .NotIn, a, b, s => (inO a b s).map not
  | .Is, a, b, _ => isO a b
  | .IsNot, a, b, _ => (isO a b).map not
  | _, _, _, _ => none
def isCmp (o : CmpOp) (a b : D) (s : DS) : Option (D × DS) := (cmpB o a b s).map fun r => (.bl r, s)
section
variable {G : Gl} {k : Nat} {F : Hp} {mu : List Addr} {s : DS} {H : Hp} {d e : D} {x y : V}
theorem scalEq_ok {r : Bool} (rd : Rep G F mu d x) (re : Rep G F mu e y) (h : scalEq d e = some r) : scal x y = true ∧ decide (x = y) = r := by
  cases rd <;> cases re <;> simp only [scalEq, Option.some.injEq, reduceCtorEq] at h <;> subst h <;> simp [scal]
theorem flat_rep (r : Rep G F mu d x) (h : flatD d = true) : flatV x = true := by
  cases r <;> first | rfl | cases h
theorem eqF_rep (rd : Rep G F mu d x) (re : Rep G F mu e y) (h1 : flatD d = true) (h2 : flatD e = true) : eqV x y = eqF d e := by
  cases rd <;> first | (cases h1; done) | (cases re <;> first | (cases h2; done) | rfl)
theorem flat_all : ∀ {ds : List D} {vs : List V}, RepL G F mu ds vs → ds.all flatD = true → vs.all flatV = true
  | _, _, .nil, _ => rfl
  | _, _, .cons r t, h => by
    rw [List.all_cons, Bool.and_eq_true] at h
    rw [List.all_cons, flat_rep r h.1, flat_all t h.2] <;> rfl
theorem any_rep (re : Rep G F mu e y) (h2 : flatD e = true) : ∀ {ds : List D} {vs : List V}, RepL G F mu ds vs → ds.all flatD = true → inV y vs = ds.any fun z => eqF z e
  | _, _, .nil, _ => rfl
  | _, _, .cons (d := d) (v := v) (ds := ds) (vs := vs) r t, h => by
    rw [List.all_cons, Bool.and_eq_true] at h
    have ih := any_rep re h2 t h.2
    unfold inV at ih ⊢
    rw [List.any_cons, List.any_cons, ih, eqF_rep r re h.1 h2]
theorem seqOf_ok {xs : List D} (hs : SR G F mu s H) (r : Rep G F mu d x) (h : seqOf d s = some xs) : ∃ a vs, x = .ref a ∧ (SqL G.K H a vs ∨ SqT G.K H a vs) ∧ RepL G F mu xs vs := by
  unfold seqOf at h
  split at h
  · cases h
    cases r with
    | tup q r => exact ⟨_, _, rfl, .inr (hs.sqT q), r⟩
  · cases h
    cases r with
    | ktup q r => exact ⟨_, _, rfl, .inr (SqT.of (hs.sub _ _ q)), r⟩
  · obtain ⟨a, vs, h1, h2, h3⟩ := lstOf_ok hs r h
    exact ⟨a, vs, h1, .inl (SqL.of h2), h3⟩
theorem key_rep {kk : Key} (r : Rep G F mu d x) (h : keyOf d = some kk) : x = kV kk := by
  cases r <;> simp only [keyOf, Option.some.injEq, reduceCtorEq] at h <;> subst h <;> rfl
theorem dctOf_ok {ks : List Key} {xs : List D} (hs : SR G F mu s H) (r : Rep G F mu d x) (h : dctOf d s = some (ks, xs)) : ∃ a vs, x = .ref a ∧ Rd H a (.dK (ks.zip vs)) ∧ ks.length = vs.length ∧ RepL G F mu xs vs := by
  unfold dctOf at h
  split at h
  · cases h
    cases r with
    | dct q z r => exact ⟨_, _, rfl, .inr ⟨_, hs.sub _ _ q⟩, z, r⟩
  · split at h
    · rename_i en
      cases h
      cases r with
      | ref e =>
        obtain ⟨_, ho, h1, h2⟩ := hs.live _ _ _ en (fun z => nomatch z) e
        cases h2 with
        | dct z r => exact ⟨_, _, rfl, .inl h1, z, r⟩
    · rename_i en
      cases h
      cases r with
      | ref e =>
        obtain ⟨_, ho, h1, h2⟩ := hs.live _ _ _ en (fun z => nomatch z) e
        cases h2 with
        | fdct z r => exact ⟨_, _, rfl, .inr ⟨_, h1⟩, z, r⟩
    · cases h
  · cases h
theorem look_rep (kk : Key) : ∀ {ks : List Key} {ds : List D} {vs : List V}, RepL G F mu ds vs → ks.length = vs.length → (∀ d, lookK ks ds kk = some d → ∃ v, valV (ks.zip vs) kk = some v ∧ Rep G F mu d v) ∧ (lookK ks ds kk = none → valV (ks.zip vs) kk = none)
  | [], ds, _, _, _ => ⟨fun _ h => by simp [lookK] at h, fun _ => rfl⟩
  | _ :: _, _, _, .nil, h => by cases h
  | j :: ks, _, _, .cons (d := d) (v := v) (ds := ds) (vs := vs) r t, h => by
    have ih := look_rep kk (ks := ks) t (Nat.succ.inj h)
    by_cases e : j = kk
    · refine ⟨fun d' h' => ?_, fun h' => ?_⟩
      · unfold lookK at h'
        rw [if_pos e] at h'
        cases h'
        exact ⟨v, valV_pos (p := (j, v)) e, r⟩
      · unfold lookK at h'
        rw [if_pos e] at h'
        cases h'
    · refine ⟨fun d' h' => ?_, fun h' => ?_⟩
      · unfold lookK at h'
        rw [if_neg e] at h'
        obtain ⟨u, h1, h2⟩ := ih.1 d' h'
        exact ⟨u, (valV_neg (p := (j, v)) e).trans h1, h2⟩
      · unfold lookK at h'
        rw [if_neg e] at h'
        exact (valV_neg (p := (j, v)) e).trans (ih.2 h')
theorem look_some (kk : Key) {ks : List Key} {ds : List D} {vs : List V} (r : RepL G F mu ds vs) (h : ks.length = vs.length) : (valV (ks.zip vs) kk).isSome = (lookK ks ds kk).isSome := by
  have z := look_rep kk r h
  cases e : lookK ks ds kk with
  | none => rw [z.2 e]; rfl
  | some d =>
    obtain ⟨v, h1, _⟩ := z.1 d e
    rw [h1] <;> rfl
theorem non_rep (r : Rep G F mu d x) : decide (x = V.non) = isNonD d := by
  cases r <;> simp [isNonD]
theorem op_deep (c : Ct) {X : Cx} {W : WX} (ok : XOk G k c X W) {pins : List (Addr × Obj)} {sh : Shared} {σ : L2.St} {v u : Value} {Q : VK} {E : XK} {r : Bool} (I : Inv X pins σ H sh) (rx : RelV x v) (ry : RelV y u) (hs : SR G F mu s H) (rd : Rep G F mu d x) (re : Rep G F mu e y) (h : deepEq d e s = some r) :
    (Q (.bl r) H → wpAny (model X.prog X.w) X.A (compareOp .Eq v u) (EP X pins σ Q) X.xe sh) ∧ (Q (.bl (!r)) H → wpAny (model X.prog X.w) X.A (compareOp .NotEq v u) (EP X pins σ Q) X.xe sh) := by
  unfold deepEq at h
  obtain ⟨p, e1, h⟩ := Option.bind_eq_some_iff.mp h
  obtain ⟨q, e2, h⟩ := Option.bind_eq_some_iff.mp h
  split at h
  · rename_i z
    cases h
    have hu : X.A.units + 64 < cLine := by have := ok.units; omega
    have d1 := pd_top hs rd e1
    have d2 := pd_top hs re e2
    rw [← ok.K] at d1 d2
    exact ⟨fun hq => OpR.use (op_eqD hu) I rx ry ⟨p, q, d1, d2, z.1, z.2, hq⟩, fun hq => OpR.use (op_neD hu) I rx ry ⟨p, q, d1, d2, z.1, z.2, hq⟩⟩
  · cases h
theorem op_in_all (c : Ct) {X : Cx} {W : WX} (ok : XOk G k c X W) {pins : List (Addr × Obj)} {sh : Shared} {σ : L2.St} {v u : Value} {Q : VK} {r : Bool} (I : Inv X pins σ H sh) (rx : RelV x v) (ry : RelV y u) (hs : SR G F mu s H) (rd : Rep G F mu d x) (re : Rep G F mu e y) (h : inO d e s = some r) :
    (Q (.bl r) H → wpAny (model X.prog X.w) X.A (compareOp .In v u) (EP X pins σ Q) X.xe sh) ∧ (Q (.bl (!r)) H → wpAny (model X.prog X.w) X.A (compareOp .NotIn v u) (EP X pins σ Q) X.xe sh) := by
  have hu := ok.units
  unfold inO at h
  split at h
  · rename_i ys es
    obtain ⟨a, vs, rfl, h1, h2⟩ := seqOf_ok hs re es
    split at h
    · rename_i z
      cases h
      have e1 := any_rep rd z.1 h2 z.2
      rw [← ok.K] at h1
      refine ⟨fun hq => OpR.use op_in_seq I rx ry ⟨a, vs, rfl, h1, flat_rep rd z.1, flat_all h2 z.2, ?_⟩, fun hq => OpR.use op_notIn_seq I rx ry ⟨a, vs, rfl, h1, flat_rep rd z.1, flat_all h2 z.2, ?_⟩⟩
      · show Q (.bl (inV x vs)) H
        rw [e1]; exact hq
      · show Q (.bl (!inV x vs)) H
        rw [e1]; exact hq
    · split at h
      · cases h
      · cases h
      · rename_i hnt hnk
        obtain ⟨p, e1, h⟩ := Option.bind_eq_some_iff.mp h
        obtain ⟨q, e2, h⟩ := Option.bind_eq_some_iff.mp h
        split at h
        · rename_i z
          cases h
          have el : lstOf e s = some ys := by
            unfold seqOf at es
            split at es
            · exact absurd rfl (hnt _)
            · exact absurd rfl (hnk _)
            · exact es
          obtain ⟨a', vs', ea, h3, h4⟩ := lstOf_ok hs re el
          cases ea
          have d1 := pdD_ok hs rd e1
          have d2 : Dp G.K H (.ref a) (.list q) := .lst (SqL.of h3) (pdL_ok hs h4 e2)
          rw [← ok.K] at d1 d2
          exact ⟨fun hq => OpR.use (op_inD hu) I rx ry ⟨p, q, d1, d2, z.1, z.2, hq⟩, fun hq => OpR.use (op_notInD hu) I rx ry ⟨p, q, d1, d2, z.1, z.2, hq⟩⟩
        · cases h
  · split at h
    · rename_i ks xs ed
      obtain ⟨kk, e1, e2⟩ := Option.map_eq_some_iff.mp h
      subst e2
      obtain ⟨a, vs, rfl, h1, h2, h3⟩ := dctOf_ok hs re ed
      have ex := key_rep rd e1
      subst ex
      have g : DGet H a (kV kk) (valV (ks.zip vs) kk) := .inl ⟨_, _, h1, rfl, rfl⟩
      have eb := look_some kk h3 h2
      obtain rfl : u = Value.ref a := ry
      refine ⟨fun hq => d_in (by omega) I g rx fun s' I' => ⟨.bl _, H, I', rfl, ?_⟩, fun hq => d_notIn (by omega) I g rx fun s' I' => ⟨.bl _, H, I', rfl, ?_⟩⟩
      · rw [eb]; exact hq
      · rw [eb]; exact hq
    · split at h
      · cases h
        cases rd; cases re
        rename_i sa sb _ _
        unfold inStr
        split
        · rename_i cc ec
          have ea : sa = ⟨#[cc]⟩ := by
            obtain ⟨ar⟩ := sa
            have : ar.toList = [cc] := ec
            have : ar = #[cc] := by
              apply Array.ext'
              exact this
            rw [this]
          subst ea
          refine ⟨fun hq => OpR.use op_in_sign I rx ry ⟨cc, sb, rfl, rfl, hq⟩, fun hq => OpR.use op_notIn_sign I rx ry ⟨cc, sb, rfl, rfl, hq⟩⟩
        · exact ⟨fun hq => OpR.use op_in_str I rx ry ⟨_, _, rfl, rfl, hq⟩, fun hq => OpR.use op_notin_str I rx ry ⟨_, _, rfl, rfl, hq⟩⟩
      · cases h
theorem map_not {o : Option Bool} {r : Bool} (h : o.map not = some r) : ∃ r', o = some r' ∧ r = !r' := by
  cases o with
  | none => cases h
  | some r' => cases h; exact ⟨r', rfl, rfl⟩
theorem op_dcmp (o : CmpOp) : OpOk G k (compareOp o) (isCmp o) := fun c X W ok pins sh σ H x y v u Q I rx ry q => by
  obtain ⟨F, mu, s, d, e, hs, rd, re, p⟩ := q
  unfold isCmp at p
  cases h : cmpB o d e s with
  | none => rw [h] at p; exact p.elim
  | some r =>
    rw [h] at p
    have hq : Q (.bl r) H := post_here hs p (.bl r)
    unfold cmpB at h
    split at h
    · unfold eqO at h
      split at h
      · rename_i r' e1
        cases h
        obtain ⟨z1, z2⟩ := scalEq_ok rd re e1
        exact OpR.use op_eq I rx ry ⟨z1, by rw [z2]; exact hq⟩
      · exact (op_deep c ok (E := fun _ _ _ => False) I rx ry hs rd re h).1 hq
    · obtain ⟨r', h', er⟩ := map_not h
      subst er
      unfold eqO at h'
      split at h'
      · rename_i r2 e1
        obtain rfl := Option.some.inj h'
        obtain ⟨z1, z2⟩ := scalEq_ok rd re e1
        exact OpR.use op_ne I rx ry ⟨z1, by rw [z2]; exact hq⟩
      · exact (op_deep c ok (E := fun _ _ _ => False) I rx ry hs rd re h').2 hq
    · cases h; cases rd; cases re
      exact OpR.use op_lt I rx ry ⟨_, _, rfl, rfl, hq⟩
    · cases h; cases rd; cases re
      exact OpR.use op_le I rx ry ⟨_, _, rfl, rfl, hq⟩
    · cases h; cases rd; cases re
      exact OpR.use op_gt I rx ry ⟨_, _, rfl, rfl, hq⟩
    · cases h; cases rd; cases re
      exact OpR.use op_ge I rx ry ⟨_, _, rfl, rfl, hq⟩
    · exact (op_in_all c ok I rx ry hs rd re h).1 hq
    · obtain ⟨r', h', er⟩ := map_not h
      subst er
      exact (op_in_all c ok I rx ry hs rd re h').2 hq
    · unfold isO at h
      split at h
      · cases h; cases re
        exact OpR.use op_isN I rx ry ⟨rfl, by rw [non_rep rd]; exact hq⟩
      · cases h; cases rd; cases re
        exact OpR.use op_isBl I rx ry ⟨_, _, rfl, rfl, hq⟩
      · cases h
    · obtain ⟨r', h', er⟩ := map_not h
      subst er
      unfold isO at h'
      split at h'
      · obtain rfl := Option.some.inj h'
        cases re
        exact OpR.use op_notN I rx ry ⟨rfl, by rw [non_rep rd]; exact hq⟩
      · obtain rfl := Option.some.inj h'
        cases rd; cases re
        exact OpR.use op_notBl I rx ry ⟨_, _, rfl, rfl, hq⟩
      · cases h'
    · cases h
/-- unary -/
def isUn : UnaryOp → D → DS → Option (D × DS)
  | .USub, .int i, s => some (.int (-i), s)
  | _, _, _ => none
theorem op_dun (o : UnaryOp) : UnOk G k (unaryOp o) (isUn o) := fun c X W ok pins sh σ H x v Q I rx q => by
  obtain ⟨F, mu, s, d, hs, rd, p⟩ := q
  unfold isUn at p
  split at p
  · cases rd
    exact un_neg pins sh σ H _ v Q I rx ⟨_, rfl, post_here hs p (.int _)⟩
  · exact p.elim
end
end Pv

set_option Elab.async false
set_option linter.all false
set_option maxRecDepth 100000
/-! Ev6: subscripts, slices, attributes, stores. -/
namespace Pv
open PySem PySem.Spec PyProof.Rows L2
section
variable {G : Gl} {k : Nat} {c : Ct} {f g h : EV D} {a b e : Expr} {pos : Pos}
/-! ### subscripts -/
def notSlice : Expr → Bool
  | .Slice .. => false
  | _ => true
theorem plainIx {b : Expr} (h : notSlice b = true) : PlainIx b := fun o i => by
  cases b <;> first | rfl | cases h
def ixO : D → D → DS → Option D
  | .str z, .int i, _ => if z.length ≤ sizeLine then (atI z.cps.toList i).map fun c => .str ⟨#[c]⟩ else none
  | .scr ns, .int i, _ => (atI ns i).map .int
  | a, b, s => match seqOf a s with
    | some xs => match b with
      | .int i => atI xs i
      | _ => none
    | none => match dctOf a s with
      | some (ks, vs) => (keyOf b).bind fun k => lookK ks vs k
      | none => none
def isIx (a b : D) (s : DS) : Option (D × DS) := (ixO a b s).map fun d => (d, s)
theorem atI_rep {F : Hp} {mu : List Addr} {xs : List D} {vs : List V} {i : Int} {d : D} (r : RepL G F mu xs vs) (h : atI xs i = some d) : ∃ v, atI vs i = some v ∧ Rep G F mu d v := by
  unfold atI at h ⊢
  rw [r.length] at h
  obtain ⟨j, e1, e2⟩ := Option.bind_eq_some_iff.mp h
  obtain ⟨v, h1, h2⟩ := r.get e2
  exact ⟨v, Option.bind_eq_some_iff.mpr ⟨j, e1, h1⟩, h2⟩
theorem atI_ints {ns : List Int} {i j : Int} (h : atI ns i = some j) : atI (ns.map V.int) i = some (.int j) := by
  unfold atI at h ⊢
  rw [List.length_map]
  obtain ⟨m, e1, e2⟩ := Option.bind_eq_some_iff.mp h
  refine Option.bind_eq_some_iff.mpr ⟨m, e1, ?_⟩
  rw [List.getElem?_map, e2] <;> rfl
theorem ix_dict (hu : ∀ X : Cx, True) {X : Cx} (hA : X.A.units + 1 < cLine) : IxR X (fun x y H Q => ∃ a v, x = .ref a ∧ DGet H a y (some v) ∧ Q v H) := by
  intro value slice pins s σ H x y v u Q I rx ry h hs
  obtain ⟨a, z, rfl, g, q⟩ := h
  obtain rfl : v = Value.ref a := rx
  have hT := dict_typeIs I g
  unfold subscriptTail
  refine wpAny_bind ?_
  rw [getitemInPython_of_ne hT.not_modules]
  refine wpAny_bind (wpAny_specialOf hT PySem.F.slot_dict_getitem.lookup ?_)
  have h₂ : wpAny (model X.prog X.w) X.A (getItem (.ref a) u) (EP X pins σ Q) X.xe s := d_getItem hA I g ry fun w' s3 I3 rw' => ⟨z, H, I3, rw', q⟩
  have fin : wpAny (model X.prog X.w) X.A (subscripted slice false (.ref a) u) (fun r s₃ => wpAny (model X.prog X.w) X.A (letTemporaryGo value (.ref a) r >>= fun _ => pure r) (EP X pins σ Q) X.xe s₃) X.xe s := by
    rw [hs]
    exact wpAny_operating (wpAny_mono h₂ (fun r s₃ h₃ => wpAny_bind (wpAny_letTemporaryGo (wpAny_pure h₃))) fun _ _ x => x)
  first
    | exact wpAny_pure (wpAny_bind fin)
    | exact wpAny_pure fin
theorem ix_d (c : Ct) {X : Cx} {W : WX} (ok : XOk G k c X W) : IxR X (r2D G isIx) := by
  intro value slice pins sh σ H x y v u Q I rx ry q hsl
  obtain ⟨F, mu, s, d, e, hs, rd, re, p⟩ := q
  unfold isIx at p
  cases h : ixO d e s with
  | none => rw [h] at p; exact p.elim
  | some r =>
    rw [h] at p
    unfold ixO at h
    split at h
    · cases rd; cases re
      split at h
      · rename_i z
        obtain ⟨cc, e1, e2⟩ := Option.map_eq_some_iff.mp h
        subst e2
        exact ix_str value slice pins sh σ H _ _ v u Q I rx ry ⟨_, _, cc, rfl, rfl, z, e1, post_here hs p (.str _)⟩ hsl
      · cases h
    · cases rd with
      | scr q =>
      cases re
      obtain ⟨j, e1, e2⟩ := Option.map_eq_some_iff.mp h
      subst e2
      exact ix_list value slice pins sh σ H _ _ v u Q I rx ry ⟨_, _, _, _, rfl, rfl, by rw [ok.K]; exact hs.sqL q, atI_ints e1, post_here hs p (.int _)⟩ hsl
    · split at h
      · rename_i xs es
        split at h
        · obtain ⟨a, vs, rfl, h1, h2⟩ := seqOf_ok hs rd es
          cases re
          obtain ⟨w, e1, r1⟩ := atI_rep h2 h
          rw [← ok.K] at h1
          rcases h1 with h1 | h1
          · exact ix_list value slice pins sh σ H _ _ v u Q I rx ry ⟨_, _, _, _, rfl, rfl, h1, e1, post_here hs p r1⟩ hsl
          · exact ix_tup value slice pins sh σ H _ _ v u Q I rx ry ⟨_, _, _, _, rfl, rfl, h1, e1, post_here hs p r1⟩ hsl
        · cases h
      · split at h
        · rename_i ks xs ed
          obtain ⟨kk, e1, e2⟩ := Option.bind_eq_some_iff.mp h
          obtain ⟨a, vs, rfl, h1, h2, h3⟩ := dctOf_ok hs rd ed
          have ex := key_rep re e1
          subst ex
          obtain ⟨w, e3, r1⟩ := (look_rep kk h3 h2).1 _ e2
          have g : DGet H a (kV kk) (valV (ks.zip vs) kk) := .inl ⟨_, _, h1, rfl, rfl⟩
          rw [e3] at g
          have hA : X.A.units + 1 < cLine := by have := ok.units; omega
          exact ix_dict (fun _ => trivial) hA value slice pins sh σ H _ _ v u Q I rx ry ⟨a, w, rfl, g, post_here hs p r1⟩ hsl
        · cases h
theorem pe_dix (ha : PEd G k c f a) (hb : PEd G k c g b) (hn : notSlice b = true) : PEd G k c (eBin isIx f g) (.Subscript a b pos) := fun X W ok =>
  PE.by (pe_ix (ix_d c ok) (ha X W ok) (hb X W ok) (plainIx hn)) fun _ _ _ q => tD_bin q
/-! ### slices -/
def cutA {α : Type} (xs : List α) (lo hi : Option Int) : List α := (xs.drop (HT.sIx xs.length 0 lo)).take (HT.sIx xs.length xs.length hi - HT.sIx xs.length 0 lo)
theorem cut_rep {F : Hp} {mu : List Addr} {xs : List D} {vs : List V} (r : RepL G F mu xs vs) (lo hi : Option Int) : RepL G F mu (cutA xs lo hi) (cutV vs lo hi) := by
  unfold cutA cutV
  rw [r.length]
  exact (r.drop _).take _
theorem cut_whole {α : Type} {xs : List α} {lo hi : Option Int} (h1 : HT.sIx xs.length 0 lo = 0) (h2 : HT.sIx xs.length xs.length hi = xs.length) : cutA xs lo hi = xs := by
  unfold cutA
  rw [h1, h2, List.drop_zero, Nat.sub_zero, List.take_length]
theorem cut_map (ns : List Int) (lo hi : Option Int) : cutV (ns.map V.int) lo hi = (cutA ns lo hi).map V.int := by
  unfold cutA cutV
  rw [List.length_map, ← List.map_drop, ← List.map_take]
def slO : D → Option Int → Option Int → DS → Option D
  | .tup xs, lo, hi, _ => some (.tup (cutA xs lo hi))
  | .ktup xs, lo, hi, _ => if HT.sIx xs.length 0 lo = 0 ∧ HT.sIx xs.length xs.length hi = xs.length then some (.ktup xs) else some (.tup (cutA xs lo hi))
  | .str z, lo, hi, _ => if z.length ≤ sizeLine then some (.str (cutS z lo hi)) else none
  | .scr ns, lo, hi, _ => some (.lst ((cutA ns lo hi).map .int))
  | d, lo, hi, s => (lstOf d s).map fun xs => .lst (cutA xs lo hi)
def PtD (G : Gl) (k : Nat) (c : Ct) (f : EV (Option Int)) (e : Option Expr) : Prop := ∀ X W, XOk G k c X W → PO X e (tD G f W)
theorem PO.by {X : Cx} {e : Option Expr} {t t' : TO} (h : PO X e t) (i : ∀ σ H Q, t' σ H Q → t σ H Q) : PO X e t' := ⟨fun pins s σ H Q I q => h.run pins s σ H Q I (i σ H Q q)⟩
def pNone : EV (Option Int) := fun _ s => .ok none s
def pSome (f : EV D) : EV (Option Int) := fun env s => (f env s).bind fun d s1 => match d with
  | .int i => .ok (some i) s1
  | _ => .bad
theorem po_dnone : PtD G k c pNone none := fun X W ok => PO.by po_none fun σ H Q q => by
  obtain ⟨F, mu, env, s, hs, he, p⟩ := q
  exact Post.here (G := G) (α := Option Int) hs rfl p
theorem po_dsome (ha : PEd G k c f a) : PtD G k c (pSome f) (some a) := fun X W ok => PO.by (po_some (ha X W ok)) fun σ H Q q => by
  obtain ⟨F, mu, env, s, hs, he, p⟩ := q
  refine ⟨F, mu, env, s, hs, he, Post.bind hs p fun F1 mu1 H1 d v s1 x1 hs1 r1 p1 => ?_⟩
  try dsimp only at p1
  split at p1
  · cases r1
    exact ⟨_, rfl, Post.here (G := G) (α := Option Int) hs1 rfl p1⟩
  · exact p1.elim
def eSl (f : EV D) (lo hi : EV (Option Int)) : EV D := fun env s => (f env s).bind fun d s1 => (lo env s1).bind fun l s2 => (hi env s2).bind fun u s3 => match slO d l u s3 with
  | some r => .ok r s3
  | none => .bad
def rSlD (G : Gl) : V → Option Int → Option Int → Hp → VK → Prop := fun x lo hi H Q => ∃ F mu s d, SR G F mu s H ∧ Rep G F mu d x ∧ Post G F mu H (fun _ _ _ => False) (match slO d lo hi s with
  | some r => R.ok r s
  | none => .bad) Q
theorem sl_d (c : Ct) {X : Cx} {W : WX} (ok : XOk G k c X W) : SlR X (rSlD G) := by
  intro pins sh σ H x v vl vu lo hi sl Q I rx hsl pl pu q
  obtain ⟨F, mu, s, d, hs, rd, p⟩ := q
  cases h : slO d lo hi s with
  | none => rw [h] at p; exact p.elim
  | some r =>
    rw [h] at p
    unfold slO at h
    split at h
    · cases h
      cases rd with
      | tup q rr =>
      refine sl_tupF pins sh σ H _ v vl vu _ _ sl Q I rx hsl pl pu ⟨_, _, rfl, by rw [ok.K]; exact hs.sqT q, fun z => ?_, fun z => ?_⟩
      · refine Post.here (G := G) hs ?_ p
        refine Rep.tup q ?_
        rw [cut_whole (by rw [rr.length]; exact z.1) (by rw [rr.length]; exact z.2)]
        exact rr
      · exact Post.newF hs (cut_rep rr _ _) p
    · cases rd with
      | ktup q rr =>
      split at h
      · rename_i z
        cases h
        refine sl_tupF pins sh σ H _ v vl vu _ _ sl Q I rx hsl pl pu ⟨_, _, rfl, by rw [ok.K]; exact SqT.of (hs.sub _ _ q), fun _ => Post.here (G := G) hs (show Rep G _ _ _ _ from .ktup q rr) p, fun w => absurd (by rw [← rr.length]; exact z) w⟩
      · rename_i z
        cases h
        exact sl_tupF pins sh σ H _ v vl vu _ _ sl Q I rx hsl pl pu ⟨_, _, rfl, by rw [ok.K]; exact SqT.of (hs.sub _ _ q), fun w => absurd (by rw [rr.length]; exact w) z, fun _ => Post.newF hs (cut_rep rr _ _) p⟩
    · split at h
      · rename_i z
        cases h
        cases rd
        exact sl_str pins sh σ H _ v vl vu _ _ sl Q I rx hsl pl pu ⟨_, rfl, z, Post.here (G := G) hs (show Rep G _ _ _ _ from .str _) p⟩
      · cases h
    · cases h
      cases rd with
      | scr q =>
      refine sl_list pins sh σ H _ v vl vu _ _ sl Q I rx hsl pl pu ⟨_, _, rfl, by rw [ok.K]; exact hs.sqL q, Post.new hs p fun cc hc => ?_⟩
      rw [cut_map]
      exact .lst upd_same (RepL.of_ints _)
    · obtain ⟨xs, e1, e2⟩ := Option.map_eq_some_iff.mp h
      subst e2
      obtain ⟨a, vs, rfl, h1, h2⟩ := lstOf_ok hs rd e1
      exact sl_list pins sh σ H _ v vl vu _ _ sl Q I rx hsl pl pu ⟨_, _, rfl, SqL.of h1, Post.new hs p fun cc hc => .lst upd_same ((cut_rep h2 _ _).mono (new_le hs hc))⟩
theorem pe_dsl {lo hi : Option Expr} {fl fh : EV (Option Int)} {p2 : Pos} (ha : PEd G k c f a) (hl : PtD G k c fl lo) (hh : PtD G k c fh hi) : PEd G k c (eSl f fl fh) (.Subscript a (.Slice lo hi none p2) pos) := fun X W ok =>
  PE.by (pe_slice (sl_d c ok) (ha X W ok) (hl X W ok) (hh X W ok)) fun σ H Q q => by
    obtain ⟨F, mu, env, s, hs, he, p⟩ := q
    refine ⟨F, mu, env, s, hs, he, Post.bind hs p fun F1 mu1 H1 d v s1 x1 hs1 r1 p1 => ?_⟩
    refine ⟨F1, mu1, env, s1, hs1, he.mono x1.le, Post.bind hs1 p1 fun F2 mu2 H2 l l' s2 x2 hs2 r2 p2 => ?_⟩
    refine ⟨F2, mu2, env, s2, hs2, (he.mono x1.le).mono x2.le, Post.bind hs2 p2 fun F3 mu3 H3 u u' s3 x3 hs3 r3 p3 => ?_⟩
    obtain rfl : l' = l := r2
    obtain rfl : u' = u := r3
    refine ⟨F3, mu3, s3, d, hs3, Rep.mono x3.le (Rep.mono x2.le r1), ?_⟩
    try dsimp only at p3
    cases h : slO d l' u' s3 with
    | none => rw [h] at p3; exact p3
    | some r => rw [h] at p3; exact p3

/-! ### attributes -/
def notCall0 : Expr → Bool
  | .Call .. => false
  | _ => true
theorem attr_base {e : Expr} {f : Str} {env : Env} {w : Sem Value} (h : notCall0 e = true) : attributeBase e f env w = w := by
  cases e <;> first | rfl | cases h
def lookN : List Str → List D → Str → Option D
  | n :: ns, d :: ds, f => if f = n then some d else lookN ns ds f
  | _, _, _ => none
theorem lookN_rep {F : Hp} {mu : List Addr} (f : Str) : ∀ {ns : List Str} {ds : List D} {vs : List V} {d : D}, RepL G F mu ds vs → lookN ns ds f = some d → ∃ v, (ns.zip vs).lookup f = some v ∧ Rep G F mu d v
  | [], _, _, _, _, h => by simp [lookN] at h
  | _ :: _, _, _, _, .nil, h => by simp [lookN] at h
  | n :: ns, _, _, d, .cons (d := d0) (v := v0) (ds := ds) (vs := vs) r t, h => by
    unfold lookN at h
    by_cases e : f = n
    · rw [if_pos e] at h
      cases h
      refine ⟨v0, ?_, r⟩
      show List.lookup f ((n, v0) :: ns.zip vs) = _
      rw [List.lookup_cons, e, beq_self_eq_true]
    · rw [if_neg e] at h
      obtain ⟨v, h1, h2⟩ := lookN_rep f t h
      refine ⟨v, ?_, h2⟩
      show List.lookup f ((n, v0) :: ns.zip vs) = _
      rw [List.lookup_cons, beq_eq_false_iff_ne.mpr e]
      exact h1
/-- an instance's attributes -/
def insOf (d : D) (s : DS) : Option (Str × List Str × List D) := match d with
  | .obj c ns vs => some (c, ns, vs)
  | .ref n => match s[n]? with
    | some (.ins c ns vs) => some (c, ns, vs)
    | _ => none
  | _ => none
theorem insOf_ok {F : Hp} {mu : List Addr} {s : DS} {H : Hp} {d : D} {x : V} {cn : Str} {ns : List Str} {ds : List D} (hs : SR G F mu s H) (r : Rep G F mu d x) (h : insOf d s = some (cn, ns, ds)) : ∃ a C dx vs, x = .ref a ∧ H a = some (.ins C dx (ns.zip vs)) ∧ G.ca cn = some C ∧ ns.length = vs.length ∧ RepL G F mu ds vs := by
  unfold insOf at h
  split at h
  · cases h
    cases r with
    | obj q z c r => exact ⟨_, _, _, _, rfl, hs.sub _ _ q, c, z, r⟩
  · split at h
    · rename_i en
      cases h
      cases r with
      | ref e =>
        obtain ⟨_, ho, h1, h2⟩ := hs.live _ _ _ en (fun z => nomatch z) e
        cases h2 with
        | ins z c r => exact ⟨_, _, _, _, rfl, h1, c, z, r⟩
    · cases h
  · cases h
/-- a class, a field of its instances -/
def FldOk (G : Gl) (cn f : Str) : Prop := ∀ C, G.ca cn = some C → Cls G.K C ∧ NoAttr G.K C f
def eFld (fl : Str → Bool) (n : Str) (f : EV D) : EV D := fun env s => (f env s).bind fun d s1 => match insOf d s1 with
  | some (cn, ns, vs) => if fl cn = true then match lookN ns vs n with
    | some r => .ok r s1
    | none => .bad
    else .bad
  | none => .bad
theorem pe_dfld {n : Str} {fl : Str → Bool} (hf : ∀ cn, fl cn = true → FldOk G cn n) (ha : PEd G k c f a) (hn : notCall0 a = true) : PEd G k c (eFld fl n f) (.Attribute a n pos) := fun X W ok =>
  PE.by (pe_fld (ha X W ok) (attr_base hn)) fun σ H Q q => by
    obtain ⟨F, mu, env, s, hs, he, p⟩ := q
    refine ⟨F, mu, env, s, hs, he, Post.bind hs p fun F1 mu1 H1 d v s1 x1 hs1 r1 p1 => ?_⟩
    try dsimp only at p1
    cases h : insOf d s1 with
    | none => rw [h] at p1; exact p1.elim
    | some q =>
      obtain ⟨cn, ns, vs⟩ := q
      rw [h] at p1
      try dsimp only at p1
      by_cases hc : fl cn = true
      · rw [if_pos hc] at p1
        cases hl : lookN ns vs n with
        | none => rw [hl] at p1; exact p1.elim
        | some r =>
          rw [hl] at p1
          obtain ⟨a', C, dx, ws, rfl, h1, h2, h3, h4⟩ := insOf_ok hs1 r1 h
          obtain ⟨w, e1, rw'⟩ := lookN_rep n h4 hl
          have z := hf cn hc C h2
          exact ⟨a', C, dx, _, w, rfl, h1, by rw [ok.K]; exact z.1, by rw [ok.K]; exact z.2, e1, Post.here (G := G) hs1 rw' p1⟩
      · rw [if_neg hc] at p1; exact p1.elim

/-! ### stores -/
def putKs (ks : List Key) (k : Key) : List Key := if (ks.any fun j => decide (j = k)) = true then ks else ks ++ [k]
def putVs (ks : List Key) (vs : List D) (k : Key) (x : D) : List D := if (ks.any fun j => decide (j = k)) = true then (ks.zip vs).map (fun p => if p.1 = k then x else p.2) else vs ++ [x]
theorem any_zip {k : Key} : ∀ {ks : List Key} {vs : List V}, ks.length = vs.length → ((ks.zip vs).any fun kv => decide (kv.1 = k)) = ks.any fun j => decide (j = k)
  | [], _, _ => rfl
  | _ :: _, [], h => by cases h
  | j :: ks, v :: vs, h => by
    rw [List.zip_cons_cons, List.any_cons, List.any_cons, any_zip (Nat.succ.inj h)]
theorem map_zip {k : Key} {y : V} : ∀ {ks : List Key} {vs : List V}, ks.length = vs.length → (ks.zip vs).map (fun kv => if kv.1 = k then (kv.1, y) else kv) = ks.zip ((ks.zip vs).map fun p => if p.1 = k then y else p.2)
  | [], _, _ => rfl
  | _ :: _, [], h => by cases h
  | j :: ks, v :: vs, h => by
    rw [List.zip_cons_cons, List.map_cons, List.map_cons, List.zip_cons_cons, map_zip (Nat.succ.inj h)]
    by_cases e : j = k
    · rw [if_pos e, if_pos e]
    · rw [if_neg e, if_neg e]
theorem map_rep {F : Hp} {mu : List Addr} {k : Key} {x : D} {y : V} (r : Rep G F mu x y) : ∀ {ks : List Key} {ds : List D} {vs : List V}, RepL G F mu ds vs → RepL G F mu ((ks.zip ds).map fun p => if p.1 = k then x else p.2) ((ks.zip vs).map fun p => if p.1 = k then y else p.2)
  | [], _, _, _ => by simp; exact .nil
  | _ :: _, _, _, .nil => by simp; exact .nil
  | j :: ks, _, _, .cons (d := d) (v := v) r0 t => by
    rw [List.zip_cons_cons, List.zip_cons_cons, List.map_cons, List.map_cons]
    refine .cons ?_ (map_rep r t)
    by_cases e : j = k
    · rw [if_pos e, if_pos e]; exact r
    · rw [if_neg e, if_neg e]; exact r0
theorem put_rep {F : Hp} {mu : List Addr} {k : Key} {x : D} {y : V} (r : Rep G F mu x y) {ks : List Key} {ds : List D} {vs : List V} (t : RepL G F mu ds vs) (h : ks.length = vs.length) : ∃ ws, putK (ks.zip vs) k y = (putKs ks k).zip ws ∧ (putKs ks k).length = ws.length ∧ RepL G F mu (putVs ks ds k x) ws := by
  unfold putK putKs putVs
  rw [any_zip h]
  by_cases e : (ks.any fun j => decide (j = k)) = true
  · rw [if_pos e, if_pos e, if_pos e]
    exact ⟨_, map_zip h, by simp [h], map_rep r t⟩
  · rw [if_neg e, if_neg e, if_neg e]
    exact ⟨vs ++ [y], by rw [List.zip_append h]; rfl, by simp [h], t.append (.cons r .nil)⟩
/-- o[i] = v -/
def setO (o i v : D) (s : DS) : Option DS := match o with
  | .ref n => match s[n]? with
    | some (.lst xs) => match i with
      | .int j => (ixN xs.length j).map fun m => s.set n (.lst (xs.set m v))
      | _ => none
    | some (.dct ks vs) => (keyOf i).bind fun k => if ks.length < sizeLine then some (s.set n (.dct (putKs ks k) (putVs ks vs k v))) else none
    | _ => none
  | _ => none
def rSetD (G : Gl) : TSet := fun o i v H Q => ∃ F mu s d e x, SR G F mu s H ∧ Rep G F mu d o ∧ Rep G F mu e i ∧ Rep G F mu x v ∧ match setO d e x s with
  | some s' => ∀ F' mu' H', Ex F mu H F' mu' H' → SR G F' mu' s' H' → Q H'
  | none => False
theorem set_d (c : Ct) {X : Cx} {W : WX} (ok : XOk G k c X W) : PSet X (rSetD G) := by
  intro pins sh σ H o i v ov iv u Q I ro ri rv q
  obtain ⟨F, mu, s, d, e, x, hs, rd, re, rx, p⟩ := q
  cases h : setO d e x s with
  | none => rw [h] at p; exact p.elim
  | some s' =>
    rw [h] at p
    unfold setO at h
    split at h
    · rename_i n
      cases rd with
      | ref em =>
      rename_i a
      split at h
      · rename_i xs en
        obtain ⟨_, ho, h1, h2⟩ := hs.live _ _ _ en (fun z => nomatch z) em
        cases h2 with
        | lst r =>
        split at h
        · cases re
          obtain ⟨m, e1, e2⟩ := Option.map_eq_some_iff.mp h
          subst e2
          rw [r.length] at e1
          refine set_list pins sh σ H _ _ v ov iv u Q I ro ri rv ⟨a, _, _, m, rfl, rfl, h1, e1, p _ _ _ (Ex.write em fun o u z => by rw [h1] at z; cases z) (hs.write en (fun z => nomatch z) em (.lst (r.set rx m)))⟩
        · cases h
      · rename_i ks xs en
        obtain ⟨_, ho, h1, h2⟩ := hs.live _ _ _ en (fun z => nomatch z) em
        cases h2 with
        | dct z r =>
        obtain ⟨kk, e1, h⟩ := Option.bind_eq_some_iff.mp h
        split at h
        · rename_i hz
          cases h
          have ei := key_rep re e1
          subst ei
          obtain ⟨ws, w1, w2, w3⟩ := put_rep (k := kk) rx r z
          obtain rfl : ov = Value.ref a := ro
          have hA : X.A.units + 1 < cLine := by have := ok.units; omega
          refine d_setItem hA I (DPut.k h1 (by rw [List.length_zip, z, Nat.min_self, ← z]; exact hz)) ri rv fun s2 I2 => ?_
          rw [w1] at I2
          exact ⟨_, I2, p _ _ _ (Ex.write em fun o u z => by rw [h1] at z; cases z) (hs.write en (fun z => nomatch z) em (.dct w2 w3))⟩
        · cases h
      · cases h
    · cases h
def gSb (fo fi : EV D) : TV := fun d env s => match (fo env s) with
  | .ok o s1 => match fi env s1 with
    | .ok i s2 => (setO o i d s2).map fun s3 => (env, s3)
    | _ => none
  | _ => none
theorem asg_sub {o i : Expr} {p : Pos} {env : Env} (h : notSlice i = true) : ∀ v, assign (.Subscript o i p) env v = (do
      let ov ← holding [v] (eval o env)
      let iv ← holding [v, ov] (eval i env)
      standAt p
      holding [v, ov, iv] (setItem ov iv v)
      release [v, ov, iv] []) := fun v => by
  cases i <;> first | rfl | cases h
theorem pg_dsub (ha : PEd G k c f a) (hb : PEd G k c g b) (hn : notSlice b = true) : PGd G k c (gSb f g) (.Subscript a b pos) := fun X W ok =>
  PG.by (pg_sub (ha X W ok) (hb X W ok) (set_d c ok) (asg_sub hn)) fun v σ H Q q => by
    obtain ⟨F, mu, env, s, d, hs, he, r, p⟩ := q
    unfold gSb at p
    cases e1 : f env s with
    | exc x s1 => rw [e1] at p; exact p.elim
    | bad => rw [e1] at p; exact p.elim
    | ok o s1 =>
      rw [e1] at p
      refine ⟨F, mu, env, s, hs, he, ?_⟩
      rw [e1]
      intro F1 mu1 H1 vo x1 hs1 r1
      try dsimp only at p
      cases e2 : g env s1 with
      | exc x s2 => rw [e2] at p; exact p.elim
      | bad => rw [e2] at p; exact p.elim
      | ok i s2 =>
        rw [e2] at p
        refine ⟨F1, mu1, env, s1, hs1, he.mono x1.le, ?_⟩
        rw [e2]
        intro F2 mu2 H2 vi x2 hs2 r2
        try dsimp only at p
        refine ⟨F2, mu2, s2, o, i, d, hs2, Rep.mono x2.le r1, r2, (r.mono x1.le).mono x2.le, ?_⟩
        cases e3 : setO o i d s2 with
        | none => rw [e3] at p; exact p.elim
        | some s3 =>
          rw [e3] at p
          intro F3 mu3 H3 x3 hs3
          have l1 := x1.le
          have l2 := x2.le
          have l3 := x3.le
          exact p F3 mu3 H3 σ (hs.trans x1 hs1 (hs1.trans x2 hs2 x3)) hs3 (((he.mono l1).mono l2).mono l3)
/-- x op= e, ints -/
def augO (o : Operator) (a b : D) : Option D := match o, a, b with
  | .Add, .int i, .int j => some (.int (i + j))
  | .Sub, .int i, .int j => some (.int (i - j))
  | _, _, _ => none
def rAugD (G : Gl) (o : Operator) : TIp := fun x y H Q => ∃ F mu s d e, SR G F mu s H ∧ Rep G F mu d x ∧ Rep G F mu e y ∧ Post G F mu H (fun _ _ _ => False) (match augO o d e with
  | some r => R.ok r s
  | none => .bad) Q
theorem ip_d (o : Operator) {X : Cx} : PIp X o (rAugD G o) := by
  intro pins sh σ H x y v u Q I rx ry q
  obtain ⟨F, mu, s, d, e, hs, rd, re, p⟩ := q
  cases h : augO o d e with
  | none => rw [h] at p; exact p.elim
  | some r =>
    rw [h] at p
    unfold augO at h
    split at h
    · cases h; cases rd; cases re
      exact ip_add pins sh σ H _ _ v u Q I rx ry ⟨_, _, rfl, rfl, Post.here (G := G) hs (show Rep G _ _ _ _ from .int _) p⟩
    · cases h; cases rd; cases re
      exact ip_sub pins sh σ H _ _ v u Q I rx ry ⟨_, _, rfl, rfl, Post.here (G := G) hs (show Rep G _ _ _ _ from .int _) p⟩
    · cases h
def sAug (o : Operator) (i : Nat) (f : EV D) : SV := fun env s => match env[i]? with
  | some (some d) => (f env s).toS env fun e s1 => match augO o d e with
    | some r => .nx (env.set i (some r)) s1
    | none => .bad
  | _ => .bad
theorem ps_daug {o : Operator} {x : Str} {i : Nat} {pos' : Pos} (hxi : c.xi ≠ some i) (hi : slotOf c.N x = some i) (hx : locB c.wr x = true) (ha : PEd G k c f a) : PSd G k c (sAug o i f) (.AugAssign (.Name x pos') o a pos) := fun X W ok => by
  have st := ok.st x hx
  refine PS.by (ps_aug (i := i) (by rw [ok.N]; exact ok.nd) (by rw [ok.N]; exact slotOf_ok hi) st.1 (ha X W ok) (ip_d (G := G) o) st.2) fun Dn σ H q => ?_
  obtain ⟨F, mu, env, s, hs, he, p⟩ := q
  unfold sAug at p
  split at p
  · rename_i d ed
    obtain ⟨v, h1, h2⟩ := he.get i d ed
    refine ⟨v, h1, F, mu, env, s, hs, he, Post.toS hs he p fun F1 mu1 H1 e y s1 x1 hs1 r1 he1 p1 => ?_⟩
    refine ⟨F1, mu1, s1, d, e, hs1, h2.mono x1.le, r1, ?_⟩
    try dsimp only at p1
    cases h : augO o d e with
    | none => rw [h] at p1; exact p1.elim
    | some r =>
      rw [h] at p1
      exact fun F2 mu2 H2 w x2 hs2 r2 => p1 F2 mu2 H2 _ x2 hs2 ((he1.mono x2.le).set i r2 (ok.at_ hxi))
  · exact p.elim

end
end Pv

set_option Elab.async false
set_option linter.all false
set_option maxRecDepth 100000
/-! Ev7: calls of built-ins. -/
namespace Pv
open PySem PySem.Spec PyProof.Rows L2
section
variable {G : Gl} {k : Nat} {c : Ct} {f g h : EV D} {a b e : Expr} {pos : Pos}
abbrev Op := List D → DS → Option (D × DS)
def rCallD (G : Gl) (op : Op) : List V → Hp → VK → Prop := fun vs H Q => ∃ F mu s ds, SR G F mu s H ∧ RepL G F mu ds vs ∧ Post G F mu H (fun _ _ _ => False) (R.ofO (op ds s)) Q
def BOk (G : Gl) (k : Nat) (f : Value) (op : Op) : Prop := ∀ c X W, c.calm = true → XOk G k c X W → CallR X f (rCallD G op)
def eCallB (op : Op) (fs : EV (List D)) : EV D := fun env s => (fs env s).bind fun xs s1 => R.ofO (op xs s1)
theorem tD_callB {op : Op} {fs : EV (List D)} {W : WX} {σ : L2.St} {H : Hp} {Q : VK} (q : tD G (eCallB op fs) W σ H Q) : tCB (rCallD G op) (tD G fs W) σ H Q := by
  obtain ⟨F, mu, env, s, hs, he, p⟩ := q
  refine ⟨F, mu, env, s, hs, he, Post.bind hs p fun F1 mu1 H1 d v s1 x1 hs1 r1 p1 => ?_⟩
  exact ⟨F1, mu1, s1, d, hs1, r1, Post.ofO p1⟩
theorem backTo_plain {env : Env} {pos : Pos} : ∀ {es : List Expr}, noStars es = true → (backTo pos (starEach es env)).any (·.1) = false
  | [], _ => rfl
  | e :: es, h => by
    have h2 : notStar e = true ∧ noStars es = true := by simpa [noStars] using h
    rw [starEach_cons h2.1]
    show (false || (backTo pos (starEach es env)).any (·.1)) = false
    rw [backTo_plain h2.2] <;> rfl
theorem pe_dcallB (hcm : c.calm = true) {op : Op} {fs : EV (List D)} {x : Str} {id : String} {es : List Expr} {p : Pos} (ho : BOk G k (.builtin id) op) (hg : c.sc.names.lookup x = some .globalImplicit) (hm : G.mg x = none) (hv : bootBuiltins x = some (.builtin id)) (ha : PAd G k c fs (e :: es)) (hn : x ≠ "__name__") (hd : (x == ("__debug__" : Str)) = false) (hs : noStars (e :: es) = true) :
    PEd G k c (eCallB op fs) (.Call (.Name x p) (e :: es) [] pos) := fun X W ok => by
  have h2 : notStar e = true ∧ noStars es = true := by simpa [noStars] using hs
  have hG : L2.Gl X x := by
    show X.env.scope.names.lookup x = _
    rw [ok.sc]; exact hg
  exact PE.by (pe_callB (ho c X W hcm ok) hG (by rw [ok.mg]; exact hm) hv (ha X W ok) hn hd (starEach_cons h2.1) (backTo_plain h2.2)) fun _ _ _ q => tD_callB q
theorem pe_dcallT (hcm : c.calm = true) {op : Op} {fs : EV (List D)} {x : Str} {id : String} {es : List Expr} {p : Pos} (ho : BOk G k (.type id) op) (hg : c.sc.names.lookup x = some .globalImplicit) (hm : G.mg x = none) (hv : bootBuiltins x = some (.type id)) (ha : PAd G k c fs (e :: es)) (hn : x ≠ "__name__") (hd : (x == ("__debug__" : Str)) = false) (hs : noStars (e :: es) = true) :
    PEd G k c (eCallB op fs) (.Call (.Name x p) (e :: es) [] pos) := fun X W ok => by
  have h2 : notStar e = true ∧ noStars es = true := by simpa [noStars] using hs
  have hG : L2.Gl X x := by
    show X.env.scope.names.lookup x = _
    rw [ok.sc]; exact hg
  exact PE.by (pe_callTy (ho c X W hcm ok) hG (by rw [ok.mg]; exact hm) hv (ha X W ok) hn hd (starEach_cons h2.1) (backTo_plain h2.2)) fun _ _ _ q => tD_callB q

theorem ofO_map {α β γ : Type} [RepC G α γ] {F : Hp} {mu : List Addr} {H : Hp} {E : XK} {Q : γ → Hp → Prop} {o : Option β} {g : β → α × DS} (p : Post G F mu H E (R.ofO (o.map g)) Q) : ∃ x, o = some x ∧ Post G F mu H E (R.ofO (some (g x))) Q := by
  cases o with
  | none => exact p.elim
  | some x => exact ⟨x, rfl, p⟩
theorem ofO_bind {α β γ : Type} [RepC G α γ] {F : Hp} {mu : List Addr} {H : Hp} {E : XK} {Q : γ → Hp → Prop} {o : Option β} {g : β → Option (α × DS)} (p : Post G F mu H E (R.ofO (o.bind g)) Q) : ∃ x, o = some x ∧ Post G F mu H E (R.ofO (g x)) Q := by
  cases o with
  | none => exact p.elim
  | some x => exact ⟨x, rfl, p⟩
/-! ### the built-ins -/
def intsOf : List D → Option (List Int)
  | [] => some []
  | .int i :: r => (intsOf r).map (i :: ·)
  | _ :: _ => none
def blsOf : List D → Option (List Bool)
  | [] => some []
  | .bl i :: r => (blsOf r).map (i :: ·)
  | _ :: _ => none
theorem intsOf_rep {F : Hp} {mu : List Addr} : ∀ {ds : List D} {vs : List V} {ns : List Int}, RepL G F mu ds vs → intsOf ds = some ns → vs = ns.map V.int
  | _, _, _, .nil, h => by cases h; rfl
  | _, _, _, .cons r t, h => by
    cases r with
    | int i =>
      obtain ⟨ms, e1, e2⟩ := Option.map_eq_some_iff.mp h
      subst e2
      rw [List.map_cons, intsOf_rep t e1]
    | _ => cases h
theorem blsOf_rep {F : Hp} {mu : List Addr} : ∀ {ds : List D} {vs : List V} {ns : List Bool}, RepL G F mu ds vs → blsOf ds = some ns → vs = ns.map V.bl
  | _, _, _, .nil, h => by cases h; rfl
  | _, _, _, .cons r t, h => by
    cases r with
    | bl i =>
      obtain ⟨ms, e1, e2⟩ := Option.map_eq_some_iff.mp h
      subst e2
      rw [List.map_cons, blsOf_rep t e1]
    | _ => cases h
/-- len -/
def opLen : Op
  | [.str x], s => if x.length ≤ sizeLine then some (.int x.length, s) else none
  | [.scr ns], s => some (.int ns.length, s)
  | [d], s => match seqOf d s with
    | some xs => some (.int xs.length, s)
    | none => (dctOf d s).map fun p => (.int p.1.length, s)
  | _, _ => none
theorem op_one {X : Cx} {f : Value} {r : List V → Hp → VK → Prop} (h : CallR X f r) {pins : List (Addr × Obj)} {s : Shared} {σ : L2.St} {H : Hp} {xs : List V} {us : List Value} {Q : VK} (I : Inv X pins σ H s) (rx : Vals xs us) (q : r xs H Q) : wpAny (model X.prog X.w) X.A (call f us) (EP X pins σ Q) X.xe s := h pins s σ H xs us Q I rx q
theorem bo_len : BOk G k (.builtin "len") opLen := fun c X W hcm ok pins sh σ H xs us Q I rv q => by
  obtain ⟨F, mu, s, ds, hs, rd, p⟩ := q
  unfold opLen at p
  split at p
  · obtain ⟨v, rfl, r⟩ := rd.inv1
    cases r
    split at p
    · rename_i z
      exact op_one call_len_str I rv ⟨_, rfl, z, post_here hs p (.int _)⟩
    · exact p.elim
  · obtain ⟨v, rfl, r⟩ := rd.inv1
    cases r with
    | scr q =>
    have p2 := post_here hs p (show Rep G F mu (.int _) _ from .int _)
    refine op_one call_len_seq I rv ⟨_, _, rfl, .inl (by rw [ok.K]; exact hs.sqL q), ?_⟩
    rw [List.length_map]; exact p2
  · obtain ⟨v, rfl, r⟩ := rd.inv1
    split at p
    · rename_i xs es
      obtain ⟨a, vs, rfl, h1, h2⟩ := seqOf_ok hs r es
      rw [← ok.K] at h1
      have p2 := post_here hs p (show Rep G F mu (.int _) _ from .int _)
      refine op_one call_len_seq I rv ⟨_, _, rfl, h1, ?_⟩
      rw [← h2.length]; exact p2
    · obtain ⟨⟨ks, xs⟩, e, p⟩ := ofO_map p
      obtain ⟨a, vs, rfl, h1, h2, h3⟩ := dctOf_ok hs r e
      have p2 := post_here hs p (show Rep G F mu (.int _) _ from .int _)
      obtain rfl := rv.ref1
      refine d_len I h1 fun t s' I' => ⟨.int _, H, I', ⟨_, rfl⟩, ?_⟩
      rw [List.length_zip, h2, Nat.min_self, ← h2]; exact p2
  · exact p.elim
def opAbs : Op
  | [.int i], s => some (.int (if i < 0 then -i else i), s)
  | _, _ => none
theorem bo_abs : BOk G k (.builtin "abs") opAbs := fun c X W hcm ok pins sh σ H xs us Q I rv q => by
  obtain ⟨F, mu, s, ds, hs, rd, p⟩ := q
  unfold opAbs at p
  split at p
  · obtain ⟨v, rfl, r⟩ := rd.inv1
    cases r
    exact op_one call_abs I rv ⟨_, rfl, post_here hs p (.int _)⟩
  · exact p.elim
def maxL (x : Int) : List Int → Int
  | [] => x
  | y :: r => maxL (if y > x then y else x) r
def minL (x : Int) : List Int → Int
  | [] => x
  | y :: r => minL (if y < x then y else x) r
def opMax : Op
  | [.int i, .int j], s => some (.int (if j > i then j else i), s)
  | [d], s => (lstOf d s).bind fun xs => (intsOf xs).bind fun ns => match ns with
    | n :: r => some (.int (maxL n r), s)
    | [] => none
  | _, _ => none
def opMin : Op
  | [.int i, .int j], s => some (.int (if j < i then j else i), s)
  | [d], s => (lstOf d s).bind fun xs => (intsOf xs).bind fun ns => match ns with
    | n :: r => some (.int (minL n r), s)
    | [] => none
  | _, _ => none
theorem maxL_ge : ∀ (r : List Int) (x : Int), x ≤ maxL x r ∧ (∀ y ∈ r, y ≤ maxL x r) ∧ (maxL x r = x ∨ maxL x r ∈ r)
  | [], x => ⟨Int.le_refl x, ⟨fun _ h => (List.not_mem_nil h).elim, Or.inl rfl⟩⟩
  | y :: r, x => by
    have ih := maxL_ge r (if y > x then y else x)
    show x ≤ maxL (if y > x then y else x) r ∧ _
    obtain ⟨h1, h2, h3⟩ := ih
    refine ⟨?_, fun z hz => ?_, ?_⟩
    · split at h1 <;> rename_i q <;> simp only [q, if_true, if_false] at h1 ⊢ <;> omega
    · rcases List.mem_cons.mp hz with e | e
      · subst e
        show z ≤ maxL (if z > x then z else x) r
        split at h1 <;> rename_i q <;> simp only [q, if_true, if_false] at h1 ⊢ <;> omega
      · exact h2 z e
    · show maxL (if y > x then y else x) r = x ∨ maxL (if y > x then y else x) r ∈ y :: r
      rcases h3 with e | e
      · rw [e]
        split
        · exact .inr List.mem_cons_self
        · exact .inl rfl
      · exact .inr (List.mem_cons_of_mem _ e)
theorem minL_le : ∀ (r : List Int) (x : Int), minL x r ≤ x ∧ (∀ y ∈ r, minL x r ≤ y) ∧ (minL x r = x ∨ minL x r ∈ r)
  | [], x => ⟨Int.le_refl x, ⟨fun _ h => (List.not_mem_nil h).elim, Or.inl rfl⟩⟩
  | y :: r, x => by
    have ih := minL_le r (if y < x then y else x)
    show minL (if y < x then y else x) r ≤ x ∧ _
    obtain ⟨h1, h2, h3⟩ := ih
    refine ⟨?_, fun z hz => ?_, ?_⟩
    · split at h1 <;> rename_i q <;> simp only [q, if_true, if_false] at h1 ⊢ <;> omega
    · rcases List.mem_cons.mp hz with e | e
      · subst e
        show minL (if z < x then z else x) r ≤ z
        split at h1 <;> rename_i q <;> simp only [q, if_true, if_false] at h1 ⊢ <;> omega
      · exact h2 z e
    · show minL (if y < x then y else x) r = x ∨ minL (if y < x then y else x) r ∈ y :: r
      rcases h3 with e | e
      · rw [e]
        split
        · exact .inr List.mem_cons_self
        · exact .inl rfl
      · exact .inr (List.mem_cons_of_mem _ e)
theorem bo_max : BOk G k (.builtin "max") opMax := fun c X W hcm ok pins sh σ H xs us Q I rv q => by
  obtain ⟨F, mu, s, ds, hs, rd, p⟩ := q
  unfold opMax at p
  split at p
  · obtain ⟨v, w, rfl, r1, r2⟩ := rd.inv2
    cases r1; cases r2
    exact op_one (call_max2 (ok.calm hcm).1) I rv ⟨_, _, rfl, post_here hs p (.int _)⟩
  · obtain ⟨v, rfl, r⟩ := rd.inv1
    obtain ⟨xs, e1, p⟩ := ofO_bind p
    obtain ⟨ns, e2, p⟩ := ofO_bind p
    obtain ⟨a, vs, rfl, h1, h2⟩ := lstOf_ok hs r e1
    have ev := intsOf_rep h2 e2
    subst ev
    cases ns with
    | nil => exact p.elim
    | cons n r' =>
      refine op_one (cr_max (ok.calm hcm).1) I rv ⟨a, n :: r', rfl, SqL.of h1, by simp, fun m hm hy => ?_⟩
      have g := maxL_ge r' n
      have em : m = maxL n r' := by
        have h3 : m ≤ maxL n r' := by
          rcases List.mem_cons.mp hm with e | e
          · rw [e]; exact g.1
          · exact g.2.1 m e
        have h4 : maxL n r' ≤ m := by
          rcases g.2.2 with e | e
          · rw [e]; exact hy n List.mem_cons_self
          · exact hy _ (List.mem_cons_of_mem _ e)
        omega
      rw [em]
      exact post_here hs p (.int _)
  · exact p.elim
theorem bo_min : BOk G k (.builtin "min") opMin := fun c X W hcm ok pins sh σ H xs us Q I rv q => by
  obtain ⟨F, mu, s, ds, hs, rd, p⟩ := q
  unfold opMin at p
  split at p
  · obtain ⟨v, w, rfl, r1, r2⟩ := rd.inv2
    cases r1; cases r2
    exact op_one (call_min2 (ok.calm hcm).1) I rv ⟨_, _, rfl, post_here hs p (.int _)⟩
  · obtain ⟨v, rfl, r⟩ := rd.inv1
    obtain ⟨xs, e1, p⟩ := ofO_bind p
    obtain ⟨ns, e2, p⟩ := ofO_bind p
    obtain ⟨a, vs, rfl, h1, h2⟩ := lstOf_ok hs r e1
    have ev := intsOf_rep h2 e2
    subst ev
    cases ns with
    | nil => exact p.elim
    | cons n r' =>
      refine op_one (cr_min (ok.calm hcm).1) I rv ⟨a, n :: r', rfl, SqL.of h1, by simp, fun m hm hy => ?_⟩
      have g := minL_le r' n
      have em : m = minL n r' := by
        have h3 : minL n r' ≤ m := by
          rcases List.mem_cons.mp hm with e | e
          · rw [e]; exact g.1
          · exact g.2.1 m e
        have h4 : m ≤ minL n r' := by
          rcases g.2.2 with e | e
          · rw [e]; exact hy n List.mem_cons_self
          · exact hy _ (List.mem_cons_of_mem _ e)
        omega
      rw [em]
      exact post_here hs p (.int _)
  · exact p.elim
/-- a list's ints, bools -/
def opLI (h : List Int → D) : Op
  | [d], s => (lstOf d s).bind fun xs => (intsOf xs).map fun ns => (h ns, s)
  | _, _ => none
def opLB (h : List Bool → D) : Op
  | [d], s => (lstOf d s).bind fun xs => (blsOf xs).map fun ns => (h ns, s)
  | _, _ => none
theorem opLI_inv {h : List Int → D} {F : Hp} {mu : List Addr} {s : DS} {H : Hp} {ds : List D} {xs : List V} {E : XK} {Q : VK} (hs : SR G F mu s H) (rd : RepL G F mu ds xs) (p : Post G F mu H E (R.ofO (opLI h ds s)) Q) : ∃ a ns, xs = [.ref a] ∧ H a = some (.lst (ns.map V.int)) ∧ Post G F mu H E (.ok (h ns) s) Q := by
  unfold opLI at p
  split at p
  · obtain ⟨v, rfl, r⟩ := rd.inv1
    obtain ⟨ys, e1, p⟩ := ofO_bind p
    obtain ⟨ns, e2, p⟩ := ofO_map p
    obtain ⟨a, vs, rfl, h1, h2⟩ := lstOf_ok hs r e1
    have ev := intsOf_rep h2 e2
    subst ev
    exact ⟨a, ns, rfl, h1, p⟩
  · exact p.elim
theorem opLB_inv {h : List Bool → D} {F : Hp} {mu : List Addr} {s : DS} {H : Hp} {ds : List D} {xs : List V} {E : XK} {Q : VK} (hs : SR G F mu s H) (rd : RepL G F mu ds xs) (p : Post G F mu H E (R.ofO (opLB h ds s)) Q) : ∃ a ns, xs = [.ref a] ∧ H a = some (.lst (ns.map V.bl)) ∧ Post G F mu H E (.ok (h ns) s) Q := by
  unfold opLB at p
  split at p
  · obtain ⟨v, rfl, r⟩ := rd.inv1
    obtain ⟨ys, e1, p⟩ := ofO_bind p
    obtain ⟨ns, e2, p⟩ := ofO_map p
    obtain ⟨a, vs, rfl, h1, h2⟩ := lstOf_ok hs r e1
    have ev := blsOf_rep h2 e2
    subst ev
    exact ⟨a, ns, rfl, h1, p⟩
  · exact p.elim
def opSum : Op := opLI fun ns => .int ns.sum
def opAll : Op := opLB fun bs => .bl (bs.all id)
def opAny : Op := opLB fun bs => .bl (bs.any id)
theorem bo_sum : BOk G k (.builtin "sum") opSum := fun c X W hcm ok pins sh σ H xs us Q I rv q => by
  obtain ⟨F, mu, s, ds, hs, rd, p⟩ := q
  obtain ⟨a, ns, rfl, h1, p1⟩ := opLI_inv hs rd p
  exact op_one (cr_sum (ok.calm hcm).1) I rv ⟨a, ns, rfl, SqL.of h1, Post.here (G := G) hs (show Rep G _ _ _ _ from .int _) p1⟩
theorem bo_all : BOk G k (.builtin "all") opAll := fun c X W hcm ok pins sh σ H xs us Q I rv q => by
  obtain ⟨F, mu, s, ds, hs, rd, p⟩ := q
  obtain ⟨a, ns, rfl, h1, p1⟩ := opLB_inv hs rd p
  exact op_one (cr_all (ok.calm hcm).1) I rv ⟨a, ns, rfl, SqL.of h1, Post.here (G := G) hs (show Rep G _ _ _ _ from .bl _) p1⟩
theorem bo_any : BOk G k (.builtin "any") opAny := fun c X W hcm ok pins sh σ H xs us Q I rv q => by
  obtain ⟨F, mu, s, ds, hs, rd, p⟩ := q
  obtain ⟨a, ns, rfl, h1, p1⟩ := opLB_inv hs rd p
  exact op_one (cr_any (ok.calm hcm).1) I rv ⟨a, ns, rfl, SqL.of h1, Post.here (G := G) hs (show Rep G _ _ _ _ from .bl _) p1⟩
def opInt : Op
  | [.int i], s => some (.int i, s)
  | [.bl b], s => some (.int (if b then 1 else 0), s)
  | _, _ => none
theorem bo_int : BOk G k (.type "int") opInt := fun c X W hcm ok pins sh σ H xs us Q I rv q => by
  obtain ⟨F, mu, s, ds, hs, rd, p⟩ := q
  unfold opInt at p
  split at p
  · obtain ⟨v, rfl, r⟩ := rd.inv1
    cases r
    exact op_one call_int1 I rv (.inl ⟨_, rfl, post_here hs p (.int _)⟩)
  · obtain ⟨v, rfl, r⟩ := rd.inv1
    cases r
    exact op_one call_int1 I rv (.inr ⟨_, rfl, post_here hs p (.int _)⟩)
  · exact p.elim
/-- list(x); m: one that may change -/
def newLst (m : Bool) (xs : List D) (s : DS) : D × DS := if m = true then (D.ref s.length, s ++ [DO.lst xs]) else (D.lst xs, s)
def keyD : Key → D
  | .inl i => .int i
  | .inr x => .str x
def opList (m : Bool) : Op
  | [d], s => match seqOf d s with
    | some xs => some (newLst m xs s)
    | none => (dctOf d s).map fun p => newLst m (p.1.map keyD) s
  | _, _ => none
theorem Post.newL {F : Hp} {mu : List Addr} {s : DS} {H : Hp} {E : XK} {m : Bool} {xs : List D} {vs : List V} {Q : VK} (hs : SR G F mu s H) (r : RepL G F mu xs vs) (p : Post G F mu H E (R.ofO (some (newLst m xs s))) Q) : ∀ a, H a = none → Q (.ref a) (upd H a (.lst vs)) := by
  cases m with
  | true =>
    have p' : Post G F mu H E (.ok (D.ref s.length) (s ++ [DO.lst xs])) Q := p
    intro a ha
    have x : Ex F mu H F (mu ++ [a]) (upd H a (.lst vs)) := Ex.alloc hs ha
    exact p' _ _ _ _ x (hs.alloc ha (.lst (r.mono x.le))) (alloc_ref hs)
  | false =>
    have p' : Post G F mu H E (.ok (D.lst xs) s) Q := p
    exact Post.new hs p' fun a ha => .lst upd_same (r.mono (new_le hs ha))
theorem keys_rep {F : Hp} {mu : List Addr} : ∀ {ks : List Key} {vs : List V}, ks.length = vs.length → RepL G F mu (ks.map keyD) ((ks.zip vs).map fun kv => kV kv.1)
  | [], _, _ => by simp; exact .nil
  | _ :: _, [], h => by cases h
  | k :: ks, v :: vs, h => by
    rw [List.map_cons, List.zip_cons_cons, List.map_cons]
    refine .cons ?_ (keys_rep (Nat.succ.inj h))
    cases k with
    | inl i => exact .int i
    | inr x => exact .str x
theorem bo_list (m : Bool) : BOk G k (.type "list") (opList m) := fun c X W hcm ok pins sh σ H xs us Q I rv q => by
  obtain ⟨F, mu, s, ds, hs, rd, p⟩ := q
  unfold opList at p
  split at p
  · obtain ⟨v, rfl, r⟩ := rd.inv1
    split at p
    · rename_i xs es
      obtain ⟨a, vs, rfl, h1, h2⟩ := seqOf_ok hs r es
      rw [← ok.K] at h1
      exact op_one call_list_of I rv ⟨a, vs, rfl, h1, Post.newL hs h2 p⟩
    · obtain ⟨⟨ks, xs⟩, e, p⟩ := ofO_map p
      obtain ⟨a, vs, rfl, h1, h2, h3⟩ := dctOf_ok hs r e
      exact op_one (call_listD (ok.calm hcm).1) I rv ⟨a, _, rfl, h1, Post.newL hs (keys_rep h2) p⟩
  · exact p.elim
def opTuple : Op
  | [d], s => match tupOf d with
    | some _ => some (d, s)
    | none => (lstOf d s).map fun xs => (.tup xs, s)
  | _, _ => none
theorem bo_tuple : BOk G k (.type "tuple") opTuple := fun c X W hcm ok pins sh σ H xs us Q I rv q => by
  obtain ⟨F, mu, s, ds, hs, rd, p⟩ := q
  unfold opTuple at p
  split at p
  · obtain ⟨v, rfl, r⟩ := rd.inv1
    split at p
    · rename_i e
      obtain ⟨a, vs, rfl, h1, h2⟩ := tupOf_ok hs r e
      exact op_one call_tupF I rv ⟨a, vs, rfl, .inr ⟨by rw [ok.K]; exact h1, post_here hs p r⟩⟩
    · obtain ⟨xs, e, p⟩ := ofO_map p
      obtain ⟨a, vs, rfl, h1, h2⟩ := lstOf_ok hs r e
      exact op_one call_tupF I rv ⟨a, vs, rfl, .inl ⟨SqL.of h1, Post.newF hs h2 p⟩⟩
  · exact p.elim
def opStr : Op
  | [.int i], s => if i.natAbs.log2 < 1920 then some (.str (toString i), s) else none
  | _, _ => none
theorem bo_str : BOk G k (.type "str") opStr := fun c X W hcm ok pins sh σ H xs us Q I rv q => by
  obtain ⟨F, mu, s, ds, hs, rd, p⟩ := q
  unfold opStr at p
  split at p
  · obtain ⟨v, rfl, r⟩ := rd.inv1
    cases r
    split at p
    · rename_i z
      exact op_one call_str_int I rv ⟨_, rfl, z, post_here hs p (.str _)⟩
    · exact p.elim
  · exact p.elim
def opGcd : Op
  | [.int i, .int j], s => some (.int ((Nat.gcd i.natAbs j.natAbs : Nat) : Int), s)
  | _, _ => none
theorem bo_gcd : BOk G k (.builtin "math.gcd") opGcd := fun c X W hcm ok pins sh σ H xs us Q I rv q => by
  obtain ⟨F, mu, s, ds, hs, rd, p⟩ := q
  unfold opGcd at p
  split at p
  · obtain ⟨v, w, rfl, r1, r2⟩ := rd.inv2
    cases r1; cases r2
    exact op_one cr_gcd I rv ⟨_, _, rfl, post_here hs p (.int _)⟩
  · exact p.elim
end
end Pv

set_option Elab.async false
set_option linter.all false
set_option maxRecDepth 100000
/-! Ev8: isinstance, methods of built-in types. -/
namespace Pv
open PySem PySem.Spec PyProof.Rows L2
section
variable {G : Gl} {k : Nat} {c : Ct} {f g h : EV D} {a b e : Expr} {pos : Pos}
/-! ### isinstance -/
/-- a type: a built-in one, an own class -/
abbrev Ty := String ⊕ Str
def tyO : D → DS → Option Ty
  | .non, _ => some (.inl "NoneType")
  | .bl _, _ => some (.inl "bool")
  | .int _, _ => some (.inl "int")
  | .str _, _ => some (.inl "str")
  | .tup _, _ => some (.inl "tuple")
  | .ktup _, _ => some (.inl "tuple")
  | .lst _, _ => some (.inl "list")
  | .scr _, _ => some (.inl "list")
  | .dct _ _, _ => some (.inl "dict")
  | .obj c _ _, _ => some (.inr c)
  | .ref n, s => match s[n]? with
    | some (.lst _) => some (.inl "list")
    | some (.dct _ _) => some (.inl "dict")
    | some (.fdct _ _) => some (.inl "dict")
    | some (.ins c _ _) => some (.inr c)
    | _ => none
  | _, _ => none
def clsO : D → Option Ty
  | .ty n => some (.inl n)
  | .cls c => some (.inr c)
  | _ => none
def tyVal (G : Gl) : Ty → Option Value
  | .inl n => some (.type n)
  | .inr c => (G.ca c).map .ref
/-- the classes' table -/
abbrev Kit := Ty → Ty → Option Bool
structure KitOk (G : Gl) (kt : Kit) : Prop where
  one : ∀ a b r, kt a b = some r → ∀ u v, tyVal G a = some u → tyVal G b = some v → PySem.W.kitOne G.K u v = some r
  ins : ∀ (c : Str) (b : Ty) (r : Bool), kt (.inr c) b = some r → ∀ C, G.ca c = some C → Cls G.K C ∧ PySem.W.findIn G.K (.ref C) "__class__" = some (some (.builtin "object.__class__")) ∧
    PySem.W.specialIn G.K (.builtin "object.__class__") "__get__" = some (some (.builtin "getset_descriptor.__get__")) ∧ PySem.W.takesIn G.K (.builtin "object.__class__") = some true ∧ PySem.W.mroIn G.K C (.type "object") = some true
def kitL (kt : Kit) (t : Ty) : List D → Option Bool
  | [] => some false
  | d :: r => ((clsO d).bind (kt t)).bind fun b => (kitL kt t r).map fun z => b || z
def opIsi (kt : Kit) : Op
  | [d, .tup cs], s => (tyO d s).bind fun t => if cs = [] then none else (kitL kt t cs).map fun r => (.bl r, s)
  | [d, c], s => (tyO d s).bind fun t => ((clsO c).bind (kt t)).map fun r => (.bl r, s)
  | _, _ => none
theorem tyX_of {kt : Kit} (ko : KitOk G kt) {F : Hp} {mu : List Addr} {s : DS} {H : Hp} {d : D} {v : V} {t b : Ty} {r : Bool} (hs : SR G F mu s H) (rd : Rep G F mu d v) (h : tyO d s = some t) (hk : kt t b = some r) : ∃ u, tyVal G t = some u ∧ TyX G.K H v u := by
  cases rd with
  | non => cases h; exact ⟨_, rfl, .base .non⟩
  | bl x => cases h; exact ⟨_, rfl, .base (.bl x)⟩
  | int x => cases h; exact ⟨_, rfl, .base (.int x)⟩
  | str x => cases h; exact ⟨_, rfl, .base (.str x)⟩
  | tup q _ =>
    cases h
    refine ⟨_, rfl, ?_⟩
    rcases q with ⟨o, q, _⟩ | ⟨o, its, n, h1, h2, _⟩
    · exact .fTuple (hs.sub _ _ q)
    · exact .kTuple h1 h2
  | ktup q _ => cases h; exact ⟨_, rfl, .base (.tup (hs.sub _ _ q))⟩
  | lst q _ => cases h; exact ⟨_, rfl, .base (.lst (hs.sub _ _ q))⟩
  | scr q =>
    cases h
    refine ⟨_, rfl, ?_⟩
    rcases q with (q | ⟨o, q⟩) | ⟨o, its, n, h1, h2, _⟩
    · exact .base (.lst (hs.sub _ _ q))
    · exact .base (.frz (hs.sub _ _ q))
    · exact .kList h1 h2
  | dct q _ _ => cases h; exact ⟨_, rfl, .fDict (hs.sub _ _ q)⟩
  | obj q _ cc _ =>
    cases h
    obtain ⟨z1, z2, z3, z4, z5⟩ := ko.ins _ _ _ hk _ cc
    exact ⟨_, by show (G.ca _).map Value.ref = _; rw [cc]; rfl, .base (.ins (hs.sub _ _ q) z1 z2 z3 z4 z5)⟩
  | ref em =>
    simp only [tyO] at h
    split at h
    · rename_i en
      cases h
      obtain ⟨_, ho, h1, h2⟩ := hs.live _ _ _ en (fun z => nomatch z) em
      cases h2
      exact ⟨_, rfl, .base (.lst h1)⟩
    · rename_i en
      cases h
      obtain ⟨_, ho, h1, h2⟩ := hs.live _ _ _ en (fun z => nomatch z) em
      cases h2
      exact ⟨_, rfl, .base (.dK h1)⟩
    · rename_i en
      cases h
      obtain ⟨_, ho, h1, h2⟩ := hs.live _ _ _ en (fun z => nomatch z) em
      cases h2
      exact ⟨_, rfl, .fDict h1⟩
    · rename_i en
      cases h
      obtain ⟨_, ho, h1, h2⟩ := hs.live _ _ _ en (fun z => nomatch z) em
      cases h2 with
      | ins _ cc _ =>
      obtain ⟨z1, z2, z3, z4, z5⟩ := ko.ins _ _ _ hk _ cc
      exact ⟨_, by show (G.ca _).map Value.ref = _; rw [cc]; rfl, .base (.ins h1 z1 z2 z3 z4 z5)⟩
    · cases h
  | _ => cases h
theorem clsV_of {F : Hp} {mu : List Addr} {d : D} {v : V} {t : Ty} (rd : Rep G F mu d v) (h : clsO d = some t) : ∃ u, tyVal G t = some u ∧ ClsV v u := by
  cases rd with
  | ty n => cases h; exact ⟨_, rfl, .ty n⟩
  | cls e => cases h; exact ⟨_, by show (G.ca _).map Value.ref = _; rw [e]; rfl, .own _⟩
  | _ => cases h
theorem kitL_ok {kt : Kit} (ko : KitOk G kt) {t : Ty} {tv : Value} (ht : tyVal G t = some tv) {F : Hp} {mu : List Addr} : ∀ {cs : List D} {vs : List V} {r : Bool}, RepL G F mu cs vs → kitL kt t cs = some r → ∃ us, Paired ClsV vs us ∧ PySem.W.kitAny G.K tv us = some r
  | _, _, _, .nil, h => by cases h; exact ⟨[], .nil, rfl⟩
  | _, _, r, .cons (d := d) (ds := ds) rd tl, h => by
    unfold kitL at h
    obtain ⟨b, h1, h2⟩ := Option.bind_eq_some_iff.mp h
    obtain ⟨ct, e1, e2⟩ := Option.bind_eq_some_iff.mp h1
    obtain ⟨z, e3, e4⟩ := Option.map_eq_some_iff.mp h2
    obtain ⟨u, hu, cv⟩ := clsV_of rd e1
    obtain ⟨us, p, q⟩ := kitL_ok ko ht tl e3
    have k1 := ko.one _ _ _ e2 _ _ ht hu
    refine ⟨u :: us, .cons cv p, ?_⟩
    unfold PySem.W.kitAny
    rw [k1]
    cases b with
    | true => rw [← e4] <;> rfl
    | false => rw [← e4] <;> exact q
theorem kitL_some {kt : Kit} {t : Ty} : ∀ {cs : List D} {r : Bool}, cs ≠ [] → kitL kt t cs = some r → ∃ b r', kt t b = some r'
  | [], _, h, _ => absurd rfl h
  | d :: ds, r, _, h => by
    unfold kitL at h
    obtain ⟨b0, h1, _⟩ := Option.bind_eq_some_iff.mp h
    obtain ⟨ct, _, h3⟩ := Option.bind_eq_some_iff.mp h1
    exact ⟨ct, b0, h3⟩
theorem tl_eq {cs : List V} : ∀ {us ws : List Value}, Paired ClsV cs us → Vals cs ws → ws = us := fun p r => ClsV.all p r
theorem bo_isi {kt : Kit} (ko : KitOk G kt) : BOk G k (.builtin "isinstance") (opIsi kt) := fun c X W hcm ok pins sh σ H xs us Q I rv q => by
  obtain ⟨F, mu, s, ds, hs, rd, p⟩ := q
  unfold opIsi at p
  split at p
  · obtain ⟨v, w, rfl, r1, r2⟩ := rd.inv2
    obtain ⟨t, e1, p⟩ := ofO_bind p
    split at p
    · exact p.elim
    · rename_i hne
      obtain ⟨r, e2, p⟩ := ofO_map p
      obtain ⟨b, r', hk⟩ := kitL_some hne e2
      cases r2 with
      | tup q r2 =>
      rename_i tp vs
      obtain ⟨tv, ht, ty⟩ := tyX_of ko hs r1 e1 hk
      obtain ⟨us', pr, ka⟩ := kitL_ok ko ht r2 e2
      have pq := post_here hs p (show Rep G F mu (.bl r) _ from .bl r)
      rw [← ok.K] at ty ka
      exact op_one call_isiF I rv ⟨v, tp, vs, tv, us', r, rfl, by rw [ok.K]; exact hs.sqT q, pr, ty, ka, pq⟩
  · obtain ⟨v, w, rfl, r1, r2⟩ := rd.inv2
    obtain ⟨t, e1, p⟩ := ofO_bind p
    obtain ⟨r, e2, p⟩ := ofO_map p
    obtain ⟨ct, e3, e4⟩ := Option.bind_eq_some_iff.mp e2
    obtain ⟨tv, ht, ty⟩ := tyX_of ko hs r1 e1 e4
    obtain ⟨u, hu, cv⟩ := clsV_of r2 e3
    have k1 := ko.one _ _ _ e4 _ _ ht hu
    rw [← ok.K] at ty k1
    exact op_one call_isi I rv ⟨v, w, tv, u, r, rfl, cv, ty, k1, post_here hs p (.bl r)⟩
  · exact p.elim
/-! ### methods -/
/-- the type that has the method -/
def rcvT : D → DS → Option String
  | .str _, _ => some "str"
  | .tup _, _ => some "tuple"
  | .lst _, _ => some "list"
  | .dct _ _, _ => some "dict"
  | .ref n, s => match s[n]? with
    | some (.lst _) => some "list"
    | some (.dct _ _) => some "dict"
    | some (.fdct _ _) => some "dict"
    | _ => none
  | _, _ => none
abbrev Mt := D → Op
/-- a method's row: its op, sound -/
def rMtD (G : Gl) (op : Mt) : V → List V → Hp → VK → Prop := fun x vs H Q => ∃ F mu s d ds, SR G F mu s H ∧ Rep G F mu d x ∧ RepL G F mu ds vs ∧ Post G F mu H (fun _ _ _ => False) (R.ofO (op d ds s)) Q
structure MtOk (G : Gl) (k : Nat) (T : String) (name : Str) (op : Mt) : Prop where
  ex : ∃ id, PlainAttrs T ∧ Slot T name id ∧ typeOf (.builtin id) = pure (.type "method_descriptor") ∧ ∀ c X W, c.calm = true → XOk G k c X W → MtR X id (rMtD G op)
theorem rcv_is {F : Hp} {mu : List Addr} {s : DS} {H : Hp} {d : D} {x : V} {T : String} {c : Ct} {X : Cx} {W : WX} (ok : XOk G k c X W) {pins : List (Addr × Obj)} {σ : L2.St} {sh : Shared} {v : Value} (I : Inv X pins σ H sh) (hs : SR G F mu s H) (rd : Rep G F mu d x) (r : RelV x v) (h : rcvT d s = some T) :
    sh.TypeIs v T ∧ ∀ a, v = .ref a → ∃ ob, sh.heap.get? a = some ob ∧ ob.dict = none := by
  have lst : ∀ {a : Addr} {vs : List V}, H a = some (.lst vs) → x = .ref a → T = "list" → sh.TypeIs v T ∧ ∀ a, v = .ref a → ∃ ob, sh.heap.get? a = some ob ∧ ob.dict = none := fun {a vs} h1 h2 h3 => by
    subst h2 h3
    exact tyV_is I r (.inl ⟨rfl, _, SqL.of h1⟩)
  have dct : ∀ {a : Addr} {vs : List (Key × V)}, H a = some (.dK vs) → x = .ref a → T = "dict" → sh.TypeIs v T ∧ ∀ a, v = .ref a → ∃ ob, sh.heap.get? a = some ob ∧ ob.dict = none := fun {a vs} h1 h2 h3 => by
    subst h2 h3
    exact tyV_is I r (.inr (.inr (.inl ⟨rfl, .inl ⟨_, h1⟩⟩)))
  have fdct : ∀ {a : Addr} {o : Obj} {vs : List (Key × V)}, H a = some (.frz o (.dK vs)) → x = .ref a → T = "dict" → sh.TypeIs v T ∧ ∀ a, v = .ref a → ∃ ob, sh.heap.get? a = some ob ∧ ob.dict = none := fun {a o vs} h1 h2 h3 => by
    subst h2 h3
    obtain rfl : v = Value.ref a := r
    obtain ⟨_, hgd, hx, es, ep, vs, hdt, hsz, kv, hm⟩ := I.frzK h1
    exact ⟨hm.dictOf.typeIs, fun b e => by cases e; exact ⟨o, hgd, hx.2.1⟩⟩
  cases rd with
  | str z => cases h; exact tyV_is I r (show tyV X.K "str" (.str z) H from rfl)
  | tup q _ =>
    cases h
    obtain rfl : v = Value.ref _ := r
    have h1 := hs.sqT q
    rw [← ok.K] at h1
    obtain ⟨its, rv, ht, hz⟩ := I.tuple h1
    refine ⟨ht.typeIs, fun a e => ?_⟩
    cases e
    rcases q with ⟨o, q, hd⟩ | ⟨o, its, n, h1, h2, h3, h4, h5, hd⟩
    · exact ⟨o, (I.hok _ _ (hs.sub _ _ q)).1, hd⟩
    · exact ⟨o, I.kIn _ _ (by rw [ok.K]; exact h1), hd⟩
  | lst q _ => cases h; exact lst (hs.sub _ _ q) rfl rfl
  | dct q _ _ => cases h; exact fdct (hs.sub _ _ q) rfl rfl
  | ref em =>
    simp only [rcvT] at h
    split at h
    · rename_i en
      cases h
      obtain ⟨_, ho, h1, h2⟩ := hs.live _ _ _ en (fun z => nomatch z) em
      cases h2
      exact lst h1 rfl rfl
    · rename_i en
      cases h
      obtain ⟨_, ho, h1, h2⟩ := hs.live _ _ _ en (fun z => nomatch z) em
      cases h2
      exact dct h1 rfl rfl
    · rename_i en
      cases h
      obtain ⟨_, ho, h1, h2⟩ := hs.live _ _ _ en (fun z => nomatch z) em
      cases h2
      exact fdct h1 rfl rfl
    · cases h
  | _ => cases h
end
end Pv

set_option Elab.async false
set_option linter.all false
set_option maxRecDepth 100000
/-! Ev9: methods of built-in types. -/
namespace Pv
open PySem PySem.Spec PyProof.Rows L2
/-- the first place of an equal one -/
def idxF (x : D) : List D → Option Nat
  | [] => none
  | y :: r => if eqF y x = true then some 0 else (idxF x r).map (· + 1)
theorem idxF_ok {x : D} : ∀ {ys : List D} {j : Nat}, idxF x ys = some j → ∃ z, ys[j]? = some z ∧ eqF z x = true ∧ ∀ (m : Nat) (z' : D), m < j → ys[m]? = some z' → eqF z' x = false
  | [], _, h => by cases h
  | y :: r, j, h => by
    unfold idxF at h
    split at h
    · rename_i e
      cases h
      exact ⟨y, rfl, e, fun m _ hm => by omega⟩
    · rename_i e
      obtain ⟨i, h1, h2⟩ := Option.map_eq_some_iff.mp h
      subst h2
      obtain ⟨z, z1, z2, z3⟩ := idxF_ok h1
      refine ⟨z, z1, z2, fun m z' hm hz => ?_⟩
      cases m with
      | zero =>
        cases hz
        exact Bool.eq_false_iff.mpr e
      | succ m => exact z3 m z' (by omega) hz
section
variable {X : Cx}
/-- t.index(x) of flat items -/
theorem mt_tupIx : MtR X "tuple.index" (fun x xs H Q => ∃ (p : Addr) (ys : List V) (y z : V) (j : Nat), x = .ref p ∧ xs = [y] ∧ SqT X.K H p ys ∧ flatV y = true ∧ ys.all flatV = true ∧ ys[j]? = some z ∧ eqV z y = true ∧
    (∀ (m : Nat) (z' : V), m < j → ys[m]? = some z' → eqV z' y = false) ∧ Q (.int (j : Nat)) H) := by
  intro pins s σ H x xs v us Q I rx rxs h
  obtain ⟨p, ys, y, z, j, rfl, rfl, hq, fy, fys, hz, hzj, hno, q⟩ := h
  cases rx
  obtain ⟨uy, rfl, ry⟩ := vals1 rxs
  obtain ⟨its, rv, pl, hlen⟩ := I.tuple hq
  obtain ⟨⟨cls, dd, dt, sl⟩, ho, hc, n, hd⟩ := pl
  simp only at hc hd
  subst hc hd
  obtain ⟨u, hu, ru⟩ := rv.get hz
  obtain ⟨hjl, hje⟩ := List.getElem?_eq_some_iff.mp hu
  have hvl := rv.length
  have hj : j < its.toArray.size := by simpa using hjl
  have e0 : its.toArray[j] = u := by simpa using hje
  have no2 : ∀ (m : Nat) (hm : m < its.toArray.size), m < j → eqU y its.toArray[m] = false := fun m hm hmj => by
    have hml : m < its.length := by simpa using hm
    have hmy : m < ys.length := by omega
    have hy' : ys[m]? = some ys[m] := List.getElem?_eq_getElem hmy
    obtain ⟨u2, hu2, ru2⟩ := rv.get hy'
    obtain ⟨_, hme⟩ := List.getElem?_eq_some_iff.mp hu2
    have e1 : its.toArray[m] = u2 := by simpa using hme
    rw [e1, eqU_of ru2 (flat_at fys hy')]
    exact hno m _ hmj hy'
  exact call_meets PySem.F.slot_tuple_index ⟨_, ho, rfl⟩ PySem.F.entry_tuple_index (PySem.F.args_tuple_index_2 _ _) (TI.tuple_indexAt p its.toArray n dd sl uy (eqU y) j hj (by rw [e0, eqU_of ru (flat_at fys hz)]; exact hzj) no2)
    ⟨ho, fun w hw => mem_eqAt ry fy rv fys w (by simpa using hw), ⟨.int (j : Nat), H, I.tok _, ⟨_, rfl⟩, q⟩⟩
end
section
variable {G : Gl} {k : Nat} {c : Ct} {f g h : EV D} {a b e : Expr} {pos : Pos}
/-- the changing list at n -/
def refL (d : D) (s : DS) : Option (Nat × List D) := match d with
  | .ref n => match s[n]? with
    | some (.lst xs) => some (n, xs)
    | _ => none
  | _ => none
theorem refL_ok {F : Hp} {mu : List Addr} {s : DS} {H : Hp} {d : D} {v : V} {n : Nat} {xs : List D} (hs : SR G F mu s H) (r : Rep G F mu d v) (h : refL d s = some (n, xs)) : ∃ a vs, v = .ref a ∧ H a = some (.lst vs) ∧ RepL G F mu xs vs ∧
    ∀ ys ws, RepL G F mu ys ws → Ex F mu H F mu (upd H a (.lst ws)) ∧ SR G F mu (s.set n (.lst ys)) (upd H a (.lst ws)) := by
  unfold refL at h
  split at h
  · split at h
    · rename_i en
      cases h
      cases r with
      | ref em =>
      obtain ⟨_, ho, h1, h2⟩ := hs.live _ _ _ en (fun z => nomatch z) em
      cases h2 with
      | lst r => exact ⟨_, _, rfl, h1, r, fun ys ws q => ⟨Ex.write em (fun o u z => by rw [h1] at z; cases z), hs.write en (fun z => nomatch z) em (.lst q)⟩⟩
    · cases h
  · cases h
def mtAppend : Mt := fun d vs s => match vs with
  | [y] => (refL d s).bind fun p => if p.2.length < sizeLine then some (.non, s.set p.1 (.lst (p.2 ++ [y]))) else none
  | _ => none
theorem mto_append : MtOk G k "list" "append" mtAppend := ⟨_, PySem.F.plainAttrs_list, PySem.F.slot_list_append, PySem.F.type_list_append, fun c X W hcm ok pins sh σ H x xs v us Q I rx rxs q => by
  obtain ⟨F, mu, s, d, ds, hs, rd, rds, p⟩ := q
  unfold mtAppend at p
  split at p
  · obtain ⟨w, rfl, r1⟩ := rds.inv1
    obtain ⟨⟨n, ys⟩, e, p⟩ := ofO_bind p
    obtain ⟨a, vs, rfl, h1, h2, h3⟩ := refL_ok hs rd e
    split at p
    · rename_i z
      obtain ⟨x1, hs1⟩ := h3 _ _ (h2.append (.cons r1 .nil))
      exact mt_append pins sh σ H _ _ v us Q I rx rxs ⟨a, vs, w, rfl, rfl, h1, by rw [repl_len h2]; exact z, p _ _ _ _ x1 hs1 (show Rep G F mu .non .non from .non)⟩
    · exact p.elim
  · exact p.elim⟩
def mtPop : Mt := fun d vs s => match vs with
  | [] => (refL d s).bind fun p => (p.2[p.2.length - 1]?).map fun y => (y, s.set p.1 (.lst p.2.dropLast))
  | [.int i] => (refL d s).bind fun p => if -(2 ^ 63) ≤ i ∧ i < 2 ^ 63 then (seqIndex? i p.2.length).bind fun k => (p.2[k]?).map fun y => (y, s.set p.1 (.lst (p.2.eraseIdx k))) else none
  | _ => none
theorem RepL.dropLast {F : Hp} {mu : List Addr} : ∀ {xs : List D} {vs : List V}, RepL G F mu xs vs → RepL G F mu xs.dropLast vs.dropLast := fun {xs vs} r => by
  rw [List.dropLast_eq_take, List.dropLast_eq_take, r.length]
  exact r.take _
theorem mto_pop : MtOk G k "list" "pop" mtPop := ⟨_, PySem.F.plainAttrs_list, PySem.F.slot_list_pop, PySem.F.type_list_pop, fun c X W hcm ok pins sh σ H x xs v us Q I rx rxs q => by
  obtain ⟨F, mu, s, d, ds, hs, rd, rds, p⟩ := q
  unfold mtPop at p
  split at p
  · cases rds
    obtain ⟨⟨n, ys⟩, e, p⟩ := ofO_bind p
    obtain ⟨a, vs, rfl, h1, h2, h3⟩ := refL_ok hs rd e
    obtain ⟨y, ey, p⟩ := ofO_map p
    obtain ⟨w, ew, rw'⟩ := h2.get ey
    obtain ⟨x1, hs1⟩ := h3 _ _ h2.dropLast
    exact mt_pop pins sh σ H _ _ v us Q I rx rxs ⟨a, vs, w, rfl, rfl, h1, by rw [← h2.length]; exact ew, p _ _ _ _ x1 hs1 (show Rep G F mu y w from rw')⟩
  · obtain ⟨iv, rfl, r1⟩ := rds.inv1
    cases r1
    obtain ⟨⟨n, ys⟩, e, p⟩ := ofO_bind p
    obtain ⟨a, vs, rfl, h1, h2, h3⟩ := refL_ok hs rd e
    split at p
    · rename_i z
      obtain ⟨k, ek, p⟩ := ofO_bind p
      obtain ⟨y, ey, p⟩ := ofO_map p
      obtain ⟨w, ew, rw'⟩ := h2.get ey
      obtain ⟨x1, hs1⟩ := h3 _ _ (h2.eraseIdx k)
      exact mt_popAt pins sh σ H _ _ v us Q I rx rxs ⟨a, vs, _, k, w, rfl, rfl, h1, z.1, z.2, by rw [← h2.length]; exact ek, ew, p _ _ _ _ x1 hs1 (show Rep G F mu y w from rw')⟩
    · exact p.elim
  · exact p.elim⟩
/-- xs.extend(ys), ys another list -/
def mtExtend : Mt := fun d vs s => match vs with
  | [e] => (refL d s).bind fun p => (lstOf e s).bind fun zs => if p.2.length + zs.length ≤ sizeLine then some (.non, s.set p.1 (.lst (p.2 ++ zs))) else none
  | _ => none
theorem mto_extend : MtOk G k "list" "extend" mtExtend := ⟨_, PySem.F.plainAttrs_list, PySem.F.slot_list_extend, PySem.F.type_list_extend, fun c X W hcm ok pins sh σ H x xs v us Q I rx rxs q => by
  obtain ⟨F, mu, s, d, ds, hs, rd, rds, p⟩ := q
  unfold mtExtend at p
  split at p
  · obtain ⟨w, rfl, r1⟩ := rds.inv1
    obtain ⟨⟨n, ys⟩, e, p⟩ := ofO_bind p
    obtain ⟨zs, e2, p⟩ := ofO_bind p
    obtain ⟨a, vs, rfl, h1, h2, h3⟩ := refL_ok hs rd e
    obtain ⟨b, ws, rfl, h4, h5⟩ := lstOf_ok hs r1 e2
    split at p
    · rename_i z
      obtain ⟨x1, hs1⟩ := h3 _ _ (h2.append h5)
      exact mt_extend pins sh σ H _ _ v us Q I rx rxs ⟨a, b, vs, ws, rfl, rfl, h1, h4, by rw [repl_len h2, repl_len h5]; exact z, p _ _ _ _ x1 hs1 (show Rep G F mu .non .non from .non)⟩
    · exact p.elim
  · exact p.elim⟩
def mtIndex : Mt := fun d vs s => match vs with
  | [y] => (lstOf d s).bind fun xs => if flatD y = true ∧ xs.all flatD = true then (idxF y xs).map fun (j : Nat) => (.int j, s) else none
  | _ => none
theorem idx_rep {F : Hp} {mu : List Addr} {y : D} {w : V} {xs : List D} {vs : List V} {j : Nat} (r1 : Rep G F mu y w) (h2 : RepL G F mu xs vs) (f1 : flatD y = true) (f2 : xs.all flatD = true) (h : idxF y xs = some j) :
    ∃ z, vs[j]? = some z ∧ eqV z w = true ∧ ∀ (m : Nat) (z' : V), m < j → vs[m]? = some z' → eqV z' w = false := by
  obtain ⟨z, z1, z2, z3⟩ := idxF_ok h
  obtain ⟨u, u1, u2⟩ := h2.get z1
  have fz : ∀ {m : Nat} {d : D}, xs[m]? = some d → flatD d = true := fun e => List.all_eq_true.mp f2 _ (List.mem_of_getElem? e)
  refine ⟨u, u1, by rw [eqF_rep u2 r1 (fz z1) f1]; exact z2, fun m z' hm hz => ?_⟩
  have hl : m < xs.length := by rw [h2.length]; exact (List.getElem?_eq_some_iff.mp hz).1
  obtain ⟨u', u3, u4⟩ := h2.get (List.getElem?_eq_getElem hl)
  rw [u3] at hz
  cases hz
  rw [eqF_rep u4 r1 (fz (List.getElem?_eq_getElem hl)) f1]
  exact z3 m _ hm (List.getElem?_eq_getElem hl)
theorem mto_index : MtOk G k "list" "index" mtIndex := ⟨_, PySem.F.plainAttrs_list, PySem.F.slot_list_index, PySem.F.type_list_index, fun c X W hcm ok pins sh σ H x xs v us Q I rx rxs q => by
  obtain ⟨F, mu, s, d, ds, hs, rd, rds, p⟩ := q
  unfold mtIndex at p
  split at p
  · obtain ⟨w, rfl, r1⟩ := rds.inv1
    obtain ⟨ys, e, p⟩ := ofO_bind p
    obtain ⟨a, vs, rfl, h1, h2⟩ := lstOf_ok hs rd e
    split at p
    · rename_i z
      obtain ⟨j, ej, p⟩ := ofO_map p
      obtain ⟨u, u1, u2, u3⟩ := idx_rep r1 h2 z.1 z.2 ej
      exact L2.mt_index pins sh σ H _ _ v us Q I rx rxs ⟨a, vs, w, j, u, rfl, rfl, SqL.of h1, flat_rep r1 z.1, flat_all h2 z.2, u1, u2, u3, post_here hs p (.int _)⟩
    · exact p.elim
  · exact p.elim⟩
def mtTIndex : Mt := fun d vs s => match vs with
  | [y] => (tupOf d).bind fun xs => if flatD y = true ∧ xs.all flatD = true then (idxF y xs).map fun (j : Nat) => (.int j, s) else none
  | _ => none
theorem mto_tindex : MtOk G k "tuple" "index" mtTIndex := ⟨_, PySem.F.plainAttrs_tuple, PySem.F.slot_tuple_index, PySem.F.type_tuple_index, fun c X W hcm ok pins sh σ H x xs v us Q I rx rxs q => by
  obtain ⟨F, mu, s, d, ds, hs, rd, rds, p⟩ := q
  unfold mtTIndex at p
  split at p
  · obtain ⟨w, rfl, r1⟩ := rds.inv1
    obtain ⟨ys, e, p⟩ := ofO_bind p
    obtain ⟨a, vs, rfl, h1, h2⟩ := tupOf_ok hs rd e
    rw [← ok.K] at h1
    split at p
    · rename_i z
      obtain ⟨j, ej, p⟩ := ofO_map p
      obtain ⟨u, u1, u2, u3⟩ := idx_rep r1 h2 z.1 z.2 ej
      exact mt_tupIx pins sh σ H _ _ v us Q I rx rxs ⟨a, vs, w, u, j, rfl, rfl, h1, flat_rep r1 z.1, flat_all h2 z.2, u1, u2, u3, post_here hs p (.int _)⟩
    · exact p.elim
  · exact p.elim⟩
def mtGet : Mt := fun d vs s => match vs with
  | [y] => (dctOf d s).bind fun p => (keyOf y).map fun k => ((lookK p.1 p.2 k).getD .non, s)
  | [y, z] => (dctOf d s).bind fun p => (keyOf y).map fun k => ((lookK p.1 p.2 k).getD z, s)
  | _ => none
theorem get_rep {F : Hp} {mu : List Addr} {ks : List Key} {ds : List D} {vs : List V} {kk : Key} {z : D} {w : V} (r : RepL G F mu ds vs) (h : ks.length = vs.length) (rz : Rep G F mu z w) : Rep G F mu ((lookK ks ds kk).getD z) ((valV (ks.zip vs) kk).getD w) := by
  have q := look_rep kk r h
  cases e : lookK ks ds kk with
  | none => rw [q.2 e]; exact rz
  | some d =>
    obtain ⟨v, h1, h2⟩ := q.1 d e
    rw [h1]; exact h2
theorem mto_get : MtOk G k "dict" "get" mtGet := ⟨_, PySem.F.plainAttrs_dict, PySem.F.slot_dict_get, PySem.F.type_dict_get, fun c X W hcm ok pins sh σ H x xs v us Q I rx rxs q => by
  obtain ⟨F, mu, s, d, ds, hs, rd, rds, p⟩ := q
  have hA : X.A.units + 1 < cLine := by have := ok.units; omega
  unfold mtGet at p
  split at p
  · obtain ⟨w, rfl, r1⟩ := rds.inv1
    obtain ⟨⟨ks, ys⟩, e, p⟩ := ofO_bind p
    obtain ⟨a, vs, rfl, h1, h2, h3⟩ := dctOf_ok hs rd e
    obtain ⟨kk, ek, p⟩ := ofO_map p
    have ew := key_rep r1 ek
    subst ew
    obtain ⟨u, rfl, ru⟩ := vals1 rxs
    obtain rfl : v = Value.ref a := rx
    exact d_get1 hA I (.inl ⟨_, kk, h1, rfl, rfl⟩) ru fun w' s' I' rw' => ⟨_, H, I', rw', post_here hs p (get_rep h3 h2 .non)⟩
  · obtain ⟨w, w2, rfl, r1, r2⟩ := rds.inv2
    obtain ⟨⟨ks, ys⟩, e, p⟩ := ofO_bind p
    obtain ⟨a, vs, rfl, h1, h2, h3⟩ := dctOf_ok hs rd e
    obtain ⟨kk, ek, p⟩ := ofO_map p
    have ew := key_rep r1 ek
    subst ew
    obtain ⟨u, u2, rfl, ru, ru2⟩ := vals2 rxs
    obtain rfl : v = Value.ref a := rx
    exact d_get2 hA I (.inl ⟨_, kk, h1, rfl, rfl⟩) ru ru2 fun w' s' I' rw' => ⟨_, H, I', rw', post_here hs p (get_rep h3 h2 r2)⟩
  · exact p.elim⟩
/-- the methods' table -/
abbrev MTab := String → Str → Option Mt
def MTabOk (G : Gl) (k : Nat) (mt : MTab) : Prop := ∀ T n op, mt T n = some op → MtOk G k T n op
def eMeth (mt : MTab) (n : Str) (f : EV D) (fs : EV (List D)) : EV D := fun env s => (f env s).bind fun d s1 => match (rcvT d s1).bind fun T => mt T n with
  | some op => (fs env s1).bind fun xs s2 => R.ofO (op d xs s2)
  | none => .bad
def attrOk : Expr → Bool
  | .Call (.Name ..) [] [] _ => false
  | _ => true
theorem attr_base2 {e : Expr} {f : Str} {env : Env} {w : Sem Value} (h : attrOk e = true) : attributeBase e f env w = w := by
  unfold attributeBase
  split
  · cases h
  · rfl
theorem few_ok {es : List Expr} {env : Env} {pos : Pos} (hs : noStars es = true) (hl : es.length < 29) : ((backTo pos (starEach es env)).all (fun x => !x.1) && (backToKw pos (keywordEach [] env)).all (fun x => x.1.isSome) && decide (es.length + ([] : List Keyword).length + (if ([] : List Keyword).isEmpty then 0 else 1) < 30)) = true := by
  have h1 : ∀ {es : List Expr}, noStars es = true → (backTo pos (starEach es env)).all (fun x => !x.1) = true := by
    intro es
    induction es with
    | nil => intro _; rfl
    | cons e es ih =>
      intro h
      have h2 : notStar e = true ∧ noStars es = true := by simpa [noStars] using h
      rw [starEach_cons h2.1]
      show (true && (backTo pos (starEach es env)).all (fun x => !x.1)) = true
      rw [ih h2.2] <;> rfl
  rw [h1 hs, Bool.true_and]
  show (true && decide (es.length + 0 + 0 < 30)) = true
  rw [Bool.true_and]
  exact decide_eq_true (by omega)
def rcvT' (G : Gl) (T : String) (x : V) (H : Hp) : Prop := ∃ F mu s d, SR G F mu s H ∧ Rep G F mu d x ∧ rcvT d s = some T
theorem pe_dmeth {mt : MTab} {n : Str} {fs : EV (List D)} {es : List Expr} {apos cpos : Pos} (hcm : c.calm = true) (hm : MTabOk G k mt) (ha : PEd G k c f a) (hes : PAd G k c fs (e :: es)) (hn : attrOk a = true) (hs : noStars (e :: es) = true) (hl : (e :: es).length < 29) (hline : (apos.endLine == cpos.line) = true) :
    PEd G k c (eMeth mt n f fs) (.Call (.Attribute a n apos) (e :: es) [] cpos) := fun X W ok => by
  refine ⟨fun pins sh σ H Q I q => ?_⟩
  obtain ⟨F, mu, env, s, hs0, he, p⟩ := q
  have hrun : tD G f W σ H fun x H1 => ∃ F1 mu1 s1 d T op, SR G F1 mu1 s1 H1 ∧ ER G F1 mu1 env σ ∧ Rep G F1 mu1 d x ∧ rcvT d s1 = some T ∧ mt T n = some op ∧ Post G F1 mu1 H1 (WE' W σ) ((fs env s1).bind fun xs s2 => R.ofO (op d xs s2)) Q := by
    refine ⟨F, mu, env, s, hs0, he, Post.bind hs0 p fun F1 mu1 H1 d v s1 x1 hs1 r1 p1 => ?_⟩
    try dsimp only at p1
    split at p1
    · rename_i op eo
      obtain ⟨T, e1, e2⟩ := Option.bind_eq_some_iff.mp eo
      exact ⟨F1, mu1, s1, d, T, op, hs1, he.mono x1.le, r1, e1, e2, p1⟩
    · exact p1.elim
  refine wpAny_Call_method_late (attr_base2 hn) (few_ok hs hl) hline rfl (thn ((ha X W ok).run pins sh σ H _ I hrun) fun u sh1 ⟨x, H1, I1, r1, z⟩ => ?_)
  obtain ⟨F1, mu1, s1, d, T, op, hs1, he1, rd, e1, e2, p1⟩ := z
  obtain ⟨id, pa, slot, hty, hop⟩ := (hm T n op e2).ex
  obtain ⟨t1, t2⟩ := rcv_is ok I1 hs1 rd r1 e1
  refine ⟨T, id, pa, slot, hty, t1, t2, ?_⟩
  have hA : tD G fs W σ H1 fun xs H2 => rMtD G op x xs H2 Q := by
    refine ⟨F1, mu1, env, s1, hs1, he1, Post.bind hs1 p1 fun F2 mu2 H2 ds vs s2 x2 hs2 r2 p2 => ?_⟩
    exact ⟨F2, mu2, s2, d, ds, hs2, rd.mono x2.le, r2, Post.ofO p2⟩
  have hB := (hes X W ok).run cpos pins sh1 σ H1 _ I1 hA
  have h2 : notStar e = true ∧ noStars es = true := by simpa [noStars] using hs
  rw [starEach_cons h2.1] at hB ⊢
  refine Calls.callWith_builtin (by show (false || (backTo cpos (starEach es X.env)).any (·.1)) = false; rw [backTo_plain h2.2] <;> rfl) (Calls.evalArgs_plain ?_)
  exact thn hB fun us sh2 ⟨vs, H2, I2, r2, q2⟩ => hop c X W hcm ok pins sh2 σ H2 x vs u us Q I2 r1 r2 q2
/-- a method with no argument -/
theorem pe_dmeth0 {mt : MTab} {n : Str} {apos cpos : Pos} (hcm : c.calm = true) (hm : MTabOk G k mt) (ha : PEd G k c f a) (hn : attrOk a = true) (hline : (apos.endLine == cpos.line) = true) :
    PEd G k c (eMeth mt n f aNil) (.Call (.Attribute a n apos) [] [] cpos) := fun X W ok => by
  refine ⟨fun pins sh σ H Q I q => ?_⟩
  obtain ⟨F, mu, env, s, hs0, he, p⟩ := q
  have hrun : tD G f W σ H fun x H1 => ∃ T op, rcvT' G T x H1 ∧ MtOk G k T n op ∧ rMtD G op x [] H1 Q := by
    refine ⟨F, mu, env, s, hs0, he, Post.bind hs0 p fun F1 mu1 H1 d v s1 x1 hs1 r1 p1 => ?_⟩
    try dsimp only at p1
    split at p1
    · rename_i op eo
      obtain ⟨T, e1, e2⟩ := Option.bind_eq_some_iff.mp eo
      exact ⟨T, op, ⟨F1, mu1, s1, d, hs1, r1, e1⟩, hm _ _ _ e2, F1, mu1, s1, d, [], hs1, r1, .nil, Post.ofO p1⟩
    · exact p1.elim
  refine wpAny_Call_method_late (attr_base2 hn) (few_ok (es := []) rfl (by decide)) hline rfl (thn ((ha X W ok).run pins sh σ H _ I hrun) fun u sh1 ⟨x, H1, I1, r1, z⟩ => ?_)
  obtain ⟨T, op, ⟨F1, mu1, s1, d, hs1, rd, e1⟩, hmt, hq⟩ := z
  obtain ⟨id, pa, slot, hty, hop⟩ := hmt.ex
  obtain ⟨t1, t2⟩ := rcv_is ok I1 hs1 rd r1 e1
  refine ⟨T, id, pa, slot, hty, t1, t2, ?_⟩
  exact Calls.callWith_builtin rfl (PySem.evalArgs_none (hop c X W hcm ok pins sh1 σ H1 x [] u [] Q I1 r1 .nil hq))
end
end Pv

set_option Elab.async false
set_option linter.all false
set_option maxRecDepth 100000
/-! Ev10: attribute stores, own calls, making instances, def bodies. -/
namespace Pv
open PySem PySem.Spec PyProof.Rows L2
/-! ### the attribute store -/
def putNs : List Str → Str → List Str
  | [], n => [n]
  | g :: r, n => if g = n then g :: r else g :: putNs r n
def putNv {α : Type} : List Str → List α → Str → α → List α
  | [], _, _, x => [x]
  | g :: r, v :: vs, n, x => if g = n then x :: vs else v :: putNv r vs n x
  | _ :: _, [], _, _ => []
theorem putF_zip {n : Str} {y : V} : ∀ {ns : List Str} {vs : List V}, ns.length = vs.length → putF n y (ns.zip vs) = (putNs ns n).zip (putNv ns vs n y) ∧ (putNs ns n).length = (putNv ns vs n y).length
  | [], [], _ => ⟨rfl, rfl⟩
  | g :: r, v :: vs, h => by
    obtain ⟨i1, i2⟩ := putF_zip (n := n) (y := y) (ns := r) (vs := vs) (by simpa using h)
    show (if g = n then (g, y) :: r.zip vs else (g, v) :: putF n y (r.zip vs)) = _ ∧ _
    unfold putNs putNv
    by_cases z : g = n
    · rw [if_pos z, if_pos z, if_pos z]
      exact ⟨rfl, h⟩
    · rw [if_neg z, if_neg z, if_neg z, i1]
      exact ⟨rfl, congrArg (· + 1) i2⟩
section
variable {G : Gl} {k : Nat} {c : Ct} {f g h : EV D} {a b e : Expr} {pos : Pos}
theorem putNv_rep {F : Hp} {mu : List Addr} {n : Str} {x : D} {y : V} (r : Rep G F mu x y) : ∀ {ns : List Str} {ds : List D} {vs : List V}, RepL G F mu ds vs → RepL G F mu (putNv ns ds n x) (putNv ns vs n y)
  | [], _, _, _ => .cons r .nil
  | _ :: _, _, _, .nil => .nil
  | g :: ns, _, _, .cons r0 t => by
    unfold putNv
    by_cases z : g = n
    · rw [if_pos z, if_pos z]; exact .cons r t
    · rw [if_neg z, if_neg z]; exact .cons r0 (putNv_rep r t)
def sFldD (fl : Str → Bool) (n : Str) (fo fv : EV D) : SV := fun env s => (fv env s).toS env fun y s1 => (fo env s1).toS env fun d s2 => match d with
  | .ref m => match s2[m]? with
    | some (.ins cn ns vs) => if fl cn = true ∧ ns.length < 1000 then .nx env (s2.set m (.ins cn (putNs ns n) (putNv ns vs n y))) else .bad
    | _ => .bad
  | _ => .bad
theorem ps_dfldset {fl : Str → Bool} {n : Str} {pos' : Pos} (hf : ∀ cn, fl cn = true → FldOk G cn n) (ha : PEd G k c f a) (hv : PEd G k c g e) (hsw : ∀ env : Env, env.scope = c.sc → swapsWith e (some (.Attribute a n pos')) pos.line env = pure false) : PSd G k c (sFldD fl n f g) (.Assign [.Attribute a n pos'] e pos) := fun X W ok => by
  refine PS.by (ps_fld (ha X W ok) (hv X W ok) (hsw X.env ok.sc)) fun Dn σ H q => ?_
  obtain ⟨F, mu, env, s, hs, he, p⟩ := q
  refine ⟨F, mu, env, s, hs, he, Post.toS hs he p fun F1 mu1 H1 y v s1 x1 hs1 r1 he1 p1 => ?_⟩
  refine ⟨F1, mu1, env, s1, hs1, he1, Post.toS hs1 he1 p1 fun F2 mu2 H2 d u s2 x2 hs2 r2 he2 p2 => ?_⟩
  have r1' : Rep G F2 mu2 y v := Rep.mono x2.le r1
  have r2' : Rep G F2 mu2 d u := r2
  try dsimp only at p2
  split at p2
  · rename_i m
    split at p2
    · rename_i cn ns vs en
      split at p2
      · rename_i z
        cases r2' with
        | ref em =>
        rename_i a'
        obtain ⟨_, ho, h1, h2⟩ := hs2.live _ _ _ en (fun z => nomatch z) em
        cases h2 with
        | ins hl cc rl =>
        rename_i C dx ws
        obtain ⟨k1, k2⟩ := hf cn z.1 C cc
        obtain ⟨e1, e2⟩ := putF_zip (n := n) (y := v) hl
        refine ⟨a', C, dx, _, rfl, h1, by rw [ok.K]; exact k1, by rw [ok.K]; exact k2, by rw [List.length_zip, ← hl, Nat.min_self]; exact z.2, ?_⟩
        rw [e1]
        have xw : Ex F2 mu2 H2 F2 mu2 (upd H2 a' (.ins C dx ((putNs ns n).zip (putNv ns ws n v)))) := Ex.write em fun o u z => by rw [h1] at z; cases z
        exact p2 F2 mu2 _ σ xw (hs2.write en (fun z => nomatch z) em (.ins e2 cc (putNv_rep r1' rl))) he2
      · exact p2.elim
    · exact p2.elim
  · exact p2.elim
end
/-! ### own calls -/
abbrev Fn := List D → DS → R D
/-- a def's promise -/
def spD (G : Gl) (cf : Fn) : Sp := fun vs H Q E => ∃ F mu s ds, SR G F mu s H ∧ RepL G F mu ds vs ∧ Post G F mu H E (cf ds s) Q
def pickL {α : Type} : List Nat → List α → Option (List α)
  | [], _ => some []
  | i :: r, xs => (xs[i]?).bind fun x => (pickL r xs).map (x :: ·)
theorem pick_rep {G : Gl} {F : Hp} {mu : List Addr} {xs : List D} {vs : List V} (r : RepL G F mu xs vs) : ∀ {idx : List Nat} {zs : List D}, pickL idx xs = some zs → ∃ ws, pickL idx vs = some ws ∧ RepL G F mu zs ws
  | [], _, h => by cases h; exact ⟨[], rfl, .nil⟩
  | i :: idx, zs, h => by
    obtain ⟨x, h1, h2⟩ := Option.bind_eq_some_iff.mp h
    obtain ⟨l, h3, h4⟩ := Option.map_eq_some_iff.mp h2
    subst h4
    obtain ⟨v, e1, e2⟩ := r.get h1
    obtain ⟨ws, e3, e4⟩ := pick_rep r h3
    exact ⟨v :: ws, by unfold pickL; rw [e1, e3]; rfl, .cons e2 e4⟩
theorem pick_vals {vs : List V} {us : List Value} (r : Vals vs us) : ∀ {idx : List Nat} {zs : List V}, pickL idx vs = some zs → ∃ ws, pickL idx us = some ws ∧ Vals zs ws
  | [], _, h => by cases h; exact ⟨[], rfl, .nil⟩
  | i :: idx, zs, h => by
    obtain ⟨x, h1, h2⟩ := Option.bind_eq_some_iff.mp h
    obtain ⟨l, h3, h4⟩ := Option.map_eq_some_iff.mp h2
    subst h4
    obtain ⟨v, e1, e2⟩ := r.get h1
    obtain ⟨ws, e3, e4⟩ := pick_vals r h3
    exact ⟨v :: ws, by unfold pickL; rw [e1, e3]; rfl, .cons e2 e4⟩
/-- what a call with n values and the keywords ks binds -/
def BindF (fd : FuncData) (ps : List Str) (n : Nat) (ks : List Str) (idx : List Nat) : Prop := ∀ us ws l : List Value, us.length = n → ws.length = ks.length → pickL idx (us ++ ws) = some l → bindArgs fd ⟨us, ks.zip ws⟩ = pure (ps.zip l)
section
variable {X : Cx} {pins : List (Addr × Obj)} {σ : L2.St} {H : Hp} {s : Shared} {CX : CXT} {k n : Nat} {f C : Addr} {fd : FuncData} {ps ks : List Str} {sp : Sp} {E : XK} {Q : VK} {us ws : List Value} {vs zs vs' : List V} {idx : List Nat}
theorem run_callF (F : FnOk X.prog X.w X.K X.mg X.base CX k f fd ps sp) (hr : Room k X.A) (hb : BindF fd ps n ks idx) (hx : PassesAt CX X σ E) (I : Inv X pins σ H s) (r : Vals vs us) (rz : Vals zs ws) (l1 : vs.length = n) (l2 : zs.length = ks.length)
    (hp : pickL idx (vs ++ zs) = some vs') (h : sp vs' H Q E) : wpAny (model X.prog X.w) X.A (call (.ref f) us (ks.zip ws)) (EP X pins σ Q) X.xe s := by
  obtain ⟨us', e1, r2⟩ := pick_vals (r.append rz) hp
  have b : BindsTo s fd ⟨us, ks.zip ws⟩ (ps.zip us') := .of_eq (hb us ws us' (r.length.symm.trans l1) (rz.length.symm.trans l2) e1)
  refine wpAny_call (codeAny_mono (F.run X.A X.stack s H ⟨us, ks.zip ws⟩ us' vs' Q E hr I.env0 b r2 h) fun r s' hq => ?_)
  cases r with
  | error e => exact hx pins H s e s' I hq
  | ok fl =>
    cases fl with
    | ret u => exact I.after hq
    | next => exact False.elim hq
    | brk => exact False.elim hq
    | cont => exact False.elim hq
/-- a new instance, then __init__ -/
theorem run_makeF (M : Mk X.K C f) (F : FnOk X.prog X.w X.K X.mg X.base CX k f fd ps sp) (hr : Room (k + 1) X.A) (hb : BindF fd ps (n + 1) ks idx) (hx : PassesAt CX X σ E) (I : Inv X pins σ H s) (r : Vals vs us) (rz : Vals zs ws) (l1 : vs.length = n) (l2 : zs.length = ks.length)
    (h : ∀ x dx, H x = none → H dx = none → dx ≠ x → ∃ vs', pickL idx (.ref x :: vs ++ zs) = some vs' ∧ sp vs' (upd (upd H dx (.own x)) x (.ins C dx [])) (fun v H2 => v = .non ∧ Q (.ref x) H2) E) :
    wpAny (model X.prog X.w) X.A (call (.ref C) us (ks.zip ws)) (EP X pins σ Q) X.xe s := by
  obtain ⟨vs', hp, hq⟩ := h (s.heap.objs.size + 1) s.heap.objs.size (I.hok.fresh (Nat.le_succ _)) (I.hok.fresh (Nat.le_refl _)) (Nat.ne_of_lt (Nat.lt_succ_self _))
  have I2 := Inv.made (C := C) I
  have r1 : Vals (V.ref (s.heap.objs.size + 1) :: vs) (Value.ref (s.heap.objs.size + 1) :: us) := .cons rfl r
  obtain ⟨us', e1, r2⟩ := pick_vals (r1.append rz) hp
  have b : ∀ s', BindsTo s' fd ⟨Value.ref (s.heap.objs.size + 1) :: us, ks.zip ws⟩ (ps.zip us') := fun s' => .of_eq (hb _ ws us' (r1.length.symm.trans (congrArg Nat.succ l1)) (rz.length.symm.trans l2) e1)
  refine wpAny_call (make_map (f := f) I.kIn M.makes M.init (beq_iff_eq.mp M.fn) (codeAny_mono (F.run _ X.stack _ _ ⟨Value.ref (s.heap.objs.size + 1) :: us, ks.zip ws⟩ us' vs' _ E (hr.make C us (ks.zip ws))
    (I2.env0.make C us (ks.zip ws)) (b _) r2 hq) fun r s' hq' => ?_))
  cases r with
  | error e => exact hx pins _ _ e s' I2 hq'
  | ok fl =>
    cases fl with
    | ret u =>
      obtain ⟨v, H', I3, rv, ev, q3⟩ := I2.after hq'
      subst ev
      exact ⟨rv, ⟨V.ref (s.heap.objs.size + 1), H', I3, rfl, q3⟩⟩
    | next => exact False.elim hq'
    | brk => exact False.elim hq'
    | cont => exact False.elim hq'
end
/-- a call's form: so many values, these keywords, the order -/
structure Form where
  n : Nat
  ks : List Str
  idx : List Nat
/-- an own def -/
structure FnD (G : Gl) (k : Nat) (x : Str) (fm : Form → Prop) (cf : Fn) : Prop where
  ex : ∃ a fd ps, G.mg x = some (.ref a) ∧ PySem.W.keepIn G.K (.ref a) = true ∧ FnOk G.P G.w G.K G.mg G.base (CX G.P G.w) k a fd ps (spD G cf) ∧ ∀ m, fm m → BindF fd ps m.n m.ks m.idx
/-- an own class -/
structure MkD (G : Gl) (k : Nat) (x : Str) (fm : Form → Prop) (cf : Fn) : Prop where
  ex : ∃ C a fd ps, G.mg x = some (.ref C) ∧ G.ca x = some C ∧ Mk G.K C a ∧ FnOk G.P G.w G.K G.mg G.base (CX G.P G.w) k a fd ps (spD G cf) ∧ ∀ m, fm m → BindF fd ps (m.n + 1) m.ks m.idx
def eCall (m : Form) (cf : Fn) (fs gs : EV (List D)) : EV D := fun env s => (fs env s).bind fun xs s1 => (gs env s1).bind fun ys s2 => if xs.length = m.n ∧ ys.length = m.ks.length then
    match pickL m.idx (xs ++ ys) with
    | some zs => cf zs s2
    | none => .bad
  else .bad
/-- a new instance is made, then it does not change any more -/
def mkD (fz : Bool) (c : Str) (m : Form) (cf : Fn) (xs ys : List D) (s : DS) : R D := match pickL m.idx (.ref s.length :: xs ++ ys) with
  | none => .bad
  | some zs => match cf zs (s ++ [.ins c [] []]) with
    | .ok .non s' => if fz = true then match s'[s.length]? with
        | some (.ins c' ns vs) => .ok (.obj c' ns vs) (s'.set s.length .dead)
        | _ => .bad
      else .ok (.ref s.length) s'
    | .ok _ _ => .bad
    | .exc x s' => .exc x s'
    | .bad => .bad
def eMake (fz : Bool) (c : Str) (m : Form) (cf : Fn) (fs gs : EV (List D)) : EV D := fun env s => (fs env s).bind fun xs s1 => (gs env s1).bind fun ys s2 => if xs.length = m.n ∧ ys.length = m.ks.length then mkD fz c m cf xs ys s2 else .bad
section
variable {G : Gl} {k : Nat} {c : Ct} {f g h : EV D} {a b e : Expr} {pos p : Pos} {x : Str} {fs gs : EV (List D)} {es : List Expr} {kws : List Keyword} {m : Form} {fm : Form → Prop} {cf : Fn}
def PKd (G : Gl) (k : Nat) (c : Ct) (f : EV (List D)) (kws : List Keyword) : Prop := ∀ X W, XOk G k c X W → PK X kws (tD G f W)
theorem PK.by {X : Cx} {e : List Keyword} {t t' : TA} (h : PK X e t) (i : ∀ σ H Q, t' σ H Q → t σ H Q) : PK X e t' := ⟨fun po pins s σ H Q I q => h.run po pins s σ H Q I (i σ H Q q)⟩
theorem pk_dnil : PKd G k c aNil [] := fun X W ok => PK.by pk_nil fun σ H Q q => by
  obtain ⟨F, mu, env, s, hs, he, p⟩ := q
  exact Post.here (G := G) hs (show RepL G F mu [] [] from .nil) p
theorem pk_dcons {nm : Option Str} {kpos : Pos} (ha : PEd G k c f e) (hr : PKd G k c gs kws) : PKd G k c (aCons f gs) (⟨nm, e, kpos⟩ :: kws) := fun X W ok => PK.by (pk_cons (ha X W ok) (hr X W ok)) fun σ H Q q => tD_cons q
/-- the keywords' names -/
def kwNames : List Keyword → Option (List Str)
  | [] => some []
  | ⟨some n, _, _⟩ :: r => (kwNames r).map (n :: ·)
  | _ => none
theorem kw_all {env : Env} {pos : Pos} : ∀ {kws : List Keyword} {ks : List Str}, kwNames kws = some ks → (backToKw pos (keywordEach kws env)).all (·.1.isSome) = true ∧ (backToKw pos (keywordEach kws env)).filterMap (·.1) = ks ∧ (backToKw pos (keywordEach kws env)).any (·.1.isNone) = false
  | [], _, h => by cases h; exact ⟨rfl, rfl, rfl⟩
  | ⟨some n, e, q⟩ :: r, ks, h => by
    obtain ⟨l, h1, h2⟩ := Option.map_eq_some_iff.mp h
    subst h2
    obtain ⟨i1, i2, i3⟩ := kw_all (env := env) (pos := pos) h1
    refine ⟨?_, ?_, ?_⟩
    · show (true && (backToKw pos (keywordEach r env)).all (·.1.isSome)) = true
      rw [i1] <;> rfl
    · show n :: (backToKw pos (keywordEach r env)).filterMap (·.1) = n :: l
      rw [i2]
    · show (false || (backToKw pos (keywordEach r env)).any (·.1.isNone)) = false
      rw [i3] <;> rfl
  | ⟨none, e, q⟩ :: r, _, h => by cases h
/-- the arguments, then the keywords, of a call of a known value -/
theorem call_args {X : Cx} {W : WX} (ok : XOk G k c X W) {v : Value} (hk : PySem.W.keepIn G.K v = true) (ha : PAd G k c fs (e :: es)) (hg : PKd G k c gs kws) (hn : kwNames kws = some m.ks) (hs : noStars (e :: es) = true)
    {pins : List (Addr × Obj)} {σ : L2.St} {H : Hp} {s : Shared} {Q : VK} (I : Inv X pins σ H s)
    (q : tD G fs W σ H fun vs H1 => tD G gs W σ H1 fun zs H2 => ∀ us ws s2, Inv X pins σ H2 s2 → Vals vs us → Vals zs ws → wpAny (model X.prog X.w) X.A (call v us (m.ks.zip ws)) (EP X pins σ Q) X.xe s2) :
    wpAny (model X.prog X.w) X.A (callWith pos v [] (backTo pos (starEach (e :: es) X.env)) (backToKw pos (keywordEach kws X.env))) (EP X pins σ Q) X.xe s := by
  obtain ⟨k1, k2, k3⟩ := kw_all (env := X.env) (pos := pos) hn
  have hk' : PySem.W.keepIn X.K v = true := by rw [ok.K]; exact hk
  have h2 : notStar e = true ∧ noStars es = true := by simpa [noStars] using hs
  refine PySem.W.callWith_KW (h₀ := X.base) I.ok.mod.kin hk' k1 (thn ((ha X W ok).run pos pins s σ H _ I q) fun us s1 ⟨vs, H1, I1, r, q1⟩ => ?_) (by rw [backTo_plain hs, k3] <;> rfl) (starEach_cons h2.1)
  refine thn ((hg X W ok).run pos pins s1 σ H1 _ I1 q1) fun ws s2 ⟨zs, H2, I2, rz, q2⟩ => ⟨I2.kIn, ?_⟩
  rw [k2]
  exact q2 us ws s2 I2 r rz
theorem call_args0 {X : Cx} {W : WX} (ok : XOk G k c X W) {v : Value} (hk : PySem.W.keepIn G.K v = true) (hg : PKd G k c gs kws) (hn : kwNames kws = some m.ks)
    {pins : List (Addr × Obj)} {σ : L2.St} {H : Hp} {s : Shared} {Q : VK} (I : Inv X pins σ H s)
    (q : tD G gs W σ H fun zs H2 => ∀ ws s2, Inv X pins σ H2 s2 → Vals zs ws → wpAny (model X.prog X.w) X.A (call v [] (m.ks.zip ws)) (EP X pins σ Q) X.xe s2) :
    wpAny (model X.prog X.w) X.A (callWith pos v [] (backTo pos (starEach [] X.env)) (backToKw pos (keywordEach kws X.env))) (EP X pins σ Q) X.xe s := by
  obtain ⟨k1, k2, k3⟩ := kw_all (env := X.env) (pos := pos) hn
  have hk' : PySem.W.keepIn X.K v = true := by rw [ok.K]; exact hk
  refine PySem.W.callWith_KW0 (h₀ := X.base) I.ok.mod.kin hk' k1 (thn ((hg X W ok).run pos pins s σ H _ I q) fun ws s2 ⟨zs, H2, I2, rz, q2⟩ => ⟨I2.kIn, ?_⟩) (by rw [k3] <;> rfl)
  rw [k2]
  exact q2 ws s2 I2 rz
/-- a def's call, the values being there -/
theorem run_dcall {X : Cx} {W : WX} (ok : XOk G k c X W) (hcm : c.calm = true) (hF : FnD G k x fm cf) (hm : fm m) {a : Addr} (hx : G.mg x = some (.ref a)) {F : Hp} {mu : List Addr} {pins : List (Addr × Obj)} {σ : L2.St} {H : Hp} {sh : Shared} {Q : VK} {env : Env'} {s : DS} {xs ys : List D} {vs zs : List V} {us ws : List Value}
    (I : Inv X pins σ H sh) (hs : SR G F mu s H) (rx : RepL G F mu xs vs) (ry : RepL G F mu ys zs) (ru : Vals vs us) (rw_ : Vals zs ws)
    (p : Post G F mu H (WE' W σ) (if xs.length = m.n ∧ ys.length = m.ks.length then match pickL m.idx (xs ++ ys) with | some zs => cf zs s | none => .bad else .bad) Q) :
    wpAny (model X.prog X.w) X.A (call (.ref a) us (m.ks.zip ws)) (EP X pins σ Q) X.xe sh := by
  obtain ⟨a', fd, ps, h1, h2, h3, h4⟩ := hF.ex
  rw [hx] at h1; cases h1
  split at p
  · rename_i l
    split at p
    · rename_i ds ed
      obtain ⟨vs', e1, e2⟩ := pick_rep (rx.append ry) ed
      rw [← ok.K, ← ok.prog, ← ok.w, ← ok.mg, ← ok.base] at h3
      exact run_callF (E := WE W σ) h3 (ok.room hcm) (h4 m hm) (passAt ok.tk σ) I ru rw_ (by rw [← rx.length]; exact l.1) (by rw [← ry.length]; exact l.2) e1 ⟨F, mu, s, ds, hs, e2, p⟩
    · exact p.elim
  · exact p.elim
theorem pe_dcall (hcm : c.calm = true) (hF : FnD G k x fm cf) (hm : fm m) (hg : c.sc.names.lookup x = some .globalImplicit) (hd : (x == ("__debug__" : Str)) = false) (ha : PAd G k c fs (e :: es)) (hgs : PKd G k c gs kws) (hn : kwNames kws = some m.ks) (hs : noStars (e :: es) = true) :
    PEd G k c (eCall m cf fs gs) (.Call (.Name x p) (e :: es) kws pos) := fun X W ok => by
  refine ⟨fun pins sh σ H Q I q => ?_⟩
  obtain ⟨a, fd, ps, h1, h2, _⟩ := hF.ex
  have hG : L2.Gl X x := by
    show X.env.scope.names.lookup x = _
    rw [ok.sc]; exact hg
  refine wpAny_Call_Name_kw (ld_glob I hG (by rw [ok.mg]; exact h1) ?_ hd)
  refine call_args ok h2 ha hgs hn hs I ?_
  obtain ⟨F, mu, env, s, hs0, he, p⟩ := q
  refine ⟨F, mu, env, s, hs0, he, Post.bind hs0 p fun F1 mu1 H1 d v s1 x1 hs1 r1 p1 => ?_⟩
  refine ⟨F1, mu1, env, s1, hs1, he.mono x1.le, Post.bind hs1 p1 fun F2 mu2 H2 d2 v2 s2 x2 hs2 r2 p2 => ?_⟩
  intro us ws sh2 I2 ru rw_
  exact run_dcall (env := env) ok hcm hF hm h1 I2 hs2 (RepL.mono x2.le r1) r2 ru rw_ p2
theorem pe_dcall0 (hcm : c.calm = true) (hF : FnD G k x fm cf) (hm : fm m) (hg : c.sc.names.lookup x = some .globalImplicit) (hd : (x == ("__debug__" : Str)) = false) (hgs : PKd G k c gs kws) (hn : kwNames kws = some m.ks) :
    PEd G k c (eCall m cf aNil gs) (.Call (.Name x p) [] kws pos) := fun X W ok => by
  refine ⟨fun pins sh σ H Q I q => ?_⟩
  obtain ⟨a, fd, ps, h1, h2, _⟩ := hF.ex
  have hG : L2.Gl X x := by
    show X.env.scope.names.lookup x = _
    rw [ok.sc]; exact hg
  refine wpAny_Call_Name_kw (ld_glob I hG (by rw [ok.mg]; exact h1) ?_ hd)
  refine call_args0 ok h2 hgs hn I ?_
  obtain ⟨F, mu, env, s, hs0, he, p⟩ := q
  refine ⟨F, mu, env, s, hs0, he, Post.bind (Q' := fun zs H2 => ∀ ws s2, Inv X pins σ H2 s2 → Vals zs ws → wpAny (model X.prog X.w) X.A (call (.ref a) [] (m.ks.zip ws)) (EP X pins σ Q) X.xe s2) hs0 (show Post G F mu H (WE' W σ) ((gs env s).bind _) Q from p) fun F2 mu2 H2 d2 v2 s2 x2 hs2 r2 p2 => ?_⟩
  intro ws sh2 I2 rw_
  exact run_dcall (env := env) (xs := []) ok hcm hF hm h1 I2 hs2 .nil r2 .nil rw_ p2
/-- a class's call, the values being there -/
theorem run_dmake {X : Cx} {W : WX} (ok : XOk G (k + 1) c X W) (hcm : c.calm = true) {fz : Bool} (hF : MkD G k x fm cf) (hm : fm m) {C : Addr} (hx : G.mg x = some (.ref C)) {F : Hp} {mu : List Addr} {pins : List (Addr × Obj)} {σ : L2.St} {H : Hp} {sh : Shared} {Q : VK} {env : Env'} {s : DS} {xs ys : List D} {vs zs : List V} {us ws : List Value}
    (I : Inv X pins σ H sh) (hs : SR G F mu s H) (rx : RepL G F mu xs vs) (ry : RepL G F mu ys zs) (ru : Vals vs us) (rw_ : Vals zs ws)
    (p : Post G F mu H (WE' W σ) (if xs.length = m.n ∧ ys.length = m.ks.length then mkD fz x m cf xs ys s else .bad) Q) :
    wpAny (model X.prog X.w) X.A (call (.ref C) us (m.ks.zip ws)) (EP X pins σ Q) X.xe sh := by
  obtain ⟨C', a, fd, ps, h1, hca, h2, h3, h4⟩ := hF.ex
  rw [hx] at h1; cases h1
  split at p
  · rename_i l
    rw [← ok.K, ← ok.prog, ← ok.w, ← ok.mg, ← ok.base] at h3
    rw [← ok.K] at h2
    refine run_makeF (E := WE W σ) h2 h3 (ok.room hcm) (h4 m hm) (passAt ok.tk σ) I ru rw_ (by rw [← rx.length]; exact l.1) (by rw [← ry.length]; exact l.2) fun x' dx hx' hdx hne => ?_
    unfold mkD at p
    split at p
    · exact p.elim
    · rename_i zs' ez
      have xk : ∀ (b : Addr) (o : HO), H b = some o → upd H dx (.own x') b = some o := fun b o e => by rw [upd_ne (ne_of_none e hdx)]; exact e
      have x1 : Ex F mu H F mu (upd H dx (.own x')) := Ex.heap xk
      have hs1 : SR G F mu s (upd H dx (.own x')) := hs.heap xk
      have hn : upd H dx (.own x') x' = none := by rw [upd_ne (Ne.symm hne)]; exact hx'
      have x2 : Ex F mu (upd H dx (.own x')) F (mu ++ [x']) (upd (upd H dx (.own x')) x' (.ins C dx [])) := Ex.alloc hs1 hn
      have hs2 : SR G F (mu ++ [x']) (s ++ [.ins x [] []]) (upd (upd H dx (.own x')) x' (.ins C dx [])) := hs1.alloc hn (.ins (ns := []) (vs := []) rfl hca .nil)
      have x12 := hs.trans x1 hs1 x2
      have rself : Rep G F (mu ++ [x']) (.ref s.length) (.ref x') := .ref (by rw [List.getElem?_append_right (by rw [hs.len]; exact Nat.le_refl _), hs.len, Nat.sub_self]; rfl)
      obtain ⟨vs', e1, e2⟩ := pick_rep (RepL.append (.cons rself (rx.mono x12.le)) (ry.mono x12.le)) ez
      refine ⟨vs', e1, F, mu ++ [x'], s ++ [.ins x [] []], zs', hs2, e2, ?_⟩
      have hnd := hs.len
      split at p
      · rename_i s' es'
        rw [es']
        intro F3 mu3 H3 v3 x3 hs3 r3
        have r3' : Rep G F3 mu3 .non v3 := r3
        cases r3'
        refine ⟨rfl, ?_⟩
        have xa := hs.trans x12 hs2 x3
        have hmu : mu3[s.length]? = some x' := x3.le.m _ _ (by rw [List.getElem?_append_right (by rw [hs.len]; exact Nat.le_refl _), hs.len, Nat.sub_self]; rfl)
        split at p
        · split at p
          · rename_i c' ns vs'' en
            obtain ⟨z1, ho, z2, z3⟩ := hs3.live _ _ _ en (fun z => nomatch z) hmu
            cases z3 with
            | ins hl cc rl =>
            have xf := Ex.freeze hs3 en (fun z => nomatch z) hmu z2
            have hs4 := hs3.freeze en (fun z => nomatch z) hmu z2
            exact p _ _ _ _ (hs.trans xa hs3 xf) hs4 (show Rep G _ _ _ _ from .obj upd_same hl cc (rl.mono xf.le))
          · exact p.elim
        · exact p _ _ _ _ xa hs3 (show Rep G _ _ _ _ from .ref hmu)
      · exact p.elim
      · rename_i xc s' es'
        rw [es']
        intro F3 mu3 H3 cls dd x3 hs3 r3
        exact p _ _ _ _ _ (hs.trans x12 hs2 x3) hs3 r3
      · exact p.elim
  · exact p.elim
theorem pe_dmake (hcm : c.calm = true) {fz : Bool} (hF : MkD G k x fm cf) (hm : fm m) (hg : c.sc.names.lookup x = some .globalImplicit) (hd : (x == ("__debug__" : Str)) = false) (ha : PAd G (k + 1) c fs (e :: es)) (hgs : PKd G (k + 1) c gs kws) (hn : kwNames kws = some m.ks) (hs : noStars (e :: es) = true) :
    PEd G (k + 1) c (eMake fz x m cf fs gs) (.Call (.Name x p) (e :: es) kws pos) := fun X W ok => by
  refine ⟨fun pins sh σ H Q I q => ?_⟩
  obtain ⟨C, a, fd, ps, h1, hca, h2, _⟩ := hF.ex
  have hG : L2.Gl X x := by
    show X.env.scope.names.lookup x = _
    rw [ok.sc]; exact hg
  refine wpAny_Call_Name_kw (ld_glob I hG (by rw [ok.mg]; exact h1) ?_ hd)
  refine call_args ok h2.kp ha hgs hn hs I ?_
  obtain ⟨F, mu, env, s, hs0, he, p⟩ := q
  refine ⟨F, mu, env, s, hs0, he, Post.bind hs0 p fun F1 mu1 H1 d v s1 x1 hs1 r1 p1 => ?_⟩
  refine ⟨F1, mu1, env, s1, hs1, he.mono x1.le, Post.bind hs1 p1 fun F2 mu2 H2 d2 v2 s2 x2 hs2 r2 p2 => ?_⟩
  intro us ws sh2 I2 ru rw_
  exact run_dmake (env := env) ok hcm hF hm h1 I2 hs2 (RepL.mono x2.le r1) r2 ru rw_ p2
theorem pe_dmake0 (hcm : c.calm = true) {fz : Bool} (hF : MkD G k x fm cf) (hm : fm m) (hg : c.sc.names.lookup x = some .globalImplicit) (hd : (x == ("__debug__" : Str)) = false) (hgs : PKd G (k + 1) c gs kws) (hn : kwNames kws = some m.ks) :
    PEd G (k + 1) c (eMake fz x m cf aNil gs) (.Call (.Name x p) [] kws pos) := fun X W ok => by
  refine ⟨fun pins sh σ H Q I q => ?_⟩
  obtain ⟨C, a, fd, ps, h1, hca, h2, _⟩ := hF.ex
  have hG : L2.Gl X x := by
    show X.env.scope.names.lookup x = _
    rw [ok.sc]; exact hg
  refine wpAny_Call_Name_kw (ld_glob I hG (by rw [ok.mg]; exact h1) ?_ hd)
  refine call_args0 ok h2.kp hgs hn I ?_
  obtain ⟨F, mu, env, s, hs0, he, p⟩ := q
  refine ⟨F, mu, env, s, hs0, he, Post.bind (Q' := fun zs H2 => ∀ ws s2, Inv X pins σ H2 s2 → Vals zs ws → wpAny (model X.prog X.w) X.A (call (.ref C) [] (m.ks.zip ws)) (EP X pins σ Q) X.xe s2) hs0 (show Post G F mu H (WE' W σ) ((gs env s).bind _) Q from p) fun F2 mu2 H2 d2 v2 s2 x2 hs2 r2 p2 => ?_⟩
  intro ws sh2 I2 rw_
  exact run_dmake (env := env) (xs := []) ok hcm hF hm h1 I2 hs2 .nil r2 .nil rw_ p2
end
/-! ### a def's body -/
def fnD (n N : Nat) (b : SV) : Fn := fun ds s => if ds.length = n then match b (ds.map some ++ List.replicate (N - n) none) s with
  | .rt d s' => .ok d s'
  | .nx _ s' => .ok .non s'
  | .exc x _ s' => .exc x s'
  | _ => .bad
  else .bad
def ctOf (N : List Str) (sc : Scope) : Ct := ⟨N, sc, sc, true, true, none⟩
theorem fn_d {G : Gl} {k : Nat} {x qual : Str} {params : Arguments} {body : List Stmt} {scope : Scope} {dvs : List V} {kws : List (Str × V)} {f : Addr} {fd : FuncData} {N ps : List Str} {b : SV} (hxa : G.xa = none) (F : FunD G.K x qual params body scope dvs kws f fd) (S : FnScope N ps scope)
    (hb : PBd G k (ctOf N scope) b body) : FnOk G.P G.w G.K G.mg G.base (CX G.P G.w) (k + 1) f fd ps (spD G (fnD ps.length N.length b)) := by
  have hlen : ∀ vs H Q E, spD G (fnD ps.length N.length b) vs H Q E → vs.length = ps.length := fun vs H Q E h => by
    obtain ⟨F', mu, s, ds, hs, r, p⟩ := h
    unfold fnD at p
    split at p
    · rename_i l; rw [← r.length]; exact l
    · exact p.elim
  refine F.ok S hlen fun cdv A outer s0 H vs Q E hr hsp => ?_
  have hl := hlen _ _ _ _ hsp
  obtain ⟨F', mu, s, ds, hs, r, p⟩ := hsp
  have hdl : ds.length = ps.length := r.length.trans hl
  have hpl : ps.length ≤ N.length := by have := congrArg List.length S.pre; rw [List.length_take] at this; omega
  refine ⟨tS G b (fun cls d _ H => E cls d H), hb _ _ ⟨rfl, rfl, rfl, rfl, rfl, rfl, S.nd, rfl, fun _ => ⟨rfl, hxa⟩, takes_of rfl rfl rfl rfl, fun _ => hr, ?_, (fun z hz => by rw [hxa] at hz; cases hz), fun _ => ⟨passes_of rfl, rfl, rfl⟩, fun y hy => ?_⟩, ?_⟩
  · have := hr.un
    show (A.deeper _).units + 65 < cLine
    omega
  · have h2 : Loc scope y := by
      unfold locB at hy
      split at hy
      · rename_i q; exact .inl q
      · rename_i q; exact .inr q
      · cases hy
    exact ⟨h2, .inl rfl⟩
  · refine ⟨F', mu, ds.map some ++ List.replicate (N.length - ps.length) none, s, hs, ⟨?_, fun i d h => ?_, fun z hz => by rw [hxa] at hz; cases hz⟩, ?_⟩
    · unfold L2.start
      simp only [List.length_append, List.length_map, List.length_replicate]
      omega
    · by_cases hi : i < ds.length
      · rw [List.getElem?_append_left (by simpa using hi), List.getElem?_map] at h
        cases e : ds[i]? with
        | none => rw [e] at h; cases h
        | some d' =>
          rw [e] at h; cases h
          obtain ⟨v, e1, e2⟩ := r.get e
          refine ⟨v, ?_, e2⟩
          unfold L2.start
          rw [List.getElem?_append_left (by rw [List.length_map, ← r.length]; exact hi), List.getElem?_map, e1]
          rfl
      · rw [List.getElem?_append_right (by simpa using hi), List.getElem?_replicate] at h
        split at h <;> cases h
    · unfold fnD at p
      rw [if_pos hdl] at p
      cases eb : b (ds.map some ++ List.replicate (N.length - ps.length) none) s with
      | nx env s' => rw [eb] at p; exact fun F1 mu1 H1 σ1 x1 hs1 he1 => p F1 mu1 H1 .non x1 hs1 (show Rep G _ _ _ _ from .non)
      | rt d s' => rw [eb] at p; exact fun F1 mu1 H1 v x1 hs1 r1 => p F1 mu1 H1 v x1 hs1 r1
      | bk env s' => rw [eb] at p; exact p.elim
      | ct env s' => rw [eb] at p; exact p.elim
      | exc c env s' => rw [eb] at p; exact fun F1 mu1 H1 σ1 cls dd x1 hs1 he1 r1 => p F1 mu1 H1 cls dd x1 hs1 r1
      | bad => rw [eb] at p; exact p.elim
end Pv

set_option Elab.async false
set_option linter.all false
set_option maxRecDepth 100000
/-! Ev11: comprehensions. -/
namespace Pv
open PySem PySem.Spec PyProof.Rows L2
section
variable {G : Gl} {F F' : Hp} {mu mu' : List Addr} {s : DS} {H H' : Hp}
/-- an object that is not tracked changes -/
theorem SR.poke (r : SR G F mu s H) {a : Addr} {ho : HO} (hf : F a = none) (hm : a ∉ mu) : SR G F mu s (upd H a ho) :=
  ⟨fun b o e => by rw [upd_ne (fun z => by rw [z, hf] at e; cases e)]; exact r.sub b o e, r.len, r.nd, fun n o b e1 e2 e3 => by
    obtain ⟨z1, h, z2, z3⟩ := r.live n o b e1 e2 e3
    exact ⟨z1, h, by rw [upd_ne (fun z => hm (by rw [← z]; exact List.mem_of_getElem? e3))]; exact z2, z3⟩, fun b hb => by
    rw [upd_ne (fun z => hm (by rw [← z]; exact hb))]; exact r.ne b hb⟩
theorem Ex.poke {a : Addr} {ho : HO} (x : Ex F mu H F' mu' H') (hn : H a = none) : Ex F mu H F' mu' (upd H' a ho) :=
  ⟨x.f, x.m, fun b o e hm => by rw [upd_ne (ne_of_none e hn)]; exact x.h b o e hm, x.g, fun b o u e => by rw [upd_ne (ne_of_none e hn)]; exact x.z b o u e⟩
/-- what was not tracked is frozen -/
theorem SR.adopt (r : SR G F mu s H) {a : Addr} {ho : HO} (hf : F a = none) (hm : a ∉ mu) (hh : H a = some ho) : SR G (upd F a ho) mu s H := by
  have l : Le F mu (upd F a ho) mu := ⟨fun b o e => by rw [upd_ne (fun z => by rw [z, hf] at e; cases e)]; exact e, fun _ _ e => e⟩
  refine ⟨fun b o e => ?_, r.len, r.nd, fun n o b e1 e2 e3 => ?_, r.ne⟩
  · by_cases z : b = a
    · subst z; rw [upd_same] at e; cases e; exact hh
    · rw [upd_ne z] at e; exact r.sub b o e
  · obtain ⟨z1, h, z2, z3⟩ := r.live n o b e1 e2 e3
    exact ⟨by rw [upd_ne (fun z => hm (by rw [← z]; exact List.mem_of_getElem? e3))]; exact z1, h, z2, z3.mono l⟩
theorem Ex.adopt {a : Addr} {ho : HO} (x : Ex F mu H F' mu' H') (hn : H a = none) (hf : F' a = none) : Ex F mu H (upd F' a ho) mu' H' :=
  ⟨fun b o e => by
    have q := x.f b o e
    rw [upd_ne (fun z => by rw [z, hf] at q; cases q)]; exact q, x.m, x.h, fun b hb => by
    by_cases z : b = a
    · subst z; exact .inr (.inl hn)
    · rw [upd_ne z] at hb; exact x.g b hb, x.z⟩
/-- what was not tracked is tracked -/
theorem SR.track (r : SR G F mu s H) {a : Addr} {o : DO} {ho : HO} (hf : F a = none) (hm : a ∉ mu) (hh : H a = some ho) (q : ORep G F (mu ++ [a]) o ho) : SR G F (mu ++ [a]) (s ++ [o]) H := by
  have l : Le F mu F (mu ++ [a]) := ⟨fun _ _ e => e, fun n b e => by rw [List.getElem?_append_left (List.getElem?_eq_some_iff.mp e).1]; exact e⟩
  refine ⟨r.sub, by simp [r.len], List.nodup_append.mpr ⟨r.nd, by simp, fun b hb c hc => by rw [List.mem_singleton.mp hc]; exact fun z => hm (z ▸ hb)⟩, fun n o' b e1 e2 e3 => ?_, fun b hb => ?_⟩
  · by_cases hn : n < s.length
    · rw [List.getElem?_append_left hn] at e1
      rw [List.getElem?_append_left (by rw [r.len]; exact hn)] at e3
      obtain ⟨z1, h, z2, z3⟩ := r.live n o' b e1 e2 e3
      exact ⟨z1, h, z2, z3.mono l⟩
    · have hn2 : n = s.length := by
        have := (List.getElem?_eq_some_iff.mp e1).1
        simp at this; omega
      subst hn2
      rw [List.getElem?_append_right (Nat.le_refl _), Nat.sub_self] at e1
      rw [List.getElem?_append_right (by rw [r.len]; exact Nat.le_refl _), r.len, Nat.sub_self] at e3
      simp at e1 e3
      subst e1 e3
      exact ⟨hf, ho, hh, q⟩
  · rcases List.mem_append.mp hb with z | z
    · exact r.ne b z
    · rw [List.mem_singleton.mp z, hh]; exact fun z => nomatch z
theorem Ex.track {a : Addr} (x : Ex F mu H F' mu' H') (hn : H a = none) : Ex F mu H F' (mu' ++ [a]) H' :=
  ⟨x.f, by
    obtain ⟨l, e, hl⟩ := x.m
    refine ⟨l ++ [a], by rw [e, List.append_assoc], fun b hb => ?_⟩
    rcases List.mem_append.mp hb with z | z
    · exact hl b z
    · rw [List.mem_singleton.mp z]; exact hn, x.h, x.g, x.z⟩
/-- it stays not tracked -/
theorem Ex.loose {a : Addr} (x : Ex F mu H F' mu' H') (hf : F a = none) (hm : a ∉ mu) (hh : H a ≠ none) : F' a = none ∧ a ∉ mu' := by
  refine ⟨?_, ?_⟩
  · cases e : F' a with
    | none => rfl
    | some o =>
      exfalso
      rcases x.g a (by rw [e]; exact fun z => nomatch z) with z | z | z
      · exact z hf
      · exact hh z
      · exact hm z
  · obtain ⟨l, e, hl⟩ := x.m
    rw [e]
    intro z
    rcases List.mem_append.mp z with z | z
    · exact hm z
    · exact hh (hl a z)
end
/-- slots forgotten -/
def wipeD (env : Env') : List Nat → Env'
  | [] => env
  | v :: vs => (wipeD env vs).set v none
theorem ER.wipe {G : Gl} {F : Hp} {mu : List Addr} {env : Env'} {σ : L2.St} (hx : G.xa = none) (e : ER G F mu env σ) : ∀ vs : List Nat, ER G F mu (wipeD env vs) (wipe σ vs)
  | [] => e
  | v :: vs => (e.wipe hx vs).wipe1 v none (fun z hz => by rw [hx] at hz; cases hz)
open Classical in
/-- the items of a comprehension -/
noncomputable def lcL (lv : List (Nat × List D)) (g : TV) (t : EV Bool) (e : EV D) (env : Env') : List D → DS → R (List D)
  | [], s => if okL lv s then .ok [] s else .bad
  | d :: r, s => if okL lv s then match g d env s with
    | none => .bad
    | some (env1, s1) => match t env1 s1 with
      | .ok b s2 => if b = true then match e env1 s2 with
          | .ok y s3 => match lcL lv g t e env r s3 with
            | .ok ys s4 => .ok (y :: ys) s4
            | _ => .bad
          | _ => .bad
        else lcL lv g t e env r s2
      | _ => .bad
    else .bad
noncomputable def eLc (m : Bool) (vs : List Nat) (it : EV Items) (g : TV) (t : EV Bool) (e : EV D) : EV D := fun env s => (it env s).bind fun l s1 => match lcL l.lv g t e (wipeD env vs) l.l s1 with
  | .ok ys s2 => if ys.length ≤ sizeLine then (if m = true then .ok (.ref s2.length) (s2 ++ [.lst ys]) else .ok (.lst ys) s2) else .bad
  | _ => .bad
def tYesD : EV Bool := fun _ s => .ok true s
section
variable {G : Gl} {k : Nat} {c : Ct} {f g h : EV D} {a b e : Expr} {pos p : Pos}
/-- within a comprehension's block -/
def Ct.blk (c : Ct) (scope : Scope) : Ct := ⟨c.N, relS scope c.sc, scope, false, true, none⟩
theorem xok_blk {X : Cx} {W : WX} (ok : XOk G k c X W) (hcm : c.calm = true) {scope : Scope} (sh : Shared) (H : Hp) (C : Addr) (cl : List (Str × Addr)) (fp : List Addr) : XOk G k (c.blk scope) (X.blk sh H scope (compEnvC scope cl C X.env) fp) (fun _ _ _ _ => False) := by
  refine ⟨ok.prog, ok.w, ok.K, ok.mg, ok.base, ok.N, ok.nd, ?_, fun _ => ok.calm hcm, ?_, fun _ => ok.room hcm, ok.units, fun z hz => ?_, fun z => (Bool.noConfusion z : _), fun x hx => ?_⟩
  · show relabel scope X.env = relS scope c.sc
    rw [← ok.sc]; rfl
  · intro u s' x
    obtain ⟨_, _, _, _, _, _, _, _, _, _, _, _, _, _, _, _, w⟩ := x
    exact w.elim
  · rw [(ok.calm hcm).2] at hz; cases hz
  · have hx' : locB scope x = true := hx
    unfold locB at hx'
    split at hx'
    · rename_i q
      refine ⟨.inl (lookup_relS_keep (sc := X.env.scope) (by decide) q), .inr (lookup_relS_keep (sc := X.env.scope) (by decide) q)⟩
    · rename_i q
      refine ⟨.inr (lookup_relS_keep (sc := X.env.scope) (by decide) q), .inl ?_⟩
      show (scope.names.lookup x == some .cell) = true
      rw [q]; rfl
    · cases hx'
def PTsd (G : Gl) (k : Nat) (c : Ct) (f : EV Bool) (es : List Expr) : Prop := ∀ X W, XOk G k c X W → PTs X es (tD G f W)
theorem pts_dnil : PTsd G k c tYesD [] := fun X W ok => ⟨fun pins s σ H Q I q => pts_nil.run pins s σ H Q I (by
  obtain ⟨F, mu, env, s, hs, he, p⟩ := q
  exact Post.here (G := G) hs rfl p)⟩
theorem pts_done {ft : EV Bool} (h : PTd G k c ft e) : PTsd G k c ft [e] := fun X W ok => pts_one (h X W ok)
/-- the reading of the library, from ours -/
theorem tD_lc (hxa : G.xa = none) {m : Bool} {vs : List Nat} {it : EV Items} {g : TV} {t : EV Bool} {e : EV D} (hp : gPure g) {W : WX} {σ : L2.St} {H : Hp} {Q : VK} (q : tD G (eLc m vs it g t e) W σ H Q) : tLc (tD G it W) (tGV G vs g) (tD G t fun _ _ _ _ => False) (tD G e fun _ _ _ _ => False) vs σ H Q := by
  obtain ⟨F, mu, env, s, hs, he, p⟩ := q
  refine ⟨F, mu, env, s, hs, he, Post.bind hs p fun F1 mu1 H1 l J s1 x1 hs1 r1 p1 => ?_⟩
  intro dA hD
  have w : WalkD G F1 mu1 H1 l J := r1
  try dsimp only at p1
  split at p1
  · rename_i ys0 s4 el
    split at p1
    · rename_i hz
      have he1 := (he.mono x1.le).wipe hxa vs
      have hFD := hs1.new_f hD
      have hmD := hs1.new_notin hD
      obtain ⟨Pv, hPv⟩ : ∃ P : Nat → Hp → Prop, P = fun i H => ∃ F' mu' s' dacc vacc ys, Ex F1 mu1 H1 F' mu' H ∧ SR G F' mu' s' H ∧ F' dA = none ∧ dA ∉ mu' ∧ H dA = some (.lst vacc) ∧ RepL G F' mu' dacc vacc ∧ lcL l.lv g t e (wipeD env vs) (l.l.drop i) s' = .ok ys s4 ∧ dacc ++ ys = ys0 := ⟨_, rfl⟩
      refine ⟨fun i m H => m = l.l.length - i ∧ i ≤ l.l.length ∧ Pv i H, ⟨l.l.length, by simp, Nat.zero_le _, ?_⟩, ?_⟩
      · rw [hPv]
        exact ⟨F1, mu1, s1, [], [], ys0, Ex.refl.poke hD, hs1.poke hFD hmD, hFD, hmD, upd_same, .nil, el, rfl⟩
      rintro i m H2 ⟨rfl, hi, pv⟩
      rw [hPv] at pv
      obtain ⟨F', mu', s', dacc, vacc, ys, x2, hs2, hf2, hm2, hd2, r2, l2, e2⟩ := pv
      by_cases hlt : i < l.l.length
      · rw [List.drop_eq_getElem_cons hlt] at l2
        unfold lcL at l2
        split at l2
        · rename_i hok
          obtain ⟨_, hw⟩ := w F' mu' s' H2 x2.le hs2 hok x2.z
          obtain ⟨hgo, hy⟩ := hw i hlt
          refine .inr ⟨hgo, Pv (i + 1), fun H' q => ⟨l.l.length - (i + 1), by omega, rfl, hlt, q⟩, fun x H' y => ?_⟩
          have key : ∀ F3 H3 d, Ex F' mu' H2 F3 mu' H3 → SR G F3 mu' s' H3 → Rep G F3 mu' d x → l.l[i]? = some d → tGV G vs g x (wipe σ vs) H3 fun σ2 H4 => wipe σ2 vs = wipe σ vs ∧ tD G t (fun _ _ _ _ => False) σ2 H4 fun b H5 =>
              if b = true then tD G e (fun _ _ _ _ => False) σ2 H5 fun y H6 => ∃ acc, H6 dA = some (.lst acc) ∧ acc.length < sizeLine ∧ Pv (i + 1) (upd H6 dA (.lst (acc ++ [y]))) else Pv (i + 1) H5 := by
            intro F3 H3 d x3 hs3 r3 ed
            have ed' : l.l[i] = d := (List.getElem?_eq_some_iff.mp ed).2
            rw [ed'] at l2
            obtain ⟨hf3, _⟩ := x3.loose hf2 hm2 (by rw [hd2]; exact fun z => nomatch z)
            have hd3 := x3.h dA _ hd2 hm2
            have x13 := hs1.trans x2 hs2 x3
            refine ⟨F3, mu', wipeD env vs, s', d, hs3, he1.mono x13.le, r3, ?_⟩
            cases eg : g d (wipeD env vs) s' with
            | none => rw [eg] at l2; cases l2
            | some q =>
              rw [eg] at l2
              obtain ⟨env1, s1'⟩ := q
              dsimp only at l2
              refine ⟨?_, fun σ2 he2 hw2 => ?_⟩
              · exact hp _ _ _ _ _ eg
              have e1' : s1' = s' := hp _ _ _ _ _ eg
              subst e1'
              refine ⟨hw2.trans wipe_idem, F3, mu', env1, s1', hs3, he2, ?_⟩
              cases et : t env1 s1' with
              | exc c2 s2 => rw [et] at l2; cases l2
              | bad => rw [et] at l2; cases l2
              | ok b s2 =>
                rw [et] at l2
                dsimp only at l2
                intro F4 mu4 H4 b' x4 hs4 r4
                have r4' : b' = b := r4
                subst r4'
                obtain ⟨hf4, hm4⟩ := x4.loose hf3 hm2 (by rw [hd3]; exact fun z => nomatch z)
                have hd4 := x4.h dA _ hd3 hm2
                have x14 := hs1.trans x13 hs3 x4
                have x34 := hs2.trans x3 hs3 x4
                by_cases hb : b' = true
                · rw [if_pos hb]
                  rw [if_pos hb] at l2
                  refine ⟨F4, mu4, env1, s2, hs4, he2.mono x4.le, ?_⟩
                  cases ee : e env1 s2 with
                  | exc c2 s2 => rw [ee] at l2; cases l2
                  | bad => rw [ee] at l2; cases l2
                  | ok y s3 =>
                    rw [ee] at l2
                    dsimp only at l2
                    intro F5 mu5 H5 v5 x5 hs5 r5
                    obtain ⟨hf5, hm5⟩ := x5.loose hf4 hm4 (by rw [hd4]; exact fun z => nomatch z)
                    have hd5 := x5.h dA _ hd4 hm4
                    have x15 := hs1.trans x14 hs4 x5
                    have x25 := hs2.trans x34 hs4 x5
                    split at l2
                    · rename_i ys' s4' el'
                      cases l2
                      have rr := (r2.mono x25.le).append (.cons r5 .nil)
                      refine ⟨vacc, hd5, ?_, ?_⟩
                      · have := congrArg List.length e2
                        rw [List.length_append, List.length_cons, r2.length] at this
                        omega
                      · rw [hPv]
                        exact ⟨F5, mu5, s3, dacc ++ [y], vacc ++ [v5], ys', x15.poke hD, hs5.poke hf5 hm5, hf5, hm5, upd_same, rr, el', by rw [List.append_assoc]; exact e2⟩
                    · cases l2
                · rw [if_neg hb]
                  rw [if_neg hb] at l2
                  rw [hPv]
                  exact ⟨F4, mu4, s2, dacc, vacc, ys, x14, hs4, hf4, hm4, hd4, r2.mono x34.le, l2, e2⟩
          rcases hy x H' y with ⟨rfl, d, ed, r⟩ | ⟨T, x1', x2', d1, d2, rfl, e3, rfl, ed, r3, r4⟩
          · exact key F' H' d Ex.refl hs2 r ed
          · have x3 := Ex.frozen (o := .tup [x1', x2']) hs2 e3
            have l3 := x3.le
            refine key _ _ _ x3 (hs2.frozen e3) (.ktup upd_same ?_) ed
            exact .cons (r3.mono l3) (.cons (r4.mono l3) .nil)
        · cases l2
      · have hi' : i = l.l.length := by omega
        subst hi'
        rw [List.drop_length] at l2
        unfold lcL at l2
        split at l2
        · rename_i hok
          cases l2
          rw [List.append_nil] at e2
          subst e2
          refine .inl ⟨(w F' mu' s4 H2 x2.le hs2 hok x2.z).1, ?_⟩
          cases m with
          | true =>
            have p2 : Post G F1 mu1 H1 (WE' W σ) (.ok (D.ref s4.length) (s4 ++ [DO.lst dacc])) Q := p1
            have x3 := x2.track (a := dA) hD
            have l3 : Le F' mu' F' (mu' ++ [dA]) := ⟨fun _ _ e => e, fun n b e => by rw [List.getElem?_append_left (List.getElem?_eq_some_iff.mp e).1]; exact e⟩
            exact p2 F' (mu' ++ [dA]) H2 (.ref dA) x3 (hs2.track hf2 hm2 hd2 (.lst (r2.mono l3))) (show Rep G _ _ _ _ from .ref (by rw [List.getElem?_append_right (by rw [hs2.len]; exact Nat.le_refl _), hs2.len, Nat.sub_self]; rfl))
          | false =>
            have p2 : Post G F1 mu1 H1 (WE' W σ) (.ok (D.lst dacc) s4) Q := p1
            have l3 : Le F' mu' (upd F' dA (.lst vacc)) mu' := ⟨fun b o e => by rw [upd_ne (fun z => by rw [z, hf2] at e; cases e)]; exact e, fun _ _ e => e⟩
            exact p2 _ mu' H2 (.ref dA) (x2.adopt hD hf2) (hs2.adopt hf2 hm2 hd2) (show Rep G _ _ _ _ from .lst upd_same (r2.mono l3))
        · cases l2
    · exact p1.elim
  · exact p1.elim
end
end Pv

set_option Elab.async false
set_option linter.all false
set_option maxRecDepth 100000
/-! Ev12: what is walked; comprehensions' rules; locks. -/
namespace Pv
open PySem PySem.Spec PyProof.Rows L2
section
variable {X : Cx} {tg e : Expr} {te : TE}
def iAny (K : PySem.W.Frag) (te : TE) : TI := fun σ H R => te σ H fun v H1 => (∃ a xs, v = .ref a ∧ SqL K H1 a xs ∧ R (Itl K a) H1) ∨ (∃ a xs, v = .ref a ∧ SqT K H1 a xs ∧ R (Itt K a) H1) ∨ (∃ x, v = .str x ∧ R (Its x) H1) ∨
  ∃ d o kvs, v = .ref d ∧ H1 d = some (.frz o (.dK kvs)) ∧ R (Itk d o kvs) H1
theorem pi_any (he : PE X e te) : PI X tg e (iAny X.K te) := by
  refine ⟨fun pins s σ H R I h => ?_⟩
  refine thn (he.run pins s σ H _ I h) fun u s1 ⟨x, H1, I1, rx, q⟩ => ?_
  rcases q with ⟨a, xs, rfl, hq, q⟩ | ⟨a, xs, rfl, hq, q⟩ | ⟨z, rfl, q⟩ | ⟨d, o, kvs, rfl, hd, q⟩
  · obtain rfl : u = Value.ref a := rx
    obtain ⟨its, rv, p, hz⟩ := I1.list hq
    exact wpAny_pyIter_list p.isList (pi_one (tk := s1.toks) I1 _ (turn_list a _) ⟨_, Heap.get?_push_size _ rfl, rfl, rfl⟩ q)
  · obtain rfl : u = Value.ref a := rx
    obtain ⟨its, rv, p, hz⟩ := I1.tuple hq
    exact wpAny_pyIter_tuple (show s1.heap.IsTuple a its.toArray from p) (pi_one (tk := s1.toks) I1 _ (turn_tuple a _) ⟨_, Heap.get?_push_size _ rfl, rfl, rfl⟩ q)
  · obtain ⟨t, rfl⟩ := rx
    cases ha : z.cps.all (· < 128)
    · exact wpAny_pyIter_wide ha (pi_one (tk := s1.toks) I1 _ (turn_str _ z t "str_iterator" (.inr rfl)) ⟨_, Heap.get?_push_size _ rfl, rfl, rfl⟩ q)
    · exact wpAny_pyIter_ascii ha (pi_one (tk := s1.toks) I1 _ (turn_str _ z t "str_ascii_iterator" (.inl rfl)) ⟨_, Heap.get?_push_size _ rfl, rfl, rfl⟩ q)
  · obtain rfl : u = Value.ref d := rx
    obtain ⟨hs, hgd, hx, es, ep, vs, hdt, hsz, kv, hm⟩ := I1.frzK hd
    refine iter_keys hs hgd hx hdt (pi_one (tk := s1.toks) I1 _ (turn_keys _ hdt) ⟨_, Heap.get?_push_size _ rfl, rfl, ?_⟩ q)
    rw [hsz] <;> rfl
end
section
variable {G : Gl} {k : Nat} {c : Ct} {f g h : EV D} {a b e : Expr} {pos p : Pos}
/-- the items of a value -/
def itemsOf (d : D) (s : DS) : Option Items := match d with
  | .tup xs => some ⟨xs, []⟩
  | .ktup xs => some ⟨xs, []⟩
  | .lst xs => some ⟨xs, []⟩
  | .scr ns => some ⟨ns.map .int, []⟩
  | .str z => some ⟨z.cps.toList.map fun c => .str ⟨#[c]⟩, []⟩
  | .dct ks _ => some ⟨ks.map keyD, []⟩
  | .ref n => match s[n]? with
    | some (.lst xs) => some ⟨xs, [(n, xs)]⟩
    | some (.fdct ks _) => some ⟨ks.map keyD, []⟩
    | _ => none
  | _ => none
theorem walk_lst {F H0 : Hp} {mu : List Addr} {l : List D} {vs : List V} {a : Addr} (h : ∀ H, (∀ b o, F b = some o → H b = some o) → SqL G.K H a vs) (r : RepL G F mu l vs) : WalkD G F mu H0 ⟨l, []⟩ (Itl G.K a) := by
  refine WalkD.of (Gd := fun H => SqL G.K H a vs) (Y := YAt vs) (by rw [r.length]; exact walk_list) h fun i H x H' y => .inl ⟨y.1, ?_⟩
  have hl := (List.getElem?_eq_some_iff.mp y.2).1
  obtain ⟨v, h1, h2⟩ := r.get (List.getElem?_eq_getElem (by rw [r.length]; exact hl))
  rw [y.2] at h1; cases h1
  exact ⟨_, List.getElem?_eq_getElem (by rw [r.length]; exact hl), h2⟩
theorem walk_tp {F H0 : Hp} {mu : List Addr} {l : List D} {vs : List V} {a : Addr} (h : ∀ H, (∀ b o, F b = some o → H b = some o) → SqT G.K H a vs) (r : RepL G F mu l vs) : WalkD G F mu H0 ⟨l, []⟩ (Itt G.K a) := by
  refine WalkD.of (Gd := fun H => SqT G.K H a vs) (Y := YAt vs) (by rw [r.length]; exact walk_tup) h fun i H x H' y => .inl ⟨y.1, ?_⟩
  have hl := (List.getElem?_eq_some_iff.mp y.2).1
  obtain ⟨v, h1, h2⟩ := r.get (List.getElem?_eq_getElem (by rw [r.length]; exact hl))
  rw [y.2] at h1; cases h1
  exact ⟨_, List.getElem?_eq_getElem (by rw [r.length]; exact hl), h2⟩
theorem walk_ref {F H0 : Hp} {mu : List Addr} {n : Nat} {xs : List D} {a : Addr} (em : mu[n]? = some a) : WalkD G F mu H0 ⟨xs, [(n, xs)]⟩ (Itl G.K a) := by
  intro F' mu' s H le hs ho _
  have en := ho (n, xs) (List.mem_cons_self ..)
  obtain ⟨_, hob, h1, h2⟩ := hs.live _ _ _ en (fun z => nomatch z) (le.m _ _ em)
  cases h2 with
  | lst r =>
  rename_i vs
  have sq : SqL G.K H a vs := SqL.of h1
  refine ⟨⟨vs, sq, by rw [← r.length]; exact Nat.le_refl _⟩, fun i hi => ⟨?_, fun x H' y => .inl ⟨y.1, ?_⟩⟩⟩
  · obtain ⟨v, e1, _⟩ := r.get (List.getElem?_eq_getElem hi)
    exact ⟨vs, v, sq, e1⟩
  · obtain ⟨v, e1, e2⟩ := r.get (List.getElem?_eq_getElem hi)
    have q := y.2 vs sq
    rw [e1] at q; cases q
    exact ⟨_, List.getElem?_eq_getElem hi, e2⟩
theorem walk_keyD {F H0 : Hp} {mu : List Addr} {ks : List Key} {vs : List V} {d : Addr} {o : Obj} (hl : ks.length = vs.length) (h : ∀ H : Hp, (∀ b o, F b = some o → H b = some o) → (∀ a o u, H0 a = some (.frz o u) → H a = some (.frz o u)) → H d = some (.frz o (.dK (ks.zip vs)))) : WalkD G F mu H0 ⟨ks.map keyD, []⟩ (Itk d o (ks.zip vs)) := by
  intro F' mu' s H le hs _ hz
  have q := h H (fun b o e => hs.sub b o (le.f b o e)) hz
  have zl : (ks.zip vs).length = (ks.map keyD).length := by rw [List.length_zip, ← hl, Nat.min_self, List.length_map]
  refine ⟨⟨q, by rw [zl]; exact Nat.le_refl _⟩, fun i hi => ⟨⟨q, by rw [zl]; exact hi⟩, fun x H' y => .inl ?_⟩⟩
  obtain ⟨rfl, kk, v, e1, rfl⟩ := y
  refine ⟨rfl, keyD kk, ?_, ?_⟩
  · obtain ⟨i1, _⟩ := List.getElem?_zip_eq_some.mp e1
    rw [List.getElem?_map, i1]; rfl
  · cases kk with
    | inl i => exact .int i
    | inr x => exact .str x
theorem walk_strD {F H0 : Hp} {mu : List Addr} {z : Str} : WalkD G F mu H0 ⟨z.cps.toList.map fun c => .str ⟨#[c]⟩, []⟩ (Its z) := by
  refine WalkD.of (Gd := fun _ => True) (Y := fun i H v H' => H' = H ∧ ∃ c, z.cps[i]? = some c ∧ v = .str ⟨#[c]⟩) (by rw [List.length_map, Array.length_toList]; exact walk_str) (fun _ _ => trivial) fun i H x H' y => .inl ?_
  obtain ⟨rfl, c, e, rfl⟩ := y
  exact ⟨rfl, .str ⟨#[c]⟩, by rw [List.getElem?_map, Array.getElem?_toList, e]; rfl, .str _⟩
def iVal (f : EV D) : EV Items := fun env s => (f env s).bind fun d s1 => match itemsOf d s1 with
  | some l => .ok l s1
  | none => .bad
theorem pi_dval {tg : Expr} (ha : PEd G k c f a) : PId G k c (iVal f) tg a := fun X W ok => PI.by (pi_any (ha X W ok)) fun σ H Q q => by
  obtain ⟨F, mu, env, s, hs, he, p⟩ := q
  refine ⟨F, mu, env, s, hs, he, Post.bind hs p fun F1 mu1 H1 d v s1 x1 hs1 r1 p1 => ?_⟩
  have r1' : Rep G F1 mu1 d v := r1
  try dsimp only at p1
  rw [ok.K]
  have fin : ∀ {l : Items} {J : It}, Post G F1 mu1 H1 (WE' W σ) (.ok l s1) Q → WalkD G F1 mu1 H1 l J → Q J H1 := fun p w => p F1 mu1 H1 _ Ex.refl hs1 w
  cases r1' with
  | tup q r => exact .inr (.inl ⟨_, _, rfl, hs1.sqT q, fin p1 (walk_tp (fun H z => (q.mono z).sqT) r)⟩)
  | ktup q r => exact .inr (.inl ⟨_, _, rfl, SqT.of (hs1.sub _ _ q), fin p1 (walk_tp (fun H z => SqT.of (z _ _ q)) r)⟩)
  | lst q r => exact .inl ⟨_, _, rfl, SqL.of (hs1.sub _ _ q), fin p1 (walk_lst (fun H z => SqL.of (z _ _ q)) r)⟩
  | scr q => exact .inl ⟨_, _, rfl, hs1.sqL q, fin p1 (walk_lst (fun H z => Le.sqL z q) (RepL.of_ints _))⟩
  | str z => exact .inr (.inr (.inl ⟨z, rfl, fin p1 walk_strD⟩))
  | dct q hl r => exact .inr (.inr (.inr ⟨_, _, _, rfl, hs1.sub _ _ q, fin p1 (walk_keyD hl fun H z _ => z _ _ q)⟩))
  | ref em =>
    rename_i n a
    simp only [itemsOf] at p1
    cases en : s1[n]? with
    | none => rw [en] at p1; exact p1.elim
    | some o =>
      rw [en] at p1
      cases o with
      | lst xs =>
        obtain ⟨_, ho, h1, h2⟩ := hs1.live _ _ _ en (fun z => nomatch z) em
        cases h2 with
        | lst r => exact .inl ⟨_, _, rfl, SqL.of h1, fin p1 (walk_ref em)⟩
      | fdct ks xs =>
        obtain ⟨_, ho, h1, h2⟩ := hs1.live _ _ _ en (fun z => nomatch z) em
        cases h2 with
        | fdct hl r => exact .inr (.inr (.inr ⟨_, _, _, rfl, h1, fin p1 (walk_keyD hl fun H _ z => z _ _ _ h1)⟩))
      | dct ks xs => exact p1.elim
      | ins c' ks xs => exact p1.elim
      | dead => exact p1.elim
  | _ => exact p1.elim
/-- range -/
def rngL (lo : Int) (n : Nat) : List D := (List.range n).map fun (i : Nat) => .int (lo + i)
def itRng1 : List D → Option Items
  | [.int j] => if -(2 ^ 62) ≤ j ∧ j < 2 ^ 62 then some ⟨rngL 0 j.toNat, []⟩ else none
  | _ => none
def itRng2 : List D → Option Items
  | [.int i, .int j] => if -(2 ^ 62) ≤ i ∧ i < 2 ^ 62 ∧ -(2 ^ 62) ≤ j ∧ j < 2 ^ 62 then some ⟨rngL i (j - i).toNat, []⟩ else none
  | _ => none
def itRng3 : List D → Option Items
  | [.int i, .int j, .int (-1)] => if -(2 ^ 62) ≤ i ∧ i < 2 ^ 62 ∧ -(2 ^ 62) ≤ j ∧ j < 2 ^ 62 then some ⟨(List.range (i - j).toNat).map fun (m : Nat) => .int (i - m), []⟩ else none
  | _ => none
def iRng (o : List D → Option Items) (fs : EV (List D)) : EV Items := fun env s => (fs env s).bind fun ds s1 => match o ds with
  | some l => .ok l s1
  | none => .bad
theorem walk_rng {F H0 : Hp} {mu : List Addr} {lo : Int} {n : Nat} : WalkD G F mu H0 ⟨rngL lo n, []⟩ (Itr lo n) := by
  refine WalkD.of (Gd := fun _ => True) (Y := fun i H x H' => i < n ∧ H' = H ∧ x = .int (lo + i)) (by
    have e : (rngL lo n).length = n := by unfold rngL; simp
    rw [e]
    exact ⟨fun _ _ hi _ => hi, fun _ _ => Nat.le_refl _, fun _ _ _ _ hi _ y => ⟨hi, y⟩⟩) (fun _ _ => trivial) fun i H x H' y => .inl ?_
  obtain ⟨hi, rfl, rfl⟩ := y
  exact ⟨rfl, .int (lo + i), by unfold rngL; rw [List.getElem?_map, List.getElem?_range hi]; rfl, .int _⟩
theorem gl_of {X : Cx} {W : WX} (ok : XOk G k c X W) {x : Str} (hg : c.sc.names.lookup x = some .globalImplicit) : L2.Gl X x := by
  show X.env.scope.names.lookup x = _
  rw [ok.sc]; exact hg
theorem tD_iRng {o : List D → Option Items} {fs : EV (List D)} {W : WX} {σ : L2.St} {H : Hp} {Q : It → Hp → Prop} (q : tD G (iRng o fs) W σ H Q) : tD G fs W σ H fun vs H1 => ∃ F mu s d l, SR G F mu s H1 ∧ RepL G F mu d vs ∧ o d = some l ∧ ∀ J, WalkD G F mu H1 l J → Q J H1 := by
  obtain ⟨F, mu, env, s, hs, he, p⟩ := q
  refine ⟨F, mu, env, s, hs, he, Post.bind hs p fun F1 mu1 H1 d v s1 x1 hs1 r1 p1 => ?_⟩
  try dsimp only at p1
  cases el : o d with
  | none => rw [el] at p1; exact p1.elim
  | some l =>
    rw [el] at p1
    exact ⟨F1, mu1, s1, d, l, hs1, r1, el, fun J w => p1 F1 mu1 H1 J Ex.refl hs1 w⟩
theorem tD_imp {α β : Type} [RepC G α β] {f : EV α} {W : WX} {σ : L2.St} {H : Hp} {Q Q' : β → Hp → Prop} (q : tD G f W σ H Q) (h : ∀ v H', Q v H' → Q' v H') : tD G f W σ H Q' := by
  obtain ⟨F, mu, env, s, hs, he, p⟩ := q
  exact ⟨F, mu, env, s, hs, he, p.imp h⟩
theorem pi_drng1 {tg : Expr} {fs : EV (List D)} (hg : c.sc.names.lookup ("range" : Str) = some .globalImplicit) (hm : G.mg "range" = none) (ha : PAd G k c fs [a]) (hs : notStar a = true) : PId G k c (iRng itRng1 fs) tg (.Call (.Name "range" p) [a] [] pos) := fun X W ok => by
  refine PI.by (pi_range1 (gl_of ok hg) (by rw [ok.mg]; exact hm) (ha X W ok) (starEach_cons hs)) fun σ H Q q => tD_imp (tD_iRng q) fun vs H1 z => ?_
  obtain ⟨F, mu, s, d, l, hs1, r1, el, hw⟩ := z
  unfold itRng1 at el
  split at el
  · obtain ⟨w, rfl, r⟩ := r1.inv1
    cases r
    split at el
    · rename_i z
      cases el
      exact ⟨_, rfl, z.1, z.2, hw _ walk_rng⟩
    · cases el
  · cases el
theorem pi_drng2 {tg : Expr} {fs : EV (List D)} (hg : c.sc.names.lookup ("range" : Str) = some .globalImplicit) (hm : G.mg "range" = none) (ha : PAd G k c fs [a, b]) (hs : notStar a = true) (hs2 : notStar b = true) : PId G k c (iRng itRng2 fs) tg (.Call (.Name "range" p) [a, b] [] pos) := fun X W ok => by
  refine PI.by (pi_range2 (gl_of ok hg) (by rw [ok.mg]; exact hm) (ha X W ok) (by rw [starEach_cons hs, starEach_cons hs2]; rfl) (starEach_cons hs2)) fun σ H Q q => tD_imp (tD_iRng q) fun vs H1 z => ?_
  obtain ⟨F, mu, s, d, l, hs1, r1, el, hw⟩ := z
  unfold itRng2 at el
  split at el
  · obtain ⟨w, w2, rfl, r, r2⟩ := r1.inv2
    cases r; cases r2
    split at el
    · rename_i z
      cases el
      exact ⟨_, _, rfl, z, hw _ walk_rng⟩
    · cases el
  · cases el
theorem walk_rngN {F H0 : Hp} {mu : List Addr} {lo : Int} {n : Nat} : WalkD G F mu H0 ⟨(List.range n).map fun (m : Nat) => .int (lo - m), []⟩ (Itc lo (-1) n) := by
  refine WalkD.of (Gd := fun _ => True) (Y := fun i H x H' => i < n ∧ H' = H ∧ x = .int (lo + (i : Nat) * (-1))) (by
    have e : ((List.range n).map fun (m : Nat) => D.int (lo - m)).length = n := by simp
    rw [e]
    exact ⟨fun _ _ hi _ => hi, fun _ _ => Nat.le_refl _, fun _ _ _ _ hi _ y => ⟨hi, y⟩⟩) (fun _ _ => trivial) fun i H x H' y => .inl ?_
  obtain ⟨hi, rfl, rfl⟩ := y
  refine ⟨rfl, .int (lo - i), by rw [List.getElem?_map, List.getElem?_range hi]; rfl, ?_⟩
  rw [show lo + (i : Int) * (-1) = lo - i by omega]
  exact .int _
theorem RepL.inv3 {F : Hp} {mu : List Addr} {d e f : D} {vs : List V} (r : RepL G F mu [d, e, f] vs) : ∃ v w u, vs = [v, w, u] ∧ Rep G F mu d v ∧ Rep G F mu e w ∧ Rep G F mu f u := by
  cases r with
  | cons h t =>
    obtain ⟨w, u, rfl, r1, r2⟩ := t.inv2
    exact ⟨_, w, u, rfl, h, r1, r2⟩
theorem pi_drng3 {tg b2 : Expr} {fs : EV (List D)} (hg : c.sc.names.lookup ("range" : Str) = some .globalImplicit) (hm : G.mg "range" = none) (ha : PAd G k c fs [a, b, b2]) (hs : notStar a = true) (hs2 : noStars [b, b2] = true) : PId G k c (iRng itRng3 fs) tg (.Call (.Name "range" p) [a, b, b2] [] pos) := fun X W ok => by
  refine PI.by (pi_range3 (gl_of ok hg) (by rw [ok.mg]; exact hm) (ha X W ok) (starEach_cons hs) (backTo_plain hs2)) fun σ H Q q => tD_imp (tD_iRng q) fun vs H1 z => ?_
  obtain ⟨F, mu, s, d, l, hs1, r1, el, hw⟩ := z
  unfold itRng3 at el
  split at el
  · obtain ⟨w, w2, w3, rfl, r, r2, r3⟩ := r1.inv3
    cases r; cases r2; cases r3
    split at el
    · rename_i z
      cases el
      exact ⟨_, _, _, _, rfl, RgC.neg z.1 z.2.1 z.2.2.1 z.2.2.2, hw _ walk_rngN⟩
    · cases el
  · cases el
/-! ### zip, enumerate, reversed -/
def pairsL : List D → List D → List D
  | x :: xs, y :: ys => .ktup [x, y] :: pairsL xs ys
  | _, _ => []
theorem pairs_len : ∀ {xs ys : List D}, (pairsL xs ys).length = min xs.length ys.length
  | [], _ => by simp [pairsL]
  | _ :: _, [] => by simp [pairsL]
  | x :: xs, y :: ys => by
    show (pairsL xs ys).length + 1 = _
    rw [pairs_len, List.length_cons, List.length_cons]; omega
theorem pairs_get : ∀ {xs ys : List D} {i : Nat} {x y : D}, xs[i]? = some x → ys[i]? = some y → (pairsL xs ys)[i]? = some (.ktup [x, y])
  | [], _, _, _, _, h, _ => by simp at h
  | _ :: _, [], _, _, _, _, h => by simp at h
  | a :: xs, b :: ys, 0, x, y, h1, h2 => by
    simp at h1 h2; subst h1; subst h2; rfl
  | a :: xs, b :: ys, i + 1, x, y, h1, h2 => by
    show (pairsL xs ys)[i]? = _
    exact pairs_get (by simpa using h1) (by simpa using h2)
/-- a list that is read at every turn: frozen, or guarded -/
structure LstAt (G : Gl) (F : Hp) (mu : List Addr) (lv : List (Nat × List D)) (xs : List D) (a : Addr) : Prop where
  at_ : ∀ (F' : Hp) (mu' : List Addr) (s : DS) (H : Hp), Le F mu F' mu' → SR G F' mu' s H → okL lv s → ∃ vs, SqL G.K H a vs ∧ RepL G F' mu' xs vs
def lstG (d : D) (s : DS) : Option (List D × List (Nat × List D)) := match d with
  | .lst xs => some (xs, [])
  | .scr ns => some (ns.map .int, [])
  | .ref n => match s[n]? with
    | some (.lst xs) => some (xs, [(n, xs)])
    | _ => none
  | _ => none
theorem lstG_ok {F : Hp} {mu : List Addr} {s : DS} {H : Hp} {d : D} {v : V} {xs : List D} {lv : List (Nat × List D)} (hs : SR G F mu s H) (r : Rep G F mu d v) (h : lstG d s = some (xs, lv)) : ∃ a, v = .ref a ∧ LstAt G F mu lv xs a ∧ okL lv s := by
  cases r with
  | lst q r => cases h; exact ⟨_, rfl, ⟨fun F' mu' s H le hs _ => ⟨_, SqL.of (hs.sub _ _ (le.f _ _ q)), r.mono le⟩⟩, okL_nil⟩
  | scr q => cases h; exact ⟨_, rfl, ⟨fun F' mu' s H le hs _ => ⟨_, hs.sqL (Le.sqL le.f q), RepL.of_ints _⟩⟩, okL_nil⟩
  | ref em =>
    simp only [lstG] at h
    split at h
    · rename_i en
      cases h
      refine ⟨_, rfl, ⟨fun F' mu' s' H' le hs' ho => ?_⟩, fun p hp => by rw [List.mem_singleton.mp hp]; exact en⟩
      obtain ⟨_, ho, h1, h2⟩ := hs'.live _ _ _ (ho _ (List.mem_singleton.mpr rfl)) (fun z => nomatch z) (le.m _ _ em)
      cases h2 with
      | lst r => exact ⟨_, SqL.of h1, r⟩
    · cases h
  | _ => cases h
def ezip : List D → DS → Option Items
  | [a, b], s => match tupOf a, tupOf b with
    | some xs, some ys => some ⟨pairsL xs ys, []⟩
    | _, _ => (lstG a s).bind fun p => (lstG b s).map fun q => ⟨pairsL p.1 q.1, p.2 ++ q.2⟩
  | _, _ => none
def iZipD (fs : EV (List D)) : EV Items := fun env s => (fs env s).bind fun ds s1 => match ezip ds s1 with
  | some l => .ok l s1
  | none => .bad
theorem okL_app {a b : List (Nat × List D)} {s : DS} (h : okL (a ++ b) s) : okL a s ∧ okL b s := ⟨fun p hp => h p (List.mem_append_left _ hp), fun p hp => h p (List.mem_append_right _ hp)⟩
theorem walk_zipD {F H0 : Hp} {mu : List Addr} {l1 l2 : List (Nat × List D)} {xs ys : List D} {a b : Addr} (h1 : LstAt G F mu l1 xs a) (h2 : LstAt G F mu l2 ys b) : WalkD G F mu H0 ⟨pairsL xs ys, l1 ++ l2⟩ (Itz G.K a b) := by
  intro F' mu' s H le hs ho _
  obtain ⟨o1, o2⟩ := okL_app ho
  obtain ⟨vs, q1, r1⟩ := h1.at_ F' mu' s H le hs o1
  obtain ⟨ws, q2, r2⟩ := h2.at_ F' mu' s H le hs o2
  have e1 := r1.length
  have e2 := r2.length
  refine ⟨⟨vs, ws, q1, q2, ?_⟩, fun i hi => ?_⟩
  · show _ ≤ (pairsL xs ys).length ∨ _
    rw [pairs_len]; omega
  have hi' : i < (pairsL xs ys).length := hi
  rw [pairs_len] at hi'
  have g1 := List.getElem?_eq_getElem (l := xs) (i := i) (by omega)
  have g2 := List.getElem?_eq_getElem (l := ys) (i := i) (by omega)
  obtain ⟨v, ev, rv⟩ := r1.get g1
  obtain ⟨w, ew, rw_⟩ := r2.get g2
  refine ⟨⟨vs, ws, v, w, q1, q2, ev, ew⟩, fun x H' y => .inr ?_⟩
  obtain ⟨T, x1, x2, rfl, hT, rfl, y1, y2⟩ := y
  have z1 := y1 vs q1
  have z2 := y2 ws q2
  rw [ev] at z1; rw [ew] at z2
  cases z1; cases z2
  exact ⟨T, _, _, _, _, rfl, hT, rfl, pairs_get g1 g2, rv, rw_⟩
theorem walk_zipT {F H0 : Hp} {mu : List Addr} {xs ys : List D} {vs ws : List V} {a b : Addr} (h1 : ∀ H, (∀ b o, F b = some o → H b = some o) → SqT G.K H a vs) (h2 : ∀ H, (∀ b o, F b = some o → H b = some o) → SqT G.K H b ws) (r1 : RepL G F mu xs vs) (r2 : RepL G F mu ys ws) : WalkD G F mu H0 ⟨pairsL xs ys, []⟩ (RZ.ItzT G.K a b) := by
  intro F' mu' s H le hs ho _
  have q1 := h1 H fun b o e => hs.sub b o (le.f b o e)
  have q2 := h2 H fun b o e => hs.sub b o (le.f b o e)
  have r1 := r1.mono le
  have r2 := r2.mono le
  have e1 := r1.length
  have e2 := r2.length
  refine ⟨⟨vs, ws, q1, q2, ?_⟩, fun i hi => ?_⟩
  · show _ ≤ (pairsL xs ys).length ∨ _
    rw [pairs_len]; omega
  have hi' : i < (pairsL xs ys).length := hi
  rw [pairs_len] at hi'
  have g1 := List.getElem?_eq_getElem (l := xs) (i := i) (by omega)
  have g2 := List.getElem?_eq_getElem (l := ys) (i := i) (by omega)
  obtain ⟨v, ev, rv⟩ := r1.get g1
  obtain ⟨w, ew, rw_⟩ := r2.get g2
  refine ⟨⟨vs, ws, v, w, q1, q2, ev, ew⟩, fun x H' y => .inr ?_⟩
  obtain ⟨T, x1, x2, rfl, hT, rfl, y1, y2⟩ := y
  have z1 := y1 vs q1
  have z2 := y2 ws q2
  rw [ev] at z1; rw [ew] at z2
  cases z1; cases z2
  exact ⟨T, _, _, _, _, rfl, hT, rfl, pairs_get g1 g2, rv, rw_⟩
theorem pi_dzip {fs : EV (List D)} {elts : List Expr} {kk : Nat} {tpos : Pos} (hg : c.sc.names.lookup ("zip" : Str) = some .globalImplicit) (hm : G.mg "zip" = none) (ha : PAd G k c fs [a, b]) (hs : noStars [a, b] = true) : PId G k c (iZipD fs) (.Tuple elts kk tpos) (.Call (.Name "zip" p) [a, b] [] pos) := fun X W ok => by
  have h2 : notStar a = true ∧ noStars [b] = true := by simpa [noStars] using hs
  refine PI.by (RZ.pi_zipA (gl_of ok hg) (by rw [ok.mg]; exact hm) (ha X W ok) (starEach_cons h2.1) (backTo_plain h2.2)) fun σ H Q q => ?_
  obtain ⟨F, mu, env, s, hs, he, p⟩ := q
  refine ⟨F, mu, env, s, hs, he, Post.bind hs p fun F1 mu1 H1 d v s1 x1 hs1 r1 p1 => ?_⟩
  have r1' : RepL G F1 mu1 d v := r1
  try dsimp only at p1
  cases el : ezip d s1 with
  | none => rw [el] at p1; exact p1.elim
  | some l =>
    rw [el] at p1
    have fin : ∀ {J : It}, WalkD G F1 mu1 H1 l J → Q J H1 := fun w => p1 F1 mu1 H1 _ Ex.refl hs1 w
    unfold ezip at el
    split at el
    · obtain ⟨w1, w2, rfl, q1, q2⟩ := r1'.inv2
      split at el
      · rename_i xs ys e1 e2
        cases el
        obtain ⟨a1, vs, rfl, t1, u1⟩ := tupOf_ok hs1 q1 e1
        obtain ⟨a2, ws, rfl, t2, u2⟩ := tupOf_ok hs1 q2 e2
        have f1 : ∀ {d : D} {x : Addr} {xs : List D} {vs : List V}, Rep G F1 mu1 d (.ref x) → tupOf d = some xs → RepL G F1 mu1 xs vs → SqT G.K H1 x vs → ∃ vs', (∀ H, (∀ b o, F1 b = some o → H b = some o) → SqT G.K H x vs') ∧ RepL G F1 mu1 xs vs' := by
          intro d x xs vs r e _ _
          cases r with
          | tup q r => cases e; exact ⟨_, fun H z => (q.mono z).sqT, r⟩
          | ktup q r => cases e; exact ⟨_, fun H z => SqT.of (z _ _ q), r⟩
          | _ => cases e
        obtain ⟨vs', g1, g2⟩ := f1 q1 e1 u1 t1
        obtain ⟨ws', g3, g4⟩ := f1 q2 e2 u2 t2
        refine ⟨a1, a2, vs', ws', rfl, .inr ⟨?_, ?_, ?_⟩⟩
        · rw [ok.K]; exact g1 H1 hs1.sub
        · rw [ok.K]; exact g3 H1 hs1.sub
        · rw [ok.K]; exact fin (walk_zipT g1 g3 g2 g4)
      · obtain ⟨⟨xs, l1⟩, e1, el⟩ := Option.bind_eq_some_iff.mp el
        obtain ⟨⟨ys, l2⟩, e2, el⟩ := Option.map_eq_some_iff.mp el
        subst el
        obtain ⟨a1, rfl, t1, o1⟩ := lstG_ok hs1 q1 e1
        obtain ⟨a2, rfl, t2, o2⟩ := lstG_ok hs1 q2 e2
        have le : Le F1 mu1 F1 mu1 := ⟨fun _ _ e => e, fun _ _ e => e⟩
        obtain ⟨vs, z1, _⟩ := t1.at_ F1 mu1 s1 H1 le hs1 o1
        obtain ⟨ws, z2, _⟩ := t2.at_ F1 mu1 s1 H1 le hs1 o2
        rw [ok.K]
        exact ⟨a1, a2, vs, ws, rfl, .inl ⟨z1, z2, fin (walk_zipD t1 t2)⟩⟩
    · cases el
/-- enumerate of a list -/
def enumL (i : Nat) : List D → List D
  | [] => []
  | x :: r => .ktup [.int (i : Nat), x] :: enumL (i + 1) r
theorem enum_len : ∀ {xs : List D} {i : Nat}, (enumL i xs).length = xs.length
  | [], _ => rfl
  | _ :: r, i => by show (enumL (i + 1) r).length + 1 = _; rw [enum_len]; rfl
theorem enum_get : ∀ {xs : List D} {i j : Nat} {x : D}, xs[j]? = some x → (enumL i xs)[j]? = some (.ktup [.int ((i + j : Nat) : Int), x])
  | [], _, _, _, h => by simp at h
  | a :: r, i, 0, x, h => by simp at h; subst h; rfl
  | a :: r, i, j + 1, x, h => by
    show (enumL (i + 1) r)[j]? = _
    rw [enum_get (by simpa using h), show i + 1 + j = i + (j + 1) by omega]
def iEnumD (f : EV D) : EV Items := fun env s => (f env s).bind fun d s1 => match lstG d s1 with
  | some (xs, lv) => .ok ⟨enumL 0 xs, lv⟩ s1
  | none => .bad
theorem pi_denum {elts : List Expr} {kk : Nat} {tpos : Pos} (hg : c.sc.names.lookup ("enumerate" : Str) = some .globalImplicit) (hm : G.mg "enumerate" = none) (ha : PEd G k c f a) (hs : notStar a = true) : PId G k c (iEnumD f) (.Tuple elts kk tpos) (.Call (.Name "enumerate" p) [a] [] pos) := fun X W ok => by
  refine PI.by (pi_enum (gl_of ok hg) (by rw [ok.mg]; exact hm) (pa_cons (ha X W ok) pa_nil (starEach_cons hs)) (starEach_cons hs)) fun σ H Q q => ?_
  obtain ⟨F, mu, env, s, hs, he, p⟩ := q
  refine ⟨F, mu, env, s, hs, he, Post.bind hs p fun F1 mu1 H1 d v s1 x1 hs1 r1 p1 => ?_⟩
  have r1' : Rep G F1 mu1 d v := r1
  try dsimp only at p1
  cases el : lstG d s1 with
  | none => rw [el] at p1; exact p1.elim
  | some q =>
    obtain ⟨xs, lv⟩ := q
    rw [el] at p1
    obtain ⟨a1, rfl, t1, o1⟩ := lstG_ok hs1 r1' el
    obtain ⟨vs, z1, _⟩ := t1.at_ F1 mu1 s1 H1 ⟨fun _ _ e => e, fun _ _ e => e⟩ hs1 o1
    refine ⟨a1, vs, rfl, by rw [ok.K]; exact z1, p1 F1 mu1 H1 _ Ex.refl hs1 ?_⟩
    rw [ok.K]
    intro F' mu' s H le hs' ho _
    obtain ⟨vs, q1, r1⟩ := t1.at_ F' mu' s H le hs' ho
    have e1 := r1.length
    refine ⟨⟨vs, q1, ?_⟩, fun i hi => ?_⟩
    · show _ ≤ (enumL 0 xs).length
      rw [enum_len]; omega
    have hi' : i < (enumL 0 xs).length := hi
    rw [enum_len] at hi'
    have g1 := List.getElem?_eq_getElem hi'
    obtain ⟨v, ev, rv⟩ := r1.get g1
    refine ⟨⟨vs, v, q1, ev⟩, fun x H' y => .inr ?_⟩
    obtain ⟨T, x1, rfl, hT, rfl, y1⟩ := y
    have z1 := y1 vs q1
    rw [ev] at z1
    cases z1
    refine ⟨T, _, _, _, _, rfl, hT, rfl, enum_get (i := 0) g1, ?_, rv⟩
    rw [Nat.zero_add]; exact .int _
/-- reversed -/
def iRevD (f : EV D) : EV Items := fun env s => (f env s).bind fun d s1 => match tupOf d with
  | some xs => .ok ⟨xs.reverse, []⟩ s1
  | none => match lstG d s1 with
    | some (xs, lv) => .ok ⟨xs.reverse, lv⟩ s1
    | none => .bad
theorem rev_get {α : Type} {xs : List α} {i : Nat} (h : i < xs.length) : xs.reverse[i]? = xs[xs.length - 1 - i]? := by
  rw [List.getElem?_reverse h]
theorem pi_drev {tg : Expr} (hg : c.sc.names.lookup ("reversed" : Str) = some .globalImplicit) (hm : G.mg "reversed" = none) (ha : PEd G k c f a) (hs : notStar a = true) : PId G k c (iRevD f) tg (.Call (.Name "reversed" p) [a] [] pos) := fun X W ok => by
  refine PI.by (RT.pi_revA (gl_of ok hg) (by rw [ok.mg]; exact hm) (ha X W ok) (starEach_cons hs)) fun σ H Q q => ?_
  obtain ⟨F, mu, env, s, hs, he, p⟩ := q
  refine ⟨F, mu, env, s, hs, he, Post.bind hs p fun F1 mu1 H1 d v s1 x1 hs1 r1 p1 => ?_⟩
  have r1' : Rep G F1 mu1 d v := r1
  try dsimp only at p1
  rw [ok.K]
  cases et : tupOf d with
  | some xs =>
    rw [et] at p1
    have f1 : ∃ a vs, v = .ref a ∧ (∀ H, (∀ b o, F1 b = some o → H b = some o) → SqT G.K H a vs) ∧ RepL G F1 mu1 xs vs := by
      cases r1' with
      | tup q r => cases et; exact ⟨_, _, rfl, fun H z => (q.mono z).sqT, r⟩
      | ktup q r => cases et; exact ⟨_, _, rfl, fun H z => SqT.of (z _ _ q), r⟩
      | _ => cases et
    obtain ⟨a1, vs, rfl, g1, g2⟩ := f1
    refine ⟨a1, vs, rfl, .inr ⟨g1 H1 hs1.sub, p1 F1 mu1 H1 _ Ex.refl hs1 ?_⟩⟩
    intro F' mu' s H le hs' ho _
    have q1 := g1 H fun b o e => hs'.sub b o (le.f b o e)
    have r1 := g2.mono le
    have e1 := r1.length
    refine ⟨?_, fun i hi => ?_⟩
    · show vs.length ≤ xs.reverse.length
      rw [List.length_reverse]; omega
    have hi' : i < xs.reverse.length := hi
    rw [List.length_reverse] at hi'
    have g1 := List.getElem?_eq_getElem (l := xs) (i := xs.length - 1 - i) (by omega)
    obtain ⟨v, ev, rv⟩ := r1.get g1
    rw [e1] at ev
    refine ⟨⟨by omega, vs, v, q1, ev⟩, fun x H' y => .inl ⟨y.1, _, (rev_get hi').trans g1, ?_⟩⟩
    have z1 := y.2 vs q1
    rw [ev] at z1
    cases z1
    exact rv
  | none =>
    rw [et] at p1
    cases el : lstG d s1 with
    | none => rw [el] at p1; exact p1.elim
    | some q =>
      obtain ⟨xs, lv⟩ := q
      rw [el] at p1
      obtain ⟨a1, rfl, t1, o1⟩ := lstG_ok hs1 r1' el
      obtain ⟨vs0, z0, r0⟩ := t1.at_ F1 mu1 s1 H1 ⟨fun _ _ e => e, fun _ _ e => e⟩ hs1 o1
      refine ⟨a1, vs0, rfl, .inl ⟨z0, p1 F1 mu1 H1 _ Ex.refl hs1 ?_⟩⟩
      rw [← r0.length]
      intro F' mu' s H le hs' ho _
      obtain ⟨vs, q1, r1⟩ := t1.at_ F' mu' s H le hs' ho
      have e1 := r1.length
      refine ⟨?_, fun i hi => ?_⟩
      · show xs.length ≤ xs.reverse.length
        rw [List.length_reverse]; omega
      have hi' : i < xs.reverse.length := hi
      rw [List.length_reverse] at hi'
      have g1 := List.getElem?_eq_getElem (l := xs) (i := xs.length - 1 - i) (by omega)
      obtain ⟨v, ev, rv⟩ := r1.get g1
      refine ⟨⟨by omega, vs, v, q1, ev⟩, fun x H' y => .inl ⟨y.1, _, (rev_get hi').trans g1, ?_⟩⟩
      have z1 := y.2 vs q1
      rw [ev] at z1
      cases z1
      exact rv
/-! ### the rules -/
def blkVs (own : List (Str × Nat)) : List Nat := own.map (·.2)
theorem pe_dlc {m : Bool} {it : EV Items} {g : TV} {t : EV Bool} {ev : EV D} {tg iter elt : Expr} {ifs : List Expr} {scope : Scope} {own : List (Str × Nat)} (hcm : c.calm = true) (hblk : blkC c.N c.sc scope own = true) (hi : PId G k c it tg iter) (hg : PGv G k (c.blk scope) (blkVs own) g tg) (hp : gPure g)
    (ht : PTsd G k (c.blk scope) t ifs) (he : PEd G k (c.blk scope) ev elt) (hn : notSet iter = true) : PEd G k c (eLc m (blkVs own) it g t ev) (.ListComp elt [⟨tg, iter, ifs, 0⟩] scope pos) := fun X W ok => by
  have hb : BlkOk X.N X.env.scope scope own := by rw [ok.N, ok.sc]; exact blkOk_by hblk
  exact PE.by (pe_lc (ok.calm hcm).1 (by rw [ok.N]; exact ok.nd) (hi X W ok) hb (fun s H C cl fp => hg _ _ (xok_blk ok hcm s H C cl fp)) (fun s H C cl fp => ht _ _ (xok_blk ok hcm s H C cl fp)) (fun s H C cl fp => he _ _ (xok_blk ok hcm s H C cl fp)) (folded_no hn)) fun σ H Q q => tD_lc (ok.calm hcm).2 hp q
/-- name = [..], the name a local of the same line -/
theorem ps_dsetLc {m : Bool} {it : EV Items} {g : TV} {t : EV Bool} {ev : EV D} {tg iter elt : Expr} {ifs : List Expr} {scope : Scope} {own : List (Str × Nat)} {x : Str} {i : Nat} {pos' spos : Pos} (hcm : c.calm = true) (hblk : blkC c.N c.sc scope own = true) (hi : PId G k c it tg iter) (hg : PGv G k (c.blk scope) (blkVs own) g tg) (hp : gPure g)
    (ht : PTsd G k (c.blk scope) t ifs) (he : PEd G k (c.blk scope) ev elt) (hn : notSet iter = true) (hxi : slotOf c.N x = some i) (hk : c.sc.kind = .function) (hx : c.sc.names.lookup x = some .local) (hl : (pos'.line == pos.line) = true) (hany : (scope.names.any fun (n, k) => n == x && (k == .local || k == .cell)) = false) :
    PSd G k c (sSet i (eLc m (blkVs own) it g t ev)) (.Assign [.Name x pos'] (.ListComp elt [⟨tg, iter, ifs, 0⟩] scope pos) spos) := fun X W ok => by
  have hb : BlkOk X.N X.env.scope scope own := by rw [ok.N, ok.sc]; exact blkOk_by hblk
  refine PS.by (ps_setLc (i := i) (ok.calm hcm).1 (by rw [ok.N]; exact ok.nd) (by rw [ok.N]; exact slotOf_ok hxi) (by rw [ok.sc]; exact hx) (sw_true (by rw [ok.sc]; exact hk) (by rw [ok.sc]; exact hx) hl hany) (hi X W ok) hb (fun s H C cl fp => hg _ _ (xok_blk ok hcm s H C cl fp)) (fun s H C cl fp => ht _ _ (xok_blk ok hcm s H C cl fp)) (fun s H C cl fp => he _ _ (xok_blk ok hcm s H C cl fp)) (folded_no hn)) fun Dn σ H q => ?_
  obtain ⟨F, mu, env, s, hs, he, p⟩ := q
  refine tD_lc (W := W) (ok.calm hcm).2 hp (Q := fun x H1 => gName i x σ H1 Dn.nx) ⟨F, mu, env, s, hs, he, Post.toS hs he p fun F1 mu1 H1 d v s1 x1 hs1 r1 he1 p1 => ?_⟩
  exact p1 F1 mu1 H1 _ Ex.refl hs1 (he1.set i r1 fun z hz => by rw [(ok.calm hcm).2] at hz; cases hz)
theorem sw_false {elt : Expr} {gs : List Comprehension} {scope : Scope} {py : Pos} {y : Str} {l : Nat} {env : Env} (hy : (env.scope.names.lookup y == some .local) = false) : swapsWith (.ListComp elt gs scope pos) (some (.Name y py)) l env = pure false := by
  have ky : (env.kindOf y == some .local) = false := hy
  unfold swapsWith
  simp only [ky, Bool.and_false, Bool.false_and]
  try rfl
/-! ### a dict is locked while it is walked -/
open Classical in
noncomputable def eLock (i : Nat) (f : EV D) : EV D := fun env s => match env[i]? with
  | some (some (.ref n)) => match s[n]? with
    | some (.dct ks vs) => match f env (s.set n (.fdct ks vs)) with
      | .ok d s' => if s'[n]? = some (.fdct ks vs) then .ok d (s'.set n (.dct ks vs)) else .bad
      | _ => .bad
    | _ => f env s
  | _ => f env s
theorem pe_lockOr {X : Cx} {e : Expr} {t : TE} (h : PE X e t) : PE X e (fun σ H Q => tLockE t σ H Q ∨ t σ H Q) := ⟨fun pins s σ H Q I q => by
  rcases q with q | q
  · exact (pe_lock h).run pins s σ H Q I q
  · exact h.run pins s σ H Q I q⟩
theorem pe_dlock {i : Nat} (hf : PEd G k c f e) : PEd G k c (eLock i f) e := fun X W ok => PE.by (pe_lockOr (hf X W ok)) fun σ H Q q => by
  obtain ⟨F, mu, env, s, hs, he, p⟩ := q
  unfold eLock at p
  split at p
  · rename_i n ei
    split at p
    · rename_i ks vs en
      obtain ⟨v, hσ, rv⟩ := he.get _ _ ei
      cases rv with
      | ref em =>
      rename_i a
      obtain ⟨_, ho, h1, h2⟩ := hs.live _ _ _ en (fun z => nomatch z) em
      cases h2 with
      | dct hl r =>
      rename_i ws
      refine .inl ⟨a, _, h1, trivial, fun od => ?_⟩
      have hs1 : SR G F mu (s.set n (.fdct ks vs)) (upd H a (.frz od (.dK (ks.zip ws)))) := hs.write en (fun z => nomatch z) em (.fdct hl r)
      refine ⟨F, mu, env, _, hs1, he, ?_⟩
      cases ef : f env (s.set n (.fdct ks vs)) with
      | bad => rw [ef] at p; exact p.elim
      | exc x s' => rw [ef] at p; exact p.elim
      | ok d s' =>
        rw [ef] at p
        dsimp only at p
        split at p
        · rename_i en'
          intro F' mu' H' v x hs' rv'
          have hz := x.z a od _ upd_same
          refine ⟨hz, ?_⟩
          have ea : H a = some (.dK (ks.zip ws)) := h1
          have xx : Ex F mu H F' mu' (upd H' a (.dK (ks.zip ws))) := by
            refine ⟨x.f, ?_, fun b o hb hm => ?_, fun b hb => ?_, fun b o u hb => ?_⟩
            · obtain ⟨l, e1, e2⟩ := x.m
              refine ⟨l, e1, fun b hb => ?_⟩
              have q := e2 b hb
              by_cases z : b = a
              · subst z; rw [upd_same] at q; cases q
              · rw [upd_ne z] at q; exact q
            · have z : b ≠ a := fun z => hm (by rw [z]; exact List.mem_of_getElem? em)
              rw [upd_ne z]
              exact x.h b o (by rw [upd_ne z]; exact hb) hm
            · rcases x.g b hb with q | q | q
              · exact .inl q
              · by_cases z : b = a
                · subst z; rw [upd_same] at q; cases q
                · rw [upd_ne z] at q; exact .inr (.inl q)
              · exact .inr (.inr q)
            · have z : b ≠ a := fun z => by rw [z, ea] at hb; cases hb
              rw [upd_ne z]
              exact x.z b o u (by rw [upd_ne z]; exact hb)
          exact p F' mu' _ v xx (hs'.write en' (fun z => nomatch z) (x.le.m _ _ em) (.dct hl (r.mono x.le))) rv'
        · exact p.elim
    · exact .inr ⟨F, mu, env, s, hs, he, p⟩
  · exact .inr ⟨F, mu, env, s, hs, he, p⟩
end
end Pv

set_option Elab.async false
set_option linter.all false
set_option maxRecDepth 100000
set_option maxHeartbeats 2000000
/-! Ev13: an exception's __init__ that says super().__init__(x), then self.f = x. -/
namespace Pv
open PySem PySem.Spec PyProof.Rows L2
theorem ld_var {X : Cx} {pins : List (Addr × Obj)} {s : Shared} {σ : L2.St} {H : Hp} {i : Nat} {x : Str} {v : V} {Q : Value → Shared → Prop} {E : Value → Shared → Prop} (I : Inv X pins σ H s) (hN : X.N[i]? = some x) (hv : Vis X.env.scope x) (e : σ[i]? = some (some v)) (hcd : (x == ("__classdict__" : Str)) = false)
    (h : ∀ u, RelV v u → Q u s) : wpAny (model X.prog X.w) X.A (loadName X.env x) Q E s := by
  obtain ⟨m, hn, hl⟩ := I.loc
  obtain ⟨u, r, l⟩ := hl i x v hN e hv
  rcases l with ⟨hk, hm⟩ | ⟨hk, c, hc, hcell⟩
  · exact wpAny_loadName_local I.ok.kind hk hn hm (h u r)
  · rcases hk with hk | hk
    · exact wpAny_loadName_cell I.ok.kind hk hc hcell (h u r)
    · exact wpAny_loadName_free I.ok.kind hk hc hcell (h u r) hcd
theorem ldn_blt {X : Cx} {E : Value → Shared → Prop} {pins : List (Addr × Obj)} {s : Shared} {σ : L2.St} {H : Hp} {x : Str} {u : Value} {Q : Value → Shared → Prop} (I : Inv X pins σ H s) (hg : L2.Gl X x) (hm : X.mg x = none) (hv : bootBuiltins x = some u) (hn : x ≠ "__name__") (h : Q u s) :
    wpAny (model X.prog X.w) X.A (loadName X.env x) Q E s := by
  obtain ⟨mb, h1, h2⟩ := I.mod.blt
  rw [PyProof.Rows.loadName_read I.ok.kind hg]
  exact Calls.loadGlobal_builtin (by rw [I.ok.glob]; exact I.mod.glob.keeps I.bk) hm (by rw [I.ok.blt]; exact h1.keeps I.bk) ((h2 x hn).trans hv) h
/-- what stands of a def that says super() -/
structure SupF (X : Cx) (f D : Addr) (i j : Nat) (sf : Str) : Prop where
  fu : X.env.func = some f
  fo : ∃ fo fd ar, X.K.lookup f = some fo ∧ fo.data = .func fd ∧ (fd.params.posonlyargs ++ fd.params.args).head? = some ar ∧ ar.arg = sf
  cd : ∃ cc oc vs file tf, X.env.code = .ref cc ∧ X.K.lookup cc = some oc ∧ oc.data = .fields vs ∧ vs[2]? = some (.str file tf) ∧ ((X.prog.main.file : Str) == file) = true
  top : (X.prog.main.scope.names.lookup ("super" : Str)).isSome = false
  ks : X.env.kindOf "super" = some .globalImplicit
  ms : X.mg "super" = none
  kc : X.env.kindOf "__class__" = some .free
  ni : X.N[i]? = some sf
  vi : Vis X.env.scope sf
  di : (sf == ("__classdict__" : Str)) = false
  nj : X.N[j]? = some "__class__"
  Dc : PySem.W.isClsIn X.K D = true
theorem super_at {X : Cx} {pins : List (Addr × Obj)} {s : Shared} {σ : L2.St} {H : Hp} {f D C a : Addr} {i j : Nat} {sf : Str} {d0 : Option Addr} {p0 p1 : Pos} {body : List Stmt} {whole : Sem Value} {Q : Value → Shared → Prop} {E : Value → Shared → Prop} (I : Inv X pins σ H s) (S : SupF X f D i j sf) (T : OexC X.K C) (ea : H a = some (exo a C d0))
    (hi : σ[i]? = some (some (.ref a))) (hj : σ[j]? = some (some (.ref D))) (hD : PySem.W.subIn X.K (.ref C) (.ref D) = some true)
    (h : ∀ s', Inv X pins σ H s' → s'.heap.get? s.heap.objs.size = some (PySem.W.ks_superObj D a C) → Q (.ref s.heap.objs.size) s') :
    PySem.wpAt (model X.prog X.w) X.A (.func body X.env) (attributeBase (.Call (.Name "super" p0) [] [] p1) "__init__" X.env whole) Q E s := by
  obtain ⟨fo, fd, ar, hf, hfd, hp, har⟩ := S.fo
  obtain ⟨cc, oc, vs, file, tf, hco, hcc, hoc, hvs, hfile⟩ := S.cd
  refine ks_wpAt_super_base S.ks S.kc (by decide) S.fu (I.kIn _ _ hf) hfd hp hco (I.kIn _ _ hcc) hoc hvs hfile S.top ?_
  refine ldn_blt I S.ks S.ms (by rfl) (by decide) ⟨rfl, ?_⟩
  refine ld_var I S.nj (.inr (.inr S.kc)) hj (by decide) fun u ru => ?_
  obtain rfl : u = Value.ref D := ru
  rw [har]
  refine ld_var I S.ni S.vi hi S.di fun u ru => ?_
  obtain rfl : u = Value.ref a := ru
  obtain ⟨t1, ho⟩ := exo_at I.hok ea
  obtain ⟨cdD, hcD⟩ := Option.isSome_iff_exists.mp (show (PySem.W.clsIn X.K D).isSome = true from S.Dc)
  have hDo : ∃ oD, s.heap.get? D = some oD ∧ oD.data = .cls cdD := by
    unfold PySem.W.clsIn at hcD
    split at hcD
    · rename_i c' d' cd' sl' hl
      cases hcD
      exact ⟨_, I.kIn _ _ hl, rfl⟩
    · cases hcD
  obtain ⟨oD, hDg, hDd⟩ := hDo
  obtain ⟨hh, g, d, t, os⟩ := s
  refine ks_wpAny_isType_cls hDg hDd ⟨rfl, ?_⟩
  refine ks_wpAny_call_super hDg hDd ho rfl (fun c z => nomatch z) (PySem.W.looks_subIn I.kIn hD) fun h' e1 k1 => ?_
  exact h _ (I.kept (t' := t) k1) e1
/-- ValueError.__init__ bound to the exception, called -/
theorem call_vw {X : Cx} {pins : List (Addr × Obj)} {s : Shared} {σ : L2.St} {H : Hp} {C a u : Addr} {us : List Value} {Q : Value → Shared → Prop} {E : Value → Shared → Prop} (T : OexC X.K C) (I : Inv X pins σ H s) (e : H a = some (exo a C none)) (hu : s.heap.get? u = some (PySem.W.kxs_mw "ValueError.__init__" a)) (hl : us.length ≤ sizeLine)
    (h : ∀ s', Inv X pins σ H s' → Q .none s') : wpAny (model X.prog X.w) X.A (call (.ref u) us) Q E s := by
  obtain ⟨nm, q, N, bs, bm, sn, sub, ab, col, dd, k0, k1, k2, k3, k5, hC, hbm⟩ := T.cls
  obtain ⟨t1, ho⟩ := exo_at I.hok e
  have hC' := I.kIn _ _ hC
  obtain ⟨hh, g, d, t, os⟩ := s
  refine wpAny_call (codeAny_of_tree ?_)
  show wpAny _ X.A.in1 (callAny (.ref u) ⟨us, []⟩) _ _ _
  simp only [callAny]
  refine wpAny_bind (wpAny_load hu ?_)
  simp only [PySem.W.kxs_mw, show (Value.type "method-wrapper" == Value.type "method" || Value.type "method-wrapper" == Value.type "builtin_function_or_method" || Value.type "method-wrapper" == Value.type "method-wrapper") = true by decide, if_true]
  refine PySem.W.KFB.if_so (by decide) ?_
  refine wpAny_bind (PySem.W.check_bound_init F.excBase_ValueError.toExcCallFacts hC' ho rfl ?_)
  refine wpAny_bind (wpAny_pure (wpAny_pure ?_))
  refine ⟨PySem.plainId_quiet F.excBase_ValueError.init.plain _, codeAny_builtin F.excBase_ValueError.initEntry ?_⟩
  refine PySem.W.exc_init_tree (cls := .ref C) (t0 := t1) (dv := none) (c2 := .none) (c3 := .none) (b4 := .bool false) ho hl fun h' k hx _ => ?_
  have J := I.write (t' := t) (x := a) (e := a) (o := exo a C none) (by rw [e]; exact True.intro) (.inl rfl) k ⟨_, hx⟩ (exo_ok hx)
  have eu : upd H a (exo a C none) = H := by
    funext b
    by_cases hb : b = a
    · rw [hb, upd_same, e]
    · rw [upd_ne hb]
  rw [eu] at J
  exact h _ J
/-- a new object is pinned -/
theorem pin_new {X : Cx} {pins : List (Addr × Obj)} {σ : L2.St} {H : Hp} {h h' : Heap} {g g' : Array GenState} {d d' : Drawn} {t t' : Nat} {os : OsState} {o : Obj} (I : Inv X pins σ H ⟨h, g, d, t, os⟩) (hfr : o.isFreed = false) (ho : ∀ v, o.data ≠ .cell v) :
    Inv X ((h.objs.size, o) :: pins) σ H ⟨h.push o, g, d, t', os⟩ := by
  have J : Inv X pins σ H ⟨h.push o, g, d, t', os⟩ := I.kept (t' := t') fun b o e => Heap.get?_push_of_some _ e
  refine J.pins_of fun p hp => ?_
  rcases List.mem_cons.mp hp with rfl | hp
  · exact ⟨Heap.get?_push_size _ hfr, I.hok.fresh (Nat.le_refl _), Nat.ne_of_gt I.lt, I.nofs (Nat.le_refl _), ho⟩
  · exact J.pin p (List.mem_append_right _ hp)
/-- what a class must have for the __init__ of D that says super().__init__(x) and self.n = x -/
structure SupOk (K : PySem.W.Frag) (D : Addr) (n : Str) (nx : Value) (C : Addr) : Prop where
  T : OexC K C
  sub : PySem.W.subIn K (.ref C) (.ref D) = some true
  nx : PySem.W.ks_superIn K C D "__init__" = some (some nx)
  ve : PySem.W.subIn K (.ref C) (.type "ValueError") = some true
  op : PySem.W.nsIn K PySem.cStatics "thirdparty.any" = some none
  no : PySem.W.findIn K (.ref C) n = some none
/-- super().__init__(e), the built-in one -/
theorem super_vi {X : Cx} {pins : List (Addr × Obj)} {s : Shared} {σ : L2.St} {H : Hp} {f D C a : Addr} {i j : Nat} {sf n : Str} {p0 p1 p2 p4 p5 : Pos} {body : List Stmt} {Q : Flow → Shared → Prop} {x : Str} {ix : Nat} {v : V} {p3 : Pos} (I : Inv X pins σ H s) (S : SupF X f D i j sf) (T : SupOk X.K D n (.builtin "ValueError.__init__") C) (ea : H a = some (exo a C none))
    (hi : σ[i]? = some (some (.ref a))) (hj : σ[j]? = some (some (.ref D))) (hN : X.N[ix]? = some x) (hv : Vis X.env.scope x) (hx : σ[ix]? = some (some v)) (hdb : (x == ("__debug__" : Str)) = false) (hcd : (x == ("__classdict__" : Str)) = false) (hint : interactive X.env = false) (hline : (p2.endLine == p4.line) = true)
    (hq : ∀ s', Inv X pins σ H s' → Q .next s') :
    PySem.wpAt (model X.prog X.w) X.A (.func body X.env) (exec (.Expr (.Call (.Attribute (.Call (.Name "super" p0) [] [] p1) "__init__" p2) [.Name x p3] [] p4) p5) X.env) Q X.xe s := by
  refine ks_wpAt_Expr_any ?_ hint
  rw [arm_eval_Call]
  refine PySem.wpAt_bind (super_at I S T.T ea hi hj T.sub fun s1 I1 hso => ?_)
  refine PySem.wpAt_of_wpAny (wpAny_bind (wpAny_standAt ?_))
  have hform : methodCallForm ([Expr.Name x p3].length + ([] : List Keyword).length) (backTo p4 (starEach [.Name x p3] X.env)) (backToKw p4 (keywordEach [] X.env)) = true := few_ok (es := [.Name x p3]) rfl (by show 1 < 29; decide)
  have hpos : methodCallPos true (.Call (.Name "super" p0) [] [] p1) X.env p2 p4 = pure p4 := by unfold methodCallPos; simp [hline]
  unfold methodCall
  rw [hform]
  refine wpAny_bind (wpAny_holding ?_)
  obtain ⟨t1, ho⟩ := exo_at I1.hok ea
  have In : PySem.W.InstAt s1.heap a _ C none := ⟨ho, rfl, rfl, trivial⟩
  have hnx := T.nx
  cases hc : PySem.W.clsIn X.K C with
  | none => unfold PySem.W.ks_superIn at hnx; rw [hc] at hnx; cases hnx
  | some cd =>
  unfold PySem.W.ks_superIn at hnx
  rw [hc] at hnx
  have hI : PySem.W.Looks (model X.prog X.w) s1.heap (isInstance (.ref a) (.type "ValueError")) true := In.type.andThen (PySem.W.looks_subIn I1.kIn T.ve)
  have hne := PySem.W.ks_ne I1.kIn In hc
  obtain ⟨hh, g, d, t, os⟩ := s1
  refine PySem.W.kxs_getMethod PySem.W.kxs_ValueError hso (PySem.W.looks_opaque I1.kIn T.op) (l₀ := cd.mro) (fun A Q E s k q => wpAny_bind ((PySem.W.looks_clsIn I1.kIn hc) A _ E s k (wpAny_pure q))) rfl I1.kIn hnx hI hne (by decide) ?_
  have I2 := pin_new (t' := t + 1) (g' := g) (d' := d) (h' := hh) (o := PySem.W.kxs_mw "ValueError.__init__" a) I1 rfl (fun v z => nomatch z)
  refine wpAny_bind (wpAny_of_eq hpos ?_)
  show wpAny _ _ (callWith p4 (.ref hh.objs.size) [] (backTo p4 (starEach [.Name x p3] X.env)) []) _ _ _
  rw [starEach_cons rfl]
  refine PySem.W.kxs_callWith (i := "ValueError.__init__") (x := a) rfl (Calls.evalArgs_plain ?_)
  have ha := (pa_cons (pe_var (pos := p3) hN hv hdb hcd) pa_nil (starEach_cons rfl)).run p4 _ _ σ H (fun vs H1 => ∃ v, vs = [v] ∧ H1 = H) I2 ⟨v, hx, v, rfl, rfl⟩
  rw [starEach_cons rfl] at ha
  refine thn ha fun us s2 ⟨vs, H1, I3, r, v, ev, eH⟩ => ⟨ClX.pin_at I3, ?_⟩
  subst ev
  rw [eH] at I3
  obtain ⟨u, rfl, ru⟩ := vals1 r
  show wpAny _ _ (call (.ref hh.objs.size) [u]) _ _ _
  exact call_vw T.T I3 ea (ClX.pin_at I3) (by show 1 ≤ sizeLine; rw [sizeLine_eq]; omega) fun s' J => hq s' (ClX.unpin J)
/-- super().__init__(e), a def's -/
theorem super_fi {X : Cx} {pins : List (Addr × Obj)} {s : Shared} {σ : L2.St} {H : Hp} {f D C a g1 : Addr} {i j k : Nat} {sf n : Str} {p0 p1 p2 p4 p5 : Pos} {body : List Stmt} {Q : Flow → Shared → Prop} {x : Str} {ix : Nat} {v : V} {p3 : Pos} {fd1 : FuncData} {ps1 : List Str} {sp1 : Sp} {R : Hp → Prop}
    (I : Inv X pins σ H s) (S : SupF X f D i j sf) (T : SupOk X.K D n (.ref g1) C) (ea : H a = some (exo a C none))
    (hi : σ[i]? = some (some (.ref a))) (hj : σ[j]? = some (some (.ref D))) (hN : X.N[ix]? = some x) (hv : Vis X.env.scope x) (hx : σ[ix]? = some (some v)) (hdb : (x == ("__debug__" : Str)) = false) (hcd : (x == ("__classdict__" : Str)) = false) (hint : interactive X.env = false) (hline : (p2.endLine == p4.line) = true)
    (hg : PySem.W.fnIn X.K g1 = true) (hgt : ∃ o, X.K.lookup g1 = some o ∧ o.cls = .type "function") (F1 : FnOk X.prog X.w X.K X.mg X.base (L2.CX X.prog X.w) k g1 fd1 ps1 sp1) (hr : Room k X.A) (hb : Binds X.K fd1 ps1 []) (hps : ps1.length = 2)
    (h : sp1 [.ref a, v] H (fun w H1 => w = .non ∧ R H1) (fun _ _ _ => False)) (hq : ∀ s' H1, Inv X pins σ H1 s' → R H1 → Q .next s') :
    PySem.wpAt (model X.prog X.w) X.A (.func body X.env) (exec (.Expr (.Call (.Attribute (.Call (.Name "super" p0) [] [] p1) "__init__" p2) [.Name x p3] [] p4) p5) X.env) Q X.xe s := by
  refine ks_wpAt_Expr_any ?_ hint
  rw [arm_eval_Call]
  refine PySem.wpAt_bind (super_at I S T.T ea hi hj T.sub fun s1 I1 hso => ?_)
  refine PySem.wpAt_of_wpAny (wpAny_bind (wpAny_standAt ?_))
  have hform : methodCallForm ([Expr.Name x p3].length + ([] : List Keyword).length) (backTo p4 (starEach [.Name x p3] X.env)) (backToKw p4 (keywordEach [] X.env)) = true := few_ok (es := [.Name x p3]) rfl (by show 1 < 29; decide)
  have hpos : methodCallPos true (.Call (.Name "super" p0) [] [] p1) X.env p2 p4 = pure p4 := by unfold methodCallPos; simp [hline]
  unfold methodCall
  rw [hform]
  refine wpAny_bind (wpAny_holding ?_)
  obtain ⟨t1, ho⟩ := exo_at I1.hok ea
  have In : PySem.W.InstAt s1.heap a _ C none := ⟨ho, rfl, rfl, trivial⟩
  have hnx := T.nx
  cases hc : PySem.W.clsIn X.K C with
  | none => unfold PySem.W.ks_superIn at hnx; rw [hc] at hnx; cases hnx
  | some cd =>
  unfold PySem.W.ks_superIn at hnx
  rw [hc] at hnx
  have hne := PySem.W.ks_ne I1.kIn In hc
  obtain ⟨og, hgl, hgc⟩ := hgt
  have hgo := I1.kIn _ _ hgl
  have hz : s1.heap.objs.size ≤ s1.heap.objs.size := Nat.le_refl _
  obtain ⟨hh, g, d, t, os⟩ := s1
  refine ks_wpAny_getMethod_super hso (PySem.W.looks_opaque I1.kIn T.op) (l₀ := cd.mro) (fun A Q E s k q => wpAny_bind ((PySem.W.looks_clsIn I1.kIn hc) A _ E s k (wpAny_pure q))) rfl I1.kIn hnx hgo hgc hne (by decide) ?_
  have I2 := pin_new (t' := t + 1) (g' := g) (d' := d) (h' := hh) (o := PySem.W.methodObj (.ref g1) (.ref a)) I1 rfl (fun v z => nomatch z)
  refine wpAny_bind (wpAny_of_eq hpos ?_)
  refine ClX.callwith_cm I2 (ClX.base_none I1 hz) hg ?_ (starEach_cons rfl) rfl
  have ha := (pa_cons (pe_var (pos := p3) hN hv hdb hcd) pa_nil (starEach_cons rfl)).run p4 _ _ σ H (fun vs H1 => vs = [v] ∧ H1 = H) I2 ⟨v, hx, rfl, rfl⟩
  refine thn ha fun us s2 ⟨vs, H1, I3, r, ev, eH⟩ => ⟨⟨ClX.pin_at I3, I3.kIn⟩, ?_⟩
  subst ev
  rw [eH] at I3
  obtain ⟨u, rfl, ru⟩ := vals1 r
  have r2 : Vals [V.ref a, v] [Value.ref a, u] := .cons rfl (.cons ru .nil)
  refine wpAny_call (PySem.W.method_call (ClX.pin_at I3) (codeAny_mono (F1.run X.A X.stack s2 H ⟨[.ref a, u], []⟩ [.ref a, u] [.ref a, v] _ (fun _ _ _ => False) hr I3.env0 (hb s2 [.ref a, u] I3.kIn hps.symm) r2 h) fun r s' hq' => ?_))
  cases r with
  | error e =>
    obtain ⟨_, _, _, _, _, _, _, _, _, _, _, _, z⟩ := hq'
    exact z.elim
  | ok fl =>
    cases fl with
    | ret u2 =>
      obtain ⟨w, H2, I4, rw2, ew, q3⟩ := I3.after hq'
      exact hq s' H2 (ClX.unpin I4) q3
    | next => exact False.elim hq'
    | brk => exact False.elim hq'
    | cont => exact False.elim hq'
/-- the promise of such an __init__: the fields of the new exception -/
def spInit (ok : Addr → Prop) (ns : List Str) : Sp := fun vs H Q _ => ∃ (a C : Addr) (v : V), vs = [.ref a, v] ∧ ok C ∧ H a = some (exo a C none) ∧ ∀ dx, H dx = none → dx ≠ a → Q .non (upd (upd H dx (exd dx (ns.map fun n => (n, v)))) a (exo a C (some dx)))
/-- the def as it stands -/
structure InitF (P : Program) (K : PySem.W.Frag) (mg : Str → Option Value) (F : NdefX.NF) (f D : Addr) (sf x n : Str) (p0 p1 p2 p3 p4 p5 p6 p7 p8 p9 : Pos) (fd : FuncData) : Prop where
  fdx : ∃ dV kV doc pm an ct, fd = PySem.W.fnX F.name F.qual F.params F.body F.scope F.cl dV kV doc pm an (.ref F.c) ct
  lk : ∃ oc od osl, K.lookup f = some ⟨oc, od, .func fd, osl⟩
  co : PySem.W.codeIn K (.ref F.c) F.qual = true
  bd : F.body = [.Expr (.Call (.Attribute (.Call (.Name "super" p0) [] [] p1) "__init__" p2) [.Name x p3] [] p4) p5, .Assign [.Attribute (.Name sf p6) n p7] (.Name x p8) p9]
  ns : NdefX.NScope [sf, x, "__class__"] [sf, x] ["__class__"] F.scope
  cell : ∃ cc oc, F.cl = [(("__class__" : Str), cc)] ∧ K.lookup cc = some oc ∧ oc.data = .cell (some (.ref D))
  sl : F.scope.names.lookup sf = some .local
  xl : F.scope.names.lookup x = some .local
  ks : F.scope.names.lookup ("super" : Str) = some .globalImplicit
  ms : mg "super" = none
  Dc : PySem.W.isClsIn K D = true
  fst : ∃ ar, (F.params.posonlyargs ++ F.params.args).head? = some ar ∧ ar.arg = sf
  file : ∃ oc vs file tf, K.lookup F.c = some oc ∧ oc.data = .fields vs ∧ vs[2]? = some (.str file tf) ∧ ((P.main.file : Str) == file) = true
  top : (P.main.scope.names.lookup ("super" : Str)).isSome = false
  line : (p2.endLine == p4.line) = true
  nsd : (sf == ("__classdict__" : Str)) = false ∧ (sf == ("__debug__" : Str)) = false ∧ (x == ("__classdict__" : Str)) = false ∧ (x == ("__debug__" : Str)) = false
section
variable {P : Program} {w : World} {K : PySem.W.Frag} {mg : Str → Option Value} {base : Heap} {F : NdefX.NF} {f D : Addr} {sf x n : Str} {p0 p1 p2 p3 p4 p5 p6 p7 p8 p9 : Pos} {fd : FuncData}
/-- entry, the first statement by st, then self.n = x -/
theorem init_of {CX : CXT} {k : Nat} {sp : Sp} (G : InitF P K mg F f D sf x n p0 p1 p2 p3 p4 p5 p6 p7 p8 p9 fd) (len : ∀ vs H Q E, sp vs H Q E → vs.length = 2)
    (st : ∀ (X : Cx) (σ : L2.St) (s : Shared) (H : Hp) (vs : List V) (Q : VK) (E : XK), X.prog = P → X.w = w → X.K = K → X.mg = mg → X.base = base → Room k X.A → X.calm = true → interactive X.env = false → Inv X [] σ H s → SupF X f D 0 2 sf → X.N[1]? = some x → Vis X.env.scope x → σ = [vs[0]?, vs[1]?, some (.ref D)] → sp vs H Q E →
      PySem.wpAt (model X.prog X.w) X.A (.func F.body X.env) (exec (.Expr (.Call (.Attribute (.Call (.Name "super" p0) [] [] p1) "__init__" p2) [.Name x p3] [] p4) p5) X.env) (fun fl s' => fl = .next ∧ ∃ H1, Inv X [] σ H1 s' ∧ tOst K n (tVar 0) (tVar 1) { nx := fun _ H' => Q .non H', rt := Q } σ H1) X.xe s) :
    FnOk P w K mg base CX (k + 1) f fd [sf, x] sp := by
  obtain ⟨dV, kV, doc, pm, an, ct, hfd⟩ := G.fdx
  obtain ⟨oc, od, osl, lk⟩ := G.lk
  have len' : ∀ vs H Q E, sp vs H Q E → vs.length = [sf, x].length := len
  refine ⟨len', fun A outer s H args us vs Q E hr e0 hb r hsp => ?_⟩
  have hl := len' _ _ _ _ hsp
  have KX : K.In s.heap := e0.mod.kin.keeps fun b o e => (e0.bs b o e).1
  have lim : s.heap.NoLimit := e0.mod.nolimit.keeps fun b o e => (e0.bs b o e).1
  have S := G.ns
  obtain ⟨cc, occ, hcl, hcc, hcd⟩ := G.cell
  have hccH : H cc = none := (e0.bs cc occ (e0.mod.kin _ _ hcc)).2
  have hcell : s.heap.IsCell cc (some (.ref D)) := ⟨occ, KX _ _ hcc, hcd⟩
  have C : NdefX.CellsAt F.cl ["__class__"] [some (V.ref D)] s.heap H := by
    rw [hcl]
    refine ⟨rfl, fun y c e => ?_, fun y z c e1 e2 => ?_, fun i y e => ?_⟩
    · have : y = "__class__" ∧ c = cc := by
        have e' := PySem.mem_of_lookup e
        simp at e'
        exact e'
      rw [this.2]
      exact ⟨hccH, _, hcell⟩
    · have e1' := PySem.mem_of_lookup e1
      have e2' := PySem.mem_of_lookup e2
      simp at e1' e2'
      rw [e1'.1, e2'.1]
    · cases i with
      | zero =>
        simp at e
        subst e
        refine ⟨cc, by simp [List.lookup], fun v hv => ?_⟩
        simp at hv
        subst hv
        exact ⟨.ref D, rfl, hcell⟩
      | succ i => simp at e
  subst hfd
  refine codeAny_call_function hr.depth (KX _ _ lk) rfl S.co S.gen rfl (PySem.W.codeRec_of KX G.co) (hb _ _ _ _ ?_)
  refine wpAny_newFunctionEnv S.nocell (fun ⟨m, _⟩ hy => S.par m (List.of_mem_zip hy).1) (fun h₁ hns hsb => ⟨lim.fresh _ hsb, ?_⟩) S.kind
  show codeAny _ _ (.func F.body (NdefX.envF F f s.heap.objs.size)) _ _
  refine ks_codeAny_funcAt ?_
  have kp : ∀ b o, s.heap.get? b = some o → h₁.get? b = some o := fun b o e => hsb.extBut b o (Nat.ne_of_lt (Heap.lt_size e)) (Heap.get?_push_of_some _ e)
  have I : Inv (NdefX.ncx CX P w K mg base [sf, x, "__class__"] F f A outer s H E) [] (NdefX.startF [sf, x, "__class__"] vs [some (V.ref D)]) H { s with heap := h₁, toks := s.toks + ([sf, x].zip us).length } := NdefX.inv_startN S hr.hd e0 hl r C hns kp
  obtain ⟨v1, v2, ev⟩ : ∃ v1 v2, vs = [v1, v2] := by
    match vs, hl with
    | [a, b], _ => exact ⟨a, b, rfl⟩
  have SF : SupF (NdefX.ncx CX P w K mg base [sf, x, "__class__"] F f A outer s H E) f D 0 2 sf := by
    obtain ⟨ar, h1, h2⟩ := G.fst
    obtain ⟨o2, vs2, file, tf, g1, g2, g3, g4⟩ := G.file
    exact ⟨rfl, ⟨_, _, ar, lk, rfl, h1, h2⟩, ⟨F.c, o2, vs2, file, tf, rfl, g1, g2, g3, g4⟩, G.top, G.ks, G.ms, S.frk _ (List.mem_singleton.mpr rfl), rfl, .inl G.sl, G.nsd.1, rfl, G.Dc⟩
  have hint : interactive (NdefX.ncx CX P w K mg base [sf, x, "__class__"] F f A outer s H E).env = false := by
    unfold interactive
    have hk : (NdefX.ncx CX P w K mg base [sf, x, "__class__"] F f A outer s H E).env.scope.kind = .function := S.kind
    rw [hk]; rfl
  have hσ : NdefX.startF [sf, x, "__class__"] vs [some (V.ref D)] = [vs[0]?, vs[1]?, some (.ref D)] := by rw [ev]; rfl
  have z := st _ _ _ H vs Q E rfl rfl rfl rfl rfl (hr.deeper _) rfl hint I SF rfl (.inl G.xl) hσ hsp
  have goal : PySem.wpAt (model P w) (A.deeper (NdefX.envF F f s.heap.objs.size)) (.func F.body (NdefX.envF F f s.heap.objs.size)) (execs [.Expr (.Call (.Attribute (.Call (.Name "super" p0) [] [] p1) "__init__" p2) [.Name x p3] [] p4) p5, .Assign [.Attribute (.Name sf p6) n p7] (.Name x p8) p9] (NdefX.envF F f s.heap.objs.size)) (fun f s' => CR CX outer P w H s Q E (.ok (.ret (match f with | .ret v => v | _ => .none))) s')
      (fun e s' => wpAny (model P w) (A.deeper (NdefX.envF F f s.heap.objs.size)) (leaving (NdefX.envF F f s.heap.objs.size) e) (fun _ s'' => CR CX outer P w H s Q E (.error e) s'') (fun e' s'' => CR CX outer P w H s Q E (.error e') s'') s') { s with heap := h₁, toks := s.toks + ([sf, x].zip us).length } := by
    refine ks_wpAt_execs_cons (ks_wpAt_mono z (fun fl s' hs => ?_) fun _ _ y => y)
    obtain ⟨rfl, H1, I1, q⟩ := hs
    refine PySem.wpAt_of_wpAny ?_
    have ho : PE (NdefX.ncx CX P w K mg base [sf, x, "__class__"] F f A outer s H E) (.Name sf p6) (tVar 0) := pe_var rfl (.inl G.sl) G.nsd.2.1 G.nsd.1
    have he : PE (NdefX.ncx CX P w K mg base [sf, x, "__class__"] F f A outer s H E) (.Name x p8) (tVar 1) := pe_var rfl (.inl G.xl) G.nsd.2.2.2 G.nsd.2.2.1
    have ps := pss_one (ps_ost (p' := p7) (pos := p9) (f := n) ho he (swaps_no rfl))
    refine wpAny_mono (ps.run [] s' _ H1 { nx := fun _ H' => Q .non H', rt := Q } I1 q) (fun fl s'' hs => ?_) fun _ _ y => y
    cases fl with
    | next =>
      obtain ⟨σ', H', J, q⟩ := hs
      exact ⟨.non, H', J.os, J.bare, J.base, J.hok, rfl, q⟩
    | ret u =>
      obtain ⟨v, σ', H', J, rv, q⟩ := hs
      exact ⟨v, H', J.os, J.bare, J.base, J.hok, rv, q⟩
    | brk => obtain ⟨_, _, _, q⟩ := hs; exact False.elim q
    | cont => obtain ⟨_, _, _, q⟩ := hs; exact False.elim q
  have e := G.bd
  rw [← e] at goal
  exact goal
theorem init_fn0 {CX : CXT} {k : Nat} (G : InitF P K mg F f D sf x n p0 p1 p2 p3 p4 p5 p6 p7 p8 p9 fd) : FnOk P w K mg base CX (k + 1) f fd [sf, x] (spInit (SupOk K D n (.builtin "ValueError.__init__")) [n]) := by
  refine init_of G (fun vs H Q E h => by obtain ⟨a, C, v, rfl, _⟩ := h; rfl) fun X σ s H vs Q E hP hw hK hmg hb hr hcalm hint I SF n1 v1 hσ hsp => ?_
  obtain ⟨a, C, v, rfl, ok, ha, hq⟩ := hsp
  subst hσ hP hw hK hmg hb
  refine super_vi (v := v) (ix := 1) I SF ok ha rfl rfl n1 v1 rfl G.nsd.2.2.2 G.nsd.2.2.1 hint G.line fun s' J => ⟨rfl, H, J, ?_⟩
  exact ⟨v, rfl, .ref a, rfl, a, C, rfl, ok.T, ok.no, .inl ⟨ha, fun dx h1 h2 => hq dx h1 h2⟩⟩
theorem upd_swap {H : Hp} {a b : Addr} {o o' p : HO} (h : b ≠ a) : upd (upd (upd H b o) a p) b o' = upd (upd H b o') a p := by
  funext c
  by_cases z : c = b
  · subst z
    rw [upd_same, upd_ne h, upd_same]
  · rw [upd_ne z]
    by_cases y : c = a
    · subst y; rw [upd_same, upd_same]
    · rw [upd_ne y, upd_ne y, upd_ne z, upd_ne z]
theorem init_fn1 {k : Nat} {g1 : Addr} {fd1 : FuncData} {ps1 : List Str} {ok1 : Addr → Prop} {ns1 : List Str} (G : InitF P K mg F f D sf x n p0 p1 p2 p3 p4 p5 p6 p7 p8 p9 fd) (hg : PySem.W.fnIn K g1 = true) (hgt : ∃ o, K.lookup g1 = some o ∧ o.cls = .type "function")
    (F1 : FnOk P w K mg base (L2.CX P w) k g1 fd1 ps1 (spInit ok1 ns1)) (hb1 : Binds K fd1 ps1 []) (hps : ps1.length = 2) (hl : ns1.length ≤ 900) :
    FnOk P w K mg base (L2.CX P w) (k + 1) f fd [sf, x] (spInit (fun C => SupOk K D n (.ref g1) C ∧ ok1 C) (n :: ns1)) := by
  refine init_of G (fun vs H Q E h => by obtain ⟨a, C, v, rfl, _⟩ := h; rfl) fun X σ s H vs Q E hP hw hK hmg hb hr hcalm hint I SF n1 v1 hσ hsp => ?_
  obtain ⟨a, C, v, rfl, ⟨ok, ok1'⟩, ha, hq⟩ := hsp
  subst hσ hP hw hK hmg hb
  refine super_fi (v := v) (ix := 1) (R := fun H1 => ∃ dx, H dx = none ∧ dx ≠ a ∧ H1 = upd (upd H dx (exd dx (ns1.map fun n => (n, v)))) a (exo a C (some dx))) I SF ok ha rfl rfl n1 v1 rfl G.nsd.2.2.2 G.nsd.2.2.1 hint G.line hg hgt F1 hr hb1 hps ⟨a, C, v, rfl, ok1', ha, fun dx h1 h2 => ⟨rfl, dx, h1, h2, rfl⟩⟩ fun s' H1 J hR => ⟨rfl, H1, J, ?_⟩
  obtain ⟨dx, h1, h2, rfl⟩ := hR
  refine ⟨v, rfl, .ref a, rfl, a, C, rfl, ok.T, ok.no, .inr ⟨dx, _, upd_same, by rw [upd_ne h2, upd_same], by rw [List.length_map]; exact hl, ?_⟩⟩
  show Q .non _
  rw [upd_swap h2]
  exact hq dx h1 h2
end
end Pv

set_option Elab.async false
set_option linter.all false
set_option maxRecDepth 100000
set_option maxHeartbeats 2000000
/-! Ev14: raise; try with several clauses, with names and without. -/
namespace Pv
open PySem PySem.Spec PyProof.Rows L2
/-- what the clauses wish: class, the name's slot, suite -/
abbrev HdL := List (Value × Option Nat × (Addr → Value → Option Addr → TS))
def endsAt (D : Ends) : Option Nat → Ends
  | none => D
  | some i => { nx := fun σ' H' => D.nx (σ'.set i none) H', rt := D.rt, bk := fun σ' H' => D.bk (σ'.set i none) H', ct := fun σ' H' => D.ct (σ'.set i none) H' }
def slotSet (σ : L2.St) (a : Addr) : Option Nat → L2.St
  | none => σ
  | some i => σ.set i (some (.ref a))
def wHds (K : PySem.W.Frag) (Wout : WX) (D : Ends) : HdL → WX
  | [] => Wout
  | (c, i, ts) :: r => fun cls d σ H => ∃ b, PySem.W.exmOne K cls c = some b ∧ (b = true → ∀ a, H a = none → ts a cls d (endsAt D i) (slotSet σ a i) H) ∧ (b = false → wHds K Wout D r cls d σ H)
inductive HdsO (X : Cx) : List ExceptHandler → HdL → Prop
  | nil : HdsO X [] []
  | plain {x : Str} {c : Value} {ts : Addr → Value → Option Addr → TS} {b₀ : Stmt} {suite : List Stmt} {np pos' : Pos} {hds : List ExceptHandler} {l : HdL} (hc : Names X x c)
      (hsu : ∀ (a : Addr) (oe : Obj) (cls : Value) (d : Option Addr) (pn : List (Addr × Obj)), Zc cls d oe → (∃ vs, oe.data = .fields vs) → PSs (X.suite a ((a, oe) :: pn)) (b₀ :: suite) (ts a cls d)) (r : HdsO X hds l) :
      HdsO X (.ExceptHandler (some (.Name x np)) none (b₀ :: suite) pos' :: hds) ((c, none, ts) :: l)
  | named {x n : Str} {i : Nat} {c : Value} {ts : Addr → Value → Option Addr → TS} {b₀ : Stmt} {suite : List Stmt} {np pos' : Pos} {hds : List ExceptHandler} {l : HdL} (hc : Names X x c) (hi : X.N[i]? = some n) (hln : X.env.kindOf n = some .local)
      (hsu : ∀ (a : Addr) (oe : Obj) (cls : Value) (d : Option Addr) (pn : List (Addr × Obj)), Zc cls d oe → (∃ vs, oe.data = .fields vs) → PSs (X.suite a ((a, oe) :: pn)) (b₀ :: suite) (ts a cls d)) (r : HdsO X hds l) :
      HdsO X (.ExceptHandler (some (.Name x np)) (some n) (b₀ :: suite) pos' :: hds) ((c, some i, ts) :: l)
section
variable {X : Cx} {body : List Stmt} {h₀ : ExceptHandler} {hds : List ExceptHandler} {l : HdL} {pos : Pos} {tb : WX → TS} {Wout : WX}
theorem ps_try_hds (hs : X.stack = X.env :: X.outer) (hf : X.env.frame = some X.env.locals) (hN : X.N.Nodup) (tk : Takes X Wout)
    (hb : ∀ (W : WX) (pn : List (Addr × Obj)) (xe : Value → Shared → Prop), Takes (X.tr pn xe) W → PassesOwn (model X.prog X.w) X.A X.env xe → PSs (X.tr pn xe) body (tb W))
    (hh : HdsO X (h₀ :: hds) l) : PS X (.Try body (h₀ :: hds) [] [] pos) (fun D σ H => tb (wHds X.K Wout D l) D σ H) := by
  refine ⟨fun pins s σ H D I h => ?_⟩
  have ok := I.ok
  have hfr : X.A.frames = some (X.env :: X.outer) := by rw [ok.frames, hs]
  refine wpAny_Try_except ?_
  refine wpAny_mono ((hb (wHds X.K Wout D l) (X.pn ++ pins) (fun e s₁ => wpAny (model X.prog X.w) X.A (noteFrame e X.env) (fun _ s₂ => wpAny (model X.prog X.w) X.A (setFlight e none) (fun _ s₃ =>
    wpAny (model X.prog X.w) X.A (handleBy e X.env (h₀ :: hds)) (SP X pins D) X.xe s₃) X.xe s₂) X.xe s₁) (fun u s' xx => ?_) PassesOwn.looking).run [] s σ H D (I.toTry _) h) (fun f s1 hsp => ?_) (fun e s1 he => he)
  · -- the catch
    obtain ⟨a, B, sI, pins', σ', H', cls, d, rfl, J', nb, up, sky, na, os, ag, w⟩ := xx
    have J : Inv X pins σ' H' sI := J'.ofTry ok
    have sky' : Sky B (X.env :: X.outer) a (Zc cls d) X.env.locals s'.heap := by rw [← hs]; exact sky
    show wpAny (model X.prog X.w) X.A (noteFrame (.ref a) X.env) _ _ _
    refine Sky.land Zc.steady hfr hf sky' fun h3 fl3 up3 => ?_
    have J3 : Inv X pins σ' H' { s' with heap := h3 } := J.landed nb fl3.1 (up.trans up3) os ag
    obtain ⟨oe3, vs3, he3, hz3, hd3⟩ := fl3.there
    have notFr : ∀ {h : Heap} {o : Obj} {vs : Array Value}, h.FunFrames B (X.env :: X.outer) → h.get? a = some o → o.data = .fields vs → a ∉ frs (X.env :: X.outer) := fun {h o vs} ff e dd hm => by
      obtain ⟨_, o', e', hnf⟩ := ff.mem hm
      rw [e] at e'; cases e'
      exact hnf _ dd
    have nfr := notFr fl3.2.2.1 he3 hd3
    have nL : a ≠ X.env.locals := fun z => nfr (List.mem_filterMap.mpr ⟨X.env, List.mem_cons_self, by rw [hf, z]⟩)
    have nF : a ∉ X.fs := fun hm => by
      obtain ⟨e, he, q⟩ := List.mem_filterMap.mp hm
      exact nfr (List.mem_filterMap.mpr ⟨e, List.mem_cons_of_mem _ he, q⟩)
    have S3 := J3.suite he3 hd3 na nL nF
    have go : ∀ {hds' : List ExceptHandler} {l' : HdL}, HdsO X hds' l' → wHds X.K Wout D l' cls d σ' H' →
        wpAny (model X.prog X.w) X.A (handleBy (.ref a) X.env hds') (SP X pins D) X.xe { s' with heap := h3 } := by
      intro hds' l' hk
      induction hk with
      | nil =>
        intro w
        refine wpAny_handleBy_nil ?_
        obtain ⟨k1, k2, k3, oe, vs, T, oT, ts', he, hz, hd, h1, hr⟩ := id fl3
        unfold PySem.passOn
        refine wpAny_bind (wpAny_field he hd h1 ?_)
        rw [if_neg (show ¬ ((Value.ref T == Value.none) = true) from by simp)]
        have fin : wpAny (model X.prog X.w) X.A (setFlight (.ref a) X.env.frame) (fun _ s4 => wpAny (model X.prog X.w) X.A (throw (.ref a) : Sem Flow) (SP X pins D) X.xe s4) X.xe { s' with heap := h3 } := by
          rw [hf]
          refine HandSPX.setFlight_upZ fl3 fun h4 hh4 up4 => wpAny_throw (tk _ _ ?_)
          exact ⟨a, B, sI, pins, σ', H', cls, d, rfl, J, nb, (up.trans up3).trans up4, .inr (.inr (by rw [hs]; exact hh4)), na, os, ag, w⟩
        first
          | exact wpAny_bind (wpAny_pure (wpAny_bind fin))
          | exact wpAny_bind fin
      | @plain x c ts b₀ suite np pos' hds2 l2 hc hsu r ih =>
        intro w
        obtain ⟨b, hb1, hyes, hno⟩ := w
        refine wpAny_handleBy_cons (codeAny_handlers_test ?_) (by intro q; cases q)
        have LT : PySem.W.Looks (model X.prog X.w) h3 (typeOf (.ref a)) cls := fun A Q E s k q => wpAny_typeOf_ref (k _ _ he3) (by rw [hz3.1]; exact q)
        have LM := PySem.W.exm_one (M := model X.prog X.w) (J3.kIn) LT hb1
        have test : ∀ {Q : Value → Shared → Prop} {E : Value → Shared → Prop}, Q c { s' with heap := h3 } → wpAny (model X.prog X.w) (X.A.mark (some (.ref a))) (eval (.Name x np) X.env) Q E { s' with heap := h3 } := fun {Q E} q => by
          obtain ⟨hg, hdbg, hm | ⟨hm, hv, hnn⟩⟩ := hc
          · exact ld_glob (X := X.suite a ((a, oe3) :: (X.pn ++ pins))) S3 hg hm q hdbg
          · exact ld_blt (X := X.suite a ((a, oe3) :: (X.pn ++ pins))) S3 hg hm hv q hnn hdbg
        refine test (LM.here ?_)
        cases b with
        | true =>
          refine codeAny_handlers_suite ?_
          refine HandSPX.lands_againZ fl3 fun h4 fl4 up4 => ?_
          have J4 : Inv X pins σ' H' { s' with heap := h4 } := J.landed nb fl4.1 ((up.trans up3).trans up4) os ag
          obtain ⟨oe4, vs4, he4, hz4, hd4⟩ := fl4.there
          have S4 := J4.suite he4 hd4 na nL nF
          refine wpAny_mono ((hsu a oe4 cls d (X.pn ++ pins) hz4 ⟨_, hd4⟩).run [] _ _ H' _ S4 (hyes rfl a na)) (fun f s6 hsp => ?_) (fun _ _ z => False.elim z)
          cases f with
          | next =>
            obtain ⟨σ6, H6, S6, q6⟩ := hsp
            exact ⟨_, _, S6.unsuite ok, q6⟩
          | brk =>
            obtain ⟨σ6, H6, S6, q6⟩ := hsp
            exact ⟨_, _, S6.unsuite ok, q6⟩
          | cont =>
            obtain ⟨σ6, H6, S6, q6⟩ := hsp
            exact ⟨_, _, S6.unsuite ok, q6⟩
          | ret u =>
            obtain ⟨v6, σ6, H6, S6, r6, q6⟩ := hsp
            exact ⟨_, _, _, S6.unsuite ok, r6, q6⟩
        | false =>
          show wpAny _ X.A (handleBy (.ref a) X.env hds2) _ _ _
          exact ih (hno rfl)
      | @named x n i c ts b₀ suite np pos' hds2 l2 hc hi hln hsu r ih =>
        intro w
        obtain ⟨b, hb1, hyes, hno⟩ := w
        refine wpAny_handleBy_cons (codeAny_handlers_test ?_) (by intro q; cases q)
        have LT : PySem.W.Looks (model X.prog X.w) h3 (typeOf (.ref a)) cls := fun A Q E s k q => wpAny_typeOf_ref (k _ _ he3) (by rw [hz3.1]; exact q)
        have LM := PySem.W.exm_one (M := model X.prog X.w) (J3.kIn) LT hb1
        have test : ∀ {Q : Value → Shared → Prop} {E : Value → Shared → Prop}, Q c { s' with heap := h3 } → wpAny (model X.prog X.w) (X.A.mark (some (.ref a))) (eval (.Name x np) X.env) Q E { s' with heap := h3 } := fun {Q E} q => by
          obtain ⟨hg, hdbg, hm | ⟨hm, hv, hnn⟩⟩ := hc
          · exact ld_glob (X := X.suite a ((a, oe3) :: (X.pn ++ pins))) S3 hg hm q hdbg
          · exact ld_blt (X := X.suite a ((a, oe3) :: (X.pn ++ pins))) S3 hg hm hv q hnn hdbg
        refine test (LM.here ?_)
        cases b with
        | true =>
          refine codeAny_handlers_suite_as ?_
          refine HandSPX.lands_againZ fl3 fun h4 fl4 up4 => ?_
          have J4 : Inv X pins σ' H' { s' with heap := h4 } := J.landed nb fl4.1 ((up.trans up3).trans up4) os ag
          obtain ⟨oe4, vs4, he4, hz4, hd4⟩ := fl4.there
          have S4 := J4.suite he4 hd4 na nL nF
          have hloc : Loc X.env.scope n := .inl hln
          refine store_ok (X := X.suite a ((a, oe4) :: (X.pn ++ pins))) (v := .ref a) S4 hN hi hloc rfl (fun s5 S5 => ?_) (.inr hln)
          refine wpAny_mono ((hsu a oe4 cls d (X.pn ++ pins) hz4 ⟨_, hd4⟩).run [] s5 _ H' _ S5 (hyes rfl a na)) (fun f s6 hsp => ?_) (fun _ _ z => False.elim z)
          have end_ : ∀ {σ6 : L2.St} {H6 : Hp} {Q : Shared → Prop}, Inv (X.suite a ((a, oe4) :: (X.pn ++ pins))) [] σ6 H6 s6 → (∀ s7, Inv X pins (σ6.set i none) H6 s7 → Q s7) →
              wpAny (model X.prog X.w) X.A (do bindName X.env n .none; unbindBehindTheSuite X.env n pos') (fun _ s7 => Q s7) X.xe s6 := fun {σ6 H6 Q} S6 hq => gone_ok (S6.unsuite ok) hN hi hln hq
          cases f with
          | next =>
            obtain ⟨σ6, H6, S6, q6⟩ := hsp
            exact end_ S6 fun s7 J7 => ⟨_, _, J7, q6⟩
          | brk =>
            obtain ⟨σ6, H6, S6, q6⟩ := hsp
            exact end_ S6 fun s7 J7 => ⟨_, _, J7, q6⟩
          | cont =>
            obtain ⟨σ6, H6, S6, q6⟩ := hsp
            exact end_ S6 fun s7 J7 => ⟨_, _, J7, q6⟩
          | ret u =>
            obtain ⟨v6, σ6, H6, S6, r6, q6⟩ := hsp
            exact end_ S6 fun s7 J7 => ⟨_, _, _, J7, r6, q6⟩
        | false =>
          show wpAny _ X.A (handleBy (.ref a) X.env hds2) _ _ _
          exact ih (hno rfl)
    exact go hh w
  · cases f with
    | next =>
      obtain ⟨σ', H', J', q⟩ := hsp
      exact wpAny_execs_nil ⟨σ', H', J'.ofTry ok, q⟩
    | brk =>
      obtain ⟨σ', H', J', q⟩ := hsp
      exact ⟨σ', H', J'.ofTry ok, q⟩
    | cont =>
      obtain ⟨σ', H', J', q⟩ := hsp
      exact ⟨σ', H', J'.ofTry ok, q⟩
    | ret u =>
      obtain ⟨v, σ', H', J', r, q⟩ := hsp
      exact ⟨v, σ', H', J'.ofTry ok, r, q⟩
end
section
variable {X : Cx} {e : Expr} {es : List Expr} {ta : TA} {p pos : Pos}
/-- C() -/
theorem pmk_oex0 {CX : CXT} {x : Str} {C fI : Addr} {k : Nat} {fd : FuncData} {ps : List Str} {sp : Sp} {ds : List Value} {dvs : List V} (T : OexC X.K C) (iC : PySem.W.findIn X.K (.ref C) "__init__" = some (some (.ref fI))) (tI : PySem.W.typeIn X.K (.ref fI) = some (.type "function"))
    (F1 : FnOk X.prog X.w X.K X.mg X.base CX k fI fd ps sp) (hr : Room (k + 1) X.A) (hb : Binds X.K fd ps ds) (hd : Vals dvs ds) (hx : Passes CX X (fun _ _ _ => False)) (hg : L2.Gl X x) (hm : X.mg x = some (.ref C))
    (hdb : (x == ("__debug__" : Str)) = false) :
    PMk X (.Call (.Name x p) [] [] pos) (tMkO C sp dvs tNil) := by
  intro pins s1 σ H1 Q I1 h
  obtain ⟨nm, q, N, bs, bm, sn, sub, ab, col, dd, k0, k1, k2, k3, k5, hC, hbm⟩ := T.cls
  refine wpAny_Call_Name_kw (ld_glob I1 hg hm ?_ hdb)
  refine PySem.W.callWith_K0 I1.kIn T.kC ?_
  show wpAny _ _ (call (.ref C) []) _ _ _
  obtain ⟨hz, q1⟩ := h
  obtain ⟨hp, g, dr, tk, os⟩ := s1
  have hsz : hp.objs.size ≤ hp.objs.size + 1 := Nat.le_succ _
  have hn : H1 (hp.objs.size + 1) = none := I1.hok.fresh hsz
  have hq := q1 (hp.objs.size + 1) hn
  have kk : ∀ b o, hp.get? b = some o → ((hp.push (PySem.W.kdv_tup [])).push (PySem.HandSPX.excO C hp.objs.size)).get? b = some o := fun b o e => Heap.get?_push_of_some _ (Heap.get?_push_of_some _ e)
  have hget : ((hp.push (PySem.W.kdv_tup [])).push (PySem.HandSPX.excO C hp.objs.size)).get? (hp.objs.size + 1) = some (PySem.HandSPX.excO C hp.objs.size) := by heap_get
  have I2 : Inv X pins σ (upd H1 (hp.objs.size + 1) (exo (hp.objs.size + 1) C none)) ⟨(hp.push (PySem.W.kdv_tup [])).push (PySem.HandSPX.excO C hp.objs.size), g, dr, tk, os⟩ :=
    I1.laid (t' := tk) (a := hp.objs.size + 1) (o := exo (hp.objs.size + 1) C none) (h' := (hp.push (PySem.W.kdv_tup [])).push (PySem.HandSPX.excO C hp.objs.size)) kk hsz (exo_ok hget)
  have r2 : Vals (V.ref (hp.objs.size + 1) :: ([] ++ dvs)) (Value.ref (hp.objs.size + 1) :: ([] ++ ds)) := .cons rfl hd
  have hl : (Value.ref (hp.objs.size + 1) :: [] ++ ds).length = ps.length := by
    have e := r2.length
    rw [F1.len _ _ _ _ hq] at e
    exact e.symm
  refine wpAny_call (PySem.HandSPX.call_own F.excBase_ValueError (fun Y => PySem.HandSPX.refsVE_contains Y bm hbm) (I1.kIn _ _ hC) (PySem.W.looks_findIn I1.kIn iC) (fun self => PySem.W.bind_fn I1.kIn self tI) (Nat.zero_le _)
    (codeAny_mono (F1.run _ X.stack _ _ ⟨Value.ref (hp.objs.size + 1) :: [], []⟩ (Value.ref (hp.objs.size + 1) :: ([] ++ ds)) _ _ (fun _ _ _ => False) (hr.make C [] []) (I2.env0.make C [] []) (by have z := hb _ (Value.ref (hp.objs.size + 1) :: []) I2.kIn hl; simpa using z) r2 hq) fun r s' hq' => ?_))
  cases r with
  | error er => exact hx pins σ _ _ er s' I2 hq'
  | ok fl =>
    cases fl with
    | ret u =>
      obtain ⟨v, H2, os2, bare2, un2, hok2, rv, ev, d, fs, ea, ed, hd1, q2⟩ := hq'
      subst ev
      obtain ⟨h2, g2, d2, t2, os'⟩ := s'
      exact ⟨rv, mk_end (raises_own T.exC T.tyC) I1 hsz kk un2 hok2 os2 bare2 ea ed hd1 q2⟩
    | next => exact False.elim hq'
    | brk => exact False.elim hq'
    | cont => exact False.elim hq'
end
/-- an own exception class whose __init__ keeps its one value by the names ns -/
structure ExcD (G : Gl) (k : Nat) (x : Str) (ns : List Str) (zero : Bool) : Prop where
  ex : ∃ C f fd ps ok, G.mg x = some (.ref C) ∧ G.ca x = some C ∧ OexC G.K C ∧ ok C ∧ PySem.W.findIn G.K (.ref C) "__init__" = some (some (.ref f)) ∧ PySem.W.typeIn G.K (.ref f) = some (.type "function") ∧ FnOk G.P G.w G.K G.mg G.base (CX G.P G.w) k f fd ps (spInit ok ns) ∧
    Binds G.K fd ps [] ∧ (zero = true → Binds G.K fd ps [.none])
def excOf (c : Str) (ns : List Str) (d : D) : Exn := ⟨c, ns, ns.map fun _ => d⟩
def sRaise1 (x : Str) (ns : List Str) (f : EV D) : SV := fun env s => (f env s).toS env fun d s1 => .exc (excOf x ns d) env s1
def sRaise0 (x : Str) (ns : List Str) : SV := fun env s => .exc (excOf x ns .non) env s
theorem zip_fill {α : Type} {v : α} : ∀ {ns : List Str}, (ns.map fun n => (n, v)) = ns.zip (ns.map fun _ => v)
  | [] => rfl
  | n :: r => by rw [List.map_cons, List.map_cons, List.zip_cons_cons, zip_fill]
theorem repl_fill {G : Gl} {F : Hp} {mu : List Addr} {d : D} {v : V} (r : Rep G F mu d v) : ∀ {ns : List Str}, RepL G F mu (ns.map fun _ => d) (ns.map fun _ => v)
  | [] => .nil
  | _ :: _ => .cons r (repl_fill r)
theorem no_exc {P : Program} {w : World} {outer : List Env} {H : Hp} {s : Shared} {u : Value} {s' : Shared} (h : CX P w outer H s (fun _ _ _ => False) u s') : False := by
  obtain ⟨_, _, _, _, _, _, _, _, _, _, _, _, z⟩ := h
  exact z
section
variable {G : Gl} {k : Nat} {c : Ct} {f g h : EV D} {a b e : Expr} {pos p : Pos}
/-- what the maker leaves -/
theorem exc_made {ok : Addr → Prop} {x : Str} {ns : List Str} {C : Addr} {F : Hp} {mu : List Addr} {s : DS} {H : Hp} {W : WX} {env : Env'} {σ : L2.St} {Dn : Ends} {d : D} {v : V} (hok : ok C) (hca : G.ca x = some C) (hs : SR G F mu s H) (he : ER G F mu env σ) (r : Rep G F mu d v)
    (p : PostS G F mu H W (.exc (excOf x ns d) env s) Dn) (ea : Addr) (hea : H ea = none) : spInit ok ns [.ref ea, v] (upd H ea (exo ea C none))
      (fun w H2 => w = .non ∧ ∃ (d : Addr) (fs : List (Str × V)), H2 ea = some (exo ea C (some d)) ∧ H2 d = some (exd d fs) ∧ H d = none ∧ W (.ref C) (some d) σ (upd (del H2 ea) d (.xd fs))) (fun _ _ _ => False) := by
  refine ⟨ea, C, v, rfl, hok, upd_same, fun dx h1 h2 => ⟨rfl, dx, _, upd_same, by rw [upd_ne h2, upd_same], ?_, ?_⟩⟩
  · rw [upd_ne h2] at h1; exact h1
  · have hdx : H dx = none := by rw [upd_ne h2] at h1; exact h1
    have eH : upd (del (upd (upd (upd H ea (exo ea C none)) dx (exd dx (ns.map fun n => (n, v)))) ea (exo ea C (some dx))) ea) dx (.xd (ns.map fun n => (n, v))) = upd H dx (.xd (ns.map fun n => (n, v))) := by
      funext b
      by_cases z : b = dx
      · rw [z, upd_same, upd_same]
      · rw [upd_ne z, upd_ne z]
        by_cases y : b = ea
        · rw [y, del_same, hea]
        · rw [del_ne y, upd_ne y, upd_ne z, upd_ne y]
    rw [eH]
    have x1 := Ex.frozen (o := .xd (ns.map fun n => (n, v))) hs hdx
    have l1 := x1.le
    refine p _ _ _ σ _ _ x1 (hs.frozen hdx) (he.mono l1) ⟨C, dx, ns.map fun _ => v, rfl, rfl, hca, ?_, ?_, repl_fill (r.mono l1)⟩
    · rw [upd_same]; show some (HO.xd _) = some (HO.xd _); rw [zip_fill] <;> rfl
    · show ns.length = _; rw [List.length_map]
theorem ps_draise {x : Str} {ns : List Str} {z : Bool} {pos' : Pos} (hcm : c.calm = true) (hE : ExcD G k x ns z) (hg : c.sc.names.lookup x = some .globalImplicit) (hd : (x == ("__debug__" : Str)) = false) (ha : PEd G (k + 1) c f e) (hs : notStar e = true) :
    PSd G (k + 1) c (sRaise1 x ns f) (.Raise (some (.Call (.Name x p) [e] [] pos)) none pos') := fun X W ok => by
  obtain ⟨C, fI, fd, ps, okC, h1, hca, h2, h3, h4, h5, h6, h7, _⟩ := hE.ex
  rw [← ok.K, ← ok.prog, ← ok.w, ← ok.mg, ← ok.base] at h6
  rw [← ok.K] at h2 h4 h5 h7
  refine PS.by (ps_raise (ok.calm hcm).1 ok.tk (pmk_oex h2 h4 h5 h6 (ok.room hcm) h7 .nil (fun _ _ _ _ _ _ _ z => (no_exc z).elim) (gl_of ok hg) (by rw [ok.mg]; exact h1) (pa_cons (ha X W ok) pa_nil (starEach_cons hs)) hd (starEach_cons hs))) fun Dn σ H q => ?_
  obtain ⟨F, mu, env, s, hs0, he, p⟩ := q
  refine ⟨F, mu, env, s, hs0, he, Post.toS hs0 he p fun F1 mu1 H1 d v s1 x1 hs1 r1 he1 p1 => ⟨by show 1 ≤ 1000; omega, fun a ha => ?_⟩⟩
  exact exc_made h3 hca hs1 he1 r1 p1 a ha
theorem ps_draise0 {x : Str} {ns : List Str} {pos' : Pos} (hcm : c.calm = true) (hE : ExcD G k x ns true) (hg : c.sc.names.lookup x = some .globalImplicit) (hd : (x == ("__debug__" : Str)) = false) :
    PSd G (k + 1) c (sRaise0 x ns) (.Raise (some (.Call (.Name x p) [] [] pos)) none pos') := fun X W ok => by
  obtain ⟨C, fI, fd, ps, okC, h1, hca, h2, h3, h4, h5, h6, _, h7⟩ := hE.ex
  have h7 := h7 rfl
  rw [← ok.K, ← ok.prog, ← ok.w, ← ok.mg, ← ok.base] at h6
  rw [← ok.K] at h2 h4 h5 h7
  refine PS.by (ps_raise (ok.calm hcm).1 ok.tk (pmk_oex0 (dvs := [.non]) h2 h4 h5 h6 (ok.room hcm) h7 (.cons rfl .nil) (fun _ _ _ _ _ _ _ z => (no_exc z).elim) (gl_of ok hg) (by rw [ok.mg]; exact h1) hd)) fun Dn σ H q => ?_
  obtain ⟨F, mu, env, s, hs0, he, p⟩ := q
  exact ⟨by decide, fun a ha => exc_made h3 hca hs0 he .non p a ha⟩
/-! ### the fields of what is handled -/
def eXf (xv : Option Exn) (n : Str) : EV D := fun _ s => match xv with
  | some x => match lookN x.ns x.vs n with
    | some d => .ok d s
    | none => .bad
  | none => .bad
/-- the classes whose fields are read so -/
def XfOk (G : Gl) (xf : Str → Str → Bool) : Prop := ∀ cn n, xf cn n = true → ∀ C, G.ca cn = some C → XfC G.K C ∧ PySem.W.findIn G.K (.ref C) n = some none
def eXfT (xf : Str → Str → Bool) (xv : Option Exn) (n : Str) : EV D := fun env s => match xv with
  | some x => if xf x.c n = true then eXf xv n env s else .bad
  | none => .bad
theorem pe_dxf {xf : Str → Str → Bool} {xv : Option Exn} {n x : Str} {i : Nat} {p1 : Pos} (hxf : XfOk G xf) (hxv : ∀ y, xv = some y → ∃ z, G.xa = some z ∧ z.x = y) (hxi : c.xi = some i) (hi : slotOf c.N x = some i) (hv : visB c.sc x = true) (hd : (x == ("__debug__" : Str)) = false) (hcd : (x == ("__classdict__" : Str)) = false) :
    PEd G k c (eXfT xf xv n) (.Attribute (.Name x p1) n pos) := fun X W ok => by
  cases hxa : G.xa with
  | none =>
    refine ⟨fun pins s σ H Q I q => ?_⟩
    obtain ⟨F, mu, env, s, hs, he, p⟩ := q
    unfold eXfT at p
    split at p
    · obtain ⟨z, hz, _⟩ := hxv _ rfl
      rw [hxa] at hz; cases hz
    · exact p.elim
  | some z =>
    obtain ⟨h1, X0, oe, pn, hX, hzc, hvs⟩ := ok.xi z hxa
    have hii : z.i = i := by rw [h1] at hxi; exact Option.some.inj hxi
    refine ⟨fun pins s σ H Q I q => ?_⟩
    obtain ⟨F, mu, env, s0, hs, he, p⟩ := q
    unfold eXfT at p
    split at p
    · rename_i y
      obtain ⟨z', hz', hy⟩ := hxv _ rfl
      rw [hxa] at hz'; cases hz'
      subst hy
      split at p
      · rename_i hxt
        unfold eXf at p
        dsimp only at p
        cases hl : lookN z.x.ns z.x.vs n with
        | none => rw [hl] at p; exact p.elim
        | some d =>
          rw [hl] at p
          obtain ⟨hσ, hca, ws, hF, hlen, rl⟩ := he.xc z hxa
          obtain ⟨v, e1, rv⟩ := lookN_rep n rl hl
          have K0 : X.K = G.K := ok.K
          obtain ⟨t1, t2⟩ := hxf _ _ hxt _ hca
          rw [← K0] at t1 t2
          subst hX
          have hN : X0.N[z.i]? = some x := by
            have : (Cx.suite X0 z.a ((z.a, oe) :: pn)).N = c.N := ok.N
            show (Cx.suite X0 z.a ((z.a, oe) :: pn)).N[z.i]? = _
            rw [this, hii]; exact slotOf_ok hi
          have hvis : Vis X0.env.scope x := by
            have : (Cx.suite X0 z.a ((z.a, oe) :: pn)).env.scope = c.sc := ok.sc
            show Vis (Cx.suite X0 z.a ((z.a, oe) :: pn)).env.scope x
            rw [this]; exact visB_ok hv
          exact (pe_xf (X := X0) (pos := pos) t1 t2 hzc hvs (pe_var (pos := p1) hN hvis hd hcd) (attr_base rfl)).run pins s σ H Q I ⟨.ref z.a, hσ, rfl, rfl, z.d, _, v, rfl, hs.sub _ _ hF, e1, Post.here (G := G) hs rv p⟩
      · exact p.elim
    · exact p.elim
/-! ### try -/
def Gl.hand (G : Gl) : Option Nat → Addr → Addr → Addr → Exn → Gl
  | none, _, _, _, _ => G
  | some i, a, C, d, x => { G with xa := some ⟨i, a, C, d, x⟩ }
structure HdD where
  c : Str
  i : Option Nat
  b : Exn → SV
def unset (env : Env') : Option Nat → Env'
  | none => env
  | some i => env.set i none
def unsetS (σ : L2.St) : Option Nat → L2.St
  | none => σ
  | some i => σ.set i none
def inEnv (env : Env') : Option Nat → Bool
  | none => true
  | some i => decide (i < env.length)
def tryH (xm : Str → Str → Option Bool) : List HdD → Exn → Env' → DS → SR'
  | [], x, env, s => .exc x env s
  | h :: r, x, env, s => match xm x.c h.c with
    | some b => if b = true then (if inEnv env h.i = true then match h.b x (unset env h.i) s with
        | .nx env' s' => .nx (unset env' h.i) s'
        | .bk env' s' => .bk (unset env' h.i) s'
        | .ct env' s' => .ct (unset env' h.i) s'
        | .rt d s' => .rt d s'
        | _ => .bad
      else .bad) else tryH xm r x env s
    | none => .bad
def sTry (xm : Str → Str → Option Bool) (body : SV) (hs : List HdD) : SV := fun env s => match body env s with
  | .exc x env1 s1 => tryH xm hs x env1 s1
  | r => r
def XmOk (G : Gl) (xm : Str → Str → Option Bool) : Prop := ∀ a b r, xm a b = some r → ∀ C D, G.ca a = some C → G.ca b = some D → PySem.W.exmOne G.K (.ref C) (.ref D) = some r
def Ct.suite (c : Ct) (i : Option Nat) : Ct := { c with calm := false, top := false, xi := i }
inductive HdsD (G : Gl) (k : Nat) (c : Ct) : List ExceptHandler → List HdD → Prop
  | nil : HdsD G k c [] []
  | plain {x : Str} {np pos' : Pos} {b₀ : Stmt} {suite : List Stmt} {hds : List ExceptHandler} {l : List HdD} {b : Exn → SV} (hg : c.sc.names.lookup x = some .globalImplicit) (hd : (x == ("__debug__" : Str)) = false) (hC : ∃ C, G.mg x = some (.ref C) ∧ G.ca x = some C)
      (hb : ∀ y, PBd G k (c.suite none) (b y) (b₀ :: suite)) (r : HdsD G k c hds l) : HdsD G k c (.ExceptHandler (some (.Name x np)) none (b₀ :: suite) pos' :: hds) (⟨x, none, b⟩ :: l)
  | named {x n : Str} {i : Nat} {np pos' : Pos} {b₀ : Stmt} {suite : List Stmt} {hds : List ExceptHandler} {l : List HdD} {b : Exn → SV} (hg : c.sc.names.lookup x = some .globalImplicit) (hd : (x == ("__debug__" : Str)) = false) (hC : ∃ C, G.mg x = some (.ref C) ∧ G.ca x = some C)
      (hi : slotOf c.N n = some i) (hl : c.sc.names.lookup n = some .local) (hb : ∀ y a C d, PBd (G.hand (some i) a C d y) k (c.suite (some i)) (b y) (b₀ :: suite)) (r : HdsD G k c hds l) : HdsD G k c (.ExceptHandler (some (.Name x np)) (some n) (b₀ :: suite) pos' :: hds) (⟨x, some i, b⟩ :: l)
/-- the reading of a suite -/
def tsOf (G : Gl) (i : Option Nat) (b : Exn → SV) : Addr → Value → Option Addr → TS := fun a cls d Dn σ H => ∃ C dd x, cls = .ref C ∧ d = some dd ∧ tS (G.hand i a C dd x) (b x) (fun _ _ _ _ => False) Dn σ H
def hdL (G : Gl) : List HdD → HdL
  | [] => []
  | h :: r => (match (G.ca h.c) with | some C => .ref C | none => .none, h.i, tsOf G h.i h.b) :: hdL G r
theorem xok_suite {X : Cx} {W : WX} (ok : XOk G k c X W) (hcm : c.calm = true) {i : Option Nat} {a C d : Addr} {x : Exn} {oe : Obj} {pn : List (Addr × Obj)} (hz : Zc (.ref C) (some d) oe) (hv : ∃ vs, oe.data = .fields vs) : XOk (G.hand i a C d x) k (c.suite i) (X.suite a ((a, oe) :: pn)) (fun _ _ _ _ => False) := by
  have hxa := (ok.calm hcm).2
  have base : ∀ (G' : Gl), G'.P = G.P → G'.w = G.w → G'.K = G.K → G'.mg = G.mg → G'.base = G.base → (∀ z, G'.xa = some z → (c.suite i).xi = some z.i ∧ ∃ X0 oe pn', X.suite a ((a, oe) :: pn) = Cx.suite X0 z.a ((z.a, oe) :: pn') ∧ Zc (.ref z.C) (some z.d) oe ∧ ∃ vs, oe.data = .fields vs) → True := fun _ _ _ _ _ _ _ => trivial
  cases i with
  | none =>
    refine ⟨ok.prog, ok.w, ok.K, ok.mg, ok.base, ok.N, ok.nd, ok.sc, fun z => (Bool.noConfusion z : _), ?_, fun z => (Bool.noConfusion z : _), ?_, fun z hz' => ?_, fun z => (Bool.noConfusion z : _), ok.st⟩
    · intro u s' x
      obtain ⟨_, _, _, _, _, _, _, _, _, _, _, _, _, _, _, _, w⟩ := x
      exact w.elim
    · exact ok.units
    · have : G.xa = some z := hz'
      rw [hxa] at this; cases this
  | some i =>
    refine ⟨ok.prog, ok.w, ok.K, ok.mg, ok.base, ok.N, ok.nd, ok.sc, fun z => (Bool.noConfusion z : _), ?_, fun z => (Bool.noConfusion z : _), ?_, fun z hz' => ?_, fun z => (Bool.noConfusion z : _), ok.st⟩
    · intro u s' x
      obtain ⟨_, _, _, _, _, _, _, _, _, _, _, _, _, _, _, _, w⟩ := x
      exact w.elim
    · exact ok.units
    · have e : some (⟨i, a, C, d, x⟩ : XA) = some z := hz'
      cases e
      exact ⟨rfl, X, oe, pn, rfl, hz, hv⟩
theorem hds_o {X : Cx} {W : WX} (ok : XOk G k c X W) (hcm : c.calm = true) {hds : List ExceptHandler} {l : List HdD} (h : HdsD G k c hds l) : HdsO X hds (hdL G l) := by
  induction h with
  | nil => exact .nil
  | plain hg hd hC hb r ih =>
    obtain ⟨C, h1, h2⟩ := hC
    unfold hdL
    rw [h2]
    refine .plain ⟨gl_of ok hg, hd, .inl (by rw [ok.mg]; exact h1)⟩ (fun a oe cls d pn hz hv => ⟨fun pins s σ H Dn I q => ?_⟩) ih
    obtain ⟨C', dd, x, rfl, rfl, q⟩ := q
    exact (hb x _ _ (xok_suite (i := none) (x := x) ok hcm hz hv)).run pins s σ H Dn I q
  | named hg hd hC hi hl hb r ih =>
    obtain ⟨C, h1, h2⟩ := hC
    unfold hdL
    rw [h2]
    refine .named ⟨gl_of ok hg, hd, .inl (by rw [ok.mg]; exact h1)⟩ (by rw [ok.N]; exact slotOf_ok hi) (by show X.env.scope.names.lookup _ = _; rw [ok.sc]; exact hl) (fun a oe cls d pn hz hv => ⟨fun pins s σ H Dn I q => ?_⟩) ih
    obtain ⟨C', dd, x, rfl, rfl, q⟩ := q
    exact (hb x a C' dd _ _ (xok_suite ok hcm hz hv)).run pins s σ H Dn I q
theorem Ex.to_ {F F' : Hp} {mu mu' : List Addr} {H H' : Hp} (x : Ex F mu H F' mu' H') : Ex F mu H F' mu' H' := x
theorem hand_K {i : Option Nat} {a C d : Addr} {x : Exn} : (G.hand i a C d x).K = G.K ∧ (G.hand i a C d x).ca = G.ca ∧ (G.hand i a C d x).fa = G.fa := by cases i <;> exact ⟨rfl, rfl, rfl⟩
/-- the clauses, one after the other -/
theorem tryH_ok {X : Cx} {W : WX} (ok : XOk G k c X W) (hcm : c.calm = true) {xm : Str → Str → Option Bool} (hx : XmOk G xm) {x : Exn} {F : Hp} {mu : List Addr} {s : DS} {H : Hp} {env : Env'} {σ : L2.St} {cls : Value} {dd : Option Addr} {Dn : Ends} (hs : SR G F mu s H) (he : ER G F mu env σ) (xr : XRep G F mu x cls dd) : ∀ {l : List HdD} {hds : List ExceptHandler}, HdsD G k c hds l →
    PostS G F mu H W (tryH xm l x env s) Dn → wHds X.K W Dn (hdL G l) cls dd σ H := by
  intro l hds hh
  have hxa := (ok.calm hcm).2
  obtain ⟨C, d, vs, rfl, rfl, hca, hF, hlen, rl⟩ := xr
  have main : ∀ {y : Str} {i : Option Nat} {b : Exn → SV} {r : List HdD}, (∃ D, G.ca y = some D) → (PostS G F mu H W (tryH xm r x env s) Dn → wHds X.K W Dn (hdL G r) (.ref C) (some d) σ H) → PostS G F mu H W (tryH xm (⟨y, i, b⟩ :: r) x env s) Dn → wHds X.K W Dn (hdL G (⟨y, i, b⟩ :: r)) (.ref C) (some d) σ H := by
    intro y i b r hD ih p
    obtain ⟨D, hD⟩ := hD
    unfold tryH at p
    dsimp only at p
    cases hb : xm x.c y with
    | none => rw [hb] at p; exact p.elim
    | some bb =>
      rw [hb] at p
      dsimp only at p
      unfold hdL
      rw [hD]
      refine ⟨bb, by rw [ok.K]; exact hx _ _ _ hb C D hca hD, fun e a ha => ?_, fun e => ?_⟩
      · rw [if_pos e] at p
        split at p
        · rename_i hin
          obtain ⟨k1, k2, k3⟩ := hand_K (G := G) (i := i) (a := a) (C := C) (d := d) (x := x)
          refine ⟨C, d, x, rfl, rfl, F, mu, unset env i, s, hs.to k1 k2 k3, ?_, ?_⟩
          · cases i with
            | none => exact he
            | some i =>
              have hlt : i < env.length := of_decide_eq_true hin
              refine ⟨by show (env.set i none).length = (σ.set i _).length; simp [he.len], fun j d' h => ?_, fun z hz => ?_⟩
              · by_cases q : j = i
                · subst q
                  have h : (env.set j none)[j]? = some (some d') := h
                  rw [List.getElem?_set_self hlt] at h; cases h
                · have h : (env.set i none)[j]? = some (some d') := h
                  rw [List.getElem?_set_ne (Ne.symm q)] at h
                  obtain ⟨v, h1, h2⟩ := he.get j d' h
                  exact ⟨v, by show (σ.set i _)[j]? = _; rw [List.getElem?_set_ne (Ne.symm q)]; exact h1, h2.to k1 k2 k3⟩
              · have e : some (⟨i, a, C, d, x⟩ : XA) = some z := hz
                cases e
                refine ⟨by show (σ.set i _)[i]? = _; rw [List.getElem?_set_self (by rw [← he.len]; exact hlt)], hca, vs, hF, hlen, rl.to k1 k2 k3⟩
          · have back : ∀ {F' mu' s' H'}, SR (G.hand i a C d x) F' mu' s' H' → SR G F' mu' s' H' := fun h => h.to k1.symm k2.symm k3.symm
            have backE : ∀ {F' mu' env' σ'}, ER (G.hand i a C d x) F' mu' env' σ' → ER G F' mu' (unset env' i) (unsetS σ' i) := by
              intro F' mu' env' σ' h
              cases i with
              | none => exact h
              | some i =>
                refine ⟨by show (env'.set i none).length = (σ'.set i none).length; simp [h.len], fun j d' hj => ?_, fun z hz => by rw [hxa] at hz; cases hz⟩
                by_cases q : j = i
                · subst q
                  have hj : (env'.set j none)[j]? = some (some d') := hj
                  have hl : j < env'.length := by
                    have := (List.getElem?_eq_some_iff.mp hj).1
                    simpa using this
                  rw [List.getElem?_set_self hl] at hj; cases hj
                · have hj : (env'.set i none)[j]? = some (some d') := hj
                  rw [List.getElem?_set_ne (Ne.symm q)] at hj
                  obtain ⟨v, h1, h2⟩ := h.get j d' hj
                  exact ⟨v, by show (σ'.set i none)[j]? = _; rw [List.getElem?_set_ne (Ne.symm q)]; exact h1, h2.to k1.symm k2.symm k3.symm⟩
            show PostS (G.hand i a C d x) F mu H (fun _ _ _ _ => False) (b x (unset env i) s) (endsAt Dn i)
            cases ebb : b x (unset env i) s with
            | nx env' s' =>
              rw [ebb] at p
              show ∀ F' mu' H' σ', Ex F mu H F' mu' H' → SR (G.hand i a C d x) F' mu' s' H' → ER (G.hand i a C d x) F' mu' env' σ' → (endsAt Dn i).nx σ' H'
              intro F' mu' H' σ' x' hs' he'
              have z := p F' mu' H' _ x' (back hs') (backE he')
              cases i <;> exact z
            | bk env' s' =>
              rw [ebb] at p
              show ∀ F' mu' H' σ', Ex F mu H F' mu' H' → SR (G.hand i a C d x) F' mu' s' H' → ER (G.hand i a C d x) F' mu' env' σ' → (endsAt Dn i).bk σ' H'
              intro F' mu' H' σ' x' hs' he'
              have z := p F' mu' H' _ x' (back hs') (backE he')
              cases i <;> exact z
            | ct env' s' =>
              rw [ebb] at p
              show ∀ F' mu' H' σ', Ex F mu H F' mu' H' → SR (G.hand i a C d x) F' mu' s' H' → ER (G.hand i a C d x) F' mu' env' σ' → (endsAt Dn i).ct σ' H'
              intro F' mu' H' σ' x' hs' he'
              have z := p F' mu' H' _ x' (back hs') (backE he')
              cases i <;> exact z
            | rt d' s' =>
              rw [ebb] at p
              show ∀ F' mu' H' v, Ex F mu H F' mu' H' → SR (G.hand i a C d x) F' mu' s' H' → Rep (G.hand i a C d x) F' mu' d' v → (endsAt Dn i).rt v H'
              intro F' mu' H' v x' hs' r'
              have z := p F' mu' H' v x' (back hs') (r'.to k1.symm k2.symm k3.symm)
              cases i <;> exact z
            | exc x' env' s' => rw [ebb] at p; exact p.elim
            | bad => rw [ebb] at p; exact p.elim
        · exact p.elim
      · rw [if_neg (by rw [e]; exact Bool.false_ne_true)] at p
        exact ih p
  induction hh with
  | nil => exact fun p => p F mu H σ (.ref C) (some d) Ex.refl hs he ⟨C, d, vs, rfl, rfl, hca, hF, hlen, rl⟩
  | plain hg hd hC hb r ih =>
    obtain ⟨D, _, h2⟩ := hC
    exact main ⟨D, h2⟩ ih
  | named hg hd hC hi hl hb r ih =>
    obtain ⟨D, _, h2⟩ := hC
    exact main ⟨D, h2⟩ ih
theorem ps_dtry (hcm : c.calm = true) (htop : c.top = true) {xm : Str → Str → Option Bool} (hx : XmOk G xm) {fb : SV} {l : List HdD} {body : List Stmt} {h₀ : ExceptHandler} {hds : List ExceptHandler} (hb : PBd G k c fb body) (hh : HdsD G k c (h₀ :: hds) l) : PSd G k c (sTry xm fb l) (.Try body (h₀ :: hds) [] [] pos) := fun X W ok => by
  obtain ⟨t1, t2, t3⟩ := ok.top htop
  refine PS.by (ps_try_hds (tb := tS G fb) t2 t3 (by rw [ok.N]; exact ok.nd) ok.tk (fun W' pn xe tk' po => hb _ _ ⟨ok.prog, ok.w, ok.K, ok.mg, ok.base, ok.N, ok.nd, ok.sc, ok.calm, tk', ok.room, ok.units, (fun z hz => by rw [(ok.calm hcm).2] at hz; cases hz), fun _ => ⟨po, t2, t3⟩, ok.st⟩) (hds_o ok hcm hh)) fun Dn σ H q => ?_
  obtain ⟨F, mu, env, s, hs, he, p⟩ := q
  refine ⟨F, mu, env, s, hs, he, ?_⟩
  unfold sTry at p
  cases eb : fb env s with
  | exc x env1 s1 =>
    rw [eb] at p
    dsimp only at p
    intro F' mu' H' σ' cls dd x1 hs1 he1 xr
    exact tryH_ok ok hcm hx hs1 he1 xr hh (PostS.mono hs hs1 x1 p)
  | nx env1 s1 => rw [eb] at p; exact p
  | rt env1 s1 => rw [eb] at p; exact p
  | bk env1 s1 => rw [eb] at p; exact p
  | ct env1 s1 => rw [eb] at p; exact p
  | bad => rw [eb] at p; exact p
end
end Pv

set_option Elab.async false
set_option linter.all false
set_option maxRecDepth 100000
/-! Ev15: stars, sorted, dicts, parallel stores, sets' lengths. -/
namespace Pv
open PySem PySem.Spec PyProof.Rows L2
section
variable {prog : Program} {w : World} {A : Around} {E : Value → Shared → Prop} {s : Shared}
theorem collect_tup {l : Addr} {vs : List Value} {o : Obj} {n : Nat} {Q : List Value → Shared → Prop} (ho : s.heap.get? l = some o) (hc : o.cls = .type "tuple") (hd : o.data = .seq vs.toArray n)
    (h : Q vs { s with heap := (s.heap.push (seqObj "list" #[] 0)).update s.heap.objs.size (Obj.mapSeq (· ++ vs.toArray)) }) (hsz : vs.length ≤ sizeLine) :
    wpAny (model prog w) A (collect (.ref l)) Q E s := by
  unfold collect
  refine wpAny_bind (wpAny_runValue (codeAny_builtin entry_proto_collect' ?_))
  show wpAny _ _ (do again (.builtin "list.__iadd__" ⟨[← newList [], .ref l], []⟩)) _ _ s
  refine wpAny_bind (wpAny_newList (wpAny_pure ⟨Code.quiet_builtin _ (by decide +kernel), codeAny_builtin entry_list_iadd' ?_⟩))
  show wpAny _ _ (Builtin.List.listExtendWith (.ref s.heap.objs.size) (.ref l) (.ref s.heap.objs.size)) _ _ { s with heap := s.heap.push (seqObj "list" #[] 0) }
  unfold Builtin.List.listExtendWith
  have ho' : (s.heap.push (seqObj "list" #[] 0)).get? l = some o := Heap.get?_push_of_some _ ho
  refine wpAny_bind (wpAny_typeOf (T := "tuple") ⟨o, ho', hc⟩ ?_)
  have ht : (Value.type "tuple" == Value.type "tuple") = true := by rfl
  rw [if_pos (by rw [ht]; simp)]
  refine wpAny_bind (listItems_at ho' hd ?_)
  refine wpAny_bind (listItems_at (xs := #[]) (n := 0) (Heap.get?_push_size _ rfl) rfl ?_)
  rw [if_neg (by simp)]
  refine wpAny_bind (listUpdate_at (xs := #[]) (n := 0) (Heap.get?_push_size _ rfl) rfl ?_ (Nat.zero_le _) (by show (#[] ++ vs.toArray).size ≤ sizeLine + 1; simp only [Array.size_append, List.size_toArray, List.length_nil]; omega))
  refine wpAny_pure ?_
  show wpAny (model prog w) A (do
      let o ← load s.heap.objs.size
      match o.data with
      | .seq xs _ => pure xs.toList
      | _ => unsupported "internal:collect") Q E { s with heap := (s.heap.push (seqObj "list" #[] 0)).update s.heap.objs.size (Obj.mapSeq (· ++ vs.toArray)) }
  refine wpAny_bind (wpAny_load (get?_update_seq (Heap.get?_push_size _ rfl) _) ?_)
  show wpAny _ _ (pure ((#[] : Array Value) ++ vs.toArray).toList) Q E _
  rw [show ((#[] : Array Value) ++ vs.toArray).toList = vs by simp]
  exact wpAny_pure h
open PySem.W PySem.Calls in
theorem sorted_data_t {β : Type} {vs : List Value} {bs : List β} {enc : β → PyData} {R : Value → β → Prop} {l : Addr} {o : Obj} {n : Nat} {Q : Value → Shared → Prop} (ho : s.heap.get? l = some o) (hc : o.cls = .type "tuple") (hd : o.data = .seq vs.toArray n) (e : EachIs R vs bs) (er : EachIs (fun v b => ∃ as, Reads s.heap v (enc b) as) vs bs) (hal : AllAlike (bs.map enc)) (hk : Sortable (bs.map enc)) (hL : bs.length ≤ sizeLine)
    (hu : ∀ b, b ∈ bs → A.units + 2 + (enc b).depth < cLine) (h : ∀ out, out.length = bs.length → EachIs R out (bs.mergeSort (dataLe false enc)) → Q (.ref (s.heap.objs.size + 1)) { s with heap := sortedAll s.heap vs (List.toArray out) }) :
    wpAny (model prog w) A (call (.builtin "sorted") [.ref l]) Q E s := by
  have er' : EachIs (fun v b => ∃ as, Reads (sortingHeap (copyHeap s.heap vs) (s.heap.objs.size + 1) vs) v (enc b) as) vs bs := er.mono fun _ _ ⟨as, r⟩ => ⟨as, PyProof.Rows.Reads.keeps (fun _ _ => sorting_copy_old) r⟩
  have hL' : vs.length ≤ sizeLine := by rw [e.length]; exact hL
  have S := SortsAt.data (prog := prog) (w := w) (A := A.in1.in1) (s := { s with heap := sortingHeap (copyHeap s.heap vs) (s.heap.objs.size + 1) vs }) (each_map (R := fun v d => ∃ as, Reads (sortingHeap (copyHeap s.heap vs) (s.heap.objs.size + 1) vs) v d as) enc er') hal hk (bound_map hu)
  have hq := h _ (by rw [sortVals_length false rfl]; exact e.length) (sortVals_data false e er' hal)
  refine call_function_entry_kw kind_sorted plain_sorted entry_sorted (args_sorted1 _) ?_
  unfold Builtin.«sorted»
  refine wpAny_bind (m := checkCount "sorted" 1 1 _) (wpAny_pure ?_)
  refine wpAny_bind (collect_tup ho hc hd ?_ hL')
  refine wpAny_bind (wpAny_newList ?_ hL')
  have hsz : ((s.heap.push (seqObj "list" #[] 0)).update s.heap.objs.size (Obj.mapSeq (· ++ vs.toArray))).objs.size = s.heap.objs.size + 1 := by
    rw [Heap.size_update, size_push']
  show wpAny _ _ _ _ _ { s with heap := copyHeap s.heap vs }
  rw [hsz]
  refine wpAny_bind (wpAny_holding (wpAny_call_entry_kw slot_list_sort ⟨_, copyHeap_at s.heap vs, rfl⟩ entry_list_sort ?body (args_list_sort _)))
  case body =>
    show wpAny (model prog w) A.in1.in1 (Builtin.«list.sort» ⟨[.ref (s.heap.objs.size + 1)], []⟩) _ _ _
    exact list_sort_vals (s := { s with heap := copyHeap s.heap vs }) (copyHeap_at s.heap vs) S hL' ⟨_, rfl, wpAny_pure ⟨_, rfl, hq⟩⟩
end
section
variable {G : Gl} {k : Nat} {c : Ct} {f g h : EV D} {a b e : Expr} {pos p : Pos} {fs : EV (List D)} {es : List Expr}
/-! ### *e among the arguments -/
def aStar (f : EV D) (fs : EV (List D)) : EV (List D) := fun env s => (f env s).bind fun d s1 => match seqOf d s1 with
  | some xs => (fs env s1).bind fun ys s2 => .ok (xs ++ ys) s2
  | none => .bad
theorem pa_dstar (ha : PEd G k c f a) (hr : PAd G k c fs es) : PAd G k c (aStar f fs) (.Starred a p :: es) := fun X W ok =>
  PA.by (StX.pa_star (ha X W ok) (hr X W ok)) fun σ H Q q => by
    obtain ⟨F, mu, env, s, hs, he, p⟩ := q
    refine ⟨F, mu, env, s, hs, he, Post.bind hs p fun F1 mu1 H1 d v s1 x1 hs1 r1 p1 => ?_⟩
    try dsimp only at p1
    cases es' : seqOf d s1 with
    | none => rw [es'] at p1; exact p1.elim
    | some xs =>
      rw [es'] at p1
      obtain ⟨a', vs, rfl, h1, h2⟩ := seqOf_ok hs1 r1 es'
      refine ⟨a', vs, rfl, by rw [ok.K]; exact h1.symm, F1, mu1, env, s1, hs1, he.mono x1.le, Post.bind hs1 p1 fun F2 mu2 H2 d2 v2 s2 x2 hs2 r2 p2 => ?_⟩
      exact Post.here (G := G) hs2 (show RepL G _ _ _ _ from (RepL.mono x2.le h2).append r2) p2
/-! ### sorted -/
def encD (d : D) : PyData := (pdD d).getD .none
noncomputable def sortD (xs : List D) : List D := xs.mergeSort (PySem.W.dataLe false encD)
def sortOk (ps : List PyData) : Prop := PySem.W.AllAlike ps ∧ PySem.W.Sortable ps ∧ ∀ p ∈ ps, p.depth ≤ 50
open Classical in
noncomputable def opSorted (m : Bool) : Op
  | [d], s => (seqOf d s).bind fun xs => (pdD.pdL xs).bind fun ps => if sortOk ps then some (newLst m (sortD xs) s) else none
  | _, _ => none
theorem pdL_enc : ∀ {xs : List D} {ps : List PyData}, pdD.pdL xs = some ps → xs.map encD = ps
  | [], ps, h => by
    simp only [pdD.pdL] at h
    cases h; rfl
  | x :: xs, ps, h => by
    simp only [pdD.pdL] at h
    obtain ⟨d, h1, h2⟩ := Option.bind_eq_some_iff.mp h
    obtain ⟨ds, h3, h4⟩ := Option.map_eq_some_iff.mp h2
    subst h4
    rw [List.map_cons, pdL_enc h3]
    unfold encD
    rw [h1]; rfl
theorem zip_rel : ∀ {xs : List D} {vs : List V} {us : List Value}, Vals vs us → xs.length = vs.length → PySem.W.EachIs (fun u (b : D × V) => RelV b.2 u) us (xs.zip vs)
  | [], [], _, .nil, _ => .nil
  | x :: xs, v :: vs, _, .cons r t, h => .cons r (zip_rel t (Nat.succ.inj h))
theorem each_vals : ∀ {us : List Value} {bs : List (D × V)}, PySem.W.EachIs (fun u (b : D × V) => RelV b.2 u) us bs → Vals (bs.map Prod.snd) us
  | _, _, .nil => .nil
  | _, _, .cons r t => .cons r (each_vals t)
theorem repl_pairs {F : Hp} {mu : List Addr} : ∀ {bs : List (D × V)}, (∀ b ∈ bs, Rep G F mu b.1 b.2) → RepL G F mu (bs.map Prod.fst) (bs.map Prod.snd)
  | [], _ => .nil
  | b :: bs, h => .cons (h b (List.mem_cons_self ..)) (repl_pairs fun c hc => h c (List.mem_cons_of_mem _ hc))
theorem zip_rep {F : Hp} {mu : List Addr} : ∀ {xs : List D} {vs : List V}, RepL G F mu xs vs → ∀ b ∈ xs.zip vs, Rep G F mu b.1 b.2
  | _, _, .nil, _, h => by cases h
  | _, _, .cons r t, b, h => by
    rcases List.mem_cons.mp h with e | e
    · rw [e]; exact r
    · exact zip_rep t b e
theorem bo_sorted (m : Bool) : BOk G k (.builtin "sorted") (opSorted m) := fun c X W hcm ok pins sh σ H xs us Q I rv q => by
  obtain ⟨F, mu, s, ds, hs, rd, p⟩ := q
  unfold opSorted at p
  split at p
  · obtain ⟨v, rfl, r⟩ := rd.inv1
    obtain ⟨ys, e1, p⟩ := ofO_bind p
    obtain ⟨ps, e2, p⟩ := ofO_bind p
    split at p
    · rename_i hk
      obtain ⟨a, vs, rfl, h1, h2⟩ := seqOf_ok hs r e1
      have hd := pdL_ok hs h2 e2
      rw [← ok.K] at hd
      rw [Vals.ref1 rv]
      have hm := pdL_enc e2
      have hll := h2.length
      have hmap : (ys.zip vs).map (fun b : D × V => encD b.1) = ps := by
        have : (ys.zip vs).map (fun b : D × V => encD b.1) = ((ys.zip vs).map Prod.fst).map encD := by rw [List.map_map]; rfl
        rw [this, List.map_fst_zip (by omega), hm]
      have hsz : (ys.zip vs).length = vs.length := by rw [List.length_zip]; omega
      have hu : ∀ b, b ∈ ys.zip vs → X.A.units + 2 + (encD b.1).depth < cLine := fun b hb => by
        have hb' : encD b.1 ∈ ps := by rw [← hmap]; exact List.mem_map.mpr ⟨b, hb, rfl⟩
        have z := hk.2.2 _ hb'
        have := ok.units
        omega
      have fin : ∀ its : List Value, Vals vs its → vs.length ≤ sizeLine → ∀ out : List Value, out.length = (ys.zip vs).length → PySem.W.EachIs (fun u (b : D × V) => RelV b.2 u) out ((ys.zip vs).mergeSort (PySem.W.dataLe false fun b : D × V => encD b.1)) →
          ∃ (v : V) (H' : Hp), Inv X pins σ H' { sh with heap := PyProof.Rows.sortedAll sh.heap its out.toArray } ∧ RelV v (.ref (sh.heap.objs.size + 1)) ∧ Q v H' := fun its rvs hz out hlen hout => by
        have hmf : ((ys.zip vs).mergeSort (PySem.W.dataLe false fun b : D × V => encD b.1)).map Prod.fst = sortD ys := by
          rw [List.map_mergeSort (r := PySem.W.dataLe false fun b : D × V => encD b.1) (s := PySem.W.dataLe false encD) (f := Prod.fst) (fun _ _ _ _ => rfl), List.map_fst_zip (by omega)]
          rfl
        have hr : RepL G F mu (sortD ys) (((ys.zip vs).mergeSort (PySem.W.dataLe false fun b : D × V => encD b.1)).map Prod.snd) := by
          rw [← hmf]
          exact repl_pairs fun b hb => zip_rep h2 b ((List.mergeSort_perm _ _).mem_iff.mp hb)
        have hv := each_vals hout
        obtain ⟨ep, he'⟩ := PyProof.Rows.sortedAll_at sh.heap its out.toArray
        have hl2 : (((ys.zip vs).mergeSort (PySem.W.dataLe false fun b : D × V => encD b.1)).map Prod.snd).length ≤ sizeLine := by
          rw [List.length_map, List.length_mergeSort, hsz]; exact hz
        exact ⟨.ref _, upd H (sh.heap.objs.size + 1) (.lst (((ys.zip vs).mergeSort (PySem.W.dataLe false fun b : D × V => encD b.1)).map Prod.snd)), I.laid (t' := sh.toks) (fun _ _ => PyProof.Rows.sortedAll_old) (Nat.le_succ _) ⟨hl2, out, ep, hv, he'⟩, rfl, Post.newL hs hr p _ (I.hok.fresh (Nat.le_succ _))⟩
      rw [← ok.K] at h1
      have E2 : ∀ its, Vals vs its → PySem.W.EachIs (fun u (b : D × V) => ∃ as, Reads sh.heap u (encD b.1) as) its (ys.zip vs) := fun its rvs => by
        obtain ⟨as, ra⟩ := Dp.readsAll I ps vs its hd rvs
        exact PySem.W.readsAll_each (fun b : D × V => encD b.1) (as := as) (by rw [hmap]; exact ra)
      rcases h1 with h1 | h1
      · obtain ⟨its, rvs, hl, hz⟩ := I.list h1
        exact PySem.W.sorted_data (enc := fun b : D × V => encD b.1) hl.isList (zip_rel rvs hll) (E2 its rvs) (by rw [hmap]; exact hk.1) (by rw [hmap]; exact hk.2.1) (by rw [hsz]; exact hz) hu (fin its rvs hz)
      · obtain ⟨its, rvs, ⟨o, ho, hc, n, hdt⟩, hz⟩ := I.tuple h1
        exact sorted_data_t (enc := fun b : D × V => encD b.1) ho hc hdt (zip_rel rvs hll) (E2 its rvs) (by rw [hmap]; exact hk.1) (by rw [hmap]; exact hk.2.1) (by rw [hsz]; exact hz) hu (fin its rvs hz)
    · exact p.elim
  · exact p.elim
/-! ### {}; dict(pairs) -/
def eDict0 : EV D := fun _ s => .ok (.ref s.length) (s ++ [.dct [] []])
theorem pe_ddict0 : PEd G k c eDict0 (.Dict [] [] pos) := fun X W ok => PE.by pe_dnewK fun σ H Q q => by
  obtain ⟨F, mu, env, s, hs, he, p⟩ := q
  intro a ha
  have x : Ex F mu H F (mu ++ [a]) (upd H a (.dK [])) := Ex.alloc hs ha
  exact p _ _ _ _ x (hs.alloc ha (.dct (ks := []) (vs := []) rfl .nil)) (alloc_ref hs)
/-- the pairs of a list -/
def pairOf : D → Option (Key × D)
  | .tup [a, b] => (keyOf a).map fun k => (k, b)
  | .ktup [a, b] => (keyOf a).map fun k => (k, b)
  | _ => none
def pairsOfL : List D → Option (List (Key × D))
  | [] => some []
  | d :: r => (pairOf d).bind fun p => (pairsOfL r).map fun q => p :: q
/-- later ones win, the place is the first one's -/
def mergeP : List (Key × D) → List Key × List D → List Key × List D
  | [], acc => acc
  | p :: r, acc => mergeP r (putKs acc.1 p.1, putVs acc.1 acc.2 p.1 p.2)
def opDictP : Op
  | [d], s => (lstOf d s).bind fun xs => (pairsOfL xs).map fun ps => (.ref s.length, s ++ [.dct (mergeP ps ([], [])).1 (mergeP ps ([], [])).2])
  | _, _ => none
theorem merge_rep {F : Hp} {mu : List Addr} : ∀ {ps : List (Key × D)} {kvs : List (Key × V)} {acc : List Key × List D} {vs : List V}, Paired (fun (p : Key × D) kv => p.1 = kv.1 ∧ Rep G F mu p.2 kv.2) ps kvs → acc.1.length = vs.length → RepL G F mu acc.2 vs →
    ∃ ws, mergeK (acc.1.zip vs) kvs = (mergeP ps acc).1.zip ws ∧ (mergeP ps acc).1.length = ws.length ∧ RepL G F mu (mergeP ps acc).2 ws
  | _, _, acc, vs, .nil, h, r => ⟨vs, rfl, h, r⟩
  | _, _, acc, vs, .cons (a := p) (b := kv) h t, hl, r => by
    obtain ⟨h1, h2⟩ := h
    obtain ⟨ws, e1, e2, e3⟩ := put_rep (k := p.1) h2 r hl
    obtain ⟨ws', f1, f2, f3⟩ := merge_rep (acc := (putKs acc.1 p.1, putVs acc.1 acc.2 p.1 p.2)) t e2 e3
    refine ⟨ws', ?_, f2, f3⟩
    refine Eq.trans ?_ f1
    show mergeK (putK (acc.1.zip vs) kv.1 kv.2) _ = _
    rw [← h1, e1]
theorem pairs_rep {F : Hp} {mu : List Addr} {s : DS} {H : Hp} (hs : SR G F mu s H) : ∀ {xs : List D} {vs : List V} {ps : List (Key × D)}, RepL G F mu xs vs → pairsOfL xs = some ps → ∃ (as : List Addr) (kvs : List (Key × V)), vs = as.map V.ref ∧ Paired (fun p kv => SqT G.K H p [kV kv.1, kv.2]) as kvs ∧ Paired (fun (p : Key × D) kv => p.1 = kv.1 ∧ Rep G F mu p.2 kv.2) ps kvs
  | _, _, _, .nil, h => by cases h; exact ⟨[], [], rfl, .nil, .nil⟩
  | _, _, _, .cons (d := d) (v := v) r t, h => by
    unfold pairsOfL at h
    obtain ⟨p, h1, h2⟩ := Option.bind_eq_some_iff.mp h
    obtain ⟨q, h3, h4⟩ := Option.map_eq_some_iff.mp h2
    subst h4
    obtain ⟨as, kvs, rfl, i1, i2⟩ := pairs_rep hs t h3
    have two : ∀ {a b : D} {us : List V} {x : Addr}, RepL G F mu [a, b] us → SqT G.K H x us → (keyOf a).map (fun k => (k, b)) = some p → v = .ref x → ∃ (as' : List Addr) (kvs : List (Key × V)), v :: as.map V.ref = as'.map V.ref ∧ Paired (fun p kv => SqT G.K H p [kV kv.1, kv.2]) as' kvs ∧ Paired (fun (p : Key × D) kv => p.1 = kv.1 ∧ Rep G F mu p.2 kv.2) (p :: q) kvs := by
      intro a b us x rr sq hk ev
      obtain ⟨u, w, rfl, r1, r2⟩ := rr.inv2
      obtain ⟨kk, k1, k2⟩ := Option.map_eq_some_iff.mp hk
      subst k2 ev
      have e := key_rep r1 k1
      subst e
      exact ⟨x :: as, (kk, w) :: kvs, rfl, .cons sq i1, .cons ⟨rfl, r2⟩ i2⟩
    cases r with
    | tup tq rr =>
      rename_i a xs us
      match xs, h1, rr with
      | [a, b], h1, rr => exact two rr (hs.sqT tq) h1 rfl
    | ktup tq rr =>
      rename_i a xs us
      match xs, h1, rr with
      | [a, b], h1, rr => exact two rr (SqT.of (hs.sub _ _ tq)) h1 rfl
    | _ => cases h1
theorem bo_dictP : BOk G k (.type "dict") opDictP := fun c X W hcm ok pins sh σ H xs us Q I rv q => by
  obtain ⟨F, mu, s, ds, hs, rd, p⟩ := q
  unfold opDictP at p
  split at p
  · obtain ⟨v, rfl, r⟩ := rd.inv1
    obtain ⟨ys, e1, p⟩ := ofO_bind p
    obtain ⟨ps, e2, p⟩ := ofO_map p
    obtain ⟨a, vs, rfl, h1, h2⟩ := lstOf_ok hs r e1
    obtain ⟨as, kvs, rfl, i1, i2⟩ := pairs_rep hs h2 e2
    refine op_one (call_dictP (ok.calm hcm).1) I rv ⟨a, as, kvs, rfl, SqL.of h1, by rw [ok.K]; exact i1, fun b hb => ?_⟩
    obtain ⟨ws, m1, m2, m3⟩ := merge_rep (acc := ([], [])) (vs := []) i2 rfl .nil
    have m1' : mergeK [] kvs = (mergeP ps ([], [])).1.zip ws := m1
    rw [m1']
    have x : Ex F mu H F (mu ++ [b]) (upd H b (.dK ((mergeP ps ([], [])).1.zip ws))) := Ex.alloc hs hb
    exact p _ _ _ _ x (hs.alloc hb (.dct m2 (m3.mono x.le))) (alloc_ref hs)
  · exact p.elim
/-! ### len(set(x)), x a tuple of ints -/
def distinct : List Int → List Int
  | [] => []
  | x :: r => if x ∈ r then distinct r else x :: distinct r
theorem mem_distinct {y : Int} : ∀ {l : List Int}, y ∈ distinct l ↔ y ∈ l
  | [] => Iff.rfl
  | x :: r => by
    unfold distinct
    by_cases h : x ∈ r
    · rw [if_pos h, mem_distinct, List.mem_cons]
      exact ⟨.inr, fun z => z.elim (fun e => by rw [e]; exact h) id⟩
    · rw [if_neg h, List.mem_cons, List.mem_cons, mem_distinct]
theorem nodup_distinct : ∀ {l : List Int}, (distinct l).Nodup
  | [] => List.nodup_nil
  | x :: r => by
    unfold distinct
    by_cases h : x ∈ r
    · rw [if_pos h]; exact nodup_distinct
    · rw [if_neg h]; exact List.nodup_cons.mpr ⟨fun z => h (mem_distinct.mp z), nodup_distinct⟩
def eLenSet (f : EV D) : EV D := fun env s => (f env s).bind fun d s1 => match (tupOf d).bind intsOf with
  | some ns => if ns.length ≤ 4000 then .ok (.int (distinct ns).length) s1 else .bad
  | none => .bad
theorem pe_dlenSet {p2 q : Pos} (hcm : c.calm = true) (hg : c.sc.names.lookup ("len" : Str) = some .globalImplicit) (hm : G.mg "len" = none) (hg2 : c.sc.names.lookup ("set" : Str) = some .globalImplicit) (hm2 : G.mg "set" = none) (ha : PEd G k c f a) (hs : notStar a = true) :
    PEd G k c (eLenSet f) (.Call (.Name "len" p) [.Call (.Name "set" p2) [a] [] q] [] pos) := fun X W ok => by
  refine ⟨fun pins s σ H Q I h => ?_⟩
  refine Call_ (ld_blt I (gl_of ok hg) (by rw [ok.mg]; exact hm) boot_len ?_)
  refine PyProof.Rows.callWith_builtin1 (PyProof.Rows.args_cons ?_ rfl) rfl rfl
  refine Call_ (ld_blt I (gl_of ok hg2) (by rw [ok.mg]; exact hm2) boot_set ?_)
  obtain ⟨F, mu, env, s0, hs0, he, p⟩ := h
  have hrun : tD G f W σ H fun x H1 => ∃ (l : Addr) (vs : List V) (ns : List Int), x = .ref l ∧ SqT G.K H1 l vs ∧ vs = ns.map V.int ∧ ns.length ≤ 4000 ∧ Q (.int (distinct ns).length) H1 := by
    refine ⟨F, mu, env, s0, hs0, he, Post.bind hs0 p fun F1 mu1 H1 d v s1 x1 hs1 r1 p1 => ?_⟩
    try dsimp only at p1
    split at p1
    · rename_i ns en
      obtain ⟨xs, e1, e2⟩ := Option.bind_eq_some_iff.mp en
      obtain ⟨l, vs, rfl, h1, h2⟩ := tupOf_ok hs1 r1 e1
      split at p1
      · rename_i hz
        exact ⟨l, vs, ns, rfl, h1, intsOf_rep h2 e2, hz, Post.here (G := G) hs1 (show Rep G _ _ _ _ from .int _) p1⟩
      · exact p1.elim
    · exact p1.elim
  refine PyProof.Rows.callWith_type1 (PyProof.Rows.args_cons (thn ((ha X W ok).run pins s σ H _ I hrun) fun v s1 ⟨x, H1, I1, r1, q1⟩ => PyProof.Rows.args_nil ?_) (starEach_cons hs)) (starEach_cons hs) rfl
  obtain ⟨l, vs, ns, rfl, hq, rfl, hl, q1⟩ := q1
  obtain rfl : v = Value.ref l := r1
  rw [← ok.K] at hq
  obtain ⟨its, r, pl, hz⟩ := I1.tuple hq
  refine L2.call_set_tupI ns (I1.ok.hd (ok.calm hcm).1) (show s1.heap.IsTuple l its.toArray from pl) (by simpa using RZ.intsAre_vals r) (by unfold scanBound; omega) fun h' tk c hS hc hk => ?_
  refine PyProof.Rows.args_nil ?_
  obtain ⟨o, es, ep, t, ho, hex, hd, _, hnd, hmem, _, hf, hn, _⟩ := hS
  have I2 : Inv X pins σ H1 { s1 with heap := h', toks := tk } := I1.kept hk
  have hlen : es.size = (distinct ns).length := by
    have hp : (es.toList.map L2.keyOf).Perm (distinct ns) := by
      refine (List.perm_ext_iff_of_nodup hnd nodup_distinct).mpr fun y => ?_
      rw [mem_distinct, ← hmem y]
      exact ⟨of_decide_eq_true, fun z => decide_eq_true z⟩
    have := hp.length_eq
    rw [List.length_map, Array.length_toList] at this
    exact this
  have hle : (distinct ns).length ≤ 4000 := by rw [← hlen, hn]; omega
  refine call_len_set ho hex hd hf (by rw [hlen]; omega) ⟨.int (distinct ns).length, H1, I2.tok _, ⟨_, by rw [hlen]⟩, q1⟩
/-! ### a, b = x, y -/
def sPar2 (i j : Nat) (fs : EV (List D)) : SV := fun env s => (fs env s).toS env fun ds s1 => match ds with
  | [d, e] => .nx ((env.set i (some d)).set j (some e)) s1
  | _ => .bad
def sPar3 (i j l : Nat) (fs : EV (List D)) : SV := fun env s => (fs env s).toS env fun ds s1 => match ds with
  | [d, e, g] => .nx (((env.set i (some d)).set j (some e)).set l (some g)) s1
  | _ => .bad
theorem ps_dpar2 {x y : Str} {i j : Nat} {px py pt pt2 spos : Pos} {kt k2 : Nat} (hcm : c.calm = true) (hi : slotOf c.N x = some i) (hj : slotOf c.N y = some j) (hij : i ≠ j) (hx : c.sc.names.lookup x = some .local) (hy : c.sc.names.lookup y = some .local) (ha : PAd G k c fs [a, b])
    (hw : ∀ env : Env, env.scope = c.sc → swappedStores [.Tuple [.Name x px, .Name y py] kt pt] (.Tuple [a, b] k2 pt2) env = pure (some [x, y])) :
    PSd G k c (sPar2 i j fs) (.Assign [.Tuple [.Name x px, .Name y py] kt pt] (.Tuple [a, b] k2 pt2) spos) := fun X W ok => by
  refine PS.by (ps_par (i := i) (j := j) (ok.calm hcm).1 (by rw [ok.N]; exact ok.nd) (by rw [ok.N]; exact slotOf_ok hi) (by rw [ok.N]; exact slotOf_ok hj) hij (by rw [ok.sc]; exact hx) (by rw [ok.sc]; exact hy) (ha X W ok) (hw X.env ok.sc) rfl) fun Dn σ H q => ?_
  obtain ⟨F, mu, env, s, hs, he, p⟩ := q
  have hat : ∀ i, G.at_ i := fun i z hz => by rw [(ok.calm hcm).2] at hz; cases hz
  refine ⟨F, mu, env, s, hs, he, Post.toS hs he p fun F1 mu1 H1 ds vs s1 x1 hs1 r1 he1 p1 => ?_⟩
  try dsimp only at p1
  split at p1
  · obtain ⟨v, w, rfl, r2, r3⟩ := RepL.inv2 r1
    exact ⟨v, w, rfl, p1 F1 mu1 H1 _ Ex.refl hs1 ((he1.set i r2 (hat i)).set j r3 (hat j))⟩
  · exact p1.elim
theorem ps_dpar3 {x y z : Str} {i j l : Nat} {e3 : Expr} {px py pz pt pt2 spos : Pos} {kt k2 : Nat} (hcm : c.calm = true) (hi : slotOf c.N x = some i) (hj : slotOf c.N y = some j) (hl : slotOf c.N z = some l) (hij : i ≠ j) (hil : i ≠ l) (hjl : j ≠ l) (hx : c.sc.names.lookup x = some .local) (hy : c.sc.names.lookup y = some .local) (hz : c.sc.names.lookup z = some .local) (ha : PAd G k c fs [a, b, e3])
    (hw : ∀ env : Env, env.scope = c.sc → swappedStores [.Tuple [.Name x px, .Name y py, .Name z pz] kt pt] (.Tuple [a, b, e3] k2 pt2) env = pure (some [x, y, z])) :
    PSd G k c (sPar3 i j l fs) (.Assign [.Tuple [.Name x px, .Name y py, .Name z pz] kt pt] (.Tuple [a, b, e3] k2 pt2) spos) := fun X W ok => by
  refine PS.by (ps_par3 (i := i) (j := j) (l := l) (ok.calm hcm).1 (by rw [ok.N]; exact ok.nd) (by rw [ok.N]; exact slotOf_ok hi) (by rw [ok.N]; exact slotOf_ok hj) (by rw [ok.N]; exact slotOf_ok hl) hij hil hjl (by rw [ok.sc]; exact hx) (by rw [ok.sc]; exact hy) (by rw [ok.sc]; exact hz) (ha X W ok) (hw X.env ok.sc) rfl) fun Dn σ H q => ?_
  obtain ⟨F, mu, env, s, hs, he, p⟩ := q
  have hat : ∀ i, G.at_ i := fun i z hz => by rw [(ok.calm hcm).2] at hz; cases hz
  refine ⟨F, mu, env, s, hs, he, Post.toS hs he p fun F1 mu1 H1 ds vs s1 x1 hs1 r1 he1 p1 => ?_⟩
  try dsimp only at p1
  split at p1
  · obtain ⟨v, w, u, rfl, r2, r3, r4⟩ := RepL.inv3 r1
    exact ⟨v, w, u, rfl, p1 F1 mu1 H1 _ Ex.refl hs1 (((he1.set i r2 (hat i)).set j r3 (hat j)).set l r4 (hat l))⟩
  · exact p1.elim
/-! ### list(range(n)), tuple(range(n)) -/
def eLstRg (m : Bool) (f : EV D) : EV D := fun env s => (f env s).bind fun d s1 => match d with
  | .int j => if j ≤ 16777216 ∧ -(2 ^ 62) ≤ j then .ok (newLst m (rngL 0 j.toNat) s1).1 (newLst m (rngL 0 j.toNat) s1).2 else .bad
  | _ => .bad
def eTupRg (f : EV D) : EV D := fun env s => (f env s).bind fun d s1 => match d with
  | .int j => if j ≤ 16777216 ∧ -(2 ^ 62) ≤ j then .ok (.ktup (rngL 0 j.toNat)) s1 else .bad
  | _ => .bad
theorem rgV_rep {F : Hp} {mu : List Addr} {j : Int} : RepL G F mu (rngL 0 j.toNat) (rgV 0 j) := by
  unfold rngL rgV
  rw [Int.sub_zero]
  have : ∀ (l : List Nat), RepL G F mu (l.map fun (i : Nat) => D.int (0 + i)) (l.map fun (i : Nat) => V.int (0 + (i : Nat))) := by
    intro l
    induction l with
    | nil => exact .nil
    | cons a l ih => exact .cons (.int _) ih
  exact this _
theorem pe_dlstRg {m : Bool} {p2 q : Pos} (hcm : c.calm = true) (hg : c.sc.names.lookup ("list" : Str) = some .globalImplicit) (hm : G.mg "list" = none) (hg2 : c.sc.names.lookup ("range" : Str) = some .globalImplicit) (hm2 : G.mg "range" = none) (ha : PEd G k c f a) (hs : notStar a = true) :
    PEd G k c (eLstRg m f) (.Call (.Name "list" p) [.Call (.Name "range" p2) [a] [] q] [] pos) := fun X W ok => by
  refine PE.by (pe_listRg (ok.calm hcm).1 (gl_of ok hg) (by rw [ok.mg]; exact hm) (prg_1 (gl_of ok hg2) (by rw [ok.mg]; exact hm2) (ha X W ok) (starEach_cons hs)) (starEach_cons rfl)) fun σ H Q z => ?_
  obtain ⟨F, mu, env, s, hs0, he, p⟩ := z
  refine ⟨F, mu, env, s, hs0, he, Post.bind hs0 p fun F1 mu1 H1 d v s1 x1 hs1 r1 p1 => ?_⟩
  have r1' : Rep G F1 mu1 d v := r1
  try dsimp only at p1
  cases r1' with
  | int j =>
    dsimp only at p1
    split at p1
    · rename_i z
      refine ⟨j, rfl, ⟨by omega, by omega, by omega, by omega, by omega⟩, fun a' ha' => ?_⟩
      exact Post.newL (m := m) hs1 (rgV_rep (j := j)) p1 a' ha'
    · exact p1.elim
  | _ => exact p1.elim
theorem pe_dtupRg {p2 q : Pos} (hcm : c.calm = true) (hg : c.sc.names.lookup ("tuple" : Str) = some .globalImplicit) (hm : G.mg "tuple" = none) (hg2 : c.sc.names.lookup ("range" : Str) = some .globalImplicit) (hm2 : G.mg "range" = none) (ha : PEd G k c f a) (hs : notStar a = true) :
    PEd G k c (eTupRg f) (.Call (.Name "tuple" p) [.Call (.Name "range" p2) [a] [] q] [] pos) := fun X W ok => by
  refine PE.by (pe_tupRg (ok.calm hcm).1 (gl_of ok hg) (by rw [ok.mg]; exact hm) (prg_1 (gl_of ok hg2) (by rw [ok.mg]; exact hm2) (ha X W ok) (starEach_cons hs)) (starEach_cons rfl)) fun σ H Q z => ?_
  obtain ⟨F, mu, env, s, hs0, he, p⟩ := z
  refine ⟨F, mu, env, s, hs0, he, Post.bind hs0 p fun F1 mu1 H1 d v s1 x1 hs1 r1 p1 => ?_⟩
  have r1' : Rep G F1 mu1 d v := r1
  try dsimp only at p1
  cases r1' with
  | int j =>
    dsimp only at p1
    split at p1
    · rename_i z
      refine ⟨j, rfl, ⟨by omega, by omega, by omega, by omega, by omega⟩, fun a' ha' => ?_⟩
      exact Post.new hs1 p1 (fun b hb => .ktup upd_same ((rgV_rep (j := j)).mono (new_le hs1 hb))) a' ha'
    · exact p1.elim
  | _ => exact p1.elim
end
end Pv

set_option Elab.async false
set_option linter.all false
set_option maxRecDepth 100000
/-! EvD: dict comprehensions, dict.update, list.reverse, sorted of a dict of whole numbers. -/
namespace Pv
open PySem PySem.Spec PyProof.Rows L2
section
variable {G : Gl} {k : Nat} {c : Ct} {f g h : EV D} {a b e : Expr} {pos p : Pos}
def mtReverse : Mt := fun d vs s => match vs with
  | [] => (refL d s).map fun p => (.non, s.set p.1 (.lst p.2.reverse))
  | _ => none
theorem mto_reverse : MtOk G k "list" "reverse" mtReverse := ⟨_, PySem.F.plainAttrs_list, PySem.F.slot_list_reverse, PySem.F.type_list_reverse, fun c X W hcm ok pins sh σ H x xs v us Q I rx rxs q => by
  obtain ⟨F, mu, s, d, ds, hs, rd, rds, p⟩ := q
  unfold mtReverse at p
  split at p
  · cases rds
    obtain ⟨⟨n, ys⟩, e, p⟩ := ofO_map p
    obtain ⟨a, vs, rfl, h1, h2, h3⟩ := refL_ok hs rd e
    obtain ⟨x1, hs1⟩ := h3 _ _ h2.reverse
    exact mt_reverse pins sh σ H _ _ v us Q I rx rxs ⟨a, vs, rfl, rfl, h1, p _ _ _ _ x1 hs1 (show Rep G F mu .non .non from .non)⟩
  · exact p.elim⟩
/-- d.update(e), of two dicts -/
def rUpdateD : V → List V → Hp → VK → Prop := fun x vs H Q => ∃ a b kvs more, x = .ref a ∧ vs = [.ref b] ∧ a ≠ b ∧ H a = some (.dK kvs) ∧ H b = some (.dK more) ∧ kvs.length + more.length ≤ sizeLine ∧ Q .non (upd H a (.dK (mergeK kvs more)))
theorem mergeK_len : ∀ {more kvs : List (Key × V)}, (mergeK kvs more).length ≤ kvs.length + more.length
  | [], kvs => Nat.le_refl _
  | q :: r, kvs => by
    have h1 := mergeK_len (more := r) (kvs := putK kvs q.1 q.2)
    have h2 := length_putK kvs q.1 q.2
    show (mergeK (putK kvs q.1 q.2) r).length ≤ _
    simp only [List.length_cons]
    omega
theorem mt_updateD {X : Cx} : MtR X "dict.update" rUpdateD := by
  intro pins s σ H x xs v us Q I rx rxs h
  obtain ⟨a, b, kvs, more, rfl, rfl, hne, h1, h2, hz, q⟩ := h
  cases rx
  obtain ⟨u, rfl, ru⟩ := vals1 rxs
  cases ru
  obtain ⟨z1, hd1, vs, r1, d1⟩ := dk_of I.hok h1
  obtain ⟨z2, hd2, ws, r2, d2⟩ := dk_of I.hok h2
  refine call_meetsIn PySem.F.slot_dict_update d1.typeIs PySem.F.entry_dict_update (PySem.F.args_dict_update_2 _ _) (meets_dict_update _ a b hne hd2) ⟨vs, ws, d1, d2, by rw [← r1.length, ← r2.length]; exact hz, fun h' dd _ hs => ?_⟩
  have he : ∃ q, h'.get? a = some q := let ⟨q, _, _, hq, _⟩ := dd; ⟨q, hq⟩
  exact ⟨.non, _, d_write (t' := s.toks) I (by rw [h1]; exact True.intro) hs he (dk_new (Nat.le_trans mergeK_len hz) hd1 (KV.merge r2 r1) dd), rfl, q⟩
theorem zip_paired {F : Hp} {mu : List Addr} : ∀ {ks : List Key} {ds : List D} {vs : List V}, RepL G F mu ds vs → Paired (fun (p : Key × D) kv => p.1 = kv.1 ∧ Rep G F mu p.2 kv.2) (ks.zip ds) (ks.zip vs)
  | [], _, _, _ => by simp; exact .nil
  | _ :: _, _, _, .nil => by simp; exact .nil
  | _ :: _, _, _, .cons r t => .cons ⟨rfl, r⟩ (zip_paired t)
def mtUpdate : Mt := fun d vs s => match d, vs with
  | .ref n, [.ref m] => if n = m then none else match s[n]?, s[m]? with
    | some (.dct ks xs), some (.dct ls ys) => if ks.length + ls.length ≤ sizeLine then some (.non, s.set n (.dct (mergeP (ls.zip ys) (ks, xs)).1 (mergeP (ls.zip ys) (ks, xs)).2)) else none
    | _, _ => none
  | _, _ => none
theorem mto_update : MtOk G k "dict" "update" mtUpdate := ⟨_, PySem.F.plainAttrs_dict, PySem.F.slot_dict_update, PySem.F.type_dict_update, fun c X W hcm ok pins sh σ H x xs v us Q I rx rxs q => by
  obtain ⟨F, mu, s, d, ds, hs, rd, rds, p⟩ := q
  unfold mtUpdate at p
  split at p
  · rename_i n m
    obtain ⟨w, rfl, r1⟩ := rds.inv1
    cases rd with
    | ref en =>
    cases r1 with
    | ref em =>
    split at p
    · exact p.elim
    · rename_i hnm
      split at p
      · rename_i ks xs ls ys e1 e2
        split at p
        · rename_i hz
          obtain ⟨_, ho1, g1, o1⟩ := hs.live _ _ _ e1 (fun z => nomatch z) en
          obtain ⟨_, ho2, g2, o2⟩ := hs.live _ _ _ e2 (fun z => nomatch z) em
          cases o1 with
          | dct z1 q1 =>
          cases o2 with
          | dct z2 q2 =>
          obtain ⟨ws, w1, w2, w3⟩ := merge_rep (ps := ls.zip ys) (acc := (ks, xs)) (zip_paired q2) z1 q1
          refine mt_updateD pins sh σ H _ _ v us Q I rx rxs ⟨_, _, _, _, rfl, rfl, fun z => hnm (nodup_get hs.nd en (z ▸ em)), g1, g2, ?_, ?_⟩
          · rw [List.length_zip, List.length_zip, z1, z2, Nat.min_self, Nat.min_self, ← z1, ← z2]; exact hz
          · rw [w1]
            exact p _ _ _ _ (Ex.write en fun o u z => by rw [g1] at z; cases z) (hs.write e1 (fun z => nomatch z) en (.dct w2 w3)) (show Rep G F mu .non .non from .non)
        · exact p.elim
      · exact p.elim
  · exact p.elim⟩
end
open Classical in
/-- the pairs of a dict comprehension -/
noncomputable def dcL (lv : List (Nat × List D)) (g : TV) (t : EV Bool) (ek ev : EV D) (env : Env') : List D → DS → R (List (Key × D))
  | [], s => if okL lv s then .ok [] s else .bad
  | d :: r, s => if okL lv s then match g d env s with
    | none => .bad
    | some (env1, s1) => match t env1 s1 with
      | .ok b s2 => if b = true then match ek env1 s2 with
          | .ok y s3 => match ev env1 s3 with
            | .ok z s4 => match keyOf y with
              | some kk => match dcL lv g t ek ev env r s4 with
                | .ok ps s5 => .ok ((kk, z) :: ps) s5
                | _ => .bad
              | none => .bad
            | _ => .bad
          | _ => .bad
        else dcL lv g t ek ev env r s2
      | _ => .bad
    else .bad
noncomputable def eDc (vs : List Nat) (it : EV Items) (g : TV) (t : EV Bool) (ek ev : EV D) : EV D := fun env s => (it env s).bind fun l s1 => match dcL l.lv g t ek ev (wipeD env vs) l.l s1 with
  | .ok ps s2 => if ps.length ≤ sizeLine then .ok (.ref s2.length) (s2 ++ [.dct (mergeP ps ([], [])).1 (mergeP ps ([], [])).2]) else .bad
  | _ => .bad
section
variable {G : Gl} {k : Nat} {c : Ct} {a b e : Expr} {pos p : Pos}
theorem tD_dc (hxa : G.xa = none) {vs : List Nat} {it : EV Items} {g : TV} {t : EV Bool} {ek e : EV D} (hp : gPure g) {W : WX} {σ : L2.St} {H : Hp} {Q : VK} (q : tD G (eDc vs it g t ek e) W σ H Q) : tDc (tD G it W) (tGV G vs g) (tD G t fun _ _ _ _ => False) (tD G ek fun _ _ _ _ => False) (tD G e fun _ _ _ _ => False) vs σ H Q := by
  obtain ⟨F, mu, env, s, hs, he, p⟩ := q
  refine ⟨F, mu, env, s, hs, he, Post.bind hs p fun F1 mu1 H1 l J s1 x1 hs1 r1 p1 => ?_⟩
  intro dA hD
  have w : WalkD G F1 mu1 H1 l J := r1
  try dsimp only at p1
  split at p1
  · rename_i ys0 s4 el
    split at p1
    · rename_i hz
      have he1 := (he.mono x1.le).wipe hxa vs
      have hFD := hs1.new_f hD
      have hmD := hs1.new_notin hD
      obtain ⟨fin, hfin⟩ : ∃ fin, fin = mergeP ys0 ([], []) := ⟨_, rfl⟩
      rw [← hfin] at p1
      obtain ⟨Pv, hPv⟩ : ∃ P : Nat → Hp → Prop, P = fun i H => ∃ F' mu' s' ks dacc vacc ys, Ex F1 mu1 H1 F' mu' H ∧ SR G F' mu' s' H ∧ F' dA = none ∧ dA ∉ mu' ∧ H dA = some (.dK (ks.zip vacc)) ∧ ks.length = vacc.length ∧ ks.length + ys.length ≤ sizeLine ∧ RepL G F' mu' dacc vacc ∧ dcL l.lv g t ek e (wipeD env vs) (l.l.drop i) s' = .ok ys s4 ∧ mergeP ys (ks, dacc) = fin := ⟨_, rfl⟩
      refine ⟨fun i m H => m = l.l.length - i ∧ i ≤ l.l.length ∧ Pv i H, ⟨l.l.length, by simp, Nat.zero_le _, ?_⟩, ?_⟩
      · rw [hPv]
        exact ⟨F1, mu1, s1, [], [], [], ys0, Ex.refl.poke hD, hs1.poke hFD hmD, hFD, hmD, upd_same, rfl, by simpa using hz, .nil, el, hfin.symm⟩
      rintro i m H2 ⟨rfl, hi, pv⟩
      rw [hPv] at pv
      obtain ⟨F', mu', s', ks, dacc, vacc, ys, x2, hs2, hf2, hm2, hd2, hkv, hle, r2, l2, e2⟩ := pv
      by_cases hlt : i < l.l.length
      · rw [List.drop_eq_getElem_cons hlt] at l2
        unfold dcL at l2
        split at l2
        · rename_i hok
          obtain ⟨_, hw⟩ := w F' mu' s' H2 x2.le hs2 hok x2.z
          obtain ⟨hgo, hy⟩ := hw i hlt
          refine .inr ⟨hgo, Pv (i + 1), fun H' q => ⟨l.l.length - (i + 1), by omega, rfl, hlt, q⟩, fun x H' y => ?_⟩
          have key : ∀ F3 H3 d, Ex F' mu' H2 F3 mu' H3 → SR G F3 mu' s' H3 → Rep G F3 mu' d x → l.l[i]? = some d → tGV G vs g x (wipe σ vs) H3 fun σ2 H4 => wipe σ2 vs = wipe σ vs ∧ tD G t (fun _ _ _ _ => False) σ2 H4 fun b H5 =>
              if b = true then tD G ek (fun _ _ _ _ => False) σ2 H5 fun y H6 => tD G e (fun _ _ _ _ => False) σ2 H6 fun z H7 => ∃ kvs k, y = kV k ∧ H7 dA = some (.dK kvs) ∧ kvs.length < sizeLine ∧ Pv (i + 1) (upd H7 dA (.dK (putK kvs k z))) else Pv (i + 1) H5 := by
            intro F3 H3 d x3 hs3 r3 ed
            have ed' : l.l[i] = d := (List.getElem?_eq_some_iff.mp ed).2
            rw [ed'] at l2
            obtain ⟨hf3, _⟩ := x3.loose hf2 hm2 (by rw [hd2]; exact fun z => nomatch z)
            have hd3 := x3.h dA _ hd2 hm2
            have x13 := hs1.trans x2 hs2 x3
            refine ⟨F3, mu', wipeD env vs, s', d, hs3, he1.mono x13.le, r3, ?_⟩
            cases eg : g d (wipeD env vs) s' with
            | none => rw [eg] at l2; cases l2
            | some q =>
              rw [eg] at l2
              obtain ⟨env1, s1'⟩ := q
              dsimp only at l2
              refine ⟨?_, fun σ2 he2 hw2 => ?_⟩
              · exact hp _ _ _ _ _ eg
              have e1' : s1' = s' := hp _ _ _ _ _ eg
              subst e1'
              refine ⟨hw2.trans wipe_idem, F3, mu', env1, s1', hs3, he2, ?_⟩
              cases et : t env1 s1' with
              | exc c2 s2 => rw [et] at l2; cases l2
              | bad => rw [et] at l2; cases l2
              | ok b s2 =>
                rw [et] at l2
                dsimp only at l2
                intro F4 mu4 H4 b' x4 hs4 r4
                have r4' : b' = b := r4
                subst r4'
                obtain ⟨hf4, hm4⟩ := x4.loose hf3 hm2 (by rw [hd3]; exact fun z => nomatch z)
                have hd4 := x4.h dA _ hd3 hm2
                have x14 := hs1.trans x13 hs3 x4
                have x34 := hs2.trans x3 hs3 x4
                by_cases hb : b' = true
                · rw [if_pos hb]
                  rw [if_pos hb] at l2
                  refine ⟨F4, mu4, env1, s2, hs4, he2.mono x4.le, ?_⟩
                  cases ekk : ek env1 s2 with
                  | exc c2 s2 => rw [ekk] at l2; cases l2
                  | bad => rw [ekk] at l2; cases l2
                  | ok y s3 =>
                    rw [ekk] at l2
                    dsimp only at l2
                    intro F5 mu5 H5 vy x5 hs5 r5
                    obtain ⟨hf5, hm5⟩ := x5.loose hf4 hm4 (by rw [hd4]; exact fun z => nomatch z)
                    have hd5 := x5.h dA _ hd4 hm4
                    have x15 := hs1.trans x14 hs4 x5
                    have x25 := hs2.trans x34 hs4 x5
                    refine ⟨F5, mu5, env1, s3, hs5, (he2.mono x4.le).mono x5.le, ?_⟩
                    cases eev : e env1 s3 with
                    | exc c2 s2 => rw [eev] at l2; cases l2
                    | bad => rw [eev] at l2; cases l2
                    | ok z s5 =>
                      rw [eev] at l2
                      dsimp only at l2
                      intro F6 mu6 H6 vz x6 hs6 r6
                      obtain ⟨hf6, hm6⟩ := x6.loose hf5 hm5 (by rw [hd5]; exact fun z => nomatch z)
                      have hd6 := x6.h dA _ hd5 hm5
                      have x16 := hs1.trans x15 hs5 x6
                      have x26 := hs2.trans x25 hs5 x6
                      cases hk : keyOf y with
                      | none => rw [hk] at l2; cases l2
                      | some kk =>
                        rw [hk] at l2
                        dsimp only at l2
                        have r5' : Rep G F5 mu5 y vy := r5
                        have ek' := key_rep r5' hk
                        split at l2
                        · rename_i ys' s4' el'
                          cases l2
                          have r6' : Rep G F6 mu6 z vz := r6
                          obtain ⟨ws, w1, w2, w3⟩ := put_rep (k := kk) r6' (r2.mono x26.le) hkv
                          have hl2 : (putKs ks kk).length ≤ ks.length + 1 := by
                            unfold putKs; split <;> simp
                          simp only [List.length_cons] at hle
                          refine ⟨ks.zip vacc, kk, ek', hd6, ?_, ?_⟩
                          · rw [List.length_zip, hkv, Nat.min_self, ← hkv]; omega
                          · rw [hPv, w1]
                            exact ⟨F6, mu6, s5, putKs ks kk, putVs ks dacc kk z, ws, ys', x16.poke hD, hs6.poke hf6 hm6, hf6, hm6, upd_same, w2, by omega, w3, el', e2⟩
                        · cases l2
                · rw [if_neg hb]
                  rw [if_neg hb] at l2
                  rw [hPv]
                  exact ⟨F4, mu4, s2, ks, dacc, vacc, ys, x14, hs4, hf4, hm4, hd4, hkv, hle, r2.mono x34.le, l2, e2⟩
          rcases hy x H' y with ⟨rfl, d, ed, r⟩ | ⟨T, x1', x2', d1, d2, rfl, e3, rfl, ed, r3, r4⟩
          · exact key F' H' d Ex.refl hs2 r ed
          · have x3 := Ex.frozen (o := .tup [x1', x2']) hs2 e3
            have l3 := x3.le
            refine key _ _ _ x3 (hs2.frozen e3) (.ktup upd_same ?_) ed
            exact .cons (r3.mono l3) (.cons (r4.mono l3) .nil)
        · cases l2
      · have hi' : i = l.l.length := by omega
        subst hi'
        rw [List.drop_length] at l2
        unfold dcL at l2
        split at l2
        · rename_i hok
          cases l2
          have e2' : (ks, dacc) = fin := e2
          refine .inl ⟨(w F' mu' s4 H2 x2.le hs2 hok x2.z).1, ?_⟩
          rw [← e2'] at p1
          have p2 : Post G F1 mu1 H1 (WE' W σ) (.ok (D.ref s4.length) (s4 ++ [DO.dct ks dacc])) Q := p1
          have x3 := x2.track (a := dA) hD
          have l3 : Le F' mu' F' (mu' ++ [dA]) := ⟨fun _ _ e => e, fun n b e => by rw [List.getElem?_append_left (List.getElem?_eq_some_iff.mp e).1]; exact e⟩
          exact p2 F' (mu' ++ [dA]) H2 (.ref dA) x3 (hs2.track hf2 hm2 hd2 (.dct hkv (r2.mono l3))) (show Rep G _ _ _ _ from .ref (by rw [List.getElem?_append_right (by rw [hs2.len]; exact Nat.le_refl _), hs2.len, Nat.sub_self]; rfl))
        · cases l2
    · exact p1.elim
  · exact p1.elim
theorem pe_ddc {it : EV Items} {g : TV} {t : EV Bool} {kv ev : EV D} {tg iter kx vx : Expr} {ifs : List Expr} {scope : Scope} {own : List (Str × Nat)} (hcm : c.calm = true) (hblk : blkC c.N c.sc scope own = true) (hi : PId G k c it tg iter) (hg : PGv G k (c.blk scope) (blkVs own) g tg) (hp : gPure g)
    (ht : PTsd G k (c.blk scope) t ifs) (hk : PEd G k (c.blk scope) kv kx) (he : PEd G k (c.blk scope) ev vx) (hn : notSet iter = true) : PEd G k c (eDc (blkVs own) it g t kv ev) (.DictComp kx vx [⟨tg, iter, ifs, 0⟩] scope pos) := fun X W ok => by
  have hb : BlkOk X.N X.env.scope scope own := by rw [ok.N, ok.sc]; exact blkOk_by hblk
  exact PE.by (pe_dc (ok.calm hcm).1 (by rw [ok.N]; exact ok.nd) (hi X W ok) hb (fun s H C cl fp => hg _ _ (xok_blk ok hcm s H C cl fp)) (fun s H C cl fp => ht _ _ (xok_blk ok hcm s H C cl fp)) (fun s H C cl fp => hk _ _ (xok_blk ok hcm s H C cl fp)) (fun s H C cl fp => he _ _ (xok_blk ok hcm s H C cl fp)) (folded_no hn)) fun σ H Q q => tD_dc (ok.calm hcm).2 hp q
theorem sw_falseD {kx vx : Expr} {gs : List Comprehension} {scope : Scope} {py : Pos} {y : Str} {l : Nat} {env : Env} (hy : (env.scope.names.lookup y == some .local) = false) : swapsWith (.DictComp kx vx gs scope pos) (some (.Name y py)) l env = pure false := by
  have ky : (env.kindOf y == some .local) = false := hy
  unfold swapsWith
  simp only [ky, Bool.and_false, Bool.false_and]
  try rfl
end
/-! ### displays of dicts -/
def dispL : List (EV D × EV D) → Env' → DS → R (List (Key × D))
  | [], _, s => .ok [] s
  | p :: r, env, s => match p.1 env s with
    | .ok y s1 => match p.2 env s1 with
      | .ok z s2 => match keyOf y with
        | some kk => match dispL r env s2 with
          | .ok ps s3 => .ok ((kk, z) :: ps) s3
          | _ => .bad
        | none => .bad
      | _ => .bad
    | _ => .bad
def eDisp (l : List (EV D × EV D)) : EV D := fun env s => match dispL l env s with
  | .ok ps s2 => if ps.length ≤ 15 then .ok (.ref s2.length) (s2 ++ [.dct (mergeP ps ([], [])).1 (mergeP ps ([], [])).2]) else .bad
  | _ => .bad
section
variable {G : Gl} {k : Nat} {c : Ct} {pos : Pos}
theorem disp_pairs {W : WX} {σ : L2.St} {env : Env'} {p : Addr} : ∀ {l : List (EV D × EV D)} {F : Hp} {mu : List Addr} {H : Hp} {s : DS} {Qf : List (V × V) → Hp → Prop} {ps : List (Key × D)} {s2 : DS}, SR G F mu s H → ER G F mu env σ → F p = none → p ∉ mu → H p = some (.dK []) → dispL l env s = .ok ps s2 →
    (∀ (F2 : Hp) (mu2 : List Addr) (H2 : Hp) (kvs : List (Key × V)), Ex F mu H F2 mu2 H2 → SR G F2 mu2 s2 H2 → F2 p = none → p ∉ mu2 → H2 p = some (.dK []) → Paired (fun (q : Key × D) kv => q.1 = kv.1 ∧ Rep G F2 mu2 q.2 kv.2) ps kvs → Qf (kvs.map fun kv => (kV kv.1, kv.2)) H2) → tPairs (l.map fun q => (tD G q.1 W, tD G q.2 W)) σ H Qf
  | [], F, mu, H, s, Qf, ps, s2, hs, he, hf, hm, hp, e, h => by
    cases e
    exact h F mu H [] Ex.refl hs hf hm hp .nil
  | q :: r, F, mu, H, s, Qf, ps, s2, hs, he, hf, hm, hp, e, h => by
    unfold dispL at e
    cases e1 : q.1 env s with
    | exc x s1 => rw [e1] at e; cases e
    | bad => rw [e1] at e; cases e
    | ok y s1 =>
      rw [e1] at e
      dsimp only at e
      cases e2 : q.2 env s1 with
      | exc x s1 => rw [e2] at e; cases e
      | bad => rw [e2] at e; cases e
      | ok z s3 =>
        rw [e2] at e
        dsimp only at e
        cases hk : keyOf y with
        | none => rw [hk] at e; cases e
        | some kk =>
          rw [hk] at e
          dsimp only at e
          split at e
          · rename_i ps' s4 e3
            cases e
            refine ⟨F, mu, env, s, hs, he, ?_⟩
            rw [e1]
            intro F1 mu1 H1 vy x1 hs1 r1
            obtain ⟨hf1, hm1⟩ := x1.loose hf hm (by rw [hp]; exact fun z => nomatch z)
            have hp1 := x1.h p _ hp hm
            refine ⟨F1, mu1, env, s1, hs1, he.mono x1.le, ?_⟩
            rw [e2]
            intro F2 mu2 H2 vz x2 hs2 r2
            obtain ⟨hf2, hm2⟩ := x2.loose hf1 hm1 (by rw [hp1]; exact fun z => nomatch z)
            have hp2 := x2.h p _ hp1 hm1
            have x12 := hs.trans x1 hs1 x2
            refine disp_pairs hs2 (he.mono x12.le) hf2 hm2 hp2 e3 fun F3 mu3 H3 kvs x3 hs3 hf3 hm3 hp3 pr => ?_
            have r1' : Rep G F1 mu1 y vy := r1
            have ek := key_rep r1' hk
            subst ek
            have r2' : Rep G F2 mu2 z vz := r2
            exact h F3 mu3 H3 ((kk, vz) :: kvs) (hs.trans x12 hs2 x3) hs3 hf3 hm3 hp3 (.cons ⟨rfl, r2'.mono x3.le⟩ pr)
          · cases e
theorem tD_disp {W : WX} {l : List (EV D × EV D)} {σ : L2.St} {H : Hp} {Q : VK} (q : tD G (eDisp l) W σ H Q) : tDisp (l.map fun q => (tD G q.1 W, tD G q.2 W)) σ H Q := by
  obtain ⟨F, mu, env, s, hs, he, p⟩ := q
  intro a hD
  unfold eDisp at p
  split at p
  · rename_i ps s2 e
    split at p
    · rename_i h15
      have hFD := hs.new_f hD
      have hmD := hs.new_notin hD
      refine disp_pairs (p := a) (hs.poke hFD hmD) he hFD hmD upd_same e fun F2 mu2 H2 kvs x2 hs2 hf2 hm2 hp2 pr => ⟨hp2, kvs, rfl, ?_, ?_⟩
      · have : ps.length = kvs.length := by
          clear p e h15 hs2 x2
          induction pr with
          | nil => rfl
          | cons _ _ ih => simp [ih]
        omega
      · obtain ⟨ws, w1, w2, w3⟩ := merge_rep (ps := ps) (acc := ([], [])) (vs := []) pr rfl .nil
        have w1' : mergeK [] kvs = (mergeP ps ([], [])).1.zip ws := w1
        rw [w1']
        have x0 : Ex F mu H F2 mu2 H2 := hs.trans (Ex.refl.poke hD) (hs.poke hFD hmD) x2
        have x1 : Ex F mu H F2 mu2 (upd H2 a (.dK ((mergeP ps ([], [])).1.zip ws))) := x0.poke hD
        have hs3 := hs2.poke (ho := .dK ((mergeP ps ([], [])).1.zip ws)) hf2 hm2
        have x3 := x1.track (a := a) hD
        have l3 : Le F2 mu2 F2 (mu2 ++ [a]) := ⟨fun _ _ e => e, fun n b e => by rw [List.getElem?_append_left (List.getElem?_eq_some_iff.mp e).1]; exact e⟩
        exact p F2 (mu2 ++ [a]) _ (.ref a) x3 (hs3.track hf2 hm2 upd_same (.dct w2 (w3.mono l3))) (show Rep G _ _ _ _ from .ref (by rw [List.getElem?_append_right (by rw [hs3.len]; exact Nat.le_refl _), hs3.len, Nat.sub_self]; rfl))
    · exact p.elim
  · exact p.elim
def PPd (G : Gl) (k : Nat) (c : Ct) (l : List (EV D × EV D)) (ks : List (Option Expr)) (vs : List Expr) : Prop := ∀ pos X W, XOk G k c X W → PPs X pos ks vs (l.map fun q => (tD G q.1 W, tD G q.2 W))
theorem pp_nil : PPd G k c [] [] [] := fun _ _ _ _ => pps_nil
theorem pp_cons {f g : EV D} {a b : Expr} {l : List (EV D × EV D)} {ks : List (Option Expr)} {vs : List Expr} (h1 : PEd G k c f a) (h2 : PEd G k c g b) (h3 : PPd G k c l ks vs) : PPd G k c ((f, g) :: l) (some a :: ks) (b :: vs) := fun pos X W ok => pps_cons (h1 X W ok) (h2 X W ok) (h3 pos X W ok)
theorem pe_ddisp {l : List (EV D × EV D)} {ks : List (Option Expr)} {vs : List Expr} (h : PPd G k c l ks vs) (hall : ks.all (·.isSome) = true) (hl : ks.length = vs.length) (h0 : ks ≠ []) (h15 : ks.length ≤ 15) : PEd G k c (eDisp l) (.Dict ks vs pos) := fun X W ok =>
  PE.by (pe_disp (h pos X W ok) hall hl h0 h15) fun _ _ _ q => tD_disp q
end
/-! ### sorted of a dict -/
def intKs : List Key → Option (List Int)
  | [] => some []
  | .inl i :: r => (intKs r).map (i :: ·)
  | .inr _ :: _ => none
theorem intKs_ok : ∀ {ks : List Key} {ns : List Int}, intKs ks = some ns → ks = ns.map Sum.inl
  | [], _, h => by cases h; rfl
  | .inl i :: r, ns, h => by
    obtain ⟨ms, h1, h2⟩ := Option.map_eq_some_iff.mp h
    subst h2
    rw [intKs_ok h1]; rfl
  | .inr _ :: _, _, h => by cases h
def sortI (ns : List Int) : List Int := ns.mergeSort fun a b => decide (a ≤ b)
theorem sortI_perm (ns : List Int) : (sortI ns).Perm ns := List.mergeSort_perm _ _
theorem sortI_le (ns : List Int) : (sortI ns).Pairwise (· ≤ ·) := by
  have := List.pairwise_mergeSort (le := fun (a b : Int) => decide (a ≤ b)) (fun a b c h1 h2 => by simp only [decide_eq_true_eq] at *; omega) (fun a b => by simp only [Bool.or_eq_true, decide_eq_true_eq]; omega) ns
  exact this.imp fun h => of_decide_eq_true h
theorem sortI_eq {ns ys : List Int} (hp : ys.Perm ns) (hs : ys.Pairwise (· ≤ ·)) : ys = sortI ns :=
  List.Perm.eq_of_pairwise (le := fun (a b : Int) => a ≤ b) (fun a b _ _ h1 h2 => Int.le_antisymm h1 h2) hs (sortI_le ns) (hp.trans (sortI_perm ns).symm)
noncomputable def opSortedX (m : Bool) : Op
  | [d], s => match dctOf d s with
    | some (ks, _) => (intKs ks).bind fun ns => if ns.length < 64 then some (newLst m ((sortI ns).map .int) s) else none
    | none => opSorted m [d] s
  | _, _ => none
section
variable {G : Gl} {k : Nat}
theorem bo_sortedX (m : Bool) : BOk G k (.builtin "sorted") (opSortedX m) := fun c X W hcm ok pins sh σ H xs us Q I rv q => by
  obtain ⟨F, mu, s, ds, hs, rd, p⟩ := q
  unfold opSortedX at p
  split at p
  · rename_i d
    cases hd : dctOf d s with
    | some q =>
      obtain ⟨ks, ys⟩ := q
      rw [hd] at p
      dsimp only at p
      obtain ⟨v, rfl, r⟩ := rd.inv1
      obtain ⟨ns, e1, p⟩ := ofO_bind p
      split at p
      · rename_i h64
        obtain ⟨a, vs, rfl, h1, h2, h3⟩ := dctOf_ok hs r hd
        have hk := intKs_ok e1
        refine call_sortedDI (ok.calm hcm).1 pins sh σ H _ _ Q I rv ⟨a, _, ns, rfl, h1, ?_, h64, fun ys p' hp hpw hn => ?_⟩
        · rw [List.map_fst_zip (by omega), hk]
        · rw [sortI_eq hp hpw]
          exact Post.newL hs (RepL.of_ints _) p _ hn
      · exact p.elim
    | none =>
      rw [hd] at p
      exact bo_sorted m c X W hcm ok pins sh σ H xs us Q I rv ⟨F, mu, s, [d], hs, rd, p⟩
  · exact p.elim
end
end Pv

set_option Elab.async false
set_option linter.all false
set_option maxRecDepth 100000
/-! Ev16: the evaluator of the text, its proof carried along. -/
namespace Pv
open PySem PySem.Spec PyProof.Rows L2
/-- what the text's names are -/
structure Tb where
  glob : Str → Option D
  fn : Str → Nat → List Str → Option (Form × Fn)
  mkc : Str → Nat → List Str → Option (Form × Bool × Fn)
  exc : Str → Option (List Str × Bool)
  bi : Str → Pos → Option (String × Op)
  ty : Str → Pos → Option (String × Op)
  fl : Str → Str → Bool
  xm : Str → Str → Option Bool
  xf : Str → Str → Bool
  hc : Str → Bool
  mt : MTab
  free : Str → Bool
  mutp : Pos → Bool
  lockp : Pos → Bool
  loops : Nat
/-- it is so: what suites need, too -/
structure TbS (G : Gl) (tb : Tb) : Prop where
  glob : ∀ x d, tb.glob x = some d → GlobOk G x d
  fl : ∀ n cn, tb.fl n cn = true → FldOk G cn n
  xf : XfOk G tb.xf
/-- .. what calls need -/
structure TbC (G : Gl) (k : Nat) (tb : Tb) : Prop where
  fn : ∀ x n ks m cf, tb.fn x n ks = some (m, cf) → m.n = n ∧ m.ks = ks ∧ ∃ fm : Form → Prop, fm m ∧ FnD G (k + 1) x fm cf
  mkc : ∀ x n ks m fz cf, tb.mkc x n ks = some (m, fz, cf) → m.n = n ∧ m.ks = ks ∧ ∃ fm : Form → Prop, fm m ∧ MkD G k x fm cf
  exc : ∀ x ns z, tb.exc x = some (ns, z) → ExcD G k x ns z
  bi : ∀ x p id op, tb.bi x p = some (id, op) → BOk G (k + 1) (.builtin id) op ∧ bootBuiltins x = some (.builtin id) ∧ x ≠ "__name__"
  ty : ∀ x p id op, tb.ty x p = some (id, op) → BOk G (k + 1) (.type id) op ∧ bootBuiltins x = some (.type id) ∧ x ≠ "__name__"
  mt : MTabOk G (k + 1) tb.mt
  xm : XmOk G tb.xm
  hc : ∀ x, tb.hc x = true → ∃ C, G.mg x = some (.ref C) ∧ G.ca x = some C
  free : ∀ x, tb.free x = true → G.mg x = none
section
variable (Fam : Gl → Prop) (k : Nat)
abbrev CE (c : Ct) (e : Expr) := Option {f : EV D // ∀ G, Fam G → PEd G (k + 1) c f e}
abbrev CT (c : Ct) (e : Expr) := Option {f : EV Bool // ∀ G, Fam G → PTd G (k + 1) c f e}
abbrev CW (c : Ct) (e : Expr) := Option {f : EV Bool // ∀ G, Fam G → PWd G (k + 1) c f e}
abbrev CA (c : Ct) (es : List Expr) := Option {f : EV (List D) // ∀ G, Fam G → PAd G (k + 1) c f es}
abbrev CK (c : Ct) (es : List Keyword) := Option {f : EV (List D) // ∀ G, Fam G → PKd G (k + 1) c f es}
abbrev CO (c : Ct) (e : Option Expr) := Option {f : EV (Option Int) // ∀ G, Fam G → PtD G (k + 1) c f e}
abbrev CI (c : Ct) (tg e : Expr) := Option {f : EV Items // ∀ G, Fam G → PId G (k + 1) c f tg e}
abbrev CG (c : Ct) (e : Expr) := Option {f : TV // ∀ G, Fam G → PGd G (k + 1) c f e}
abbrev CGs (c : Ct) (es : List Expr) := Option {f : List D → Env' → DS → Option (Env' × DS) // ∀ G, Fam G → PGsd G (k + 1) c f es}
abbrev CV (c : Ct) (vs : List Nat) (e : Expr) := Option {f : TV // gPure f ∧ ∀ G, Fam G → PGv G (k + 1) c vs f e}
abbrev CVs (c : Ct) (vs : List Nat) (es : List Expr) := Option {f : List D → Env' → DS → Option (Env' × DS) // (∀ ds env s env' s', f ds env s = some (env', s') → s' = s) ∧ ∀ G, Fam G → PGvs G (k + 1) c vs f es}
abbrev CTs (c : Ct) (es : List Expr) := Option {f : EV Bool // ∀ G, Fam G → PTsd G (k + 1) c f es}
abbrev CS (c : Ct) (st : Stmt) := Option {f : SV // ∀ G, Fam G → PSd G (k + 1) c f st}
abbrev CB (c : Ct) (st : List Stmt) := Option {f : SV // ∀ G, Fam G → PBd G (k + 1) c f st}
abbrev CH (c : Ct) (hs : List ExceptHandler) := Option {l : List HdD // ∀ G, Fam G → HdsD G (k + 1) c hs l}
structure Rec where
  e : ∀ c e, CE Fam k c e
  t : ∀ c e, CT Fam k c e
  b : ∀ c ss, CB Fam k c ss
end
section
variable {Fam : Gl → Prop} {k : Nat} {tb : Tb} {cm : Bool} {xv : Option Exn} (r : Rec Fam k)
def isDbg (x : Str) : Bool := x == ("__debug__" : Str) || x == ("__classdict__" : Str)
theorem isDbg_ok {x : Str} (h : isDbg x = false) : (x == ("__debug__" : Str)) = false ∧ (x == ("__classdict__" : Str)) = false := by
  unfold isDbg at h
  exact ⟨(Bool.or_eq_false_iff.mp h).1, (Bool.or_eq_false_iff.mp h).2⟩
def isGlob (c : Ct) (x : Str) : Bool := match c.sc.names.lookup x with
  | some .globalImplicit => true
  | _ => false
theorem isGlob_ok {c : Ct} {x : Str} (h : isGlob c x = true) : c.sc.names.lookup x = some .globalImplicit := by
  unfold isGlob at h
  split at h
  · assumption
  · cases h
def isLoc (c : Ct) (x : Str) : Bool := match c.sc.names.lookup x with
  | some .local => true
  | _ => false
theorem isLoc_ok {c : Ct} {x : Str} (h : isLoc c x = true) : c.sc.names.lookup x = some .local := by
  unfold isLoc at h
  split at h
  · assumption
  · cases h
def cName (hS : ∀ G, Fam G → TbS G tb) (c : Ct) (x : Str) (p : Pos) : CE Fam k c (.Name x p) :=
  if hd : isDbg x = false then
    if hv : visB c.sc x = true then
      match hi : slotOf c.N x with
      | some i => if c.xi = some i then none else some ⟨eVar i, fun G _ => pe_dvar hi hv (isDbg_ok hd).1 (isDbg_ok hd).2⟩
      | none => none
    else if hg : isGlob c x = true then
      match ht : tb.glob x with
      | some d => some ⟨eC d, fun G h => pe_dglob (isGlob_ok hg) ((hS G h).glob x d ht) (isDbg_ok hd).1⟩
      | none => none
    else none
  else none
def cConst (c : Ct) (v : Const) (j : Nat) (p : Pos) : CE Fam k c (.Constant v j p) := match v with
  | .none => some ⟨eC .non, fun _ _ => pe_dnon⟩
  | .bool b => some ⟨eC (.bl b), fun _ _ => pe_dbl⟩
  | .int i => some ⟨eC (.int i), fun _ _ => pe_dint⟩
  | .str s => some ⟨eC (.str s), fun _ _ => pe_dstr⟩
  | _ => none
def cBin (c : Ct) (a : Expr) (o : Operator) (b : Expr) (p : Pos) : CE Fam k c (.BinOp a o b p) := match r.e c a, r.e c b with
  | some f, some g => some ⟨eBin (isBin o) f.1 g.1, fun G h => pe_dbin (op_dbin o) (f.2 G h) (g.2 G h)⟩
  | _, _ => none
def cUn (c : Ct) (o : UnaryOp) (a : Expr) (p : Pos) : CE Fam k c (.UnaryOp o a p) := match o with
  | .Not => (r.e c a).map fun f => ⟨eNot f.1, fun G h => pe_dnot (f.2 G h)⟩
  | o => (r.e c a).map fun f => ⟨eUn (isUn o) f.1, fun G h => pe_dun (op_dun o) (f.2 G h)⟩
def cCmp (c : Ct) (a : Expr) (os : List CmpOp) (bs : List Expr) (p : Pos) : CE Fam k c (.Compare a os bs p) := match os, bs with
  | [o], [b] => if hm : behindInMarks o b = false then match r.e c a, r.e c b with
      | some f, some g => some ⟨eBin (isCmp o) f.1 g.1, fun G h => pe_dcmp (op_dcmp o) (f.2 G h) (g.2 G h) hm⟩
      | _, _ => none
    else none
  | [o, o'], [b, d] => if hm : lastMarks [o, o'] [b, d] = false then match r.e c a, r.e c b, r.e c d with
      | some f, some g, some h' => some ⟨eChain (isCmp o) (isCmp o') f.1 g.1 h'.1, fun G h => pe_dchain (op_dcmp o) (op_dcmp o') (f.2 G h) (g.2 G h) (h'.2 G h) hm⟩
      | _, _, _ => none
    else none
  | _, _ => none
def cBool (c : Ct) : ∀ (o : BoolOp) (es : List Expr) (p : Pos), CE Fam k c (.BoolOp o es p)
  | _, [], _ => none
  | o, [a], p => (r.e c a).map fun f => ⟨f.1, fun G h => pe_done (f.2 G h)⟩
  | .And, a :: b :: rest, p => match r.e c a, cBool c .And (b :: rest) p with
    | some f, some g => some ⟨eAnd f.1 g.1, fun G h => pe_dand (f.2 G h) (g.2 G h)⟩
    | _, _ => none
  | .Or, a :: b :: rest, p => match r.e c a, cBool c .Or (b :: rest) p with
    | some f, some g => some ⟨eOr f.1 g.1, fun G h => pe_dor (f.2 G h) (g.2 G h)⟩
    | _, _ => none
def cArgs (c : Ct) : ∀ es : List Expr, CA Fam k c es
  | [] => some ⟨aNil, fun _ _ => pa_dnil⟩
  | .Starred a p :: es => match r.e c a, cArgs c es with
    | some f, some g => some ⟨aStar f.1 g.1, fun G h => pa_dstar (f.2 G h) (g.2 G h)⟩
    | _, _ => none
  | e :: es => if hn : notStar e = true then match r.e c e, cArgs c es with
      | some f, some g => some ⟨aCons f.1 g.1, fun G h => pa_dcons (f.2 G h) (g.2 G h) hn⟩
      | _, _ => none
    else none
def cKws (c : Ct) : ∀ ks : List Keyword, CK Fam k c ks
  | [] => some ⟨aNil, fun _ _ => pk_dnil⟩
  | ⟨nm, e, p⟩ :: ks => match r.e c e, cKws c ks with
    | some f, some g => some ⟨aCons f.1 g.1, fun G h => pk_dcons (f.2 G h) (g.2 G h)⟩
    | _, _ => none
def cOpt (c : Ct) : ∀ e : Option Expr, CO Fam k c e
  | none => some ⟨pNone, fun _ _ => po_dnone⟩
  | some a => (r.e c a).map fun f => ⟨pSome f.1, fun G h => po_dsome (f.2 G h)⟩
def cSub (c : Ct) (a b : Expr) (p : Pos) : CE Fam k c (.Subscript a b p) := match b with
  | .Slice lo hi none p2 => match r.e c a, cOpt r c lo, cOpt r c hi with
    | some f, some g, some h' => some ⟨eSl f.1 g.1 h'.1, fun G h => pe_dsl (f.2 G h) (g.2 G h) (h'.2 G h)⟩
    | _, _, _ => none
  | b => if hn : notSlice b = true then match r.e c a, r.e c b with
      | some f, some g => some ⟨eBin isIx f.1 g.1, fun G h => pe_dix (f.2 G h) (g.2 G h) hn⟩
      | _, _ => none
    else none
def isXi (c : Ct) (x : Str) : Bool := match slotOf c.N x with
  | some i => c.xi == some i
  | none => false
theorem isXi_ok {c : Ct} {x : Str} (h : isXi c x = true) : ∃ i, slotOf c.N x = some i ∧ c.xi = some i := by
  unfold isXi at h
  split at h
  · rename_i i hi
    exact ⟨i, hi, by simpa using h⟩
  · cases h
def cAttrP (hS : ∀ G, Fam G → TbS G tb) (c : Ct) (a : Expr) (n : Str) (p : Pos) : CE Fam k c (.Attribute a n p) :=
  if hn : notCall0 a = true then (r.e c a).map fun f => ⟨eFld (tb.fl n) n f.1, fun G h => pe_dfld (fun cn hc => (hS G h).fl n cn hc) (f.2 G h) hn⟩ else none
def cAttr (hS : ∀ G, Fam G → TbS G tb) (hX : ∀ G, Fam G → ∀ y, xv = some y → ∃ z, G.xa = some z ∧ z.x = y) (c : Ct) : ∀ (a : Expr) (n : Str) (p : Pos), CE Fam k c (.Attribute a n p)
  | .Name x q, n, p => if hx : isXi c x = true ∧ visB c.sc x = true ∧ isDbg x = false then some ⟨eXfT tb.xf xv n, fun G h => by
      obtain ⟨i, h1, h2⟩ := isXi_ok hx.1
      exact pe_dxf (hS G h).xf (hX G h) h2 h1 hx.2.1 (isDbg_ok hx.2.2).1 (isDbg_ok hx.2.2).2⟩ else cAttrP r hS c (.Name x q) n p
  | a, n, p => cAttrP r hS c a n p
/-! ### calls -/
def cMeth (hC : cm = true → ∀ G, Fam G → TbC G k tb) (c : Ct) (a : Expr) (n : Str) (ap : Pos) (es : List Expr) (p : Pos) : CE Fam k c (.Call (.Attribute a n ap) es [] p) :=
  if h0 : cm = true ∧ c.calm = true ∧ attrOk a = true ∧ noStars es = true ∧ es.length < 29 ∧ (ap.endLine == p.line) = true then
    match es with
    | [] => (r.e c a).map fun f => ⟨eMeth tb.mt n f.1 aNil, fun G h => pe_dmeth0 h0.2.1 (hC h0.1 G h).mt (f.2 G h) h0.2.2.1 h0.2.2.2.2.2⟩
    | e :: es => match r.e c a, cArgs r c (e :: es) with
      | some f, some g => some ⟨eMeth tb.mt n f.1 g.1, fun G h => pe_dmeth h0.2.1 (hC h0.1 G h).mt (f.2 G h) (g.2 G h) h0.2.2.1 h0.2.2.2.1 h0.2.2.2.2.1 h0.2.2.2.2.2⟩
      | _, _ => none
  else none
def cLenSet (hC : cm = true → ∀ G, Fam G → TbC G k tb) (c : Ct) (x : Str) (px : Pos) (es : List Expr) (p : Pos) : CE Fam k c (.Call (.Name x px) es [] p) := match es with
  | [.Call (.Name y py) [a] [] q] => if h0 : x = "len" ∧ y = "set" ∧ cm = true ∧ c.calm = true ∧ isGlob c "len" = true ∧ isGlob c "set" = true ∧ tb.free "len" = true ∧ tb.free "set" = true ∧ notStar a = true then
      (r.e c a).map fun f => ⟨eLenSet f.1, fun G h => by
        obtain ⟨rfl, rfl, h1, h2, h3, h4, h5, h6, h7⟩ := h0
        exact pe_dlenSet h2 (isGlob_ok h3) ((hC h1 G h).free _ h5) (isGlob_ok h4) ((hC h1 G h).free _ h6) (f.2 G h) h7⟩
    else none
  | _ => none
def cListRg (hC : cm = true → ∀ G, Fam G → TbC G k tb) (c : Ct) (x : Str) (px : Pos) (es : List Expr) (p : Pos) : CE Fam k c (.Call (.Name x px) es [] p) := match es with
  | [.Call (.Name y py) [a] [] q] => if h0 : x = "list" ∧ y = "range" ∧ cm = true ∧ c.calm = true ∧ isGlob c "list" = true ∧ isGlob c "range" = true ∧ tb.free "list" = true ∧ tb.free "range" = true ∧ notStar a = true then
      (r.e c a).map fun f => ⟨eLstRg (tb.mutp p) f.1, fun G h => by
        obtain ⟨rfl, rfl, h1, h2, h3, h4, h5, h6, h7⟩ := h0
        exact pe_dlstRg h2 (isGlob_ok h3) ((hC h1 G h).free _ h5) (isGlob_ok h4) ((hC h1 G h).free _ h6) (f.2 G h) h7⟩
    else if h0 : x = "tuple" ∧ y = "range" ∧ cm = true ∧ c.calm = true ∧ isGlob c "tuple" = true ∧ isGlob c "range" = true ∧ tb.free "tuple" = true ∧ tb.free "range" = true ∧ notStar a = true then
      (r.e c a).map fun f => ⟨eTupRg f.1, fun G h => by
        obtain ⟨rfl, rfl, h1, h2, h3, h4, h5, h6, h7⟩ := h0
        exact pe_dtupRg h2 (isGlob_ok h3) ((hC h1 G h).free _ h5) (isGlob_ok h4) ((hC h1 G h).free _ h6) (f.2 G h) h7⟩
    else none
  | _ => none
def cCall (hC : cm = true → ∀ G, Fam G → TbC G k tb) (c : Ct) (x : Str) (px : Pos) (es : List Expr) (kws : List Keyword) (p : Pos) : CE Fam k c (.Call (.Name x px) es kws p) :=
  if h0 : cm = true ∧ c.calm = true ∧ isGlob c x = true ∧ isDbg x = false then
    match hk : kwNames kws with
    | none => none
    | some ks =>
      match hf : tb.fn x es.length ks with
      | some (m, cf) => match es, hf with
        | [], hf => (cKws r c kws).map fun g => ⟨eCall m cf aNil g.1, fun G h => by
            obtain ⟨_, e2, fm, e3, e4⟩ := (hC h0.1 G h).fn _ _ _ _ _ hf
            exact pe_dcall0 h0.2.1 e4 e3 (isGlob_ok h0.2.2.1) (isDbg_ok h0.2.2.2).1 (g.2 G h) (by rw [e2]; exact hk)⟩
        | e :: es, hf => if hs : noStars (e :: es) = true then match cArgs r c (e :: es), cKws r c kws with
            | some f, some g => some ⟨eCall m cf f.1 g.1, fun G h => by
              obtain ⟨_, e2, fm, e3, e4⟩ := (hC h0.1 G h).fn _ _ _ _ _ hf
              exact pe_dcall h0.2.1 e4 e3 (isGlob_ok h0.2.2.1) (isDbg_ok h0.2.2.2).1 (f.2 G h) (g.2 G h) (by rw [e2]; exact hk) hs⟩
            | _, _ => none
          else none
      | none =>
        match hm : tb.mkc x es.length ks with
        | some (m, fz, cf) => match es, hm with
          | [], hm => (cKws r c kws).map fun g => ⟨eMake fz x m cf aNil g.1, fun G h => by
              obtain ⟨_, e2, fm, e3, e4⟩ := (hC h0.1 G h).mkc _ _ _ _ _ _ hm
              exact pe_dmake0 h0.2.1 e4 e3 (isGlob_ok h0.2.2.1) (isDbg_ok h0.2.2.2).1 (g.2 G h) (by rw [e2]; exact hk)⟩
          | e :: es, hm => if hs : noStars (e :: es) = true then match cArgs r c (e :: es), cKws r c kws with
              | some f, some g => some ⟨eMake fz x m cf f.1 g.1, fun G h => by
                obtain ⟨_, e2, fm, e3, e4⟩ := (hC h0.1 G h).mkc _ _ _ _ _ _ hm
                exact pe_dmake h0.2.1 e4 e3 (isGlob_ok h0.2.2.1) (isDbg_ok h0.2.2.2).1 (f.2 G h) (g.2 G h) (by rw [e2]; exact hk) hs⟩
              | _, _ => none
            else none
        | none => match kws with
          | [] =>
            match cLenSet r hC c x px es p with
            | some f => some f
            | none => match cListRg r hC c x px es p with
             | some f => some f
             | none => match es with
              | [] => none
              | e :: es => if hs : noStars (e :: es) = true ∧ tb.free x = true then
                  match hb : tb.bi x p with
                  | some (id, op) => (cArgs r c (e :: es)).map fun f => ⟨eCallB op f.1, fun G h => by
                      obtain ⟨e1, e2, e3⟩ := (hC h0.1 G h).bi _ _ _ _ hb
                      exact pe_dcallB h0.2.1 e1 (isGlob_ok h0.2.2.1) ((hC h0.1 G h).free _ hs.2) e2 (f.2 G h) e3 (isDbg_ok h0.2.2.2).1 hs.1⟩
                  | none => match hb : tb.ty x p with
                    | some (id, op) => (cArgs r c (e :: es)).map fun f => ⟨eCallB op f.1, fun G h => by
                        obtain ⟨e1, e2, e3⟩ := (hC h0.1 G h).ty _ _ _ _ hb
                        exact pe_dcallT h0.2.1 e1 (isGlob_ok h0.2.2.1) ((hC h0.1 G h).free _ hs.2) e2 (f.2 G h) e3 (isDbg_ok h0.2.2.2).1 hs.1⟩
                    | none => none
                else none
          | _ => none
  else none
end
end Pv

set_option Elab.async false
set_option linter.all false
set_option maxRecDepth 100000
/-! Ev17: targets, comprehensions, statements; the knot. -/
namespace Pv
open PySem PySem.Spec PyProof.Rows L2
section
variable {G : Gl} {k : Nat} {c : Ct} {f g : EV D} {a b e : Expr} {pos p : Pos}
theorem gPure_tp {n : Nat} {gs : List D → Env' → DS → Option (Env' × DS)} (h : ∀ ds env s env' s', gs ds env s = some (env', s') → s' = s) : gPure (gTp n gs) := fun d env s env' s' e => by
  unfold gTp at e
  split at e
  · split at e
    · exact h _ _ _ _ _ e
    · cases e
  · split at e
    · exact h _ _ _ _ _ e
    · cases e
  · cases e
theorem gsPure_nil : ∀ ds env s env' s', gsNil ds env s = some (env', s') → s' = s := fun ds env s env' s' e => by
  unfold gsNil at e
  split at e
  · cases e; rfl
  · cases e
theorem gsPure_cons {g : TV} {gs : List D → Env' → DS → Option (Env' × DS)} (hg : gPure g) (h : ∀ ds env s env' s', gs ds env s = some (env', s') → s' = s) : ∀ ds env s env' s', gsCons g gs ds env s = some (env', s') → s' = s := fun ds env s env' s' e => by
  unfold gsCons at e
  split at e
  · obtain ⟨⟨e1, s1⟩, h1, h2⟩ := Option.bind_eq_some_iff.mp e
    have z := hg _ _ _ _ _ h1
    have y := h _ _ _ _ _ h2
    exact y.trans z
  · cases e
theorem pb_bad {ss : List Stmt} : PBd G k c (fun _ _ => .bad) ss := fun X W ok => ⟨fun pins s σ H Dn I q => by
  obtain ⟨F, mu, env, s', hs, he, p⟩ := q
  exact p.elim⟩
theorem ps_dset' {x : Str} {i : Nat} {pos' : Pos} (hxi : c.xi ≠ some i) (hi : slotOf c.N x = some i) (hx : locB c.wr x = true) (ha : PEd G k c f a) (hsw : ∀ env : Env, env.scope = c.sc → swapsWith a (some (.Name x pos')) pos.line env = pure false) : PSd G k c (sSet i f) (.Assign [.Name x pos'] a pos) := fun X W ok => by
  have st := ok.st x hx
  refine PS.by (ps_set (i := i) (by rw [ok.N]; exact ok.nd) (by rw [ok.N]; exact slotOf_ok hi) st.1 (ha X W ok) (hsw X.env ok.sc) st.2) fun Dn σ H q => ?_
  obtain ⟨F, mu, env, s, hs, he, p⟩ := q
  refine ⟨F, mu, env, s, hs, he, Post.toS hs he p fun F1 mu1 H1 d v s1 x1 hs1 r1 he1 p1 => ?_⟩
  exact p1 F1 mu1 H1 _ Ex.refl hs1 (he1.set i r1 (ok.at_ hxi))
/-- no stores are swapped: not a tuple of a tuple -/
def isTupE : Expr → Bool
  | .Tuple .. => true
  | .List .. => true
  | _ => false
theorem sw_none {t v : Expr} {env : Env} (h : isTupE t = false ∨ isTupE v = false) : swappedStores [t] v env = pure none := by
  rcases h with h | h
  · cases t <;> first | rfl | cases h
  · cases t <;> (cases v <;> first | rfl | cases h)
theorem star_f {a : Expr} (h : notStar a = true) : (match a with | .Starred .. => true | _ => false) = false := by
  cases a <;> first | rfl | cases h
theorem sw_two {x y : Str} {px py pt pt2 : Pos} {kt k2 : Nat} {env : Env} (hk : env.scope.kind = .function) (hx : env.scope.names.lookup x = some .local) (hy : env.scope.names.lookup y = some .local) (hl : py.line = px.line) (hxy : x ≠ y) (h1 : notStar a = true) (h2 : notStar b = true)
    (h3 : ([a, b].all (foldedForSure 8)) = false) (h4 : ([a, b].all (constantsAlone 8)) = false) : swappedStores [.Tuple [.Name x px, .Name y py] kt pt] (.Tuple [a, b] k2 pt2) env = pure (some [x, y]) := by
  have hb : env.blockKind = .function := by unfold Env.blockKind; rw [hk]; rfl
  have kx : env.kindOf x = some .local := hx
  have ky : env.kindOf y = some .local := hy
  have e1 : (y == x) = false := by simpa using Ne.symm hxy
  have e2 : [x, y].eraseDups = [x, y] := by simp [List.eraseDups_cons, e1]
  unfold swappedStores
  simp only [hb, kx, ky, hl, h3, h4, List.any_cons, List.any_nil, List.length_cons, List.length_nil, List.filterMap_cons, List.filterMap_nil, List.head?_cons, Option.map_some, Option.getD_some, Expr.pos, beq_self_eq_true, Bool.and_self, Bool.or_false, if_true, if_false, Bool.false_eq_true, Bool.not_true]
  refine (if_neg (by decide)).trans ?_
  refine (if_neg (fun hz => ?_)).trans ?_
  · rcases Bool.or_eq_true_iff.mp hz with hz | hz
    · cases a <;> first | exact absurd hz Bool.false_ne_true | exact absurd h1 Bool.false_ne_true
    · cases b <;> first | exact absurd hz Bool.false_ne_true | exact absurd h2 Bool.false_ne_true
  refine (if_neg (fun hz => ?_)).trans ?_
  · rw [e2] at hz
    exact absurd hz (by simp)
  · rfl
theorem sw_three {x y z : Str} {d : Expr} {px py pz pt pt2 : Pos} {kt k2 : Nat} {env : Env} (hk : env.scope.kind = .function) (hx : env.scope.names.lookup x = some .local) (hy : env.scope.names.lookup y = some .local) (hz : env.scope.names.lookup z = some .local) (hl : py.line = px.line) (hl2 : pz.line = px.line) (hxy : x ≠ y) (hxz : x ≠ z) (hyz : y ≠ z) (h1 : noStars [a, b, d] = true)
    (h3 : ([a, b, d].all (foldedForSure 8)) = false) (h4 : ([a, b, d].all (constantsAlone 8)) = false) : swappedStores [.Tuple [.Name x px, .Name y py, .Name z pz] kt pt] (.Tuple [a, b, d] k2 pt2) env = pure (some [x, y, z]) := by
  have hb : env.blockKind = .function := by unfold Env.blockKind; rw [hk]; rfl
  have kx : env.kindOf x = some .local := hx
  have ky : env.kindOf y = some .local := hy
  have kz : env.kindOf z = some .local := hz
  have e1 : (y == x) = false := by simpa using Ne.symm hxy
  have e3 : (z == x) = false := by simpa using Ne.symm hxz
  have e4 : (z == y) = false := by simpa using Ne.symm hyz
  have e2 : [x, y, z].eraseDups = [x, y, z] := by simp [List.eraseDups_cons, e1, e3, e4]
  obtain ⟨n1, n2, n3⟩ : notStar a = true ∧ notStar b = true ∧ notStar d = true := by simpa [noStars] using h1
  unfold swappedStores
  simp only [hb, kx, ky, kz, hl, hl2, h3, h4, List.any_cons, List.any_nil, List.length_cons, List.length_nil, List.filterMap_cons, List.filterMap_nil, List.head?_cons, Option.map_some, Option.getD_some, Expr.pos, beq_self_eq_true, Bool.and_self, Bool.or_false, if_true, if_false, Bool.false_eq_true, Bool.not_true]
  refine (if_neg (by decide)).trans ?_
  refine (if_neg (fun hz => ?_)).trans ?_
  · rcases Bool.or_eq_true_iff.mp hz with hz | hz
    · cases a <;> first | exact absurd hz Bool.false_ne_true | exact absurd n1 Bool.false_ne_true
    · rcases Bool.or_eq_true_iff.mp hz with hz | hz
      · cases b <;> first | exact absurd hz Bool.false_ne_true | exact absurd n2 Bool.false_ne_true
      · cases d <;> first | exact absurd hz Bool.false_ne_true | exact absurd n3 Bool.false_ne_true
  refine (if_neg (fun hz => ?_)).trans ?_
  · rw [e2] at hz
    exact absurd hz (by simp)
  · rfl
/-- a target that is a plain local name -/
def locNm (env : Env) (line : Nat) : Expr → Option Str
  | .Name id pos => if env.kindOf id == some .local && pos.line == line then some id else none
  | _ => none
theorem fm_lt {α β : Type} {f : α → Option β} : ∀ {l : List α}, (l.any fun x => (f x).isNone) = true → (l.filterMap f).length < l.length
  | [], h => by cases h
  | x :: l, h => by
    have hle : (l.filterMap f).length ≤ l.length := List.length_filterMap_le ..
    rw [List.filterMap_cons]
    cases e : f x with
    | none => simp only [List.length_cons]; omega
    | some y =>
      have h2 : (l.any fun x => (f x).isNone) = true := by simpa [List.any_cons, e] using h
      have := fm_lt h2
      simp only [List.length_cons]; omega
/-- a target among them is no plain local name -/
def odd (c : Ct) (ts : List Expr) : Bool := ts.any fun t => match t with
  | .Name id _ => !(c.sc.names.lookup id == some .local)
  | _ => true
theorem sw_odd {ts vs : List Expr} {kt k2 : Nat} {pt pt2 : Pos} {env : Env} (he : env.scope = c.sc) (h : odd c ts = true) : swappedStores [.Tuple ts kt pt] (.Tuple vs k2 pt2) env = pure none := by
  have hany : ∀ line, (ts.any fun x => (locNm env line x).isNone) = true := fun line => by
    unfold odd at h
    obtain ⟨t, h1, h2⟩ := List.any_eq_true.mp h
    refine List.any_eq_true.mpr ⟨t, h1, ?_⟩
    cases t with
    | Name id q =>
      have h3 : (env.kindOf id == some .local) = false := by
        show (env.scope.names.lookup id == some .local) = false
        rw [he]; simpa using h2
      simp [locNm, h3]
    | _ => rfl
  unfold swappedStores
  dsimp only
  split
  · rfl
  split
  · rfl
  refine (if_pos ?_)
  have key : ∀ line, (ts.filterMap (locNm env line)).length ≠ ts.length := fun line => Nat.ne_of_lt (fm_lt (hany line))
  have k2 := key ((ts.head?.map (·.pos.line)).getD 0)
  rw [Bool.or_eq_true_iff]
  refine .inl ?_
  rw [bne_iff_ne]
  exact k2
def isTruE : Expr → Bool
  | .UnaryOp .Not _ _ => false
  | .BoolOp .. => false
  | .IfExp .. => false
  | .Compare .. => false
  | _ => true
theorem truthy_form {a : Expr} (h : isTruE a = true) : ∀ (env : Env) (whole : Sem Value), PySem.isTrue a env whole = (do let v ← whole; standAt a.pos; holding [v] (truthy v)) := fun env whole => by
  cases a with
  | UnaryOp o x p => cases o <;> first | rfl | cases h
  | BoolOp _ _ _ => cases h
  | IfExp _ _ _ _ => cases h
  | Compare _ _ _ _ => cases h
  | _ => rfl
end
section
variable {Fam : Gl → Prop} {k : Nat} {tb : Tb} {cm : Bool} {xv : Option Exn} (r : Rec Fam k)
/-! ### targets -/
mutual
def cGv (c : Ct) (vs : List Nat) : Nat → ∀ e : Expr, CV Fam k c vs e
  | 0, _ => none
  | n + 1, e => match e with
    | .Name x p => match hi : slotOf c.N x with
      | some i => if h : locB c.wr x = true ∧ i ∈ vs ∧ c.xi ≠ some i then some ⟨gNm i, gPure_nm, fun G _ => pv_dname h.2.2 hi h.1 h.2.1⟩ else none
      | none => none
    | .Tuple es j p => if h : c.calm = true ∧ noStars es = true then match cGvs c vs n es with
        | some g => some ⟨gTp es.length g.1, gPure_tp g.2.1, fun G hG => pv_dtup h.1 (g.2.2 G hG) h.2⟩
        | none => none
      else none
    | _ => none
def cGvs (c : Ct) (vs : List Nat) : Nat → ∀ es : List Expr, CVs Fam k c vs es
  | 0, _ => none
  | n + 1, es => match es with
    | [] => some ⟨gsNil, gsPure_nil, fun G _ => pvs_dnil⟩
    | e :: es => if hn : notStar e = true then match cGv c vs n e, cGvs c vs n es with
        | some f, some g => some ⟨gsCons f.1 g.1, gsPure_cons f.2.1 g.2.1, fun G hG => pvs_dcons f.2.1 (f.2.2 G hG) (g.2.2 G hG) hn⟩
        | _, _ => none
      else none
end
mutual
def cG (c : Ct) : Nat → ∀ e : Expr, CG Fam k c e
  | 0, _ => none
  | n + 1, e => match e with
    | .Name x p => match hi : slotOf c.N x with
      | some i => if h : locB c.wr x = true ∧ c.xi ≠ some i then some ⟨gNm i, fun G _ => pg_dname h.2 hi h.1⟩ else none
      | none => none
    | .Tuple es j p => if h : c.calm = true ∧ noStars es = true then match cGs c n es with
        | some g => some ⟨gTp es.length g.1, fun G hG => pg_dtup h.1 (g.2 G hG) h.2⟩
        | none => none
      else none
    | .Subscript a b p => if h : notSlice b = true then match r.e c a, r.e c b with
        | some f, some g => some ⟨gSb f.1 g.1, fun G hG => pg_dsub (f.2 G hG) (g.2 G hG) h⟩
        | _, _ => none
      else none
    | _ => none
def cGs (c : Ct) : Nat → ∀ es : List Expr, CGs Fam k c es
  | 0, _ => none
  | n + 1, es => match es with
    | [] => some ⟨gsNil, fun G _ => pgs_dnil⟩
    | e :: es => if hn : notStar e = true then match cG c n e, cGs c n es with
        | some f, some g => some ⟨gsCons f.1 g.1, fun G hG => pgs_dcons (f.2 G hG) (g.2 G hG) hn⟩
        | _, _ => none
      else none
end
/-! ### what is walked -/
def cItV (c : Ct) (tg e : Expr) : CI Fam k c tg e := (r.e c e).map fun f => ⟨iVal f.1, fun G h => pi_dval (f.2 G h)⟩
def okB (c : Ct) (x : Str) : Bool := isGlob c x && tb.free x
theorem okB_ok {c : Ct} {x : Str} (h : okB (tb := tb) c x = true) : c.sc.names.lookup x = some .globalImplicit ∧ tb.free x = true := by
  unfold okB at h
  have h2 := Bool.and_eq_true_iff.mp h
  exact ⟨isGlob_ok h2.1, h2.2⟩
def cItRng (hC : cm = true → ∀ G, Fam G → TbC G k tb) (c : Ct) (tg : Expr) (px : Pos) (es : List Expr) (p : Pos) : CI Fam k c tg (.Call (.Name "range" px) es [] p) :=
  if h0 : cm = true ∧ okB (tb := tb) c "range" = true then match es with
    | [a] => if hs : notStar a = true then (cArgs r c [a]).map fun f => ⟨iRng itRng1 f.1, fun G h => pi_drng1 (okB_ok h0.2).1 ((hC h0.1 G h).free _ (okB_ok h0.2).2) (f.2 G h) hs⟩ else none
    | [a, b] => if hs : notStar a = true ∧ notStar b = true then (cArgs r c [a, b]).map fun f => ⟨iRng itRng2 f.1, fun G h => pi_drng2 (okB_ok h0.2).1 ((hC h0.1 G h).free _ (okB_ok h0.2).2) (f.2 G h) hs.1 hs.2⟩ else none
    | [a, b, d] => if hs : notStar a = true ∧ noStars [b, d] = true then (cArgs r c [a, b, d]).map fun f => ⟨iRng itRng3 f.1, fun G h => pi_drng3 (okB_ok h0.2).1 ((hC h0.1 G h).free _ (okB_ok h0.2).2) (f.2 G h) hs.1 hs.2⟩ else none
    | _ => none
  else none
def cItZip (hC : cm = true → ∀ G, Fam G → TbC G k tb) (c : Ct) (tg : Expr) (px : Pos) (es : List Expr) (p : Pos) : CI Fam k c tg (.Call (.Name "zip" px) es [] p) :=
  if h0 : cm = true ∧ okB (tb := tb) c "zip" = true then match tg, es with
    | .Tuple elts kk tp, [a, b] => if hs : noStars [a, b] = true then (cArgs r c [a, b]).map fun f => ⟨iZipD f.1, fun G h => pi_dzip (okB_ok h0.2).1 ((hC h0.1 G h).free _ (okB_ok h0.2).2) (f.2 G h) hs⟩ else none
    | _, _ => none
  else none
def cItEnum (hC : cm = true → ∀ G, Fam G → TbC G k tb) (c : Ct) (tg : Expr) (px : Pos) (es : List Expr) (p : Pos) : CI Fam k c tg (.Call (.Name "enumerate" px) es [] p) :=
  if h0 : cm = true ∧ okB (tb := tb) c "enumerate" = true then match tg, es with
    | .Tuple elts kk tp, [a] => if hs : notStar a = true then (r.e c a).map fun f => ⟨iEnumD f.1, fun G h => pi_denum (okB_ok h0.2).1 ((hC h0.1 G h).free _ (okB_ok h0.2).2) (f.2 G h) hs⟩ else none
    | _, _ => none
  else none
def cItRev (hC : cm = true → ∀ G, Fam G → TbC G k tb) (c : Ct) (tg : Expr) (px : Pos) (es : List Expr) (p : Pos) : CI Fam k c tg (.Call (.Name "reversed" px) es [] p) :=
  if h0 : cm = true ∧ okB (tb := tb) c "reversed" = true then match es with
    | [a] => if hs : notStar a = true then (r.e c a).map fun f => ⟨iRevD f.1, fun G h => pi_drev (okB_ok h0.2).1 ((hC h0.1 G h).free _ (okB_ok h0.2).2) (f.2 G h) hs⟩ else none
    | _ => none
  else none
def cIt (hC : cm = true → ∀ G, Fam G → TbC G k tb) (c : Ct) (tg : Expr) : ∀ e : Expr, CI Fam k c tg e
  | .Call (.Name x px) es [] p => if h1 : x = "range" then by subst h1; exact cItRng r hC c tg px es p
      else if h2 : x = "zip" then by subst h2; exact cItZip r hC c tg px es p
      else if h3 : x = "enumerate" then by subst h3; exact cItEnum r hC c tg px es p
      else if h4 : x = "reversed" then by subst h4; exact cItRev r hC c tg px es p
      else cItV r c tg (.Call (.Name x px) es [] p)
  | e => cItV r c tg e
/-! ### comprehensions -/
def ownOf (c : Ct) (scope : Scope) : List (Str × Nat) := scope.names.filterMap fun (n, kd) => match kd with
  | .local => (slotOf c.N n).map fun i => (n, i)
  | .cell => (slotOf c.N n).map fun i => (n, i)
  | _ => none
def cTs (c : Ct) : ∀ es : List Expr, CTs Fam k c es
  | [] => some ⟨tYesD, fun _ _ => pts_dnil⟩
  | [e] => (r.t c e).map fun f => ⟨f.1, fun G h => pts_done (f.2 G h)⟩
  | _ => none
noncomputable def cLc (hC : cm = true → ∀ G, Fam G → TbC G k tb) (c : Ct) (elt : Expr) (gs : List Comprehension) (scope : Scope) (p : Pos) : CE Fam k c (.ListComp elt gs scope p) := match gs with
  | [⟨tg, iter, ifs, ia⟩] => if h0 : ia = 0 ∧ c.calm = true ∧ blkC c.N c.sc scope (ownOf c scope) = true ∧ notSet iter = true then
      match cIt r hC c tg iter, cGv (Fam := Fam) (k := k) (c.blk scope) (blkVs (ownOf c scope)) 6 tg, cTs r (c.blk scope) ifs, r.e (c.blk scope) elt with
      | some it, some g, some t, some e => some ⟨eLc (tb.mutp p) (blkVs (ownOf c scope)) it.1 g.1 t.1 e.1, fun G h => by
          obtain ⟨rfl, h1, h2, h3⟩ := h0
          exact pe_dlc h1 h2 (it.2 G h) (g.2.2 G h) g.2.1 (t.2 G h) (e.2 G h) h3⟩
      | _, _, _, _ => none
    else none
  | _ => none
abbrev CP (Fam : Gl → Prop) (k : Nat) (c : Ct) (ks : List (Option Expr)) (vs : List Expr) := Option {l : List (EV D × EV D) // ∀ G, Fam G → PPd G (k + 1) c l ks vs}
def cPairs (c : Ct) : ∀ (ks : List (Option Expr)) (vs : List Expr), CP Fam k c ks vs
  | [], [] => some ⟨[], fun _ _ => pp_nil⟩
  | some a :: ks, b :: vs => match r.e c a, r.e c b, cPairs c ks vs with
    | some f, some g, some l => some ⟨(f.1, g.1) :: l.1, fun G h => pp_cons (f.2 G h) (g.2 G h) (l.2 G h)⟩
    | _, _, _ => none
  | _, _ => none
def cDisp (c : Ct) (ks : List (Option Expr)) (vs : List Expr) (p : Pos) : CE Fam k c (.Dict ks vs p) :=
  if h0 : ks.all (·.isSome) = true ∧ ks.length = vs.length ∧ ks.length ≤ 15 ∧ ks.isEmpty = false then
    (cPairs r c ks vs).map fun l => ⟨eDisp l.1, fun G h => pe_ddisp (l.2 G h) h0.1 h0.2.1 (fun z => by rw [z] at h0; exact Bool.noConfusion h0.2.2.2) h0.2.2.1⟩
  else none
noncomputable def cDc (hC : cm = true → ∀ G, Fam G → TbC G k tb) (c : Ct) (kx vx : Expr) (gs : List Comprehension) (scope : Scope) (p : Pos) : CE Fam k c (.DictComp kx vx gs scope p) := match gs with
  | [⟨tg, iter, ifs, ia⟩] => if h0 : ia = 0 ∧ c.calm = true ∧ blkC c.N c.sc scope (ownOf c scope) = true ∧ notSet iter = true then
      match cIt r hC c tg iter, cGv (Fam := Fam) (k := k) (c.blk scope) (blkVs (ownOf c scope)) 6 tg, cTs r (c.blk scope) ifs, r.e (c.blk scope) kx, r.e (c.blk scope) vx with
      | some it, some g, some t, some ek, some ev => some ⟨eDc (blkVs (ownOf c scope)) it.1 g.1 t.1 ek.1 ev.1, fun G h => by
          obtain ⟨rfl, h1, h2, h3⟩ := h0
          exact pe_ddc h1 h2 (it.2 G h) (g.2.2 G h) g.2.1 (t.2 G h) (ek.2 G h) (ev.2 G h) h3⟩
      | _, _, _, _, _ => none
    else none
  | _ => none
def lockSlot (c : Ct) : List Comprehension → Option Nat
  | [⟨_, .Name x _, _, _⟩] => slotOf c.N x
  | _ => none
noncomputable def cLcL (hC : cm = true → ∀ G, Fam G → TbC G k tb) (c : Ct) (elt : Expr) (gs : List Comprehension) (scope : Scope) (p : Pos) : CE Fam k c (.ListComp elt gs scope p) := if tb.lockp p = true then
    (match lockSlot c gs with
    | some i => (cLc r hC c elt gs scope p).map fun f => ⟨eLock i f.1, fun G h => pe_dlock (f.2 G h)⟩
    | none => none)
  else cLc r hC c elt gs scope p
/-! ### tests -/
def cTbool (c : Ct) : ∀ (o : BoolOp) (es : List Expr) (p : Pos), CW Fam k c (.BoolOp o es p)
  | _, [], _ => none
  | .And, [a], p => (r.t c a).map fun f => ⟨f.1, fun G h => pw_dand1 (f.2 G h)⟩
  | .Or, [a], p => (r.t c a).map fun f => ⟨f.1, fun G h => pw_dor1 (f.2 G h)⟩
  | .And, a :: b :: rest, p => match r.t c a, cTbool c .And (b :: rest) p with
    | some f, some g => some ⟨tAndD f.1 g.1, fun G h => pw_dand (f.2 G h) (g.2 G h)⟩
    | _, _ => none
  | .Or, a :: b :: rest, p => match r.t c a, cTbool c .Or (b :: rest) p with
    | some f, some g => some ⟨tOrD f.1 g.1, fun G h => pw_dor (f.2 G h) (g.2 G h)⟩
    | _, _ => none
def cTest (c : Ct) : ∀ e : Expr, CT Fam k c e
  | .UnaryOp .Not a p => (r.t c a).map fun f => ⟨tNotD f.1, fun G h => pt_dnot (f.2 G h)⟩
  | .BoolOp o es p => (cTbool r c o es p).map fun f => ⟨f.1, fun G h X W ok => (f.2 G h X W ok).pt⟩
  | .Compare a os bs p => match os, bs with
    | [o], [b] => if hm : behindInMarks o b = false then match r.e c a, r.e c b with
        | some f, some g => some ⟨tBl (eBin (isCmp o) f.1 g.1), fun G h => pt_dcmp (op_dcmp o) (f.2 G h) (g.2 G h) hm⟩
        | _, _ => none
      else none
    | [o, o'], [b, d] => if hm : lastMarks [o, o'] [b, d] = false then match r.e c a, r.e c b, r.e c d with
        | some f, some g, some h' => some ⟨tBl (eChain (isCmp o) (isCmp o') f.1 g.1 h'.1), fun G h => pt_dchain (op_dcmp o) (op_dcmp o') (f.2 G h) (g.2 G h) (h'.2 G h) hm⟩
        | _, _, _ => none
      else none
    | _, _ => none
  | e => if ht : isTruE e = true then (r.e c e).map fun f => ⟨tTru f.1, fun G h => pt_dtru (f.2 G h) (truthy_form ht)⟩ else none
end
section
variable {Fam : Gl → Prop} {k : Nat} {tb : Tb} {cm : Bool} {xv : Option Exn} (r : Rec Fam k)
/-! ### statements -/
noncomputable def cSetLc (hC : cm = true → ∀ G, Fam G → TbC G k tb) (c : Ct) (x : Str) (p' : Pos) (elt : Expr) (gs : List Comprehension) (scope : Scope) (p sp : Pos) : CS Fam k c (.Assign [.Name x p'] (.ListComp elt gs scope p) sp) := match gs with
  | [⟨tg, iter, ifs, ia⟩] => if h0 : ia = 0 ∧ c.calm = true ∧ blkC c.N c.sc scope (ownOf c scope) = true ∧ notSet iter = true ∧ c.sc.kind = .function ∧ isLoc c x = true ∧ (p'.line == p.line) = true ∧ (scope.names.any fun (n, k) => n == x && (k == .local || k == .cell)) = false then
      match hi : slotOf c.N x with
      | none => none
      | some i => match cIt r hC c tg iter, cGv (Fam := Fam) (k := k) (c.blk scope) (blkVs (ownOf c scope)) 6 tg, cTs r (c.blk scope) ifs, r.e (c.blk scope) elt with
        | some it, some g, some t, some e => some ⟨sSet i (eLc (tb.mutp p) (blkVs (ownOf c scope)) it.1 g.1 t.1 e.1), fun G h => by
            obtain ⟨rfl, h1, h2, h3, h4, h5, h6, h7⟩ := h0
            exact ps_dsetLc h1 h2 (it.2 G h) (g.2.2 G h) g.2.1 (t.2 G h) (e.2 G h) h3 hi h4 (isLoc_ok h5) h6 h7⟩
        | _, _, _, _ => none
    else none
  | _ => none
/-- name = e, e no comprehension, or one whose store is not swapped -/
noncomputable def cSetN (c : Ct) (x : Str) (p' : Pos) (a : Expr) (sp : Pos) : CS Fam k c (.Assign [.Name x p'] a sp) :=
  match hi : slotOf c.N x with
  | none => none
  | some i => if h0 : c.xi ≠ some i ∧ locB c.wr x = true then
      if hc : isComp a = false then (r.e c a).map fun f => ⟨sSet i f.1, fun G h => ps_dset h0.1 hi h0.2 (f.2 G h) hc⟩
      else if hl : (c.sc.names.lookup x == some .local) = false then match a with
        | .ListComp elt gs scope p => (r.e c (.ListComp elt gs scope p)).map fun f => ⟨sSet i f.1, fun G h => ps_dset' h0.1 hi h0.2 (f.2 G h) fun env he => sw_false (by rw [he]; exact hl)⟩
        | .DictComp kx vx gs scope p => (r.e c (.DictComp kx vx gs scope p)).map fun f => ⟨sSet i f.1, fun G h => ps_dset' h0.1 hi h0.2 (f.2 G h) fun env he => sw_falseD (by rw [he]; exact hl)⟩
        | _ => none
      else none
    else none
def lineEq (a b : Pos) : Bool := a.line == b.line
def cParB (c : Ct) (x y : Str) (px py : Pos) (a b : Expr) : Bool := c.calm && decide (c.sc.kind = .function) && isLoc c x && isLoc c y && lineEq py px && !(x == y) && noStars [a, b] && !([a, b].all (foldedForSure 8)) && !([a, b].all (constantsAlone 8))
noncomputable def cPar2 (c : Ct) (x y : Str) (px py pt pt2 sp : Pos) (kt k2 : Nat) (a b : Expr) : CS Fam k c (.Assign [.Tuple [.Name x px, .Name y py] kt pt] (.Tuple [a, b] k2 pt2) sp) :=
  match hi : slotOf c.N x, hj : slotOf c.N y with
  | some i, some j => if h0 : i ≠ j ∧ cParB c x y px py a b = true then (cArgs r c [a, b]).map fun f => ⟨sPar2 i j f.1, fun G h => by
      obtain ⟨h1, h2⟩ := h0
      simp only [cParB, Bool.and_eq_true, Bool.not_eq_true', decide_eq_true_eq, lineEq, beq_iff_eq, beq_eq_false_iff_ne] at h2
      obtain ⟨⟨⟨⟨⟨⟨⟨⟨a1, a2⟩, a3⟩, a4⟩, a5⟩, a6⟩, a7⟩, a8⟩, a9⟩ := h2
      have n2 : notStar a = true ∧ notStar b = true := by simpa [noStars] using a7
      exact ps_dpar2 a1 hi hj h1 (isLoc_ok a3) (isLoc_ok a4) (f.2 G h) fun env he => sw_two (by rw [he]; exact a2) (by rw [he]; exact isLoc_ok a3) (by rw [he]; exact isLoc_ok a4) a5 a6 n2.1 n2.2 a8 a9⟩ else none
  | _, _ => none
def cParB3 (c : Ct) (x y z : Str) (px py pz : Pos) (a b d : Expr) : Bool := c.calm && decide (c.sc.kind = .function) && isLoc c x && isLoc c y && isLoc c z && lineEq py px && lineEq pz px && !(x == y) && !(x == z) && !(y == z) && noStars [a, b, d] && !([a, b, d].all (foldedForSure 8)) && !([a, b, d].all (constantsAlone 8))
noncomputable def cPar3 (c : Ct) (x y z : Str) (px py pz pt pt2 sp : Pos) (kt k2 : Nat) (a b d : Expr) : CS Fam k c (.Assign [.Tuple [.Name x px, .Name y py, .Name z pz] kt pt] (.Tuple [a, b, d] k2 pt2) sp) :=
  match hi : slotOf c.N x, hj : slotOf c.N y, hl : slotOf c.N z with
  | some i, some j, some l => if h0 : (i ≠ j ∧ i ≠ l ∧ j ≠ l) ∧ cParB3 c x y z px py pz a b d = true then (cArgs r c [a, b, d]).map fun f => ⟨sPar3 i j l f.1, fun G h => by
      obtain ⟨h1, h2⟩ := h0
      simp only [cParB3, Bool.and_eq_true, Bool.not_eq_true', decide_eq_true_eq, lineEq, beq_iff_eq, beq_eq_false_iff_ne] at h2
      obtain ⟨⟨⟨⟨⟨⟨⟨⟨⟨⟨⟨⟨a1, a2⟩, a3⟩, a4⟩, a4'⟩, a5⟩, a5'⟩, a6⟩, a6'⟩, a6''⟩, a7⟩, a8⟩, a9⟩ := h2
      exact ps_dpar3 a1 hi hj hl h1.1 h1.2.1 h1.2.2 (isLoc_ok a3) (isLoc_ok a4) (isLoc_ok a4') (f.2 G h) fun env he => sw_three (by rw [he]; exact a2) (by rw [he]; exact isLoc_ok a3) (by rw [he]; exact isLoc_ok a4) (by rw [he]; exact isLoc_ok a4') a5 a5' a6 a6' a6'' a7 a8 a9⟩ else none
  | _, _, _ => none
/-- another single target -/
noncomputable def cAsgG (c : Ct) (t a : Expr) (sp : Pos) : CS Fam k c (.Assign [t] a sp) :=
  if h0 : isComp a = false ∧ notStar t = true ∧ (isTupE t = false ∨ isTupE a = false) then match r.e c a, cG r c 6 t with
    | some f, some g => some ⟨sAsg g.1 f.1, fun G h => ps_dasg (f.2 G h) (g.2 G h) h0.1 (fun env _ => sw_none h0.2.2) h0.2.1⟩
    | _, _ => none
  else none
/-- a tuple of targets, one of them no plain local, of a tuple -/
noncomputable def cAsgT (c : Ct) (ts vs : List Expr) (kt k2 : Nat) (pt pt2 sp : Pos) : CS Fam k c (.Assign [.Tuple ts kt pt] (.Tuple vs k2 pt2) sp) :=
  if h0 : odd c ts = true then match r.e c (.Tuple vs k2 pt2), cG r c 6 (.Tuple ts kt pt) with
    | some f, some g => some ⟨sAsg g.1 f.1, fun G h => ps_dasg (f.2 G h) (g.2 G h) rfl (fun env he => sw_odd he h0) rfl⟩
    | _, _ => none
  else none
noncomputable def cAsg (hS : ∀ G, Fam G → TbS G tb) (hC : cm = true → ∀ G, Fam G → TbC G k tb) (c : Ct) : ∀ (ts : List Expr) (a : Expr) (sp : Pos), CS Fam k c (.Assign ts a sp)
  | [.Name x p'], .ListComp elt gs scope p, sp => match cSetLc r hC c x p' elt gs scope p sp with
    | some f => some f
    | none => cSetN r c x p' (.ListComp elt gs scope p) sp
  | [.Name x p'], a, sp => cSetN r c x p' a sp
  | [.Tuple [.Name x px, .Name y py] kt pt], .Tuple [a, b] k2 pt2, sp => match cPar2 r c x y px py pt pt2 sp kt k2 a b with
    | some f => some f
    | none => cAsgT r c [.Name x px, .Name y py] [a, b] kt k2 pt pt2 sp
  | [.Tuple [.Name x px, .Name y py, .Name z pz] kt pt], .Tuple [a, b, d] k2 pt2, sp => match cPar3 r c x y z px py pz pt pt2 sp kt k2 a b d with
    | some f => some f
    | none => cAsgT r c [.Name x px, .Name y py, .Name z pz] [a, b, d] kt k2 pt pt2 sp
  | [.Attribute o n p'], a, sp => if hc : isComp a = false then match r.e c o, r.e c a with
      | some f, some g => some ⟨sFldD (tb.fl n) n f.1 g.1, fun G h => ps_dfldset (fun cn z => (hS G h).fl n cn z) (f.2 G h) (g.2 G h) fun env _ => swaps_no hc⟩
      | _, _ => none
    else none
  | [t], a, sp => cAsgG r c t a sp
  | _, _, _ => none
noncomputable def cRaise (hC : cm = true → ∀ G, Fam G → TbC G k tb) (c : Ct) (e : Expr) (sp : Pos) : CS Fam k c (.Raise (some e) none sp) := match e with
  | .Call (.Name x px) [] [] p => match hx : tb.exc x with
    | some (ns, true) => if h0 : cm = true ∧ c.calm = true ∧ isGlob c x = true ∧ isDbg x = false then some ⟨sRaise0 x ns, fun G h => ps_draise0 h0.2.1 ((hC h0.1 G h).exc _ _ _ hx) (isGlob_ok h0.2.2.1) (isDbg_ok h0.2.2.2).1⟩ else none
    | _ => none
  | .Call (.Name x px) [a] [] p => match hx : tb.exc x with
    | some (ns, z) => if h0 : cm = true ∧ c.calm = true ∧ isGlob c x = true ∧ isDbg x = false ∧ notStar a = true then (r.e c a).map fun f => ⟨sRaise1 x ns f.1, fun G h => ps_draise h0.2.1 ((hC h0.1 G h).exc _ _ _ hx) (isGlob_ok h0.2.2.1) (isDbg_ok h0.2.2.2.1).1 (f.2 G h) h0.2.2.2.2⟩ else none
    | none => none
  | _ => none
/-- the wish behind a clause's name -/
def FamH (Fam : Gl → Prop) (i : Nat) (y : Exn) : Gl → Prop := fun G' => ∃ G a C d, Fam G ∧ G' = G.hand (some i) a C d y
noncomputable def totB {c : Ct} {ss : List Stmt} (x : CB Fam k c ss) : {f : SV // ∀ G, Fam G → PBd G (k + 1) c f ss} := match x with
  | some f => f
  | none => ⟨fun _ _ => .bad, fun G _ => pb_bad⟩
noncomputable def cHds (rs : ∀ (i : Nat) (y : Exn), Rec (FamH Fam i y) k) (hC : cm = true → ∀ G, Fam G → TbC G k tb) (c : Ct) : ∀ hs : List ExceptHandler, CH Fam k c hs
  | [] => some ⟨[], fun _ _ => .nil⟩
  | .ExceptHandler (some (.Name x np)) none (b₀ :: ss) p :: hs => if h0 : cm = true ∧ isGlob c x = true ∧ isDbg x = false ∧ tb.hc x = true then match r.b (c.suite none) (b₀ :: ss), cHds rs hC c hs with
      | some f, some l => some ⟨⟨x, none, fun _ => f.1⟩ :: l.1, fun G h => .plain (isGlob_ok h0.2.1) (isDbg_ok h0.2.2.1).1 ((hC h0.1 G h).hc _ h0.2.2.2) (fun _ => f.2 G h) (l.2 G h)⟩
      | _, _ => none
    else none
  | .ExceptHandler (some (.Name x np)) (some n) (b₀ :: ss) p :: hs => if h0 : cm = true ∧ isGlob c x = true ∧ isDbg x = false ∧ tb.hc x = true ∧ isLoc c n = true then match hi : slotOf c.N n with
      | some i => match cHds rs hC c hs with
        | some l => some ⟨⟨x, some i, fun y => (totB ((rs i y).b (c.suite (some i)) (b₀ :: ss))).1⟩ :: l.1, fun G h => .named (isGlob_ok h0.2.1) (isDbg_ok h0.2.2.1).1 ((hC h0.1 G h).hc _ h0.2.2.2.1) hi (isLoc_ok h0.2.2.2.2) (fun y a C d => (totB ((rs i y).b (c.suite (some i)) (b₀ :: ss))).2 _ ⟨G, a, C, d, h, rfl⟩) (l.2 G h)⟩
        | none => none
      | none => none
    else none
  | _ => none
noncomputable def cStmt (rs : ∀ (i : Nat) (y : Exn), Rec (FamH Fam i y) k) (hS : ∀ G, Fam G → TbS G tb) (hC : cm = true → ∀ G, Fam G → TbC G k tb) (c : Ct) : ∀ st : Stmt, CS Fam k c st
  | .Return (some e) p => (r.e c e).map fun f => ⟨sRet f.1, fun G h => ps_dret (f.2 G h)⟩
  | .Return none p => some ⟨sRetN, fun _ _ => ps_dretN⟩
  | .Assign ts a sp => cAsg r hS hC c ts a sp
  | .AugAssign (.Name x p') o a sp => match hi : slotOf c.N x with
    | some i => if h0 : c.xi ≠ some i ∧ locB c.wr x = true then (r.e c a).map fun f => ⟨sAug o i f.1, fun G h => ps_daug h0.1 hi h0.2 (f.2 G h)⟩ else none
    | none => none
  | .For t e body [] p => if h0 : c.calm = true ∧ c.top = true ∧ notSet e = true then match cIt r hC c t e, cG r c 6 t, r.b c body with
      | some it, some g, some b => some ⟨sFor it.1 g.1 b.1, fun G h => ps_dfor h0.1 (it.2 G h) (g.2 G h) (b.2 G h) h0.2.1 h0.2.2⟩
      | _, _, _ => none
    else none
  | .While t body [] p => if h0 : c.top = true then match r.t c t, r.b c body with
      | some f, some b => some ⟨whD f.1 b.1 tb.loops, fun G h => ps_dwhile tb.loops (f.2 G h) (b.2 G h) h0⟩
      | _, _ => none
    else none
  | .If t as bs p => match r.t c t, r.b c as, r.b c bs with
    | some f, some a, some b => some ⟨sIf f.1 a.1 b.1, fun G h => ps_dif (f.2 G h) (a.2 G h) (b.2 G h)⟩
    | _, _, _ => none
  | .Raise (some e) none sp => cRaise r hC c e sp
  | .Try body (h₀ :: hs) [] [] p => if h0 : cm = true ∧ c.calm = true ∧ c.top = true then match r.b c body, cHds r rs hC c (h₀ :: hs) with
      | some b, some l => some ⟨sTry tb.xm b.1 l.1, fun G h => ps_dtry h0.2.1 h0.2.2 (hC h0.1 G h).xm (b.2 G h) (l.2 G h)⟩
      | _, _ => none
    else none
  | .Expr a p => if hc : isComp a = false then (r.e c a).map fun f => ⟨sDrop f.1, fun G h => ps_ddrop (f.2 G h) hc⟩ else none
  | .Pass p => some ⟨sNext, fun _ _ => ps_dpass⟩
  | .Break p => some ⟨sBrk, fun _ _ => ps_dbrk⟩
  | .Continue p => some ⟨sCnt, fun _ _ => ps_dcnt⟩
  | _ => none
noncomputable def cBody (rs : ∀ (i : Nat) (y : Exn), Rec (FamH Fam i y) k) (hS : ∀ G, Fam G → TbS G tb) (hC : cm = true → ∀ G, Fam G → TbC G k tb) (c : Ct) : ∀ ss : List Stmt, CB Fam k c ss
  | [] => some ⟨sNext, fun _ _ => pb_dnil⟩
  | st :: ss => match cStmt r rs hS hC c st, cBody rs hS hC c ss with
    | some f, some g => some ⟨sSeq f.1 g.1, fun G h => pb_dcons (f.2 G h) (g.2 G h)⟩
    | _, _ => none
noncomputable def cExpr (hS : ∀ G, Fam G → TbS G tb) (hC : cm = true → ∀ G, Fam G → TbC G k tb) (hX : ∀ G, Fam G → ∀ y, xv = some y → ∃ z, G.xa = some z ∧ z.x = y) (c : Ct) : ∀ e : Expr, CE Fam k c e
  | .Name x p => cName hS c x p
  | .Constant v j p => cConst c v j p
  | .BinOp a o b p => cBin r c a o b p
  | .UnaryOp o a p => cUn r c o a p
  | .Compare a os bs p => cCmp r c a os bs p
  | .BoolOp o es p => cBool r c o es p
  | .IfExp t a b p => match r.t c t, r.e c a, r.e c b with
    | some f, some g, some h' => some ⟨eIf f.1 g.1 h'.1, fun G h => pe_dif (f.2 G h) (g.2 G h) (h'.2 G h)⟩
    | _, _, _ => none
  | .Tuple es j p => (cArgs r c es).map fun f => ⟨eTup f.1, fun G h => pe_dtup (f.2 G h)⟩
  | .List es p => if tb.mutp p = true then (cArgs r c es).map fun f => ⟨eLstM f.1, fun G h => pe_dlstM (f.2 G h)⟩ else (cArgs r c es).map fun f => ⟨eLst f.1, fun G h => pe_dlst (f.2 G h)⟩
  | .Dict [] [] p => some ⟨eDict0, fun _ _ => pe_ddict0⟩
  | .Dict (q :: ks) vs p => cDisp r c (q :: ks) vs p
  | .Attribute a n p => cAttr r hS hX c a n p
  | .Subscript a b p => cSub r c a b p
  | .Call (.Name x px) es kws p => cCall r hC c x px es kws p
  | .Call (.Attribute a n ap) es [] p => cMeth r hC c a n ap es p
  | .ListComp elt gs scope p => cLcL r hC c elt gs scope p
  | .DictComp kx vx gs scope p => cDc r hC c kx vx gs scope p
  | _ => none
end
theorem tbS_hand {G : Gl} {tb : Tb} {i : Nat} {a C d : Addr} {y : Exn} (h : TbS G tb) : TbS (G.hand (some i) a C d y) tb := by
  refine ⟨fun x e hx => ?_, h.fl, h.xf⟩
  obtain ⟨v, u, h1, h2, h3⟩ := (h.glob x e hx).is
  obtain ⟨k1, k2, k3⟩ := hand_K (G := G) (i := some i) (a := a) (C := C) (d := d) (x := y)
  exact ⟨v, u, h1, fun F mu => (h2 F mu).to k1 k2 k3, h3⟩
/-- the knot -/
noncomputable def recN (k : Nat) (tb : Tb) : Nat → ∀ (Fam : Gl → Prop) (cm : Bool) (xv : Option Exn) (hS : ∀ G, Fam G → TbS G tb) (hC : cm = true → ∀ G, Fam G → TbC G k tb) (hX : ∀ G, Fam G → ∀ y, xv = some y → ∃ z, G.xa = some z ∧ z.x = y), Rec Fam k
  | 0, _, _, _, _, _, _ => ⟨fun _ _ => none, fun _ _ => none, fun _ _ => none⟩
  | n + 1, Fam, cm, xv, hS, hC, hX =>
    let r := recN k tb n Fam cm xv hS hC hX
    let rs : ∀ (i : Nat) (y : Exn), Rec (FamH Fam i y) k := fun i y => recN k tb n (FamH Fam i y) false (some y) (fun G' h => by obtain ⟨G, a, C, d, h1, rfl⟩ := h; exact tbS_hand (hS G h1)) (fun z => Bool.noConfusion z)
      (fun G' h y' e => by obtain ⟨G, a, C, d, h1, rfl⟩ := h; cases e; exact ⟨_, rfl, rfl⟩)
    ⟨cExpr r hS hC hX, cTest r, cBody r rs hS hC⟩
end Pv

set_option Elab.async false
set_option linter.all false
set_option maxRecDepth 100000
/-! Ev18: a def of the text by its compiled body; levels. -/
namespace Pv
open PySem PySem.Spec PyProof.Rows L2
/-- a def as it stands: its names, how it binds -/
structure DefI (G : Gl) (x qual : Str) (params : Arguments) (body : List Stmt) (scope : Scope) (N ps : List Str) (fm : Form → Prop) : Prop where
  ex : ∃ a fd dvs kws, G.mg x = some (.ref a) ∧ PySem.W.keepIn G.K (.ref a) = true ∧ FunD G.K x qual params body scope dvs kws a fd ∧ ∀ m, fm m → BindF fd ps m.n m.ks m.idx
  sc : FnScope N ps scope
/-- a class's __init__ -/
structure ClsI (G : Gl) (x nm qual : Str) (params : Arguments) (body : List Stmt) (scope : Scope) (N ps : List Str) (fm : Form → Prop) : Prop where
  ex : ∃ C a fd dvs kws, G.mg x = some (.ref C) ∧ G.ca x = some C ∧ Mk G.K C a ∧ FunD G.K nm qual params body scope dvs kws a fd ∧ ∀ m, fm m → BindF fd ps (m.n + 1) m.ks m.idx
  sc : FnScope N ps scope
def badF : Fn := fun _ _ => .bad
section
variable {G : Gl} {k : Nat} {x nm qual : Str} {params : Arguments} {body : List Stmt} {scope : Scope} {N ps : List Str} {fm : Form → Prop}
theorem fnok_bad {a : Addr} {fd : FuncData} {ps : List Str} {CX : CXT} {j : Nat} : FnOk G.P G.w G.K G.mg G.base CX j a fd ps (spD G badF) :=
  ⟨fun vs H Q E h => by obtain ⟨F, mu, s, ds, hs, r, p⟩ := h; exact p.elim, fun A outer s H args us vs Q E hr e0 hb hv h => by obtain ⟨F, mu, s, ds, hs, r, p⟩ := h; exact p.elim⟩
theorem DefI.bad (D : DefI G x qual params body scope N ps fm) : FnD G k x fm badF := by
  obtain ⟨a, fd, dvs, kws, h1, h2, h3, h4⟩ := D.ex
  exact ⟨a, fd, ps, h1, h2, fnok_bad, h4⟩
theorem ClsI.bad (D : ClsI G x nm qual params body scope N ps fm) : MkD G k x fm badF := by
  obtain ⟨C, a, fd, dvs, kws, h1, h2, h3, h4, h5⟩ := D.ex
  exact ⟨C, a, fd, ps, h1, h2, h3, fnok_bad, h5⟩
theorem DefI.go (D : DefI G x qual params body scope N ps fm) (hxa : G.xa = none) {b : SV} (hb : PBd G k (ctOf N scope) b body) : FnD G (k + 1) x fm (fnD ps.length N.length b) := by
  obtain ⟨a, fd, dvs, kws, h1, h2, h3, h4⟩ := D.ex
  exact ⟨a, fd, ps, h1, h2, fn_d hxa h3 D.sc hb, h4⟩
theorem ClsI.go (D : ClsI G x nm qual params body scope N ps fm) (hxa : G.xa = none) {b : SV} (hb : PBd G k (ctOf N scope) b body) : MkD G (k + 1) x fm (fnD ps.length N.length b) := by
  obtain ⟨C, a, fd, dvs, kws, h1, h2, h3, h4, h5⟩ := D.ex
  exact ⟨C, a, fd, ps, h1, h2, h3, fn_d hxa h4 D.sc hb, h5⟩
end
/-- the compiled body of a text, if it is one -/
noncomputable abbrev compB (k : Nat) (tb : Tb) (G : Gl) (hS : TbS G tb) (hC : TbC G k tb) (N : List Str) (scope : Scope) (body : List Stmt) : Option SV :=
  ((recN k tb 60 (fun G' => G' = G) true none (fun G' h => by rw [h]; exact hS) (fun _ G' h => by rw [h]; exact hC) (fun _ _ _ e => by cases e)).b (ctOf N scope) body).map Subtype.val
theorem compB_ok {k : Nat} {tb : Tb} {G : Gl} {hS : TbS G tb} {hC : TbC G k tb} {N : List Str} {scope : Scope} {body : List Stmt} {b : SV} (h : compB k tb G hS hC N scope body = some b) : PBd G (k + 1) (ctOf N scope) b body := by
  obtain ⟨f, _, h2⟩ := Option.map_eq_some_iff.mp h
  rw [← h2]
  exact f.2 G rfl
/-- the same, of no wish: for what it is -/
noncomputable abbrev compV (k : Nat) (tb : Tb) (N : List Str) (scope : Scope) (body : List Stmt) : Option SV :=
  ((recN k tb 60 (fun _ => False) true none (fun _ h => h.elim) (fun _ _ h => h.elim) (fun _ h => h.elim)).b (ctOf N scope) body).map Subtype.val
/-- a higher level -/
theorem FnD.mono {G : Gl} {j k : Nat} {x : Str} {fm : Form → Prop} {cf : Fn} (F : FnD G j x fm cf) (h : j ≤ k) : FnD G k x fm cf := by
  obtain ⟨a, fd, ps, h1, h2, h3, h4⟩ := F.ex
  exact ⟨a, fd, ps, h1, h2, h3.mono h, h4⟩
theorem MkD.mono {G : Gl} {j k : Nat} {x : Str} {fm : Form → Prop} {cf : Fn} (F : MkD G j x fm cf) (h : j ≤ k) : MkD G k x fm cf := by
  obtain ⟨C, a, fd, ps, h1, h2, h3, h4, h5⟩ := F.ex
  exact ⟨C, a, fd, ps, h1, h2, h3, h4.mono h, h5⟩
theorem ExcD.mono {G : Gl} {j k : Nat} {x : Str} {ns : List Str} {z : Bool} (F : ExcD G j x ns z) (h : j ≤ k) : ExcD G k x ns z := by
  obtain ⟨C, f, fd, ps, ok, h1, h2, h3, h4, h5, h6, h7, h8⟩ := F.ex
  exact ⟨C, f, fd, ps, ok, h1, h2, h3, h4, h5, h6, h7.mono h, h8⟩
end Pv

set_option Elab.async false
set_option linter.all false
set_option maxRecDepth 100000
set_option maxHeartbeats 2000000
/-! Ev19: the head's facts for the evaluator, by one Boolean check. -/
namespace Pv
open PySem PySem.Spec PyProof.Rows L2
/-- an exception's __init__: its class, the value's name, the field, the next one in line -/
structure InD where
  cls : Str
  qual : Str
  params : Arguments
  body : List Stmt
  scope : Scope
  sf : Str
  x : Str
  n : Str
  dfl : Bool
  nx : Option Str
abbrev FnXV : Type := Option (Str × Str × Arguments × FuncBody × Scope × Addr × Addr)
def InD.ad (K : PySem.W.Frag) (d : InD) : Addr := He.ma K (He.ga K d.cls) "__init__"
def fnXv (K : PySem.W.Frag) (d : InD) : FnXV := match K.lookup (d.ad K) with
  | some ⟨_, _, .func fd, _⟩ => some (fd.name, fd.qualname, fd.params, fd.body, fd.scope, fd.globals, fd.builtins)
  | _ => none
def InD.val (d : InD) : FnXV := some ("__init__", d.qual, d.params, .stmts d.body, d.scope, mainGlobals, builtinsNs)
def clB (K : PySem.W.Frag) (D : Addr) : List (Str × Addr) → Bool
  | [(y, cc)] => decide (y = "__class__") && (match K.lookup cc with
    | some ⟨_, _, .cell (some (.ref D')), _⟩ => decide (D' = D)
    | _ => false)
  | _ => false
theorem clB_ok {K : PySem.W.Frag} {D : Addr} {l : List (Str × Addr)} (h : clB K D l = true) : ∃ cc oc, l = [(("__class__" : Str), cc)] ∧ K.lookup cc = some oc ∧ oc.data = .cell (some (.ref D)) := by
  match l, h with
  | [(y, cc)], h =>
    obtain ⟨h1, h2⟩ := He.ba (show (decide (y = "__class__") && (match K.lookup cc with
      | some ⟨_, _, .cell (some (.ref D')), _⟩ => decide (D' = D)
      | _ => false)) = true from h)
    have e := of_decide_eq_true h1
    subst e
    split at h2
    · rename_i o1 o2 D' o3 e
      have e2 := of_decide_eq_true h2
      subst e2
      exact ⟨cc, _, rfl, e, rfl⟩
    · cases h2
def cdB (K : PySem.W.Frag) (file : Str) : Value → Bool
  | .ref c => (match K.lookup c with
    | some ⟨_, _, .fields vs, _⟩ => (match vs.toList with
      | _ :: _ :: .str f _ :: _ => file == f
      | _ => false)
    | _ => false)
  | _ => false
theorem cdB_ok {K : PySem.W.Frag} {file : Str} {v : Value} (h : cdB K file v = true) : ∃ c oc vs f tf, v = .ref c ∧ K.lookup c = some oc ∧ oc.data = .fields vs ∧ vs[2]? = some (.str f tf) ∧ (file == f) = true := by
  unfold cdB at h
  split at h
  · rename_i c
    split at h
    · rename_i o1 o2 vs o3 e
      split at h
      · rename_i a1 a2 f tf a3 e2
        refine ⟨c, _, vs, f, tf, rfl, e, rfl, ?_, h⟩
        rw [← Array.getElem?_toList, e2]
        rfl
      · cases h
    · cases h
  · cases h
def inB (P : Program) (K : PySem.W.Frag) (d : InD) : Bool := (match K.lookup (d.ad K) with
  | some ⟨.type t, _, .func fd, _⟩ => decide (t = "function") && (PySem.W.codeIn K fd.code d.qual && (cdB K P.main.file fd.code && (clB K (He.ga K d.cls) fd.closure && He.dflB K fd.defaults (if d.dfl then [.non] else []))))
  | _ => false) && (PySem.W.isClsIn K (He.ga K d.cls) && (He.eqO (PySem.W.nsIn K mainGlobals "super") (some none) && decide (PySem.W.typeIn K (.ref (d.ad K)) = some (.type "function"))))
def hdB (sf : Str) (p : Arguments) : Bool := match (p.posonlyargs ++ p.args).head? with
  | some a => decide (a.arg = sf)
  | none => false
/-- what its text must be -/
def inTB (P : Program) (d : InD) : Bool := NdefX.nscB [d.sf, d.x, "__class__"] [d.sf, d.x] ["__class__"] d.scope && (decide (d.scope.names.lookup ("super" : Str) = some .globalImplicit) && (hdB d.sf d.params && (!(P.main.scope.names.lookup ("super" : Str)).isSome &&
  (!isDbg d.sf && !isDbg d.x))))
def inBody : List Stmt → Str → Str → Str → Bool
  | [.Expr (.Call (.Attribute (.Call (.Name a _) [] [] _) b p2) [.Name x1 _] [] p4) _, .Assign [.Attribute (.Name s _) n1 _] (.Name x2 _) _], sf, x, n => decide (a = "super") && (decide (b = "__init__") && (decide (x1 = x) && (decide (s = sf) && (decide (n1 = n) && (decide (x2 = x) && (p2.endLine == p4.line))))))
  | _, _, _, _ => false
theorem inBody_ok {l : List Stmt} {sf x n : Str} (h : inBody l sf x n = true) : ∃ p0 p1 p2 p3 p4 p5 p6 p7 p8 p9, l = [.Expr (.Call (.Attribute (.Call (.Name "super" p0) [] [] p1) "__init__" p2) [.Name x p3] [] p4) p5, .Assign [.Attribute (.Name sf p6) n p7] (.Name x p8) p9] ∧ (p2.endLine == p4.line) = true := by
  unfold inBody at h
  split at h
  · simp only [Bool.and_eq_true, decide_eq_true_eq] at h
    obtain ⟨rfl, rfl, rfl, rfl, rfl, rfl, h⟩ := h
    exact ⟨_, _, _, _, _, _, _, _, _, _, rfl, h⟩
  · cases h
/-- an own exception class, an object of ValueError's kind -/
def oexB (K : PySem.W.Frag) (C : Addr) : Bool := (match K.lookup C with
  | some ⟨.type t, _, .cls cd, sl⟩ => decide (t = "type") && (match cd.mro, sl.toList with
    | .ref C' :: bm, [_, _, _, _, some (.builtin n), _] => decide (C' = C) && (decide (n = "ValueError.__new__") && (!cd.hasDel && (cd.hasDict && PySem.HandSPX.refsVE bm)))
    | _, _ => false)
  | _ => false) && (He.eqO (PySem.W.findIn K (.ref C) "__setattr__") (some (some (.builtin "object.__setattr__"))) && (decide (PySem.W.subIn K (.ref C) (.type "BaseException") = some true) && (decide (PySem.W.typeIn K (.ref C) = some (.type "type")) && PySem.W.keepIn K (.ref C))))
theorem oexB_ok {K : PySem.W.Frag} {C : Addr} (h : oexB K C = true) : OexC K C := by
  obtain ⟨h1, h⟩ := He.ba h
  obtain ⟨h2, h⟩ := He.ba h
  obtain ⟨h3, h⟩ := He.ba h
  obtain ⟨h4, h5⟩ := He.ba h
  refine ⟨?_, He.eqO_ok h2, of_decide_eq_true h3, of_decide_eq_true h4, h5⟩
  split at h1
  · rename_i t dd cd sl ho
    obtain ⟨z1, z2⟩ := He.ba h1
    have e := of_decide_eq_true z1
    subst e
    split at z2
    · rename_i C' bm k0 k1 k2 k3 n k5 hm hs
      simp only [Bool.and_eq_true, decide_eq_true_eq, Bool.not_eq_true'] at z2
      obtain ⟨rfl, rfl, hdel, hdict, hr⟩ := z2
      obtain ⟨nm, bs, mro, ns, qn, hd, sn, sub, ab, col, del⟩ := cd
      dsimp only at hm hdel hdict
      subst hm hdel hdict
      have hsl : sl = #[k0, k1, k2, k3, some (.builtin "ValueError.__new__"), k5] := by
        obtain ⟨l⟩ := sl
        simp only at hs
        rw [hs]
      subst hsl
      exact ⟨nm, qn, ns, bs, bm, sn, sub, ab, col, dd, k0, k1, k2, k3, k5, ho, hr⟩
    · cases z2
  · cases h1
def supB (K : PySem.W.Frag) (D : Addr) (n : Str) (nx : Value) (C : Addr) : Bool := decide (PySem.W.subIn K (.ref C) (.ref D) = some true) && (He.eqO (PySem.W.ks_superIn K C D "__init__") (some (some nx)) && (decide (PySem.W.subIn K (.ref C) (.type "ValueError") = some true) &&
  (He.eqO (PySem.W.nsIn K PySem.cStatics "thirdparty.any") (some none) && He.eqO (PySem.W.findIn K (.ref C) n) (some none))))
theorem supB_ok {K : PySem.W.Frag} {D C : Addr} {n : Str} {nx : Value} (T : OexC K C) (h : supB K D n nx C = true) : SupOk K D n nx C := by
  obtain ⟨h2, h⟩ := He.ba h
  obtain ⟨h3, h⟩ := He.ba h
  obtain ⟨h4, h⟩ := He.ba h
  obtain ⟨h5, h6⟩ := He.ba h
  exact ⟨T, of_decide_eq_true h2, He.eqO_ok h3, of_decide_eq_true h4, He.eqO_ok h5, He.eqO_ok h6⟩
section
variable {P : Program} {w : World} {K : PySem.W.Frag} {mg : Str → Option Value} {base h : Heap} {d e : InD}
theorem isDbg_no {x : Str} (h : (!isDbg x) = true) : (x == ("__classdict__" : Str)) = false ∧ (x == ("__debug__" : Str)) = false := by
  have z : isDbg x = false := by simpa using h
  exact ⟨(isDbg_ok z).2, (isDbg_ok z).1⟩
/-- the def as it stands -/
theorem initF_of (X : K.In h) (N : h.Ns mainGlobals mg) (v : fnXv K d = d.val) (c : inB P K d = true) (t : inTB P d = true) (b : inBody d.body d.sf d.x d.n = true) :
    ∃ F p0 p1 p2 p3 p4 p5 p6 p7 p8 p9 fd, InitF P K mg F (d.ad K) (He.ga K d.cls) d.sf d.x d.n p0 p1 p2 p3 p4 p5 p6 p7 p8 p9 fd ∧ PySem.W.typeIn K (.ref (d.ad K)) = some (.type "function") ∧ (∃ o, K.lookup (d.ad K) = some o ∧ o.cls = .type "function") ∧ PySem.W.fnIn K (d.ad K) = true ∧
      ∃ dV kV doc pm an cl cdv ct, fd = PySem.W.fnX "__init__" d.qual d.params d.body d.scope cl dV kV doc pm an cdv ct ∧ DflV K dV (if d.dfl then [.non] else []) := by
  obtain ⟨c1, c⟩ := He.ba c
  obtain ⟨c2, c⟩ := He.ba c
  obtain ⟨c3, c4⟩ := He.ba c
  obtain ⟨t1, t⟩ := He.ba t
  obtain ⟨t2, t⟩ := He.ba t
  obtain ⟨t3, t⟩ := He.ba t
  obtain ⟨t4, t⟩ := He.ba t
  obtain ⟨t5, t6⟩ := He.ba t
  obtain ⟨p0, p1, p2, p3, p4, p5, p6, p7, p8, p9, hb, hl⟩ := inBody_ok b
  unfold fnXv at v
  split at c1
  · rename_i tt od fd osl lk
    rw [lk] at v
    obtain ⟨d1, c1⟩ := He.ba c1
    obtain ⟨d2, c1⟩ := He.ba c1
    obtain ⟨d3, c1⟩ := He.ba c1
    obtain ⟨d4, d5⟩ := He.ba c1
    have e1 := of_decide_eq_true d1
    subst e1
    obtain ⟨n1, n2, n3, n4, n5, n6, n7, n8, n9, n10, n11, n12, n13, n14, n15⟩ := fd
    have v2 : (some (n1, n2, n3, n4, n5, n6, n15) : FnXV) = some (("__init__" : Str), d.qual, d.params, .stmts d.body, d.scope, mainGlobals, builtinsNs) := v
    simp only [Option.some.injEq, Prod.mk.injEq] at v2
    obtain ⟨h1, h2, h3, h4, h5, h6, h7⟩ := v2
    subst h1 h2 h3 h4 h5 h6 h7
    obtain ⟨cd, ocd, vs, fl, tf, q1, q2, q3, q4, q5⟩ := cdB_ok d3
    dsimp only at q1 d2 d4 d5
    subst q1
    have S := NdefX.nscope_by t1
    refine ⟨⟨"__init__", d.qual, d.params, d.body, d.scope, n7, cd⟩, p0, p1, p2, p3, p4, p5, p6, p7, p8, p9, _, ⟨⟨n8, n9, n10, n11, n12, n14, rfl⟩, ⟨_, od, osl, lk⟩, d2, hb, S, clB_ok d4, S.par _ (by simp), S.par _ (by simp), of_decide_eq_true t2, PySem.W.mg_none_of X N (He.eqO_ok c3), c2, ?_, ⟨ocd, vs, fl, tf, q2, q3, q4, q5⟩, by simpa using t4, hl, isDbg_no t5 |>.1, (isDbg_no t5).2, (isDbg_no t6).1, (isDbg_no t6).2⟩, of_decide_eq_true c4, ⟨_, lk, rfl⟩, ?_, n8, n9, n10, n11, n12, n7, .ref cd, n14, rfl, ?_⟩
    · unfold hdB at t3
      split at t3
      · rename_i a ea
        exact ⟨a, ea, of_decide_eq_true t3⟩
      · cases t3
    · unfold PySem.W.fnIn
      rw [lk]
    · exact He.dflB_ok d5
  · cases c1
/-- how it binds two values -/
structure InBd (d : InD) : Prop where
  no : d.dfl = false → ∀ (kV doc pm : Value) (an : Option Addr) (cl : List (Str × Addr)) (cdv ct a b : Value), bindArgs (PySem.W.fnX "__init__" d.qual d.params d.body d.scope cl .none kV doc pm an cdv ct) ⟨[a, b], []⟩ = pure ([d.sf, d.x].zip [a, b])
  yes : d.dfl = true → ∀ (T : Addr) (kV doc pm : Value) (an : Option Addr) (cl : List (Str × Addr)) (cdv ct a b : Value), ∃ k, bindArgs (PySem.W.fnX "__init__" d.qual d.params d.body d.scope cl (.ref T) kV doc pm an cdv ct) ⟨[a, b], []⟩ = seqItems? (.ref T) >>= k ∧ ∀ v, k (some #[v]) = pure ([d.sf, d.x].zip [a, b])
theorem InBd.binds (B : InBd d) {dV kV doc pm : Value} {an : Option Addr} {cl : List (Str × Addr)} {cdv ct : Value} (z : DflV K dV (if d.dfl then [.non] else [])) : Binds K (PySem.W.fnX "__init__" d.qual d.params d.body d.scope cl dV kV doc pm an cdv ct) [d.sf, d.x] [] := by
  cases q : d.dfl with
  | false =>
    rw [q] at z
    rcases z with ⟨_, rfl⟩ | ⟨z, _⟩
    · refine .all fun us hl => ?_
      match us, hl with
      | [a, b], _ => exact B.no q _ _ _ _ _ _ _ a b
    · exact absurd rfl z
  | true =>
    rw [q] at z
    rcases z with ⟨z, _⟩ | ⟨_, T, o, its, n, rfl, lT, oT, r⟩
    · cases z
    · intro s us X hl
      rw [List.append_nil] at hl ⊢
      match us, hl with
      | [a, b], _ =>
        obtain ⟨k, e1, e2⟩ := B.yes q T kV doc pm an cl cdv ct a b
        refine BindsTo.of_looks fun M => ?_
        rw [e1]
        refine looks_items X lT oT (.of_pure ?_)
        match its, r.length with
        | [v], _ => exact e2 v
structure InOk (P : Program) (K : PySem.W.Frag) (d : InD) : Prop where
  v : fnXv K d = d.val
  c : inB P K d = true
  t : inTB P d = true
  b : inBody d.body d.sf d.x d.n = true
  bd : InBd d
/-- a class whose __init__ is d's, over ValueError's -/
theorem exc0 {G : Gl} {k : Nat} {x : Str} {C : Addr} (X : G.K.In h) (N : h.Ns mainGlobals G.mg) (I : InOk G.P G.K d) (h1 : G.mg x = some (.ref C)) (h2 : G.ca x = some C) (T : oexB G.K C = true) (hs : supB G.K (He.ga G.K d.cls) d.n (.builtin "ValueError.__init__") C = true)
    (hi : PySem.W.findIn G.K (.ref C) "__init__" = some (some (.ref (d.ad G.K)))) : ExcD G (k + 1) x [d.n] false := by
  obtain ⟨F, p0, p1, p2, p3, p4, p5, p6, p7, p8, p9, fd, hF, ht, _, _, dV, kV, doc, pm, an, cl, cdv, ct, e, z⟩ := initF_of X N I.v I.c I.t I.b
  have T' := oexB_ok T
  refine ⟨C, d.ad G.K, fd, [d.sf, d.x], _, h1, h2, T', supB_ok T' hs, hi, ht, init_fn0 hF, ?_, fun z => by cases z⟩
  rw [e]
  exact I.bd.binds z
/-- .. over a class e's, that is over ValueError's -/
theorem exc1 {G : Gl} {k : Nat} {x : Str} {C : Addr} (X : G.K.In h) (N : h.Ns mainGlobals G.mg) (I : InOk G.P G.K d) (J : InOk G.P G.K e) (h1 : G.mg x = some (.ref C)) (h2 : G.ca x = some C) (T : oexB G.K C = true) (hs : supB G.K (He.ga G.K d.cls) d.n (.ref (e.ad G.K)) C = true)
    (hs2 : supB G.K (He.ga G.K e.cls) e.n (.builtin "ValueError.__init__") C = true)
    (hi : PySem.W.findIn G.K (.ref C) "__init__" = some (some (.ref (d.ad G.K)))) : ExcD G (k + 2) x [d.n, e.n] false := by
  obtain ⟨F, p0, p1, p2, p3, p4, p5, p6, p7, p8, p9, fd, hF, ht, _, _, dV, kV, doc, pm, an, cl, cdv, ct, q, z⟩ := initF_of X N I.v I.c I.t I.b
  obtain ⟨F', p0', p1', p2', p3', p4', p5', p6', p7', p8', p9', fd', hF', ht', hc', hn', dV', kV', doc', pm', an', cl', cdv', ct', q', z'⟩ := initF_of X N J.v J.c J.t J.b
  have T' := oexB_ok T
  refine ⟨C, d.ad G.K, fd, [d.sf, d.x], _, h1, h2, T', ⟨supB_ok T' hs, supB_ok T' hs2⟩, hi, ht, init_fn1 (w := G.w) (base := G.base) (k := k + 1) hF hn' hc' (init_fn0 hF') (by rw [q']; exact J.bd.binds z') rfl (by simp), ?_, fun z => by cases z⟩
  rw [q]
  exact I.bd.binds z
end
end Pv

set_option Elab.async false
set_option linter.all false
set_option maxRecDepth 100000
set_option maxHeartbeats 2000000
/-! Ev20: one Boolean check of the head for all that the evaluator's tables say. -/
namespace Pv
open PySem PySem.Spec PyProof.Rows L2
/-! ### isinstance -/
def kitT (ts : List String) (cs : List Str) : Kit := fun a b => match a, b with
  | .inl x, .inl y => if ts.contains x && ts.contains y then some (decide (x = y) || (decide (x = "bool") && decide (y = "int"))) else none
  | .inl x, .inr y => if ts.contains x && cs.contains y then some false else none
  | .inr x, .inl y => if cs.contains x && ts.contains y then some false else none
  | .inr x, .inr y => if cs.contains x && cs.contains y then some (decide (x = y)) else none
structure Cfg where
  P : Program
  ts : List String
  own : List Str
  exl : List (Str × List Str)
  xf : List (Str × List Str)
  glob : List (Str × D)
  fl : List (Str × Str)
  free : List Str
  defs : List He.DefD
  inis : List He.DefD
  inits : List InD
  exc0 : List (Str × InD)
  exc1 : List (Str × InD × InD)
def Cfg.ca (c : Cfg) (K : PySem.W.Frag) (x : Str) : Option Addr := if c.own.contains x || (c.exl.map (·.1)).contains x then some (He.ga K x) else none
def kvB (K : PySem.W.Frag) (kt : Kit) (p q : Ty × Value) : Bool := match kt p.1 q.1 with
  | some r => decide (PySem.W.kitOne K p.2 q.2 = some r)
  | none => true
def tyL (c : Cfg) (K : PySem.W.Frag) : List (Ty × Value) := (c.ts.map fun x => (.inl x, .type x)) ++ c.own.map fun x => (.inr x, .ref (He.ga K x))
def isiB (K : PySem.W.Frag) (x : Str) : Bool := (He.Fa.cls x).ok K && (He.eqO (PySem.W.findIn K (.ref (He.ga K x)) "__class__") (some (some (.builtin "object.__class__"))) && (He.eqO (PySem.W.specialIn K (.builtin "object.__class__") "__get__") (some (some (.builtin "getset_descriptor.__get__"))) &&
  (decide (PySem.W.takesIn K (.builtin "object.__class__") = some true) && decide (PySem.W.mroIn K (He.ga K x) (.type "object") = some true))))
def globB (c : Cfg) (K : PySem.W.Frag) (p : Str × D) : Bool := match p.2 with
  | .int i => (He.Fa.int p.1 i).ok K
  | .str z => (He.Fa.str p.1 z).ok K
  | .ty n => (He.Fa.free p.1).ok K && (decide (bootBuiltins p.1 = some (.type n)) && decide (p.1 ≠ "__name__"))
  | .cls y => decide (y = p.1) && (c.own.contains p.1 && (He.Fa.glo p.1).ok K)
  | _ => false
def excB (K : PySem.W.Frag) (x : Str) (d : InD) (nx : Value) : Bool := oexB K (He.ga K x) && (supB K (He.ga K d.cls) d.n nx (He.ga K x) && He.eqO (PySem.W.findIn K (.ref (He.ga K x)) "__init__") (some (some (.ref (d.ad K)))))
def factB (c : Cfg) (K : PySem.W.Frag) : Bool :=
  (tyL c K).all (fun p => (tyL c K).all fun q => kvB K (kitT c.ts c.own) p q) && (c.own.all (fun x => isiB K x && ((He.Fa.glo x).ok K && (He.Fa.mkr x).ok K)) && (c.glob.all (globB c K) && (c.fl.all (fun p => c.own.contains p.2 && (He.Fa.noat p.2 p.1).ok K) &&
  (c.xf.all (fun p => (c.exl.map (·.1)).contains p.1 && (xfB K (He.ga K p.1) && p.2.all fun n => He.eqO (PySem.W.findIn K (.ref (He.ga K p.1)) n) (some none))) &&
  (c.exl.all (fun p => (He.Fa.glo p.1).ok K && c.exl.all fun q => decide (PySem.W.exmOne K (.ref (He.ga K p.1)) (.ref (He.ga K q.1)) = some (p.2.contains q.1))) && (c.free.all (fun x => (He.Fa.free x).ok K) &&
  (c.defs.all (fun d => d.ok K && (He.Fa.glo d.at_.1).ok K) && (c.inis.all (fun d => d.ok K) && (c.inits.all (fun d => inB c.P K d) && (c.exc0.all (fun p => (c.exl.map (·.1)).contains p.1 && excB K p.1 p.2 (.builtin "ValueError.__init__")) &&
  c.exc1.all (fun p => (c.exl.map (·.1)).contains p.1 && (excB K p.1 p.2.1 (.ref (p.2.2.ad K)) && supB K (He.ga K p.2.2.cls) p.2.2.n (.builtin "ValueError.__init__") (He.ga K p.1))))))))))))) 
abbrev AlC : Type := Bool × List He.FnW × List FnXV
def obsC (c : Cfg) (K : PySem.W.Frag) : AlC := (factB c K, (c.defs ++ c.inis).map fun d => He.fnW K d.at_, c.inits.map (fnXv K))
def valC (c : Cfg) : AlC := (true, (c.defs ++ c.inis).map He.DefD.val, c.inits.map InD.val)
def asC (g : Addr → Option Obj) (n : Nat) : List Addr := PySem.cStatics :: He.asD g n
def hookC (n : Nat) (c : Cfg) : PySem.W.Hook where
  α := AlC
  obs := fun s => obsC c (He.frG s.heap.get? (asC s.heap.get? n))
  val := fun _ => valC c
  says := fun _ h => ∃ K : PySem.W.Frag, K.In h ∧ obsC c K = valC c
  of := fun _ _ e => ⟨_, He.frG_in, e⟩
  keeps := fun _ _ _ ⟨K, hK, c⟩ k => ⟨K, PySem.W.Frag.In.keeps hK k, c⟩
theorem map_at {α β : Type} {f g : α → β} : ∀ {l : List α}, l.map f = l.map g → ∀ x ∈ l, f x = g x
  | [], _, x, h => by cases h
  | a :: l, e, x, h => by
    injection e with e1 e2
    rcases List.mem_cons.mp h with rfl | h
    · exact e1
    · exact map_at e2 x h
theorem lookup_mem {α : Type} {l : List (Str × α)} {x : Str} {y : α} (h : l.lookup x = some y) : (x, y) ∈ l := PySem.mem_of_lookup h
/-- the ground: what stands of the head -/
structure Gr (c : Cfg) (G : Gl) (h : Heap) : Prop where
  X : G.K.In h
  N : h.Ns mainGlobals G.mg
  e : obsC c G.K = valC c
  P : G.P = c.P
  ca : G.ca = c.ca G.K
  xa : G.xa = none
section
variable {c : Cfg} {G : Gl} {h : Heap} (S : Gr c G h)
include S
theorem Gr.fact : factB c G.K = true := congrArg (fun z : AlC => z.1) S.e
theorem Gr.caO {x : Str} (hx : c.own.contains x = true) : G.ca x = some (He.ga G.K x) := by
  rw [S.ca]; unfold Cfg.ca; rw [hx]; rfl
theorem Gr.caE {x : Str} (hx : (c.exl.map (·.1)).contains x = true) : G.ca x = some (He.ga G.K x) := by
  rw [S.ca]; unfold Cfg.ca; rw [hx, Bool.or_true]; rfl
theorem Gr.caI {x : Str} {C : Addr} (e : G.ca x = some C) : C = He.ga G.K x := by
  rw [S.ca] at e
  unfold Cfg.ca at e
  split at e
  · exact (Option.some.inj e).symm
  · cases e
theorem Gr.kit : KitOk G (kitT c.ts c.own) := by
  obtain ⟨h1, h2⟩ := He.ba S.fact
  obtain ⟨h2, _⟩ := He.ba h2
  have mem : ∀ t u, (match t with | .inl x => c.ts.contains x | .inr y => c.own.contains y) = true → tyVal G t = some u → (t, u) ∈ tyL c G.K := by
    intro t u hc hu
    unfold tyL
    cases t with
    | inl x =>
      cases hu
      exact List.mem_append.mpr (.inl (List.mem_map.mpr ⟨x, by simpa using hc, rfl⟩))
    | inr y =>
      have e : (G.ca y).map Value.ref = some u := hu
      rw [S.caO hc] at e
      cases e
      exact List.mem_append.mpr (.inr (List.mem_map.mpr ⟨y, by simpa using hc, rfl⟩))
  have inn : ∀ a b r, kitT c.ts c.own a b = some r → (match a with | .inl x => c.ts.contains x | .inr y => c.own.contains y) = true ∧ (match b with | .inl x => c.ts.contains x | .inr y => c.own.contains y) = true := by
    intro a b r hk
    unfold kitT at hk
    cases a <;> cases b <;> (dsimp only at hk; split at hk) <;> first | (rename_i z; exact He.ba z) | cases hk
  refine ⟨fun a b r hk u v hu hv => ?_, fun x b r hk C hC => ?_⟩
  · obtain ⟨ma, mb⟩ := inn a b r hk
    have z := List.all_eq_true.mp (List.all_eq_true.mp h1 _ (mem a u ma hu)) _ (mem b v mb hv)
    unfold kvB at z
    rw [hk] at z
    exact of_decide_eq_true z
  · obtain ⟨ma, _⟩ := inn _ b r hk
    have e := S.caI hC
    subst e
    have z := (He.ba (List.all_eq_true.mp h2 x (by simpa using ma))).1
    obtain ⟨z1, z⟩ := He.ba z
    obtain ⟨z2, z⟩ := He.ba z
    obtain ⟨z3, z⟩ := He.ba z
    obtain ⟨z4, z5⟩ := He.ba z
    exact ⟨He.cls_ok z1, He.eqO_ok z2, He.eqO_ok z3, of_decide_eq_true z4, of_decide_eq_true z5⟩
theorem Gr.own {x : Str} (hx : x ∈ c.own) : isiB G.K x = true ∧ (He.Fa.glo x).ok G.K = true ∧ (He.Fa.mkr x).ok G.K = true := by
  obtain ⟨_, h2⟩ := He.ba S.fact
  obtain ⟨h2, _⟩ := He.ba h2
  obtain ⟨z1, z2⟩ := He.ba (List.all_eq_true.mp h2 x hx)
  exact ⟨z1, He.ba z2⟩
theorem Gr.glob {x : Str} {d : D} (hx : c.glob.lookup x = some d) : GlobOk G x d := by
  obtain ⟨_, h2⟩ := He.ba S.fact
  obtain ⟨_, h2⟩ := He.ba h2
  obtain ⟨h2, _⟩ := He.ba h2
  have z := List.all_eq_true.mp h2 _ (lookup_mem hx)
  unfold globB at z
  dsimp only at z
  split at z
  · rename_i i
    obtain ⟨t, e⟩ := He.int_ok S.X S.N z
    exact ⟨.int i, .int i t, ⟨t, rfl⟩, fun _ _ => .int i, .inl e⟩
  · rename_i y
    obtain ⟨t, e⟩ := He.str_ok S.X S.N z
    exact ⟨.str y, .str y t, ⟨t, rfl⟩, fun _ _ => .str y, .inl e⟩
  · rename_i n
    obtain ⟨z1, z⟩ := He.ba z
    obtain ⟨z2, z3⟩ := He.ba z
    exact ⟨.ty n, .type n, rfl, fun _ _ => .ty n, .inr ⟨He.free_ok S.X S.N z1, of_decide_eq_true z2, of_decide_eq_true z3⟩⟩
  · rename_i y
    obtain ⟨z1, z⟩ := He.ba z
    obtain ⟨z2, z3⟩ := He.ba z
    have e := of_decide_eq_true z1
    subst e
    exact ⟨.ref (He.ga G.K y), .ref (He.ga G.K y), rfl, fun _ _ => .cls (S.caO z2), .inl (He.glo_ok S.X S.N z3)⟩
  · cases z
theorem Gr.fld {n cn : Str} (hx : c.fl.contains (n, cn) = true) : FldOk G cn n := by
  obtain ⟨_, h2⟩ := He.ba S.fact
  obtain ⟨_, h2⟩ := He.ba h2
  obtain ⟨_, h2⟩ := He.ba h2
  obtain ⟨h2, _⟩ := He.ba h2
  obtain ⟨z1, z2⟩ := He.ba (List.all_eq_true.mp h2 (n, cn) (by simpa using hx))
  intro C hC
  have e := S.caI hC
  subst e
  exact ⟨He.cls_ok (He.ba (S.own (by simpa using z1)).1).1, He.noat_ok z2⟩
theorem Gr.xff {xf : Str → Str → Bool} (hxf : ∀ a n, xf a n = true → ∃ l, c.xf.lookup a = some l ∧ l.contains n = true) : XfOk G xf := by
  obtain ⟨_, h2⟩ := He.ba S.fact
  obtain ⟨_, h2⟩ := He.ba h2
  obtain ⟨_, h2⟩ := He.ba h2
  obtain ⟨_, h2⟩ := He.ba h2
  obtain ⟨h2, _⟩ := He.ba h2
  intro a n hn C hC
  obtain ⟨l, e1, e2⟩ := hxf a n hn
  have e := S.caI hC
  subst e
  obtain ⟨z1, z⟩ := He.ba (List.all_eq_true.mp h2 _ (lookup_mem e1))
  obtain ⟨z2, z3⟩ := He.ba z
  exact ⟨xfB_ok z2, He.eqO_ok (List.all_eq_true.mp z3 n (by simpa using e2))⟩
theorem Gr.exls {p : Str × List Str} (hp : p ∈ c.exl) : (He.Fa.glo p.1).ok G.K = true ∧ ∀ q ∈ c.exl, PySem.W.exmOne G.K (.ref (He.ga G.K p.1)) (.ref (He.ga G.K q.1)) = some (p.2.contains q.1) := by
  obtain ⟨_, h2⟩ := He.ba S.fact
  obtain ⟨_, h2⟩ := He.ba h2
  obtain ⟨_, h2⟩ := He.ba h2
  obtain ⟨_, h2⟩ := He.ba h2
  obtain ⟨_, h2⟩ := He.ba h2
  obtain ⟨h2, _⟩ := He.ba h2
  obtain ⟨z1, z2⟩ := He.ba (List.all_eq_true.mp h2 p hp)
  exact ⟨z1, fun q hq => of_decide_eq_true (List.all_eq_true.mp z2 q hq)⟩
theorem Gr.xmm {xm : Str → Str → Option Bool} (hxm : ∀ a b r, xm a b = some r → ∃ l, c.exl.lookup a = some l ∧ (c.exl.map (·.1)).contains b = true ∧ r = l.contains b) : XmOk G xm := by
  intro a b r hr C D hC hD
  obtain ⟨l, e1, e2, e3⟩ := hxm a b r hr
  have eC := S.caI hC
  have eD := S.caI hD
  subst eC eD e3
  obtain ⟨q, hq, eq⟩ := List.mem_map.mp (show b ∈ c.exl.map (·.1) by simpa using e2)
  have z := (S.exls (lookup_mem e1)).2 q hq
  rw [eq] at z
  exact z
theorem Gr.hcc {x : Str} (hx : (c.exl.map (·.1)).contains x = true) : ∃ C, G.mg x = some (.ref C) ∧ G.ca x = some C := by
  obtain ⟨q, hq, eq⟩ := List.mem_map.mp (show x ∈ c.exl.map (·.1) by simpa using hx)
  have z := (S.exls hq).1
  rw [eq] at z
  exact ⟨_, He.glo_ok S.X S.N z, S.caE hx⟩
theorem Gr.rest : (c.free.all (fun x => (He.Fa.free x).ok G.K) &&
  (c.defs.all (fun d => d.ok G.K && (He.Fa.glo d.at_.1).ok G.K) && (c.inis.all (fun d => d.ok G.K) && (c.inits.all (fun d => inB c.P G.K d) && (c.exc0.all (fun p => (c.exl.map (·.1)).contains p.1 && excB G.K p.1 p.2 (.builtin "ValueError.__init__")) &&
  c.exc1.all (fun p => (c.exl.map (·.1)).contains p.1 && (excB G.K p.1 p.2.1 (.ref (p.2.2.ad G.K)) && supB G.K (He.ga G.K p.2.2.cls) p.2.2.n (.builtin "ValueError.__init__") (He.ga G.K p.1)))))))) = true := by
  obtain ⟨_, h2⟩ := He.ba S.fact
  obtain ⟨_, h2⟩ := He.ba h2
  obtain ⟨_, h2⟩ := He.ba h2
  obtain ⟨_, h2⟩ := He.ba h2
  obtain ⟨_, h2⟩ := He.ba h2
  obtain ⟨_, h2⟩ := He.ba h2
  exact h2
theorem Gr.fre {x : Str} (hx : c.free.contains x = true) : G.mg x = none := He.free_ok S.X S.N (List.all_eq_true.mp (He.ba S.rest).1 x (by simpa using hx))
theorem Gr.def_ {d : He.DefD} (hd : d ∈ c.defs) : (∃ fd, FunD G.K d.name d.qual d.params d.body d.scope (d.dvs G.K) (d.kws G.K) (He.fAd G.K d.at_) fd) ∧ G.mg d.at_.1 = some (.ref (He.ga G.K d.at_.1)) := by
  obtain ⟨_, h2⟩ := He.ba S.rest
  obtain ⟨z1, z2⟩ := He.ba (List.all_eq_true.mp (He.ba h2).1 d hd)
  exact ⟨He.DefD.funD (map_at (congrArg (fun z : AlC => z.2.1) S.e) d (List.mem_append.mpr (.inl hd))) z1, He.glo_ok S.X S.N z2⟩
theorem Gr.ini {d : He.DefD} (hd : d ∈ c.inis) : ∃ fd, FunD G.K d.name d.qual d.params d.body d.scope (d.dvs G.K) (d.kws G.K) (He.fAd G.K d.at_) fd := by
  obtain ⟨_, h2⟩ := He.ba S.rest
  obtain ⟨_, h2⟩ := He.ba h2
  exact He.DefD.funD (map_at (congrArg (fun z : AlC => z.2.1) S.e) d (List.mem_append.mpr (.inr hd))) (List.all_eq_true.mp (He.ba h2).1 d hd)
/-- what is to be seen of the exceptions' __init__s from their text -/
def InTx (c : Cfg) : Prop := ∀ d ∈ c.inits, inTB c.P d = true ∧ inBody d.body d.sf d.x d.n = true ∧ InBd d
omit S in
theorem InTx.one {P : Program} {d : InD} (h1 : (inTB P d && inBody d.body d.sf d.x d.n) = true) (h2 : InBd d) : inTB P d = true ∧ inBody d.body d.sf d.x d.n = true ∧ InBd d := ⟨(He.ba h1).1, (He.ba h1).2, h2⟩
theorem Gr.inok (hi : InTx c) {d : InD} (hd : d ∈ c.inits) : InOk G.P G.K d := by
  obtain ⟨_, h2⟩ := He.ba S.rest
  obtain ⟨_, h2⟩ := He.ba h2
  obtain ⟨_, h2⟩ := He.ba h2
  obtain ⟨t1, t2, t3⟩ := hi d hd
  rw [S.P]
  exact ⟨map_at (congrArg (fun z : AlC => z.2.2) S.e) d hd, List.all_eq_true.mp (He.ba h2).1 d hd, t1, t2, t3⟩
theorem Gr.ex0 (hi : InTx c) {p : Str × InD} {k : Nat} (hp : p ∈ c.exc0) (hd : p.2 ∈ c.inits) : ExcD G (k + 2) p.1 [p.2.n] false := by
  obtain ⟨_, h2⟩ := He.ba S.rest
  obtain ⟨_, h2⟩ := He.ba h2
  obtain ⟨_, h2⟩ := He.ba h2
  obtain ⟨_, h2⟩ := He.ba h2
  obtain ⟨z1, z⟩ := He.ba (List.all_eq_true.mp (He.ba h2).1 p hp)
  obtain ⟨z2, z⟩ := He.ba z
  obtain ⟨z3, z4⟩ := He.ba z
  obtain ⟨C, m1, m2⟩ := S.hcc z1
  have e := S.caI m2
  subst e
  exact (exc0 (k := k + 1) S.X S.N (S.inok hi hd) m1 m2 z2 z3 (He.eqO_ok z4))
theorem Gr.ex1 (hi : InTx c) {p : Str × InD × InD} {k : Nat} (hp : p ∈ c.exc1) (hd : p.2.1 ∈ c.inits) (he : p.2.2 ∈ c.inits) : ExcD G (k + 2) p.1 [p.2.1.n, p.2.2.n] false := by
  obtain ⟨_, h2⟩ := He.ba S.rest
  obtain ⟨_, h2⟩ := He.ba h2
  obtain ⟨_, h2⟩ := He.ba h2
  obtain ⟨_, h2⟩ := He.ba h2
  obtain ⟨z1, z⟩ := He.ba (List.all_eq_true.mp (He.ba h2).2 p hp)
  obtain ⟨z2, z5⟩ := He.ba z
  obtain ⟨z2, z⟩ := He.ba z2
  obtain ⟨z3, z4⟩ := He.ba z
  obtain ⟨C, m1, m2⟩ := S.hcc z1
  have e := S.caI m2
  subst e
  exact exc1 (k := k) S.X S.N (S.inok hi hd) (S.inok hi he) m1 m2 z2 z3 z5 (He.eqO_ok z4)
end
end Pv

set_option Elab.async false
set_option linter.all false
set_option maxRecDepth 100000
set_option maxHeartbeats 2000000
/-! Ev21: a law's tables and levels, from the head's facts. -/
namespace Pv
open PySem PySem.Spec PyProof.Rows L2
noncomputable def biT (kit : Kit) (mutp : Pos → Bool) (x : Str) (p : Pos) : Option (String × Op) :=
  if x = ("len" : Str) then some ("len", opLen) else if x = ("abs" : Str) then some ("abs", opAbs) else if x = ("max" : Str) then some ("max", opMax) else if x = ("min" : Str) then some ("min", opMin) else if x = ("sum" : Str) then some ("sum", opSum)
  else if x = ("all" : Str) then some ("all", opAll) else if x = ("any" : Str) then some ("any", opAny) else if x = ("isinstance" : Str) then some ("isinstance", opIsi kit) else if x = ("sorted" : Str) then some ("sorted", opSortedX (mutp p)) else none
noncomputable def tyT (mutp : Pos → Bool) (x : Str) (p : Pos) : Option (String × Op) :=
  if x = ("int" : Str) then some ("int", opInt) else if x = ("list" : Str) then some ("list", opList (mutp p)) else if x = ("tuple" : Str) then some ("tuple", opTuple) else if x = ("str" : Str) then some ("str", opStr) else if x = ("dict" : Str) then some ("dict", opDictP) else none
def mtT (T : String) (n : Str) : Option Mt := if T = "list" then (if n = "append" then some mtAppend else if n = "pop" then some mtPop else if n = "extend" then some mtExtend else if n = "index" then some mtIndex else if n = "reverse" then some mtReverse else none)
  else if T = "tuple" then (if n = "index" then some mtTIndex else none) else if T = "dict" then (if n = "get" then some mtGet else if n = "update" then some mtUpdate else none) else none
theorem biT_ok {G : Gl} {k : Nat} {kit : Kit} (ko : KitOk G kit) {mutp : Pos → Bool} {x : Str} {p : Pos} {id : String} {op : Op} (h : biT kit mutp x p = some (id, op)) : BOk G k (.builtin id) op ∧ bootBuiltins x = some (.builtin id) ∧ x ≠ "__name__" := by
  unfold biT at h
  repeat' split at h
  all_goals first
    | (rename_i z; cases h; subst z; exact ⟨bo_len, by decide +kernel, by decide +kernel⟩)
    | (rename_i z; cases h; subst z; exact ⟨bo_abs, by decide +kernel, by decide +kernel⟩)
    | (rename_i z; cases h; subst z; exact ⟨bo_max, by decide +kernel, by decide +kernel⟩)
    | (rename_i z; cases h; subst z; exact ⟨bo_min, by decide +kernel, by decide +kernel⟩)
    | (rename_i z; cases h; subst z; exact ⟨bo_sum, by decide +kernel, by decide +kernel⟩)
    | (rename_i z; cases h; subst z; exact ⟨bo_all, by decide +kernel, by decide +kernel⟩)
    | (rename_i z; cases h; subst z; exact ⟨bo_any, by decide +kernel, by decide +kernel⟩)
    | (rename_i z; cases h; subst z; exact ⟨bo_isi ko, by decide +kernel, by decide +kernel⟩)
    | (rename_i z; cases h; subst z; exact ⟨bo_sortedX _, by decide +kernel, by decide +kernel⟩)
    | cases h
theorem tyT_ok {G : Gl} {k : Nat} {mutp : Pos → Bool} {x : Str} {p : Pos} {id : String} {op : Op} (h : tyT mutp x p = some (id, op)) : BOk G k (.type id) op ∧ bootBuiltins x = some (.type id) ∧ x ≠ "__name__" := by
  unfold tyT at h
  repeat' split at h
  all_goals first
    | (rename_i z; cases h; subst z; exact ⟨bo_int, by decide +kernel, by decide +kernel⟩)
    | (rename_i z; cases h; subst z; exact ⟨bo_list _, by decide +kernel, by decide +kernel⟩)
    | (rename_i z; cases h; subst z; exact ⟨bo_tuple, by decide +kernel, by decide +kernel⟩)
    | (rename_i z; cases h; subst z; exact ⟨bo_str, by decide +kernel, by decide +kernel⟩)
    | (rename_i z; cases h; subst z; exact ⟨bo_dictP, by decide +kernel, by decide +kernel⟩)
    | cases h
theorem mtT_ok {G : Gl} {k : Nat} : MTabOk G k mtT := by
  intro T n op h
  unfold mtT at h
  repeat' split at h
  all_goals first
    | (rename_i z; cases h; subst_vars; exact mto_append)
    | (rename_i z; cases h; subst_vars; exact mto_pop)
    | (rename_i z; cases h; subst_vars; exact mto_extend)
    | (rename_i z; cases h; subst_vars; exact mto_index)
    | (rename_i z; cases h; subst_vars; exact mto_tindex)
    | (rename_i z; cases h; subst_vars; exact mto_get)
    | (rename_i z; cases h; subst_vars; exact mto_reverse)
    | (rename_i z; cases h; subst_vars; exact mto_update)
    | cases h
/-- a law's text: forms of calls, slots, changing sites, bodies -/
structure Law (c : Cfg) where
  fnL : List (Str × Form)
  mkL : List (Str × Form)
  excL : List (Str × List Str)
  mutp : Pos → Bool
  lockp : Pos → Bool
  names : List Str
  N : Str → List Str
  ps : Str → List Str
  NI : Str → List Str
  psI : Str → List Str
  body : (Str → Fn) → (Str → Fn) → Str → SV
  bodyI : (Str → Fn) → (Str → Fn) → Str → SV
section
variable {c : Cfg} (L : Law c)
noncomputable def Law.tbl (cf ci : Str → Fn) : Tb where
  glob := fun x => c.glob.lookup x
  fn := fun x n ks => (L.fnL.find? fun r => r.1 == x && r.2.n == n && r.2.ks == ks).map fun r => (r.2, cf x)
  mkc := fun x n ks => (L.mkL.find? fun r => r.1 == x && r.2.n == n && r.2.ks == ks).map fun r => (r.2, true, ci x)
  exc := fun x => (L.excL.lookup x).map fun ns => (ns, false)
  bi := biT (kitT c.ts c.own) L.mutp
  ty := tyT L.mutp
  fl := fun f cn => c.fl.contains (f, cn)
  xm := fun a b => (c.exl.lookup a).bind fun l => if (c.exl.map (·.1)).contains b then some (l.contains b) else none
  xf := fun a n => match c.xf.lookup a with | some l => l.contains n | none => false
  hc := fun x => (c.exl.map (·.1)).contains x
  mt := mtT
  free := fun x => c.free.contains x
  mutp := L.mutp
  lockp := L.lockp
  loops := 100000
noncomputable def Law.cc : Nat → (Str → Fn) × (Str → Fn) × (Str → Fn)
  | 0 => (fun _ => badF, fun _ => badF, fun _ => badF)
  | n + 1 => (fun x => fnD (L.ps x).length (L.N x).length (L.body (Law.cc n).1 (Law.cc n).2.1 x), (Law.cc n).2.2, fun x => fnD (L.psI x).length (L.NI x).length (L.bodyI (Law.cc n).1 (Law.cc n).2.1 x))
noncomputable def Law.cf (n : Nat) : Str → Fn := (L.cc n).1
noncomputable def Law.ci (n : Nat) : Str → Fn := (L.cc n).2.1
theorem Law.cf_s (n : Nat) (x : Str) : L.cf (n + 1) x = fnD (L.ps x).length (L.N x).length (L.body (L.cf n) (L.ci n) x) := rfl
theorem Law.ci_s (n : Nat) (x : Str) : L.ci (n + 2) x = fnD (L.psI x).length (L.NI x).length (L.bodyI (L.cf n) (L.ci n) x) := rfl
/-- a def's text -/
structure DefOk (x : Str) : Prop where
  ex : ∃ d ∈ c.defs, d.at_ = (x, none) ∧ d.name = x ∧ d.dfl = [] ∧ FnScope (L.N x) (L.ps x) d.scope ∧
    (∀ m, (x, m) ∈ L.fnL → ∀ (kV doc pm : Value) (an : Option Addr) (cdv ct : Value), BindF (PySem.W.fnOf d.name d.qual d.params d.body d.scope .none kV doc pm an cdv ct) (L.ps x) m.n m.ks m.idx) ∧
    ∀ (cf ci : Str → Fn) (k : Nat) (G : Gl) (hS : TbS G (L.tbl cf ci)) (hC : TbC G k (L.tbl cf ci)), compB k (L.tbl cf ci) G hS hC (L.N x) d.scope d.body = some (L.body cf ci x)
/-- an own class's __init__ -/
structure InitOk (x : Str) : Prop where
  own : x ∈ c.own
  ex : ∃ d ∈ c.inis, d.at_ = (x, some ("__init__" : Str)) ∧ d.dfl = [] ∧ FnScope (L.NI x) (L.psI x) d.scope ∧
    (∀ m, (x, m) ∈ L.mkL → ∀ (kV doc pm : Value) (an : Option Addr) (cdv ct : Value), BindF (PySem.W.fnOf d.name d.qual d.params d.body d.scope .none kV doc pm an cdv ct) (L.psI x) (m.n + 1) m.ks m.idx) ∧
    ∀ (cf ci : Str → Fn) (k : Nat) (G : Gl) (hS : TbS G (L.tbl cf ci)) (hC : TbC G k (L.tbl cf ci)), compB k (L.tbl cf ci) G hS hC (L.NI x) d.scope d.body = some (L.bodyI cf ci x)
structure Law.Ok : Prop where
  intx : InTx c
  exc : ∀ p ∈ L.excL, (∃ q ∈ c.exc0, q.1 = p.1 ∧ q.2 ∈ c.inits ∧ p.2 = [q.2.n]) ∨ ∃ q ∈ c.exc1, q.1 = p.1 ∧ q.2.1 ∈ c.inits ∧ q.2.2 ∈ c.inits ∧ p.2 = [q.2.1.n, q.2.2.n]
  fnN : ∀ p ∈ L.fnL, p.1 ∈ L.names
  defs : ∀ x ∈ L.names, DefOk L x
  inis : ∀ p ∈ L.mkL, InitOk L p.1
variable {L} {G : Gl} {h : Heap} (S : Gr c G h)
include S
theorem Gr.tbS (cf ci : Str → Fn) : TbS G (L.tbl cf ci) := ⟨fun x d e => S.glob e, fun n cn e => S.fld e, S.xff fun a n e => by
  have e' : (match c.xf.lookup a with | some l => l.contains n | none => false) = true := e
  split at e'
  · rename_i l q
    exact ⟨l, q, e'⟩
  · cases e'⟩
theorem Gr.defI {x : Str} (O : DefOk L x) : ∃ d : He.DefD, d ∈ c.defs ∧ DefI G x d.qual d.params d.body d.scope (L.N x) (L.ps x) (fun m => (x, m) ∈ L.fnL) ∧ ∀ (cf ci : Str → Fn) (k : Nat) (hS : TbS G (L.tbl cf ci)) (hC : TbC G k (L.tbl cf ci)), compB k (L.tbl cf ci) G hS hC (L.N x) d.scope d.body = some (L.body cf ci x) := by
  obtain ⟨d, hd, ha, hn, hdf, hsc, hb, hc⟩ := O.ex
  obtain ⟨⟨fd, F⟩, hm⟩ := S.def_ hd
  obtain ⟨at_, nm, q, pr, bd, sc, df, kw⟩ := d
  dsimp only at ha hn hdf hsc hb hc F hm
  subst ha hn hdf
  have F' := F
  obtain ⟨oc, od, dV, kV, doc, pm, an, cdv, ct, osl, rfl, lk, hcd, hD, hK⟩ := F.ex
  rcases hD with ⟨_, rfl⟩ | ⟨z, _⟩
  · exact ⟨_, hd, ⟨⟨_, _, _, _, hm, F.kp, F', fun m hm => hb m hm _ _ _ _ _ _⟩, hsc⟩, fun cf ci k hS hC => hc cf ci k G hS hC⟩
  · exact absurd rfl z
theorem Gr.clsI {x : Str} (O : InitOk L x) : ∃ d : He.DefD, d ∈ c.inis ∧ ClsI G x d.name d.qual d.params d.body d.scope (L.NI x) (L.psI x) (fun m => (x, m) ∈ L.mkL) ∧ ∀ (cf ci : Str → Fn) (k : Nat) (hS : TbS G (L.tbl cf ci)) (hC : TbC G k (L.tbl cf ci)), compB k (L.tbl cf ci) G hS hC (L.NI x) d.scope d.body = some (L.bodyI cf ci x) := by
  obtain ⟨d, hd, ha, hdf, hsc, hb, hc⟩ := O.ex
  obtain ⟨fd, F⟩ := S.ini hd
  obtain ⟨hi, hg, hm⟩ := S.own O.own
  obtain ⟨at_, nm, q, pr, bd, sc, df, kw⟩ := d
  dsimp only at ha hdf hsc hb hc F
  subst ha hdf
  have F' := F
  obtain ⟨oc, od, dV, kV, doc, pm, an, cdv, ct, osl, rfl, lk, hcd, hD, hK⟩ := F.ex
  rcases hD with ⟨_, rfl⟩ | ⟨z, _⟩
  · exact ⟨_, hd, ⟨⟨_, _, _, _, _, He.glo_ok S.X S.N hg, S.caO (by simpa using O.own), He.mkr_ok hm, F', fun m hm => hb m hm _ _ _ _ _ _⟩, hsc⟩, fun cf ci k hS hC => hc cf ci k G hS hC⟩
  · exact absurd rfl z
/-- the tables, over defs of a level -/
theorem Gr.tbC (O : L.Ok) {k : Nat} {cf ci : Str → Fn} (h1 : ∀ x ∈ L.names, FnD G (k + 4) x (fun m => (x, m) ∈ L.fnL) (cf x)) (h2 : ∀ p ∈ L.mkL, MkD G (k + 3) p.1 (fun m => (p.1, m) ∈ L.mkL) (ci p.1)) : TbC G (k + 3) (L.tbl cf ci) where
  fn := fun x n ks m f e => by
    obtain ⟨r, e1, e2⟩ := Option.map_eq_some_iff.mp e
    cases e2
    have z := List.find?_some e1
    have hm := List.mem_of_find?_eq_some e1
    simp only [Bool.and_eq_true, beq_iff_eq] at z
    obtain ⟨⟨z1, z2⟩, z3⟩ := z
    obtain ⟨y, m⟩ := r
    dsimp only at z1 z2 z3
    subst z1
    exact ⟨z2, z3, _, hm, h1 _ (O.fnN _ hm)⟩
  mkc := fun x n ks m fz f e => by
    obtain ⟨r, e1, e2⟩ := Option.map_eq_some_iff.mp e
    cases e2
    have z := List.find?_some e1
    have hm := List.mem_of_find?_eq_some e1
    simp only [Bool.and_eq_true, beq_iff_eq] at z
    obtain ⟨⟨z1, z2⟩, z3⟩ := z
    obtain ⟨y, m⟩ := r
    dsimp only at z1 z2 z3
    subst z1
    exact ⟨z2, z3, _, hm, h2 _ hm⟩
  exc := fun x ns z e => by
    obtain ⟨l, e1, e2⟩ := Option.map_eq_some_iff.mp e
    cases e2
    rcases O.exc _ (lookup_mem e1) with ⟨q, hq, e3, e4, e5⟩ | ⟨q, hq, e3, e4, e4', e5⟩
    · dsimp only at e3 e5
      subst e3 e5
      exact S.ex0 (k := k + 1) O.intx hq e4
    · dsimp only at e3 e5
      subst e3 e5
      exact S.ex1 (k := k + 1) O.intx hq e4 e4'
  bi := fun x p id op e => biT_ok S.kit e
  ty := fun x p id op e => tyT_ok e
  mt := mtT_ok
  xm := S.xmm fun a b r e => by
    obtain ⟨l, e1, e2⟩ := Option.bind_eq_some_iff.mp e
    split at e2
    · rename_i z
      exact ⟨l, e1, z, (Option.some.inj e2).symm⟩
    · cases e2
  hc := fun x e => S.hcc e
  free := fun x e => S.fre e
/-- all defs, all levels -/
theorem Gr.levels (O : L.Ok) : ∀ n, (∀ x ∈ L.names, FnD G (n + 4) x (fun m => (x, m) ∈ L.fnL) (L.cf n x)) ∧ (∀ p ∈ L.mkL, MkD G (n + 3) p.1 (fun m => (p.1, m) ∈ L.mkL) (L.ci n p.1)) ∧ (∀ p ∈ L.mkL, MkD G (n + 4) p.1 (fun m => (p.1, m) ∈ L.mkL) (L.ci (n + 1) p.1))
  | 0 => ⟨fun x hx => by
      obtain ⟨d, _, D, _⟩ := S.defI (O.defs x hx)
      exact D.bad, fun p hp => by
      obtain ⟨d, _, D, _⟩ := S.clsI (O.inis p hp)
      exact D.bad, fun p hp => by
      obtain ⟨d, _, D, _⟩ := S.clsI (O.inis p hp)
      exact D.bad⟩
  | n + 1 => by
    obtain ⟨h1, h2, h3⟩ := Gr.levels O n
    have hC := S.tbC O h1 h2
    have hS := S.tbS (L := L) (L.cf n) (L.ci n)
    refine ⟨fun x hx => ?_, h3, fun p hp => ?_⟩
    · obtain ⟨d, _, D, e⟩ := S.defI (O.defs x hx)
      exact D.go S.xa (compB_ok (e _ _ _ hS hC))
    · obtain ⟨d, _, D, e⟩ := S.clsI (O.inis p hp)
      exact D.go S.xa (compB_ok (e _ _ _ hS hC))
end
end Pv

set_option Elab.async false
set_option linter.all false
set_option maxRecDepth 100000
set_option maxHeartbeats 2000000
/-! Ev22: the end: a law's row from its tables and the plain law. -/
namespace Pv
open PySem PySem.Spec PyProof.Rows L2
theorem fa_nil {α : Type} {p : α → Prop} : ∀ x ∈ ([] : List α), p x := fun _ h => by cases h
theorem fa_cons {α : Type} {p : α → Prop} {a : α} {l : List α} (h : p a) (t : ∀ x ∈ l, p x) : ∀ x ∈ a :: l, p x := fun x hx => by
  rcases List.mem_cons.mp hx with rfl | hx
  · exact h
  · exact t x hx
theorem fa_app {α : Type} {p : α → Prop} {l m : List α} (h : ∀ x ∈ l, p x) (t : ∀ x ∈ m, p x) : ∀ x ∈ l ++ m, p x := fun x hx => (List.mem_append.mp hx).elim (h x) (t x)
theorem FnOk.noexc {P : Program} {w : World} {K : PySem.W.Frag} {mg : Str → Option Value} {base : Heap} {k : Nat} {f : Addr} {fd : FuncData} {ps : List Str} {sp : Sp} (F : FnOk P w K mg base (L2.CX P w) k f fd ps sp) : FnOk P w K mg base CX0 k f fd ps (fun vs H Q _ => sp vs H Q fun _ _ _ => False) :=
  ⟨fun vs H Q E h => F.len vs H Q _ h, fun A outer s H args us vs Q E hr e0 hb r h => codeAny_mono (F.run A outer s H args us vs Q _ hr e0 hb r h) fun rs s' hq => by
    cases rs with
    | ok fl => cases fl <;> exact hq
    | error e =>
      obtain ⟨_, _, _, _, _, _, _, _, _, _, _, _, z⟩ := hq
      exact z.elim⟩
/-- the script alone -/
theorem sr_only {G : Gl} {H : Hp} : SR G (fun a => match H a with | some (.frz o u) => some (.frz o u) | _ => none) [] [] H := by
  refine ⟨fun a o e => ?_, rfl, List.nodup_nil, fun n o a e => by simp at e, fun a h => by cases h⟩
  split at e
  · rename_i q
    rw [q]
    exact e
  · cases e
theorem only_sq {K : PySem.W.Frag} {H : Hp} {a : Addr} {xs : List V} (hO : Only H) (h : SqL K H a xs) : SqL K (fun a => match H a with | some (.frz o u) => some (.frz o u) | _ => none) a xs := by
  rcases h with (h | ⟨o, h⟩) | h
  · rcases hO a with z | ⟨o, ys, z⟩
    · rw [z] at h; cases h
    · rw [z] at h; cases h
  · refine .inl (.inr ⟨o, ?_⟩)
    dsimp only
    rw [h]
  · exact .inr h
/-- the law: what it computes is True -/
def LawOk {c : Cfg} (L : Law c) (n m : Nat) : Prop := ∀ ns : List Int, ns.length ≤ m → ∃ s', L.cf (n + 1) "law" [.scr ns] [] = .ok (.bl true) s'
theorem law_end {l : PySem.W.OpenLaw} {c : Cfg} {L : Law c} {q : Program} {loose : List Str} {XP : (Str → Option Value) → Heap → Prop} {d : DefRec} {m n : Nat} (O : L.Ok) (hP : l.prog = c.P) (hm : l.most = some m) (hm2 : m ≤ sizeLine) (hdf : d.params.defaults = []) (hdn : d.name = "law") (hr : Room (n + 5) callerA)
    (hps : L.ps "law" = [("script" : Str)]) (hbf : ∃ dl ∈ c.defs, dl.at_ = (("law" : Str), none) ∧ dl.name = ("law" : Str) ∧ dl.dfl = [] ∧ FnScope (L.N "law") [("script" : Str)] dl.scope ∧
      (∀ (kV doc pm : Value) (an : Option Addr) (cdv ct u : Value), bindArgs (PySem.W.fnOf dl.name dl.qual dl.params dl.body dl.scope .none kV doc pm an cdv ct) ⟨[u], []⟩ = pure [(("script" : Str), u)]) ∧
      ∀ (cf ci : Str → Fn) (k : Nat) (G : Gl) (hS : TbS G (L.tbl cf ci)) (hC : TbC G k (L.tbl cf ci)), compB k (L.tbl cf ci) G hS hC (L.N "law") dl.scope dl.body = some (L.body cf ci "law"))
    (plain : LawOk L n m) : PySem.W.WalkO q loose XP (hookC 5 c).says l.row.toRowW d [] (fun f vs => PySem.call f vs) := by
  refine L2.walk_ofE (l := l) (n := m) (k := n + 5) (x := "script") (CX := CX0) hm hm2 hdf hr ?_ (fun _ _ _ _ z => z)
  intro w mg fa h Y N hmg
  obtain ⟨K, KX, e⟩ := Y
  rw [hdn] at hmg
  have GR : ∀ base : Heap, Gr c { P := c.P, w := w, K := K, mg := mg, base := base, ca := c.ca K, fa := fun _ => none } h := fun base => ⟨KX, N, e, rfl, rfl, rfl⟩
  obtain ⟨dl, hd, ha, hn, hdd, hsc, hbd, hcm⟩ := hbf
  obtain ⟨⟨fd, F⟩, hga⟩ := (GR h).def_ hd
  obtain ⟨at_, nm, qn, pr, bd, sc, df, kw⟩ := dl
  dsimp only at ha hn hdd hsc hbd hcm F hga
  subst ha hn hdd
  have F' := F
  have efa : fa = He.ga K "law" := by
    have z := hmg.symm.trans hga
    exact Value.ref.inj (Option.some.inj z)
  obtain ⟨oc, od, dV, kV, doc, pm, an, cdv, ct, osl, rfl, lk, hcd, hD, hK⟩ := F.ex
  rcases hD with ⟨_, rfl⟩ | ⟨z, _⟩
  · refine ⟨K, _, fun vs H Q E => ∀ base : Heap, spD { P := c.P, w := w, K := K, mg := mg, base := base, ca := c.ca K, fa := fun _ => none } (L.cf (n + 1) "law") vs H Q fun _ _ _ => False, KX, fun s u => .of_eq (hbd kV doc pm an cdv ct u), fun H a ns hlen hO hS base => ?_, fun base hb1 hb2 => ?_⟩
    · obtain ⟨s', es⟩ := plain ns hlen
      refine ⟨_, [], [], [.scr ns], sr_only, .cons (.scr (only_sq hO hS)) .nil, ?_⟩
      rw [es]
      intro F' mu' H' v x hs r
      cases r
      rfl
    · obtain ⟨h1, h2, h3⟩ := (GR base).levels O n
      have hS := (GR base).tbS (L := L) (L.cf n) (L.ci n)
      have hC := (GR base).tbC O h1 h2
      have hb := compB_ok (hcm (L.cf n) (L.ci n) _ _ hS hC)
      have z := fn_d (G := { P := c.P, w := w, K := K, mg := mg, base := base, ca := c.ca K, fa := fun _ => none }) rfl F' hsc hb
      have e2 : fnD ([("script" : Str)] : List Str).length (L.N "law").length (L.body (L.cf n) (L.ci n) "law") = L.cf (n + 1) "law" := by
        rw [L.cf_s, hps]
      rw [e2] at z
      subst efa
      rw [hP]
      exact (FnOk.noexc z).imp fun vs H Q E q => q base
  · exact absurd rfl z
end Pv

set_option Elab.async false
set_option linter.all false
set_option maxRecDepth 100000
/-! Ev23: sorting, in plain words. -/
namespace Pv
open PySem PySem.Spec PyProof.Rows L2
theorem sort_perm {xs ys : List D} (hp : xs.Perm ys) (hi : ∀ a b, a ∈ xs → b ∈ xs → PySem.W.keyToks (encD a) = PySem.W.keyToks (encD b) → a = b) : sortD xs = sortD ys := by
  have T : PySem.W.TotalLe (PySem.W.dataLe false encD) := PySem.W.sortLe_total _ _ _
  have p1 : (sortD xs).Perm xs := List.mergeSort_perm _ _
  have p2 : (sortD ys).Perm ys := List.mergeSort_perm _ _
  refine List.Perm.eq_of_pairwise (le := fun a b => PySem.W.dataLe false encD a b = true) ?_ (PySem.W.sort_pairwise T xs) (PySem.W.sort_pairwise T ys) (p1.trans (hp.trans p2.symm))
  intro a b ha hb h1 h2
  refine hi a b (p1.mem_iff.mp ha) (hp.mem_iff.mpr (p2.mem_iff.mp hb)) ?_
  have e1 : (PyProof.Rows.listOrd PyProof.Rows.itemOrd).blt (PySem.W.keyToks (encD b)) (PySem.W.keyToks (encD a)) = false := by
    have z : (!(PyProof.Rows.listOrd PyProof.Rows.itemOrd).blt (PySem.W.keyToks (encD b)) (PySem.W.keyToks (encD a))) = true := h1
    simpa using z
  have e2 : (PyProof.Rows.listOrd PyProof.Rows.itemOrd).blt (PySem.W.keyToks (encD a)) (PySem.W.keyToks (encD b)) = false := by
    have z : (!(PyProof.Rows.listOrd PyProof.Rows.itemOrd).blt (PySem.W.keyToks (encD a)) (PySem.W.keyToks (encD b))) = true := h2
    simpa using z
  exact (PyProof.Rows.listOrd PyProof.Rows.itemOrd).total _ _ e2 e1
theorem sort_idem {xs : List D} : sortD (sortD xs) = sortD xs := List.mergeSort_of_pairwise (PySem.W.sort_pairwise (PySem.W.sortLe_total _ _ _) xs)
theorem sortD_perm (xs : List D) : (sortD xs).Perm xs := List.mergeSort_perm _ _
/-- a tie: a text and two whole numbers -/
def tieD (t : Str × Int × Int) : D := .tup [.str t.1, .int t.2.1, .int t.2.2]
theorem str_ext {a b : Str} (h : a.cps.toList = b.cps.toList) : a = b := by
  obtain ⟨⟨l⟩⟩ := a; obtain ⟨⟨m⟩⟩ := b
  simp at h; subst h; rfl
theorem enc_tie (t : Str × Int × Int) : encD (tieD t) = .tuple [.str t.1, .int t.2.1, .int t.2.2] := by
  simp [encD, tieD, pdD, pdD.pdL]
theorem tie_inj {a b : Str × Int × Int} (h : PySem.W.keyToks (encD (tieD a)) = PySem.W.keyToks (encD (tieD b))) : a = b := by
  rw [enc_tie, enc_tie] at h
  simp only [PySem.W.keyToks, PySem.W.keyToksAll, List.cons_append, List.nil_append, List.cons.injEq, Sum.inr.injEq, Sum.inl.injEq, true_and, and_true] at h
  obtain ⟨h1, h2, h3⟩ := h
  obtain ⟨a1, a2, a3⟩ := a
  obtain ⟨b1, b2, b3⟩ := b
  dsimp only at h1 h2 h3
  rw [str_ext h1, h2, h3]
theorem pdL_ties : ∀ ts : List (Str × Int × Int), pdD.pdL (ts.map tieD) = some (ts.map fun t => .tuple [.str t.1, .int t.2.1, .int t.2.2])
  | [] => by simp [pdD.pdL]
  | t :: ts => by simp [pdD.pdL, pdL_ties ts, tieD, pdD]
theorem sortOk_ties (ts : List (Str × Int × Int)) : sortOk (ts.map fun t => PyData.tuple [.str t.1, .int t.2.1, .int t.2.2]) := by
  refine ⟨fun d hd d' hd' => ?_, .inl fun d hd => ?_, fun d hd => ?_⟩
  · obtain ⟨t, _, rfl⟩ := List.mem_map.mp hd
    obtain ⟨t', _, rfl⟩ := List.mem_map.mp hd'
    simp [PySem.W.alike, PySem.W.alikeAll]
  · obtain ⟨t, _, rfl⟩ := List.mem_map.mp hd
    exact ⟨_, _, rfl⟩
  · obtain ⟨t, _, rfl⟩ := List.mem_map.mp hd
    simp [PyData.depth, PyData.depthAll]
/-- ties in order: of ties only -/
noncomputable def sortT (ts : List (Str × Int × Int)) : List (Str × Int × Int) := ts.mergeSort fun a b => PySem.W.dataLe false encD (tieD a) (tieD b)
theorem sortD_ties (ts : List (Str × Int × Int)) : sortD (ts.map tieD) = (sortT ts).map tieD := by
  unfold sortD sortT
  exact (List.map_mergeSort (f := tieD) (r := fun a b => PySem.W.dataLe false encD (tieD a) (tieD b)) (s := PySem.W.dataLe false encD) (fun _ _ _ _ => rfl)).symm
theorem sortT_perm {xs ys : List (Str × Int × Int)} (hp : xs.Perm ys) : sortT xs = sortT ys := by
  have e : (sortT xs).map tieD = (sortT ys).map tieD := by
    rw [← sortD_ties, ← sortD_ties]
    refine sort_perm (hp.map tieD) fun a b ha hb h => ?_
    obtain ⟨t, _, rfl⟩ := List.mem_map.mp ha
    obtain ⟨u, _, rfl⟩ := List.mem_map.mp hb
    rw [tie_inj h]
  have inj : ∀ {a b : Str × Int × Int}, tieD a = tieD b → a = b := fun {a b} h => by
    obtain ⟨a1, a2, a3⟩ := a
    obtain ⟨b1, b2, b3⟩ := b
    simp only [tieD, D.tup.injEq, List.cons.injEq, D.str.injEq, D.int.injEq] at h
    rw [h.1, h.2.1, h.2.2.1]
  exact List.map_inj_right (fun {a b} h => inj h) |>.mp e
theorem sortT_self (xs : List (Str × Int × Int)) : (sortT xs).Perm xs := List.mergeSort_perm _ _
open Classical in
theorem op_sorted_ties {m : Bool} {d : D} {s : DS} {ts : List (Str × Int × Int)} (h : seqOf d s = some (ts.map tieD)) : opSorted m [d] s = some (newLst m ((sortT ts).map tieD) s) := by
  show ((seqOf d s).bind fun xs => (pdD.pdL xs).bind fun ps => if sortOk ps then some (newLst m (sortD xs) s) else none) = _
  rw [h]
  show (pdD.pdL (ts.map tieD)).bind _ = _
  rw [pdL_ties]
  show (if sortOk _ then _ else _) = _
  rw [if_pos (sortOk_ties ts), sortD_ties]
theorem dct_none {d : D} {s : DS} {xs : List D} (h : seqOf d s = some xs) : dctOf d s = none := by
  cases d with
  | ref n =>
    cases e : s[n]? with
    | none => simp [dctOf, e]
    | some o =>
      cases o with
      | lst _ => simp [dctOf, e]
      | _ => simp [seqOf, lstOf, e] at h
  | dct ks vs => simp [seqOf, lstOf] at h
  | _ => rfl
theorem opX_seq {m : Bool} {d : D} {s : DS} {xs : List D} (h : seqOf d s = some xs) : opSortedX m [d] s = opSorted m [d] s := by
  show (match dctOf d s with | some (ks, _) => _ | none => opSorted m [d] s) = _
  rw [dct_none h]
theorem op_sortedX_ties {m : Bool} {d : D} {s : DS} {ts : List (Str × Int × Int)} (h : seqOf d s = some (ts.map tieD)) : opSortedX m [d] s = some (newLst m ((sortT ts).map tieD) s) := by
  rw [opX_seq h, op_sorted_ties h]
end Pv

set_option Elab.async false
set_option linter.all false
set_option maxRecDepth 100000
/-! Ev24: evaluating the combinators by simp. -/
namespace Pv
open PySem PySem.Spec PyProof.Rows L2
/-- by a proof, not by the reading alone -/
theorem nr {α : Type} {a b : α} (h : a = b) : a = b := h
/-! one after the other: what comes behind is looked at last -/
section
variable {α β γ : Type}
/-- a type that names what is not to be looked at -/
@[reducible] def Dep {γ : Type} (_ : γ) (α : Type) : Type := α
def bnd (r : R α) (k : α → DS → R β) : Dep k (R β) := r.bind k
@[simp] theorem bnd_ok {a : α} {s : DS} {k : α → DS → R β} : bnd (.ok a s) k = k a s := nr rfl
@[simp] theorem bnd_exc {x : Exn} {s : DS} {k : α → DS → R β} : bnd (.exc x s) k = .exc x s := nr rfl
@[simp] theorem bnd_bad {k : α → DS → R β} : bnd .bad k = .bad := nr rfl
def tos (r : R α) (env : Env') (k : α → DS → SR') : Dep k SR' := r.toS env k
@[simp] theorem tos_ok {a : α} {s : DS} {env : Env'} {k : α → DS → SR'} : tos (.ok a s) env k = k a s := nr rfl
@[simp] theorem tos_exc {x : Exn} {s : DS} {env : Env'} {k : α → DS → SR'} : tos (.exc x s) env k = .exc x env s := nr rfl
@[simp] theorem tos_bad {env : Env'} {k : α → DS → SR'} : tos .bad env k = .bad := nr rfl
def sq (r : SR') (k : Env' → DS → SR') : Dep k SR' := match r with | .nx e s => k e s | r => r
@[simp] theorem sq_nx {e : Env'} {s : DS} {k : Env' → DS → SR'} : sq (.nx e s) k = k e s := nr rfl
@[simp] theorem sq_rt {d : D} {s : DS} {k : Env' → DS → SR'} : sq (.rt d s) k = .rt d s := nr rfl
@[simp] theorem sq_bk {e : Env'} {s : DS} {k : Env' → DS → SR'} : sq (.bk e s) k = .bk e s := nr rfl
@[simp] theorem sq_ct {e : Env'} {s : DS} {k : Env' → DS → SR'} : sq (.ct e s) k = .ct e s := nr rfl
@[simp] theorem sq_exc {x : Exn} {e : Env'} {s : DS} {k : Env' → DS → SR'} : sq (.exc x e s) k = .exc x e s := nr rfl
@[simp] theorem sq_bad {k : Env' → DS → SR'} : sq .bad k = .bad := nr rfl
def fin (r : SR') : R D := match r with
  | .rt d s' => .ok d s'
  | .nx _ s' => .ok .non s'
  | .exc x _ s' => .exc x s'
  | _ => .bad
@[simp] theorem fin_rt {d : D} {s : DS} : fin (.rt d s) = .ok d s := nr rfl
@[simp] theorem fin_nx {e : Env'} {s : DS} : fin (.nx e s) = .ok .non s := nr rfl
@[simp] theorem fin_exc {x : Exn} {e : Env'} {s : DS} : fin (.exc x e s) = .exc x s := nr rfl
def cnd (b : Bool) (x y : α) : Dep (x, y) α := if b = true then x else y
@[simp] theorem cnd_t {x y : α} : cnd true x y = x := nr rfl
@[simp] theorem cnd_f {x y : α} : cnd false x y = y := nr rfl
def opt (o : Option β) (k : β → γ) (z : γ) : Dep (k, z) γ := match o with | some x => k x | none => z
@[simp] theorem opt_some {x : β} {k : β → γ} {z : γ} : opt (some x) k z = k x := nr rfl
@[simp] theorem opt_none {k : β → γ} {z : γ} : opt none k z = z := nr rfl
/-- a bool -/
def blc (a : D) (k : Bool → R α) : Dep k (R α) := match a with | .bl b => k b | _ => .bad
@[simp] theorem blc_bl {b : Bool} {k : Bool → R α} : blc (.bl b) k = k b := nr rfl
/-- a whole number -/
def inc (a : D) (k : Int → R α) : Dep k (R α) := match a with | .int b => k b | _ => .bad
@[simp] theorem inc_int {b : Int} {k : Int → R α} : inc (.int b) k = k b := nr rfl
/-- a bool that says so, or nothing -/
def gd (b : Bool) (x : α) (z : α) : α := if b = true then x else z
/-- what a try sees -/
def tr (r : SR') (k : Exn → Env' → DS → SR') : Dep k SR' := match r with | .exc x e s => k x e s | r => r
@[simp] theorem tr_nx {e : Env'} {s : DS} {k} : tr (.nx e s) k = .nx e s := nr rfl
@[simp] theorem tr_rt {d : D} {s : DS} {k} : tr (.rt d s) k = .rt d s := nr rfl
@[simp] theorem tr_exc {x : Exn} {e : Env'} {s : DS} {k} : tr (.exc x e s) k = k x e s := nr rfl
/-- an expression that is nothing but a value -/
def okd (r : R α) (k : α → DS → R β) : Dep k (R β) := match r with | .ok a s => k a s | _ => .bad
@[simp] theorem okd_ok {a : α} {s : DS} {k : α → DS → R β} : okd (.ok a s) k = k a s := nr rfl
def oko (r : R α) (k : α → DS → Option β) : Dep k (Option β) := match r with | .ok a s => k a s | _ => none
@[simp] theorem oko_ok {a : α} {s : DS} {k : α → DS → Option β} : oko (.ok a s) k = k a s := nr rfl
def obd (o : Option β) (k : β → Option γ) : Dep k (Option γ) := o.bind k
@[simp] theorem obd_some {x : β} {k : β → Option γ} : obd (some x) k = k x := nr rfl
end
section
variable {α : Type} {env : Env'} {s : DS} {f g h : EV D} {ft gt : EV Bool} {fs gs : EV (List D)} {b b' : SV}
@[simp] theorem ev_C {d : D} : eC d env s = .ok d s := nr rfl
def vr (o : Option (Option D)) (s : DS) : R D := match o with | some (some d) => .ok d s | _ => .bad
@[simp] theorem vr_s {d : D} : vr (some (some d)) s = .ok d s := nr rfl
@[simp] theorem ev_V {i : Nat} : eVar i env s = vr env[i]? s := nr rfl
@[simp] theorem ev_Bin {op} : eBin op f g env s = bnd (f env s) fun a s1 => bnd (g env s1) fun b s2 => R.ofO (op a b s2) := nr rfl
@[simp] theorem ev_Un {op} : eUn op f env s = bnd (f env s) fun a s1 => R.ofO (op a s1) := nr rfl
@[simp] theorem ev_tTru : tTru f env s = bnd (f env s) fun a s1 => opt (truD a s1) (fun b => .ok b s1) .bad := by
  unfold tTru bnd
  cases f env s with
  | ok a s1 => dsimp only [R.bind]; cases truD a s1 <;> rfl
  | _ => rfl
@[simp] theorem ev_tBl : tBl f env s = bnd (f env s) fun a s1 => blc a fun b => .ok b s1 := by
  unfold tBl bnd
  cases f env s with
  | ok a s1 => cases a <;> rfl
  | _ => rfl
@[simp] theorem ev_Chain {op op'} : eChain op op' f g h env s = bnd (f env s) fun a s1 => bnd (g env s1) fun b s2 => bnd (R.ofO (op a b s2)) fun z s3 => blc z fun z => cnd z (bnd (h env s3) fun d s4 => R.ofO (op' b d s4)) (.ok (.bl false) s3) := by
  unfold eChain bnd
  cases f env s with
  | ok a s1 =>
    dsimp only [R.bind]
    cases g env s1 with
    | ok b s2 =>
      dsimp only
      cases R.ofO (op a b s2) with
      | ok z s3 =>
        cases z with
        | bl z => cases z <;> rfl
        | _ => rfl
      | _ => rfl
    | _ => rfl
  | _ => rfl
@[simp] theorem ev_tNot : tNotD ft env s = bnd (ft env s) fun b s1 => .ok (!b) s1 := nr rfl
@[simp] theorem ev_tAnd : tAndD ft gt env s = bnd (ft env s) fun b s1 => cnd b (gt env s1) (.ok false s1) := nr rfl
@[simp] theorem ev_tOr : tOrD ft gt env s = bnd (ft env s) fun b s1 => cnd b (.ok true s1) (gt env s1) := nr rfl
@[simp] theorem ev_If : eIf ft f g env s = bnd (ft env s) fun b s1 => cnd b (f env s1) (g env s1) := nr rfl
@[simp] theorem ev_And : eAnd f g env s = bnd (f env s) fun a s1 => blc a fun z => cnd z (g env s1) (.ok (.bl false) s1) := by
  unfold eAnd bnd
  cases f env s with
  | ok a s1 =>
    cases a with
    | bl z => cases z <;> rfl
    | _ => rfl
  | _ => rfl
@[simp] theorem ev_Or : eOr f g env s = bnd (f env s) fun a s1 => blc a fun z => cnd z (.ok (.bl true) s1) (g env s1) := by
  unfold eOr bnd
  cases f env s with
  | ok a s1 =>
    cases a with
    | bl z => cases z <;> rfl
    | _ => rfl
  | _ => rfl
@[simp] theorem ev_Not : eNot f env s = bnd (f env s) fun a s1 => blc a fun b => .ok (.bl (!b)) s1 := by
  unfold eNot bnd
  cases f env s with
  | ok a s1 => cases a <;> rfl
  | _ => rfl
@[simp] theorem ev_aNil : aNil env s = .ok [] s := nr rfl
@[simp] theorem ev_aCons : aCons f fs env s = bnd (f env s) fun a s1 => bnd (fs env s1) fun b s2 => .ok (a :: b) s2 := nr rfl
@[simp] theorem ev_aStar : aStar f fs env s = bnd (f env s) fun d s1 => opt (seqOf d s1) (fun xs => bnd (fs env s1) fun ys s2 => .ok (xs ++ ys) s2) .bad := by
  unfold aStar bnd
  cases f env s with
  | ok a s1 => dsimp only [R.bind]; cases seqOf a s1 <;> rfl
  | _ => rfl
@[simp] theorem ev_Tup : eTup fs env s = bnd (fs env s) fun xs s1 => if xs.length ≤ sizeLine then .ok (.tup xs) s1 else .bad := nr rfl
@[simp] theorem ev_Lst : eLst fs env s = bnd (fs env s) fun xs s1 => if xs.length ≤ sizeLine then .ok (.lst xs) s1 else .bad := nr rfl
@[simp] theorem ev_LstM : eLstM fs env s = bnd (fs env s) fun xs s1 => if xs.length ≤ sizeLine then .ok (.ref s1.length) (s1 ++ [.lst xs]) else .bad := nr rfl
@[simp] theorem ev_sSeq : sSeq b b' env s = sq (b env s) b' := by
  unfold sSeq sq
  cases b env s <;> rfl
@[simp] theorem ev_sNext : sNext env s = .nx env s := nr rfl
@[simp] theorem ev_sBrk : sBrk env s = .bk env s := nr rfl
@[simp] theorem ev_sCnt : sCnt env s = .ct env s := nr rfl
@[simp] theorem ev_sRet : sRet f env s = tos (f env s) env fun d s1 => .rt d s1 := nr rfl
@[simp] theorem ev_sRetN : sRetN env s = .rt .non s := nr rfl
@[simp] theorem ev_sDrop : sDrop f env s = tos (f env s) env fun _ s1 => .nx env s1 := nr rfl
@[simp] theorem ev_sIf : sIf ft b b' env s = tos (ft env s) env fun z s1 => cnd z (b env s1) (b' env s1) := nr rfl
@[simp] theorem ev_sSet {i : Nat} : sSet i f env s = tos (f env s) env fun d s1 => .nx (env.set i (some d)) s1 := nr rfl
@[simp] theorem ev_sAsg {t : TV} : sAsg t f env s = tos (f env s) env fun d s1 => opt (t d env s1) (fun p => .nx p.1 p.2) .bad := by
  unfold sAsg tos
  cases f env s with
  | ok a s1 => dsimp only [R.toS]; cases t a env s1 <;> rfl
  | _ => rfl
def two (ds : List D) (k : D → D → SR') : Dep k SR' := match ds with | [d, e] => k d e | _ => .bad
@[simp] theorem two_e {d e : D} {k : D → D → SR'} : two [d, e] k = k d e := nr rfl
@[simp] theorem ev_sPar2 {i j : Nat} : sPar2 i j fs env s = tos (fs env s) env fun ds s1 => two ds fun d e => .nx ((env.set i (some d)).set j (some e)) s1 := by
  unfold sPar2 tos
  cases fs env s with
  | ok a s1 =>
    rfl
  | _ => rfl
def three (ds : List D) (k : D → D → D → SR') : Dep k SR' := match ds with | [d, e, g] => k d e g | _ => .bad
@[simp] theorem three_e {d e g : D} {k : D → D → D → SR'} : three [d, e, g] k = k d e g := nr rfl
@[simp] theorem ev_sPar3 {i j l : Nat} : sPar3 i j l fs env s = tos (fs env s) env fun ds s1 => three ds fun d e g => .nx (((env.set i (some d)).set j (some e)).set l (some g)) s1 := by
  unfold sPar3 tos
  cases fs env s with
  | ok a s1 =>
    rfl
  | _ => rfl
def vs (o : Option (Option D)) (k : D → SR') : Dep k SR' := match o with | some (some d) => k d | _ => .bad
@[simp] theorem vs_s {d : D} {k : D → SR'} : vs (some (some d)) k = k d := nr rfl
@[simp] theorem ev_sAug {o : Operator} {i : Nat} : sAug o i f env s = vs env[i]? fun d => tos (f env s) env fun e s1 => opt (augO o d e) (fun r => .nx (env.set i (some r)) s1) .bad := by
  unfold sAug vs tos
  cases env[i]? with
  | none => rfl
  | some x =>
    cases x with
    | none => rfl
    | some d =>
      cases f env s with
      | ok a s1 => dsimp only [R.toS]; cases augO o d a <;> rfl
      | _ => rfl
@[simp] theorem ev_gNm {i : Nat} {d : D} : gNm i d env s = some (env.set i (some d), s) := nr rfl
@[simp] theorem ev_gsNil : gsNil [] env s = some (env, s) := nr rfl
@[simp] theorem ev_gsCons {t : TV} {ts} {d : D} {ds : List D} : gsCons t ts (d :: ds) env s = obd (t d env s) fun p => ts ds p.1 p.2 := nr rfl
@[simp] theorem ev_gTpt {n : Nat} {ts} {xs : List D} : gTp n ts (.tup xs) env s = if xs.length = n then ts xs env s else none := nr rfl
@[simp] theorem ev_gTpk {n : Nat} {ts} {xs : List D} : gTp n ts (.ktup xs) env s = if xs.length = n then ts xs env s else none := nr rfl
@[simp] theorem ev_gSb {d : D} : gSb f g d env s = oko (f env s) fun o s1 => oko (g env s1) fun i s2 => (setO o i d s2).map fun s3 => (env, s3) := by
  unfold gSb oko
  cases f env s with
  | ok a s1 => dsimp only; cases g env s1 <;> rfl
  | _ => rfl
@[simp] theorem ev_CallB {op : Op} : eCallB op fs env s = bnd (fs env s) fun xs s1 => R.ofO (op xs s1) := nr rfl
def fldR (fl : Str → Bool) (n : Str) (o : Option (Str × List Str × List D)) (s : DS) : R D := match o with
  | some (cn, ns, vs) => if fl cn = true then match lookN ns vs n with
    | some r => .ok r s
    | none => .bad
    else .bad
  | none => .bad
theorem fldR_ok {fl : Str → Bool} {n cn : Str} {ns : List Str} {vs : List D} {d : D} (h : fl cn = true) (e : lookN ns vs n = some d) : fldR fl n (some (cn, ns, vs)) s = .ok d s := by
  simp [fldR, h, e]
@[simp] theorem ev_Fld {fl : Str → Bool} {n : Str} : eFld fl n f env s = bnd (f env s) fun d s1 => fldR fl n (insOf d s1) s1 := nr rfl
@[simp] theorem ev_Sl {lo hi : EV (Option Int)} : eSl f lo hi env s = bnd (f env s) fun d s1 => bnd (lo env s1) fun l s2 => bnd (hi env s2) fun u s3 => opt (slO d l u s3) (fun r => .ok r s3) .bad := by
  unfold eSl bnd
  cases f env s with
  | ok a s1 =>
    dsimp only [R.bind]
    cases lo env s1 with
    | ok b s2 =>
      dsimp only
      cases hi env s2 with
      | ok c s3 => dsimp only; cases slO a b c s3 <;> rfl
      | _ => rfl
    | _ => rfl
  | _ => rfl
@[simp] theorem ev_pNone : pNone env s = .ok none s := nr rfl
@[simp] theorem ev_pSome : pSome f env s = bnd (f env s) fun d s1 => inc d fun i => .ok (some i) s1 := by
  unfold pSome bnd
  cases f env s with
  | ok a s1 => cases a <;> rfl
  | _ => rfl
@[simp] theorem ev_Meth {mt : MTab} {n : Str} : eMeth mt n f fs env s = bnd (f env s) fun d s1 => opt ((rcvT d s1).bind fun T => mt T n) (fun op => bnd (fs env s1) fun xs s2 => R.ofO (op d xs s2)) .bad := by
  unfold eMeth bnd
  cases f env s with
  | ok a s1 => dsimp only [R.bind]; cases (rcvT a s1).bind fun T => mt T n <;> rfl
  | _ => rfl
def fldS (fl : Str → Bool) (n : Str) (y d : D) (env : Env') (s2 : DS) : SR' := match d with
  | .ref m => match s2[m]? with
    | some (.ins cn ns vs) => if fl cn = true ∧ ns.length < 1000 then .nx env (s2.set m (.ins cn (putNs ns n) (putNv ns vs n y))) else .bad
    | _ => .bad
  | _ => .bad
theorem fldS_ok {fl : Str → Bool} {n cn : Str} {y : D} {m : Nat} {ns : List Str} {vs : List D} (h : s[m]? = some (.ins cn ns vs)) (hf : fl cn = true) (hl : ns.length < 1000) : fldS fl n y (.ref m) env s = .nx env (s.set m (.ins cn (putNs ns n) (putNv ns vs n y))) := by
  simp [fldS, h, hf, hl]
@[simp] theorem ev_sFld {fl : Str → Bool} {n : Str} : sFldD fl n f g env s = tos (g env s) env fun y s1 => tos (f env s1) env fun d s2 => fldS fl n y d env s2 := nr rfl
@[simp] theorem ev_Call {m : Form} {cf : Fn} : eCall m cf fs gs env s = bnd (fs env s) fun xs s1 => bnd (gs env s1) fun ys s2 => if xs.length = m.n ∧ ys.length = m.ks.length then opt (pickL m.idx (xs ++ ys)) (fun zs => cf zs s2) .bad else .bad := by
  unfold eCall bnd
  cases fs env s with
  | ok a s1 =>
    dsimp only [R.bind]
    cases gs env s1 with
    | ok b s2 => dsimp only; cases pickL m.idx (a ++ b) <;> rfl
    | _ => rfl
  | _ => rfl
/-- the end of making -/
def mkE (fz : Bool) (n : Nat) (r : R D) : R D := match r with
  | .ok .non s' => if fz = true then match s'[n]? with
        | some (.ins c' ns vs) => .ok (.obj c' ns vs) (s'.set n .dead)
        | _ => .bad
      else .ok (.ref n) s'
  | .ok _ _ => .bad
  | .exc x s' => .exc x s'
  | .bad => .bad
@[simp] theorem mkE_exc {fz : Bool} {n : Nat} {x : Exn} : mkE fz n (.exc x s) = .exc x s := nr rfl
theorem mkE_ok {n : Nat} {c : Str} {ns : List Str} {vs : List D} (h : s[n]? = some (.ins c ns vs)) : mkE true n (.ok .non s) = .ok (.obj c ns vs) (s.set n .dead) := by
  simp [mkE, h]
@[simp] theorem ev_Make {fz : Bool} {c : Str} {m : Form} {cf : Fn} : eMake fz c m cf fs gs env s = bnd (fs env s) fun xs s1 => bnd (gs env s1) fun ys s2 => if xs.length = m.n ∧ ys.length = m.ks.length then opt (pickL m.idx (.ref s2.length :: xs ++ ys)) (fun zs => mkE fz s2.length (cf zs (s2 ++ [.ins c [] []]))) .bad else .bad := by
  unfold eMake bnd
  cases fs env s with
  | ok a s1 =>
    dsimp only [R.bind]
    cases gs env s1 with
    | ok b s2 =>
      dsimp only [mkD]
      cases pickL m.idx (.ref s2.length :: a ++ b) with
      | some zs =>
        unfold opt mkE
        dsimp only
        all_goals
          cases cf zs (s2 ++ [.ins c [] []]) with
          | ok d s3 => cases d <;> rfl
          | _ => rfl
      | none => rfl
    | _ => rfl
  | _ => rfl
@[simp] theorem ev_tYes : tYesD env s = .ok true s := nr rfl
@[simp] theorem ev_iVal : iVal f env s = bnd (f env s) fun d s1 => opt (itemsOf d s1) (fun l => .ok l s1) .bad := by
  unfold iVal bnd
  cases f env s with
  | ok a s1 => dsimp only [R.bind]; cases itemsOf a s1 <;> rfl
  | _ => rfl
@[simp] theorem ev_iRng {o : List D → Option Items} : iRng o fs env s = bnd (fs env s) fun ds s1 => opt (o ds) (fun l => .ok l s1) .bad := by
  unfold iRng bnd
  cases fs env s with
  | ok a s1 => dsimp only [R.bind]; cases o a <;> rfl
  | _ => rfl
@[simp] theorem ev_LenSet : eLenSet f env s = bnd (f env s) fun d s1 => opt ((tupOf d).bind intsOf) (fun ns => if ns.length ≤ 4000 then .ok (.int (distinct ns).length) s1 else .bad) .bad := by
  unfold eLenSet bnd
  cases f env s with
  | ok a s1 => dsimp only [R.bind]; cases (tupOf a).bind intsOf <;> rfl
  | _ => rfl
@[simp] theorem ev_Dict0 : eDict0 env s = .ok (.ref s.length) (s ++ [.dct [] []]) := nr rfl
def lrOk (j : Int) : Bool := decide (j ≤ 16777216 ∧ -(2 ^ 62) ≤ j)
theorem lrOk_of {j : Int} (h0 : 0 ≤ j) (h : j ≤ 1000000) : lrOk j = true := decide_eq_true ⟨by omega, by omega⟩
theorem lr_if {α : Type} {j : Int} {x y : α} : (if j ≤ 16777216 ∧ -(2 ^ 62) ≤ j then x else y) = if lrOk j = true then x else y := by
  unfold lrOk
  by_cases h : j ≤ 16777216 ∧ -(2 ^ 62) ≤ j
  · rw [if_pos h, if_pos (decide_eq_true h)]
  · rw [if_neg h, if_neg (by simpa using h)]
@[simp] theorem ev_LstRg {m : Bool} : eLstRg m f env s = bnd (f env s) fun d s1 => inc d fun j => if lrOk j = true then .ok (newLst m (rngL 0 j.toNat) s1).1 (newLst m (rngL 0 j.toNat) s1).2 else .bad := by
  unfold eLstRg bnd
  cases f env s with
  | ok a s1 => cases a <;> first | rfl | exact lr_if
  | _ => rfl
@[simp] theorem ev_TupRg : eTupRg f env s = bnd (f env s) fun d s1 => inc d fun j => if lrOk j = true then .ok (.ktup (rngL 0 j.toNat)) s1 else .bad := by
  unfold eTupRg bnd
  cases f env s with
  | ok a s1 => cases a <;> first | rfl | exact lr_if
  | _ => rfl
@[simp] theorem ev_Raise1 {x : Str} {ns : List Str} : sRaise1 x ns f env s = tos (f env s) env fun d s1 => .exc (excOf x ns d) env s1 := nr rfl
@[simp] theorem ev_Raise0 {x : Str} {ns : List Str} : sRaise0 x ns env s = .exc (excOf x ns .non) env s := nr rfl
@[simp] theorem ev_Try {xm} {hs : List HdD} : sTry xm b hs env s = tr (b env s) fun x e s1 => tryH xm hs x e s1 := by
  unfold sTry tr
  cases b env s <;> rfl
@[simp] theorem ev_sFor {it : EV Items} {t : TV} : sFor it t b env s = tos (it env s) env fun l s1 => forL l.lv t b l.l env s1 := nr rfl
@[simp] theorem ev_Lc {m : Bool} {vs : List Nat} {it : EV Items} {t : TV} : eLc m vs it t ft f env s = bnd (it env s) fun l s1 => okd (lcL l.lv t ft f (wipeD env vs) l.l s1) fun ys s2 => if ys.length ≤ sizeLine then (if m = true then .ok (.ref s2.length) (s2 ++ [.lst ys]) else .ok (.lst ys) s2) else .bad := by
  unfold eLc bnd
  cases it env s with
  | ok a s1 => dsimp only [R.bind]; cases lcL a.lv t ft f (wipeD env vs) a.l s1 <;> rfl
  | _ => rfl
@[simp] theorem ev_Dc {vs : List Nat} {it : EV Items} {t : TV} : eDc vs it t ft f g env s = bnd (it env s) fun l s1 => okd (dcL l.lv t ft f g (wipeD env vs) l.l s1) fun ps s2 => if ps.length ≤ sizeLine then .ok (.ref s2.length) (s2 ++ [.dct (mergeP ps ([], [])).1 (mergeP ps ([], [])).2]) else .bad := by
  unfold eDc bnd
  cases it env s with
  | ok a s1 => dsimp only [R.bind]; cases dcL a.lv t ft f g (wipeD env vs) a.l s1 <;> rfl
  | _ => rfl
@[simp] theorem ev_Disp {l : List (EV D × EV D)} : eDisp l env s = okd (dispL l env s) fun ps s2 => if ps.length ≤ 15 then .ok (.ref s2.length) (s2 ++ [.dct (mergeP ps ([], [])).1 (mergeP ps ([], [])).2]) else .bad := by
  unfold eDisp
  cases dispL l env s <;> rfl
def kyc {α : Type} (o : Option Key) (k : Key → R α) : Dep k (R α) := match o with | some x => k x | none => .bad
@[simp] theorem kyc_s {α : Type} {x : Key} {k : Key → R α} : kyc (some x) k = k x := nr rfl
@[simp] theorem disp_nil : dispL [] env s = .ok [] s := nr rfl
@[simp] theorem disp_cons {p : EV D × EV D} {l : List (EV D × EV D)} : dispL (p :: l) env s = okd (p.1 env s) fun y s1 => okd (p.2 env s1) fun z s2 => kyc (keyOf y) fun kk => okd (dispL l env s2) fun ps s3 => .ok ((kk, z) :: ps) s3 := by
  conv => lhs; unfold dispL
  cases p.1 env s with
  | ok y s1 =>
    dsimp only [okd]
    cases p.2 env s1 with
    | ok z s2 =>
      dsimp only
      cases keyOf y with
      | some kk =>
        dsimp only [kyc]
        cases dispL l env s2 <;> rfl
      | none => rfl
    | _ => rfl
  | _ => rfl
def enc (o : Option (List D × List (Nat × List D))) (k : List D → List (Nat × List D) → R Items) : Dep k (R Items) := match o with | some (xs, lv) => k xs lv | none => .bad
@[simp] theorem enc_s {xs : List D} {lv : List (Nat × List D)} {k : List D → List (Nat × List D) → R Items} : enc (some (xs, lv)) k = k xs lv := nr rfl
@[simp] theorem ev_iEnum : iEnumD f env s = bnd (f env s) fun d s1 => enc (lstG d s1) fun xs lv => .ok ⟨enumL 0 xs, lv⟩ s1 := by
  unfold iEnumD bnd
  cases f env s with
  | ok a s1 => dsimp only [R.bind]; cases lstG a s1 <;> rfl
  | _ => rfl
@[simp] theorem lstG_lst {xs : List D} : lstG (.lst xs) s = some (xs, []) := nr rfl
@[simp] theorem keyOf_int {i : Int} : Pv.keyOf (.int i) = some (.inl i) := nr rfl
@[simp] theorem ev_wipe0 : wipeD env [] = env := nr rfl
@[simp] theorem ev_wipe1 {v : Nat} {vs : List Nat} : wipeD env (v :: vs) = (wipeD env vs).set v none := nr rfl
@[simp] theorem ev_ofO {a : α} : R.ofO (some (a, s)) = .ok a s := nr rfl
@[simp] theorem ev_fn {n N : Nat} {ds : List D} : fnD n N b ds s = if ds.length = n then fin (b (ds.map some ++ List.replicate (N - n) none) s) else .bad := by
  unfold fnD
  split
  · unfold fin
    cases b (ds.map some ++ List.replicate (N - n) none) s <;> rfl
  · rfl
@[simp] theorem sz_0 : 0 ≤ sizeLine := by unfold sizeLine; omega
@[simp] theorem sz_1 : 1 ≤ sizeLine := by unfold sizeLine; omega
@[simp] theorem sz_2 : 2 ≤ sizeLine := by unfold sizeLine; omega
@[simp] theorem sz_3 : 3 ≤ sizeLine := by unfold sizeLine; omega
@[simp] theorem sz_4 : 4 ≤ sizeLine := by unfold sizeLine; omega
@[simp] theorem sz_5 : 5 ≤ sizeLine := by unfold sizeLine; omega
@[simp] theorem sz_6 : 6 ≤ sizeLine := by unfold sizeLine; omega
@[simp] theorem sz_7 : 7 ≤ sizeLine := by unfold sizeLine; omega
@[simp] theorem sz_8 : 8 ≤ sizeLine := by unfold sizeLine; omega
@[simp] theorem sz_9 : 9 ≤ sizeLine := by unfold sizeLine; omega
@[simp] theorem sz_10 : 10 ≤ sizeLine := by unfold sizeLine; omega
@[simp] theorem sz_11 : 11 ≤ sizeLine := by unfold sizeLine; omega
@[simp] theorem sz_12 : 12 ≤ sizeLine := by unfold sizeLine; omega
@[simp] theorem sz_13 : 13 ≤ sizeLine := by unfold sizeLine; omega
@[simp] theorem sz_14 : 14 ≤ sizeLine := by unfold sizeLine; omega
@[simp] theorem sz_15 : 15 ≤ sizeLine := by unfold sizeLine; omega
@[simp] theorem sz_16 : 16 ≤ sizeLine := by unfold sizeLine; omega
@[simp] theorem sz_17 : 17 ≤ sizeLine := by unfold sizeLine; omega
@[simp] theorem sz_18 : 18 ≤ sizeLine := by unfold sizeLine; omega
@[simp] theorem sz_19 : 19 ≤ sizeLine := by unfold sizeLine; omega
@[simp] theorem sz_20 : 20 ≤ sizeLine := by unfold sizeLine; omega
@[simp] theorem sz_21 : 21 ≤ sizeLine := by unfold sizeLine; omega
@[simp] theorem sz_22 : 22 ≤ sizeLine := by unfold sizeLine; omega
@[simp] theorem sz_23 : 23 ≤ sizeLine := by unfold sizeLine; omega
@[simp] theorem sz_24 : 24 ≤ sizeLine := by unfold sizeLine; omega
@[simp] theorem sz_25 : 25 ≤ sizeLine := by unfold sizeLine; omega
end
/-! ### plain operations -/
@[simp] theorem op_len_str {x : Str} {s : DS} : opLen [.str x] s = if x.length ≤ sizeLine then some (.int x.length, s) else none := nr rfl
@[simp] theorem op_len_tup {xs : List D} {s : DS} : opLen [.tup xs] s = some (.int xs.length, s) := nr rfl
@[simp] theorem op_len_ktup {xs : List D} {s : DS} : opLen [.ktup xs] s = some (.int xs.length, s) := nr rfl
@[simp] theorem op_len_lst {xs : List D} {s : DS} : opLen [.lst xs] s = some (.int xs.length, s) := nr rfl
@[simp] theorem op_len_scr {xs : List Int} {s : DS} : opLen [.scr xs] s = some (.int xs.length, s) := nr rfl
theorem op_len_ref {n : Nat} {xs : List D} {s : DS} (h : s[n]? = some (.lst xs)) : opLen [.ref n] s = some (.int xs.length, s) := by
  simp [opLen, seqOf, lstOf, h]
@[simp] theorem at0 {α : Type} {a : α} {l : List α} : atI (a :: l) 0 = some a := by simp [atI, ixN]
@[simp] theorem at1 {α : Type} {a b : α} {l : List α} : atI (a :: b :: l) 1 = some b := by
  unfold atI ixN
  rw [if_pos (by decide), if_pos (by simp only [List.length_cons]; omega)]
  rfl
@[simp] theorem at2 {α : Type} {a b c : α} {l : List α} : atI (a :: b :: c :: l) 2 = some c := by
  unfold atI ixN
  rw [if_pos (by decide), if_pos (by simp only [List.length_cons]; omega)]
  rfl
@[simp] theorem at3 {α : Type} {a b c d : α} {l : List α} : atI (a :: b :: c :: d :: l) 3 = some d := by
  unfold atI ixN
  rw [if_pos (by decide), if_pos (by simp only [List.length_cons]; omega)]
  rfl
@[simp] theorem ix_tup {xs : List D} {i : Int} {s : DS} : ixO (.tup xs) (.int i) s = atI xs i := nr rfl
@[simp] theorem ix_ktup {xs : List D} {i : Int} {s : DS} : ixO (.ktup xs) (.int i) s = atI xs i := nr rfl
@[simp] theorem ix_lst {xs : List D} {i : Int} {s : DS} : ixO (.lst xs) (.int i) s = atI xs i := nr rfl
@[simp] theorem ix_scr {xs : List Int} {i : Int} {s : DS} : ixO (.scr xs) (.int i) s = (atI xs i).map .int := nr rfl
theorem ix_ref {n : Nat} {xs : List D} {i : Int} {s : DS} (h : s[n]? = some (.lst xs)) : ixO (.ref n) (.int i) s = atI xs i := by
  simp [ixO, seqOf, lstOf, h]
theorem ix_dct {n : Nat} {ks : List Key} {vs : List D} {i : Int} {s : DS} (h : s[n]? = some (.dct ks vs)) : ixO (.ref n) (.int i) s = lookK ks vs (.inl i) := by
  simp [ixO, seqOf, lstOf, h, dctOf, keyOf]
@[simp] theorem is_ix {a b : D} {s : DS} : isIx a b s = (ixO a b s).map fun d => (d, s) := nr rfl
@[simp] theorem is_cmp {o : CmpOp} {a b : D} {s : DS} : isCmp o a b s = (cmpB o a b s).map fun r => (.bl r, s) := nr rfl
@[simp] theorem cmp_eq {a b : D} {s : DS} : cmpB .Eq a b s = eqO a b s := nr rfl
@[simp] theorem cmp_ne {a b : D} {s : DS} : cmpB .NotEq a b s = (eqO a b s).map not := nr rfl
@[simp] theorem cmp_lt {a b : Int} {s : DS} : cmpB .Lt (.int a) (.int b) s = some (decide (a < b)) := nr rfl
@[simp] theorem cmp_le {a b : Int} {s : DS} : cmpB .LtE (.int a) (.int b) s = some (decide (a ≤ b)) := nr rfl
@[simp] theorem cmp_gt {a b : Int} {s : DS} : cmpB .Gt (.int a) (.int b) s = some (decide (b < a)) := nr rfl
@[simp] theorem cmp_ge {a b : Int} {s : DS} : cmpB .GtE (.int a) (.int b) s = some (decide (b ≤ a)) := nr rfl
@[simp] theorem cmp_in {a b : D} {s : DS} : cmpB .In a b s = inO a b s := nr rfl
@[simp] theorem cmp_nin {a b : D} {s : DS} : cmpB .NotIn a b s = (inO a b s).map not := nr rfl
@[simp] theorem cmp_is {a b : D} {s : DS} : cmpB .Is a b s = isO a b := nr rfl
@[simp] theorem cmp_isn {a b : D} {s : DS} : cmpB .IsNot a b s = (isO a b).map not := nr rfl
@[simp] theorem is_non {a : D} : isO a .non = some (isNonD a) := by cases a <;> rfl
@[simp] theorem is_bl {a b : Bool} : isO (.bl a) (.bl b) = some (decide (a = b)) := nr rfl
@[simp] theorem isn_non : isNonD .non = true := nr rfl
@[simp] theorem isn_bl {b : Bool} : isNonD (.bl b) = false := nr rfl
@[simp] theorem isn_int {i : Int} : isNonD (.int i) = false := nr rfl
@[simp] theorem isn_str {x : Str} : isNonD (.str x) = false := nr rfl
@[simp] theorem isn_tup {xs : List D} : isNonD (.tup xs) = false := nr rfl
@[simp] theorem isn_ktup {xs : List D} : isNonD (.ktup xs) = false := nr rfl
@[simp] theorem isn_lst {xs : List D} : isNonD (.lst xs) = false := nr rfl
@[simp] theorem isn_ref {n : Nat} : isNonD (.ref n) = false := nr rfl
@[simp] theorem eq_int {a b : Int} {s : DS} : eqO (.int a) (.int b) s = some (decide (a = b)) := nr rfl
@[simp] theorem eq_str {a b : Str} {s : DS} : eqO (.str a) (.str b) s = some (decide (a = b)) := nr rfl
@[simp] theorem eq_bl {a b : Bool} {s : DS} : eqO (.bl a) (.bl b) s = some (decide (a = b)) := nr rfl
@[simp] theorem add_int {i j : Int} {s : DS} : isBin .Add (.int i) (.int j) s = some (.int (i + j), s) := nr rfl
@[simp] theorem sub_int {i j : Int} {s : DS} : isBin .Sub (.int i) (.int j) s = some (.int (i - j), s) := nr rfl
@[simp] theorem mul_int {i j : Int} {s : DS} : isBin .Mult (.int i) (.int j) s = if mulOk i j = true then some (.int (i * j), s) else none := nr rfl
@[simp] theorem mod_int {i j : Int} {s : DS} : isBin .Mod (.int i) (.int j) s = if j ≠ 0 then some (.int (i.fmod j), s) else none := nr rfl
@[simp] theorem fdiv_int {i j : Int} {s : DS} : isBin .FloorDiv (.int i) (.int j) s = if j ≠ 0 ∧ j.natAbs.log2 < 9000 then some (.int (i.fdiv j), s) else none := nr rfl
@[simp] theorem tru_non {s : DS} : truD .non s = some false := nr rfl
@[simp] theorem tru_bl {b : Bool} {s : DS} : truD (.bl b) s = some b := nr rfl
@[simp] theorem tru_int {i : Int} {s : DS} : truD (.int i) s = some (i != 0) := nr rfl
@[simp] theorem aug_add {i j : Int} : augO .Add (.int i) (.int j) = some (.int (i + j)) := nr rfl
@[simp] theorem aug_sub {i j : Int} : augO .Sub (.int i) (.int j) = some (.int (i - j)) := nr rfl
@[simp] theorem items_tup {xs : List D} {s : DS} : itemsOf (.tup xs) s = some ⟨xs, []⟩ := nr rfl
@[simp] theorem items_ktup {xs : List D} {s : DS} : itemsOf (.ktup xs) s = some ⟨xs, []⟩ := nr rfl
@[simp] theorem items_lst {xs : List D} {s : DS} : itemsOf (.lst xs) s = some ⟨xs, []⟩ := nr rfl
@[simp] theorem items_str {x : Str} {s : DS} : itemsOf (.str x) s = some ⟨x.cps.toList.map fun c => .str ⟨#[c]⟩, []⟩ := nr rfl
@[simp] theorem items_scr {xs : List Int} {s : DS} : itemsOf (.scr xs) s = some ⟨xs.map .int, []⟩ := nr rfl
theorem items_ref {n : Nat} {xs : List D} {s : DS} (h : s[n]? = some (.lst xs)) : itemsOf (.ref n) s = some ⟨xs, [(n, xs)]⟩ := by simp [itemsOf, h]
@[simp] theorem seq_tup {xs : List D} {s : DS} : seqOf (.tup xs) s = some xs := nr rfl
@[simp] theorem seq_ktup {xs : List D} {s : DS} : seqOf (.ktup xs) s = some xs := nr rfl
@[simp] theorem seq_lst {xs : List D} {s : DS} : seqOf (.lst xs) s = some xs := nr rfl
@[simp] theorem lst_lst {xs : List D} {s : DS} : lstOf (.lst xs) s = some xs := nr rfl
theorem seq_ref {n : Nat} {xs : List D} {s : DS} (h : s[n]? = some (.lst xs)) : seqOf (.ref n) s = some xs := by simp [seqOf, lstOf, h]
theorem lst_ref {n : Nat} {xs : List D} {s : DS} (h : s[n]? = some (.lst xs)) : lstOf (.ref n) s = some xs := by simp [lstOf, h]
@[simp] theorem ins_obj {c : Str} {ns : List Str} {vs : List D} {s : DS} : insOf (.obj c ns vs) s = some (c, ns, vs) := nr rfl
theorem rng1 {j : Int} : itRng1 [.int j] = if -(2 ^ 62) ≤ j ∧ j < 2 ^ 62 then some ⟨rngL 0 j.toNat, []⟩ else none := rfl
@[simp] theorem okL_nil' {s : DS} : okL [] s = True := eq_true okL_nil
@[simp] theorem lookN_cons {n f : Str} {ns : List Str} {d : D} {ds : List D} : lookN (n :: ns) (d :: ds) f = if f = n then some d else lookN ns ds f := nr rfl
@[simp] theorem int_int {i : Int} {s : DS} : opInt [.int i] s = some (.int i, s) := nr rfl
@[simp] theorem pick0 {α : Type} {xs : List α} : pickL [] xs = some [] := nr rfl
@[simp] theorem pick1 {α : Type} {i : Nat} {r : List Nat} {xs : List α} : pickL (i :: r) xs = (xs[i]?).bind fun x => (pickL r xs).map (x :: ·) := nr rfl
end Pv

set_option Elab.async false
set_option linter.all false
set_option maxRecDepth 100000
/-! Ev25: loops, comprehensions, the box, what stands alike. -/
namespace Pv
open PySem PySem.Spec PyProof.Rows L2
/-! ### loops -/
theorem forL_ok {lv : List (Nat × List D)} {g : TV} {body : SV} (I : List D → Env' → DS → Prop) (hl : ∀ l env s, I l env s → okL lv s)
    (hs : ∀ d r env s, I (d :: r) env s → ∃ env1 s1, g d env s = some (env1, s1) ∧ ∃ env2 s2, (body env1 s1 = .nx env2 s2 ∨ body env1 s1 = .ct env2 s2) ∧ I r env2 s2) :
    ∀ l env s, I l env s → ∃ env' s', forL lv g body l env s = .nx env' s' ∧ I [] env' s'
  | [], env, s, h => ⟨env, s, by unfold forL; rw [if_pos (hl _ _ _ h)], h⟩
  | d :: r, env, s, h => by
    obtain ⟨env1, s1, e1, env2, s2, e2, h2⟩ := hs d r env s h
    obtain ⟨env', s', e3, h3⟩ := forL_ok I hl hs r env2 s2 h2
    refine ⟨env', s', ?_, h3⟩
    unfold forL
    rw [if_pos (hl _ _ _ h), e1]
    dsimp only
    rcases e2 with e2 | e2 <;> rw [e2] <;> exact e3
theorem rngL_succ {lo : Int} {n : Nat} : rngL lo (n + 1) = .int lo :: rngL (lo + 1) n := by
  unfold rngL
  rw [List.range_succ_eq_map, List.map_cons, List.map_map]
  congr 1
  · simp
  · refine List.map_congr_left fun i _ => ?_
    show D.int _ = D.int _
    congr 1
    show lo + ((i + 1 : Nat) : Int) = lo + 1 + i
    omega
theorem rngL_0 {lo : Int} : rngL lo 0 = [] := rfl
theorem rngL_len {lo : Int} {n : Nat} : (rngL lo n).length = n := by simp [rngL]
theorem mem_rngL {lo : Int} {n : Nat} {d : D} (h : d ∈ rngL lo n) : ∃ i : Nat, i < n ∧ d = .int (lo + i) := by
  obtain ⟨i, hi, e⟩ := List.mem_map.mp h
  exact ⟨i, List.mem_range.mp hi, e.symm⟩
theorem forL_rng {lv : List (Nat × List D)} {g : TV} {body : SV} {n : Nat} (I : Nat → Env' → DS → Prop) (hl : ∀ k env s, I k env s → okL lv s)
    (hs : ∀ (k : Nat) env s, k < n → I k env s → ∃ env1 s1, g (.int k) env s = some (env1, s1) ∧ ∃ env2 s2, (body env1 s1 = .nx env2 s2 ∨ body env1 s1 = .ct env2 s2) ∧ I (k + 1) env2 s2) {env : Env'} {s : DS} (h : I 0 env s) :
    ∃ env' s', forL lv g body (rngL 0 n) env s = .nx env' s' ∧ I n env' s' := by
  have key := forL_ok (lv := lv) (g := g) (body := body) (fun l env s => ∃ k, k ≤ n ∧ l = rngL (k : Nat) (n - k) ∧ I k env s) (fun l env s ⟨k, _, _, h⟩ => hl k env s h) (fun d r env s ⟨k, hk, e, h⟩ => by
    have hkn : k < n := by
      rcases Nat.lt_or_ge k n with z | z
      · exact z
      · rw [Nat.sub_eq_zero_of_le z] at e; cases e
    obtain ⟨m, hm⟩ : ∃ m, n - k = m + 1 := ⟨n - k - 1, by omega⟩
    rw [hm, rngL_succ] at e
    obtain ⟨rfl, rfl⟩ := List.cons.inj e
    obtain ⟨env1, s1, e1, env2, s2, e2, h2⟩ := hs k env s hkn h
    exact ⟨env1, s1, e1, env2, s2, e2, k + 1, hkn, by rw [show n - (k + 1) = m by omega]; rfl, h2⟩) (rngL 0 n) env s ⟨0, Nat.zero_le _, rfl, h⟩
  obtain ⟨env', s', e, k, hk, e2, h2⟩ := key
  refine ⟨env', s', e, ?_⟩
  have : n - k = 0 := by
    have := congrArg List.length e2
    rw [rngL_len] at this
    exact this.symm
  rw [show n = k by omega]
  exact h2
theorem whD_ok {t : EV Bool} {body : SV} (I : Nat → Env' → DS → Prop) (Z : Env' → DS → Prop)
    (hs : ∀ m env s, I m env s → (∃ s1, t env s = .ok false s1 ∧ Z env s1) ∨ ∃ s1, t env s = .ok true s1 ∧ ∃ env2 s2, (body env s1 = .nx env2 s2 ∨ body env s1 = .ct env2 s2) ∧ ∃ m', m' < m ∧ I m' env2 s2) :
    ∀ (n m : Nat) env s, I m env s → m < n → ∃ env' s', whD t body n env s = .nx env' s' ∧ Z env' s'
  | 0, m, _, _, _, h => absurd h (Nat.not_lt_zero _)
  | n + 1, m, env, s, hi, h => by
    rcases hs m env s hi with ⟨s1, e, z⟩ | ⟨s1, e, env2, s2, e2, m', hm, h2⟩
    · refine ⟨env, s1, ?_, z⟩
      unfold whD
      rw [e]
      rfl
    · obtain ⟨env', s', e3, z⟩ := whD_ok I Z hs n m' env2 s2 h2 (by omega)
      refine ⟨env', s', ?_, z⟩
      unfold whD
      rw [e]
      dsimp only [R.toS]
      rw [if_pos rfl]
      rcases e2 with e2 | e2 <;> rw [e2] <;> exact e3
/-! ### comprehensions -/
theorem lcL_map {lv : List (Nat × List D)} {g : TV} {t : EV Bool} {e : EV D} {env : Env'} {s : DS} {φ : D → D} (hl : okL lv s) : ∀ {l : List D}, (∀ d ∈ l, ∃ env1, g d env s = some (env1, s) ∧ t env1 s = .ok true s ∧ e env1 s = .ok (φ d) s) → lcL lv g t e env l s = .ok (l.map φ) s
  | [], _ => by unfold lcL; rw [if_pos hl]; rfl
  | d :: l, h => by
    obtain ⟨env1, h1, h2, h3⟩ := h d (List.mem_cons_self ..)
    have ih := lcL_map hl (l := l) fun x hx => h x (List.mem_cons_of_mem _ hx)
    unfold lcL
    rw [if_pos hl, h1]
    dsimp only
    rw [h2]
    dsimp only
    rw [if_pos rfl, h3]
    dsimp only
    rw [ih]
    rfl
theorem lcL_filter {lv : List (Nat × List D)} {g : TV} {t : EV Bool} {e : EV D} {env : Env'} {s : DS} {φ : D → D} {p : D → Bool} (hl : okL lv s) : ∀ {l : List D}, (∀ d ∈ l, ∃ env1, g d env s = some (env1, s) ∧ t env1 s = .ok (p d) s ∧ (p d = true → e env1 s = .ok (φ d) s)) → lcL lv g t e env l s = .ok ((l.filter p).map φ) s
  | [], _ => by unfold lcL; rw [if_pos hl]; rfl
  | d :: l, h => by
    obtain ⟨env1, h1, h2, h3⟩ := h d (List.mem_cons_self ..)
    have ih := lcL_filter hl (l := l) fun x hx => h x (List.mem_cons_of_mem _ hx)
    unfold lcL
    rw [if_pos hl, h1]
    dsimp only
    rw [h2]
    dsimp only
    cases hp : p d with
    | true =>
      rw [if_pos rfl, h3 hp]
      dsimp only
      rw [ih, List.filter_cons_of_pos hp]
      rfl
    | false =>
      rw [if_neg (by simp), ih, List.filter_cons_of_neg (by simp [hp])]
/-- none is taken -/
theorem lcL_none {lv : List (Nat × List D)} {g : TV} {t : EV Bool} {e : EV D} {env : Env'} {s : DS} {l : List D} (hl : okL lv s) (h : ∀ d ∈ l, ∃ env1, g d env s = some (env1, s) ∧ t env1 s = .ok false s) : lcL lv g t e env l s = .ok [] s := by
  have := lcL_filter (e := e) (φ := id) (p := fun _ => false) hl (l := l) fun d hd => by
    obtain ⟨env1, h1, h2⟩ := h d hd
    exact ⟨env1, h1, h2, fun z => by cases z⟩
  rw [List.filter_eq_nil_iff.mpr (by simp)] at this
  exact this
/-- the heap grows -/
theorem lcL_ext {lv : List (Nat × List D)} {g : TV} {t : EV Bool} {e : EV D} {env : Env'} {φ : D → D} {s0 : DS} (hl : ∀ u, okL lv (s0 ++ u)) : ∀ {l : List D} (u0 : DS), (∀ d ∈ l, ∀ u, ∃ env1, g d env (s0 ++ u) = some (env1, s0 ++ u) ∧ t env1 (s0 ++ u) = .ok true (s0 ++ u) ∧ ∃ u', e env1 (s0 ++ u) = .ok (φ d) (s0 ++ u')) → ∃ u', lcL lv g t e env l (s0 ++ u0) = .ok (l.map φ) (s0 ++ u')
  | [], u0, _ => by unfold lcL; rw [if_pos (hl u0)]; exact ⟨u0, rfl⟩
  | d :: l, u0, h => by
    obtain ⟨env1, h1, h2, u1, h3⟩ := h d (List.mem_cons_self ..) u0
    obtain ⟨u2, ih⟩ := lcL_ext hl (l := l) u1 fun x hx => h x (List.mem_cons_of_mem _ hx)
    refine ⟨u2, ?_⟩
    unfold lcL
    rw [if_pos (hl u0), h1]
    dsimp only
    rw [h2]
    dsimp only
    rw [if_pos rfl, h3]
    dsimp only
    rw [ih]
    rfl
/-- with a changing heap -/
theorem lcL_inv {lv : List (Nat × List D)} {g : TV} {t : EV Bool} {e : EV D} {env : Env'} (I : Nat → DS → Prop) (P : D → Prop) (hl : ∀ m s, I m s → okL lv s) (hs : ∀ m s d, I m s → ∃ env1, g d env s = some (env1, s) ∧ t env1 s = .ok true s ∧ ∃ y s', e env1 s = .ok y s' ∧ P y ∧ I (m + 1) s') :
    ∀ (l : List D) m s, I m s → ∃ ys s', lcL lv g t e env l s = .ok ys s' ∧ ys.length = l.length ∧ (∀ y ∈ ys, P y) ∧ I (m + l.length) s'
  | [], m, s, h => by unfold lcL; rw [if_pos (hl m s h)]; exact ⟨[], s, rfl, rfl, fun y hy => absurd hy (List.not_mem_nil), h⟩
  | d :: l, m, s, h => by
    obtain ⟨env1, h1, h2, y, s', h3, h4, h5⟩ := hs m s d h
    obtain ⟨ys, s2, e1, e2, e3, e4⟩ := lcL_inv I P hl hs l (m + 1) s' h5
    refine ⟨y :: ys, s2, ?_, by simp [e2], fun z hz => ?_, by rw [show m + (d :: l).length = m + 1 + l.length by simp; omega]; exact e4⟩
    · unfold lcL
      rw [if_pos (hl m s h), h1]
      dsimp only
      rw [h2]
      dsimp only
      rw [if_pos rfl, h3]
      dsimp only
      rw [e1]
    · rcases List.mem_cons.mp hz with rfl | hz
      · exact h4
      · exact e3 z hz
/-! ### the heap -/
/-- all but b is as it was -/
def Fr (b : Nat) (s s' : DS) : Prop := s.length ≤ s'.length ∧ ∀ i, i < s.length → i ≠ b → s'[i]? = s[i]?
theorem Fr.refl {b : Nat} {s : DS} : Fr b s s := ⟨Nat.le_refl _, fun _ _ _ => rfl⟩
theorem Fr.trans {b : Nat} {s s1 s2 : DS} (h : Fr b s s1) (k : Fr b s1 s2) : Fr b s s2 := ⟨Nat.le_trans h.1 k.1, fun i hi hb => (k.2 i (Nat.lt_of_lt_of_le hi h.1) hb).trans (h.2 i hi hb)⟩
theorem Fr.app {b : Nat} {s t : DS} : Fr b s (s ++ t) := ⟨by simp, fun i hi _ => List.getElem?_append_left hi⟩
theorem Fr.set {b : Nat} {s : DS} {o : DO} : Fr b s (s.set b o) := ⟨by simp, fun i _ h => by simp [List.getElem?_set, Ne.symm h]⟩
/-- a new cell is set -/
theorem Fr.setNew {b n : Nat} {s s' : DS} {o : DO} (h : Fr b s s') (hn : s.length ≤ n) : Fr b s (s'.set n o) := ⟨by simp [h.1], fun i hi hb => by rw [List.getElem?_set_ne (by omega)]; exact h.2 i hi hb⟩
theorem Fr.get {b n : Nat} {s s' : DS} {o : DO} (h : Fr b s s') (e : s[n]? = some o) (hn : n ≠ b) : s'[n]? = some o := by
  rw [h.2 n (List.getElem?_eq_some_iff.mp e).1 hn]; exact e
theorem get_app {n : Nat} {s t : DS} {o : DO} (e : s[n]? = some o) : (s ++ t)[n]? = some o := by
  rw [List.getElem?_append_left (List.getElem?_eq_some_iff.mp e).1]; exact e
theorem lt_of_get {n : Nat} {s : DS} {o : DO} (e : s[n]? = some o) : n < s.length := (List.getElem?_eq_some_iff.mp e).1
/-- the box: a list of four that changes -/
def Bx (b m : Nat) (s : DS) : Prop := ∃ (i : Int) (c : Bool) (j k : Int), s[b]? = some (.lst [.int i, .bl c, .int j, .int k]) ∧ 0 ≤ j ∧ j < 2147483629 ∧ 0 ≤ k ∧ k ≤ m
theorem Bx.lt {b m : Nat} {s : DS} (h : Bx b m s) : b < s.length := by
  obtain ⟨i, c, j, k, e, _⟩ := h
  exact lt_of_get e
theorem Bx.app {b m : Nat} {s t : DS} (h : Bx b m s) : Bx b m (s ++ t) := by
  obtain ⟨i, c, j, k, e, h⟩ := h
  exact ⟨i, c, j, k, get_app e, h⟩
theorem Bx.set {b m n : Nat} {s : DS} {o : DO} (h : Bx b m s) (hn : n ≠ b) : Bx b m (s.set n o) := by
  obtain ⟨i, c, j, k, e, h⟩ := h
  exact ⟨i, c, j, k, by rw [List.getElem?_set_ne hn]; exact e, h⟩
theorem Bx.mono {b m m' : Nat} {s : DS} (h : Bx b m s) (hm : m ≤ m') : Bx b m' s := by
  obtain ⟨i, c, j, k, e, h1, h2, h3, h4⟩ := h
  exact ⟨i, c, j, k, e, h1, h2, h3, by omega⟩
theorem atI_nn {α : Type} {xs : List α} {d : Int} (h0 : 0 ≤ d) (h1 : d < xs.length) : ∃ x, atI xs d = some x ∧ x ∈ xs := by
  have hn : d.toNat < xs.length := by omega
  refine ⟨xs[d.toNat], ?_, List.getElem_mem hn⟩
  unfold atI ixN
  rw [if_pos h0, if_pos h1]
  show xs[d.toNat]? = _
  exact List.getElem?_eq_getElem hn
theorem atI_nat {α : Type} {xs : List α} {k : Nat} (h : k < xs.length) : atI xs (k : Int) = some xs[k] := by
  unfold atI ixN
  rw [if_pos (by omega), if_pos (by omega)]
  show xs[k]? = _
  exact List.getElem?_eq_getElem h
/-! ### isinstance -/
section
variable {kt : Kit} {d : D} {s : DS}
@[simp] theorem isi_ty {T : String} : opIsi kt [d, .ty T] s = (tyO d s).bind fun t => (kt t (.inl T)).map fun r => (.bl r, s) := nr rfl
@[simp] theorem isi_cls {C : Str} : opIsi kt [d, .cls C] s = (tyO d s).bind fun t => (kt t (.inr C)).map fun r => (.bl r, s) := nr rfl
@[simp] theorem isi_two {A B : String} : opIsi kt [d, .tup [.ty A, .ty B]] s = (tyO d s).bind fun t => ((kt t (.inl A)).bind fun b => ((kt t (.inl B)).bind fun b' => (some false).map fun z => b' || z).map fun z => b || z).map fun r => (.bl r, s) := nr rfl
@[simp] theorem ty_non : tyO .non s = some (.inl "NoneType") := nr rfl
@[simp] theorem ty_bl {b : Bool} : tyO (.bl b) s = some (.inl "bool") := nr rfl
@[simp] theorem ty_int {i : Int} : tyO (.int i) s = some (.inl "int") := nr rfl
@[simp] theorem ty_str {x : Str} : tyO (.str x) s = some (.inl "str") := nr rfl
@[simp] theorem ty_tup {xs : List D} : tyO (.tup xs) s = some (.inl "tuple") := nr rfl
@[simp] theorem ty_ktup {xs : List D} : tyO (.ktup xs) s = some (.inl "tuple") := nr rfl
@[simp] theorem ty_lst {xs : List D} : tyO (.lst xs) s = some (.inl "list") := nr rfl
@[simp] theorem ty_scr {xs : List Int} : tyO (.scr xs) s = some (.inl "list") := nr rfl
@[simp] theorem ty_obj {c : Str} {ns : List Str} {vs : List D} : tyO (.obj c ns vs) s = some (.inr c) := nr rfl
end
/-! ### what stands alike -/
mutual
inductive Sm (s : DS) : Nat → D → D → Prop
  | non {k : Nat} : Sm s k .non .non
  | bl {k : Nat} (b : Bool) : Sm s k (.bl b) (.bl b)
  | int {k : Nat} (i : Int) : Sm s k (.int i) (.int i)
  | str {k : Nat} {x : Str} : x.length ≤ 1000 → Sm s k (.str x) (.str x)
  | tup {k : Nat} {a b : D} {xs ys : List D} : tupOf a = some xs → tupOf b = some ys → SmL s k xs ys → xs.length ≤ 100000 → Sm s (k + 1) a b
  | lst {k : Nat} {a b : D} {xs ys : List D} : lstOf a s = some xs → lstOf b s = some ys → SmL s k xs ys → xs.length ≤ 100000 → Sm s (k + 1) a b
  | dct {k : Nat} {n : Nat} {ks : List Key} {vs : List Int} : s[n]? = some (.dct ks (vs.map .int)) → ks.length = vs.length → ks.length ≤ 1000 → Sm s (k + 1) (.ref n) (.ref n)
inductive SmL (s : DS) : Nat → List D → List D → Prop
  | nil {k : Nat} : SmL s k [] []
  | cons {k : Nat} {a b : D} {xs ys : List D} : Sm s k a b → SmL s k xs ys → SmL s k (a :: xs) (b :: ys)
end
theorem SmL.len {s : DS} {k : Nat} : ∀ {xs ys : List D}, SmL s k xs ys → xs.length = ys.length
  | _, _, .nil => rfl
  | _, _, .cons _ t => by simp [t.len]
theorem SmL.get {s : DS} {k : Nat} : ∀ {xs ys : List D} (i : Nat) (h1 : i < xs.length) (h2 : i < ys.length), SmL s k xs ys → Sm s k xs[i] ys[i]
  | _, _, _, h1, _, .nil => absurd h1 (Nat.not_lt_zero _)
  | _, _, 0, _, _, .cons h _ => h
  | _, _, i + 1, h1, h2, .cons _ t => t.get i (by simpa using h1) (by simpa using h2)
mutual
theorem Sm.mono {s : DS} : ∀ {k k' : Nat} {a b : D}, k ≤ k' → Sm s k a b → Sm s k' a b
  | _, _, _, _, _, .non => .non
  | _, _, _, _, _, .bl b => .bl b
  | _, _, _, _, _, .int i => .int i
  | _, _, _, _, _, .str h => .str h
  | _ + 1, k' + 1, _, _, h, .tup h1 h2 h3 h4 => .tup h1 h2 (h3.mono (Nat.le_of_succ_le_succ h)) h4
  | _ + 1, k' + 1, _, _, h, .lst h1 h2 h3 h4 => .lst h1 h2 (h3.mono (Nat.le_of_succ_le_succ h)) h4
  | _ + 1, k' + 1, _, _, _, .dct h1 h2 h3 => .dct h1 h2 h3
theorem SmL.mono {s : DS} : ∀ {k k' : Nat} {a b : List D}, k ≤ k' → SmL s k a b → SmL s k' a b
  | _, _, _, _, _, .nil => .nil
  | _, _, _, _, h, .cons h1 h2 => .cons (h1.mono h) (h2.mono h)
end
end Pv

set_option Elab.async false
set_option linter.all false
set_option maxRecDepth 100000
/-! Ev26: plain operations, more of them. -/
namespace Pv
open PySem PySem.Spec PyProof.Rows L2
theorem le_size {n : Nat} (h : n ≤ 1000000) : n ≤ sizeLine := by
  unfold sizeLine
  omega
theorem rng_n {n : Nat} (h : n ≤ 1000000) : itRng1 [.int (n : Int)] = some ⟨rngL 0 n, []⟩ := by
  rw [rng1, if_pos (by omega)]
  rfl
theorem rng_i {j : Int} (h : j ≤ 1000000) (h0 : -1000000 ≤ j) : itRng1 [.int j] = some ⟨rngL 0 j.toNat, []⟩ := by
  rw [rng1, if_pos (by omega)]
section
variable {s : DS} {xs ys : List D} {n : Nat} {m : Bool}
theorem erase_map {α β : Type} (f : α → β) : ∀ (l : List α) (i : Nat), (l.map f).eraseIdx i = (l.eraseIdx i).map f
  | [], _ => rfl
  | _ :: _, 0 => rfl
  | a :: l, i + 1 => by simp [erase_map f l i]
theorem erase_perm {α : Type} : ∀ (l : List α) (i : Nat) (h : i < l.length), (l[i] :: l.eraseIdx i).Perm l
  | [], _, h => absurd h (Nat.not_lt_zero _)
  | _ :: _, 0, _ => List.Perm.refl _
  | a :: l, i + 1, h => (List.Perm.swap a _ _).trans (List.Perm.cons a (erase_perm l i (by simpa using h)))
theorem look_mem : ∀ {ks : List Key} {vs : List D} {k : Key}, k ∈ ks → ks.length = vs.length → ∃ v ∈ vs, lookK ks vs k = some v
  | [], _, _, h, _ => nomatch h
  | j :: ks, [], _, _, e => by cases e
  | j :: ks, v :: vs, k, h, e => by
    by_cases q : j = k
    · exact ⟨v, List.mem_cons_self, by simp [lookK, q]⟩
    · rcases List.mem_cons.mp h with z | z
      · exact absurd z.symm q
      · obtain ⟨w, h1, h2⟩ := look_mem z (Nat.succ.inj e)
        exact ⟨w, List.mem_cons_of_mem _ h1, by simp [lookK, q, h2]⟩
theorem keyOf_keyD {k : Key} : keyOf (keyD k) = some k := by cases k <;> rfl
theorem flat_keyD {k : Key} : flatD (keyD k) = true := by cases k <;> rfl
theorem dctOf_d {ks : List Key} {vs : List D} (h : s[n]? = some (.dct ks vs)) : dctOf (.ref n) s = some (ks, vs) := by simp [dctOf, h]
theorem dctOf_f {ks : List Key} {vs : List D} (h : s[n]? = some (.fdct ks vs)) : dctOf (.ref n) s = some (ks, vs) := by simp [dctOf, h]
theorem seqOf_d {ks : List Key} {vs : List D} (h : s[n]? = some (.dct ks vs)) : seqOf (.ref n) s = none := by simp [seqOf, lstOf, h]
theorem seqOf_f {ks : List Key} {vs : List D} (h : s[n]? = some (.fdct ks vs)) : seqOf (.ref n) s = none := by simp [seqOf, lstOf, h]
theorem in_dct {x d : D} {k : Key} {ks : List Key} {vs : List D} (h0 : seqOf d s = none) (h : dctOf d s = some (ks, vs)) (hk : keyOf x = some k) : inO x d s = some (lookK ks vs k).isSome := by simp [inO, h0, h, hk]
theorem ix_key {x : D} {k : Key} {ks : List Key} {vs : List D} (h0 : seqOf (.ref n) s = none) (h : dctOf (.ref n) s = some (ks, vs)) (hk : keyOf x = some k) : ixO (.ref n) x s = lookK ks vs k := by
  unfold ixO
  simp [h0, h, hk]
theorem ev_lock {i : Nat} {f : EV D} {env : Env'} {d : D} {t : DS} {ks : List Key} {vs : List D} (h1 : env[i]? = some (some (.ref n))) (h2 : s[n]? = some (.dct ks vs)) (h3 : f env (s.set n (.fdct ks vs)) = .ok d (s.set n (.fdct ks vs) ++ t)) : eLock i f env s = .ok d (s ++ t) := by
  have hn : n < s.length := lt_of_get h2
  have e1 : (s.set n (.fdct ks vs) ++ t)[n]? = some (.fdct ks vs) := by
    rw [List.getElem?_append_left (by simpa using hn), List.getElem?_set_self hn]
  have e2 : (s.set n (.fdct ks vs) ++ t).set n (.dct ks vs) = s ++ t := by
    rw [List.set_append_left _ _ (by simpa using hn), List.set_set]
    congr 1
    refine List.ext_getElem? fun m => ?_
    by_cases q : m = n
    · subst q; rw [List.getElem?_set_self hn, h2]
    · rw [List.getElem?_set_ne (Ne.symm q)]
  unfold eLock
  simp only [h1, h2, h3, e1, if_true, e2]
@[simp] theorem bls_map {β : Type} {l : List β} {p : β → Bool} : blsOf (l.map fun x => D.bl (p x)) = some (l.map p) := by
  induction l with
  | nil => rfl
  | cons a l ih => simp [blsOf, ih]
@[simp] theorem ints_map {l : List Int} : intsOf (l.map D.int) = some l := by
  induction l with
  | nil => rfl
  | cons a l ih => simp [intsOf, ih]
theorem op_all {β : Type} {l : List β} {p : β → Bool} : opAll [.lst (l.map fun x => D.bl (p x))] s = some (.bl (l.all p), s) := by
  show (some _).bind _ = _
  show (blsOf _).map _ = _
  rw [bls_map]
  show some (D.bl ((l.map p).all id), s) = _
  rw [List.all_map]
  rfl
theorem op_any {β : Type} {l : List β} {p : β → Bool} : opAny [.lst (l.map fun x => D.bl (p x))] s = some (.bl (l.any p), s) := by
  show (some _).bind _ = _
  show (blsOf _).map _ = _
  rw [bls_map]
  show some (D.bl ((l.map p).any id), s) = _
  rw [List.any_map]
  rfl
@[simp] theorem op_tup_tup : opTuple [.tup xs] s = some (.tup xs, s) := nr rfl
@[simp] theorem op_tup_ktup : opTuple [.ktup xs] s = some (.ktup xs, s) := nr rfl
@[simp] theorem op_tup_lst : opTuple [.lst xs] s = some (.tup xs, s) := nr rfl
theorem op_tup_ref (h : s[n]? = some (.lst xs)) : opTuple [.ref n] s = some (.tup xs, s) := by simp [opTuple, tupOf, lstOf, h]
@[simp] theorem op_lst_tup : opList m [.tup xs] s = some (newLst m xs s) := nr rfl
@[simp] theorem op_lst_ktup : opList m [.ktup xs] s = some (newLst m xs s) := nr rfl
@[simp] theorem op_lst_lst : opList m [.lst xs] s = some (newLst m xs s) := nr rfl
theorem op_lst_ref (h : s[n]? = some (.lst xs)) : opList m [.ref n] s = some (newLst m xs s) := by simp [opList, seqOf, lstOf, h]
@[simp] theorem new_t : newLst true xs s = (.ref s.length, s ++ [.lst xs]) := nr rfl
@[simp] theorem new_f : newLst false xs s = (.lst xs, s) := nr rfl
theorem app_ref {y : D} (h : s[n]? = some (.lst xs)) (hl : xs.length < sizeLine) : mtAppend (.ref n) [y] s = some (.non, s.set n (.lst (xs ++ [y]))) := by
  simp [mtAppend, refL, h, hl]
theorem pop_at {k : Int} (h : s[n]? = some (.lst xs)) (h0 : 0 ≤ k) (h1 : k < xs.length) (hl : xs.length < sizeLine) : ∃ y, mtPop (.ref n) [.int k] s = some (y, s.set n (.lst (xs.eraseIdx k.toNat))) ∧ y ∈ xs ∧ xs[k.toNat]? = some y := by
  have hk : k.toNat < xs.length := by omega
  have hs : xs.length < 2 ^ 24 := hl
  refine ⟨xs[k.toNat], ?_, List.getElem_mem hk, List.getElem?_eq_getElem hk⟩
  have e : seqIndex? k xs.length = some k.toNat := by
    unfold seqIndex?
    simp [h0, h1, Int.not_lt.mpr h0]
  have h3 : -(2 ^ 63) ≤ k ∧ k < 2 ^ 63 := by omega
  simp only [mtPop, refL, h, Option.bind_some, if_pos h3, e, List.getElem?_eq_getElem hk, Option.map_some]
theorem set_lst {k : Nat} {x : D} (h : s[n]? = some (.lst xs)) (hk : k < xs.length) : setO (.ref n) (.int (k : Nat)) x s = some (s.set n (.lst (xs.set k x))) := by
  have e : ixN xs.length (k : Int) = some k := by unfold ixN; rw [if_pos (by omega), if_pos (by omega)]; rfl
  simp only [setO, h, e, Option.map_some]
theorem set_at0 {a x : D} (h : s[n]? = some (.lst (a :: xs))) : setO (.ref n) (.int 0) x s = some (s.set n (.lst (x :: xs))) := set_lst (k := 0) h (by simp)
theorem set_at3 {a b c d x : D} (h : s[n]? = some (.lst (a :: b :: c :: d :: xs))) : setO (.ref n) (.int 3) x s = some (s.set n (.lst (a :: b :: c :: x :: xs))) := set_lst (k := 3) h (by simp)
@[simp] theorem rcv_tup : rcvT (.tup xs) s = some "tuple" := nr rfl
@[simp] theorem rcv_lst : rcvT (.lst xs) s = some "list" := nr rfl
@[simp] theorem rcv_str {x : Str} : rcvT (.str x) s = some "str" := nr rfl
theorem rcv_ref (h : s[n]? = some (.lst xs)) : rcvT (.ref n) s = some "list" := by simp [rcvT, h]
theorem rcv_dct {ks : List Key} {vs : List D} (h : s[n]? = some (.dct ks vs)) : rcvT (.ref n) s = some "dict" := by simp [rcvT, h]
@[simp] theorem mt_app : mtT "list" "append" = some mtAppend := nr (by rfl)
@[simp] theorem mt_pop : mtT "list" "pop" = some mtPop := nr (by rfl)
@[simp] theorem mt_tix : mtT "tuple" "index" = some mtTIndex := nr (by rfl)
@[simp] theorem add_lst {a b : List D} : isBin .Add (.lst a) (.lst b) s = if a.length + b.length ≤ sizeLine then some (.lst (a ++ b), s) else none := nr rfl
@[simp] theorem eq_nil : eqO (.lst []) (.lst []) s = some true := nr (by rfl)
theorem top_ref (h : s[n]? = some (.lst xs)) : topD (.ref n) s = .lst xs := by simp [topD, lstOf, h]
theorem top_lst : topD (.lst xs) s = .lst xs := by rfl
theorem eq_ref_nil (h : s[n]? = some (.lst [])) : eqO (.ref n) (.lst []) s = some true := by
  show deepEq _ _ s = _
  unfold deepEq
  rw [top_ref h]
  rfl
/-- data as it stands in lists, no list that changes within -/
theorem eq_ref_cons {x : D} {ps : List PyData} (h : s[n]? = some (.lst (x :: xs))) (hp : pdD.pdL (x :: xs) = some ps) (hsh : SeqAt.shaped (.list ps) = true) : eqO (.ref n) (.lst []) s = some false := by
  show deepEq _ _ s = _
  unfold deepEq
  rw [top_ref h, top_lst]
  have e : pdD (.lst (x :: xs)) = some (.list ps) := by
    show (pdD.pdL (x :: xs)).map _ = _
    rw [hp]; rfl
  simp only [e, Option.bind_some]
  show (if SeqAt.shaped (.list ps) = true ∧ SeqAt.shaped (.list []) = true then some (PyData.eqv (.list ps) (.list [])) else none) = _
  rw [if_pos ⟨hsh, by rfl⟩]
  have : ∃ p ps', ps = p :: ps' := by
    cases ps with
    | nil =>
      exfalso
      unfold pdD.pdL at hp
      obtain ⟨d, _, h2⟩ := Option.bind_eq_some_iff.mp hp
      obtain ⟨ds, _, h3⟩ := Option.map_eq_some_iff.mp h2
      cases h3
    | cons p ps' => exact ⟨p, ps', rfl⟩
  obtain ⟨p, ps', rfl⟩ := this
  simp [PyData.eqv, PyData.eqvAll]
theorem pdL_ints : ∀ l : List Int, pdD.pdL (l.map D.int) = some (l.map PyData.int)
  | [] => rfl
  | x :: l => by simp [pdD.pdL, pdD, pdL_ints l]
theorem eq_ref_ints {l : List Int} (h : s[n]? = some (.lst (l.map .int))) (hl : l ≠ []) : eqO (.ref n) (.lst []) s = some false := by
  cases l with
  | nil => exact absurd rfl hl
  | cons a l => exact eq_ref_cons (x := .int a) (xs := l.map .int) h (pdL_ints (a :: l)) (PySem.W.ke_shaped_ints (a :: l))
theorem cutS_one {z : Str} {k : Nat} (h : k < z.length) : cutS z (some (k : Int)) (some ((k : Int) + 1)) = ⟨#[z.cps.toList[k]'(by simpa [Str.length] using h)]⟩ := by
  have hl : z.cps.toList.length = z.length := by simp [Str.length]
  unfold cutS
  have e1 : ((k : Int) + 1) = ((k + 1 : Nat) : Int) := by omega
  rw [e1]
  simp only [HT.sIx_nat]
  rw [show min k z.length = k by omega, show min (k + 1) z.length - k = 1 by omega]
  have hk : k < z.cps.toList.length := by omega
  rw [List.drop_eq_getElem_cons hk]
  rfl
theorem ix_str {z : Str} {k : Nat} (h : k < z.length) (hz : z.length ≤ sizeLine) : ixO (.str z) (.int k) s = some (.str ⟨#[z.cps.toList[k]'(by simpa [Str.length] using h)]⟩) := by
  have hl : z.cps.toList.length = z.length := by simp [Str.length]
  show (if z.length ≤ sizeLine then _ else _) = _
  rw [if_pos hz, atI_nat (by omega)]
  rfl
end
end Pv

set_option Elab.async false
set_option linter.all false
set_option maxRecDepth 10000
/-! Ev27: values that do not change; wrong values. -/
namespace Pv
open PySem PySem.Spec PyProof.Rows L2
mutual
def nrm : D → D
  | .tup xs => .tup (nrmL xs)
  | .ktup xs => .tup (nrmL xs)
  | d => d
def nrmL : List D → List D
  | [] => []
  | x :: xs => nrm x :: nrmL xs
end
theorem nrmL_map : ∀ xs : List D, nrmL xs = xs.map nrm
  | [] => by simp [nrmL]
  | x :: xs => by simp [nrmL, nrmL_map xs]
/-- scalars, tuples of such -/
def imB : Nat → D → Bool
  | _, .non => true
  | _, .bl _ => true
  | _, .int _ => true
  | _, .str x => decide (x.length ≤ 1000)
  | k + 1, .tup xs => decide (xs.length ≤ 100000) && xs.all (imB k)
  | k + 1, .ktup xs => decide (xs.length ≤ 100000) && xs.all (imB k)
  | _, _ => false
inductive ImV : Nat → D → Prop
  | non {k : Nat} : ImV k .non
  | bl {k : Nat} (b : Bool) : ImV k (.bl b)
  | int {k : Nat} (i : Int) : ImV k (.int i)
  | str {k : Nat} {x : Str} : x.length ≤ 1000 → ImV k (.str x)
  | tup {k : Nat} {xs : List D} : xs.length ≤ 100000 → (∀ x ∈ xs, imB k x = true) → ImV (k + 1) (.tup xs)
  | ktup {k : Nat} {xs : List D} : xs.length ≤ 100000 → (∀ x ∈ xs, imB k x = true) → ImV (k + 1) (.ktup xs)
theorem imV : ∀ {k : Nat} {d : D}, imB k d = true → ImV k d
  | _, .non, _ => .non
  | _, .bl b, _ => .bl b
  | _, .int i, _ => .int i
  | _, .str x, h => .str (by simpa [imB] using h)
  | 0, .tup _, h => by simp [imB] at h
  | 0, .ktup _, h => by simp [imB] at h
  | k + 1, .tup xs, h => by
    simp only [imB, Bool.and_eq_true, decide_eq_true_eq, List.all_eq_true] at h
    exact .tup h.1 h.2
  | k + 1, .ktup xs, h => by
    simp only [imB, Bool.and_eq_true, decide_eq_true_eq, List.all_eq_true] at h
    exact .ktup h.1 h.2
  | k, .lst _, h => by cases k <;> simp [imB] at h
  | k, .scr _, h => by cases k <;> simp [imB] at h
  | k, .dct _ _, h => by cases k <;> simp [imB] at h
  | k, .obj _ _ _, h => by cases k <;> simp [imB] at h
  | k, .ref _, h => by cases k <;> simp [imB] at h
  | k, .ty _, h => by cases k <;> simp [imB] at h
  | k, .cls _, h => by cases k <;> simp [imB] at h
  | k, .fn _, h => by cases k <;> simp [imB] at h
theorem imB_tup {k : Nat} {xs : List D} (h1 : xs.length ≤ 100000) (h : ∀ x ∈ xs, imB k x = true) : imB (k + 1) (.tup xs) = true := by
  simp only [imB, Bool.and_eq_true, decide_eq_true_eq, List.all_eq_true]; exact ⟨h1, h⟩
theorem imB_ktup {k : Nat} {xs : List D} (h1 : xs.length ≤ 100000) (h : ∀ x ∈ xs, imB k x = true) : imB (k + 1) (.ktup xs) = true := by
  simp only [imB, Bool.and_eq_true, decide_eq_true_eq, List.all_eq_true]; exact ⟨h1, h⟩
@[simp] theorem imB_int {k : Nat} {i : Int} : imB k (.int i) = true := by cases k <;> rfl
@[simp] theorem imB_bl {k : Nat} {i : Bool} : imB k (.bl i) = true := by cases k <;> rfl
@[simp] theorem imB_non {k : Nat} : imB k .non = true := by cases k <;> rfl
@[simp] theorem imB_str {k : Nat} {x : Str} : imB k (.str x) = decide (x.length ≤ 1000) := by cases k <;> rfl
theorem tieD_im {k : Nat} {t : Str × Int × Int} (h : t.1.length ≤ 1000) : imB (k + 1) (tieD t) = true := imB_tup (by simp) (by simp [h])
mutual
theorem imB_mono : ∀ {k k' : Nat} {d : D}, k ≤ k' → imB k d = true → imB k' d = true := fun {k k' d} hk h => by
  induction k generalizing k' d with
  | zero =>
    cases imV h with
    | non => simp
    | bl => simp
    | int => simp
    | str q => simp [q]
  | succ k ih =>
    obtain ⟨k', rfl⟩ : ∃ j, k' = j + 1 := ⟨k' - 1, by omega⟩
    cases imV h with
    | non => simp
    | bl => simp
    | int => simp
    | str q => simp [q]
    | tup q r => exact imB_tup q fun x hx => ih (Nat.le_of_succ_le_succ hk) (r x hx)
    | ktup q r => exact imB_ktup q fun x hx => ih (Nat.le_of_succ_le_succ hk) (r x hx)
end
theorem SmL.of {s : DS} {k : Nat} : ∀ {xs ys : List D}, xs.length = ys.length → (∀ (i : Nat) (h : i < xs.length) (h' : i < ys.length), Sm s k xs[i] ys[i]) → SmL s k xs ys
  | [], [], _, _ => .nil
  | [], _ :: _, h, _ => by cases h
  | _ :: _, [], h, _ => by cases h
  | x :: xs, y :: ys, h, k => .cons (k 0 (by simp) (by simp)) (SmL.of (Nat.succ.inj h) fun i h1 h2 => k (i + 1) (by simpa using h1) (by simpa using h2))
theorem SmL.map {s : DS} {k : Nat} {β : Type} {f g : β → D} {l : List β} (h : ∀ x ∈ l, Sm s k (f x) (g x)) : SmL s k (l.map f) (l.map g) := by
  induction l with
  | nil => exact .nil
  | cons a l ih => exact .cons (h a List.mem_cons_self) (ih fun x hx => h x (List.mem_cons_of_mem _ hx))
theorem SmL.refl {s : DS} {k : Nat} {l : List D} (h : ∀ x ∈ l, Sm s k x x) : SmL s k l l := by
  have := SmL.map (f := id) (g := id) h
  simpa using this
theorem sm_im {s : DS} {k : Nat} {d : D} (h : imB k d = true) : Sm s k (nrm d) d ∧ Sm s k d d ∧ Sm s k (nrm d) (nrm d) := by
  induction k generalizing d with
  | zero =>
    cases imV h with
    | non => exact ⟨.non, .non, .non⟩
    | bl b => exact ⟨.bl b, .bl b, .bl b⟩
    | int b => exact ⟨.int b, .int b, .int b⟩
    | str q => exact ⟨.str q, .str q, .str q⟩
  | succ k ih =>
    cases imV h with
    | non => exact ⟨.non, .non, .non⟩
    | bl b => exact ⟨.bl b, .bl b, .bl b⟩
    | int b => exact ⟨.int b, .int b, .int b⟩
    | str q => exact ⟨.str q, .str q, .str q⟩
    | tup q r =>
      rename_i xs
      have e : nrm (.tup xs) = .tup (xs.map nrm) := by simp [nrm, nrmL_map]
      rw [e]
      refine ⟨.tup rfl rfl ?_ (by simpa using q), .tup rfl rfl (SmL.refl fun x hx => (ih (r x hx)).2.1) q, .tup rfl rfl (SmL.map fun x hx => (ih (r x hx)).2.2) (by simpa using q)⟩
      have := SmL.map (s := s) (k := k) (f := nrm) (g := id) fun x hx => (ih (r x hx)).1
      simpa using this
    | ktup q r =>
      rename_i xs
      have e : nrm (.ktup xs) = .tup (xs.map nrm) := by simp [nrm, nrmL_map]
      rw [e]
      refine ⟨.tup rfl rfl ?_ (by simpa using q), .tup rfl rfl (SmL.refl fun x hx => (ih (r x hx)).2.1) q, .tup rfl rfl (SmL.map fun x hx => (ih (r x hx)).2.2) (by simpa using q)⟩
      have := SmL.map (s := s) (k := k) (f := nrm) (g := id) fun x hx => (ih (r x hx)).1
      simpa using this
theorem im_nrm {k : Nat} {d : D} (h : imB k d = true) : imB k (nrm d) = true := by
  induction k generalizing d with
  | zero =>
    cases imV h with
    | non => exact h
    | bl b => exact h
    | int b => exact h
    | str q => exact h
  | succ k ih =>
    cases imV h with
    | non => exact h
    | bl b => exact h
    | int b => exact h
    | str q => exact h
    | tup q r =>
      rename_i xs
      have e : nrm (.tup xs) = .tup (xs.map nrm) := by simp [nrm, nrmL_map]
      rw [e]
      exact imB_tup (by simpa using q) fun x hx => by
        obtain ⟨y, hy, rfl⟩ := List.mem_map.mp hx
        exact ih (r y hy)
    | ktup q r =>
      rename_i xs
      have e : nrm (.ktup xs) = .tup (xs.map nrm) := by simp [nrm, nrmL_map]
      rw [e]
      exact imB_tup (by simpa using q) fun x hx => by
        obtain ⟨y, hy, rfl⟩ := List.mem_map.mp hx
        exact ih (r y hy)
/-- a wrong value: what does not change, a list of such, a dict of whole numbers -/
inductive Wr (s : DS) : D → Prop
  | im {d : D} : imB 4 d = true → Wr s d
  | lst {m : Nat} {xs : List D} : s[m]? = some (.lst xs) → (∀ x ∈ xs, imB 2 x = true) → xs.length ≤ 1000 → Wr s (.ref m)
  | dct {m : Nat} : s[m]? = some (.dct [] []) → Wr s (.ref m)
theorem Wr.get {s s' : DS} {d : D} (h : Wr s d) (hs : ∀ m o, d = .ref m → s[m]? = some o → s'[m]? = some o) : Wr s' d := by
  cases h with
  | im h => exact .im h
  | lst h1 h2 h3 => exact .lst (hs _ _ rfl h1) h2 h3
  | dct h1 => exact .dct (hs _ _ rfl h1)
theorem Wr.app {s t : DS} {d : D} (h : Wr s d) : Wr (s ++ t) d := h.get fun m o _ e => get_app e
/-- its type -/
theorem Wr.ty {s : DS} {d : D} (h : Wr s d) : ∃ T, tyO d s = some (.inl T) ∧ (T = "NoneType" ∨ T = "bool" ∨ T = "int" ∨ T = "str" ∨ T = "tuple" ∨ T = "list" ∨ T = "dict") := by
  cases h with
  | im h => cases imV h <;> exact ⟨_, rfl, by simp⟩
  | lst h1 h2 h3 => exact ⟨"list", by simp [tyO, h1], by simp⟩
  | dct h1 => exact ⟨"dict", by simp [tyO, h1], by simp⟩
end Pv

set_option Elab.async false
set_option linter.all false
set_option maxRecDepth 10000
/-! Ev28: comprehensions over what is known, tuples of either kind, webs. -/
namespace Pv
open PySem PySem.Spec PyProof.Rows L2
theorem lcL_mapf {lv : List (Nat × List D)} {g : TV} {t : EV Bool} {e : EV D} {env : Env'} {s : DS} {β : Type} {f φ : β → D} (hl : okL lv s) : ∀ {l : List β}, (∀ d ∈ l, ∃ env1, g (f d) env s = some (env1, s) ∧ t env1 s = .ok true s ∧ e env1 s = .ok (φ d) s) → lcL lv g t e env (l.map f) s = .ok (l.map φ) s
  | [], _ => by rw [List.map_nil]; unfold lcL; rw [if_pos hl]; rfl
  | d :: l, h => by
    obtain ⟨env1, h1, h2, h3⟩ := h d (List.mem_cons_self ..)
    have ih := lcL_mapf hl (l := l) fun x hx => h x (List.mem_cons_of_mem _ hx)
    rw [List.map_cons]
    unfold lcL
    rw [if_pos hl, h1]
    dsimp only
    rw [h2]
    dsimp only
    rw [if_pos rfl, h3]
    dsimp only
    rw [ih]
    rfl
theorem lcL_filterf {lv : List (Nat × List D)} {g : TV} {t : EV Bool} {e : EV D} {env : Env'} {s : DS} {β : Type} {f φ : β → D} {p : β → Bool} (hl : okL lv s) : ∀ {l : List β}, (∀ d ∈ l, ∃ env1, g (f d) env s = some (env1, s) ∧ t env1 s = .ok (p d) s ∧ (p d = true → e env1 s = .ok (φ d) s)) → lcL lv g t e env (l.map f) s = .ok ((l.filter p).map φ) s
  | [], _ => by rw [List.map_nil]; unfold lcL; rw [if_pos hl]; rfl
  | d :: l, h => by
    obtain ⟨env1, h1, h2, h3⟩ := h d (List.mem_cons_self ..)
    have ih := lcL_filterf hl (l := l) fun x hx => h x (List.mem_cons_of_mem _ hx)
    rw [List.map_cons]
    unfold lcL
    rw [if_pos hl, h1]
    dsimp only
    rw [h2]
    dsimp only
    cases hp : p d with
    | true =>
      rw [if_pos rfl, h3 hp]
      dsimp only
      rw [ih, List.filter_cons_of_pos hp]
      rfl
    | false =>
      rw [if_neg (by simp), ih, List.filter_cons_of_neg (by simp [hp])]
theorem dcL_mapf {lv : List (Nat × List D)} {g : TV} {t : EV Bool} {ek e : EV D} {env : Env'} {s : DS} {β : Type} {f φ : β → D} {κ : β → Key} (hl : okL lv s) : ∀ {l : List β}, (∀ d ∈ l, ∃ env1 y, g (f d) env s = some (env1, s) ∧ t env1 s = .ok true s ∧ ek env1 s = .ok y s ∧ Pv.keyOf y = some (κ d) ∧ e env1 s = .ok (φ d) s) → dcL lv g t ek e env (l.map f) s = .ok (l.map fun a => (κ a, φ a)) s
  | [], _ => by rw [List.map_nil]; unfold dcL; rw [if_pos hl]; rfl
  | d :: l, h => by
    obtain ⟨env1, y, h1, h2, h3, h4, h5⟩ := h d (List.mem_cons_self ..)
    have ih := dcL_mapf hl (l := l) fun x hx => h x (List.mem_cons_of_mem _ hx)
    rw [List.map_cons]
    unfold dcL
    rw [if_pos hl, h1]
    dsimp only
    rw [h2]
    dsimp only
    rw [if_pos rfl, h3]
    dsimp only
    rw [h5]
    dsimp only
    rw [h4]
    dsimp only
    rw [ih]
    rfl
theorem rngL_map {n : Nat} : rngL 0 n = (List.range n).map fun (i : Nat) => D.int i := by
  unfold rngL
  refine List.map_congr_left fun i _ => ?_
  rw [Int.zero_add]
/-- a tuple, new or written -/
structure TupA (d : D) (xs : List D) (s : DS) : Prop where
  sq : seqOf d s = some xs
  len : opLen [d] s = some (.int xs.length, s)
  ty : tyO d s = some (.inl "tuple")
  items : itemsOf d s = some ⟨xs, []⟩
  ix : ∀ i, ixO d (.int i) s = atI xs i
  tru : truD d s = some (!xs.isEmpty)
  non : isNonD d = false
  tup : opTuple [d] s = some (d, s)
  lst : ∀ m, opList m [d] s = some (newLst m xs s)
  rcv : d = .tup xs ∨ d = .ktup xs
theorem tupA {d : D} {xs : List D} (h : tupOf d = some xs) (s : DS) : TupA d xs s := by
  unfold tupOf at h
  split at h
  · cases h; exact ⟨rfl, rfl, rfl, rfl, fun _ => rfl, rfl, rfl, rfl, fun _ => rfl, .inl rfl⟩
  · cases h; exact ⟨rfl, rfl, rfl, rfl, fun _ => rfl, rfl, rfl, rfl, fun _ => rfl, .inr rfl⟩
  · cases h
theorem distinct_mem {x : Int} : ∀ {ns : List Int}, x ∈ distinct ns → x ∈ ns
  | [], h => nomatch h
  | y :: r, h => by
    unfold distinct at h
    split at h
    · exact List.mem_cons_of_mem _ (distinct_mem h)
    · rcases List.mem_cons.mp h with e | e
      · rw [e]; exact List.mem_cons_self
      · exact List.mem_cons_of_mem _ (distinct_mem e)
theorem distinct_nodup : ∀ {ns : List Int}, ns.Nodup → distinct ns = ns
  | [], _ => rfl
  | y :: r, h => by
    rw [List.nodup_cons] at h
    unfold distinct
    rw [if_neg h.1, distinct_nodup h.2]
abbrev Tie := Str × Int × Int
/-- a name -/
def nmB (x : Str) : Bool := decide (1 ≤ x.length) && decide (x.length ≤ 12) && x.cps.toList.all fun c => decide (c ∈ ("abcdefghijklmnopqrstuvwxyz" : Str).cps.toList)
def signL (x : Str) : List D := x.cps.toList.map fun c => D.bl (decide (c ∈ ("abcdefghijklmnopqrstuvwxyz" : Str).cps.toList))
theorem signL_len {x : Str} : (signL x).length = x.length := by simp [signL, Str.length]
theorem signL_all {x : Str} {s : DS} (h1 : 1 ≤ x.length) (h2 : x.length ≤ 12) : opAll [.lst (signL x)] s = some (.bl (nmB x), s) := by
  unfold signL
  rw [op_all]
  simp only [nmB, h1, h2, decide_true, Bool.true_and]
theorem nmB_len {x : Str} (h : nmB x = true) : x.length ≤ 12 := by
  unfold nmB at h
  simp only [Bool.and_eq_true, decide_eq_true_eq] at h
  exact h.1.2
/-- a web of the numbers p, ties, marks -/
structure WV (p : Int) (ts : List Tie) (ms : List Int) : Prop where
  p0 : 0 ≤ p
  p12 : p ≤ 12
  tl : ts.length ≤ 60
  tv : ∀ t ∈ ts, nmB t.1 = true ∧ (0 ≤ t.2.1 ∧ t.2.1 < p) ∧ 0 ≤ t.2.2 ∧ t.2.2 < p
  mv : ∀ m ∈ ms, 0 ≤ m ∧ m < p
  nd : ms.Nodup
theorem nodup_le : ∀ {n : Nat} {ms : List Int}, ms.Nodup → (∀ m ∈ ms, 0 ≤ m ∧ m < (n : Int)) → ms.length ≤ n := by
  intro n ms hn h
  have hnd : (ms.map Int.toNat).Nodup := by
    have key : ∀ l : List Int, (∀ m ∈ l, 0 ≤ m ∧ m < (n : Int)) → l.Nodup → (l.map Int.toNat).Nodup := by
      intro l
      induction l with
      | nil => intro _ _; exact List.nodup_nil
      | cons a l ih =>
        intro h1 h2
        rw [List.nodup_cons] at h2
        rw [List.map_cons, List.nodup_cons]
        refine ⟨fun hm => ?_, ih (fun m hm => h1 m (List.mem_cons_of_mem _ hm)) h2.2⟩
        obtain ⟨b, hb, e⟩ := List.mem_map.mp hm
        have := h1 a List.mem_cons_self
        have := h1 b (List.mem_cons_of_mem _ hb)
        exact h2.1 (by rw [show a = b by omega]; exact hb)
    exact key ms h hn
  have sub : ∀ x ∈ ms.map Int.toNat, x ∈ List.range n := fun x hx => by
    obtain ⟨m, hm, rfl⟩ := List.mem_map.mp hx
    have := h m hm
    exact List.mem_range.mpr (by omega)
  have key : ∀ (l r : List Nat), l.Nodup → (∀ x ∈ l, x ∈ r) → l.length ≤ r.length := by
    intro l
    induction l with
    | nil => intro r _ _; simp
    | cons a l ih =>
      intro r h1 h2
      rw [List.nodup_cons] at h1
      have ha := h2 a List.mem_cons_self
      have := ih (r.erase a) h1.2 fun x hx => by
        have hne : x ≠ a := fun e => h1.1 (e ▸ hx)
        exact (List.mem_erase_of_ne hne).mpr (h2 x (List.mem_cons_of_mem _ hx))
      rw [List.length_erase_of_mem ha] at this
      have := List.length_pos_of_mem ha
      simp only [List.length_cons]
      omega
  have := key _ _ hnd sub
  simpa using this
theorem WV.ml {p : Int} {ts : List Tie} {ms : List Int} (h : WV p ts ms) : ms.length ≤ 12 := by
  have hp0 := h.p0
  have hp := h.p12
  have := nodup_le (n := 12) h.nd fun m hm => by have := h.mv m hm; omega
  exact this
def wN : List Str := ["places", "ties", "marks"]
def wN1 : List Str := ["places"]
def wN2 : List Str := ["places", "ties"]
theorem wP1 : putNs [] "places" = wN1 := by rfl
theorem wP2 : putNs wN1 "ties" = wN2 := by rfl
theorem wP3 : putNs wN2 "marks" = wN := by rfl
theorem wQ1 {a : D} : putNv [] [] "places" a = [a] := by rfl
theorem wQ2 {a b : D} : putNv wN1 [a] "ties" b = [a, b] := by rfl
theorem wQ3 {a b c : D} : putNv wN2 [a, b] "marks" c = [a, b, c] := by rfl
/-- a web -/
noncomputable def webD (p : Int) (ts : List Tie) (ms : List Int) : D := .obj "Web" wN [.int p, .tup ((sortT ts).map tieD), .tup (ms.map .int)]
@[simp] theorem wN_places {a b c : D} : lookN wN [a, b, c] "places" = some a := nr (by rfl)
@[simp] theorem wN_ties {a b c : D} : lookN wN [a, b, c] "ties" = some b := nr (by rfl)
@[simp] theorem wN_marks {a b c : D} : lookN wN [a, b, c] "marks" = some c := nr (by rfl)
theorem sortT_len {ts : List Tie} : (sortT ts).length = ts.length := (sortT_self ts).length_eq
theorem sortT_mem {ts : List Tie} {t : Tie} : t ∈ sortT ts ↔ t ∈ ts := (sortT_self ts).mem_iff
theorem WV.sort {p : Int} {ts : List Tie} {ms : List Int} (h : WV p ts ms) : WV p (sortT ts) ms := ⟨h.p0, h.p12, by rw [sortT_len]; exact h.tl, fun t ht => h.tv t (sortT_mem.mp ht), h.mv, h.nd⟩
end Pv

set_option Elab.async false
set_option linter.all false
set_option maxRecDepth 10000
/-! Ev29: in, index, slices, dicts in plain words. -/
namespace Pv
open PySem PySem.Spec PyProof.Rows L2
@[simp] theorem fin_bad : fin .bad = .bad := nr rfl
@[simp] theorem fin_ret {r : R D} {env : Env'} {k : Env' → DS → SR'} : fin (sq (tos r env fun d s1 => .rt d s1) k) = r := by cases r <;> rfl
theorem flat_ints {ms : List Int} : (ms.map D.int).all flatD = true := List.all_eq_true.mpr fun x hx => by
  obtain ⟨i, _, rfl⟩ := List.mem_map.mp hx
  rfl
theorem any_ints {x : Int} {ms : List Int} : ((ms.map D.int).any fun z => eqF z (.int x)) = decide (x ∈ ms) := by
  induction ms with
  | nil => simp
  | cons a l ih =>
    rw [List.map_cons, List.any_cons, ih]
    by_cases h : x = a
    · subst h
      have : eqF (.int x) (.int x) = true := by simp [eqF]
      simp [this]
    · have : eqF (.int a) (.int x) = false := by simp only [eqF, beq_eq_false_iff_ne]; exact fun z => h z.symm
      simp [this, h]
@[simp] theorem in_ints {x : Int} {ms : List Int} {s : DS} : inO (.int x) (.tup (ms.map .int)) s = some (decide (x ∈ ms)) := by
  show (if flatD (.int x) = true ∧ (ms.map D.int).all flatD = true then some ((ms.map D.int).any fun z => eqF z (.int x)) else _) = _
  rw [if_pos ⟨rfl, flat_ints⟩, any_ints]
/-- where it stands -/
def idxI (x : Int) : List Int → Nat
  | [] => 0
  | y :: r => if y = x then 0 else idxI x r + 1
theorem idxI_lt {x : Int} : ∀ {ms : List Int}, x ∈ ms → idxI x ms < ms.length
  | [], h => nomatch h
  | y :: r, h => by
    unfold idxI
    split
    · simp
    · rename_i q
      rcases List.mem_cons.mp h with e | e
      · exact absurd e.symm q
      · have := idxI_lt e
        simp only [List.length_cons]; omega
theorem idxI_get {ms : List Int} (hn : ms.Nodup) {k : Nat} (h : k < ms.length) : idxI ms[k] ms = k := by
  induction ms generalizing k with
  | nil => exact absurd h (Nat.not_lt_zero _)
  | cons a l ih =>
    rw [List.nodup_cons] at hn
    cases k with
    | zero => simp [idxI]
    | succ k =>
      have hk : k < l.length := by simpa using h
      have hne : a ≠ l[k] := fun e => hn.1 (e ▸ List.getElem_mem hk)
      show (if a = l[k] then 0 else idxI l[k] l + 1) = k + 1
      rw [if_neg hne, ih hn.2 hk]
theorem getElem_idxI {x : Int} : ∀ {ms : List Int} (h : x ∈ ms), ms[idxI x ms]'(idxI_lt h) = x
  | [], h => nomatch h
  | y :: r, h => by
    by_cases e : y = x
    · subst e
      simp [idxI]
    · have hx : x ∈ r := by
        rcases List.mem_cons.mp h with z | z
        · exact absurd z.symm e
        · exact z
      have := getElem_idxI hx
      simp only [idxI, if_neg e]
      simpa using this
theorem idxF_int {x : Int} : ∀ {ms : List Int}, x ∈ ms → idxF (.int x) (ms.map .int) = some (idxI x ms)
  | [], h => nomatch h
  | y :: r, h => by
    rw [List.map_cons]
    unfold idxF idxI
    by_cases e : y = x
    · subst e
      rw [if_pos (by simp [eqF]), if_pos rfl]
    · rw [if_neg (by simp [eqF, e]), if_neg e]
      have hx : x ∈ r := by
        rcases List.mem_cons.mp h with z | z
        · exact absurd z.symm e
        · exact z
      rw [idxF_int hx]; rfl
theorem tix_ints {x : Int} {ms : List Int} {s : DS} (h : x ∈ ms) : mtTIndex (.tup (ms.map .int)) [.int x] s = some (.int (idxI x ms : Nat), s) := by
  show (if flatD (.int x) = true ∧ (ms.map D.int).all flatD = true then (idxF (.int x) (ms.map .int)).map fun (j : Nat) => (D.int j, s) else _) = _
  rw [if_pos ⟨rfl, flat_ints⟩, idxF_int h]; rfl
theorem at_map {β : Type} {f : β → D} {l : List β} {k : Nat} (h : k < l.length) : atI (l.map f) (k : Int) = some (f l[k]) := by
  rw [atI_nat (by simpa using h)]
  simp
/-- slices of tuples -/
theorem cut_lo {α : Type} {xs : List α} {k : Nat} (h : k ≤ xs.length) : cutA xs none (some (k : Int)) = xs.take k := by
  unfold cutA
  rw [HT.sIx_none, HT.sIx_nat, show min k xs.length = k by omega]
  rfl
theorem cut_hi {α : Type} {xs : List α} {k : Nat} (h : k ≤ xs.length) : cutA xs (some (k : Int)) none = xs.drop k := by
  unfold cutA
  rw [HT.sIx_none, HT.sIx_nat, show min k xs.length = k by omega, List.take_of_length_le (by simp)]
@[simp] theorem sl_tup {xs : List D} {lo hi : Option Int} {s : DS} : slO (.tup xs) lo hi s = some (.tup (cutA xs lo hi)) := nr rfl
@[simp] theorem sl_lst {xs : List D} {lo hi : Option Int} {s : DS} : slO (.lst xs) lo hi s = some (.lst (cutA xs lo hi)) := nr rfl
theorem sl_ref {n : Nat} {xs : List D} {lo hi : Option Int} {s : DS} (h : s[n]? = some (.lst xs)) : slO (.ref n) lo hi s = some (.lst (cutA xs lo hi)) := by
  simp [slO, lstOf, h]
/-! ### dicts -/
theorem look_app {k : Key} {x : D} : ∀ {ks : List Key} {vs : List D}, ks.length = vs.length → k ∉ ks → lookK (ks ++ [k]) (vs ++ [x]) k = some x
  | [], [], _, _ => by simp [lookK]
  | [], _ :: _, h, _ => by cases h
  | _ :: _, [], h, _ => by cases h
  | j :: ks, v :: vs, h, hn => by
    have hj : j ≠ k := fun e => hn (e ▸ List.mem_cons_self)
    simp only [List.cons_append, lookK, if_neg hj]
    exact look_app (Nat.succ.inj h) fun z => hn (List.mem_cons_of_mem _ z)
theorem look_app_ne {k j : Key} {x : D} (hne : j ≠ k) : ∀ {ks : List Key} {vs : List D}, ks.length = vs.length → lookK (ks ++ [k]) (vs ++ [x]) j = lookK ks vs j
  | [], [], _ => by simp [lookK, Ne.symm hne]
  | [], _ :: _, h => by cases h
  | _ :: _, [], h => by cases h
  | i :: ks, v :: vs, h => by
    by_cases e : i = j
    · simp [lookK, e]
    · simp only [List.cons_append, lookK, if_neg e]
      exact look_app_ne hne (Nat.succ.inj h)
theorem look_map {k j : Key} {x : D} : ∀ {ks : List Key} {vs : List D}, ks.length = vs.length → lookK ks ((ks.zip vs).map fun p => if p.1 = k then x else p.2) j = if j = k then (if (ks.any fun i => decide (i = k)) = true then some x else none) else lookK ks vs j
  | [], [], _ => by simp [lookK]
  | [], _ :: _, h => by cases h
  | _ :: _, [], h => by cases h
  | i :: ks, v :: vs, h => by
    simp only [List.zip_cons_cons, List.map_cons, lookK]
    rw [look_map (Nat.succ.inj h)]
    by_cases e : i = j
    · subst e
      by_cases q : i = k <;> simp [q]
    · by_cases q : j = k
      · subst q
        have : decide (i = j) = false := decide_eq_false e
        rw [if_pos rfl, if_pos rfl, if_neg e, List.any_cons, this, Bool.false_or]
      · simp [e, q]
theorem any_no {k : Key} {ks : List Key} (h : (ks.any fun j => decide (j = k)) = false) : k ∉ ks := fun z => by
  rw [List.any_eq_false] at h
  exact absurd (h k z) (by simp)
theorem put_len {ks : List Key} {vs : List D} {k : Key} {x : D} (h : ks.length = vs.length) : (putKs ks k).length = (putVs ks vs k x).length ∧ (putKs ks k).length ≤ ks.length + 1 := by
  unfold putKs putVs
  split
  · simp [h]
  · simp [h]
theorem look_put {ks : List Key} {vs : List D} {k j : Key} {x : D} (h : ks.length = vs.length) : lookK (putKs ks k) (putVs ks vs k x) j = if j = k then some x else lookK ks vs j := by
  unfold putKs putVs
  cases hm : ks.any fun j => decide (j = k) with
  | true =>
    simp only [if_true]
    rw [look_map h, hm]
    by_cases e : j = k <;> simp [e]
  | false =>
    simp only [Bool.false_eq_true, if_false]
    by_cases e : j = k
    · subst e
      rw [if_pos rfl, look_app h (any_no hm)]
    · rw [if_neg e, look_app_ne e h]
theorem set_dct {n : Nat} {s : DS} {ks : List Key} {vs : List D} {i : Int} {x : D} (h : s[n]? = some (.dct ks vs)) (hl : ks.length ≤ 100000) : setO (.ref n) (.int i) x s = some (s.set n (.dct (putKs ks (.inl i)) (putVs ks vs (.inl i) x))) := by
  have : ks.length < sizeLine := by have := @le_size (ks.length + 1) (by omega); omega
  simp [setO, h, Pv.keyOf, this]
/-! ### glued: where the other places come -/
def cntN (ms : List Int) (k : Nat) : Nat := ((List.range k).filter fun (j : Nat) => !decide ((j : Int) ∈ ms)).length
theorem cntN_0 {ms : List Int} : cntN ms 0 = 0 := rfl
theorem cntN_in {ms : List Int} {k : Nat} (h : (k : Int) ∈ ms) : cntN ms (k + 1) = cntN ms k := by
  simp [cntN, List.range_succ, List.filter_append, h]
theorem cntN_out {ms : List Int} {k : Nat} (h : (k : Int) ∉ ms) : cntN ms (k + 1) = cntN ms k + 1 := by
  simp [cntN, List.range_succ, List.filter_append, h]
theorem cntN_mono {ms : List Int} {j k : Nat} (h : j ≤ k) : cntN ms j ≤ cntN ms k := by
  induction k with
  | zero => rw [show j = 0 by omega]; exact Nat.le_refl _
  | succ k ih =>
    by_cases e : j = k + 1
    · rw [e]; exact Nat.le_refl _
    · have := ih (by omega)
      by_cases m : (k : Int) ∈ ms
      · rw [cntN_in m]; exact this
      · rw [cntN_out m]; omega
theorem cntN_le {ms : List Int} {k : Nat} : cntN ms k ≤ k := by
  induction k with
  | zero => exact Nat.le_refl _
  | succ k ih =>
    by_cases m : (k : Int) ∈ ms
    · rw [cntN_in m]; omega
    · rw [cntN_out m]; omega
def glF (p : Int) (ms1 ms2 : List Int) (x : Int) : Int := if x ∈ ms2 then (ms1[idxI x ms2]?).getD 0 else p + cntN ms2 x.toNat
theorem glF_in {p : Int} {ms1 ms2 : List Int} {x : Int} (h : x ∈ ms2) (hl : idxI x ms2 < ms1.length) : glF p ms1 ms2 x = ms1[idxI x ms2] := by
  simp [glF, h, hl]
theorem glF_out {p : Int} {ms1 ms2 : List Int} {x : Int} (h : x ∉ ms2) : glF p ms1 ms2 x = p + cntN ms2 x.toNat := by
  simp [glF, h]
theorem glF_lt {p : Int} {ms1 ms2 : List Int} {x p2 : Int} (h1 : ∀ m ∈ ms1, 0 ≤ m ∧ m < p) (hl : ms1.length = ms2.length) (hp : 0 ≤ p) (x0 : 0 ≤ x) (x1 : x < p2) : 0 ≤ glF p ms1 ms2 x ∧ glF p ms1 ms2 x < p + cntN ms2 p2.toNat := by
  by_cases h : x ∈ ms2
  · have hi := idxI_lt h
    rw [glF_in h (by omega)]
    have := h1 _ (List.getElem_mem (l := ms1) (n := idxI x ms2) (by omega))
    omega
  · rw [glF_out h]
    have e1 : ((x.toNat : Nat) : Int) ∉ ms2 := by rw [Int.toNat_of_nonneg x0]; exact h
    have e2 := cntN_out e1
    have e3 := cntN_mono (ms := ms2) (j := x.toNat + 1) (k := p2.toNat) (by omega)
    omega
theorem app_set {s : DS} {a b : DO} : (s ++ [a]).set s.length b = s ++ [b] := by
  rw [List.set_append_right _ _ (Nat.le_refl _), Nat.sub_self]; rfl
theorem app_get {s : DS} {a : DO} : (s ++ [a])[s.length]? = some a := by simp
end Pv

set_option Elab.async false
set_option linter.all false
set_option maxRecDepth 10000
/-! Ev30: tuples one behind the other, own webs, what is told. -/
namespace Pv
open PySem PySem.Spec PyProof.Rows L2
theorem cat_tup {a b : D} {xs ys : List D} {s : DS} (ha : tupOf a = some xs) (hb : tupOf b = some ys) (hl : xs.length + ys.length ≤ sizeLine) : ∃ d, isBin .Add a b s = some (d, s) ∧ tupOf d = some (xs ++ ys) := by
  have key : isBin .Add a b s = (if xs = [] then some (b, s) else if ys = [] then some (a, s) else if xs.length + ys.length ≤ sizeLine then some (.tup (xs ++ ys), s) else none) := by
    unfold isBin
    cases a with
    | tup zs => cases ha; dsimp only [tupOf]; cases b <;> first | (cases hb; rfl) | cases hb
    | ktup zs => cases ha; dsimp only [tupOf]; cases b <;> first | (cases hb; rfl) | cases hb
    | _ => cases ha
  rw [key]
  by_cases hx : xs = []
  · subst hx; exact ⟨b, if_pos rfl, hb⟩
  · by_cases hy : ys = []
    · subst hy; exact ⟨a, by rw [if_neg hx, if_pos rfl], by rw [List.append_nil]; exact ha⟩
    · exact ⟨.tup (xs ++ ys), by rw [if_neg hx, if_neg hy, if_pos hl], rfl⟩
theorem cat_tt {xs ys : List D} {s : DS} (hl : xs.length + ys.length ≤ sizeLine) : isBin .Add (.tup xs) (.tup ys) s = some (.tup (xs ++ ys), s) := by
  show (if xs = [] then some (D.tup ys, s) else if ys = [] then some (D.tup xs, s) else if xs.length + ys.length ≤ sizeLine then some (.tup (xs ++ ys), s) else none) = _
  by_cases hx : xs = []
  · subst hx; rfl
  · by_cases hy : ys = []
    · subst hy; rw [if_neg hx, if_pos rfl, List.append_nil]
    · rw [if_neg hx, if_neg hy, if_pos hl]
theorem shaped_tup (ns : List Int) : SeqAt.shaped (.tuple (ns.map PyData.int)) = true := by
  simp [SeqAt.shaped, PyData.canLay0, PyData.depth, PySem.W.ke_canLayAll0, PySem.W.ke_depthAll]
theorem eq_tup_nil {ns : List Int} {s : DS} : eqO (.tup (ns.map .int)) (.tup []) s = some (decide (ns = [])) := by
  show deepEq _ _ s = _
  unfold deepEq
  have e : pdD (topD (.tup (ns.map .int)) s) = some (.tuple (ns.map PyData.int)) := by
    show (pdD.pdL (ns.map D.int)).map PyData.tuple = _
    rw [pdL_ints]; rfl
  rw [e]
  show (if SeqAt.shaped (.tuple (ns.map PyData.int)) = true ∧ SeqAt.shaped (.tuple []) = true then some (PyData.eqv (.tuple (ns.map PyData.int)) (.tuple [])) else none) = _
  rw [if_pos ⟨shaped_tup ns, shaped_tup []⟩]
  cases ns <;> simp [PyData.eqv, PyData.eqvAll]
/-- a web in plain numbers -/
def ownD (p : Int) (dt : D) (ms : List Int) : D := .tup [.int p, dt, .tup (ms.map .int)]
section
variable {p : Int} {dt : D} {ms : List Int} {s : DS}
@[simp] theorem own_0 : ixO (ownD p dt ms) (.int 0) s = some (.int p) := by simp [ownD]
@[simp] theorem own_1 : ixO (ownD p dt ms) (.int 1) s = some dt := by simp [ownD]
@[simp] theorem own_2 : ixO (ownD p dt ms) (.int 2) s = some (.tup (ms.map .int)) := by simp [ownD]
theorem inEnv_3 {a b c d : Option D} : inEnv [a, b, c, d] (some 3) = true := rfl
end
/-- what stands in a list of wrong values -/
inductive Mi (s : DS) : D → Prop
  | im {x : D} : imB 3 x = true → Mi s x
  | lst {xs : List D} : (∀ x ∈ xs, imB 2 x = true) → xs.length ≤ 999 → Mi s (.lst xs)
  | dct {c : Nat} : s[c]? = some (.dct [] []) → Mi s (.ref c)
theorem after_bl {b m : Nat} {d : D} {s0 s s' : DS} (hf : Fr b s0 s) (hb : Bx b m s) (hd : ∀ m, d = .ref m → s0.length ≤ m) (hlt : b < s0.length) (h : s' = s ∨ ∃ m o, d = .ref m ∧ s' = s.set m o) : Fr b s0 s' ∧ Bx b m s' := by
  rcases h with rfl | ⟨k, o, e, rfl⟩
  · exact ⟨hf, hb⟩
  · have := hd k e
    exact ⟨hf.setNew this, hb.set (by omega)⟩
/-- what an except clause sees -/
@[simp] theorem xft_some {xf : Str → Str → Bool} {x : Exn} {n : Str} {env : Env'} {s : DS} : eXfT xf (some x) n env s = if xf x.c n = true then (match lookN x.ns x.vs n with | some d => .ok d s | none => .bad) else .bad := nr (by rfl)
@[simp] theorem exc_c {c : Str} {ns : List Str} {d : D} : (excOf c ns d).c = c := nr rfl
@[simp] theorem exc_ns {c : Str} {ns : List Str} {d : D} : (excOf c ns d).ns = ns := nr rfl
@[simp] theorem exc_vs {c : Str} {ns : List Str} {d : D} : (excOf c ns d).vs = ns.map fun _ => d := nr rfl
theorem tryH_cons {xm : Str → Str → Option Bool} {h : HdD} {r : List HdD} {x : Exn} {env : Env'} {s : DS} {b : Bool} (e : xm x.c h.c = some b) : tryH xm (h :: r) x env s = if b = true then (if inEnv env h.i = true then match h.b x (unset env h.i) s with
        | .nx env' s' => .nx (unset env' h.i) s'
        | .bk env' s' => .bk (unset env' h.i) s'
        | .ct env' s' => .ct (unset env' h.i) s'
        | .rt d s' => .rt d s'
        | _ => .bad
      else .bad) else tryH xm r x env s := by
  rw [tryH, e]
  all_goals rfl
theorem tryH_no {xm : Str → Str → Option Bool} {h : HdD} {r : List HdD} {x : Exn} {env : Env'} {s : DS} (e : xm x.c h.c = some false) : tryH xm (h :: r) x env s = tryH xm r x env s := by
  rw [tryH_cons e]; rfl
theorem tryH_yes {xm : Str → Str → Option Bool} {h : HdD} {r : List HdD} {x : Exn} {env : Env'} {s s' : DS} {d : D} (e : xm x.c h.c = some true) (hi : inEnv env h.i = true) (hb : h.b x (unset env h.i) s = .rt d s') : tryH xm (h :: r) x env s = .rt d s' := by
  rw [tryH_cons e, if_pos rfl, if_pos hi, hb]
end Pv

set_option Elab.async false
set_option linter.all false
set_option maxRecDepth 10000
/-! Ev31: places put onto one another. -/
namespace Pv
open PySem PySem.Spec PyProof.Rows L2
/-- other names of a tie's places -/
def reT (φ : Int → Int) (t : Tie) : Tie := (t.1, φ t.2.1, φ t.2.2)
/-- a place is put onto another one; those behind it have their numbers less by 1 -/
def pin (kept gone x : Int) : Int := if (if x = gone then kept else x) > gone then (if x = gone then kept else x) - 1 else (if x = gone then kept else x)
theorem pin_lt {kept gone x p : Int} (hk : 0 ≤ kept ∧ kept < p) (hg : 0 ≤ gone ∧ gone < p) (hne : kept ≠ gone) (hx : 0 ≤ x ∧ x < p) : 0 ≤ pin kept gone x ∧ pin kept gone x < p - 1 := by
  unfold pin
  by_cases e : x = gone
  · simp only [e, if_true]
    split <;> omega
  · simp only [e, if_false]
    split <;> omega
theorem pin_inj {kept gone x y : Int} (hx : x ≠ gone) (hy : y ≠ gone) (h : pin kept gone x = pin kept gone y) : x = y := by
  unfold pin at h
  simp only [hx, hy, if_false] at h
  split at h <;> split at h <;> omega
theorem pin_gone {kept gone : Int} (h : kept ≠ gone) : pin kept gone gone = pin kept gone kept := by
  simp [pin, h]
theorem nodup_map {α β : Type} {f : α → β} {l : List α} (h : l.Nodup) (hf : ∀ x ∈ l, ∀ y ∈ l, f x = f y → x = y) : (l.map f).Nodup := by
  induction l with
  | nil => exact List.nodup_nil
  | cons a l ih =>
    rw [List.nodup_cons] at h
    rw [List.map_cons, List.nodup_cons]
    refine ⟨fun hm => ?_, ih h.2 fun x hx y hy => hf x (List.mem_cons_of_mem _ hx) y (List.mem_cons_of_mem _ hy)⟩
    obtain ⟨b, hb, e⟩ := List.mem_map.mp hm
    exact h.1 (hf b (List.mem_cons_of_mem _ hb) a List.mem_cons_self e ▸ hb)
theorem WV.pin {p : Int} {ts : List Tie} {ms mk : List Int} {kept gone : Int} (h : WV p ts ms) (hk : 0 ≤ kept ∧ kept < p) (hg : 0 ≤ gone ∧ gone < p) (hne : kept ≠ gone) (hm : ∀ m ∈ mk, (0 ≤ m ∧ m < p) ∧ m ≠ gone) (hn : mk.Nodup) :
    WV (p - 1) (ts.map (reT (pin kept gone))) (mk.map (pin kept gone)) := by
  have h12 := h.p12
  refine ⟨by omega, by omega, by simpa using h.tl, fun t ht => ?_, fun m hm' => ?_, nodup_map hn fun x hx y hy e => pin_inj (hm x hx).2 (hm y hy).2 e⟩
  · obtain ⟨u, hu, rfl⟩ := List.mem_map.mp ht
    obtain ⟨a1, a2, a3⟩ := h.tv u hu
    exact ⟨a1, pin_lt hk hg hne a2, pin_lt hk hg hne a3⟩
  · obtain ⟨u, hu, rfl⟩ := List.mem_map.mp hm'
    exact pin_lt hk hg hne (hm u hu).1
theorem WV.less {p : Int} {ts : List Tie} {ms : List Int} (h : WV p ts ms) (k : Nat) : WV p (ts.eraseIdx k) ms :=
  ⟨h.p0, h.p12, by have := List.length_eraseIdx_le ts k; have := h.tl; omega, fun t ht => h.tv t ((List.eraseIdx_sublist ts k).mem ht), h.mv, h.nd⟩
theorem tieD_at {t : Tie} {s : DS} : ixO (tieD t) (.int 0) s = some (.str t.1) ∧ ixO (tieD t) (.int 1) s = some (.int t.2.1) ∧ ixO (tieD t) (.int 2) s = some (.int t.2.2) := by
  simp [tieD]
theorem perm_reT {φ : Int → Int} {ts us : List Tie} (h : ts.Perm us) : (ts.map (reT φ)).Perm (us.map (reT φ)) := h.map _
end Pv

set_option Elab.async false
set_option linter.all false
set_option maxRecDepth 10000
/-! Ev32: what ties join. -/
namespace Pv
open PySem PySem.Spec PyProof.Rows L2
/-- a tie between x and y -/
def Adj (ts : List Tie) (x y : Int) : Prop := ∃ t ∈ ts, (t.2.1 = x ∧ t.2.2 = y) ∨ (t.2.1 = y ∧ t.2.2 = x)
theorem Adj.symm {ts : List Tie} {x y : Int} (h : Adj ts x y) : Adj ts y x := by
  obtain ⟨t, ht, h⟩ := h
  exact ⟨t, ht, h.symm⟩
theorem Adj.of {ts us : List Tie} {x y : Int} (hs : ∀ t ∈ ts, t ∈ us) (h : Adj ts x y) : Adj us x y := by
  obtain ⟨t, ht, h⟩ := h
  exact ⟨t, hs t ht, h⟩
/-- the least place that is joined to one -/
def rp : List Tie → Int → Int
  | [], x => x
  | t :: r, x => if rp r x = (if rp r t.2.2 > rp r t.2.1 then rp r t.2.2 else rp r t.2.1) then (if rp r t.2.2 < rp r t.2.1 then rp r t.2.2 else rp r t.2.1) else rp r x
theorem rp_cons {t : Tie} {r : List Tie} {x : Int} : rp (t :: r) x = if rp r x = (if rp r t.2.2 > rp r t.2.1 then rp r t.2.2 else rp r t.2.1) then (if rp r t.2.2 < rp r t.2.1 then rp r t.2.2 else rp r t.2.1) else rp r x := rfl
theorem rp_le {ts : List Tie} {x : Int} : rp ts x ≤ x := by
  induction ts with
  | nil => exact Int.le_refl _
  | cons t r ih =>
    rw [rp_cons]
    by_cases c : rp r t.2.2 > rp r t.2.1
    · have c' : ¬ rp r t.2.2 < rp r t.2.1 := by omega
      simp only [if_pos c, if_neg c']
      split
      · omega
      · exact ih
    · simp only [if_neg c]
      by_cases c' : rp r t.2.2 < rp r t.2.1
      · simp only [if_pos c']
        split
        · omega
        · exact ih
      · simp only [if_neg c']
        split
        · omega
        · exact ih
theorem rp_nn {ts : List Tie} (h : ∀ t ∈ ts, 0 ≤ t.2.1 ∧ 0 ≤ t.2.2) {x : Int} (hx : 0 ≤ x) : 0 ≤ rp ts x := by
  induction ts generalizing x with
  | nil => exact hx
  | cons t r ih =>
    have hr := fun {y : Int} => ih (fun u hu => h u (List.mem_cons_of_mem _ hu)) (x := y)
    obtain ⟨h1, h2⟩ := h t List.mem_cons_self
    have m0 : 0 ≤ (if rp r t.2.2 < rp r t.2.1 then rp r t.2.2 else rp r t.2.1) := by
      by_cases c' : rp r t.2.2 < rp r t.2.1
      · rw [if_pos c']; exact hr h2
      · rw [if_neg c']; exact hr h1
    rw [rp_cons]
    by_cases c : rp r x = (if rp r t.2.2 > rp r t.2.1 then rp r t.2.2 else rp r t.2.1)
    · rw [if_pos c]; exact m0
    · rw [if_neg c]; exact hr hx
/-- joined places have one name -/
theorem rp_adj {ts : List Tie} {x y : Int} (h : Adj ts x y) : rp ts x = rp ts y := by
  induction ts with
  | nil => obtain ⟨t, ht, _⟩ := h; cases ht
  | cons t r ih =>
    obtain ⟨u, hu, h⟩ := h
    rcases List.mem_cons.mp hu with e | e
    · subst e
      have key : rp (u :: r) u.2.1 = rp (u :: r) u.2.2 := by
        rw [rp_cons, rp_cons]
        by_cases c : rp r u.2.2 > rp r u.2.1
        · simp only [if_pos c]
          have c' : ¬ rp r u.2.2 < rp r u.2.1 := by omega
          simp only [if_neg c']
          have : ¬ rp r u.2.1 = rp r u.2.2 := by omega
          simp [this]
        · simp only [if_neg c]
          by_cases c' : rp r u.2.2 < rp r u.2.1
          · have : ¬ rp r u.2.2 = rp r u.2.1 := by omega
            simp [c', this]
          · have : rp r u.2.2 = rp r u.2.1 := by omega
            simp [this]
      rcases h with ⟨h1, h2⟩ | ⟨h1, h2⟩
      · rw [← h1, ← h2]; exact key
      · rw [← h1, ← h2]; exact key.symm
    · have := ih ⟨u, e, h⟩
      rw [rp_cons, rp_cons, this]
/-- what is closed under ties and holds a place holds all of its name -/
theorem rp_closed {ts : List Tie} {S : Int → Prop} (hS : ∀ x y, Adj ts x y → S x → S y) : ∀ {x y : Int}, rp ts x = rp ts y → S x → S y := by
  induction ts with
  | nil => intro x y h hx; rw [show x = y from h] at hx; exact hx
  | cons t r ih =>
    have ihr := fun {x y : Int} => ih (fun x y h => hS x y (h.of fun u hu => List.mem_cons_of_mem _ hu)) (x := x) (y := y)
    have st : S t.2.1 ↔ S t.2.2 := ⟨hS _ _ ⟨t, List.mem_cons_self, .inl ⟨rfl, rfl⟩⟩, hS _ _ ⟨t, List.mem_cons_self, .inr ⟨rfl, rfl⟩⟩⟩
    intro x y h hx
    rw [rp_cons, rp_cons] at h
    have dir : ∀ z, S z → (rp r z = rp r t.2.1 ∨ rp r z = rp r t.2.2) → S t.2.1 := fun z hz hh => by
      rcases hh with e | e
      · exact ihr e hz
      · exact st.mpr (ihr e hz)
    have back : ∀ z, S t.2.1 → (rp r z = rp r t.2.1 ∨ rp r z = rp r t.2.2) → S z := fun z hz hh => by
      rcases hh with e | e
      · exact ihr e.symm hz
      · exact ihr e.symm (st.mp hz)
    by_cases c : rp r t.2.2 > rp r t.2.1
    · have c' : ¬ rp r t.2.2 < rp r t.2.1 := by omega
      simp only [if_pos c, if_neg c'] at h
      by_cases h1 : rp r x = rp r t.2.2 <;> by_cases h2 : rp r y = rp r t.2.2
      · exact back y (dir x hx (.inr h1)) (.inr h2)
      · rw [if_pos h1, if_neg h2] at h
        exact back y (dir x hx (.inr h1)) (.inl h.symm)
      · rw [if_neg h1, if_pos h2] at h
        exact back y (dir x hx (.inl h)) (.inr h2)
      · rw [if_neg h1, if_neg h2] at h
        exact ihr h hx
    · simp only [if_neg c] at h
      by_cases c' : rp r t.2.2 < rp r t.2.1
      · simp only [if_pos c'] at h
        by_cases h1 : rp r x = rp r t.2.1 <;> by_cases h2 : rp r y = rp r t.2.1
        · exact back y (dir x hx (.inl h1)) (.inl h2)
        · rw [if_pos h1, if_neg h2] at h
          exact back y (dir x hx (.inl h1)) (.inr h.symm)
        · rw [if_neg h1, if_pos h2] at h
          exact back y (dir x hx (.inr h)) (.inl h2)
        · rw [if_neg h1, if_neg h2] at h
          exact ihr h hx
      · simp only [if_neg c'] at h
        have e : rp r t.2.2 = rp r t.2.1 := by omega
        by_cases h1 : rp r x = rp r t.2.1 <;> by_cases h2 : rp r y = rp r t.2.1
        · exact ihr (h1.trans h2.symm) hx
        · rw [if_pos h1, if_neg h2] at h
          exact ihr (h1.trans h) hx
        · rw [if_neg h1, if_pos h2] at h
          exact ihr (h.trans h2.symm) hx
        · rw [if_neg h1, if_neg h2] at h
          exact ihr h hx
/-- the name is one of the joined ones -/
theorem rp_rp {ts : List Tie} {x : Int} : rp ts (rp ts x) = rp ts x := by
  induction ts generalizing x with
  | nil => rfl
  | cons t r ih =>
    have key : ∀ z, rp r z = z → rp (t :: r) z = if z = (if rp r t.2.2 > rp r t.2.1 then rp r t.2.2 else rp r t.2.1) then (if rp r t.2.2 < rp r t.2.1 then rp r t.2.2 else rp r t.2.1) else z := fun z hz => by
      rw [rp_cons, hz]
    by_cases c : rp r x = (if rp r t.2.2 > rp r t.2.1 then rp r t.2.2 else rp r t.2.1)
    · have e : rp (t :: r) x = (if rp r t.2.2 < rp r t.2.1 then rp r t.2.2 else rp r t.2.1) := by rw [rp_cons, if_pos c]
      rw [e]
      have h0 : rp r (if rp r t.2.2 < rp r t.2.1 then rp r t.2.2 else rp r t.2.1) = (if rp r t.2.2 < rp r t.2.1 then rp r t.2.2 else rp r t.2.1) := by
        split <;> exact ih
      rw [key _ h0, ite_self]
    · have e : rp (t :: r) x = rp r x := by rw [rp_cons, if_neg c]
      rw [e, key _ ih, if_neg c]
/-- all in order, all there -/
theorem lt_ext {l m : List Int} (hl : l.Pairwise (· < ·)) (hm : m.Pairwise (· < ·)) (h : ∀ x, x ∈ l ↔ x ∈ m) : l = m := by
  induction l generalizing m with
  | nil =>
    cases m with
    | nil => rfl
    | cons b m => exact absurd ((h b).mpr List.mem_cons_self) List.not_mem_nil
  | cons a l ih =>
    cases m with
    | nil => exact absurd ((h a).mp List.mem_cons_self) List.not_mem_nil
    | cons b m =>
      rw [List.pairwise_cons] at hl hm
      have e : a = b := by
        rcases List.mem_cons.mp ((h a).mp List.mem_cons_self) with e | e
        · exact e
        · rcases List.mem_cons.mp ((h b).mpr List.mem_cons_self) with e' | e'
          · exact e'.symm
          · have := hm.1 a e; have := hl.1 b e'; omega
      subst e
      rw [ih hl.2 hm.2 fun x => ⟨fun hx => by
        rcases List.mem_cons.mp ((h x).mp (List.mem_cons_of_mem _ hx)) with e | e
        · have := hl.1 x hx; omega
        · exact e, fun hx => by
        rcases List.mem_cons.mp ((h x).mpr (List.mem_cons_of_mem _ hx)) with e | e
        · have := hm.1 x hx; omega
        · exact e⟩]
theorem lt_head {l : List Int} (hl : l.Pairwise (· < ·)) {x : Int} (hx : x ∈ l) (hm : ∀ y ∈ l, x ≤ y) : l = x :: l.filter fun y => decide (x + 1 ≤ y) := by
  refine lt_ext hl ?_ fun y => ?_
  · rw [List.pairwise_cons]
    refine ⟨fun y hy => ?_, hl.filter _⟩
    have := (List.mem_filter.mp hy).2
    simp only [decide_eq_true_eq] at this
    omega
  · simp only [List.mem_cons, List.mem_filter, decide_eq_true_eq]
    constructor
    · intro hy
      by_cases e : y = x
      · exact .inl e
      · exact .inr ⟨hy, by have := hm y hy; omega⟩
    · rintro (rfl | ⟨hy, _⟩)
      · exact hx
      · exact hy
/-- the places -/
def plc (p : Int) : List Int := (List.range p.toNat).map fun (i : Nat) => (i : Int)
theorem plc_lt (p : Int) : (plc p).Pairwise (· < ·) := by
  unfold plc
  rw [List.pairwise_map]
  exact List.pairwise_lt_range.imp fun h => by omega
theorem mem_plc {p x : Int} : x ∈ plc p ↔ 0 ≤ x ∧ x < p := by
  unfold plc
  rw [List.mem_map]
  constructor
  · rintro ⟨i, hi, rfl⟩
    have := List.mem_range.mp hi
    omega
  · intro h
    exact ⟨x.toNat, List.mem_range.mpr (by omega), by omega⟩
theorem lt_nodup {l : List Int} (h : l.Pairwise (· < ·)) : l.Nodup := List.nodup_iff_pairwise_ne.mpr (h.imp fun h e => by omega)
theorem sortI_lt {ns : List Int} (h : ns.Nodup) : (sortI ns).Pairwise (· < ·) := by
  have h1 := sortI_le ns
  have h2 := List.nodup_iff_pairwise_ne.mp ((sortI_perm ns).symm.nodup h)
  exact (h1.and h2).imp fun ⟨a, b⟩ => by omega
/-- a piece: the places of one name -/
def cls (p : Int) (ts : List Tie) (x : Int) : List Int := (plc p).filter fun y => decide (rp ts y = x)
/-- the least places of the pieces -/
def reps (p : Int) (ts : List Tie) : List Int := (plc p).filter fun y => decide (rp ts y = y)
theorem mem_cls {p : Int} {ts : List Tie} {x y : Int} : y ∈ cls p ts x ↔ (0 ≤ y ∧ y < p) ∧ rp ts y = x := by
  unfold cls
  rw [List.mem_filter, mem_plc, decide_eq_true_eq]
theorem cls_lt {p : Int} {ts : List Tie} {x : Int} : (cls p ts x).Pairwise (· < ·) := (plc_lt p).filter _
theorem reps_lt {p : Int} {ts : List Tie} : (reps p ts).Pairwise (· < ·) := (plc_lt p).filter _
theorem mem_reps {p : Int} {ts : List Tie} {y : Int} : y ∈ reps p ts ↔ (0 ≤ y ∧ y < p) ∧ rp ts y = y := by
  unfold reps
  rw [List.mem_filter, mem_plc, decide_eq_true_eq]
/-- a piece as a web -/
def pcT (p : Int) (ts : List Tie) (x : Int) (us : List Tie) : List Tie := (us.filter fun t => decide (t.2.1 ∈ cls p ts x)).map (reT fun y => (idxI y (cls p ts x) : Nat))
theorem pcT_perm {p : Int} {ts us vs : List Tie} {x : Int} (h : us.Perm vs) : (pcT p ts x us).Perm (pcT p ts x vs) := (h.filter _).map _
theorem WV.cls {p : Int} {ts : List Tie} {ms : List Int} (h : WV p ts ms) (x : Int) (us : List Tie) (hu : us.Perm ts) : WV ((cls p ts x).length : Nat) (pcT p ts x us) [] := by
  have hl := nodup_le (n := 12) (lt_nodup (cls_lt (p := p) (ts := ts) (x := x))) fun m hm => by
    have := (mem_cls.mp hm).1; have := h.p12; omega
  have hp := pcT_perm (p := p) (ts := ts) (x := x) hu
  refine ⟨by omega, by omega, ?_, fun t ht => ?_, (fun m hm => absurd hm List.not_mem_nil), List.nodup_nil⟩
  · unfold pcT
    rw [List.length_map]
    have := List.length_filter_le (fun t : Tie => decide (t.2.1 ∈ Pv.cls p ts x)) us
    have := hu.length_eq
    have := h.tl
    omega
  · unfold pcT at ht
    obtain ⟨u, hu', rfl⟩ := List.mem_map.mp ht
    obtain ⟨hu1, hu2⟩ := List.mem_filter.mp hu'
    rw [decide_eq_true_eq] at hu2
    have hut := hu.mem_iff.mp hu1
    obtain ⟨a1, a2, a3⟩ := h.tv u hut
    have hj : u.2.2 ∈ Pv.cls p ts x := by
      rw [mem_cls]
      refine ⟨a3, ?_⟩
      rw [← (mem_cls.mp hu2).2]
      exact (rp_adj ⟨u, hut, .inl ⟨rfl, rfl⟩⟩).symm
    have b1 := idxI_lt hu2
    have b2 := idxI_lt hj
    exact ⟨a1, by simp only [reT]; omega, by simp only [reT]; omega⟩
/-! ### the neighbours' dicts -/
theorem ext_of {s H : DS} (hl : s.length ≤ H.length) (h : ∀ i, i < s.length → H[i]? = s[i]?) : ∃ t, H = s ++ t := by
  refine ⟨H.drop s.length, ?_⟩
  refine List.ext_getElem? fun i => ?_
  by_cases hi : i < s.length
  · rw [List.getElem?_append_left hi, h i hi]
  · rw [List.getElem?_append_right (by omega), List.getElem?_drop]
    congr 1
    omega
theorem intKs_map : ∀ ns : List Int, intKs (ns.map Sum.inl) = some ns
  | [] => rfl
  | n :: r => by simp [intKs, intKs_map r]
theorem put_int {ns : List Int} {y : Int} (hn : ns.Nodup) : ∃ ns' : List Int, putKs (ns.map Sum.inl) (.inl y) = ns'.map Sum.inl ∧ ns'.Nodup ∧ ∀ z, z ∈ ns' ↔ z ∈ ns ∨ z = y := by
  unfold putKs
  by_cases h : y ∈ ns
  · refine ⟨ns, ?_, hn, fun z => ⟨.inl, fun q => q.elim id fun e => e ▸ h⟩⟩
    rw [if_pos]
    rw [List.any_eq_true]
    exact ⟨.inl y, List.mem_map.mpr ⟨y, h, rfl⟩, by simp⟩
  · refine ⟨ns ++ [y], ?_, ?_, fun z => by simp⟩
    · rw [if_neg]
      · simp
      · rw [List.any_eq_true]
        rintro ⟨k, hk, e⟩
        obtain ⟨w, hw, rfl⟩ := List.mem_map.mp hk
        simp only [decide_eq_true_eq, Sum.inl.injEq] at e
        exact h (e ▸ hw)
    · rw [List.nodup_append]
      exact ⟨hn, by simp, fun a ha b hb e => by simp at hb; subst hb; exact h (e ▸ ha)⟩
structure NBs (s : DS) (P : Nat) (refs : List D) (H : DS) (M : Nat → Int → Prop) : Prop where
  pre : ∀ i, i < s.length → H[i]? = s[i]?
  len : H.length = s.length + P + 1
  cell : H[s.length + P]? = some (.lst refs)
  rng : ∀ x y, M x y → 0 ≤ y ∧ y < 12
  dct : ∀ x, x < P → ∃ (ns : List Int) (vs : List D), H[s.length + x]? = some (.dct (ns.map Sum.inl) vs) ∧ ns.length = vs.length ∧ ns.Nodup ∧ ∀ y, y ∈ ns ↔ M x y
theorem NBs.small {M : Nat → Int → Prop} (hr : ∀ x y, M x y → 0 ≤ y ∧ y < 12) {x : Nat} {ns : List Int} (hn : ns.Nodup) (h : ∀ y, y ∈ ns ↔ M x y) : ns.length ≤ 12 :=
  nodup_le (n := 12) hn fun m hm => hr x m ((h m).mp hm)
theorem NBs.put {s : DS} {P : Nat} {refs : List D} {H : DS} {M : Nat → Int → Prop} (h : NBs s P refs H M) {x : Nat} {y : Int} (hx : x < P) (hy : 0 ≤ y ∧ y < 12) :
    ∃ H', setO (.ref (s.length + x)) (.int y) (.bl true) H = some H' ∧ NBs s P refs H' (fun a b => M a b ∨ (a = x ∧ b = y)) := by
  obtain ⟨ns, vs, h1, h2, h3, h4⟩ := h.dct x hx
  have hs := NBs.small h.rng h3 h4
  obtain ⟨ns', e1, e2, e3⟩ := put_int (y := y) h3
  have e := set_dct (i := y) (x := .bl true) h1 (by simp; omega)
  rw [e1] at e
  have hl : (ns.map Sum.inl : List Key).length = vs.length := by simpa using h2
  refine ⟨_, e, fun i hi => ?_, by simp [h.len], ?_, fun a b hab => ?_, fun z hz => ?_⟩
  · rw [List.getElem?_set_ne (by omega)]; exact h.pre i hi
  · rw [List.getElem?_set_ne (by omega)]; exact h.cell
  · rcases hab with q | ⟨_, rfl⟩
    · exact h.rng a b q
    · exact hy
  · by_cases q : z = x
    · subst q
      refine ⟨ns', _, by rw [List.getElem?_set_self (lt_of_get h1)], ?_, e2, fun w => ?_⟩
      · have := (put_len (k := .inl y) (x := .bl true) hl).1
        rw [e1] at this
        simpa using this
      · rw [e3, h4]
        simp
    · obtain ⟨ms, us, k1, k2, k3, k4⟩ := h.dct z hz
      exact ⟨ms, us, by rw [List.getElem?_set_ne (by omega)]; exact k1, k2, k3, fun w => by rw [k4]; simp [q]⟩
theorem NBs.congr {s : DS} {P : Nat} {refs : List D} {H : DS} {M M' : Nat → Int → Prop} (h : NBs s P refs H M) (e : ∀ x y, x < P → (M x y ↔ M' x y)) (hr : ∀ x y, M' x y → 0 ≤ y ∧ y < 12) : NBs s P refs H M' :=
  ⟨h.pre, h.len, h.cell, hr, fun x hx => by
    obtain ⟨ns, vs, h1, h2, h3, h4⟩ := h.dct x hx
    exact ⟨ns, vs, h1, h2, h3, fun y => (h4 y).trans (e x y hx)⟩⟩
theorem lc_dicts {env : Env'} {i : Nat} : ∀ (l : List D) (s : DS), lcL [] (gNm i) tYesD eDict0 env l s = .ok ((List.range l.length).map fun (k : Nat) => D.ref (s.length + k)) (s ++ List.replicate l.length (.dct [] []))
  | [], s => by unfold lcL; rw [if_pos okL_nil]; simp
  | d :: r, s => by
    have ih := lc_dicts (env := env) (i := i) r (s ++ [.dct [] []])
    unfold lcL
    rw [if_pos okL_nil, ev_gNm]
    dsimp only
    rw [ev_tYes]
    dsimp only
    rw [if_pos rfl, ev_Dict0]
    dsimp only
    rw [ih]
    dsimp only
    congr 1
    · rw [List.length_cons, List.range_succ_eq_map, List.map_cons, List.map_map]
      congr 1
      refine List.map_congr_left fun k _ => ?_
      show D.ref _ = D.ref _
      simp
      omega
    · rw [List.length_cons, List.replicate_succ]
      simp
theorem sortedX_dct {m : Bool} {n : Nat} {s : DS} {ns : List Int} {vs : List D} (h : s[n]? = some (.dct (ns.map Sum.inl) vs)) (hl : ns.length < 64) : opSortedX m [.ref n] s = some (newLst m ((sortI ns).map .int) s) := by
  show (match dctOf (.ref n) s with | some (ks, _) => _ | none => _) = _
  rw [dctOf_d h]
  show (intKs (ns.map Sum.inl)).bind _ = _
  rw [intKs_map]
  show (if ns.length < 64 then _ else _) = _
  rw [if_pos hl]
theorem pop_last {n : Nat} {s : DS} {xs : List D} {y : D} (h : s[n]? = some (.lst (xs ++ [y]))) : mtPop (.ref n) [] s = some (y, s.set n (.lst xs)) := by
  simp [mtPop, refL, h]
theorem ext_ref {n : Nat} {s : DS} {xs ys : List D} (h : s[n]? = some (.lst xs)) (hl : xs.length + ys.length ≤ sizeLine) : mtExtend (.ref n) [.lst ys] s = some (.non, s.set n (.lst (xs ++ ys))) := by
  simp [mtExtend, refL, h, hl]
theorem look_in {sn : List Int} {vs : List D} {o : Int} (hl : sn.length = vs.length) : (lookK (sn.map Sum.inl) vs (.inl o)).isSome = decide (o ∈ sn) := by
  induction sn generalizing vs with
  | nil => simp [lookK]
  | cons a r ih =>
    cases vs with
    | nil => cases hl
    | cons v vs =>
      by_cases e : a = o
      · simp [lookK, e]
      · have := ih (vs := vs) (Nat.succ.inj hl)
        simp only [List.map_cons, lookK, Sum.inl.injEq, e, if_false]
        rw [this]
        simp [Ne.symm e]
theorem merge_fresh {v : D} : ∀ {fr sn : List Int} {vs : List D}, fr.Nodup → (∀ o ∈ fr, o ∉ sn) → mergeP (fr.map fun o => ((.inl o : Key), v)) (sn.map Sum.inl, vs) = ((sn ++ fr).map Sum.inl, vs ++ fr.map fun _ => v)
  | [], sn, vs, _, _ => by simp [mergeP]
  | o :: r, sn, vs, hn, hd => by
    rw [List.nodup_cons] at hn
    have ho : o ∉ sn := hd o List.mem_cons_self
    have hany : ((sn.map Sum.inl : List Key).any fun j => decide (j = .inl o)) = false := by
      rw [List.any_eq_false]
      intro k hk
      obtain ⟨w, hw, rfl⟩ := List.mem_map.mp hk
      simp only [decide_eq_true_eq, Sum.inl.injEq]
      exact fun e => ho (e ▸ hw)
    have e1 : putKs (sn.map Sum.inl) (.inl o) = ((sn ++ [o]).map Sum.inl : List Key) := by
      unfold putKs; rw [hany]; simp
    have e2 : putVs (sn.map Sum.inl) vs (.inl o) v = vs ++ [v] := by
      unfold putVs; rw [hany]; simp
    have ih := merge_fresh (v := v) (fr := r) (sn := sn ++ [o]) (vs := vs ++ [v]) hn.2 fun x hx => by
      simp only [List.mem_append, List.mem_singleton, not_or]
      exact ⟨hd x (List.mem_cons_of_mem _ hx), fun e => hn.1 (e ▸ hx)⟩
    rw [List.map_cons]
    unfold mergeP
    rw [e1, e2, ih]
    simp
theorem zip_same {v : D} {fr : List Int} : (fr.map Sum.inl : List Key).zip (fr.map fun _ => v) = fr.map fun o => ((.inl o : Key), v) := by
  induction fr with
  | nil => rfl
  | cons a r ih => simp [ih]
theorem upd_ref {n m : Nat} {s : DS} {sn fr : List Int} {vs : List D} {v : D} (hne : n ≠ m) (h1 : s[n]? = some (.dct (sn.map Sum.inl) vs)) (h2 : s[m]? = some (.dct (fr.map Sum.inl) (fr.map fun _ => v))) (hl : sn.length + fr.length ≤ 100000) (hn : fr.Nodup) (hd : ∀ o ∈ fr, o ∉ sn) :
    mtUpdate (.ref n) [.ref m] s = some (.non, s.set n (.dct ((sn ++ fr).map Sum.inl) (vs ++ fr.map fun _ => v))) := by
  have hz : sn.length + fr.length ≤ sizeLine := le_size (by omega)
  simp only [mtUpdate, h1, h2, if_neg hne, List.length_map, if_pos hz, zip_same, merge_fresh hn hd]
@[simp] theorem mt_upd : mtT "dict" "update" = some mtUpdate := nr (by rfl)
@[simp] theorem mt_ext : mtT "list" "extend" = some mtExtend := nr (by rfl)
@[simp] theorem mt_rev : mtT "list" "reverse" = some mtReverse := nr (by rfl)
@[simp] theorem mt_ix : mtT "list" "index" = some mtIndex := nr (by rfl)
theorem merge_one {k : Key} {v : D} : mergeP [(k, v)] ([], []) = ([k], [v]) := by rfl
theorem eq_lst_ints {l : List Int} {s : DS} : eqO (.lst (l.map .int)) (.lst []) s = some (decide (l = [])) := by
  show deepEq _ _ s = _
  unfold deepEq
  rw [top_lst, top_lst]
  have e : pdD (.lst (l.map D.int)) = some (.list (l.map PyData.int)) := by
    show (pdD.pdL (l.map D.int)).map _ = _
    rw [pdL_ints]; rfl
  rw [e]
  show (if SeqAt.shaped (.list (l.map PyData.int)) = true ∧ SeqAt.shaped (.list []) = true then some (PyData.eqv (.list (l.map PyData.int)) (.list [])) else none) = _
  rw [if_pos ⟨PySem.W.ke_shaped_ints l, PySem.W.ke_shaped_ints []⟩]
  cases l <;> simp [PyData.eqv, PyData.eqvAll]
/-! ### places with their numbers -/
theorem enumL_zip : ∀ (l : List Int) (k : Nat), enumL k (l.map D.int) = (l.zipIdx k).map fun q => D.ktup [.int (q.2 : Nat), .int q.1]
  | [], _ => rfl
  | a :: r, k => by
    rw [List.map_cons, List.zipIdx_cons, List.map_cons]
    unfold enumL
    rw [enumL_zip r (k + 1)]
theorem merge_fresh2 {β : Type} {κ : β → Int} {φ : β → D} : ∀ {l : List β} {sn : List Int} {vs : List D}, (l.map κ).Nodup → (∀ a ∈ l, κ a ∉ sn) → mergeP (l.map fun a => ((.inl (κ a) : Key), φ a)) (sn.map Sum.inl, vs) = ((sn ++ l.map κ).map Sum.inl, vs ++ l.map φ)
  | [], sn, vs, _, _ => by simp [mergeP]
  | o :: r, sn, vs, hn, hd => by
    rw [List.map_cons, List.nodup_cons] at hn
    have ho : κ o ∉ sn := hd o List.mem_cons_self
    have hany : ((sn.map Sum.inl : List Key).any fun j => decide (j = .inl (κ o))) = false := by
      rw [List.any_eq_false]
      intro k hk
      obtain ⟨w, hw, rfl⟩ := List.mem_map.mp hk
      simp only [decide_eq_true_eq, Sum.inl.injEq]
      exact fun e => ho (e ▸ hw)
    have e1 : putKs (sn.map Sum.inl) (.inl (κ o)) = ((sn ++ [κ o]).map Sum.inl : List Key) := by
      unfold putKs; rw [hany]; simp
    have e2 : putVs (sn.map Sum.inl) vs (.inl (κ o)) (φ o) = vs ++ [φ o] := by
      unfold putVs; rw [hany]; simp
    have ih := merge_fresh2 (κ := κ) (φ := φ) (l := r) (sn := sn ++ [κ o]) (vs := vs ++ [φ o]) hn.2 fun x hx => by
      simp only [List.mem_append, List.mem_singleton, not_or]
      exact ⟨hd x (List.mem_cons_of_mem _ hx), fun e => hn.1 (e ▸ List.mem_map.mpr ⟨x, hx, rfl⟩)⟩
    rw [List.map_cons]
    unfold mergeP
    rw [e1, e2, ih]
    simp
theorem zipIdx_fst (l : List Int) (k : Nat) : (l.zipIdx k).map (·.1) = l := by
  induction l generalizing k with
  | nil => rfl
  | cons a r ih => rw [List.zipIdx_cons, List.map_cons, ih]
theorem look_idx {y : Int} : ∀ {l : List Int} {k : Nat}, y ∈ l → lookK (l.map Sum.inl) ((l.zipIdx k).map fun q => D.int (q.2 : Nat)) (.inl y) = some (.int ((k + idxI y l : Nat) : Int))
  | [], _, h => nomatch h
  | a :: r, k, h => by
    rw [List.map_cons, List.zipIdx_cons, List.map_cons]
    by_cases e : a = y
    · simp [lookK, e, idxI]
    · have hy : y ∈ r := by
        rcases List.mem_cons.mp h with z | z
        · exact absurd z.symm e
        · exact z
      have ih := look_idx (k := k + 1) hy
      simp only [lookK, Sum.inl.injEq, e, if_false, idxI]
      rw [ih]
      congr 2
      omega
end Pv

set_option Elab.async false
set_option linter.all false
set_option maxRecDepth 100000
set_option maxHeartbeats 0
namespace Lk12
open PySem PySem.Spec PyProof.Rows L2 Pv
def globL : List (Str × D) := [(("MOST_NAME" : Str), .int 12), (("SIGNS" : Str), .str ("abcdefghijklmnopqrstuvwxyz" : Str)), (("MOST_PLACES" : Str), .int 12), (("MOST_TIES" : Str), .int 60), (("TIE_PARTS" : Str), .int 3), (("int" : Str), .ty "int"), (("bool" : Str), .ty "bool"), (("str" : Str), .ty "str"), (("list" : Str), .ty "list"), (("tuple" : Str), .ty "tuple"), (("dict" : Str), .ty "dict"), (("set" : Str), .ty "set"), (("Web" : Str), .cls ("Web" : Str))]
def fnL : List (Str × Form) := [(("check_web" : Str), ⟨1, [], [0]⟩), (("check_mark" : Str), ⟨2, [], [0, 1]⟩), (("as_one" : Str), ⟨4, [], [0, 1, 2, 3]⟩), (("check_tie" : Str), ⟨2, [], [0, 1]⟩), (("less_tie" : Str), ⟨2, [], [0, 1]⟩), (("check_plain_web" : Str), ⟨1, [], [0]⟩), (("_law_same" : Str), ⟨2, [], [0, 1]⟩), (("_law_put" : Str), ⟨3, [], [0, 1, 2]⟩), (("_law_is_web" : Str), ⟨2, [], [0, 1]⟩), (("_law_made" : Str), ⟨2, [], [0, 1]⟩), (("_law_asked" : Str), ⟨3, [], [0, 1, 2]⟩), (("_law_copied" : Str), ⟨1, [], [0]⟩), (("is_whole" : Str), ⟨1, [], [0]⟩), (("is_place" : Str), ⟨2, [], [0, 1]⟩), (("is_mark" : Str), ⟨2, [], [0, 1]⟩), (("neighbours_in" : Str), ⟨1, [], [0]⟩), (("reached" : Str), ⟨2, [], [0, 1]⟩), (("_law_take" : Str), ⟨2, [], [0, 1]⟩), (("_law_pick" : Str), ⟨2, [], [0, 1]⟩), (("_law_mixed" : Str), ⟨2, [], [0, 1]⟩)] ++ [(("_law_pieces" : Str), ⟨1, [], [0]⟩), (("_law_box" : Str), ⟨1, [], [0]⟩), (("is_name" : Str), ⟨1, [], [0]⟩), (("led" : Str), ⟨2, [], [0, 1]⟩), (("_law_pinched_tie" : Str), ⟨2, [], [0, 1]⟩), (("_law_blamed" : Str), ⟨2, [], [0, 1]⟩), (("_law_cell" : Str), ⟨2, [], [0, 1]⟩), (("_law_drawn_web" : Str), ⟨2, [], [0, 1]⟩), (("pieces" : Str), ⟨0, [("web" : Str)], [0]⟩), (("pieces" : Str), ⟨1, [], [0]⟩), (("pinched" : Str), ⟨0, [("j" : Str), ("i" : Str), ("web" : Str)], [2, 1, 0]⟩), (("pinched" : Str), ⟨3, [], [0, 1, 2]⟩), (("without_tie" : Str), ⟨0, [("index" : Str), ("web" : Str)], [1, 0]⟩), (("without_tie" : Str), ⟨2, [], [0, 1]⟩), (("pinched_tie" : Str), ⟨0, [("index" : Str), ("web" : Str)], [1, 0]⟩), (("pinched_tie" : Str), ⟨2, [], [0, 1]⟩), (("_law_marks_right" : Str), ⟨3, [], [0, 1, 2]⟩), (("_law_ties_right" : Str), ⟨3, [], [0, 1, 2]⟩), (("_law_pieces_right" : Str), ⟨3, [], [0, 1, 2]⟩), (("_law_refused_right" : Str), ⟨3, [], [0, 1, 2]⟩)] ++ [(("is_tie" : Str), ⟨2, [], [0, 1]⟩), (("_law_pinched" : Str), ⟨3, [], [0, 1, 2]⟩)]
def mkL : List (Str × Form) := [(("Web" : Str), ⟨3, [], [0, 1, 2, 3]⟩), (("Web" : Str), ⟨0, [("marks" : Str), ("ties" : Str), ("places" : Str)], [0, 3, 2, 1]⟩)]
def excL : List (Str × (List Str × Bool)) := [(("WebError" : Str), ([("given" : Str)], false)), (("InvalidMark" : Str), ([("given" : Str)], false)), (("InvalidMarks" : Str), ([("given" : Str)], false)), (("InvalidPlaces" : Str), ([("given" : Str)], false)), (("InvalidTie" : Str), ([("given" : Str)], false)), (("InvalidTies" : Str), ([("given" : Str)], false)), (("InvalidWeb" : Str), ([("given" : Str)], false))]
def fldL : List (Str × Str) := [(("places" : Str), ("Web" : Str)), (("ties" : Str), ("Web" : Str)), (("marks" : Str), ("Web" : Str))]
def excN : List Str := [("WebError" : Str), ("InvalidMark" : Str), ("InvalidMarks" : Str), ("InvalidPlaces" : Str), ("InvalidTie" : Str), ("InvalidTies" : Str), ("InvalidWeb" : Str)]
def excUp : List (Str × List Str) := [(("WebError" : Str), [("WebError" : Str)]), (("InvalidMark" : Str), [("InvalidMark" : Str), ("WebError" : Str)]), (("InvalidMarks" : Str), [("InvalidMarks" : Str), ("WebError" : Str)]), (("InvalidPlaces" : Str), [("InvalidPlaces" : Str), ("WebError" : Str)]), (("InvalidTie" : Str), [("InvalidTie" : Str), ("WebError" : Str)]), (("InvalidTies" : Str), [("InvalidTies" : Str), ("WebError" : Str)]), (("InvalidWeb" : Str), [("InvalidWeb" : Str), ("WebError" : Str)])]
def xfL : List (Str × List Str) := [(("WebError" : Str), [("given" : Str)]), (("InvalidMark" : Str), [("given" : Str)]), (("InvalidMarks" : Str), [("given" : Str)]), (("InvalidPlaces" : Str), [("given" : Str)]), (("InvalidTie" : Str), [("given" : Str)]), (("InvalidTies" : Str), [("given" : Str)]), (("InvalidWeb" : Str), [("given" : Str)])]
def freeL : List Str := [("len" : Str), ("abs" : Str), ("max" : Str), ("min" : Str), ("sum" : Str), ("all" : Str), ("isinstance" : Str), ("sorted" : Str), ("int" : Str), ("list" : Str), ("tuple" : Str), ("str" : Str), ("dict" : Str), ("range" : Str), ("enumerate" : Str), ("set" : Str)]
def mutL : List Pos := [⟨63, 12, 63, 43⟩, ⟨109, 34, 109, 41⟩, ⟨118, 70, 118, 72⟩, ⟨142, 19, 142, 30⟩, ⟨142, 32, 142, 34⟩, ⟨178, 39, 178, 41⟩, ⟨251, 12, 251, 14⟩, ⟨130, 11, 130, 80⟩, ⟨162, 15, 162, 50⟩, ⟨165, 17, 165, 52⟩]
def lockL : List Pos := [⟨164, 20, 164, 69⟩, ⟨154, 69, 154, 146⟩]
def mutB (p : Pos) : Bool := mutL.contains p
def tsL : List String := ["NoneType", "bool", "int", "str", "tuple", "list", "dict"]
def ownL : List Str := [("Web" : Str)]
def kit : Kit := kitT tsL ownL
def mtOf (T : String) (n : Str) : Option Mt := if T = "list" then (if n = "append" then some mtAppend else if n = "pop" then some mtPop else if n = "extend" then some mtExtend else if n = "index" then some mtIndex else none)
  else if T = "tuple" then (if n = "index" then some mtTIndex else none) else if T = "dict" then (if n = "get" then some mtGet else none) else none
/-- the text's tables, cf the defs, cm the __init__s -/
noncomputable def tbl (cf ci : Str → Fn) : Tb where
  glob := fun x => globL.lookup x
  fn := fun x n ks => (fnL.find? fun r => r.1 == x && r.2.n == n && r.2.ks == ks).map fun r => (r.2, cf x)
  mkc := fun x n ks => (mkL.find? fun r => r.1 == x && r.2.n == n && r.2.ks == ks).map fun r => (r.2, true, ci x)
  exc := fun x => excL.lookup x
  bi := fun x p => if x = ("len" : Str) then some ("len", opLen) else if x = ("abs" : Str) then some ("abs", opAbs) else if x = ("max" : Str) then some ("max", opMax) else if x = ("min" : Str) then some ("min", opMin) else if x = ("sum" : Str) then some ("sum", opSum) else if x = ("all" : Str) then some ("all", opAll) else if x = ("isinstance" : Str) then some ("isinstance", opIsi kit) else if x = ("sorted" : Str) then some ("sorted", opSorted (mutB p)) else none
  ty := fun x p => if x = ("int" : Str) then some ("int", opInt) else if x = ("list" : Str) then some ("list", opList (mutB p)) else if x = ("tuple" : Str) then some ("tuple", opTuple) else if x = ("str" : Str) then some ("str", opStr) else if x = ("dict" : Str) then some ("dict", opDictP) else none
  fl := fun f c => fldL.contains (f, c)
  xm := fun a b => (excUp.lookup a).bind fun l => if (excUp.map (·.1)).contains b then some (l.contains b) else none
  xf := fun a n => match xfL.lookup a with | some l => l.contains n | none => false
  hc := fun x => excN.contains x
  mt := fun T n => mtOf T n
  free := fun x => freeL.contains x
  mutp := mutB
  lockp := fun p => lockL.contains p
  loops := 100000
abbrev P : Program := PySem.Challenge.pw_seenbywebs_k12_webs_pinched_and_pieces
def isNm : Stmt → Str
  | .FunctionDef n .. => n
  | .ClassDef n .. => n
  | _ => ""
def fnAt (n : Str) : Stmt := (P.main.body.find? fun s => isNm s == n).getD default
def initAt (n : Str) : Stmt := ((C8.clsBody (fnAt n)).find? fun s => isNm s == "__init__").getD default
def dfD (x : Str) : He.DefD := ⟨(x, none), x, x, C8.fnArgs (fnAt x), C8.fnBody (fnAt x), C8.fnScope (fnAt x), [], []⟩
def inDf (x q : Str) : He.DefD := ⟨(x, some "__init__"), "__init__", q, C8.fnArgs (initAt x), C8.fnBody (initAt x), C8.fnScope (initAt x), [], []⟩
def exD (x q sf y n : Str) (dfl : Bool) (nx : Option Str) : InD := ⟨x, q, C8.fnArgs (initAt x), C8.fnBody (initAt x), C8.fnScope (initAt x), sf, y, n, dfl, nx⟩
def defsL : List Str := [("is_whole" : Str), ("is_name" : Str), ("is_place" : Str), ("is_tie" : Str), ("check_web" : Str), ("check_plain_web" : Str), ("neighbours_in" : Str), ("led" : Str), ("is_mark" : Str), ("check_mark" : Str), ("as_one" : Str), ("pinched" : Str), ("check_tie" : Str), ("less_tie" : Str), ("without_tie" : Str), ("pinched_tie" : Str), ("reached" : Str), ("pieces" : Str), ("_law_cell" : Str), ("_law_box" : Str)] ++ [("_law_take" : Str), ("_law_pick" : Str), ("_law_mixed" : Str), ("_law_same" : Str), ("_law_copied" : Str), ("_law_blamed" : Str), ("_law_is_web" : Str), ("_law_drawn_web" : Str), ("_law_made" : Str), ("_law_asked" : Str), ("_law_put" : Str), ("_law_pinched" : Str), ("_law_pinched_tie" : Str), ("_law_marks_right" : Str), ("_law_ties_right" : Str), ("_law_pieces" : Str), ("_law_pieces_right" : Str), ("_law_refused_right" : Str), ("law" : Str)]
def ex_WebError : InD := exD ("WebError" : Str) ("WebError.__init__" : Str) ("self" : Str) ("given" : Str) ("given" : Str) true none
def exc0L : List (Str × InD) := [(("WebError" : Str), ex_WebError), (("InvalidMark" : Str), ex_WebError), (("InvalidMarks" : Str), ex_WebError), (("InvalidPlaces" : Str), ex_WebError), (("InvalidTie" : Str), ex_WebError), (("InvalidTies" : Str), ex_WebError), (("InvalidWeb" : Str), ex_WebError)]
def exc1L : List (Str × InD × InD) := []
def cfg : Cfg := ⟨P, tsL, ownL, excUp, xfL, globL, fldL, freeL, defsL.map dfD, [inDf ("Web" : Str) ("Web.__init__" : Str)], [ex_WebError], exc0L, exc1L⟩
abbrev R : PySem.W.OpenRow := PySem.W.OpenLaw.row PySem.Challenge.rw_seenbywebs_k12_webs_pinched_and_pieces
abbrev qv : Program := PySem.W.view R.prog [57]
def names0 : List Str := [("WebError" : Str), ("InvalidMark" : Str), ("InvalidMarks" : Str), ("InvalidPlaces" : Str), ("InvalidTie" : Str), ("InvalidTies" : Str), ("InvalidWeb" : Str), ("is_whole" : Str), ("MOST_NAME" : Str), ("SIGNS" : Str), ("is_name" : Str), ("MOST_PLACES" : Str), ("MOST_TIES" : Str), ("TIE_PARTS" : Str), ("is_place" : Str), ("is_tie" : Str), ("Web" : Str), ("check_web" : Str), ("check_plain_web" : Str), ("neighbours_in" : Str), ("led" : Str), ("is_mark" : Str), ("check_mark" : Str), ("as_one" : Str), ("pinched" : Str), ("check_tie" : Str), ("less_tie" : Str), ("without_tie" : Str), ("pinched_tie" : Str), ("reached" : Str), ("pieces" : Str), ("_law_cell" : Str), ("_law_box" : Str), ("_law_take" : Str), ("_law_pick" : Str)]
def names1 : List Str := [("_law_mixed" : Str), ("_law_same" : Str), ("_law_copied" : Str), ("_law_blamed" : Str), ("_law_is_web" : Str), ("_law_drawn_web" : Str), ("_law_made" : Str), ("_law_asked" : Str), ("_law_put" : Str), ("_law_pinched" : Str), ("_law_pinched_tie" : Str), ("_law_marks_right" : Str), ("_law_ties_right" : Str), ("_law_pieces" : Str), ("_law_pieces_right" : Str), ("_law_refused_right" : Str)]
def names : List Str := names0 ++ names1
def ob (s : PySem.W.SharedT) : AlC := obsC cfg (He.frG (HandSHeadRun.getT s) (asC (HandSHeadRun.getT s) 5))
theorem run (w : World) : HandSHeadRun.RunEq R qv (hookC 5 cfg) ob 4000 names w := by
  intro os
  kernel_rfl
end Lk12

set_option Elab.async false
set_option linter.all false
set_option maxRecDepth 100000
set_option maxHeartbeats 0
namespace Lk12
open PySem PySem.Spec PyProof.Rows L2 Pv
def flF (f c : Str) : Bool := fldL.contains (f, c)
def xfF (a n : Str) : Bool := match xfL.lookup a with | some l => l.contains n | none => false
def xmF (a b : Str) : Option Bool := (excUp.lookup a).bind fun l => if (excUp.map (·.1)).contains b then some (l.contains b) else none
noncomputable def b_is_whole (cf ci : Str → Fn) : SV := (sSeq (sRet (eAnd (eCallB (opIsi kit) (aCons (eVar 0) (aCons (eC (.ty "int")) aNil))) (eNot (eCallB (opIsi kit) (aCons (eVar 0) (aCons (eC (.ty "bool")) aNil)))))) sNext)
noncomputable def b_is_name (cf ci : Str → Fn) : SV := (sSeq (sRet (eAnd (eCallB (opIsi kit) (aCons (eVar 0) (aCons (eC (.ty "str")) aNil))) (eAnd (eChain (isCmp .LtE) (isCmp .LtE) (eC (.int 1)) (eCallB opLen (aCons (eVar 0) aNil)) (eC (.int 12))) (eCallB opAll (aCons (eLc false [1] (iVal (eVar 0)) (gNm 1) tYesD (eBin (isCmp .In) (eVar 1) (eC (.str ("abcdefghijklmnopqrstuvwxyz" : Str))))) aNil))))) sNext)
noncomputable def b_is_place (cf ci : Str → Fn) : SV := (sSeq (sRet (eAnd (eCall ⟨1, [], [0]⟩ (cf ("is_whole" : Str)) (aCons (eVar 1) aNil) aNil) (eChain (isCmp .LtE) (isCmp .Lt) (eC (.int 0)) (eVar 1) (eVar 0)))) sNext)
noncomputable def b_is_tie (cf ci : Str → Fn) : SV := (sSeq (sIf (tOrD (tNotD (tTru (eCallB (opIsi kit) (aCons (eVar 1) (aCons (eC (.ty "tuple")) aNil))))) (tOrD (tBl (eBin (isCmp .NotEq) (eCallB opLen (aCons (eVar 1) aNil)) (eC (.int 3)))) (tNotD (tTru (eCall ⟨1, [], [0]⟩ (cf ("is_name" : Str)) (aCons (eBin isIx (eVar 1) (eC (.int 0))) aNil) aNil))))) (sSeq (sRet (eC (.bl false))) sNext) sNext) (sSeq (sRet (eAnd (eCall ⟨2, [], [0, 1]⟩ (cf ("is_place" : Str)) (aCons (eVar 0) (aCons (eBin isIx (eVar 1) (eC (.int 1))) aNil)) aNil) (eCall ⟨2, [], [0, 1]⟩ (cf ("is_place" : Str)) (aCons (eVar 0) (aCons (eBin isIx (eVar 1) (eC (.int 2))) aNil)) aNil))) sNext))
noncomputable def b_check_web (cf ci : Str → Fn) : SV := (sSeq (sIf (tNotD (tTru (eCallB (opIsi kit) (aCons (eVar 0) (aCons (eC (.cls ("Web" : Str))) aNil))))) (sSeq (sRaise1 ("InvalidWeb" : Str) [("given" : Str)] (eVar 0)) sNext) sNext) sNext)
noncomputable def b_check_plain_web (cf ci : Str → Fn) : SV := (sSeq (sIf (tOrD (tNotD (tTru (eCallB (opIsi kit) (aCons (eVar 0) (aCons (eC (.cls ("Web" : Str))) aNil))))) (tBl (eBin (isCmp .NotEq) (eFld (flF ("marks" : Str)) ("marks" : Str) (eVar 0)) (eTup aNil)))) (sSeq (sRaise1 ("InvalidWeb" : Str) [("given" : Str)] (eVar 0)) sNext) sNext) sNext)
noncomputable def b_neighbours_in (cf ci : Str → Fn) : SV := (sSeq (sSet 1 (eLc true [2] (iRng itRng1 (aCons (eFld (flF ("places" : Str)) ("places" : Str) (eVar 0)) aNil)) (gNm 2) tYesD eDict0)) (sSeq (sFor (iVal (eFld (flF ("ties" : Str)) ("ties" : Str) (eVar 0))) (gTp 3 (gsCons (gNm 2) (gsCons (gNm 3) (gsCons (gNm 4) gsNil)))) (sSeq (sIf (tBl (eBin (isCmp .NotEq) (eVar 3) (eVar 4))) (sSeq (sAsg (gSb (eBin isIx (eVar 1) (eVar 3)) (eVar 4)) (eC (.bl true))) (sSeq (sAsg (gSb (eBin isIx (eVar 1) (eVar 4)) (eVar 3)) (eC (.bl true))) sNext)) sNext) sNext)) (sSeq (sRet (eLc false [5] (iVal (eVar 1)) (gNm 5) tYesD (eCallB (opSortedX false) (aCons (eVar 5) aNil)))) sNext)))
noncomputable def b_led (cf ci : Str → Fn) : SV := (sSeq (sRet (eLc false [2, 3, 4] (iVal (eVar 0)) (gTp 3 (gsCons (gNm 2) (gsCons (gNm 3) (gsCons (gNm 4) gsNil)))) tYesD (eTup (aCons (eVar 2) (aCons (eBin isIx (eVar 1) (eVar 3)) (aCons (eBin isIx (eVar 1) (eVar 4)) aNil)))))) sNext)
noncomputable def b_is_mark (cf ci : Str → Fn) : SV := (sSeq (sRet (eAnd (eCall ⟨1, [], [0]⟩ (cf ("is_whole" : Str)) (aCons (eVar 1) aNil) aNil) (eChain (isCmp .LtE) (isCmp .Lt) (eC (.int 0)) (eVar 1) (eCallB opLen (aCons (eFld (flF ("marks" : Str)) ("marks" : Str) (eVar 0)) aNil))))) sNext)
noncomputable def b_check_mark (cf ci : Str → Fn) : SV := (sSeq (sIf (tNotD (tTru (eCall ⟨2, [], [0, 1]⟩ (cf ("is_mark" : Str)) (aCons (eVar 0) (aCons (eVar 1) aNil)) aNil))) (sSeq (sRaise1 ("InvalidMark" : Str) [("given" : Str)] (eVar 1)) sNext) sNext) sNext)
noncomputable def b_as_one (cf ci : Str → Fn) : SV := (sSeq (sSet 4 eDict0) (sSeq (sFor (iRng itRng1 (aCons (eFld (flF ("places" : Str)) ("places" : Str) (eVar 0)) aNil)) (gNm 5) (sSeq (sSet 6 (eIf (tBl (eBin (isCmp .Eq) (eVar 5) (eVar 2))) (eVar 1) (eVar 5))) (sSeq (sAsg (gSb (eVar 4) (eVar 5)) (eIf (tBl (eBin (isCmp .Gt) (eVar 6) (eVar 2))) (eBin (isBin .Sub) (eVar 6) (eC (.int 1))) (eVar 6))) sNext))) (sSeq (sRet (eMake true ("Web" : Str) ⟨3, [], [0, 1, 2, 3]⟩ (ci ("Web" : Str)) (aCons (eBin (isBin .Sub) (eFld (flF ("places" : Str)) ("places" : Str) (eVar 0)) (eC (.int 1))) (aCons (eCallB opTuple (aCons (eCall ⟨2, [], [0, 1]⟩ (cf ("led" : Str)) (aCons (eFld (flF ("ties" : Str)) ("ties" : Str) (eVar 0)) (aCons (eVar 4) aNil)) aNil) aNil)) (aCons (eCallB opTuple (aCons (eLc false [5] (iVal (eVar 3)) (gNm 5) tYesD (eBin isIx (eVar 4) (eVar 5))) aNil)) aNil))) aNil)) sNext)))
noncomputable def b_pinched (cf ci : Str → Fn) : SV := (sSeq (sDrop (eCall ⟨1, [], [0]⟩ (cf ("check_web" : Str)) (aCons (eVar 0) aNil) aNil)) (sSeq (sDrop (eCall ⟨2, [], [0, 1]⟩ (cf ("check_mark" : Str)) (aCons (eVar 0) (aCons (eVar 1) aNil)) aNil)) (sSeq (sIf (tOrD (tNotD (tTru (eCall ⟨2, [], [0, 1]⟩ (cf ("is_mark" : Str)) (aCons (eVar 0) (aCons (eVar 2) aNil)) aNil))) (tBl (eBin (isCmp .Eq) (eVar 2) (eVar 1)))) (sSeq (sRaise1 ("InvalidMark" : Str) [("given" : Str)] (eVar 2)) sNext) sNext) (sSeq (sSet 3 (eLst (aStar (eSl (eFld (flF ("marks" : Str)) ("marks" : Str) (eVar 0)) pNone (pSome (eVar 2))) (aStar (eSl (eFld (flF ("marks" : Str)) ("marks" : Str) (eVar 0)) (pSome (eBin (isBin .Add) (eVar 2) (eC (.int 1)))) pNone) aNil)))) (sSeq (sRet (eCall ⟨4, [], [0, 1, 2, 3]⟩ (cf ("as_one" : Str)) (aCons (eVar 0) (aCons (eBin isIx (eFld (flF ("marks" : Str)) ("marks" : Str) (eVar 0)) (eVar 1)) (aCons (eBin isIx (eFld (flF ("marks" : Str)) ("marks" : Str) (eVar 0)) (eVar 2)) (aCons (eVar 3) aNil)))) aNil)) sNext)))))
noncomputable def b_check_tie (cf ci : Str → Fn) : SV := (sSeq (sIf (tOrD (tNotD (tTru (eCall ⟨1, [], [0]⟩ (cf ("is_whole" : Str)) (aCons (eVar 1) aNil) aNil))) (tNotD (tBl (eChain (isCmp .LtE) (isCmp .Lt) (eC (.int 0)) (eVar 1) (eCallB opLen (aCons (eFld (flF ("ties" : Str)) ("ties" : Str) (eVar 0)) aNil)))))) (sSeq (sRaise1 ("InvalidTie" : Str) [("given" : Str)] (eVar 1)) sNext) sNext) sNext)
noncomputable def b_less_tie (cf ci : Str → Fn) : SV := (sSeq (sRet (eMake true ("Web" : Str) ⟨3, [], [0, 1, 2, 3]⟩ (ci ("Web" : Str)) (aCons (eFld (flF ("places" : Str)) ("places" : Str) (eVar 0)) (aCons (eTup (aStar (eSl (eFld (flF ("ties" : Str)) ("ties" : Str) (eVar 0)) pNone (pSome (eVar 1))) (aStar (eSl (eFld (flF ("ties" : Str)) ("ties" : Str) (eVar 0)) (pSome (eBin (isBin .Add) (eVar 1) (eC (.int 1)))) pNone) aNil))) (aCons (eFld (flF ("marks" : Str)) ("marks" : Str) (eVar 0)) aNil))) aNil)) sNext)
noncomputable def b_without_tie (cf ci : Str → Fn) : SV := (sSeq (sDrop (eCall ⟨1, [], [0]⟩ (cf ("check_web" : Str)) (aCons (eVar 0) aNil) aNil)) (sSeq (sDrop (eCall ⟨2, [], [0, 1]⟩ (cf ("check_tie" : Str)) (aCons (eVar 0) (aCons (eVar 1) aNil)) aNil)) (sSeq (sRet (eCall ⟨2, [], [0, 1]⟩ (cf ("less_tie" : Str)) (aCons (eVar 0) (aCons (eVar 1) aNil)) aNil)) sNext)))
noncomputable def b_pinched_tie (cf ci : Str → Fn) : SV := (sSeq (sDrop (eCall ⟨1, [], [0]⟩ (cf ("check_web" : Str)) (aCons (eVar 0) aNil) aNil)) (sSeq (sDrop (eCall ⟨2, [], [0, 1]⟩ (cf ("check_tie" : Str)) (aCons (eVar 0) (aCons (eVar 1) aNil)) aNil)) (sSeq (sAsg (gTp 3 (gsCons (gNm 3) (gsCons (gNm 4) (gsCons (gNm 5) gsNil)))) (eBin isIx (eFld (flF ("ties" : Str)) ("ties" : Str) (eVar 0)) (eVar 1))) (sSeq (sIf (tOrD (tBl (eBin (isCmp .Eq) (eVar 4) (eVar 5))) (tAndD (tBl (eBin (isCmp .In) (eVar 4) (eFld (flF ("marks" : Str)) ("marks" : Str) (eVar 0)))) (tBl (eBin (isCmp .In) (eVar 5) (eFld (flF ("marks" : Str)) ("marks" : Str) (eVar 0)))))) (sSeq (sRaise1 ("InvalidTie" : Str) [("given" : Str)] (eVar 1)) sNext) sNext) (sSeq (sAsg (gTp 2 (gsCons (gNm 6) (gsCons (gNm 7) gsNil))) (eTup (aCons (eCallB opMin (aCons (eVar 4) (aCons (eVar 5) aNil))) (aCons (eCallB opMax (aCons (eVar 4) (aCons (eVar 5) aNil))) aNil)))) (sSeq (sSet 2 (eLc false [8] (iVal (eFld (flF ("marks" : Str)) ("marks" : Str) (eVar 0))) (gNm 8) tYesD (eIf (tBl (eBin (isCmp .Eq) (eVar 8) (eVar 7))) (eVar 6) (eVar 8)))) (sSeq (sRet (eCall ⟨4, [], [0, 1, 2, 3]⟩ (cf ("as_one" : Str)) (aCons (eCall ⟨2, [], [0, 1]⟩ (cf ("less_tie" : Str)) (aCons (eVar 0) (aCons (eVar 1) aNil)) aNil) (aCons (eVar 6) (aCons (eVar 7) (aCons (eVar 2) aNil)))) aNil)) sNext)))))))
noncomputable def b_reached (cf ci : Str → Fn) : SV := (sSeq (sAsg (gTp 2 (gsCons (gNm 2) (gsCons (gNm 3) gsNil))) (eTup (aCons (eDisp [((eVar 1), (eC (.bl true)))]) (aCons (eLstM (aCons (eVar 1) aNil)) aNil)))) (sSeq (whD (tBl (eBin (isCmp .NotEq) (eVar 3) (eLst aNil))) (sSeq (sSet 4 (eMeth mtT ("pop" : Str) (eVar 3) aNil)) (sSeq (sSet 5 (eLc false [6] (iVal (eBin isIx (eVar 0) (eVar 4))) (gNm 6) (tBl (eBin (isCmp .NotIn) (eVar 6) (eVar 2))) (eVar 6))) (sSeq (sDrop (eMeth mtT ("update" : Str) (eVar 2) (aCons (eDc [6] (iVal (eVar 5)) (gNm 6) tYesD (eVar 6) (eC (.bl true))) aNil))) (sSeq (sDrop (eMeth mtT ("extend" : Str) (eVar 3) (aCons (eVar 5) aNil))) sNext)))) 100000) (sSeq (sRet (eCallB (opSortedX false) (aCons (eVar 2) aNil))) sNext)))
noncomputable def b_pieces (cf ci : Str → Fn) : SV := (sSeq (sDrop (eCall ⟨1, [], [0]⟩ (cf ("check_plain_web" : Str)) (aCons (eVar 0) aNil) aNil)) (sSeq (sPar3 1 2 3 (aCons (eCall ⟨1, [], [0]⟩ (cf ("neighbours_in" : Str)) (aCons (eVar 0) aNil) aNil) (aCons (eLstRg false (eFld (flF ("places" : Str)) ("places" : Str) (eVar 0))) (aCons (eLstM aNil) aNil)))) (sSeq (whD (tBl (eBin (isCmp .NotEq) (eVar 2) (eLst aNil))) (sSeq (sSet 4 (eCall ⟨2, [], [0, 1]⟩ (cf ("reached" : Str)) (aCons (eVar 1) (aCons (eBin isIx (eVar 2) (eC (.int 0))) aNil)) aNil)) (sSeq (sSet 5 (eDc [9, 8] (iEnumD (eVar 4)) (gTp 2 (gsCons (gNm 9) (gsCons (gNm 8) gsNil))) tYesD (eVar 8) (eVar 9))) (sSeq (sSet 6 (eLc false [7] (iVal (eFld (flF ("ties" : Str)) ("ties" : Str) (eVar 0))) (gNm 7) (tBl (eBin (isCmp .In) (eBin isIx (eVar 7) (eC (.int 1))) (eVar 5))) (eVar 7))) (sSeq (sDrop (eMeth mtT ("append" : Str) (eVar 3) (aCons (eMake true ("Web" : Str) ⟨3, [], [0, 1, 2, 3]⟩ (ci ("Web" : Str)) (aCons (eCallB opLen (aCons (eVar 4) aNil)) (aCons (eCallB opTuple (aCons (eCall ⟨2, [], [0, 1]⟩ (cf ("led" : Str)) (aCons (eVar 6) (aCons (eVar 5) aNil)) aNil) aNil)) (aCons (eTup aNil) aNil))) aNil) aNil))) (sSeq (sSet 2 (eLc false [8] (iVal (eVar 2)) (gNm 8) (tBl (eBin (isCmp .NotIn) (eVar 8) (eVar 5))) (eVar 8))) sNext))))) 100000) (sSeq (sRet (eVar 3)) sNext))))
noncomputable def b__law_cell (cf ci : Str → Fn) : SV := (sSeq (sRet (eIf (tBl (eBin (isCmp .Lt) (eVar 1) (eCallB opLen (aCons (eVar 0) aNil)))) (eBin isIx (eVar 0) (eVar 1)) (eBin (isBin .Add) (eBin (isBin .Mult) (eC (.int 6727)) (eVar 1)) (eBin (isBin .Mod) (eCallB opInt (aCons (eCallB opSum (aCons (eSl (eVar 0) pNone (pSome (eC (.int 1)))) aNil)) aNil)) (eC (.int 1000075)))))) sNext)
noncomputable def b__law_box (cf ci : Str → Fn) : SV := (sSeq (sRet (eLstM (aCons (eCallB opAbs (aCons (eVar 0) aNil)) (aCons (eBin (isCmp .GtE) (eCallB opAbs (aCons (eVar 0) aNil)) (eBin (isBin .Pow) (eC (.int 10)) (eC (.int 18)))) (aCons (eBin (isBin .Mod) (eCallB opInt (aCons (eCallB opAbs (aCons (eVar 0) aNil)) aNil)) (eC (.int 2147483629))) (aCons (eC (.int 0)) aNil)))))) sNext)
noncomputable def b__law_take (cf ci : Str → Fn) : SV := (sSeq (sIf (tAndD (tTru (eBin isIx (eVar 0) (eC (.int 1)))) (tBl (eBin (isCmp .Gt) (eBin isIx (eVar 0) (eC (.int 0))) (eC (.int 0))))) (sSeq (sSet 3 (eBin (isBin .Mod) (eCallB opInt (aCons (eBin isIx (eVar 0) (eC (.int 0))) aNil)) (eVar 1))) (sSeq (sAsg (gSb (eVar 0) (eC (.int 0))) (eBin (isBin .FloorDiv) (eBin isIx (eVar 0) (eC (.int 0))) (eVar 1))) (sSeq (sRet (eVar 3)) sNext))) sNext) (sSeq (sAsg (gSb (eVar 0) (eC (.int 3))) (eBin (isBin .Add) (eBin isIx (eVar 0) (eC (.int 3))) (eC (.int 1)))) (sSeq (sSet 2 (eBin (isBin .Mod) (eCallB opInt (aCons (eBin (isBin .Pow) (eBin (isBin .Add) (eBin (isBin .Add) (eBin isIx (eVar 0) (eC (.int 2))) (eBin (isBin .Mult) (eC (.int 15489325)) (eBin isIx (eVar 0) (eC (.int 3))))) (eC (.int 179433361))) (eC (.int 5))) aNil)) (eC (.int 2147483647)))) (sSeq (sRet (eBin (isBin .Mod) (eCallB opInt (aCons (eBin (isBin .FloorDiv) (eBin (isBin .Mod) (eCallB opInt (aCons (eBin (isBin .Pow) (eBin (isBin .Add) (eBin (isBin .Mult) (eVar 2) (eC (.int 48271))) (eBin (isBin .Mult) (eC (.int 105479)) (eBin isIx (eVar 0) (eC (.int 3))))) (eC (.int 3))) aNil)) (eC (.int 2147483587))) (eC (.int 64))) aNil)) (eVar 1))) sNext))))
noncomputable def b__law_pick (cf ci : Str → Fn) : SV := (sSeq (sRet (eBin isIx (eVar 1) (eCall ⟨2, [], [0, 1]⟩ (cf ("_law_take" : Str)) (aCons (eVar 0) (aCons (eCallB opLen (aCons (eVar 1) aNil)) aNil)) aNil))) sNext)
noncomputable def b__law_mixed (cf ci : Str → Fn) : SV := (sSeq (sPar2 2 3 (aCons (eCallB (opList true) (aCons (eVar 1) aNil)) (aCons (eLstM aNil) aNil))) (sSeq (whD (tBl (eBin (isCmp .NotEq) (eVar 2) (eLst aNil))) (sSeq (sDrop (eMeth mtT ("append" : Str) (eVar 3) (aCons (eMeth mtT ("pop" : Str) (eVar 2) (aCons (eCall ⟨2, [], [0, 1]⟩ (cf ("_law_take" : Str)) (aCons (eVar 0) (aCons (eCallB opLen (aCons (eVar 2) aNil)) aNil)) aNil) aNil)) aNil))) sNext) 100000) (sSeq (sRet (eVar 3)) sNext)))
noncomputable def b__law_same (cf ci : Str → Fn) : SV := (sSeq (sIf (tOrD (tBl (eBin (isCmp .Is) (eVar 1) (eC .non))) (tTru (eCallB (opIsi kit) (aCons (eVar 1) (aCons (eC (.ty "bool")) aNil))))) (sSeq (sRet (eIf (tBl (eBin (isCmp .Is) (eVar 1) (eC .non))) (eBin (isCmp .Is) (eVar 0) (eC .non)) (eAnd (eCallB (opIsi kit) (aCons (eVar 0) (aCons (eC (.ty "bool")) aNil))) (eBin (isCmp .Eq) (eBin (isCmp .Is) (eVar 0) (eC (.bl true))) (eBin (isCmp .Is) (eVar 1) (eC (.bl true))))))) sNext) sNext) (sSeq (sIf (tTru (eCallB (opIsi kit) (aCons (eVar 1) (aCons (eC (.ty "int")) aNil)))) (sSeq (sRet (eAnd (eCallB (opIsi kit) (aCons (eVar 0) (aCons (eC (.ty "int")) aNil))) (eAnd (eNot (eCallB (opIsi kit) (aCons (eVar 0) (aCons (eC (.ty "bool")) aNil)))) (eBin (isCmp .Eq) (eBin (isBin .Sub) (eCallB opInt (aCons (eVar 0) aNil)) (eVar 1)) (eC (.int 0)))))) sNext) sNext) (sSeq (sIf (tTru (eCallB (opIsi kit) (aCons (eVar 1) (aCons (eC (.ty "str")) aNil)))) (sSeq (sRet (eAnd (eCallB (opIsi kit) (aCons (eVar 0) (aCons (eC (.ty "str")) aNil))) (eAnd (eBin (isCmp .Eq) (eCallB opLen (aCons (eVar 0) aNil)) (eCallB opLen (aCons (eVar 1) aNil))) (eBin (isCmp .Eq) (eLc false [2] (iRng itRng1 (aCons (eCallB opLen (aCons (eVar 1) aNil)) aNil)) (gNm 2) (tBl (eBin (isCmp .NotEq) (eSl (eVar 0) (pSome (eVar 2)) (pSome (eBin (isBin .Add) (eVar 2) (eC (.int 1))))) (eBin isIx (eVar 1) (eVar 2)))) (eVar 2)) (eLst aNil))))) sNext) sNext) (sSeq (sIf (tTru (eCallB (opIsi kit) (aCons (eVar 1) (aCons (eC (.ty "dict")) aNil)))) (sSeq (sRet (eAnd (eCallB (opIsi kit) (aCons (eVar 0) (aCons (eC (.ty "dict")) aNil))) (eAnd (eBin (isCmp .Eq) (eCallB opLen (aCons (eVar 0) aNil)) (eCallB opLen (aCons (eVar 1) aNil))) (eBin (isCmp .Eq) (eLock 1 (eLc false [3] (iVal (eVar 1)) (gNm 3) (tOrD (tBl (eBin (isCmp .NotIn) (eVar 3) (eVar 0))) (tNotD (tTru (eCall ⟨2, [], [0, 1]⟩ (cf ("_law_same" : Str)) (aCons (eBin isIx (eVar 0) (eVar 3)) (aCons (eBin isIx (eVar 1) (eVar 3)) aNil)) aNil)))) (eVar 3))) (eLst aNil))))) sNext) sNext) (sSeq (sIf (tOrD (tNotD (tTru (eCallB (opIsi kit) (aCons (eVar 1) (aCons (eTup (aCons (eC (.ty "list")) (aCons (eC (.ty "tuple")) aNil))) aNil))))) (tNotD (tTru (eCallB (opIsi kit) (aCons (eVar 0) (aCons (eTup (aCons (eC (.ty "list")) (aCons (eC (.ty "tuple")) aNil))) aNil)))))) (sSeq (sRet (eC (.bl false))) sNext) sNext) (sSeq (sIf (tOrD (tBl (eBin (isCmp .NotEq) (eCallB (opIsi kit) (aCons (eVar 0) (aCons (eC (.ty "list")) aNil))) (eCallB (opIsi kit) (aCons (eVar 1) (aCons (eC (.ty "list")) aNil))))) (tBl (eBin (isCmp .NotEq) (eCallB opLen (aCons (eVar 0) aNil)) (eCallB opLen (aCons (eVar 1) aNil))))) (sSeq (sRet (eC (.bl false))) sNext) sNext) (sSeq (sRet (eBin (isCmp .Eq) (eLc false [2] (iRng itRng1 (aCons (eCallB opLen (aCons (eVar 1) aNil)) aNil)) (gNm 2) (tNotD (tTru (eCall ⟨2, [], [0, 1]⟩ (cf ("_law_same" : Str)) (aCons (eBin isIx (eVar 0) (eVar 2)) (aCons (eBin isIx (eVar 1) (eVar 2)) aNil)) aNil))) (eVar 2)) (eLst aNil))) sNext)))))))
noncomputable def b__law_copied (cf ci : Str → Fn) : SV := (sSeq (sIf (tTru (eCallB (opIsi kit) (aCons (eVar 0) (aCons (eC (.ty "list")) aNil)))) (sSeq (sRet (eLc true [1] (iVal (eVar 0)) (gNm 1) tYesD (eCall ⟨1, [], [0]⟩ (cf ("_law_copied" : Str)) (aCons (eVar 1) aNil) aNil))) sNext) sNext) (sSeq (sIf (tTru (eCallB (opIsi kit) (aCons (eVar 0) (aCons (eC (.ty "dict")) aNil)))) (sSeq (sRet (eCallB opDictP (aCons (eLock 0 (eLc false [2] (iVal (eVar 0)) (gNm 2) tYesD (eTup (aCons (eVar 2) (aCons (eCall ⟨1, [], [0]⟩ (cf ("_law_copied" : Str)) (aCons (eBin isIx (eVar 0) (eVar 2)) aNil) aNil) aNil))))) aNil))) sNext) sNext) (sSeq (sRet (eIf (tTru (eCallB (opIsi kit) (aCons (eVar 0) (aCons (eC (.ty "tuple")) aNil)))) (eCallB opTuple (aCons (eLc true [1] (iVal (eVar 0)) (gNm 1) tYesD (eCall ⟨1, [], [0]⟩ (cf ("_law_copied" : Str)) (aCons (eVar 1) aNil) aNil)) aNil)) (eVar 0))) sNext)))
noncomputable def b__law_blamed (cf ci : Str → Fn) : SV := (sSeq (sIf (tNotD (tTru (eCall ⟨2, [], [0, 1]⟩ (cf ("_law_same" : Str)) (aCons (eVar 0) (aCons (eVar 1) aNil)) aNil))) (sSeq (sRet (eC (.bl false))) sNext) sNext) (sSeq (sFor (iVal (eBin (isBin .Add) (eLst (aCons (eVar 1) aNil)) (eIf (tTru (eCallB (opIsi kit) (aCons (eVar 1) (aCons (eTup (aCons (eC (.ty "list")) (aCons (eC (.ty "tuple")) aNil))) aNil)))) (eCallB (opList false) (aCons (eVar 1) aNil)) (eLst aNil)))) (gNm 2) (sSeq (sIf (tTru (eCallB (opIsi kit) (aCons (eVar 2) (aCons (eC (.ty "list")) aNil)))) (sSeq (sDrop (eMeth mtT ("append" : Str) (eVar 2) (aCons (eC (.str ("more" : Str))) aNil))) sNext) sNext) (sSeq (sIf (tTru (eCallB (opIsi kit) (aCons (eVar 2) (aCons (eC (.ty "dict")) aNil)))) (sSeq (sAsg (gSb (eVar 2) (eC (.str ("more" : Str)))) (eC (.int 7))) sNext) sNext) sNext))) (sSeq (sRet (eCall ⟨2, [], [0, 1]⟩ (cf ("_law_same" : Str)) (aCons (eVar 0) (aCons (eVar 1) aNil)) aNil)) sNext)))
noncomputable def b__law_is_web (cf ci : Str → Fn) : SV := (sSeq (sRet (eAnd (eCallB (opIsi kit) (aCons (eVar 0) (aCons (eC (.cls ("Web" : Str))) aNil))) (eCall ⟨2, [], [0, 1]⟩ (cf ("_law_same" : Str)) (aCons (eLst (aCons (eFld (flF ("places" : Str)) ("places" : Str) (eVar 0)) (aCons (eFld (flF ("ties" : Str)) ("ties" : Str) (eVar 0)) (aCons (eFld (flF ("marks" : Str)) ("marks" : Str) (eVar 0)) aNil)))) (aCons (eLst (aCons (eBin isIx (eVar 1) (eC (.int 0))) (aCons (eCallB opTuple (aCons (eCallB (opSortedX false) (aCons (eBin isIx (eVar 1) (eC (.int 1))) aNil)) aNil)) (aCons (eBin isIx (eVar 1) (eC (.int 2))) aNil)))) aNil)) aNil))) sNext)
noncomputable def b__law_drawn_web (cf ci : Str → Fn) : SV := (sSeq (sPar2 4 5 (aCons (eCall ⟨2, [], [0, 1]⟩ (cf ("_law_take" : Str)) (aCons (eVar 0) (aCons (eC (.int 8)) aNil)) aNil) (aCons (eLstM aNil) aNil))) (sSeq (sPar2 6 7 (aCons (eCall ⟨2, [], [0, 1]⟩ (cf ("_law_pick" : Str)) (aCons (eVar 0) (aCons (eLst (aCons (eLst (aCons (eC (.str ("a" : Str))) aNil)) (aCons (eLst (aCons (eC (.str ("a" : Str))) (aCons (eC (.str ("b" : Str))) aNil))) (aCons (eLst (aCons (eC (.str ("z" : Str))) (aCons (eC (.str ("ab" : Str))) aNil))) aNil)))) aNil)) aNil) (aCons (eCall ⟨2, [], [0, 1]⟩ (cf ("_law_mixed" : Str)) (aCons (eVar 0) (aCons (eLstRg false (eVar 4)) aNil)) aNil) aNil))) (sSeq (sSet 2 (eIf (tBl (eBin (isCmp .Gt) (eVar 4) (eC (.int 0)))) (eBin (isBin .Add) (eC (.int 1)) (eCall ⟨2, [], [0, 1]⟩ (cf ("_law_take" : Str)) (aCons (eVar 0) (aCons (eVar 4) aNil)) aNil)) (eC (.int 0)))) (sSeq (sFor (iRng itRng1 (aCons (eIf (tBl (eBin (isCmp .Gt) (eVar 4) (eC (.int 0)))) (eCall ⟨2, [], [0, 1]⟩ (cf ("_law_pick" : Str)) (aCons (eVar 0) (aCons (eLst (aCons (eC (.int 0)) (aCons (eC (.int 2)) (aCons (eC (.int 4)) (aCons (eC (.int 7)) (aCons (eC (.int 9)) aNil)))))) aNil)) aNil) (eC (.int 0))) aNil)) (gNm 3) (sSeq (sSet 8 (eIf (tOrD (tBl (eBin (isCmp .Eq) (eCall ⟨2, [], [0, 1]⟩ (cf ("_law_take" : Str)) (aCons (eVar 0) (aCons (eC (.int 2)) aNil)) aNil) (eC (.int 0)))) (tBl (eBin (isCmp .Eq) (eVar 2) (eVar 4)))) (eSl (eVar 7) pNone (pSome (eVar 2))) (eSl (eVar 7) (pSome (eVar 2)) pNone))) (sSeq (sSet 9 (eTup (aCons (eCall ⟨2, [], [0, 1]⟩ (cf ("_law_pick" : Str)) (aCons (eVar 0) (aCons (eVar 6) aNil)) aNil) (aCons (eCall ⟨2, [], [0, 1]⟩ (cf ("_law_pick" : Str)) (aCons (eVar 0) (aCons (eVar 8) aNil)) aNil) (aCons (eCall ⟨2, [], [0, 1]⟩ (cf ("_law_pick" : Str)) (aCons (eVar 0) (aCons (eVar 8) aNil)) aNil) aNil))))) (sSeq (sDrop (eMeth mtT ("append" : Str) (eVar 5) (aCons (eIf (tAndD (tBl (eBin (isCmp .NotEq) (eVar 5) (eLst aNil))) (tBl (eBin (isCmp .Eq) (eCall ⟨2, [], [0, 1]⟩ (cf ("_law_take" : Str)) (aCons (eVar 0) (aCons (eC (.int 4)) aNil)) aNil) (eC (.int 0))))) (eCall ⟨2, [], [0, 1]⟩ (cf ("_law_pick" : Str)) (aCons (eVar 0) (aCons (eVar 5) aNil)) aNil) (eVar 9)) aNil))) (sSeq (sIf (tBl (eBin (isCmp .Eq) (eCall ⟨2, [], [0, 1]⟩ (cf ("_law_take" : Str)) (aCons (eVar 0) (aCons (eC (.int 5)) aNil)) aNil) (eC (.int 0)))) (sSeq (sDrop (eMeth mtT ("append" : Str) (eVar 5) (aCons (eTup (aCons (eCall ⟨2, [], [0, 1]⟩ (cf ("_law_pick" : Str)) (aCons (eVar 0) (aCons (eVar 6) aNil)) aNil) (aCons (eBin isIx (eVar 9) (eC (.int 2))) (aCons (eBin isIx (eVar 9) (eC (.int 1))) aNil)))) aNil))) sNext) sNext) sNext))))) (sSeq (sRet (eTup (aCons (eVar 4) (aCons (eCallB opTuple (aCons (eVar 5) aNil)) (aCons (eCallB opTuple (aCons (eSl (eCall ⟨2, [], [0, 1]⟩ (cf ("_law_mixed" : Str)) (aCons (eVar 0) (aCons (eLstRg false (eVar 4)) aNil)) aNil) pNone (pSome (eCallB opMin (aCons (eVar 1) (aCons (eVar 4) aNil))))) aNil)) aNil))))) sNext)))))
noncomputable def b__law_made (cf ci : Str → Fn) : SV := (sSeq (sRet (eIf (tTru (eVar 1)) (eMake true ("Web" : Str) ⟨0, [("marks" : Str), ("ties" : Str), ("places" : Str)], [0, 3, 2, 1]⟩ (ci ("Web" : Str)) aNil (aCons (eBin isIx (eVar 0) (eC (.int 2))) (aCons (eBin isIx (eVar 0) (eC (.int 1))) (aCons (eBin isIx (eVar 0) (eC (.int 0))) aNil)))) (eMake true ("Web" : Str) ⟨3, [], [0, 1, 2, 3]⟩ (ci ("Web" : Str)) (aCons (eBin isIx (eVar 0) (eC (.int 0))) (aCons (eBin isIx (eVar 0) (eC (.int 1))) (aCons (eBin isIx (eVar 0) (eC (.int 2))) aNil))) aNil))) sNext)
noncomputable def b__law_asked (cf ci : Str → Fn) : SV := (sSeq (sTry xmF (sSeq (sIf (tBl (eBin (isCmp .Eq) (eVar 0) (eC (.int 0)))) (sSeq (sRet (eLst (aCons (eC (.str ("told" : Str))) (aCons (eIf (tTru (eVar 2)) (eCall ⟨0, [("j" : Str), ("i" : Str), ("web" : Str)], [2, 1, 0]⟩ (cf ("pinched" : Str)) aNil (aCons (eBin isIx (eVar 1) (eC (.int 2))) (aCons (eBin isIx (eVar 1) (eC (.int 1))) (aCons (eBin isIx (eVar 1) (eC (.int 0))) aNil)))) (eCall ⟨3, [], [0, 1, 2]⟩ (cf ("pinched" : Str)) (aCons (eBin isIx (eVar 1) (eC (.int 0))) (aCons (eBin isIx (eVar 1) (eC (.int 1))) (aCons (eBin isIx (eVar 1) (eC (.int 2))) aNil))) aNil)) aNil)))) sNext) sNext) (sSeq (sIf (tBl (eBin (isCmp .Eq) (eVar 0) (eC (.int 1)))) (sSeq (sRet (eLst (aCons (eC (.str ("told" : Str))) (aCons (eIf (tTru (eVar 2)) (eCall ⟨0, [("index" : Str), ("web" : Str)], [1, 0]⟩ (cf ("without_tie" : Str)) aNil (aCons (eBin isIx (eVar 1) (eC (.int 1))) (aCons (eBin isIx (eVar 1) (eC (.int 0))) aNil))) (eCall ⟨2, [], [0, 1]⟩ (cf ("without_tie" : Str)) (aCons (eBin isIx (eVar 1) (eC (.int 0))) (aCons (eBin isIx (eVar 1) (eC (.int 1))) aNil)) aNil)) aNil)))) sNext) sNext) (sSeq (sIf (tBl (eBin (isCmp .Eq) (eVar 0) (eC (.int 2)))) (sSeq (sRet (eLst (aCons (eC (.str ("told" : Str))) (aCons (eIf (tTru (eVar 2)) (eCall ⟨0, [("index" : Str), ("web" : Str)], [1, 0]⟩ (cf ("pinched_tie" : Str)) aNil (aCons (eBin isIx (eVar 1) (eC (.int 1))) (aCons (eBin isIx (eVar 1) (eC (.int 0))) aNil))) (eCall ⟨2, [], [0, 1]⟩ (cf ("pinched_tie" : Str)) (aCons (eBin isIx (eVar 1) (eC (.int 0))) (aCons (eBin isIx (eVar 1) (eC (.int 1))) aNil)) aNil)) aNil)))) sNext) sNext) (sSeq (sRet (eLst (aCons (eC (.str ("told" : Str))) (aCons (eIf (tTru (eVar 2)) (eCall ⟨0, [("web" : Str)], [0]⟩ (cf ("pieces" : Str)) aNil (aCons (eBin isIx (eVar 1) (eC (.int 0))) aNil)) (eCall ⟨1, [], [0]⟩ (cf ("pieces" : Str)) (aCons (eBin isIx (eVar 1) (eC (.int 0))) aNil) aNil)) aNil)))) sNext)))) [⟨("InvalidWeb" : Str), some 3, fun y => (sSeq (sRet (eLst (aCons (eC (.str ("web" : Str))) (aCons (eXfT xfF (some y) ("given" : Str)) aNil)))) sNext)⟩, ⟨("InvalidMark" : Str), some 3, fun y => (sSeq (sRet (eLst (aCons (eC (.str ("mark" : Str))) (aCons (eXfT xfF (some y) ("given" : Str)) aNil)))) sNext)⟩, ⟨("InvalidTie" : Str), some 3, fun y => (sSeq (sRet (eLst (aCons (eC (.str ("tie" : Str))) (aCons (eXfT xfF (some y) ("given" : Str)) aNil)))) sNext)⟩]) sNext)
noncomputable def b__law_put (cf ci : Str → Fn) : SV := (sSeq (sSet 3 (eLc false [5] (iRng itRng1 (aCons (eBin isIx (eVar 0) (eC (.int 0))) aNil)) (gNm 5) tYesD (eIf (tBl (eBin (isCmp .Eq) (eVar 5) (eVar 1))) (eVar 2) (eVar 5)))) (sSeq (sSet 4 (eLc false [5] (iVal (eVar 3)) (gNm 5) tYesD (eIf (tBl (eBin (isCmp .Gt) (eVar 5) (eVar 1))) (eBin (isBin .Sub) (eVar 5) (eC (.int 1))) (eVar 5)))) (sSeq (sRet (eTup (aCons (eBin (isBin .Sub) (eBin isIx (eVar 0) (eC (.int 0))) (eC (.int 1))) (aCons (eCallB opTuple (aCons (eLc false [7, 8, 9] (iVal (eBin isIx (eVar 0) (eC (.int 1)))) (gTp 3 (gsCons (gNm 7) (gsCons (gNm 8) (gsCons (gNm 9) gsNil)))) tYesD (eTup (aCons (eVar 7) (aCons (eBin isIx (eVar 4) (eVar 8)) (aCons (eBin isIx (eVar 4) (eVar 9)) aNil))))) aNil)) (aCons (eCallB opTuple (aCons (eLc false [6] (iVal (eBin isIx (eVar 0) (eC (.int 2)))) (gNm 6) tYesD (eBin isIx (eVar 4) (eVar 6))) aNil)) aNil))))) sNext)))
noncomputable def b__law_pinched (cf ci : Str → Fn) : SV := (sSeq (sSet 3 (eTup (aCons (eBin isIx (eVar 0) (eC (.int 0))) (aCons (eBin isIx (eVar 0) (eC (.int 1))) (aCons (eBin (isBin .Add) (eSl (eBin isIx (eVar 0) (eC (.int 2))) pNone (pSome (eVar 2))) (eSl (eBin isIx (eVar 0) (eC (.int 2))) (pSome (eBin (isBin .Add) (eVar 2) (eC (.int 1)))) pNone)) aNil))))) (sSeq (sRet (eCall ⟨3, [], [0, 1, 2]⟩ (cf ("_law_put" : Str)) (aCons (eVar 3) (aCons (eBin isIx (eBin isIx (eVar 0) (eC (.int 2))) (eVar 2)) (aCons (eBin isIx (eBin isIx (eVar 0) (eC (.int 2))) (eVar 1)) aNil))) aNil)) sNext))
noncomputable def b__law_pinched_tie (cf ci : Str → Fn) : SV := (sSeq (sAsg (gTp 3 (gsCons (gNm 3) (gsCons (gNm 4) (gsCons (gNm 5) gsNil)))) (eBin isIx (eCallB (opSortedX false) (aCons (eBin isIx (eVar 0) (eC (.int 1))) aNil)) (eVar 1))) (sSeq (sIf (tOrD (tBl (eBin (isCmp .Eq) (eVar 4) (eVar 5))) (tAndD (tBl (eBin (isCmp .In) (eVar 4) (eBin isIx (eVar 0) (eC (.int 2))))) (tBl (eBin (isCmp .In) (eVar 5) (eBin isIx (eVar 0) (eC (.int 2))))))) (sSeq (sRet (eC .non)) sNext) sNext) (sSeq (sSet 2 (eCallB (opSortedX false) (aCons (eBin isIx (eVar 0) (eC (.int 1))) aNil))) (sSeq (sRet (eCall ⟨3, [], [0, 1, 2]⟩ (cf ("_law_put" : Str)) (aCons (eTup (aCons (eBin isIx (eVar 0) (eC (.int 0))) (aCons (eCallB opTuple (aCons (eBin (isBin .Add) (eSl (eVar 2) pNone (pSome (eVar 1))) (eSl (eVar 2) (pSome (eBin (isBin .Add) (eVar 1) (eC (.int 1)))) pNone)) aNil)) (aCons (eBin isIx (eVar 0) (eC (.int 2))) aNil)))) (aCons (eCallB opMax (aCons (eVar 4) (aCons (eVar 5) aNil))) (aCons (eCallB opMin (aCons (eVar 4) (aCons (eVar 5) aNil))) aNil))) aNil)) sNext))))
noncomputable def b__law_marks_right (cf ci : Str → Fn) : SV := (sSeq (sPar2 4 5 (aCons (eCall ⟨2, [], [0, 1]⟩ (cf ("_law_made" : Str)) (aCons (eVar 1) (aCons (eVar 2) aNil)) aNil) (aCons (eCallB opLen (aCons (eBin isIx (eVar 1) (eC (.int 2))) aNil)) aNil))) (sSeq (sFor (iRng itRng1 (aCons (eVar 5) aNil)) (gNm 3) (sSeq (sFor (iRng itRng1 (aCons (eVar 5) aNil)) (gNm 6) (sSeq (sSet 7 (eCall ⟨3, [], [0, 1, 2]⟩ (cf ("_law_asked" : Str)) (aCons (eC (.int 0)) (aCons (eLst (aCons (eVar 4) (aCons (eVar 3) (aCons (eVar 6) aNil)))) (aCons (eVar 2) aNil))) aNil)) (sSeq (sIf (tAndD (tBl (eBin (isCmp .Eq) (eVar 3) (eVar 6))) (tNotD (tTru (eCall ⟨2, [], [0, 1]⟩ (cf ("_law_same" : Str)) (aCons (eVar 7) (aCons (eLst (aCons (eC (.str ("mark" : Str))) (aCons (eVar 6) aNil))) aNil)) aNil)))) (sSeq (sRet (eC (.bl false))) sNext) sNext) (sSeq (sIf (tAndD (tBl (eBin (isCmp .NotEq) (eVar 3) (eVar 6))) (tOrD (tBl (eBin (isCmp .NotEq) (eBin isIx (eVar 7) (eC (.int 0))) (eC (.str ("told" : Str))))) (tNotD (tTru (eCall ⟨2, [], [0, 1]⟩ (cf ("_law_is_web" : Str)) (aCons (eBin isIx (eVar 7) (eC (.int 1))) (aCons (eCall ⟨3, [], [0, 1, 2]⟩ (cf ("_law_pinched" : Str)) (aCons (eVar 1) (aCons (eVar 3) (aCons (eVar 6) aNil))) aNil) aNil)) aNil))))) (sSeq (sRet (eC (.bl false))) sNext) sNext) (sSeq (sSet 2 (eNot (eVar 2))) sNext))))) sNext)) (sSeq (sRet (eCall ⟨2, [], [0, 1]⟩ (cf ("_law_is_web" : Str)) (aCons (eVar 4) (aCons (eVar 1) aNil)) aNil)) sNext)))
noncomputable def b__law_ties_right (cf ci : Str → Fn) : SV := (sSeq (sPar2 4 5 (aCons (eCall ⟨2, [], [0, 1]⟩ (cf ("_law_made" : Str)) (aCons (eVar 1) (aCons (eVar 2) aNil)) aNil) (aCons (eCallB (opSortedX false) (aCons (eBin isIx (eVar 1) (eC (.int 1))) aNil)) aNil))) (sSeq (sFor (iRng itRng1 (aCons (eCallB opLen (aCons (eVar 5) aNil)) aNil)) (gNm 3) (sSeq (sSet 6 (eTup (aCons (eBin isIx (eVar 1) (eC (.int 0))) (aCons (eCallB opTuple (aCons (eBin (isBin .Add) (eSl (eVar 5) pNone (pSome (eVar 3))) (eSl (eVar 5) (pSome (eBin (isBin .Add) (eVar 3) (eC (.int 1)))) pNone)) aNil)) (aCons (eBin isIx (eVar 1) (eC (.int 2))) aNil))))) (sSeq (sPar2 7 8 (aCons (eCall ⟨3, [], [0, 1, 2]⟩ (cf ("_law_asked" : Str)) (aCons (eC (.int 1)) (aCons (eLst (aCons (eVar 4) (aCons (eVar 3) aNil))) (aCons (eVar 2) aNil))) aNil) (aCons (eCall ⟨2, [], [0, 1]⟩ (cf ("_law_pinched_tie" : Str)) (aCons (eVar 1) (aCons (eVar 3) aNil)) aNil) aNil))) (sSeq (sIf (tOrD (tBl (eBin (isCmp .NotEq) (eBin isIx (eVar 7) (eC (.int 0))) (eC (.str ("told" : Str))))) (tNotD (tTru (eCall ⟨2, [], [0, 1]⟩ (cf ("_law_is_web" : Str)) (aCons (eBin isIx (eVar 7) (eC (.int 1))) (aCons (eVar 6) aNil)) aNil)))) (sSeq (sRet (eC (.bl false))) sNext) sNext) (sSeq (sSet 7 (eCall ⟨3, [], [0, 1, 2]⟩ (cf ("_law_asked" : Str)) (aCons (eC (.int 2)) (aCons (eLst (aCons (eVar 4) (aCons (eVar 3) aNil))) (aCons (eNot (eVar 2)) aNil))) aNil)) (sSeq (sIf (tOrD (tAndD (tBl (eBin (isCmp .Is) (eVar 8) (eC .non))) (tNotD (tTru (eCall ⟨2, [], [0, 1]⟩ (cf ("_law_same" : Str)) (aCons (eVar 7) (aCons (eLst (aCons (eC (.str ("tie" : Str))) (aCons (eVar 3) aNil))) aNil)) aNil)))) (tAndD (tBl (eBin (isCmp .IsNot) (eVar 8) (eC .non))) (tOrD (tBl (eBin (isCmp .NotEq) (eBin isIx (eVar 7) (eC (.int 0))) (eC (.str ("told" : Str))))) (tNotD (tTru (eCall ⟨2, [], [0, 1]⟩ (cf ("_law_is_web" : Str)) (aCons (eBin isIx (eVar 7) (eC (.int 1))) (aCons (eVar 8) aNil)) aNil)))))) (sSeq (sRet (eC (.bl false))) sNext) sNext) (sSeq (sIf (tAndD (tBl (eBin (isCmp .IsNot) (eVar 8) (eC .non))) (tBl (eBin (isCmp .Gt) (eCallB opLen (aCons (eVar 5) aNil)) (eC (.int 1))))) (sSeq (sSet 9 (eCall ⟨2, [], [0, 1]⟩ (cf ("_law_take" : Str)) (aCons (eVar 0) (aCons (eBin (isBin .Sub) (eCallB opLen (aCons (eVar 5) aNil)) (eC (.int 1))) aNil)) aNil)) (sSeq (sPar2 10 11 (aCons (eCall ⟨3, [], [0, 1, 2]⟩ (cf ("_law_asked" : Str)) (aCons (eC (.int 2)) (aCons (eLst (aCons (eBin isIx (eVar 7) (eC (.int 1))) (aCons (eVar 9) aNil))) (aCons (eVar 2) aNil))) aNil) (aCons (eCall ⟨2, [], [0, 1]⟩ (cf ("_law_pinched_tie" : Str)) (aCons (eVar 8) (aCons (eVar 9) aNil)) aNil) aNil))) (sSeq (sIf (tOrD (tAndD (tBl (eBin (isCmp .Is) (eVar 11) (eC .non))) (tNotD (tTru (eCall ⟨2, [], [0, 1]⟩ (cf ("_law_same" : Str)) (aCons (eVar 10) (aCons (eLst (aCons (eC (.str ("tie" : Str))) (aCons (eVar 9) aNil))) aNil)) aNil)))) (tAndD (tBl (eBin (isCmp .IsNot) (eVar 11) (eC .non))) (tOrD (tBl (eBin (isCmp .NotEq) (eBin isIx (eVar 10) (eC (.int 0))) (eC (.str ("told" : Str))))) (tNotD (tTru (eCall ⟨2, [], [0, 1]⟩ (cf ("_law_is_web" : Str)) (aCons (eBin isIx (eVar 10) (eC (.int 1))) (aCons (eVar 11) aNil)) aNil)))))) (sSeq (sRet (eC (.bl false))) sNext) sNext) sNext))) sNext) (sSeq (sSet 2 (eNot (eVar 2))) sNext)))))))) (sSeq (sRet (eCall ⟨2, [], [0, 1]⟩ (cf ("_law_is_web" : Str)) (aCons (eVar 4) (aCons (eVar 1) aNil)) aNil)) sNext)))
noncomputable def b__law_pieces (cf ci : Str → Fn) : SV := (sSeq (sSet 1 (eLstRg false (eBin isIx (eVar 0) (eC (.int 0))))) (sSeq (sFor (iVal (eBin isIx (eVar 0) (eC (.int 1)))) (gTp 3 (gsCons (gNm 4) (gsCons (gNm 5) (gsCons (gNm 6) gsNil)))) (sSeq (sAsg (gTp 2 (gsCons (gNm 8) (gsCons (gNm 9) gsNil))) (eTup (aCons (eCallB opMin (aCons (eBin isIx (eVar 1) (eVar 5)) (aCons (eBin isIx (eVar 1) (eVar 6)) aNil))) (aCons (eCallB opMax (aCons (eBin isIx (eVar 1) (eVar 5)) (aCons (eBin isIx (eVar 1) (eVar 6)) aNil))) aNil)))) (sSeq (sSet 1 (eLc false [3] (iVal (eVar 1)) (gNm 3) tYesD (eIf (tBl (eBin (isCmp .Eq) (eVar 3) (eVar 9))) (eVar 8) (eVar 3)))) sNext))) (sSeq (sSet 2 (eLstM aNil)) (sSeq (sFor (iVal (eCallB (opSortedX false) (aCons (eCallB opDictP (aCons (eLc false [8] (iVal (eVar 1)) (gNm 8) tYesD (eTup (aCons (eVar 8) (aCons (eC (.int 1)) aNil)))) aNil)) aNil))) (gNm 3) (sSeq (sSet 7 (eLc false [10] (iRng itRng1 (aCons (eBin isIx (eVar 0) (eC (.int 0))) aNil)) (gNm 10) (tBl (eBin (isCmp .Eq) (eBin isIx (eVar 1) (eVar 10)) (eVar 3))) (eVar 10))) (sSeq (sDrop (eMeth mtT ("append" : Str) (eVar 2) (aCons (eTup (aCons (eCallB opLen (aCons (eVar 7) aNil)) (aCons (eCallB opTuple (aCons (eLc false [4, 5, 6] (iVal (eBin isIx (eVar 0) (eC (.int 1)))) (gTp 3 (gsCons (gNm 4) (gsCons (gNm 5) (gsCons (gNm 6) gsNil)))) (tBl (eBin (isCmp .In) (eVar 5) (eVar 7))) (eTup (aCons (eVar 4) (aCons (eMeth mtT ("index" : Str) (eVar 7) (aCons (eVar 5) aNil)) (aCons (eMeth mtT ("index" : Str) (eVar 7) (aCons (eVar 6) aNil)) aNil))))) aNil)) (aCons (eTup aNil) aNil)))) aNil))) sNext))) (sSeq (sRet (eVar 2)) sNext)))))
noncomputable def b__law_pieces_right (cf ci : Str → Fn) : SV := (sSeq (sSet 3 (eTup (aCons (eBin isIx (eVar 1) (eC (.int 0))) (aCons (eBin isIx (eVar 1) (eC (.int 1))) (aCons (eTup aNil) aNil))))) (sSeq (sAsg (gTp 2 (gsCons (gNm 7) (gsCons (gNm 8) gsNil))) (eTup (aCons (eCall ⟨2, [], [0, 1]⟩ (cf ("_law_made" : Str)) (aCons (eVar 3) (aCons (eVar 2) aNil)) aNil) (aCons (eCall ⟨1, [], [0]⟩ (cf ("_law_pieces" : Str)) (aCons (eVar 3) aNil) aNil) aNil)))) (sSeq (sFor (iRng itRng1 (aCons (eC (.int 2)) aNil)) (gNm 4) (sSeq (sSet 6 (eCall ⟨3, [], [0, 1, 2]⟩ (cf ("_law_asked" : Str)) (aCons (eC (.int 3)) (aCons (eLst (aCons (eVar 7) aNil)) (aCons (eVar 2) aNil))) aNil)) (sSeq (sIf (tOrD (tBl (eBin (isCmp .NotEq) (eBin isIx (eVar 6) (eC (.int 0))) (eC (.str ("told" : Str))))) (tOrD (tNotD (tTru (eCallB (opIsi kit) (aCons (eBin isIx (eVar 6) (eC (.int 1))) (aCons (eC (.ty "list")) aNil))))) (tBl (eBin (isCmp .NotEq) (eCallB opLen (aCons (eBin isIx (eVar 6) (eC (.int 1))) aNil)) (eCallB opLen (aCons (eVar 8) aNil)))))) (sSeq (sRet (eC (.bl false))) sNext) sNext) (sSeq (sIf (tBl (eBin (isCmp .NotEq) (eLc false [9] (iRng itRng1 (aCons (eCallB opLen (aCons (eVar 8) aNil)) aNil)) (gNm 9) (tNotD (tTru (eCall ⟨2, [], [0, 1]⟩ (cf ("_law_is_web" : Str)) (aCons (eBin isIx (eBin isIx (eVar 6) (eC (.int 1))) (eVar 9)) (aCons (eBin isIx (eVar 8) (eVar 9)) aNil)) aNil))) (eVar 9)) (eLst aNil))) (sSeq (sRet (eC (.bl false))) sNext) sNext) (sSeq (sDrop (eMeth mtT ("reverse" : Str) (eBin isIx (eVar 6) (eC (.int 1))) aNil)) (sSeq (sSet 2 (eNot (eVar 2))) sNext)))))) (sSeq (sIf (tBl (eBin (isCmp .Eq) (eBin isIx (eVar 1) (eC (.int 2))) (eTup aNil))) (sSeq (sRet (eC (.bl true))) sNext) sNext) (sSeq (sSet 5 (eCall ⟨2, [], [0, 1]⟩ (cf ("_law_made" : Str)) (aCons (eVar 1) (aCons (eVar 2) aNil)) aNil)) (sSeq (sSet 6 (eCall ⟨3, [], [0, 1, 2]⟩ (cf ("_law_asked" : Str)) (aCons (eC (.int 3)) (aCons (eLst (aCons (eVar 5) aNil)) (aCons (eVar 2) aNil))) aNil)) (sSeq (sRet (eAnd (eBin (isCmp .Eq) (eBin isIx (eVar 6) (eC (.int 0))) (eC (.str ("web" : Str)))) (eCall ⟨2, [], [0, 1]⟩ (cf ("_law_is_web" : Str)) (aCons (eBin isIx (eVar 6) (eC (.int 1))) (aCons (eVar 1) aNil)) aNil))) sNext)))))))
noncomputable def b__law_refused_right (cf ci : Str → Fn) : SV := (sSeq (sPar2 7 8 (aCons (eCall ⟨2, [], [0, 1]⟩ (cf ("_law_made" : Str)) (aCons (eVar 1) (aCons (eVar 2) aNil)) aNil) (aCons (eCallB opLen (aCons (eBin isIx (eVar 1) (eC (.int 2))) aNil)) aNil))) (sSeq (sFor (iRng itRng1 (aCons (eC (.int 4)) aNil)) (gNm 3) (sSeq (sSet 5 (eCall ⟨1, [], [0]⟩ (cf ("_law_copied" : Str)) (aCons (eCall ⟨2, [], [0, 1]⟩ (cf ("_law_pick" : Str)) (aCons (eVar 0) (aCons (eLst (aCons (eC .non) (aCons (eC (.int 5)) (aCons (eLst aNil) (aCons eDict0 (aCons (eC (.str ("web" : Str))) (aCons (eVar 1) (aCons (eC (.bl true)) aNil)))))))) aNil)) aNil) aNil) aNil)) (sSeq (sSet 6 (eCall ⟨3, [], [0, 1, 2]⟩ (cf ("_law_asked" : Str)) (aCons (eVar 3) (aCons (eLst (aCons (eVar 5) (aCons (eC .non) (aCons (eC .non) aNil)))) (aCons (eVar 2) aNil))) aNil)) (sSeq (sIf (tOrD (tBl (eBin (isCmp .NotEq) (eBin isIx (eVar 6) (eC (.int 0))) (eC (.str ("web" : Str))))) (tNotD (tTru (eCall ⟨2, [], [0, 1]⟩ (cf ("_law_blamed" : Str)) (aCons (eBin isIx (eVar 6) (eC (.int 1))) (aCons (eVar 5) aNil)) aNil)))) (sSeq (sRet (eC (.bl false))) sNext) sNext) sNext)))) (sSeq (sSet 4 (eLst (aCons (eC .non) (aCons (eUn (isUn .USub) (eC (.int 1))) (aCons (eVar 8) (aCons (eC (.bl true)) (aCons (eC (.str ("0" : Str))) (aCons (eLst (aCons (eC (.int 0)) aNil)) (aCons eDict0 aNil))))))))) (sSeq (sSet 5 (eCall ⟨1, [], [0]⟩ (cf ("_law_copied" : Str)) (aCons (eCall ⟨2, [], [0, 1]⟩ (cf ("_law_pick" : Str)) (aCons (eVar 0) (aCons (eVar 4) aNil)) aNil) aNil) aNil)) (sSeq (sSet 6 (eCall ⟨3, [], [0, 1, 2]⟩ (cf ("_law_asked" : Str)) (aCons (eC (.int 0)) (aCons (eLst (aCons (eVar 7) (aCons (eVar 5) (aCons (eCall ⟨2, [], [0, 1]⟩ (cf ("_law_pick" : Str)) (aCons (eVar 0) (aCons (eLst (aCons (eC (.int 0)) (aCons (eC .non) aNil))) aNil)) aNil) aNil)))) (aCons (eVar 2) aNil))) aNil)) (sSeq (sIf (tOrD (tBl (eBin (isCmp .NotEq) (eBin isIx (eVar 6) (eC (.int 0))) (eC (.str ("mark" : Str))))) (tNotD (tTru (eCall ⟨2, [], [0, 1]⟩ (cf ("_law_blamed" : Str)) (aCons (eBin isIx (eVar 6) (eC (.int 1))) (aCons (eVar 5) aNil)) aNil)))) (sSeq (sRet (eC (.bl false))) sNext) sNext) (sSeq (sIf (tBl (eBin (isCmp .Gt) (eVar 8) (eC (.int 0)))) (sSeq (sSet 5 (eCall ⟨1, [], [0]⟩ (cf ("_law_copied" : Str)) (aCons (eCall ⟨2, [], [0, 1]⟩ (cf ("_law_pick" : Str)) (aCons (eVar 0) (aCons (eVar 4) aNil)) aNil) aNil) aNil)) (sSeq (sSet 6 (eCall ⟨3, [], [0, 1, 2]⟩ (cf ("_law_asked" : Str)) (aCons (eC (.int 0)) (aCons (eLst (aCons (eVar 7) (aCons (eBin (isBin .Sub) (eVar 8) (eC (.int 1))) (aCons (eVar 5) aNil)))) (aCons (eNot (eVar 2)) aNil))) aNil)) (sSeq (sIf (tOrD (tBl (eBin (isCmp .NotEq) (eBin isIx (eVar 6) (eC (.int 0))) (eC (.str ("mark" : Str))))) (tNotD (tTru (eCall ⟨2, [], [0, 1]⟩ (cf ("_law_blamed" : Str)) (aCons (eBin isIx (eVar 6) (eC (.int 1))) (aCons (eVar 5) aNil)) aNil)))) (sSeq (sRet (eC (.bl false))) sNext) sNext) sNext))) sNext) (sSeq (sFor (iVal (eTup (aCons (eC (.int 1)) (aCons (eC (.int 2)) aNil)))) (gNm 3) (sSeq (sSet 5 (eCall ⟨1, [], [0]⟩ (cf ("_law_copied" : Str)) (aCons (eCall ⟨2, [], [0, 1]⟩ (cf ("_law_pick" : Str)) (aCons (eVar 0) (aCons (eLst (aCons (eC .non) (aCons (eUn (isUn .USub) (eC (.int 1))) (aCons (eCallB opLen (aCons (eBin isIx (eVar 1) (eC (.int 1))) aNil)) (aCons (eC (.bl true)) (aCons (eC (.str ("0" : Str))) (aCons (eLst (aCons (eC (.int 0)) aNil)) (aCons eDict0 (aCons (eTup (aCons (eC (.str ("a" : Str))) (aCons (eC (.int 0)) (aCons (eC (.int 1)) aNil)))) aNil))))))))) aNil)) aNil) aNil) aNil)) (sSeq (sSet 6 (eCall ⟨3, [], [0, 1, 2]⟩ (cf ("_law_asked" : Str)) (aCons (eVar 3) (aCons (eLst (aCons (eVar 7) (aCons (eVar 5) aNil))) (aCons (eVar 2) aNil))) aNil)) (sSeq (sIf (tOrD (tBl (eBin (isCmp .NotEq) (eBin isIx (eVar 6) (eC (.int 0))) (eC (.str ("tie" : Str))))) (tNotD (tTru (eCall ⟨2, [], [0, 1]⟩ (cf ("_law_blamed" : Str)) (aCons (eBin isIx (eVar 6) (eC (.int 1))) (aCons (eVar 5) aNil)) aNil)))) (sSeq (sRet (eC (.bl false))) sNext) sNext) (sSeq (sSet 2 (eNot (eVar 2))) sNext))))) (sSeq (sRet (eC (.bl true))) sNext)))))))))
noncomputable def b_law (cf ci : Str → Fn) : SV := (sSeq (sFor (iRng itRng1 (aCons (eCallB opMax (aCons (eC (.int 2)) (aCons (eCallB opMin (aCons (eC (.int 3)) (aCons (eCallB opLen (aCons (eVar 0) aNil)) aNil))) aNil))) aNil)) (gNm 1) (sSeq (sSet 2 (eCall ⟨1, [], [0]⟩ (cf ("_law_box" : Str)) (aCons (eCall ⟨2, [], [0, 1]⟩ (cf ("_law_cell" : Str)) (aCons (eVar 0) (aCons (eVar 1) aNil)) aNil) aNil) aNil)) (sSeq (sSet 3 (eBin (isCmp .Eq) (eCall ⟨2, [], [0, 1]⟩ (cf ("_law_take" : Str)) (aCons (eVar 2) (aCons (eC (.int 2)) aNil)) aNil) (eC (.int 0)))) (sSeq (sFor (iRng itRng1 (aCons (eC (.int 4)) aNil)) (gNm 4) (sSeq (sSet 5 (eCall ⟨2, [], [0, 1]⟩ (cf ("_law_drawn_web" : Str)) (aCons (eVar 2) (aCons (eCall ⟨2, [], [0, 1]⟩ (cf ("_law_pick" : Str)) (aCons (eVar 2) (aCons (eLst (aCons (eC (.int 0)) (aCons (eC (.int 1)) (aCons (eC (.int 2)) (aCons (eC (.int 3)) (aCons (eC (.int 4)) aNil)))))) aNil)) aNil) aNil)) aNil)) (sSeq (sIf (tOrD (tNotD (tTru (eCall ⟨3, [], [0, 1, 2]⟩ (cf ("_law_marks_right" : Str)) (aCons (eVar 2) (aCons (eVar 5) (aCons (eVar 3) aNil))) aNil))) (tNotD (tTru (eCall ⟨3, [], [0, 1, 2]⟩ (cf ("_law_ties_right" : Str)) (aCons (eVar 2) (aCons (eVar 5) (aCons (eNot (eVar 3)) aNil))) aNil)))) (sSeq (sRet (eC (.bl false))) sNext) sNext) (sSeq (sIf (tOrD (tNotD (tTru (eCall ⟨3, [], [0, 1, 2]⟩ (cf ("_law_pieces_right" : Str)) (aCons (eVar 2) (aCons (eVar 5) (aCons (eVar 3) aNil))) aNil))) (tNotD (tTru (eCall ⟨3, [], [0, 1, 2]⟩ (cf ("_law_refused_right" : Str)) (aCons (eVar 2) (aCons (eVar 5) (aCons (eNot (eVar 3)) aNil))) aNil)))) (sSeq (sRet (eC (.bl false))) sNext) sNext) (sSeq (sSet 3 (eNot (eVar 3))) sNext))))) sNext)))) (sSeq (sRet (eC (.bl true))) sNext))
noncomputable def bi_Web (cf ci : Str → Fn) : SV := (sSeq (sIf (tOrD (tNotD (tTru (eCall ⟨1, [], [0]⟩ (cf ("is_whole" : Str)) (aCons (eVar 1) aNil) aNil))) (tNotD (tBl (eChain (isCmp .LtE) (isCmp .LtE) (eC (.int 0)) (eVar 1) (eC (.int 12)))))) (sSeq (sRaise1 ("InvalidPlaces" : Str) [("given" : Str)] (eVar 1)) sNext) sNext) (sSeq (sIf (tOrD (tNotD (tTru (eCallB (opIsi kit) (aCons (eVar 2) (aCons (eC (.ty "tuple")) aNil))))) (tOrD (tBl (eBin (isCmp .Gt) (eCallB opLen (aCons (eVar 2) aNil)) (eC (.int 60)))) (tNotD (tTru (eCallB opAll (aCons (eLc false [4] (iVal (eVar 2)) (gNm 4) tYesD (eCall ⟨2, [], [0, 1]⟩ (cf ("is_tie" : Str)) (aCons (eVar 1) (aCons (eVar 4) aNil)) aNil)) aNil)))))) (sSeq (sRaise1 ("InvalidTies" : Str) [("given" : Str)] (eVar 2)) sNext) sNext) (sSeq (sIf (tOrD (tNotD (tTru (eCallB (opIsi kit) (aCons (eVar 3) (aCons (eC (.ty "tuple")) aNil))))) (tNotD (tTru (eCallB opAll (aCons (eLc false [5] (iVal (eVar 3)) (gNm 5) tYesD (eCall ⟨2, [], [0, 1]⟩ (cf ("is_place" : Str)) (aCons (eVar 1) (aCons (eVar 5) aNil)) aNil)) aNil))))) (sSeq (sRaise1 ("InvalidMarks" : Str) [("given" : Str)] (eVar 3)) sNext) sNext) (sSeq (sIf (tBl (eBin (isCmp .NotEq) (eLenSet (eVar 3)) (eCallB opLen (aCons (eVar 3) aNil)))) (sSeq (sRaise1 ("InvalidMarks" : Str) [("given" : Str)] (eVar 3)) sNext) sNext) (sSeq (sFldD (flF ("places" : Str)) ("places" : Str) (eVar 0) (eVar 1)) (sSeq (sFldD (flF ("ties" : Str)) ("ties" : Str) (eVar 0) (eCallB opTuple (aCons (eCallB (opSortedX false) (aCons (eVar 2) aNil)) aNil))) (sSeq (sFldD (flF ("marks" : Str)) ("marks" : Str) (eVar 0) (eVar 3)) sNext)))))))
def NL : List (Str × List Str) := [(("is_whole" : Str), [("value" : Str)]), (("is_name" : Str), [("value" : Str), ("sign" : Str)]), (("is_place" : Str), [("places" : Str), ("value" : Str)]), (("is_tie" : Str), [("places" : Str), ("value" : Str)]), (("check_web" : Str), [("web" : Str)]), (("check_plain_web" : Str), [("web" : Str)]), (("neighbours_in" : Str), [("web" : Str), ("found" : Str), ("_" : Str), ("i" : Str), ("j" : Str), ("places" : Str)]), (("led" : Str), [("ties" : Str), ("names" : Str), ("letter" : Str), ("i" : Str), ("j" : Str)]), (("is_mark" : Str), [("web" : Str), ("value" : Str)]), (("check_mark" : Str), [("web" : Str), ("mark" : Str)]), (("as_one" : Str), [("web" : Str), ("kept" : Str), ("gone" : Str), ("marks" : Str), ("names" : Str), ("place" : Str), ("here" : Str)]), (("pinched" : Str), [("web" : Str), ("i" : Str), ("j" : Str), ("marks" : Str)]), (("check_tie" : Str), [("web" : Str), ("index" : Str)]), (("less_tie" : Str), [("web" : Str), ("index" : Str)]), (("without_tie" : Str), [("web" : Str), ("index" : Str)]), (("pinched_tie" : Str), [("web" : Str), ("index" : Str), ("marks" : Str), ("_" : Str), ("i" : Str), ("j" : Str), ("kept" : Str), ("gone" : Str), ("mark" : Str)]), (("reached" : Str), [("near" : Str), ("place" : Str), ("seen" : Str), ("waits" : Str), ("here" : Str), ("fresh" : Str), ("other" : Str)]), (("pieces" : Str), [("web" : Str), ("near" : Str), ("left" : Str), ("found" : Str), ("mine" : Str), ("names" : Str), ("ties" : Str), ("tie" : Str), ("place" : Str), ("at" : Str)]), (("_law_cell" : Str), [("script" : Str), ("k" : Str)]), (("_law_box" : Str), [("great" : Str)])] ++ [(("_law_take" : Str), [("box" : Str), ("many" : Str), ("mixed" : Str), ("digit" : Str)]), (("_law_pick" : Str), [("box" : Str), ("items" : Str)]), (("_law_mixed" : Str), [("box" : Str), ("items" : Str), ("left" : Str), ("found" : Str)]), (("_law_same" : Str), [("told" : Str), ("due" : Str), ("k" : Str), ("key" : Str)]), (("_law_copied" : Str), [("value" : Str), ("one" : Str), ("key" : Str)]), (("_law_blamed" : Str), [("given" : Str), ("value" : Str), ("one" : Str)]), (("_law_is_web" : Str), [("value" : Str), ("own" : Str)]), (("_law_drawn_web" : Str), [("box" : Str), ("marks" : Str), ("cut" : Str), ("turn" : Str), ("places" : Str), ("ties" : Str), ("letters" : Str), ("order" : Str), ("some" : Str), ("tie" : Str)]), (("_law_made" : Str), [("own" : Str), ("named" : Str)]), (("_law_asked" : Str), [("which" : Str), ("args" : Str), ("named" : Str), ("error" : Str)]), (("_law_put" : Str), [("own" : Str), ("gone" : Str), ("kept" : Str), ("led_v" : Str), ("new" : Str), ("place" : Str), ("mark" : Str), ("letter" : Str), ("i" : Str), ("j" : Str)]), (("_law_pinched" : Str), [("own" : Str), ("i" : Str), ("j" : Str), ("less" : Str)]), (("_law_pinched_tie" : Str), [("own" : Str), ("index" : Str), ("ties" : Str), ("letter" : Str), ("i" : Str), ("j" : Str)]), (("_law_marks_right" : Str), [("box" : Str), ("own" : Str), ("named" : Str), ("i" : Str), ("made" : Str), ("many" : Str), ("j" : Str), ("told" : Str)]), (("_law_ties_right" : Str), [("box" : Str), ("own" : Str), ("named" : Str), ("index" : Str), ("made" : Str), ("ties" : Str), ("less" : Str), ("told" : Str), ("due" : Str), ("at" : Str), ("again" : Str), ("more" : Str)]), (("_law_pieces" : Str), [("own" : Str), ("names" : Str), ("found" : Str), ("name" : Str), ("letter" : Str), ("i" : Str), ("j" : Str), ("some" : Str), ("one" : Str), ("other" : Str), ("place" : Str)]), (("_law_pieces_right" : Str), [("box" : Str), ("own" : Str), ("named" : Str), ("bare" : Str), ("turn" : Str), ("marked" : Str), ("told" : Str), ("made" : Str), ("dues" : Str), ("k" : Str)]), (("_law_refused_right" : Str), [("box" : Str), ("own" : Str), ("named" : Str), ("which" : Str), ("odd" : Str), ("wrong" : Str), ("given" : Str), ("made" : Str), ("many" : Str)]), (("law" : Str), [("script" : Str), ("k" : Str), ("box" : Str), ("named" : Str), ("turn" : Str), ("own" : Str)])]
def psL : List (Str × List Str) := [(("is_whole" : Str), [("value" : Str)]), (("is_name" : Str), [("value" : Str)]), (("is_place" : Str), [("places" : Str), ("value" : Str)]), (("is_tie" : Str), [("places" : Str), ("value" : Str)]), (("check_web" : Str), [("web" : Str)]), (("check_plain_web" : Str), [("web" : Str)]), (("neighbours_in" : Str), [("web" : Str)]), (("led" : Str), [("ties" : Str), ("names" : Str)]), (("is_mark" : Str), [("web" : Str), ("value" : Str)]), (("check_mark" : Str), [("web" : Str), ("mark" : Str)]), (("as_one" : Str), [("web" : Str), ("kept" : Str), ("gone" : Str), ("marks" : Str)]), (("pinched" : Str), [("web" : Str), ("i" : Str), ("j" : Str)]), (("check_tie" : Str), [("web" : Str), ("index" : Str)]), (("less_tie" : Str), [("web" : Str), ("index" : Str)]), (("without_tie" : Str), [("web" : Str), ("index" : Str)]), (("pinched_tie" : Str), [("web" : Str), ("index" : Str)]), (("reached" : Str), [("near" : Str), ("place" : Str)]), (("pieces" : Str), [("web" : Str)]), (("_law_cell" : Str), [("script" : Str), ("k" : Str)]), (("_law_box" : Str), [("great" : Str)])] ++ [(("_law_take" : Str), [("box" : Str), ("many" : Str)]), (("_law_pick" : Str), [("box" : Str), ("items" : Str)]), (("_law_mixed" : Str), [("box" : Str), ("items" : Str)]), (("_law_same" : Str), [("told" : Str), ("due" : Str)]), (("_law_copied" : Str), [("value" : Str)]), (("_law_blamed" : Str), [("given" : Str), ("value" : Str)]), (("_law_is_web" : Str), [("value" : Str), ("own" : Str)]), (("_law_drawn_web" : Str), [("box" : Str), ("marks" : Str)]), (("_law_made" : Str), [("own" : Str), ("named" : Str)]), (("_law_asked" : Str), [("which" : Str), ("args" : Str), ("named" : Str)]), (("_law_put" : Str), [("own" : Str), ("gone" : Str), ("kept" : Str)]), (("_law_pinched" : Str), [("own" : Str), ("i" : Str), ("j" : Str)]), (("_law_pinched_tie" : Str), [("own" : Str), ("index" : Str)]), (("_law_marks_right" : Str), [("box" : Str), ("own" : Str), ("named" : Str)]), (("_law_ties_right" : Str), [("box" : Str), ("own" : Str), ("named" : Str)]), (("_law_pieces" : Str), [("own" : Str)]), (("_law_pieces_right" : Str), [("box" : Str), ("own" : Str), ("named" : Str)]), (("_law_refused_right" : Str), [("box" : Str), ("own" : Str), ("named" : Str)]), (("law" : Str), [("script" : Str)])]
def NIL : List (Str × List Str) := [(("Web" : Str), [("self" : Str), ("places" : Str), ("ties" : Str), ("marks" : Str), ("tie" : Str), ("mark" : Str)])]
def psIL : List (Str × List Str) := [(("Web" : Str), [("self" : Str), ("places" : Str), ("ties" : Str), ("marks" : Str)])]
def excN2 : List (Str × List Str) := excL.map fun r => (r.1, r.2.1)
noncomputable def bodyL (cf ci : Str → Fn) : List (Str × SV) := [(("is_whole" : Str), b_is_whole cf ci), (("is_name" : Str), b_is_name cf ci), (("is_place" : Str), b_is_place cf ci), (("is_tie" : Str), b_is_tie cf ci), (("check_web" : Str), b_check_web cf ci), (("check_plain_web" : Str), b_check_plain_web cf ci), (("neighbours_in" : Str), b_neighbours_in cf ci), (("led" : Str), b_led cf ci), (("is_mark" : Str), b_is_mark cf ci), (("check_mark" : Str), b_check_mark cf ci), (("as_one" : Str), b_as_one cf ci), (("pinched" : Str), b_pinched cf ci), (("check_tie" : Str), b_check_tie cf ci), (("less_tie" : Str), b_less_tie cf ci), (("without_tie" : Str), b_without_tie cf ci), (("pinched_tie" : Str), b_pinched_tie cf ci), (("reached" : Str), b_reached cf ci), (("pieces" : Str), b_pieces cf ci), (("_law_cell" : Str), b__law_cell cf ci), (("_law_box" : Str), b__law_box cf ci)] ++ [(("_law_take" : Str), b__law_take cf ci), (("_law_pick" : Str), b__law_pick cf ci), (("_law_mixed" : Str), b__law_mixed cf ci), (("_law_same" : Str), b__law_same cf ci), (("_law_copied" : Str), b__law_copied cf ci), (("_law_blamed" : Str), b__law_blamed cf ci), (("_law_is_web" : Str), b__law_is_web cf ci), (("_law_drawn_web" : Str), b__law_drawn_web cf ci), (("_law_made" : Str), b__law_made cf ci), (("_law_asked" : Str), b__law_asked cf ci), (("_law_put" : Str), b__law_put cf ci), (("_law_pinched" : Str), b__law_pinched cf ci), (("_law_pinched_tie" : Str), b__law_pinched_tie cf ci), (("_law_marks_right" : Str), b__law_marks_right cf ci), (("_law_ties_right" : Str), b__law_ties_right cf ci), (("_law_pieces" : Str), b__law_pieces cf ci), (("_law_pieces_right" : Str), b__law_pieces_right cf ci), (("_law_refused_right" : Str), b__law_refused_right cf ci), (("law" : Str), b_law cf ci)]
noncomputable def bodyIL (cf ci : Str → Fn) : List (Str × SV) := [(("Web" : Str), bi_Web cf ci)]
def at0 {α : Type} (d : α) (l : List (Str × α)) (x : Str) : α := (l.lookup x).getD d
noncomputable def lw : Law cfg := ⟨fnL, mkL, excN2, mutB, fun p => lockL.contains p, defsL, at0 [] NL, at0 [] psL, at0 [] NIL, at0 [] psIL, fun cf ci => at0 (fun _ _ => .bad) (bodyL cf ci), fun cf ci => at0 (fun _ _ => .bad) (bodyIL cf ci)⟩
theorem cmp_is_whole (cf ci : Str → Fn) (k : Nat) (G : Gl) (hS : TbS G (lw.tbl cf ci)) (hC : TbC G k (lw.tbl cf ci)) : compB k (lw.tbl cf ci) G hS hC [("value" : Str)] (dfD ("is_whole" : Str)).scope (dfD ("is_whole" : Str)).body = some (b_is_whole cf ci) := by kernel_rfl
theorem cmp_is_name (cf ci : Str → Fn) (k : Nat) (G : Gl) (hS : TbS G (lw.tbl cf ci)) (hC : TbC G k (lw.tbl cf ci)) : compB k (lw.tbl cf ci) G hS hC [("value" : Str), ("sign" : Str)] (dfD ("is_name" : Str)).scope (dfD ("is_name" : Str)).body = some (b_is_name cf ci) := by kernel_rfl
theorem cmp_is_place (cf ci : Str → Fn) (k : Nat) (G : Gl) (hS : TbS G (lw.tbl cf ci)) (hC : TbC G k (lw.tbl cf ci)) : compB k (lw.tbl cf ci) G hS hC [("places" : Str), ("value" : Str)] (dfD ("is_place" : Str)).scope (dfD ("is_place" : Str)).body = some (b_is_place cf ci) := by kernel_rfl
theorem cmp_is_tie (cf ci : Str → Fn) (k : Nat) (G : Gl) (hS : TbS G (lw.tbl cf ci)) (hC : TbC G k (lw.tbl cf ci)) : compB k (lw.tbl cf ci) G hS hC [("places" : Str), ("value" : Str)] (dfD ("is_tie" : Str)).scope (dfD ("is_tie" : Str)).body = some (b_is_tie cf ci) := by kernel_rfl
theorem cmp_check_web (cf ci : Str → Fn) (k : Nat) (G : Gl) (hS : TbS G (lw.tbl cf ci)) (hC : TbC G k (lw.tbl cf ci)) : compB k (lw.tbl cf ci) G hS hC [("web" : Str)] (dfD ("check_web" : Str)).scope (dfD ("check_web" : Str)).body = some (b_check_web cf ci) := by kernel_rfl
theorem cmp_check_plain_web (cf ci : Str → Fn) (k : Nat) (G : Gl) (hS : TbS G (lw.tbl cf ci)) (hC : TbC G k (lw.tbl cf ci)) : compB k (lw.tbl cf ci) G hS hC [("web" : Str)] (dfD ("check_plain_web" : Str)).scope (dfD ("check_plain_web" : Str)).body = some (b_check_plain_web cf ci) := by kernel_rfl
theorem cmp_neighbours_in (cf ci : Str → Fn) (k : Nat) (G : Gl) (hS : TbS G (lw.tbl cf ci)) (hC : TbC G k (lw.tbl cf ci)) : compB k (lw.tbl cf ci) G hS hC [("web" : Str), ("found" : Str), ("_" : Str), ("i" : Str), ("j" : Str), ("places" : Str)] (dfD ("neighbours_in" : Str)).scope (dfD ("neighbours_in" : Str)).body = some (b_neighbours_in cf ci) := by kernel_rfl
theorem cmp_led (cf ci : Str → Fn) (k : Nat) (G : Gl) (hS : TbS G (lw.tbl cf ci)) (hC : TbC G k (lw.tbl cf ci)) : compB k (lw.tbl cf ci) G hS hC [("ties" : Str), ("names" : Str), ("letter" : Str), ("i" : Str), ("j" : Str)] (dfD ("led" : Str)).scope (dfD ("led" : Str)).body = some (b_led cf ci) := by kernel_rfl
theorem cmp_is_mark (cf ci : Str → Fn) (k : Nat) (G : Gl) (hS : TbS G (lw.tbl cf ci)) (hC : TbC G k (lw.tbl cf ci)) : compB k (lw.tbl cf ci) G hS hC [("web" : Str), ("value" : Str)] (dfD ("is_mark" : Str)).scope (dfD ("is_mark" : Str)).body = some (b_is_mark cf ci) := by kernel_rfl
theorem cmp_check_mark (cf ci : Str → Fn) (k : Nat) (G : Gl) (hS : TbS G (lw.tbl cf ci)) (hC : TbC G k (lw.tbl cf ci)) : compB k (lw.tbl cf ci) G hS hC [("web" : Str), ("mark" : Str)] (dfD ("check_mark" : Str)).scope (dfD ("check_mark" : Str)).body = some (b_check_mark cf ci) := by kernel_rfl
theorem cmp_as_one (cf ci : Str → Fn) (k : Nat) (G : Gl) (hS : TbS G (lw.tbl cf ci)) (hC : TbC G k (lw.tbl cf ci)) : compB k (lw.tbl cf ci) G hS hC [("web" : Str), ("kept" : Str), ("gone" : Str), ("marks" : Str), ("names" : Str), ("place" : Str), ("here" : Str)] (dfD ("as_one" : Str)).scope (dfD ("as_one" : Str)).body = some (b_as_one cf ci) := by kernel_rfl
theorem cmp_pinched (cf ci : Str → Fn) (k : Nat) (G : Gl) (hS : TbS G (lw.tbl cf ci)) (hC : TbC G k (lw.tbl cf ci)) : compB k (lw.tbl cf ci) G hS hC [("web" : Str), ("i" : Str), ("j" : Str), ("marks" : Str)] (dfD ("pinched" : Str)).scope (dfD ("pinched" : Str)).body = some (b_pinched cf ci) := by kernel_rfl
theorem cmp_check_tie (cf ci : Str → Fn) (k : Nat) (G : Gl) (hS : TbS G (lw.tbl cf ci)) (hC : TbC G k (lw.tbl cf ci)) : compB k (lw.tbl cf ci) G hS hC [("web" : Str), ("index" : Str)] (dfD ("check_tie" : Str)).scope (dfD ("check_tie" : Str)).body = some (b_check_tie cf ci) := by kernel_rfl
theorem cmp_less_tie (cf ci : Str → Fn) (k : Nat) (G : Gl) (hS : TbS G (lw.tbl cf ci)) (hC : TbC G k (lw.tbl cf ci)) : compB k (lw.tbl cf ci) G hS hC [("web" : Str), ("index" : Str)] (dfD ("less_tie" : Str)).scope (dfD ("less_tie" : Str)).body = some (b_less_tie cf ci) := by kernel_rfl
theorem cmp_without_tie (cf ci : Str → Fn) (k : Nat) (G : Gl) (hS : TbS G (lw.tbl cf ci)) (hC : TbC G k (lw.tbl cf ci)) : compB k (lw.tbl cf ci) G hS hC [("web" : Str), ("index" : Str)] (dfD ("without_tie" : Str)).scope (dfD ("without_tie" : Str)).body = some (b_without_tie cf ci) := by kernel_rfl
theorem cmp_pinched_tie (cf ci : Str → Fn) (k : Nat) (G : Gl) (hS : TbS G (lw.tbl cf ci)) (hC : TbC G k (lw.tbl cf ci)) : compB k (lw.tbl cf ci) G hS hC [("web" : Str), ("index" : Str), ("marks" : Str), ("_" : Str), ("i" : Str), ("j" : Str), ("kept" : Str), ("gone" : Str), ("mark" : Str)] (dfD ("pinched_tie" : Str)).scope (dfD ("pinched_tie" : Str)).body = some (b_pinched_tie cf ci) := by kernel_rfl
theorem cmp_reached (cf ci : Str → Fn) (k : Nat) (G : Gl) (hS : TbS G (lw.tbl cf ci)) (hC : TbC G k (lw.tbl cf ci)) : compB k (lw.tbl cf ci) G hS hC [("near" : Str), ("place" : Str), ("seen" : Str), ("waits" : Str), ("here" : Str), ("fresh" : Str), ("other" : Str)] (dfD ("reached" : Str)).scope (dfD ("reached" : Str)).body = some (b_reached cf ci) := by kernel_rfl
theorem cmp_pieces (cf ci : Str → Fn) (k : Nat) (G : Gl) (hS : TbS G (lw.tbl cf ci)) (hC : TbC G k (lw.tbl cf ci)) : compB k (lw.tbl cf ci) G hS hC [("web" : Str), ("near" : Str), ("left" : Str), ("found" : Str), ("mine" : Str), ("names" : Str), ("ties" : Str), ("tie" : Str), ("place" : Str), ("at" : Str)] (dfD ("pieces" : Str)).scope (dfD ("pieces" : Str)).body = some (b_pieces cf ci) := by kernel_rfl
theorem cmp__law_cell (cf ci : Str → Fn) (k : Nat) (G : Gl) (hS : TbS G (lw.tbl cf ci)) (hC : TbC G k (lw.tbl cf ci)) : compB k (lw.tbl cf ci) G hS hC [("script" : Str), ("k" : Str)] (dfD ("_law_cell" : Str)).scope (dfD ("_law_cell" : Str)).body = some (b__law_cell cf ci) := by kernel_rfl
theorem cmp__law_box (cf ci : Str → Fn) (k : Nat) (G : Gl) (hS : TbS G (lw.tbl cf ci)) (hC : TbC G k (lw.tbl cf ci)) : compB k (lw.tbl cf ci) G hS hC [("great" : Str)] (dfD ("_law_box" : Str)).scope (dfD ("_law_box" : Str)).body = some (b__law_box cf ci) := by kernel_rfl
theorem cmp__law_take (cf ci : Str → Fn) (k : Nat) (G : Gl) (hS : TbS G (lw.tbl cf ci)) (hC : TbC G k (lw.tbl cf ci)) : compB k (lw.tbl cf ci) G hS hC [("box" : Str), ("many" : Str), ("mixed" : Str), ("digit" : Str)] (dfD ("_law_take" : Str)).scope (dfD ("_law_take" : Str)).body = some (b__law_take cf ci) := by kernel_rfl
theorem cmp__law_pick (cf ci : Str → Fn) (k : Nat) (G : Gl) (hS : TbS G (lw.tbl cf ci)) (hC : TbC G k (lw.tbl cf ci)) : compB k (lw.tbl cf ci) G hS hC [("box" : Str), ("items" : Str)] (dfD ("_law_pick" : Str)).scope (dfD ("_law_pick" : Str)).body = some (b__law_pick cf ci) := by kernel_rfl
theorem cmp__law_mixed (cf ci : Str → Fn) (k : Nat) (G : Gl) (hS : TbS G (lw.tbl cf ci)) (hC : TbC G k (lw.tbl cf ci)) : compB k (lw.tbl cf ci) G hS hC [("box" : Str), ("items" : Str), ("left" : Str), ("found" : Str)] (dfD ("_law_mixed" : Str)).scope (dfD ("_law_mixed" : Str)).body = some (b__law_mixed cf ci) := by kernel_rfl
theorem cmp__law_same (cf ci : Str → Fn) (k : Nat) (G : Gl) (hS : TbS G (lw.tbl cf ci)) (hC : TbC G k (lw.tbl cf ci)) : compB k (lw.tbl cf ci) G hS hC [("told" : Str), ("due" : Str), ("k" : Str), ("key" : Str)] (dfD ("_law_same" : Str)).scope (dfD ("_law_same" : Str)).body = some (b__law_same cf ci) := by kernel_rfl
theorem cmp__law_copied (cf ci : Str → Fn) (k : Nat) (G : Gl) (hS : TbS G (lw.tbl cf ci)) (hC : TbC G k (lw.tbl cf ci)) : compB k (lw.tbl cf ci) G hS hC [("value" : Str), ("one" : Str), ("key" : Str)] (dfD ("_law_copied" : Str)).scope (dfD ("_law_copied" : Str)).body = some (b__law_copied cf ci) := by kernel_rfl
theorem cmp__law_blamed (cf ci : Str → Fn) (k : Nat) (G : Gl) (hS : TbS G (lw.tbl cf ci)) (hC : TbC G k (lw.tbl cf ci)) : compB k (lw.tbl cf ci) G hS hC [("given" : Str), ("value" : Str), ("one" : Str)] (dfD ("_law_blamed" : Str)).scope (dfD ("_law_blamed" : Str)).body = some (b__law_blamed cf ci) := by kernel_rfl
theorem cmp__law_is_web (cf ci : Str → Fn) (k : Nat) (G : Gl) (hS : TbS G (lw.tbl cf ci)) (hC : TbC G k (lw.tbl cf ci)) : compB k (lw.tbl cf ci) G hS hC [("value" : Str), ("own" : Str)] (dfD ("_law_is_web" : Str)).scope (dfD ("_law_is_web" : Str)).body = some (b__law_is_web cf ci) := by kernel_rfl
theorem cmp__law_drawn_web (cf ci : Str → Fn) (k : Nat) (G : Gl) (hS : TbS G (lw.tbl cf ci)) (hC : TbC G k (lw.tbl cf ci)) : compB k (lw.tbl cf ci) G hS hC [("box" : Str), ("marks" : Str), ("cut" : Str), ("turn" : Str), ("places" : Str), ("ties" : Str), ("letters" : Str), ("order" : Str), ("some" : Str), ("tie" : Str)] (dfD ("_law_drawn_web" : Str)).scope (dfD ("_law_drawn_web" : Str)).body = some (b__law_drawn_web cf ci) := by kernel_rfl
theorem cmp__law_made (cf ci : Str → Fn) (k : Nat) (G : Gl) (hS : TbS G (lw.tbl cf ci)) (hC : TbC G k (lw.tbl cf ci)) : compB k (lw.tbl cf ci) G hS hC [("own" : Str), ("named" : Str)] (dfD ("_law_made" : Str)).scope (dfD ("_law_made" : Str)).body = some (b__law_made cf ci) := by kernel_rfl
theorem cmp__law_asked (cf ci : Str → Fn) (k : Nat) (G : Gl) (hS : TbS G (lw.tbl cf ci)) (hC : TbC G k (lw.tbl cf ci)) : compB k (lw.tbl cf ci) G hS hC [("which" : Str), ("args" : Str), ("named" : Str), ("error" : Str)] (dfD ("_law_asked" : Str)).scope (dfD ("_law_asked" : Str)).body = some (b__law_asked cf ci) := by kernel_rfl
theorem cmp__law_put (cf ci : Str → Fn) (k : Nat) (G : Gl) (hS : TbS G (lw.tbl cf ci)) (hC : TbC G k (lw.tbl cf ci)) : compB k (lw.tbl cf ci) G hS hC [("own" : Str), ("gone" : Str), ("kept" : Str), ("led_v" : Str), ("new" : Str), ("place" : Str), ("mark" : Str), ("letter" : Str), ("i" : Str), ("j" : Str)] (dfD ("_law_put" : Str)).scope (dfD ("_law_put" : Str)).body = some (b__law_put cf ci) := by kernel_rfl
theorem cmp__law_pinched (cf ci : Str → Fn) (k : Nat) (G : Gl) (hS : TbS G (lw.tbl cf ci)) (hC : TbC G k (lw.tbl cf ci)) : compB k (lw.tbl cf ci) G hS hC [("own" : Str), ("i" : Str), ("j" : Str), ("less" : Str)] (dfD ("_law_pinched" : Str)).scope (dfD ("_law_pinched" : Str)).body = some (b__law_pinched cf ci) := by kernel_rfl
theorem cmp__law_pinched_tie (cf ci : Str → Fn) (k : Nat) (G : Gl) (hS : TbS G (lw.tbl cf ci)) (hC : TbC G k (lw.tbl cf ci)) : compB k (lw.tbl cf ci) G hS hC [("own" : Str), ("index" : Str), ("ties" : Str), ("letter" : Str), ("i" : Str), ("j" : Str)] (dfD ("_law_pinched_tie" : Str)).scope (dfD ("_law_pinched_tie" : Str)).body = some (b__law_pinched_tie cf ci) := by kernel_rfl
theorem cmp__law_marks_right (cf ci : Str → Fn) (k : Nat) (G : Gl) (hS : TbS G (lw.tbl cf ci)) (hC : TbC G k (lw.tbl cf ci)) : compB k (lw.tbl cf ci) G hS hC [("box" : Str), ("own" : Str), ("named" : Str), ("i" : Str), ("made" : Str), ("many" : Str), ("j" : Str), ("told" : Str)] (dfD ("_law_marks_right" : Str)).scope (dfD ("_law_marks_right" : Str)).body = some (b__law_marks_right cf ci) := by kernel_rfl
theorem cmp__law_ties_right (cf ci : Str → Fn) (k : Nat) (G : Gl) (hS : TbS G (lw.tbl cf ci)) (hC : TbC G k (lw.tbl cf ci)) : compB k (lw.tbl cf ci) G hS hC [("box" : Str), ("own" : Str), ("named" : Str), ("index" : Str), ("made" : Str), ("ties" : Str), ("less" : Str), ("told" : Str), ("due" : Str), ("at" : Str), ("again" : Str), ("more" : Str)] (dfD ("_law_ties_right" : Str)).scope (dfD ("_law_ties_right" : Str)).body = some (b__law_ties_right cf ci) := by kernel_rfl
theorem cmp__law_pieces (cf ci : Str → Fn) (k : Nat) (G : Gl) (hS : TbS G (lw.tbl cf ci)) (hC : TbC G k (lw.tbl cf ci)) : compB k (lw.tbl cf ci) G hS hC [("own" : Str), ("names" : Str), ("found" : Str), ("name" : Str), ("letter" : Str), ("i" : Str), ("j" : Str), ("some" : Str), ("one" : Str), ("other" : Str), ("place" : Str)] (dfD ("_law_pieces" : Str)).scope (dfD ("_law_pieces" : Str)).body = some (b__law_pieces cf ci) := by kernel_rfl
theorem cmp__law_pieces_right (cf ci : Str → Fn) (k : Nat) (G : Gl) (hS : TbS G (lw.tbl cf ci)) (hC : TbC G k (lw.tbl cf ci)) : compB k (lw.tbl cf ci) G hS hC [("box" : Str), ("own" : Str), ("named" : Str), ("bare" : Str), ("turn" : Str), ("marked" : Str), ("told" : Str), ("made" : Str), ("dues" : Str), ("k" : Str)] (dfD ("_law_pieces_right" : Str)).scope (dfD ("_law_pieces_right" : Str)).body = some (b__law_pieces_right cf ci) := by kernel_rfl
theorem cmp__law_refused_right (cf ci : Str → Fn) (k : Nat) (G : Gl) (hS : TbS G (lw.tbl cf ci)) (hC : TbC G k (lw.tbl cf ci)) : compB k (lw.tbl cf ci) G hS hC [("box" : Str), ("own" : Str), ("named" : Str), ("which" : Str), ("odd" : Str), ("wrong" : Str), ("given" : Str), ("made" : Str), ("many" : Str)] (dfD ("_law_refused_right" : Str)).scope (dfD ("_law_refused_right" : Str)).body = some (b__law_refused_right cf ci) := by kernel_rfl
theorem cmp_law (cf ci : Str → Fn) (k : Nat) (G : Gl) (hS : TbS G (lw.tbl cf ci)) (hC : TbC G k (lw.tbl cf ci)) : compB k (lw.tbl cf ci) G hS hC [("script" : Str), ("k" : Str), ("box" : Str), ("named" : Str), ("turn" : Str), ("own" : Str)] (dfD ("law" : Str)).scope (dfD ("law" : Str)).body = some (b_law cf ci) := by kernel_rfl
theorem cmpI_Web (cf ci : Str → Fn) (k : Nat) (G : Gl) (hS : TbS G (lw.tbl cf ci)) (hC : TbC G k (lw.tbl cf ci)) : compB k (lw.tbl cf ci) G hS hC [("self" : Str), ("places" : Str), ("ties" : Str), ("marks" : Str), ("tie" : Str), ("mark" : Str)] (inDf ("Web" : Str) ("Web.__init__" : Str)).scope (inDf ("Web" : Str) ("Web.__init__" : Str)).body = some (bi_Web cf ci) := by kernel_rfl
theorem bf_is_whole_0 (kV doc pm : Value) (an : Option Addr) (cdv ct : Value) : BindF (PySem.W.fnOf (dfD ("is_whole" : Str)).name (dfD ("is_whole" : Str)).qual (dfD ("is_whole" : Str)).params (dfD ("is_whole" : Str)).body (dfD ("is_whole" : Str)).scope .none kV doc pm an cdv ct) [("value" : Str)] 1 [] [0] := fun us ws l h1 h2 h3 => match us, ws, h1, h2 with
  | [u0], [], _, _ => by cases h3; kernel_rfl
theorem fm_is_whole : ∀ m, (("is_whole" : Str), m) ∈ lw.fnL → ∀ (kV doc pm : Value) (an : Option Addr) (cdv ct : Value), BindF (PySem.W.fnOf (dfD ("is_whole" : Str)).name (dfD ("is_whole" : Str)).qual (dfD ("is_whole" : Str)).params (dfD ("is_whole" : Str)).body (dfD ("is_whole" : Str)).scope .none kV doc pm an cdv ct) [("value" : Str)] m.n m.ks m.idx := fun m hm => by
  have e : (fnL.filter fun r => r.1 == ("is_whole" : Str)) = [(("is_whole" : Str), ⟨1, [], [0]⟩)] := by kernel_rfl
  have h := (List.mem_filter (p := fun r : Str × Form => r.1 == ("is_whole" : Str))).mpr ⟨hm, beq_self_eq_true ("is_whole" : Str)⟩
  rw [show lw.fnL = fnL from rfl, e] at h
  rcases List.mem_cons.mp h with h | h
  · cases h; exact bf_is_whole_0
  cases h
theorem sc_is_whole : FnScope [("value" : Str)] [("value" : Str)] (dfD ("is_whole" : Str)).scope := C8.fnScope_by (by kernel_rfl)
theorem N_is_whole : lw.N ("is_whole" : Str) = [("value" : Str)] := by kernel_rfl
theorem ps_is_whole : lw.ps ("is_whole" : Str) = [("value" : Str)] := by kernel_rfl
theorem body_is_whole (cf ci : Str → Fn) : lw.body cf ci ("is_whole" : Str) = b_is_whole cf ci := by kernel_rfl
theorem dok_is_whole : DefOk lw ("is_whole" : Str) := ⟨⟨dfD ("is_whole" : Str), List.mem_map.mpr ⟨("is_whole" : Str), List.elem_iff.mp (by kernel_rfl), rfl⟩, rfl, rfl, rfl, by rw [N_is_whole, ps_is_whole]; exact sc_is_whole, by rw [ps_is_whole]; exact fm_is_whole, fun cf ci k G hS hC => by rw [N_is_whole, body_is_whole]; exact cmp_is_whole cf ci k G hS hC⟩⟩
theorem bf_is_name_0 (kV doc pm : Value) (an : Option Addr) (cdv ct : Value) : BindF (PySem.W.fnOf (dfD ("is_name" : Str)).name (dfD ("is_name" : Str)).qual (dfD ("is_name" : Str)).params (dfD ("is_name" : Str)).body (dfD ("is_name" : Str)).scope .none kV doc pm an cdv ct) [("value" : Str)] 1 [] [0] := fun us ws l h1 h2 h3 => match us, ws, h1, h2 with
  | [u0], [], _, _ => by cases h3; kernel_rfl
theorem fm_is_name : ∀ m, (("is_name" : Str), m) ∈ lw.fnL → ∀ (kV doc pm : Value) (an : Option Addr) (cdv ct : Value), BindF (PySem.W.fnOf (dfD ("is_name" : Str)).name (dfD ("is_name" : Str)).qual (dfD ("is_name" : Str)).params (dfD ("is_name" : Str)).body (dfD ("is_name" : Str)).scope .none kV doc pm an cdv ct) [("value" : Str)] m.n m.ks m.idx := fun m hm => by
  have e : (fnL.filter fun r => r.1 == ("is_name" : Str)) = [(("is_name" : Str), ⟨1, [], [0]⟩)] := by kernel_rfl
  have h := (List.mem_filter (p := fun r : Str × Form => r.1 == ("is_name" : Str))).mpr ⟨hm, beq_self_eq_true ("is_name" : Str)⟩
  rw [show lw.fnL = fnL from rfl, e] at h
  rcases List.mem_cons.mp h with h | h
  · cases h; exact bf_is_name_0
  cases h
theorem sc_is_name : FnScope [("value" : Str), ("sign" : Str)] [("value" : Str)] (dfD ("is_name" : Str)).scope := C8.fnScope_by (by kernel_rfl)
theorem N_is_name : lw.N ("is_name" : Str) = [("value" : Str), ("sign" : Str)] := by kernel_rfl
theorem ps_is_name : lw.ps ("is_name" : Str) = [("value" : Str)] := by kernel_rfl
theorem body_is_name (cf ci : Str → Fn) : lw.body cf ci ("is_name" : Str) = b_is_name cf ci := by kernel_rfl
theorem dok_is_name : DefOk lw ("is_name" : Str) := ⟨⟨dfD ("is_name" : Str), List.mem_map.mpr ⟨("is_name" : Str), List.elem_iff.mp (by kernel_rfl), rfl⟩, rfl, rfl, rfl, by rw [N_is_name, ps_is_name]; exact sc_is_name, by rw [ps_is_name]; exact fm_is_name, fun cf ci k G hS hC => by rw [N_is_name, body_is_name]; exact cmp_is_name cf ci k G hS hC⟩⟩
theorem bf_is_place_0 (kV doc pm : Value) (an : Option Addr) (cdv ct : Value) : BindF (PySem.W.fnOf (dfD ("is_place" : Str)).name (dfD ("is_place" : Str)).qual (dfD ("is_place" : Str)).params (dfD ("is_place" : Str)).body (dfD ("is_place" : Str)).scope .none kV doc pm an cdv ct) [("places" : Str), ("value" : Str)] 2 [] [0, 1] := fun us ws l h1 h2 h3 => match us, ws, h1, h2 with
  | [u0, u1], [], _, _ => by cases h3; kernel_rfl
theorem fm_is_place : ∀ m, (("is_place" : Str), m) ∈ lw.fnL → ∀ (kV doc pm : Value) (an : Option Addr) (cdv ct : Value), BindF (PySem.W.fnOf (dfD ("is_place" : Str)).name (dfD ("is_place" : Str)).qual (dfD ("is_place" : Str)).params (dfD ("is_place" : Str)).body (dfD ("is_place" : Str)).scope .none kV doc pm an cdv ct) [("places" : Str), ("value" : Str)] m.n m.ks m.idx := fun m hm => by
  have e : (fnL.filter fun r => r.1 == ("is_place" : Str)) = [(("is_place" : Str), ⟨2, [], [0, 1]⟩)] := by kernel_rfl
  have h := (List.mem_filter (p := fun r : Str × Form => r.1 == ("is_place" : Str))).mpr ⟨hm, beq_self_eq_true ("is_place" : Str)⟩
  rw [show lw.fnL = fnL from rfl, e] at h
  rcases List.mem_cons.mp h with h | h
  · cases h; exact bf_is_place_0
  cases h
theorem sc_is_place : FnScope [("places" : Str), ("value" : Str)] [("places" : Str), ("value" : Str)] (dfD ("is_place" : Str)).scope := C8.fnScope_by (by kernel_rfl)
theorem N_is_place : lw.N ("is_place" : Str) = [("places" : Str), ("value" : Str)] := by kernel_rfl
theorem ps_is_place : lw.ps ("is_place" : Str) = [("places" : Str), ("value" : Str)] := by kernel_rfl
theorem body_is_place (cf ci : Str → Fn) : lw.body cf ci ("is_place" : Str) = b_is_place cf ci := by kernel_rfl
theorem dok_is_place : DefOk lw ("is_place" : Str) := ⟨⟨dfD ("is_place" : Str), List.mem_map.mpr ⟨("is_place" : Str), List.elem_iff.mp (by kernel_rfl), rfl⟩, rfl, rfl, rfl, by rw [N_is_place, ps_is_place]; exact sc_is_place, by rw [ps_is_place]; exact fm_is_place, fun cf ci k G hS hC => by rw [N_is_place, body_is_place]; exact cmp_is_place cf ci k G hS hC⟩⟩
theorem bf_is_tie_0 (kV doc pm : Value) (an : Option Addr) (cdv ct : Value) : BindF (PySem.W.fnOf (dfD ("is_tie" : Str)).name (dfD ("is_tie" : Str)).qual (dfD ("is_tie" : Str)).params (dfD ("is_tie" : Str)).body (dfD ("is_tie" : Str)).scope .none kV doc pm an cdv ct) [("places" : Str), ("value" : Str)] 2 [] [0, 1] := fun us ws l h1 h2 h3 => match us, ws, h1, h2 with
  | [u0, u1], [], _, _ => by cases h3; kernel_rfl
theorem fm_is_tie : ∀ m, (("is_tie" : Str), m) ∈ lw.fnL → ∀ (kV doc pm : Value) (an : Option Addr) (cdv ct : Value), BindF (PySem.W.fnOf (dfD ("is_tie" : Str)).name (dfD ("is_tie" : Str)).qual (dfD ("is_tie" : Str)).params (dfD ("is_tie" : Str)).body (dfD ("is_tie" : Str)).scope .none kV doc pm an cdv ct) [("places" : Str), ("value" : Str)] m.n m.ks m.idx := fun m hm => by
  have e : (fnL.filter fun r => r.1 == ("is_tie" : Str)) = [(("is_tie" : Str), ⟨2, [], [0, 1]⟩)] := by kernel_rfl
  have h := (List.mem_filter (p := fun r : Str × Form => r.1 == ("is_tie" : Str))).mpr ⟨hm, beq_self_eq_true ("is_tie" : Str)⟩
  rw [show lw.fnL = fnL from rfl, e] at h
  rcases List.mem_cons.mp h with h | h
  · cases h; exact bf_is_tie_0
  cases h
theorem sc_is_tie : FnScope [("places" : Str), ("value" : Str)] [("places" : Str), ("value" : Str)] (dfD ("is_tie" : Str)).scope := C8.fnScope_by (by kernel_rfl)
theorem N_is_tie : lw.N ("is_tie" : Str) = [("places" : Str), ("value" : Str)] := by kernel_rfl
theorem ps_is_tie : lw.ps ("is_tie" : Str) = [("places" : Str), ("value" : Str)] := by kernel_rfl
theorem body_is_tie (cf ci : Str → Fn) : lw.body cf ci ("is_tie" : Str) = b_is_tie cf ci := by kernel_rfl
theorem dok_is_tie : DefOk lw ("is_tie" : Str) := ⟨⟨dfD ("is_tie" : Str), List.mem_map.mpr ⟨("is_tie" : Str), List.elem_iff.mp (by kernel_rfl), rfl⟩, rfl, rfl, rfl, by rw [N_is_tie, ps_is_tie]; exact sc_is_tie, by rw [ps_is_tie]; exact fm_is_tie, fun cf ci k G hS hC => by rw [N_is_tie, body_is_tie]; exact cmp_is_tie cf ci k G hS hC⟩⟩
theorem bf_check_web_0 (kV doc pm : Value) (an : Option Addr) (cdv ct : Value) : BindF (PySem.W.fnOf (dfD ("check_web" : Str)).name (dfD ("check_web" : Str)).qual (dfD ("check_web" : Str)).params (dfD ("check_web" : Str)).body (dfD ("check_web" : Str)).scope .none kV doc pm an cdv ct) [("web" : Str)] 1 [] [0] := fun us ws l h1 h2 h3 => match us, ws, h1, h2 with
  | [u0], [], _, _ => by cases h3; kernel_rfl
theorem fm_check_web : ∀ m, (("check_web" : Str), m) ∈ lw.fnL → ∀ (kV doc pm : Value) (an : Option Addr) (cdv ct : Value), BindF (PySem.W.fnOf (dfD ("check_web" : Str)).name (dfD ("check_web" : Str)).qual (dfD ("check_web" : Str)).params (dfD ("check_web" : Str)).body (dfD ("check_web" : Str)).scope .none kV doc pm an cdv ct) [("web" : Str)] m.n m.ks m.idx := fun m hm => by
  have e : (fnL.filter fun r => r.1 == ("check_web" : Str)) = [(("check_web" : Str), ⟨1, [], [0]⟩)] := by kernel_rfl
  have h := (List.mem_filter (p := fun r : Str × Form => r.1 == ("check_web" : Str))).mpr ⟨hm, beq_self_eq_true ("check_web" : Str)⟩
  rw [show lw.fnL = fnL from rfl, e] at h
  rcases List.mem_cons.mp h with h | h
  · cases h; exact bf_check_web_0
  cases h
theorem sc_check_web : FnScope [("web" : Str)] [("web" : Str)] (dfD ("check_web" : Str)).scope := C8.fnScope_by (by kernel_rfl)
theorem N_check_web : lw.N ("check_web" : Str) = [("web" : Str)] := by kernel_rfl
theorem ps_check_web : lw.ps ("check_web" : Str) = [("web" : Str)] := by kernel_rfl
theorem body_check_web (cf ci : Str → Fn) : lw.body cf ci ("check_web" : Str) = b_check_web cf ci := by kernel_rfl
theorem dok_check_web : DefOk lw ("check_web" : Str) := ⟨⟨dfD ("check_web" : Str), List.mem_map.mpr ⟨("check_web" : Str), List.elem_iff.mp (by kernel_rfl), rfl⟩, rfl, rfl, rfl, by rw [N_check_web, ps_check_web]; exact sc_check_web, by rw [ps_check_web]; exact fm_check_web, fun cf ci k G hS hC => by rw [N_check_web, body_check_web]; exact cmp_check_web cf ci k G hS hC⟩⟩
theorem bf_check_plain_web_0 (kV doc pm : Value) (an : Option Addr) (cdv ct : Value) : BindF (PySem.W.fnOf (dfD ("check_plain_web" : Str)).name (dfD ("check_plain_web" : Str)).qual (dfD ("check_plain_web" : Str)).params (dfD ("check_plain_web" : Str)).body (dfD ("check_plain_web" : Str)).scope .none kV doc pm an cdv ct) [("web" : Str)] 1 [] [0] := fun us ws l h1 h2 h3 => match us, ws, h1, h2 with
  | [u0], [], _, _ => by cases h3; kernel_rfl
theorem fm_check_plain_web : ∀ m, (("check_plain_web" : Str), m) ∈ lw.fnL → ∀ (kV doc pm : Value) (an : Option Addr) (cdv ct : Value), BindF (PySem.W.fnOf (dfD ("check_plain_web" : Str)).name (dfD ("check_plain_web" : Str)).qual (dfD ("check_plain_web" : Str)).params (dfD ("check_plain_web" : Str)).body (dfD ("check_plain_web" : Str)).scope .none kV doc pm an cdv ct) [("web" : Str)] m.n m.ks m.idx := fun m hm => by
  have e : (fnL.filter fun r => r.1 == ("check_plain_web" : Str)) = [(("check_plain_web" : Str), ⟨1, [], [0]⟩)] := by kernel_rfl
  have h := (List.mem_filter (p := fun r : Str × Form => r.1 == ("check_plain_web" : Str))).mpr ⟨hm, beq_self_eq_true ("check_plain_web" : Str)⟩
  rw [show lw.fnL = fnL from rfl, e] at h
  rcases List.mem_cons.mp h with h | h
  · cases h; exact bf_check_plain_web_0
  cases h
theorem sc_check_plain_web : FnScope [("web" : Str)] [("web" : Str)] (dfD ("check_plain_web" : Str)).scope := C8.fnScope_by (by kernel_rfl)
theorem N_check_plain_web : lw.N ("check_plain_web" : Str) = [("web" : Str)] := by kernel_rfl
theorem ps_check_plain_web : lw.ps ("check_plain_web" : Str) = [("web" : Str)] := by kernel_rfl
theorem body_check_plain_web (cf ci : Str → Fn) : lw.body cf ci ("check_plain_web" : Str) = b_check_plain_web cf ci := by kernel_rfl
theorem dok_check_plain_web : DefOk lw ("check_plain_web" : Str) := ⟨⟨dfD ("check_plain_web" : Str), List.mem_map.mpr ⟨("check_plain_web" : Str), List.elem_iff.mp (by kernel_rfl), rfl⟩, rfl, rfl, rfl, by rw [N_check_plain_web, ps_check_plain_web]; exact sc_check_plain_web, by rw [ps_check_plain_web]; exact fm_check_plain_web, fun cf ci k G hS hC => by rw [N_check_plain_web, body_check_plain_web]; exact cmp_check_plain_web cf ci k G hS hC⟩⟩
theorem bf_neighbours_in_0 (kV doc pm : Value) (an : Option Addr) (cdv ct : Value) : BindF (PySem.W.fnOf (dfD ("neighbours_in" : Str)).name (dfD ("neighbours_in" : Str)).qual (dfD ("neighbours_in" : Str)).params (dfD ("neighbours_in" : Str)).body (dfD ("neighbours_in" : Str)).scope .none kV doc pm an cdv ct) [("web" : Str)] 1 [] [0] := fun us ws l h1 h2 h3 => match us, ws, h1, h2 with
  | [u0], [], _, _ => by cases h3; kernel_rfl
theorem fm_neighbours_in : ∀ m, (("neighbours_in" : Str), m) ∈ lw.fnL → ∀ (kV doc pm : Value) (an : Option Addr) (cdv ct : Value), BindF (PySem.W.fnOf (dfD ("neighbours_in" : Str)).name (dfD ("neighbours_in" : Str)).qual (dfD ("neighbours_in" : Str)).params (dfD ("neighbours_in" : Str)).body (dfD ("neighbours_in" : Str)).scope .none kV doc pm an cdv ct) [("web" : Str)] m.n m.ks m.idx := fun m hm => by
  have e : (fnL.filter fun r => r.1 == ("neighbours_in" : Str)) = [(("neighbours_in" : Str), ⟨1, [], [0]⟩)] := by kernel_rfl
  have h := (List.mem_filter (p := fun r : Str × Form => r.1 == ("neighbours_in" : Str))).mpr ⟨hm, beq_self_eq_true ("neighbours_in" : Str)⟩
  rw [show lw.fnL = fnL from rfl, e] at h
  rcases List.mem_cons.mp h with h | h
  · cases h; exact bf_neighbours_in_0
  cases h
theorem sc_neighbours_in : FnScope [("web" : Str), ("found" : Str), ("_" : Str), ("i" : Str), ("j" : Str), ("places" : Str)] [("web" : Str)] (dfD ("neighbours_in" : Str)).scope := C8.fnScope_by (by kernel_rfl)
theorem N_neighbours_in : lw.N ("neighbours_in" : Str) = [("web" : Str), ("found" : Str), ("_" : Str), ("i" : Str), ("j" : Str), ("places" : Str)] := by kernel_rfl
theorem ps_neighbours_in : lw.ps ("neighbours_in" : Str) = [("web" : Str)] := by kernel_rfl
theorem body_neighbours_in (cf ci : Str → Fn) : lw.body cf ci ("neighbours_in" : Str) = b_neighbours_in cf ci := by kernel_rfl
theorem dok_neighbours_in : DefOk lw ("neighbours_in" : Str) := ⟨⟨dfD ("neighbours_in" : Str), List.mem_map.mpr ⟨("neighbours_in" : Str), List.elem_iff.mp (by kernel_rfl), rfl⟩, rfl, rfl, rfl, by rw [N_neighbours_in, ps_neighbours_in]; exact sc_neighbours_in, by rw [ps_neighbours_in]; exact fm_neighbours_in, fun cf ci k G hS hC => by rw [N_neighbours_in, body_neighbours_in]; exact cmp_neighbours_in cf ci k G hS hC⟩⟩
theorem bf_led_0 (kV doc pm : Value) (an : Option Addr) (cdv ct : Value) : BindF (PySem.W.fnOf (dfD ("led" : Str)).name (dfD ("led" : Str)).qual (dfD ("led" : Str)).params (dfD ("led" : Str)).body (dfD ("led" : Str)).scope .none kV doc pm an cdv ct) [("ties" : Str), ("names" : Str)] 2 [] [0, 1] := fun us ws l h1 h2 h3 => match us, ws, h1, h2 with
  | [u0, u1], [], _, _ => by cases h3; kernel_rfl
theorem fm_led : ∀ m, (("led" : Str), m) ∈ lw.fnL → ∀ (kV doc pm : Value) (an : Option Addr) (cdv ct : Value), BindF (PySem.W.fnOf (dfD ("led" : Str)).name (dfD ("led" : Str)).qual (dfD ("led" : Str)).params (dfD ("led" : Str)).body (dfD ("led" : Str)).scope .none kV doc pm an cdv ct) [("ties" : Str), ("names" : Str)] m.n m.ks m.idx := fun m hm => by
  have e : (fnL.filter fun r => r.1 == ("led" : Str)) = [(("led" : Str), ⟨2, [], [0, 1]⟩)] := by kernel_rfl
  have h := (List.mem_filter (p := fun r : Str × Form => r.1 == ("led" : Str))).mpr ⟨hm, beq_self_eq_true ("led" : Str)⟩
  rw [show lw.fnL = fnL from rfl, e] at h
  rcases List.mem_cons.mp h with h | h
  · cases h; exact bf_led_0
  cases h
theorem sc_led : FnScope [("ties" : Str), ("names" : Str), ("letter" : Str), ("i" : Str), ("j" : Str)] [("ties" : Str), ("names" : Str)] (dfD ("led" : Str)).scope := C8.fnScope_by (by kernel_rfl)
theorem N_led : lw.N ("led" : Str) = [("ties" : Str), ("names" : Str), ("letter" : Str), ("i" : Str), ("j" : Str)] := by kernel_rfl
theorem ps_led : lw.ps ("led" : Str) = [("ties" : Str), ("names" : Str)] := by kernel_rfl
theorem body_led (cf ci : Str → Fn) : lw.body cf ci ("led" : Str) = b_led cf ci := by kernel_rfl
theorem dok_led : DefOk lw ("led" : Str) := ⟨⟨dfD ("led" : Str), List.mem_map.mpr ⟨("led" : Str), List.elem_iff.mp (by kernel_rfl), rfl⟩, rfl, rfl, rfl, by rw [N_led, ps_led]; exact sc_led, by rw [ps_led]; exact fm_led, fun cf ci k G hS hC => by rw [N_led, body_led]; exact cmp_led cf ci k G hS hC⟩⟩
theorem bf_is_mark_0 (kV doc pm : Value) (an : Option Addr) (cdv ct : Value) : BindF (PySem.W.fnOf (dfD ("is_mark" : Str)).name (dfD ("is_mark" : Str)).qual (dfD ("is_mark" : Str)).params (dfD ("is_mark" : Str)).body (dfD ("is_mark" : Str)).scope .none kV doc pm an cdv ct) [("web" : Str), ("value" : Str)] 2 [] [0, 1] := fun us ws l h1 h2 h3 => match us, ws, h1, h2 with
  | [u0, u1], [], _, _ => by cases h3; kernel_rfl
theorem fm_is_mark : ∀ m, (("is_mark" : Str), m) ∈ lw.fnL → ∀ (kV doc pm : Value) (an : Option Addr) (cdv ct : Value), BindF (PySem.W.fnOf (dfD ("is_mark" : Str)).name (dfD ("is_mark" : Str)).qual (dfD ("is_mark" : Str)).params (dfD ("is_mark" : Str)).body (dfD ("is_mark" : Str)).scope .none kV doc pm an cdv ct) [("web" : Str), ("value" : Str)] m.n m.ks m.idx := fun m hm => by
  have e : (fnL.filter fun r => r.1 == ("is_mark" : Str)) = [(("is_mark" : Str), ⟨2, [], [0, 1]⟩)] := by kernel_rfl
  have h := (List.mem_filter (p := fun r : Str × Form => r.1 == ("is_mark" : Str))).mpr ⟨hm, beq_self_eq_true ("is_mark" : Str)⟩
  rw [show lw.fnL = fnL from rfl, e] at h
  rcases List.mem_cons.mp h with h | h
  · cases h; exact bf_is_mark_0
  cases h
theorem sc_is_mark : FnScope [("web" : Str), ("value" : Str)] [("web" : Str), ("value" : Str)] (dfD ("is_mark" : Str)).scope := C8.fnScope_by (by kernel_rfl)
theorem N_is_mark : lw.N ("is_mark" : Str) = [("web" : Str), ("value" : Str)] := by kernel_rfl
theorem ps_is_mark : lw.ps ("is_mark" : Str) = [("web" : Str), ("value" : Str)] := by kernel_rfl
theorem body_is_mark (cf ci : Str → Fn) : lw.body cf ci ("is_mark" : Str) = b_is_mark cf ci := by kernel_rfl
theorem dok_is_mark : DefOk lw ("is_mark" : Str) := ⟨⟨dfD ("is_mark" : Str), List.mem_map.mpr ⟨("is_mark" : Str), List.elem_iff.mp (by kernel_rfl), rfl⟩, rfl, rfl, rfl, by rw [N_is_mark, ps_is_mark]; exact sc_is_mark, by rw [ps_is_mark]; exact fm_is_mark, fun cf ci k G hS hC => by rw [N_is_mark, body_is_mark]; exact cmp_is_mark cf ci k G hS hC⟩⟩
theorem bf_check_mark_0 (kV doc pm : Value) (an : Option Addr) (cdv ct : Value) : BindF (PySem.W.fnOf (dfD ("check_mark" : Str)).name (dfD ("check_mark" : Str)).qual (dfD ("check_mark" : Str)).params (dfD ("check_mark" : Str)).body (dfD ("check_mark" : Str)).scope .none kV doc pm an cdv ct) [("web" : Str), ("mark" : Str)] 2 [] [0, 1] := fun us ws l h1 h2 h3 => match us, ws, h1, h2 with
  | [u0, u1], [], _, _ => by cases h3; kernel_rfl
theorem fm_check_mark : ∀ m, (("check_mark" : Str), m) ∈ lw.fnL → ∀ (kV doc pm : Value) (an : Option Addr) (cdv ct : Value), BindF (PySem.W.fnOf (dfD ("check_mark" : Str)).name (dfD ("check_mark" : Str)).qual (dfD ("check_mark" : Str)).params (dfD ("check_mark" : Str)).body (dfD ("check_mark" : Str)).scope .none kV doc pm an cdv ct) [("web" : Str), ("mark" : Str)] m.n m.ks m.idx := fun m hm => by
  have e : (fnL.filter fun r => r.1 == ("check_mark" : Str)) = [(("check_mark" : Str), ⟨2, [], [0, 1]⟩)] := by kernel_rfl
  have h := (List.mem_filter (p := fun r : Str × Form => r.1 == ("check_mark" : Str))).mpr ⟨hm, beq_self_eq_true ("check_mark" : Str)⟩
  rw [show lw.fnL = fnL from rfl, e] at h
  rcases List.mem_cons.mp h with h | h
  · cases h; exact bf_check_mark_0
  cases h
theorem sc_check_mark : FnScope [("web" : Str), ("mark" : Str)] [("web" : Str), ("mark" : Str)] (dfD ("check_mark" : Str)).scope := C8.fnScope_by (by kernel_rfl)
theorem N_check_mark : lw.N ("check_mark" : Str) = [("web" : Str), ("mark" : Str)] := by kernel_rfl
theorem ps_check_mark : lw.ps ("check_mark" : Str) = [("web" : Str), ("mark" : Str)] := by kernel_rfl
theorem body_check_mark (cf ci : Str → Fn) : lw.body cf ci ("check_mark" : Str) = b_check_mark cf ci := by kernel_rfl
theorem dok_check_mark : DefOk lw ("check_mark" : Str) := ⟨⟨dfD ("check_mark" : Str), List.mem_map.mpr ⟨("check_mark" : Str), List.elem_iff.mp (by kernel_rfl), rfl⟩, rfl, rfl, rfl, by rw [N_check_mark, ps_check_mark]; exact sc_check_mark, by rw [ps_check_mark]; exact fm_check_mark, fun cf ci k G hS hC => by rw [N_check_mark, body_check_mark]; exact cmp_check_mark cf ci k G hS hC⟩⟩
theorem bf_as_one_0 (kV doc pm : Value) (an : Option Addr) (cdv ct : Value) : BindF (PySem.W.fnOf (dfD ("as_one" : Str)).name (dfD ("as_one" : Str)).qual (dfD ("as_one" : Str)).params (dfD ("as_one" : Str)).body (dfD ("as_one" : Str)).scope .none kV doc pm an cdv ct) [("web" : Str), ("kept" : Str), ("gone" : Str), ("marks" : Str)] 4 [] [0, 1, 2, 3] := fun us ws l h1 h2 h3 => match us, ws, h1, h2 with
  | [u0, u1, u2, u3], [], _, _ => by cases h3; kernel_rfl
theorem fm_as_one : ∀ m, (("as_one" : Str), m) ∈ lw.fnL → ∀ (kV doc pm : Value) (an : Option Addr) (cdv ct : Value), BindF (PySem.W.fnOf (dfD ("as_one" : Str)).name (dfD ("as_one" : Str)).qual (dfD ("as_one" : Str)).params (dfD ("as_one" : Str)).body (dfD ("as_one" : Str)).scope .none kV doc pm an cdv ct) [("web" : Str), ("kept" : Str), ("gone" : Str), ("marks" : Str)] m.n m.ks m.idx := fun m hm => by
  have e : (fnL.filter fun r => r.1 == ("as_one" : Str)) = [(("as_one" : Str), ⟨4, [], [0, 1, 2, 3]⟩)] := by kernel_rfl
  have h := (List.mem_filter (p := fun r : Str × Form => r.1 == ("as_one" : Str))).mpr ⟨hm, beq_self_eq_true ("as_one" : Str)⟩
  rw [show lw.fnL = fnL from rfl, e] at h
  rcases List.mem_cons.mp h with h | h
  · cases h; exact bf_as_one_0
  cases h
theorem sc_as_one : FnScope [("web" : Str), ("kept" : Str), ("gone" : Str), ("marks" : Str), ("names" : Str), ("place" : Str), ("here" : Str)] [("web" : Str), ("kept" : Str), ("gone" : Str), ("marks" : Str)] (dfD ("as_one" : Str)).scope := C8.fnScope_by (by kernel_rfl)
theorem N_as_one : lw.N ("as_one" : Str) = [("web" : Str), ("kept" : Str), ("gone" : Str), ("marks" : Str), ("names" : Str), ("place" : Str), ("here" : Str)] := by kernel_rfl
theorem ps_as_one : lw.ps ("as_one" : Str) = [("web" : Str), ("kept" : Str), ("gone" : Str), ("marks" : Str)] := by kernel_rfl
theorem body_as_one (cf ci : Str → Fn) : lw.body cf ci ("as_one" : Str) = b_as_one cf ci := by kernel_rfl
theorem dok_as_one : DefOk lw ("as_one" : Str) := ⟨⟨dfD ("as_one" : Str), List.mem_map.mpr ⟨("as_one" : Str), List.elem_iff.mp (by kernel_rfl), rfl⟩, rfl, rfl, rfl, by rw [N_as_one, ps_as_one]; exact sc_as_one, by rw [ps_as_one]; exact fm_as_one, fun cf ci k G hS hC => by rw [N_as_one, body_as_one]; exact cmp_as_one cf ci k G hS hC⟩⟩
theorem bf_pinched_0 (kV doc pm : Value) (an : Option Addr) (cdv ct : Value) : BindF (PySem.W.fnOf (dfD ("pinched" : Str)).name (dfD ("pinched" : Str)).qual (dfD ("pinched" : Str)).params (dfD ("pinched" : Str)).body (dfD ("pinched" : Str)).scope .none kV doc pm an cdv ct) [("web" : Str), ("i" : Str), ("j" : Str)] 0 [("j" : Str), ("i" : Str), ("web" : Str)] [2, 1, 0] := fun us ws l h1 h2 h3 => match us, ws, h1, h2 with
  | [], [w0, w1, w2], _, _ => by cases h3; kernel_rfl
theorem bf_pinched_1 (kV doc pm : Value) (an : Option Addr) (cdv ct : Value) : BindF (PySem.W.fnOf (dfD ("pinched" : Str)).name (dfD ("pinched" : Str)).qual (dfD ("pinched" : Str)).params (dfD ("pinched" : Str)).body (dfD ("pinched" : Str)).scope .none kV doc pm an cdv ct) [("web" : Str), ("i" : Str), ("j" : Str)] 3 [] [0, 1, 2] := fun us ws l h1 h2 h3 => match us, ws, h1, h2 with
  | [u0, u1, u2], [], _, _ => by cases h3; kernel_rfl
theorem fm_pinched : ∀ m, (("pinched" : Str), m) ∈ lw.fnL → ∀ (kV doc pm : Value) (an : Option Addr) (cdv ct : Value), BindF (PySem.W.fnOf (dfD ("pinched" : Str)).name (dfD ("pinched" : Str)).qual (dfD ("pinched" : Str)).params (dfD ("pinched" : Str)).body (dfD ("pinched" : Str)).scope .none kV doc pm an cdv ct) [("web" : Str), ("i" : Str), ("j" : Str)] m.n m.ks m.idx := fun m hm => by
  have e : (fnL.filter fun r => r.1 == ("pinched" : Str)) = [(("pinched" : Str), ⟨0, [("j" : Str), ("i" : Str), ("web" : Str)], [2, 1, 0]⟩), (("pinched" : Str), ⟨3, [], [0, 1, 2]⟩)] := by kernel_rfl
  have h := (List.mem_filter (p := fun r : Str × Form => r.1 == ("pinched" : Str))).mpr ⟨hm, beq_self_eq_true ("pinched" : Str)⟩
  rw [show lw.fnL = fnL from rfl, e] at h
  rcases List.mem_cons.mp h with h | h
  · cases h; exact bf_pinched_0
  rcases List.mem_cons.mp h with h | h
  · cases h; exact bf_pinched_1
  cases h
theorem sc_pinched : FnScope [("web" : Str), ("i" : Str), ("j" : Str), ("marks" : Str)] [("web" : Str), ("i" : Str), ("j" : Str)] (dfD ("pinched" : Str)).scope := C8.fnScope_by (by kernel_rfl)
theorem N_pinched : lw.N ("pinched" : Str) = [("web" : Str), ("i" : Str), ("j" : Str), ("marks" : Str)] := by kernel_rfl
theorem ps_pinched : lw.ps ("pinched" : Str) = [("web" : Str), ("i" : Str), ("j" : Str)] := by kernel_rfl
theorem body_pinched (cf ci : Str → Fn) : lw.body cf ci ("pinched" : Str) = b_pinched cf ci := by kernel_rfl
theorem dok_pinched : DefOk lw ("pinched" : Str) := ⟨⟨dfD ("pinched" : Str), List.mem_map.mpr ⟨("pinched" : Str), List.elem_iff.mp (by kernel_rfl), rfl⟩, rfl, rfl, rfl, by rw [N_pinched, ps_pinched]; exact sc_pinched, by rw [ps_pinched]; exact fm_pinched, fun cf ci k G hS hC => by rw [N_pinched, body_pinched]; exact cmp_pinched cf ci k G hS hC⟩⟩
theorem bf_check_tie_0 (kV doc pm : Value) (an : Option Addr) (cdv ct : Value) : BindF (PySem.W.fnOf (dfD ("check_tie" : Str)).name (dfD ("check_tie" : Str)).qual (dfD ("check_tie" : Str)).params (dfD ("check_tie" : Str)).body (dfD ("check_tie" : Str)).scope .none kV doc pm an cdv ct) [("web" : Str), ("index" : Str)] 2 [] [0, 1] := fun us ws l h1 h2 h3 => match us, ws, h1, h2 with
  | [u0, u1], [], _, _ => by cases h3; kernel_rfl
theorem fm_check_tie : ∀ m, (("check_tie" : Str), m) ∈ lw.fnL → ∀ (kV doc pm : Value) (an : Option Addr) (cdv ct : Value), BindF (PySem.W.fnOf (dfD ("check_tie" : Str)).name (dfD ("check_tie" : Str)).qual (dfD ("check_tie" : Str)).params (dfD ("check_tie" : Str)).body (dfD ("check_tie" : Str)).scope .none kV doc pm an cdv ct) [("web" : Str), ("index" : Str)] m.n m.ks m.idx := fun m hm => by
  have e : (fnL.filter fun r => r.1 == ("check_tie" : Str)) = [(("check_tie" : Str), ⟨2, [], [0, 1]⟩)] := by kernel_rfl
  have h := (List.mem_filter (p := fun r : Str × Form => r.1 == ("check_tie" : Str))).mpr ⟨hm, beq_self_eq_true ("check_tie" : Str)⟩
  rw [show lw.fnL = fnL from rfl, e] at h
  rcases List.mem_cons.mp h with h | h
  · cases h; exact bf_check_tie_0
  cases h
theorem sc_check_tie : FnScope [("web" : Str), ("index" : Str)] [("web" : Str), ("index" : Str)] (dfD ("check_tie" : Str)).scope := C8.fnScope_by (by kernel_rfl)
theorem N_check_tie : lw.N ("check_tie" : Str) = [("web" : Str), ("index" : Str)] := by kernel_rfl
theorem ps_check_tie : lw.ps ("check_tie" : Str) = [("web" : Str), ("index" : Str)] := by kernel_rfl
theorem body_check_tie (cf ci : Str → Fn) : lw.body cf ci ("check_tie" : Str) = b_check_tie cf ci := by kernel_rfl
theorem dok_check_tie : DefOk lw ("check_tie" : Str) := ⟨⟨dfD ("check_tie" : Str), List.mem_map.mpr ⟨("check_tie" : Str), List.elem_iff.mp (by kernel_rfl), rfl⟩, rfl, rfl, rfl, by rw [N_check_tie, ps_check_tie]; exact sc_check_tie, by rw [ps_check_tie]; exact fm_check_tie, fun cf ci k G hS hC => by rw [N_check_tie, body_check_tie]; exact cmp_check_tie cf ci k G hS hC⟩⟩
theorem bf_less_tie_0 (kV doc pm : Value) (an : Option Addr) (cdv ct : Value) : BindF (PySem.W.fnOf (dfD ("less_tie" : Str)).name (dfD ("less_tie" : Str)).qual (dfD ("less_tie" : Str)).params (dfD ("less_tie" : Str)).body (dfD ("less_tie" : Str)).scope .none kV doc pm an cdv ct) [("web" : Str), ("index" : Str)] 2 [] [0, 1] := fun us ws l h1 h2 h3 => match us, ws, h1, h2 with
  | [u0, u1], [], _, _ => by cases h3; kernel_rfl
theorem fm_less_tie : ∀ m, (("less_tie" : Str), m) ∈ lw.fnL → ∀ (kV doc pm : Value) (an : Option Addr) (cdv ct : Value), BindF (PySem.W.fnOf (dfD ("less_tie" : Str)).name (dfD ("less_tie" : Str)).qual (dfD ("less_tie" : Str)).params (dfD ("less_tie" : Str)).body (dfD ("less_tie" : Str)).scope .none kV doc pm an cdv ct) [("web" : Str), ("index" : Str)] m.n m.ks m.idx := fun m hm => by
  have e : (fnL.filter fun r => r.1 == ("less_tie" : Str)) = [(("less_tie" : Str), ⟨2, [], [0, 1]⟩)] := by kernel_rfl
  have h := (List.mem_filter (p := fun r : Str × Form => r.1 == ("less_tie" : Str))).mpr ⟨hm, beq_self_eq_true ("less_tie" : Str)⟩
  rw [show lw.fnL = fnL from rfl, e] at h
  rcases List.mem_cons.mp h with h | h
  · cases h; exact bf_less_tie_0
  cases h
theorem sc_less_tie : FnScope [("web" : Str), ("index" : Str)] [("web" : Str), ("index" : Str)] (dfD ("less_tie" : Str)).scope := C8.fnScope_by (by kernel_rfl)
theorem N_less_tie : lw.N ("less_tie" : Str) = [("web" : Str), ("index" : Str)] := by kernel_rfl
theorem ps_less_tie : lw.ps ("less_tie" : Str) = [("web" : Str), ("index" : Str)] := by kernel_rfl
theorem body_less_tie (cf ci : Str → Fn) : lw.body cf ci ("less_tie" : Str) = b_less_tie cf ci := by kernel_rfl
theorem dok_less_tie : DefOk lw ("less_tie" : Str) := ⟨⟨dfD ("less_tie" : Str), List.mem_map.mpr ⟨("less_tie" : Str), List.elem_iff.mp (by kernel_rfl), rfl⟩, rfl, rfl, rfl, by rw [N_less_tie, ps_less_tie]; exact sc_less_tie, by rw [ps_less_tie]; exact fm_less_tie, fun cf ci k G hS hC => by rw [N_less_tie, body_less_tie]; exact cmp_less_tie cf ci k G hS hC⟩⟩
theorem bf_without_tie_0 (kV doc pm : Value) (an : Option Addr) (cdv ct : Value) : BindF (PySem.W.fnOf (dfD ("without_tie" : Str)).name (dfD ("without_tie" : Str)).qual (dfD ("without_tie" : Str)).params (dfD ("without_tie" : Str)).body (dfD ("without_tie" : Str)).scope .none kV doc pm an cdv ct) [("web" : Str), ("index" : Str)] 0 [("index" : Str), ("web" : Str)] [1, 0] := fun us ws l h1 h2 h3 => match us, ws, h1, h2 with
  | [], [w0, w1], _, _ => by cases h3; kernel_rfl
theorem bf_without_tie_1 (kV doc pm : Value) (an : Option Addr) (cdv ct : Value) : BindF (PySem.W.fnOf (dfD ("without_tie" : Str)).name (dfD ("without_tie" : Str)).qual (dfD ("without_tie" : Str)).params (dfD ("without_tie" : Str)).body (dfD ("without_tie" : Str)).scope .none kV doc pm an cdv ct) [("web" : Str), ("index" : Str)] 2 [] [0, 1] := fun us ws l h1 h2 h3 => match us, ws, h1, h2 with
  | [u0, u1], [], _, _ => by cases h3; kernel_rfl
theorem fm_without_tie : ∀ m, (("without_tie" : Str), m) ∈ lw.fnL → ∀ (kV doc pm : Value) (an : Option Addr) (cdv ct : Value), BindF (PySem.W.fnOf (dfD ("without_tie" : Str)).name (dfD ("without_tie" : Str)).qual (dfD ("without_tie" : Str)).params (dfD ("without_tie" : Str)).body (dfD ("without_tie" : Str)).scope .none kV doc pm an cdv ct) [("web" : Str), ("index" : Str)] m.n m.ks m.idx := fun m hm => by
  have e : (fnL.filter fun r => r.1 == ("without_tie" : Str)) = [(("without_tie" : Str), ⟨0, [("index" : Str), ("web" : Str)], [1, 0]⟩), (("without_tie" : Str), ⟨2, [], [0, 1]⟩)] := by kernel_rfl
  have h := (List.mem_filter (p := fun r : Str × Form => r.1 == ("without_tie" : Str))).mpr ⟨hm, beq_self_eq_true ("without_tie" : Str)⟩
  rw [show lw.fnL = fnL from rfl, e] at h
  rcases List.mem_cons.mp h with h | h
  · cases h; exact bf_without_tie_0
  rcases List.mem_cons.mp h with h | h
  · cases h; exact bf_without_tie_1
  cases h
theorem sc_without_tie : FnScope [("web" : Str), ("index" : Str)] [("web" : Str), ("index" : Str)] (dfD ("without_tie" : Str)).scope := C8.fnScope_by (by kernel_rfl)
theorem N_without_tie : lw.N ("without_tie" : Str) = [("web" : Str), ("index" : Str)] := by kernel_rfl
theorem ps_without_tie : lw.ps ("without_tie" : Str) = [("web" : Str), ("index" : Str)] := by kernel_rfl
theorem body_without_tie (cf ci : Str → Fn) : lw.body cf ci ("without_tie" : Str) = b_without_tie cf ci := by kernel_rfl
theorem dok_without_tie : DefOk lw ("without_tie" : Str) := ⟨⟨dfD ("without_tie" : Str), List.mem_map.mpr ⟨("without_tie" : Str), List.elem_iff.mp (by kernel_rfl), rfl⟩, rfl, rfl, rfl, by rw [N_without_tie, ps_without_tie]; exact sc_without_tie, by rw [ps_without_tie]; exact fm_without_tie, fun cf ci k G hS hC => by rw [N_without_tie, body_without_tie]; exact cmp_without_tie cf ci k G hS hC⟩⟩
theorem bf_pinched_tie_0 (kV doc pm : Value) (an : Option Addr) (cdv ct : Value) : BindF (PySem.W.fnOf (dfD ("pinched_tie" : Str)).name (dfD ("pinched_tie" : Str)).qual (dfD ("pinched_tie" : Str)).params (dfD ("pinched_tie" : Str)).body (dfD ("pinched_tie" : Str)).scope .none kV doc pm an cdv ct) [("web" : Str), ("index" : Str)] 0 [("index" : Str), ("web" : Str)] [1, 0] := fun us ws l h1 h2 h3 => match us, ws, h1, h2 with
  | [], [w0, w1], _, _ => by cases h3; kernel_rfl
theorem bf_pinched_tie_1 (kV doc pm : Value) (an : Option Addr) (cdv ct : Value) : BindF (PySem.W.fnOf (dfD ("pinched_tie" : Str)).name (dfD ("pinched_tie" : Str)).qual (dfD ("pinched_tie" : Str)).params (dfD ("pinched_tie" : Str)).body (dfD ("pinched_tie" : Str)).scope .none kV doc pm an cdv ct) [("web" : Str), ("index" : Str)] 2 [] [0, 1] := fun us ws l h1 h2 h3 => match us, ws, h1, h2 with
  | [u0, u1], [], _, _ => by cases h3; kernel_rfl
theorem fm_pinched_tie : ∀ m, (("pinched_tie" : Str), m) ∈ lw.fnL → ∀ (kV doc pm : Value) (an : Option Addr) (cdv ct : Value), BindF (PySem.W.fnOf (dfD ("pinched_tie" : Str)).name (dfD ("pinched_tie" : Str)).qual (dfD ("pinched_tie" : Str)).params (dfD ("pinched_tie" : Str)).body (dfD ("pinched_tie" : Str)).scope .none kV doc pm an cdv ct) [("web" : Str), ("index" : Str)] m.n m.ks m.idx := fun m hm => by
  have e : (fnL.filter fun r => r.1 == ("pinched_tie" : Str)) = [(("pinched_tie" : Str), ⟨0, [("index" : Str), ("web" : Str)], [1, 0]⟩), (("pinched_tie" : Str), ⟨2, [], [0, 1]⟩)] := by kernel_rfl
  have h := (List.mem_filter (p := fun r : Str × Form => r.1 == ("pinched_tie" : Str))).mpr ⟨hm, beq_self_eq_true ("pinched_tie" : Str)⟩
  rw [show lw.fnL = fnL from rfl, e] at h
  rcases List.mem_cons.mp h with h | h
  · cases h; exact bf_pinched_tie_0
  rcases List.mem_cons.mp h with h | h
  · cases h; exact bf_pinched_tie_1
  cases h
theorem sc_pinched_tie : FnScope [("web" : Str), ("index" : Str), ("marks" : Str), ("_" : Str), ("i" : Str), ("j" : Str), ("kept" : Str), ("gone" : Str), ("mark" : Str)] [("web" : Str), ("index" : Str)] (dfD ("pinched_tie" : Str)).scope := C8.fnScope_by (by kernel_rfl)
theorem N_pinched_tie : lw.N ("pinched_tie" : Str) = [("web" : Str), ("index" : Str), ("marks" : Str), ("_" : Str), ("i" : Str), ("j" : Str), ("kept" : Str), ("gone" : Str), ("mark" : Str)] := by kernel_rfl
theorem ps_pinched_tie : lw.ps ("pinched_tie" : Str) = [("web" : Str), ("index" : Str)] := by kernel_rfl
theorem body_pinched_tie (cf ci : Str → Fn) : lw.body cf ci ("pinched_tie" : Str) = b_pinched_tie cf ci := by kernel_rfl
theorem dok_pinched_tie : DefOk lw ("pinched_tie" : Str) := ⟨⟨dfD ("pinched_tie" : Str), List.mem_map.mpr ⟨("pinched_tie" : Str), List.elem_iff.mp (by kernel_rfl), rfl⟩, rfl, rfl, rfl, by rw [N_pinched_tie, ps_pinched_tie]; exact sc_pinched_tie, by rw [ps_pinched_tie]; exact fm_pinched_tie, fun cf ci k G hS hC => by rw [N_pinched_tie, body_pinched_tie]; exact cmp_pinched_tie cf ci k G hS hC⟩⟩
theorem bf_reached_0 (kV doc pm : Value) (an : Option Addr) (cdv ct : Value) : BindF (PySem.W.fnOf (dfD ("reached" : Str)).name (dfD ("reached" : Str)).qual (dfD ("reached" : Str)).params (dfD ("reached" : Str)).body (dfD ("reached" : Str)).scope .none kV doc pm an cdv ct) [("near" : Str), ("place" : Str)] 2 [] [0, 1] := fun us ws l h1 h2 h3 => match us, ws, h1, h2 with
  | [u0, u1], [], _, _ => by cases h3; kernel_rfl
theorem fm_reached : ∀ m, (("reached" : Str), m) ∈ lw.fnL → ∀ (kV doc pm : Value) (an : Option Addr) (cdv ct : Value), BindF (PySem.W.fnOf (dfD ("reached" : Str)).name (dfD ("reached" : Str)).qual (dfD ("reached" : Str)).params (dfD ("reached" : Str)).body (dfD ("reached" : Str)).scope .none kV doc pm an cdv ct) [("near" : Str), ("place" : Str)] m.n m.ks m.idx := fun m hm => by
  have e : (fnL.filter fun r => r.1 == ("reached" : Str)) = [(("reached" : Str), ⟨2, [], [0, 1]⟩)] := by kernel_rfl
  have h := (List.mem_filter (p := fun r : Str × Form => r.1 == ("reached" : Str))).mpr ⟨hm, beq_self_eq_true ("reached" : Str)⟩
  rw [show lw.fnL = fnL from rfl, e] at h
  rcases List.mem_cons.mp h with h | h
  · cases h; exact bf_reached_0
  cases h
theorem sc_reached : FnScope [("near" : Str), ("place" : Str), ("seen" : Str), ("waits" : Str), ("here" : Str), ("fresh" : Str), ("other" : Str)] [("near" : Str), ("place" : Str)] (dfD ("reached" : Str)).scope := C8.fnScope_by (by kernel_rfl)
theorem N_reached : lw.N ("reached" : Str) = [("near" : Str), ("place" : Str), ("seen" : Str), ("waits" : Str), ("here" : Str), ("fresh" : Str), ("other" : Str)] := by kernel_rfl
theorem ps_reached : lw.ps ("reached" : Str) = [("near" : Str), ("place" : Str)] := by kernel_rfl
theorem body_reached (cf ci : Str → Fn) : lw.body cf ci ("reached" : Str) = b_reached cf ci := by kernel_rfl
theorem dok_reached : DefOk lw ("reached" : Str) := ⟨⟨dfD ("reached" : Str), List.mem_map.mpr ⟨("reached" : Str), List.elem_iff.mp (by kernel_rfl), rfl⟩, rfl, rfl, rfl, by rw [N_reached, ps_reached]; exact sc_reached, by rw [ps_reached]; exact fm_reached, fun cf ci k G hS hC => by rw [N_reached, body_reached]; exact cmp_reached cf ci k G hS hC⟩⟩
theorem bf_pieces_0 (kV doc pm : Value) (an : Option Addr) (cdv ct : Value) : BindF (PySem.W.fnOf (dfD ("pieces" : Str)).name (dfD ("pieces" : Str)).qual (dfD ("pieces" : Str)).params (dfD ("pieces" : Str)).body (dfD ("pieces" : Str)).scope .none kV doc pm an cdv ct) [("web" : Str)] 0 [("web" : Str)] [0] := fun us ws l h1 h2 h3 => match us, ws, h1, h2 with
  | [], [w0], _, _ => by cases h3; kernel_rfl
theorem bf_pieces_1 (kV doc pm : Value) (an : Option Addr) (cdv ct : Value) : BindF (PySem.W.fnOf (dfD ("pieces" : Str)).name (dfD ("pieces" : Str)).qual (dfD ("pieces" : Str)).params (dfD ("pieces" : Str)).body (dfD ("pieces" : Str)).scope .none kV doc pm an cdv ct) [("web" : Str)] 1 [] [0] := fun us ws l h1 h2 h3 => match us, ws, h1, h2 with
  | [u0], [], _, _ => by cases h3; kernel_rfl
theorem fm_pieces : ∀ m, (("pieces" : Str), m) ∈ lw.fnL → ∀ (kV doc pm : Value) (an : Option Addr) (cdv ct : Value), BindF (PySem.W.fnOf (dfD ("pieces" : Str)).name (dfD ("pieces" : Str)).qual (dfD ("pieces" : Str)).params (dfD ("pieces" : Str)).body (dfD ("pieces" : Str)).scope .none kV doc pm an cdv ct) [("web" : Str)] m.n m.ks m.idx := fun m hm => by
  have e : (fnL.filter fun r => r.1 == ("pieces" : Str)) = [(("pieces" : Str), ⟨0, [("web" : Str)], [0]⟩), (("pieces" : Str), ⟨1, [], [0]⟩)] := by kernel_rfl
  have h := (List.mem_filter (p := fun r : Str × Form => r.1 == ("pieces" : Str))).mpr ⟨hm, beq_self_eq_true ("pieces" : Str)⟩
  rw [show lw.fnL = fnL from rfl, e] at h
  rcases List.mem_cons.mp h with h | h
  · cases h; exact bf_pieces_0
  rcases List.mem_cons.mp h with h | h
  · cases h; exact bf_pieces_1
  cases h
theorem sc_pieces : FnScope [("web" : Str), ("near" : Str), ("left" : Str), ("found" : Str), ("mine" : Str), ("names" : Str), ("ties" : Str), ("tie" : Str), ("place" : Str), ("at" : Str)] [("web" : Str)] (dfD ("pieces" : Str)).scope := C8.fnScope_by (by kernel_rfl)
theorem N_pieces : lw.N ("pieces" : Str) = [("web" : Str), ("near" : Str), ("left" : Str), ("found" : Str), ("mine" : Str), ("names" : Str), ("ties" : Str), ("tie" : Str), ("place" : Str), ("at" : Str)] := by kernel_rfl
theorem ps_pieces : lw.ps ("pieces" : Str) = [("web" : Str)] := by kernel_rfl
theorem body_pieces (cf ci : Str → Fn) : lw.body cf ci ("pieces" : Str) = b_pieces cf ci := by kernel_rfl
theorem dok_pieces : DefOk lw ("pieces" : Str) := ⟨⟨dfD ("pieces" : Str), List.mem_map.mpr ⟨("pieces" : Str), List.elem_iff.mp (by kernel_rfl), rfl⟩, rfl, rfl, rfl, by rw [N_pieces, ps_pieces]; exact sc_pieces, by rw [ps_pieces]; exact fm_pieces, fun cf ci k G hS hC => by rw [N_pieces, body_pieces]; exact cmp_pieces cf ci k G hS hC⟩⟩
theorem bf__law_cell_0 (kV doc pm : Value) (an : Option Addr) (cdv ct : Value) : BindF (PySem.W.fnOf (dfD ("_law_cell" : Str)).name (dfD ("_law_cell" : Str)).qual (dfD ("_law_cell" : Str)).params (dfD ("_law_cell" : Str)).body (dfD ("_law_cell" : Str)).scope .none kV doc pm an cdv ct) [("script" : Str), ("k" : Str)] 2 [] [0, 1] := fun us ws l h1 h2 h3 => match us, ws, h1, h2 with
  | [u0, u1], [], _, _ => by cases h3; kernel_rfl
theorem fm__law_cell : ∀ m, (("_law_cell" : Str), m) ∈ lw.fnL → ∀ (kV doc pm : Value) (an : Option Addr) (cdv ct : Value), BindF (PySem.W.fnOf (dfD ("_law_cell" : Str)).name (dfD ("_law_cell" : Str)).qual (dfD ("_law_cell" : Str)).params (dfD ("_law_cell" : Str)).body (dfD ("_law_cell" : Str)).scope .none kV doc pm an cdv ct) [("script" : Str), ("k" : Str)] m.n m.ks m.idx := fun m hm => by
  have e : (fnL.filter fun r => r.1 == ("_law_cell" : Str)) = [(("_law_cell" : Str), ⟨2, [], [0, 1]⟩)] := by kernel_rfl
  have h := (List.mem_filter (p := fun r : Str × Form => r.1 == ("_law_cell" : Str))).mpr ⟨hm, beq_self_eq_true ("_law_cell" : Str)⟩
  rw [show lw.fnL = fnL from rfl, e] at h
  rcases List.mem_cons.mp h with h | h
  · cases h; exact bf__law_cell_0
  cases h
theorem sc__law_cell : FnScope [("script" : Str), ("k" : Str)] [("script" : Str), ("k" : Str)] (dfD ("_law_cell" : Str)).scope := C8.fnScope_by (by kernel_rfl)
theorem N__law_cell : lw.N ("_law_cell" : Str) = [("script" : Str), ("k" : Str)] := by kernel_rfl
theorem ps__law_cell : lw.ps ("_law_cell" : Str) = [("script" : Str), ("k" : Str)] := by kernel_rfl
theorem body__law_cell (cf ci : Str → Fn) : lw.body cf ci ("_law_cell" : Str) = b__law_cell cf ci := by kernel_rfl
theorem dok__law_cell : DefOk lw ("_law_cell" : Str) := ⟨⟨dfD ("_law_cell" : Str), List.mem_map.mpr ⟨("_law_cell" : Str), List.elem_iff.mp (by kernel_rfl), rfl⟩, rfl, rfl, rfl, by rw [N__law_cell, ps__law_cell]; exact sc__law_cell, by rw [ps__law_cell]; exact fm__law_cell, fun cf ci k G hS hC => by rw [N__law_cell, body__law_cell]; exact cmp__law_cell cf ci k G hS hC⟩⟩
theorem bf__law_box_0 (kV doc pm : Value) (an : Option Addr) (cdv ct : Value) : BindF (PySem.W.fnOf (dfD ("_law_box" : Str)).name (dfD ("_law_box" : Str)).qual (dfD ("_law_box" : Str)).params (dfD ("_law_box" : Str)).body (dfD ("_law_box" : Str)).scope .none kV doc pm an cdv ct) [("great" : Str)] 1 [] [0] := fun us ws l h1 h2 h3 => match us, ws, h1, h2 with
  | [u0], [], _, _ => by cases h3; kernel_rfl
theorem fm__law_box : ∀ m, (("_law_box" : Str), m) ∈ lw.fnL → ∀ (kV doc pm : Value) (an : Option Addr) (cdv ct : Value), BindF (PySem.W.fnOf (dfD ("_law_box" : Str)).name (dfD ("_law_box" : Str)).qual (dfD ("_law_box" : Str)).params (dfD ("_law_box" : Str)).body (dfD ("_law_box" : Str)).scope .none kV doc pm an cdv ct) [("great" : Str)] m.n m.ks m.idx := fun m hm => by
  have e : (fnL.filter fun r => r.1 == ("_law_box" : Str)) = [(("_law_box" : Str), ⟨1, [], [0]⟩)] := by kernel_rfl
  have h := (List.mem_filter (p := fun r : Str × Form => r.1 == ("_law_box" : Str))).mpr ⟨hm, beq_self_eq_true ("_law_box" : Str)⟩
  rw [show lw.fnL = fnL from rfl, e] at h
  rcases List.mem_cons.mp h with h | h
  · cases h; exact bf__law_box_0
  cases h
theorem sc__law_box : FnScope [("great" : Str)] [("great" : Str)] (dfD ("_law_box" : Str)).scope := C8.fnScope_by (by kernel_rfl)
theorem N__law_box : lw.N ("_law_box" : Str) = [("great" : Str)] := by kernel_rfl
theorem ps__law_box : lw.ps ("_law_box" : Str) = [("great" : Str)] := by kernel_rfl
theorem body__law_box (cf ci : Str → Fn) : lw.body cf ci ("_law_box" : Str) = b__law_box cf ci := by kernel_rfl
theorem dok__law_box : DefOk lw ("_law_box" : Str) := ⟨⟨dfD ("_law_box" : Str), List.mem_map.mpr ⟨("_law_box" : Str), List.elem_iff.mp (by kernel_rfl), rfl⟩, rfl, rfl, rfl, by rw [N__law_box, ps__law_box]; exact sc__law_box, by rw [ps__law_box]; exact fm__law_box, fun cf ci k G hS hC => by rw [N__law_box, body__law_box]; exact cmp__law_box cf ci k G hS hC⟩⟩
theorem bf__law_take_0 (kV doc pm : Value) (an : Option Addr) (cdv ct : Value) : BindF (PySem.W.fnOf (dfD ("_law_take" : Str)).name (dfD ("_law_take" : Str)).qual (dfD ("_law_take" : Str)).params (dfD ("_law_take" : Str)).body (dfD ("_law_take" : Str)).scope .none kV doc pm an cdv ct) [("box" : Str), ("many" : Str)] 2 [] [0, 1] := fun us ws l h1 h2 h3 => match us, ws, h1, h2 with
  | [u0, u1], [], _, _ => by cases h3; kernel_rfl
theorem fm__law_take : ∀ m, (("_law_take" : Str), m) ∈ lw.fnL → ∀ (kV doc pm : Value) (an : Option Addr) (cdv ct : Value), BindF (PySem.W.fnOf (dfD ("_law_take" : Str)).name (dfD ("_law_take" : Str)).qual (dfD ("_law_take" : Str)).params (dfD ("_law_take" : Str)).body (dfD ("_law_take" : Str)).scope .none kV doc pm an cdv ct) [("box" : Str), ("many" : Str)] m.n m.ks m.idx := fun m hm => by
  have e : (fnL.filter fun r => r.1 == ("_law_take" : Str)) = [(("_law_take" : Str), ⟨2, [], [0, 1]⟩)] := by kernel_rfl
  have h := (List.mem_filter (p := fun r : Str × Form => r.1 == ("_law_take" : Str))).mpr ⟨hm, beq_self_eq_true ("_law_take" : Str)⟩
  rw [show lw.fnL = fnL from rfl, e] at h
  rcases List.mem_cons.mp h with h | h
  · cases h; exact bf__law_take_0
  cases h
theorem sc__law_take : FnScope [("box" : Str), ("many" : Str), ("mixed" : Str), ("digit" : Str)] [("box" : Str), ("many" : Str)] (dfD ("_law_take" : Str)).scope := C8.fnScope_by (by kernel_rfl)
theorem N__law_take : lw.N ("_law_take" : Str) = [("box" : Str), ("many" : Str), ("mixed" : Str), ("digit" : Str)] := by kernel_rfl
theorem ps__law_take : lw.ps ("_law_take" : Str) = [("box" : Str), ("many" : Str)] := by kernel_rfl
theorem body__law_take (cf ci : Str → Fn) : lw.body cf ci ("_law_take" : Str) = b__law_take cf ci := by kernel_rfl
theorem dok__law_take : DefOk lw ("_law_take" : Str) := ⟨⟨dfD ("_law_take" : Str), List.mem_map.mpr ⟨("_law_take" : Str), List.elem_iff.mp (by kernel_rfl), rfl⟩, rfl, rfl, rfl, by rw [N__law_take, ps__law_take]; exact sc__law_take, by rw [ps__law_take]; exact fm__law_take, fun cf ci k G hS hC => by rw [N__law_take, body__law_take]; exact cmp__law_take cf ci k G hS hC⟩⟩
theorem bf__law_pick_0 (kV doc pm : Value) (an : Option Addr) (cdv ct : Value) : BindF (PySem.W.fnOf (dfD ("_law_pick" : Str)).name (dfD ("_law_pick" : Str)).qual (dfD ("_law_pick" : Str)).params (dfD ("_law_pick" : Str)).body (dfD ("_law_pick" : Str)).scope .none kV doc pm an cdv ct) [("box" : Str), ("items" : Str)] 2 [] [0, 1] := fun us ws l h1 h2 h3 => match us, ws, h1, h2 with
  | [u0, u1], [], _, _ => by cases h3; kernel_rfl
theorem fm__law_pick : ∀ m, (("_law_pick" : Str), m) ∈ lw.fnL → ∀ (kV doc pm : Value) (an : Option Addr) (cdv ct : Value), BindF (PySem.W.fnOf (dfD ("_law_pick" : Str)).name (dfD ("_law_pick" : Str)).qual (dfD ("_law_pick" : Str)).params (dfD ("_law_pick" : Str)).body (dfD ("_law_pick" : Str)).scope .none kV doc pm an cdv ct) [("box" : Str), ("items" : Str)] m.n m.ks m.idx := fun m hm => by
  have e : (fnL.filter fun r => r.1 == ("_law_pick" : Str)) = [(("_law_pick" : Str), ⟨2, [], [0, 1]⟩)] := by kernel_rfl
  have h := (List.mem_filter (p := fun r : Str × Form => r.1 == ("_law_pick" : Str))).mpr ⟨hm, beq_self_eq_true ("_law_pick" : Str)⟩
  rw [show lw.fnL = fnL from rfl, e] at h
  rcases List.mem_cons.mp h with h | h
  · cases h; exact bf__law_pick_0
  cases h
theorem sc__law_pick : FnScope [("box" : Str), ("items" : Str)] [("box" : Str), ("items" : Str)] (dfD ("_law_pick" : Str)).scope := C8.fnScope_by (by kernel_rfl)
theorem N__law_pick : lw.N ("_law_pick" : Str) = [("box" : Str), ("items" : Str)] := by kernel_rfl
theorem ps__law_pick : lw.ps ("_law_pick" : Str) = [("box" : Str), ("items" : Str)] := by kernel_rfl
theorem body__law_pick (cf ci : Str → Fn) : lw.body cf ci ("_law_pick" : Str) = b__law_pick cf ci := by kernel_rfl
theorem dok__law_pick : DefOk lw ("_law_pick" : Str) := ⟨⟨dfD ("_law_pick" : Str), List.mem_map.mpr ⟨("_law_pick" : Str), List.elem_iff.mp (by kernel_rfl), rfl⟩, rfl, rfl, rfl, by rw [N__law_pick, ps__law_pick]; exact sc__law_pick, by rw [ps__law_pick]; exact fm__law_pick, fun cf ci k G hS hC => by rw [N__law_pick, body__law_pick]; exact cmp__law_pick cf ci k G hS hC⟩⟩
theorem bf__law_mixed_0 (kV doc pm : Value) (an : Option Addr) (cdv ct : Value) : BindF (PySem.W.fnOf (dfD ("_law_mixed" : Str)).name (dfD ("_law_mixed" : Str)).qual (dfD ("_law_mixed" : Str)).params (dfD ("_law_mixed" : Str)).body (dfD ("_law_mixed" : Str)).scope .none kV doc pm an cdv ct) [("box" : Str), ("items" : Str)] 2 [] [0, 1] := fun us ws l h1 h2 h3 => match us, ws, h1, h2 with
  | [u0, u1], [], _, _ => by cases h3; kernel_rfl
theorem fm__law_mixed : ∀ m, (("_law_mixed" : Str), m) ∈ lw.fnL → ∀ (kV doc pm : Value) (an : Option Addr) (cdv ct : Value), BindF (PySem.W.fnOf (dfD ("_law_mixed" : Str)).name (dfD ("_law_mixed" : Str)).qual (dfD ("_law_mixed" : Str)).params (dfD ("_law_mixed" : Str)).body (dfD ("_law_mixed" : Str)).scope .none kV doc pm an cdv ct) [("box" : Str), ("items" : Str)] m.n m.ks m.idx := fun m hm => by
  have e : (fnL.filter fun r => r.1 == ("_law_mixed" : Str)) = [(("_law_mixed" : Str), ⟨2, [], [0, 1]⟩)] := by kernel_rfl
  have h := (List.mem_filter (p := fun r : Str × Form => r.1 == ("_law_mixed" : Str))).mpr ⟨hm, beq_self_eq_true ("_law_mixed" : Str)⟩
  rw [show lw.fnL = fnL from rfl, e] at h
  rcases List.mem_cons.mp h with h | h
  · cases h; exact bf__law_mixed_0
  cases h
theorem sc__law_mixed : FnScope [("box" : Str), ("items" : Str), ("left" : Str), ("found" : Str)] [("box" : Str), ("items" : Str)] (dfD ("_law_mixed" : Str)).scope := C8.fnScope_by (by kernel_rfl)
theorem N__law_mixed : lw.N ("_law_mixed" : Str) = [("box" : Str), ("items" : Str), ("left" : Str), ("found" : Str)] := by kernel_rfl
theorem ps__law_mixed : lw.ps ("_law_mixed" : Str) = [("box" : Str), ("items" : Str)] := by kernel_rfl
theorem body__law_mixed (cf ci : Str → Fn) : lw.body cf ci ("_law_mixed" : Str) = b__law_mixed cf ci := by kernel_rfl
theorem dok__law_mixed : DefOk lw ("_law_mixed" : Str) := ⟨⟨dfD ("_law_mixed" : Str), List.mem_map.mpr ⟨("_law_mixed" : Str), List.elem_iff.mp (by kernel_rfl), rfl⟩, rfl, rfl, rfl, by rw [N__law_mixed, ps__law_mixed]; exact sc__law_mixed, by rw [ps__law_mixed]; exact fm__law_mixed, fun cf ci k G hS hC => by rw [N__law_mixed, body__law_mixed]; exact cmp__law_mixed cf ci k G hS hC⟩⟩
theorem bf__law_same_0 (kV doc pm : Value) (an : Option Addr) (cdv ct : Value) : BindF (PySem.W.fnOf (dfD ("_law_same" : Str)).name (dfD ("_law_same" : Str)).qual (dfD ("_law_same" : Str)).params (dfD ("_law_same" : Str)).body (dfD ("_law_same" : Str)).scope .none kV doc pm an cdv ct) [("told" : Str), ("due" : Str)] 2 [] [0, 1] := fun us ws l h1 h2 h3 => match us, ws, h1, h2 with
  | [u0, u1], [], _, _ => by cases h3; kernel_rfl
theorem fm__law_same : ∀ m, (("_law_same" : Str), m) ∈ lw.fnL → ∀ (kV doc pm : Value) (an : Option Addr) (cdv ct : Value), BindF (PySem.W.fnOf (dfD ("_law_same" : Str)).name (dfD ("_law_same" : Str)).qual (dfD ("_law_same" : Str)).params (dfD ("_law_same" : Str)).body (dfD ("_law_same" : Str)).scope .none kV doc pm an cdv ct) [("told" : Str), ("due" : Str)] m.n m.ks m.idx := fun m hm => by
  have e : (fnL.filter fun r => r.1 == ("_law_same" : Str)) = [(("_law_same" : Str), ⟨2, [], [0, 1]⟩)] := by kernel_rfl
  have h := (List.mem_filter (p := fun r : Str × Form => r.1 == ("_law_same" : Str))).mpr ⟨hm, beq_self_eq_true ("_law_same" : Str)⟩
  rw [show lw.fnL = fnL from rfl, e] at h
  rcases List.mem_cons.mp h with h | h
  · cases h; exact bf__law_same_0
  cases h
theorem sc__law_same : FnScope [("told" : Str), ("due" : Str), ("k" : Str), ("key" : Str)] [("told" : Str), ("due" : Str)] (dfD ("_law_same" : Str)).scope := C8.fnScope_by (by kernel_rfl)
theorem N__law_same : lw.N ("_law_same" : Str) = [("told" : Str), ("due" : Str), ("k" : Str), ("key" : Str)] := by kernel_rfl
theorem ps__law_same : lw.ps ("_law_same" : Str) = [("told" : Str), ("due" : Str)] := by kernel_rfl
theorem body__law_same (cf ci : Str → Fn) : lw.body cf ci ("_law_same" : Str) = b__law_same cf ci := by kernel_rfl
theorem dok__law_same : DefOk lw ("_law_same" : Str) := ⟨⟨dfD ("_law_same" : Str), List.mem_map.mpr ⟨("_law_same" : Str), List.elem_iff.mp (by kernel_rfl), rfl⟩, rfl, rfl, rfl, by rw [N__law_same, ps__law_same]; exact sc__law_same, by rw [ps__law_same]; exact fm__law_same, fun cf ci k G hS hC => by rw [N__law_same, body__law_same]; exact cmp__law_same cf ci k G hS hC⟩⟩
theorem bf__law_copied_0 (kV doc pm : Value) (an : Option Addr) (cdv ct : Value) : BindF (PySem.W.fnOf (dfD ("_law_copied" : Str)).name (dfD ("_law_copied" : Str)).qual (dfD ("_law_copied" : Str)).params (dfD ("_law_copied" : Str)).body (dfD ("_law_copied" : Str)).scope .none kV doc pm an cdv ct) [("value" : Str)] 1 [] [0] := fun us ws l h1 h2 h3 => match us, ws, h1, h2 with
  | [u0], [], _, _ => by cases h3; kernel_rfl
theorem fm__law_copied : ∀ m, (("_law_copied" : Str), m) ∈ lw.fnL → ∀ (kV doc pm : Value) (an : Option Addr) (cdv ct : Value), BindF (PySem.W.fnOf (dfD ("_law_copied" : Str)).name (dfD ("_law_copied" : Str)).qual (dfD ("_law_copied" : Str)).params (dfD ("_law_copied" : Str)).body (dfD ("_law_copied" : Str)).scope .none kV doc pm an cdv ct) [("value" : Str)] m.n m.ks m.idx := fun m hm => by
  have e : (fnL.filter fun r => r.1 == ("_law_copied" : Str)) = [(("_law_copied" : Str), ⟨1, [], [0]⟩)] := by kernel_rfl
  have h := (List.mem_filter (p := fun r : Str × Form => r.1 == ("_law_copied" : Str))).mpr ⟨hm, beq_self_eq_true ("_law_copied" : Str)⟩
  rw [show lw.fnL = fnL from rfl, e] at h
  rcases List.mem_cons.mp h with h | h
  · cases h; exact bf__law_copied_0
  cases h
theorem sc__law_copied : FnScope [("value" : Str), ("one" : Str), ("key" : Str)] [("value" : Str)] (dfD ("_law_copied" : Str)).scope := C8.fnScope_by (by kernel_rfl)
theorem N__law_copied : lw.N ("_law_copied" : Str) = [("value" : Str), ("one" : Str), ("key" : Str)] := by kernel_rfl
theorem ps__law_copied : lw.ps ("_law_copied" : Str) = [("value" : Str)] := by kernel_rfl
theorem body__law_copied (cf ci : Str → Fn) : lw.body cf ci ("_law_copied" : Str) = b__law_copied cf ci := by kernel_rfl
theorem dok__law_copied : DefOk lw ("_law_copied" : Str) := ⟨⟨dfD ("_law_copied" : Str), List.mem_map.mpr ⟨("_law_copied" : Str), List.elem_iff.mp (by kernel_rfl), rfl⟩, rfl, rfl, rfl, by rw [N__law_copied, ps__law_copied]; exact sc__law_copied, by rw [ps__law_copied]; exact fm__law_copied, fun cf ci k G hS hC => by rw [N__law_copied, body__law_copied]; exact cmp__law_copied cf ci k G hS hC⟩⟩
theorem bf__law_blamed_0 (kV doc pm : Value) (an : Option Addr) (cdv ct : Value) : BindF (PySem.W.fnOf (dfD ("_law_blamed" : Str)).name (dfD ("_law_blamed" : Str)).qual (dfD ("_law_blamed" : Str)).params (dfD ("_law_blamed" : Str)).body (dfD ("_law_blamed" : Str)).scope .none kV doc pm an cdv ct) [("given" : Str), ("value" : Str)] 2 [] [0, 1] := fun us ws l h1 h2 h3 => match us, ws, h1, h2 with
  | [u0, u1], [], _, _ => by cases h3; kernel_rfl
theorem fm__law_blamed : ∀ m, (("_law_blamed" : Str), m) ∈ lw.fnL → ∀ (kV doc pm : Value) (an : Option Addr) (cdv ct : Value), BindF (PySem.W.fnOf (dfD ("_law_blamed" : Str)).name (dfD ("_law_blamed" : Str)).qual (dfD ("_law_blamed" : Str)).params (dfD ("_law_blamed" : Str)).body (dfD ("_law_blamed" : Str)).scope .none kV doc pm an cdv ct) [("given" : Str), ("value" : Str)] m.n m.ks m.idx := fun m hm => by
  have e : (fnL.filter fun r => r.1 == ("_law_blamed" : Str)) = [(("_law_blamed" : Str), ⟨2, [], [0, 1]⟩)] := by kernel_rfl
  have h := (List.mem_filter (p := fun r : Str × Form => r.1 == ("_law_blamed" : Str))).mpr ⟨hm, beq_self_eq_true ("_law_blamed" : Str)⟩
  rw [show lw.fnL = fnL from rfl, e] at h
  rcases List.mem_cons.mp h with h | h
  · cases h; exact bf__law_blamed_0
  cases h
theorem sc__law_blamed : FnScope [("given" : Str), ("value" : Str), ("one" : Str)] [("given" : Str), ("value" : Str)] (dfD ("_law_blamed" : Str)).scope := C8.fnScope_by (by kernel_rfl)
theorem N__law_blamed : lw.N ("_law_blamed" : Str) = [("given" : Str), ("value" : Str), ("one" : Str)] := by kernel_rfl
theorem ps__law_blamed : lw.ps ("_law_blamed" : Str) = [("given" : Str), ("value" : Str)] := by kernel_rfl
theorem body__law_blamed (cf ci : Str → Fn) : lw.body cf ci ("_law_blamed" : Str) = b__law_blamed cf ci := by kernel_rfl
theorem dok__law_blamed : DefOk lw ("_law_blamed" : Str) := ⟨⟨dfD ("_law_blamed" : Str), List.mem_map.mpr ⟨("_law_blamed" : Str), List.elem_iff.mp (by kernel_rfl), rfl⟩, rfl, rfl, rfl, by rw [N__law_blamed, ps__law_blamed]; exact sc__law_blamed, by rw [ps__law_blamed]; exact fm__law_blamed, fun cf ci k G hS hC => by rw [N__law_blamed, body__law_blamed]; exact cmp__law_blamed cf ci k G hS hC⟩⟩
theorem bf__law_is_web_0 (kV doc pm : Value) (an : Option Addr) (cdv ct : Value) : BindF (PySem.W.fnOf (dfD ("_law_is_web" : Str)).name (dfD ("_law_is_web" : Str)).qual (dfD ("_law_is_web" : Str)).params (dfD ("_law_is_web" : Str)).body (dfD ("_law_is_web" : Str)).scope .none kV doc pm an cdv ct) [("value" : Str), ("own" : Str)] 2 [] [0, 1] := fun us ws l h1 h2 h3 => match us, ws, h1, h2 with
  | [u0, u1], [], _, _ => by cases h3; kernel_rfl
theorem fm__law_is_web : ∀ m, (("_law_is_web" : Str), m) ∈ lw.fnL → ∀ (kV doc pm : Value) (an : Option Addr) (cdv ct : Value), BindF (PySem.W.fnOf (dfD ("_law_is_web" : Str)).name (dfD ("_law_is_web" : Str)).qual (dfD ("_law_is_web" : Str)).params (dfD ("_law_is_web" : Str)).body (dfD ("_law_is_web" : Str)).scope .none kV doc pm an cdv ct) [("value" : Str), ("own" : Str)] m.n m.ks m.idx := fun m hm => by
  have e : (fnL.filter fun r => r.1 == ("_law_is_web" : Str)) = [(("_law_is_web" : Str), ⟨2, [], [0, 1]⟩)] := by kernel_rfl
  have h := (List.mem_filter (p := fun r : Str × Form => r.1 == ("_law_is_web" : Str))).mpr ⟨hm, beq_self_eq_true ("_law_is_web" : Str)⟩
  rw [show lw.fnL = fnL from rfl, e] at h
  rcases List.mem_cons.mp h with h | h
  · cases h; exact bf__law_is_web_0
  cases h
theorem sc__law_is_web : FnScope [("value" : Str), ("own" : Str)] [("value" : Str), ("own" : Str)] (dfD ("_law_is_web" : Str)).scope := C8.fnScope_by (by kernel_rfl)
theorem N__law_is_web : lw.N ("_law_is_web" : Str) = [("value" : Str), ("own" : Str)] := by kernel_rfl
theorem ps__law_is_web : lw.ps ("_law_is_web" : Str) = [("value" : Str), ("own" : Str)] := by kernel_rfl
theorem body__law_is_web (cf ci : Str → Fn) : lw.body cf ci ("_law_is_web" : Str) = b__law_is_web cf ci := by kernel_rfl
theorem dok__law_is_web : DefOk lw ("_law_is_web" : Str) := ⟨⟨dfD ("_law_is_web" : Str), List.mem_map.mpr ⟨("_law_is_web" : Str), List.elem_iff.mp (by kernel_rfl), rfl⟩, rfl, rfl, rfl, by rw [N__law_is_web, ps__law_is_web]; exact sc__law_is_web, by rw [ps__law_is_web]; exact fm__law_is_web, fun cf ci k G hS hC => by rw [N__law_is_web, body__law_is_web]; exact cmp__law_is_web cf ci k G hS hC⟩⟩
theorem bf__law_drawn_web_0 (kV doc pm : Value) (an : Option Addr) (cdv ct : Value) : BindF (PySem.W.fnOf (dfD ("_law_drawn_web" : Str)).name (dfD ("_law_drawn_web" : Str)).qual (dfD ("_law_drawn_web" : Str)).params (dfD ("_law_drawn_web" : Str)).body (dfD ("_law_drawn_web" : Str)).scope .none kV doc pm an cdv ct) [("box" : Str), ("marks" : Str)] 2 [] [0, 1] := fun us ws l h1 h2 h3 => match us, ws, h1, h2 with
  | [u0, u1], [], _, _ => by cases h3; kernel_rfl
theorem fm__law_drawn_web : ∀ m, (("_law_drawn_web" : Str), m) ∈ lw.fnL → ∀ (kV doc pm : Value) (an : Option Addr) (cdv ct : Value), BindF (PySem.W.fnOf (dfD ("_law_drawn_web" : Str)).name (dfD ("_law_drawn_web" : Str)).qual (dfD ("_law_drawn_web" : Str)).params (dfD ("_law_drawn_web" : Str)).body (dfD ("_law_drawn_web" : Str)).scope .none kV doc pm an cdv ct) [("box" : Str), ("marks" : Str)] m.n m.ks m.idx := fun m hm => by
  have e : (fnL.filter fun r => r.1 == ("_law_drawn_web" : Str)) = [(("_law_drawn_web" : Str), ⟨2, [], [0, 1]⟩)] := by kernel_rfl
  have h := (List.mem_filter (p := fun r : Str × Form => r.1 == ("_law_drawn_web" : Str))).mpr ⟨hm, beq_self_eq_true ("_law_drawn_web" : Str)⟩
  rw [show lw.fnL = fnL from rfl, e] at h
  rcases List.mem_cons.mp h with h | h
  · cases h; exact bf__law_drawn_web_0
  cases h
theorem sc__law_drawn_web : FnScope [("box" : Str), ("marks" : Str), ("cut" : Str), ("turn" : Str), ("places" : Str), ("ties" : Str), ("letters" : Str), ("order" : Str), ("some" : Str), ("tie" : Str)] [("box" : Str), ("marks" : Str)] (dfD ("_law_drawn_web" : Str)).scope := C8.fnScope_by (by kernel_rfl)
theorem N__law_drawn_web : lw.N ("_law_drawn_web" : Str) = [("box" : Str), ("marks" : Str), ("cut" : Str), ("turn" : Str), ("places" : Str), ("ties" : Str), ("letters" : Str), ("order" : Str), ("some" : Str), ("tie" : Str)] := by kernel_rfl
theorem ps__law_drawn_web : lw.ps ("_law_drawn_web" : Str) = [("box" : Str), ("marks" : Str)] := by kernel_rfl
theorem body__law_drawn_web (cf ci : Str → Fn) : lw.body cf ci ("_law_drawn_web" : Str) = b__law_drawn_web cf ci := by kernel_rfl
theorem dok__law_drawn_web : DefOk lw ("_law_drawn_web" : Str) := ⟨⟨dfD ("_law_drawn_web" : Str), List.mem_map.mpr ⟨("_law_drawn_web" : Str), List.elem_iff.mp (by kernel_rfl), rfl⟩, rfl, rfl, rfl, by rw [N__law_drawn_web, ps__law_drawn_web]; exact sc__law_drawn_web, by rw [ps__law_drawn_web]; exact fm__law_drawn_web, fun cf ci k G hS hC => by rw [N__law_drawn_web, body__law_drawn_web]; exact cmp__law_drawn_web cf ci k G hS hC⟩⟩
theorem bf__law_made_0 (kV doc pm : Value) (an : Option Addr) (cdv ct : Value) : BindF (PySem.W.fnOf (dfD ("_law_made" : Str)).name (dfD ("_law_made" : Str)).qual (dfD ("_law_made" : Str)).params (dfD ("_law_made" : Str)).body (dfD ("_law_made" : Str)).scope .none kV doc pm an cdv ct) [("own" : Str), ("named" : Str)] 2 [] [0, 1] := fun us ws l h1 h2 h3 => match us, ws, h1, h2 with
  | [u0, u1], [], _, _ => by cases h3; kernel_rfl
theorem fm__law_made : ∀ m, (("_law_made" : Str), m) ∈ lw.fnL → ∀ (kV doc pm : Value) (an : Option Addr) (cdv ct : Value), BindF (PySem.W.fnOf (dfD ("_law_made" : Str)).name (dfD ("_law_made" : Str)).qual (dfD ("_law_made" : Str)).params (dfD ("_law_made" : Str)).body (dfD ("_law_made" : Str)).scope .none kV doc pm an cdv ct) [("own" : Str), ("named" : Str)] m.n m.ks m.idx := fun m hm => by
  have e : (fnL.filter fun r => r.1 == ("_law_made" : Str)) = [(("_law_made" : Str), ⟨2, [], [0, 1]⟩)] := by kernel_rfl
  have h := (List.mem_filter (p := fun r : Str × Form => r.1 == ("_law_made" : Str))).mpr ⟨hm, beq_self_eq_true ("_law_made" : Str)⟩
  rw [show lw.fnL = fnL from rfl, e] at h
  rcases List.mem_cons.mp h with h | h
  · cases h; exact bf__law_made_0
  cases h
theorem sc__law_made : FnScope [("own" : Str), ("named" : Str)] [("own" : Str), ("named" : Str)] (dfD ("_law_made" : Str)).scope := C8.fnScope_by (by kernel_rfl)
theorem N__law_made : lw.N ("_law_made" : Str) = [("own" : Str), ("named" : Str)] := by kernel_rfl
theorem ps__law_made : lw.ps ("_law_made" : Str) = [("own" : Str), ("named" : Str)] := by kernel_rfl
theorem body__law_made (cf ci : Str → Fn) : lw.body cf ci ("_law_made" : Str) = b__law_made cf ci := by kernel_rfl
theorem dok__law_made : DefOk lw ("_law_made" : Str) := ⟨⟨dfD ("_law_made" : Str), List.mem_map.mpr ⟨("_law_made" : Str), List.elem_iff.mp (by kernel_rfl), rfl⟩, rfl, rfl, rfl, by rw [N__law_made, ps__law_made]; exact sc__law_made, by rw [ps__law_made]; exact fm__law_made, fun cf ci k G hS hC => by rw [N__law_made, body__law_made]; exact cmp__law_made cf ci k G hS hC⟩⟩
theorem bf__law_asked_0 (kV doc pm : Value) (an : Option Addr) (cdv ct : Value) : BindF (PySem.W.fnOf (dfD ("_law_asked" : Str)).name (dfD ("_law_asked" : Str)).qual (dfD ("_law_asked" : Str)).params (dfD ("_law_asked" : Str)).body (dfD ("_law_asked" : Str)).scope .none kV doc pm an cdv ct) [("which" : Str), ("args" : Str), ("named" : Str)] 3 [] [0, 1, 2] := fun us ws l h1 h2 h3 => match us, ws, h1, h2 with
  | [u0, u1, u2], [], _, _ => by cases h3; kernel_rfl
theorem fm__law_asked : ∀ m, (("_law_asked" : Str), m) ∈ lw.fnL → ∀ (kV doc pm : Value) (an : Option Addr) (cdv ct : Value), BindF (PySem.W.fnOf (dfD ("_law_asked" : Str)).name (dfD ("_law_asked" : Str)).qual (dfD ("_law_asked" : Str)).params (dfD ("_law_asked" : Str)).body (dfD ("_law_asked" : Str)).scope .none kV doc pm an cdv ct) [("which" : Str), ("args" : Str), ("named" : Str)] m.n m.ks m.idx := fun m hm => by
  have e : (fnL.filter fun r => r.1 == ("_law_asked" : Str)) = [(("_law_asked" : Str), ⟨3, [], [0, 1, 2]⟩)] := by kernel_rfl
  have h := (List.mem_filter (p := fun r : Str × Form => r.1 == ("_law_asked" : Str))).mpr ⟨hm, beq_self_eq_true ("_law_asked" : Str)⟩
  rw [show lw.fnL = fnL from rfl, e] at h
  rcases List.mem_cons.mp h with h | h
  · cases h; exact bf__law_asked_0
  cases h
theorem sc__law_asked : FnScope [("which" : Str), ("args" : Str), ("named" : Str), ("error" : Str)] [("which" : Str), ("args" : Str), ("named" : Str)] (dfD ("_law_asked" : Str)).scope := C8.fnScope_by (by kernel_rfl)
theorem N__law_asked : lw.N ("_law_asked" : Str) = [("which" : Str), ("args" : Str), ("named" : Str), ("error" : Str)] := by kernel_rfl
theorem ps__law_asked : lw.ps ("_law_asked" : Str) = [("which" : Str), ("args" : Str), ("named" : Str)] := by kernel_rfl
theorem body__law_asked (cf ci : Str → Fn) : lw.body cf ci ("_law_asked" : Str) = b__law_asked cf ci := by kernel_rfl
theorem dok__law_asked : DefOk lw ("_law_asked" : Str) := ⟨⟨dfD ("_law_asked" : Str), List.mem_map.mpr ⟨("_law_asked" : Str), List.elem_iff.mp (by kernel_rfl), rfl⟩, rfl, rfl, rfl, by rw [N__law_asked, ps__law_asked]; exact sc__law_asked, by rw [ps__law_asked]; exact fm__law_asked, fun cf ci k G hS hC => by rw [N__law_asked, body__law_asked]; exact cmp__law_asked cf ci k G hS hC⟩⟩
theorem bf__law_put_0 (kV doc pm : Value) (an : Option Addr) (cdv ct : Value) : BindF (PySem.W.fnOf (dfD ("_law_put" : Str)).name (dfD ("_law_put" : Str)).qual (dfD ("_law_put" : Str)).params (dfD ("_law_put" : Str)).body (dfD ("_law_put" : Str)).scope .none kV doc pm an cdv ct) [("own" : Str), ("gone" : Str), ("kept" : Str)] 3 [] [0, 1, 2] := fun us ws l h1 h2 h3 => match us, ws, h1, h2 with
  | [u0, u1, u2], [], _, _ => by cases h3; kernel_rfl
theorem fm__law_put : ∀ m, (("_law_put" : Str), m) ∈ lw.fnL → ∀ (kV doc pm : Value) (an : Option Addr) (cdv ct : Value), BindF (PySem.W.fnOf (dfD ("_law_put" : Str)).name (dfD ("_law_put" : Str)).qual (dfD ("_law_put" : Str)).params (dfD ("_law_put" : Str)).body (dfD ("_law_put" : Str)).scope .none kV doc pm an cdv ct) [("own" : Str), ("gone" : Str), ("kept" : Str)] m.n m.ks m.idx := fun m hm => by
  have e : (fnL.filter fun r => r.1 == ("_law_put" : Str)) = [(("_law_put" : Str), ⟨3, [], [0, 1, 2]⟩)] := by kernel_rfl
  have h := (List.mem_filter (p := fun r : Str × Form => r.1 == ("_law_put" : Str))).mpr ⟨hm, beq_self_eq_true ("_law_put" : Str)⟩
  rw [show lw.fnL = fnL from rfl, e] at h
  rcases List.mem_cons.mp h with h | h
  · cases h; exact bf__law_put_0
  cases h
theorem sc__law_put : FnScope [("own" : Str), ("gone" : Str), ("kept" : Str), ("led_v" : Str), ("new" : Str), ("place" : Str), ("mark" : Str), ("letter" : Str), ("i" : Str), ("j" : Str)] [("own" : Str), ("gone" : Str), ("kept" : Str)] (dfD ("_law_put" : Str)).scope := C8.fnScope_by (by kernel_rfl)
theorem N__law_put : lw.N ("_law_put" : Str) = [("own" : Str), ("gone" : Str), ("kept" : Str), ("led_v" : Str), ("new" : Str), ("place" : Str), ("mark" : Str), ("letter" : Str), ("i" : Str), ("j" : Str)] := by kernel_rfl
theorem ps__law_put : lw.ps ("_law_put" : Str) = [("own" : Str), ("gone" : Str), ("kept" : Str)] := by kernel_rfl
theorem body__law_put (cf ci : Str → Fn) : lw.body cf ci ("_law_put" : Str) = b__law_put cf ci := by kernel_rfl
theorem dok__law_put : DefOk lw ("_law_put" : Str) := ⟨⟨dfD ("_law_put" : Str), List.mem_map.mpr ⟨("_law_put" : Str), List.elem_iff.mp (by kernel_rfl), rfl⟩, rfl, rfl, rfl, by rw [N__law_put, ps__law_put]; exact sc__law_put, by rw [ps__law_put]; exact fm__law_put, fun cf ci k G hS hC => by rw [N__law_put, body__law_put]; exact cmp__law_put cf ci k G hS hC⟩⟩
theorem bf__law_pinched_0 (kV doc pm : Value) (an : Option Addr) (cdv ct : Value) : BindF (PySem.W.fnOf (dfD ("_law_pinched" : Str)).name (dfD ("_law_pinched" : Str)).qual (dfD ("_law_pinched" : Str)).params (dfD ("_law_pinched" : Str)).body (dfD ("_law_pinched" : Str)).scope .none kV doc pm an cdv ct) [("own" : Str), ("i" : Str), ("j" : Str)] 3 [] [0, 1, 2] := fun us ws l h1 h2 h3 => match us, ws, h1, h2 with
  | [u0, u1, u2], [], _, _ => by cases h3; kernel_rfl
theorem fm__law_pinched : ∀ m, (("_law_pinched" : Str), m) ∈ lw.fnL → ∀ (kV doc pm : Value) (an : Option Addr) (cdv ct : Value), BindF (PySem.W.fnOf (dfD ("_law_pinched" : Str)).name (dfD ("_law_pinched" : Str)).qual (dfD ("_law_pinched" : Str)).params (dfD ("_law_pinched" : Str)).body (dfD ("_law_pinched" : Str)).scope .none kV doc pm an cdv ct) [("own" : Str), ("i" : Str), ("j" : Str)] m.n m.ks m.idx := fun m hm => by
  have e : (fnL.filter fun r => r.1 == ("_law_pinched" : Str)) = [(("_law_pinched" : Str), ⟨3, [], [0, 1, 2]⟩)] := by kernel_rfl
  have h := (List.mem_filter (p := fun r : Str × Form => r.1 == ("_law_pinched" : Str))).mpr ⟨hm, beq_self_eq_true ("_law_pinched" : Str)⟩
  rw [show lw.fnL = fnL from rfl, e] at h
  rcases List.mem_cons.mp h with h | h
  · cases h; exact bf__law_pinched_0
  cases h
theorem sc__law_pinched : FnScope [("own" : Str), ("i" : Str), ("j" : Str), ("less" : Str)] [("own" : Str), ("i" : Str), ("j" : Str)] (dfD ("_law_pinched" : Str)).scope := C8.fnScope_by (by kernel_rfl)
theorem N__law_pinched : lw.N ("_law_pinched" : Str) = [("own" : Str), ("i" : Str), ("j" : Str), ("less" : Str)] := by kernel_rfl
theorem ps__law_pinched : lw.ps ("_law_pinched" : Str) = [("own" : Str), ("i" : Str), ("j" : Str)] := by kernel_rfl
theorem body__law_pinched (cf ci : Str → Fn) : lw.body cf ci ("_law_pinched" : Str) = b__law_pinched cf ci := by kernel_rfl
theorem dok__law_pinched : DefOk lw ("_law_pinched" : Str) := ⟨⟨dfD ("_law_pinched" : Str), List.mem_map.mpr ⟨("_law_pinched" : Str), List.elem_iff.mp (by kernel_rfl), rfl⟩, rfl, rfl, rfl, by rw [N__law_pinched, ps__law_pinched]; exact sc__law_pinched, by rw [ps__law_pinched]; exact fm__law_pinched, fun cf ci k G hS hC => by rw [N__law_pinched, body__law_pinched]; exact cmp__law_pinched cf ci k G hS hC⟩⟩
theorem bf__law_pinched_tie_0 (kV doc pm : Value) (an : Option Addr) (cdv ct : Value) : BindF (PySem.W.fnOf (dfD ("_law_pinched_tie" : Str)).name (dfD ("_law_pinched_tie" : Str)).qual (dfD ("_law_pinched_tie" : Str)).params (dfD ("_law_pinched_tie" : Str)).body (dfD ("_law_pinched_tie" : Str)).scope .none kV doc pm an cdv ct) [("own" : Str), ("index" : Str)] 2 [] [0, 1] := fun us ws l h1 h2 h3 => match us, ws, h1, h2 with
  | [u0, u1], [], _, _ => by cases h3; kernel_rfl
theorem fm__law_pinched_tie : ∀ m, (("_law_pinched_tie" : Str), m) ∈ lw.fnL → ∀ (kV doc pm : Value) (an : Option Addr) (cdv ct : Value), BindF (PySem.W.fnOf (dfD ("_law_pinched_tie" : Str)).name (dfD ("_law_pinched_tie" : Str)).qual (dfD ("_law_pinched_tie" : Str)).params (dfD ("_law_pinched_tie" : Str)).body (dfD ("_law_pinched_tie" : Str)).scope .none kV doc pm an cdv ct) [("own" : Str), ("index" : Str)] m.n m.ks m.idx := fun m hm => by
  have e : (fnL.filter fun r => r.1 == ("_law_pinched_tie" : Str)) = [(("_law_pinched_tie" : Str), ⟨2, [], [0, 1]⟩)] := by kernel_rfl
  have h := (List.mem_filter (p := fun r : Str × Form => r.1 == ("_law_pinched_tie" : Str))).mpr ⟨hm, beq_self_eq_true ("_law_pinched_tie" : Str)⟩
  rw [show lw.fnL = fnL from rfl, e] at h
  rcases List.mem_cons.mp h with h | h
  · cases h; exact bf__law_pinched_tie_0
  cases h
theorem sc__law_pinched_tie : FnScope [("own" : Str), ("index" : Str), ("ties" : Str), ("letter" : Str), ("i" : Str), ("j" : Str)] [("own" : Str), ("index" : Str)] (dfD ("_law_pinched_tie" : Str)).scope := C8.fnScope_by (by kernel_rfl)
theorem N__law_pinched_tie : lw.N ("_law_pinched_tie" : Str) = [("own" : Str), ("index" : Str), ("ties" : Str), ("letter" : Str), ("i" : Str), ("j" : Str)] := by kernel_rfl
theorem ps__law_pinched_tie : lw.ps ("_law_pinched_tie" : Str) = [("own" : Str), ("index" : Str)] := by kernel_rfl
theorem body__law_pinched_tie (cf ci : Str → Fn) : lw.body cf ci ("_law_pinched_tie" : Str) = b__law_pinched_tie cf ci := by kernel_rfl
theorem dok__law_pinched_tie : DefOk lw ("_law_pinched_tie" : Str) := ⟨⟨dfD ("_law_pinched_tie" : Str), List.mem_map.mpr ⟨("_law_pinched_tie" : Str), List.elem_iff.mp (by kernel_rfl), rfl⟩, rfl, rfl, rfl, by rw [N__law_pinched_tie, ps__law_pinched_tie]; exact sc__law_pinched_tie, by rw [ps__law_pinched_tie]; exact fm__law_pinched_tie, fun cf ci k G hS hC => by rw [N__law_pinched_tie, body__law_pinched_tie]; exact cmp__law_pinched_tie cf ci k G hS hC⟩⟩
theorem bf__law_marks_right_0 (kV doc pm : Value) (an : Option Addr) (cdv ct : Value) : BindF (PySem.W.fnOf (dfD ("_law_marks_right" : Str)).name (dfD ("_law_marks_right" : Str)).qual (dfD ("_law_marks_right" : Str)).params (dfD ("_law_marks_right" : Str)).body (dfD ("_law_marks_right" : Str)).scope .none kV doc pm an cdv ct) [("box" : Str), ("own" : Str), ("named" : Str)] 3 [] [0, 1, 2] := fun us ws l h1 h2 h3 => match us, ws, h1, h2 with
  | [u0, u1, u2], [], _, _ => by cases h3; kernel_rfl
theorem fm__law_marks_right : ∀ m, (("_law_marks_right" : Str), m) ∈ lw.fnL → ∀ (kV doc pm : Value) (an : Option Addr) (cdv ct : Value), BindF (PySem.W.fnOf (dfD ("_law_marks_right" : Str)).name (dfD ("_law_marks_right" : Str)).qual (dfD ("_law_marks_right" : Str)).params (dfD ("_law_marks_right" : Str)).body (dfD ("_law_marks_right" : Str)).scope .none kV doc pm an cdv ct) [("box" : Str), ("own" : Str), ("named" : Str)] m.n m.ks m.idx := fun m hm => by
  have e : (fnL.filter fun r => r.1 == ("_law_marks_right" : Str)) = [(("_law_marks_right" : Str), ⟨3, [], [0, 1, 2]⟩)] := by kernel_rfl
  have h := (List.mem_filter (p := fun r : Str × Form => r.1 == ("_law_marks_right" : Str))).mpr ⟨hm, beq_self_eq_true ("_law_marks_right" : Str)⟩
  rw [show lw.fnL = fnL from rfl, e] at h
  rcases List.mem_cons.mp h with h | h
  · cases h; exact bf__law_marks_right_0
  cases h
theorem sc__law_marks_right : FnScope [("box" : Str), ("own" : Str), ("named" : Str), ("i" : Str), ("made" : Str), ("many" : Str), ("j" : Str), ("told" : Str)] [("box" : Str), ("own" : Str), ("named" : Str)] (dfD ("_law_marks_right" : Str)).scope := C8.fnScope_by (by kernel_rfl)
theorem N__law_marks_right : lw.N ("_law_marks_right" : Str) = [("box" : Str), ("own" : Str), ("named" : Str), ("i" : Str), ("made" : Str), ("many" : Str), ("j" : Str), ("told" : Str)] := by kernel_rfl
theorem ps__law_marks_right : lw.ps ("_law_marks_right" : Str) = [("box" : Str), ("own" : Str), ("named" : Str)] := by kernel_rfl
theorem body__law_marks_right (cf ci : Str → Fn) : lw.body cf ci ("_law_marks_right" : Str) = b__law_marks_right cf ci := by kernel_rfl
theorem dok__law_marks_right : DefOk lw ("_law_marks_right" : Str) := ⟨⟨dfD ("_law_marks_right" : Str), List.mem_map.mpr ⟨("_law_marks_right" : Str), List.elem_iff.mp (by kernel_rfl), rfl⟩, rfl, rfl, rfl, by rw [N__law_marks_right, ps__law_marks_right]; exact sc__law_marks_right, by rw [ps__law_marks_right]; exact fm__law_marks_right, fun cf ci k G hS hC => by rw [N__law_marks_right, body__law_marks_right]; exact cmp__law_marks_right cf ci k G hS hC⟩⟩
theorem bf__law_ties_right_0 (kV doc pm : Value) (an : Option Addr) (cdv ct : Value) : BindF (PySem.W.fnOf (dfD ("_law_ties_right" : Str)).name (dfD ("_law_ties_right" : Str)).qual (dfD ("_law_ties_right" : Str)).params (dfD ("_law_ties_right" : Str)).body (dfD ("_law_ties_right" : Str)).scope .none kV doc pm an cdv ct) [("box" : Str), ("own" : Str), ("named" : Str)] 3 [] [0, 1, 2] := fun us ws l h1 h2 h3 => match us, ws, h1, h2 with
  | [u0, u1, u2], [], _, _ => by cases h3; kernel_rfl
theorem fm__law_ties_right : ∀ m, (("_law_ties_right" : Str), m) ∈ lw.fnL → ∀ (kV doc pm : Value) (an : Option Addr) (cdv ct : Value), BindF (PySem.W.fnOf (dfD ("_law_ties_right" : Str)).name (dfD ("_law_ties_right" : Str)).qual (dfD ("_law_ties_right" : Str)).params (dfD ("_law_ties_right" : Str)).body (dfD ("_law_ties_right" : Str)).scope .none kV doc pm an cdv ct) [("box" : Str), ("own" : Str), ("named" : Str)] m.n m.ks m.idx := fun m hm => by
  have e : (fnL.filter fun r => r.1 == ("_law_ties_right" : Str)) = [(("_law_ties_right" : Str), ⟨3, [], [0, 1, 2]⟩)] := by kernel_rfl
  have h := (List.mem_filter (p := fun r : Str × Form => r.1 == ("_law_ties_right" : Str))).mpr ⟨hm, beq_self_eq_true ("_law_ties_right" : Str)⟩
  rw [show lw.fnL = fnL from rfl, e] at h
  rcases List.mem_cons.mp h with h | h
  · cases h; exact bf__law_ties_right_0
  cases h
theorem sc__law_ties_right : FnScope [("box" : Str), ("own" : Str), ("named" : Str), ("index" : Str), ("made" : Str), ("ties" : Str), ("less" : Str), ("told" : Str), ("due" : Str), ("at" : Str), ("again" : Str), ("more" : Str)] [("box" : Str), ("own" : Str), ("named" : Str)] (dfD ("_law_ties_right" : Str)).scope := C8.fnScope_by (by kernel_rfl)
theorem N__law_ties_right : lw.N ("_law_ties_right" : Str) = [("box" : Str), ("own" : Str), ("named" : Str), ("index" : Str), ("made" : Str), ("ties" : Str), ("less" : Str), ("told" : Str), ("due" : Str), ("at" : Str), ("again" : Str), ("more" : Str)] := by kernel_rfl
theorem ps__law_ties_right : lw.ps ("_law_ties_right" : Str) = [("box" : Str), ("own" : Str), ("named" : Str)] := by kernel_rfl
theorem body__law_ties_right (cf ci : Str → Fn) : lw.body cf ci ("_law_ties_right" : Str) = b__law_ties_right cf ci := by kernel_rfl
theorem dok__law_ties_right : DefOk lw ("_law_ties_right" : Str) := ⟨⟨dfD ("_law_ties_right" : Str), List.mem_map.mpr ⟨("_law_ties_right" : Str), List.elem_iff.mp (by kernel_rfl), rfl⟩, rfl, rfl, rfl, by rw [N__law_ties_right, ps__law_ties_right]; exact sc__law_ties_right, by rw [ps__law_ties_right]; exact fm__law_ties_right, fun cf ci k G hS hC => by rw [N__law_ties_right, body__law_ties_right]; exact cmp__law_ties_right cf ci k G hS hC⟩⟩
theorem bf__law_pieces_0 (kV doc pm : Value) (an : Option Addr) (cdv ct : Value) : BindF (PySem.W.fnOf (dfD ("_law_pieces" : Str)).name (dfD ("_law_pieces" : Str)).qual (dfD ("_law_pieces" : Str)).params (dfD ("_law_pieces" : Str)).body (dfD ("_law_pieces" : Str)).scope .none kV doc pm an cdv ct) [("own" : Str)] 1 [] [0] := fun us ws l h1 h2 h3 => match us, ws, h1, h2 with
  | [u0], [], _, _ => by cases h3; kernel_rfl
theorem fm__law_pieces : ∀ m, (("_law_pieces" : Str), m) ∈ lw.fnL → ∀ (kV doc pm : Value) (an : Option Addr) (cdv ct : Value), BindF (PySem.W.fnOf (dfD ("_law_pieces" : Str)).name (dfD ("_law_pieces" : Str)).qual (dfD ("_law_pieces" : Str)).params (dfD ("_law_pieces" : Str)).body (dfD ("_law_pieces" : Str)).scope .none kV doc pm an cdv ct) [("own" : Str)] m.n m.ks m.idx := fun m hm => by
  have e : (fnL.filter fun r => r.1 == ("_law_pieces" : Str)) = [(("_law_pieces" : Str), ⟨1, [], [0]⟩)] := by kernel_rfl
  have h := (List.mem_filter (p := fun r : Str × Form => r.1 == ("_law_pieces" : Str))).mpr ⟨hm, beq_self_eq_true ("_law_pieces" : Str)⟩
  rw [show lw.fnL = fnL from rfl, e] at h
  rcases List.mem_cons.mp h with h | h
  · cases h; exact bf__law_pieces_0
  cases h
theorem sc__law_pieces : FnScope [("own" : Str), ("names" : Str), ("found" : Str), ("name" : Str), ("letter" : Str), ("i" : Str), ("j" : Str), ("some" : Str), ("one" : Str), ("other" : Str), ("place" : Str)] [("own" : Str)] (dfD ("_law_pieces" : Str)).scope := C8.fnScope_by (by kernel_rfl)
theorem N__law_pieces : lw.N ("_law_pieces" : Str) = [("own" : Str), ("names" : Str), ("found" : Str), ("name" : Str), ("letter" : Str), ("i" : Str), ("j" : Str), ("some" : Str), ("one" : Str), ("other" : Str), ("place" : Str)] := by kernel_rfl
theorem ps__law_pieces : lw.ps ("_law_pieces" : Str) = [("own" : Str)] := by kernel_rfl
theorem body__law_pieces (cf ci : Str → Fn) : lw.body cf ci ("_law_pieces" : Str) = b__law_pieces cf ci := by kernel_rfl
theorem dok__law_pieces : DefOk lw ("_law_pieces" : Str) := ⟨⟨dfD ("_law_pieces" : Str), List.mem_map.mpr ⟨("_law_pieces" : Str), List.elem_iff.mp (by kernel_rfl), rfl⟩, rfl, rfl, rfl, by rw [N__law_pieces, ps__law_pieces]; exact sc__law_pieces, by rw [ps__law_pieces]; exact fm__law_pieces, fun cf ci k G hS hC => by rw [N__law_pieces, body__law_pieces]; exact cmp__law_pieces cf ci k G hS hC⟩⟩
theorem bf__law_pieces_right_0 (kV doc pm : Value) (an : Option Addr) (cdv ct : Value) : BindF (PySem.W.fnOf (dfD ("_law_pieces_right" : Str)).name (dfD ("_law_pieces_right" : Str)).qual (dfD ("_law_pieces_right" : Str)).params (dfD ("_law_pieces_right" : Str)).body (dfD ("_law_pieces_right" : Str)).scope .none kV doc pm an cdv ct) [("box" : Str), ("own" : Str), ("named" : Str)] 3 [] [0, 1, 2] := fun us ws l h1 h2 h3 => match us, ws, h1, h2 with
  | [u0, u1, u2], [], _, _ => by cases h3; kernel_rfl
theorem fm__law_pieces_right : ∀ m, (("_law_pieces_right" : Str), m) ∈ lw.fnL → ∀ (kV doc pm : Value) (an : Option Addr) (cdv ct : Value), BindF (PySem.W.fnOf (dfD ("_law_pieces_right" : Str)).name (dfD ("_law_pieces_right" : Str)).qual (dfD ("_law_pieces_right" : Str)).params (dfD ("_law_pieces_right" : Str)).body (dfD ("_law_pieces_right" : Str)).scope .none kV doc pm an cdv ct) [("box" : Str), ("own" : Str), ("named" : Str)] m.n m.ks m.idx := fun m hm => by
  have e : (fnL.filter fun r => r.1 == ("_law_pieces_right" : Str)) = [(("_law_pieces_right" : Str), ⟨3, [], [0, 1, 2]⟩)] := by kernel_rfl
  have h := (List.mem_filter (p := fun r : Str × Form => r.1 == ("_law_pieces_right" : Str))).mpr ⟨hm, beq_self_eq_true ("_law_pieces_right" : Str)⟩
  rw [show lw.fnL = fnL from rfl, e] at h
  rcases List.mem_cons.mp h with h | h
  · cases h; exact bf__law_pieces_right_0
  cases h
theorem sc__law_pieces_right : FnScope [("box" : Str), ("own" : Str), ("named" : Str), ("bare" : Str), ("turn" : Str), ("marked" : Str), ("told" : Str), ("made" : Str), ("dues" : Str), ("k" : Str)] [("box" : Str), ("own" : Str), ("named" : Str)] (dfD ("_law_pieces_right" : Str)).scope := C8.fnScope_by (by kernel_rfl)
theorem N__law_pieces_right : lw.N ("_law_pieces_right" : Str) = [("box" : Str), ("own" : Str), ("named" : Str), ("bare" : Str), ("turn" : Str), ("marked" : Str), ("told" : Str), ("made" : Str), ("dues" : Str), ("k" : Str)] := by kernel_rfl
theorem ps__law_pieces_right : lw.ps ("_law_pieces_right" : Str) = [("box" : Str), ("own" : Str), ("named" : Str)] := by kernel_rfl
theorem body__law_pieces_right (cf ci : Str → Fn) : lw.body cf ci ("_law_pieces_right" : Str) = b__law_pieces_right cf ci := by kernel_rfl
theorem dok__law_pieces_right : DefOk lw ("_law_pieces_right" : Str) := ⟨⟨dfD ("_law_pieces_right" : Str), List.mem_map.mpr ⟨("_law_pieces_right" : Str), List.elem_iff.mp (by kernel_rfl), rfl⟩, rfl, rfl, rfl, by rw [N__law_pieces_right, ps__law_pieces_right]; exact sc__law_pieces_right, by rw [ps__law_pieces_right]; exact fm__law_pieces_right, fun cf ci k G hS hC => by rw [N__law_pieces_right, body__law_pieces_right]; exact cmp__law_pieces_right cf ci k G hS hC⟩⟩
theorem bf__law_refused_right_0 (kV doc pm : Value) (an : Option Addr) (cdv ct : Value) : BindF (PySem.W.fnOf (dfD ("_law_refused_right" : Str)).name (dfD ("_law_refused_right" : Str)).qual (dfD ("_law_refused_right" : Str)).params (dfD ("_law_refused_right" : Str)).body (dfD ("_law_refused_right" : Str)).scope .none kV doc pm an cdv ct) [("box" : Str), ("own" : Str), ("named" : Str)] 3 [] [0, 1, 2] := fun us ws l h1 h2 h3 => match us, ws, h1, h2 with
  | [u0, u1, u2], [], _, _ => by cases h3; kernel_rfl
theorem fm__law_refused_right : ∀ m, (("_law_refused_right" : Str), m) ∈ lw.fnL → ∀ (kV doc pm : Value) (an : Option Addr) (cdv ct : Value), BindF (PySem.W.fnOf (dfD ("_law_refused_right" : Str)).name (dfD ("_law_refused_right" : Str)).qual (dfD ("_law_refused_right" : Str)).params (dfD ("_law_refused_right" : Str)).body (dfD ("_law_refused_right" : Str)).scope .none kV doc pm an cdv ct) [("box" : Str), ("own" : Str), ("named" : Str)] m.n m.ks m.idx := fun m hm => by
  have e : (fnL.filter fun r => r.1 == ("_law_refused_right" : Str)) = [(("_law_refused_right" : Str), ⟨3, [], [0, 1, 2]⟩)] := by kernel_rfl
  have h := (List.mem_filter (p := fun r : Str × Form => r.1 == ("_law_refused_right" : Str))).mpr ⟨hm, beq_self_eq_true ("_law_refused_right" : Str)⟩
  rw [show lw.fnL = fnL from rfl, e] at h
  rcases List.mem_cons.mp h with h | h
  · cases h; exact bf__law_refused_right_0
  cases h
theorem sc__law_refused_right : FnScope [("box" : Str), ("own" : Str), ("named" : Str), ("which" : Str), ("odd" : Str), ("wrong" : Str), ("given" : Str), ("made" : Str), ("many" : Str)] [("box" : Str), ("own" : Str), ("named" : Str)] (dfD ("_law_refused_right" : Str)).scope := C8.fnScope_by (by kernel_rfl)
theorem N__law_refused_right : lw.N ("_law_refused_right" : Str) = [("box" : Str), ("own" : Str), ("named" : Str), ("which" : Str), ("odd" : Str), ("wrong" : Str), ("given" : Str), ("made" : Str), ("many" : Str)] := by kernel_rfl
theorem ps__law_refused_right : lw.ps ("_law_refused_right" : Str) = [("box" : Str), ("own" : Str), ("named" : Str)] := by kernel_rfl
theorem body__law_refused_right (cf ci : Str → Fn) : lw.body cf ci ("_law_refused_right" : Str) = b__law_refused_right cf ci := by kernel_rfl
theorem dok__law_refused_right : DefOk lw ("_law_refused_right" : Str) := ⟨⟨dfD ("_law_refused_right" : Str), List.mem_map.mpr ⟨("_law_refused_right" : Str), List.elem_iff.mp (by kernel_rfl), rfl⟩, rfl, rfl, rfl, by rw [N__law_refused_right, ps__law_refused_right]; exact sc__law_refused_right, by rw [ps__law_refused_right]; exact fm__law_refused_right, fun cf ci k G hS hC => by rw [N__law_refused_right, body__law_refused_right]; exact cmp__law_refused_right cf ci k G hS hC⟩⟩
theorem fm_law : ∀ m, (("law" : Str), m) ∈ lw.fnL → ∀ (kV doc pm : Value) (an : Option Addr) (cdv ct : Value), BindF (PySem.W.fnOf (dfD ("law" : Str)).name (dfD ("law" : Str)).qual (dfD ("law" : Str)).params (dfD ("law" : Str)).body (dfD ("law" : Str)).scope .none kV doc pm an cdv ct) [("script" : Str)] m.n m.ks m.idx := fun m hm => by
  have e : (fnL.filter fun r => r.1 == ("law" : Str)) = [] := by kernel_rfl
  have h := (List.mem_filter (p := fun r : Str × Form => r.1 == ("law" : Str))).mpr ⟨hm, beq_self_eq_true ("law" : Str)⟩
  rw [show lw.fnL = fnL from rfl, e] at h
  cases h
theorem sc_law : FnScope [("script" : Str), ("k" : Str), ("box" : Str), ("named" : Str), ("turn" : Str), ("own" : Str)] [("script" : Str)] (dfD ("law" : Str)).scope := C8.fnScope_by (by kernel_rfl)
theorem N_law : lw.N ("law" : Str) = [("script" : Str), ("k" : Str), ("box" : Str), ("named" : Str), ("turn" : Str), ("own" : Str)] := by kernel_rfl
theorem ps_law : lw.ps ("law" : Str) = [("script" : Str)] := by kernel_rfl
theorem body_law (cf ci : Str → Fn) : lw.body cf ci ("law" : Str) = b_law cf ci := by kernel_rfl
theorem dok_law : DefOk lw ("law" : Str) := ⟨⟨dfD ("law" : Str), List.mem_map.mpr ⟨("law" : Str), List.elem_iff.mp (by kernel_rfl), rfl⟩, rfl, rfl, rfl, by rw [N_law, ps_law]; exact sc_law, by rw [ps_law]; exact fm_law, fun cf ci k G hS hC => by rw [N_law, body_law]; exact cmp_law cf ci k G hS hC⟩⟩
theorem bfI_Web_0 (kV doc pm : Value) (an : Option Addr) (cdv ct : Value) : BindF (PySem.W.fnOf (inDf ("Web" : Str) ("Web.__init__" : Str)).name (inDf ("Web" : Str) ("Web.__init__" : Str)).qual (inDf ("Web" : Str) ("Web.__init__" : Str)).params (inDf ("Web" : Str) ("Web.__init__" : Str)).body (inDf ("Web" : Str) ("Web.__init__" : Str)).scope .none kV doc pm an cdv ct) [("self" : Str), ("places" : Str), ("ties" : Str), ("marks" : Str)] (3 + 1) [] [0, 1, 2, 3] := fun us ws l h1 h2 h3 => match us, ws, h1, h2 with
  | [u0, u1, u2, u3], [], _, _ => by cases h3; kernel_rfl
theorem bfI_Web_1 (kV doc pm : Value) (an : Option Addr) (cdv ct : Value) : BindF (PySem.W.fnOf (inDf ("Web" : Str) ("Web.__init__" : Str)).name (inDf ("Web" : Str) ("Web.__init__" : Str)).qual (inDf ("Web" : Str) ("Web.__init__" : Str)).params (inDf ("Web" : Str) ("Web.__init__" : Str)).body (inDf ("Web" : Str) ("Web.__init__" : Str)).scope .none kV doc pm an cdv ct) [("self" : Str), ("places" : Str), ("ties" : Str), ("marks" : Str)] (0 + 1) [("marks" : Str), ("ties" : Str), ("places" : Str)] [0, 3, 2, 1] := fun us ws l h1 h2 h3 => match us, ws, h1, h2 with
  | [u0], [w0, w1, w2], _, _ => by cases h3; kernel_rfl
theorem fmI_Web : ∀ m, (("Web" : Str), m) ∈ lw.mkL → ∀ (kV doc pm : Value) (an : Option Addr) (cdv ct : Value), BindF (PySem.W.fnOf (inDf ("Web" : Str) ("Web.__init__" : Str)).name (inDf ("Web" : Str) ("Web.__init__" : Str)).qual (inDf ("Web" : Str) ("Web.__init__" : Str)).params (inDf ("Web" : Str) ("Web.__init__" : Str)).body (inDf ("Web" : Str) ("Web.__init__" : Str)).scope .none kV doc pm an cdv ct) [("self" : Str), ("places" : Str), ("ties" : Str), ("marks" : Str)] (m.n + 1) m.ks m.idx := fun m hm => by
  have e : (mkL.filter fun r => r.1 == ("Web" : Str)) = [(("Web" : Str), ⟨3, [], [0, 1, 2, 3]⟩), (("Web" : Str), ⟨0, [("marks" : Str), ("ties" : Str), ("places" : Str)], [0, 3, 2, 1]⟩)] := by kernel_rfl
  have h := (List.mem_filter (p := fun r : Str × Form => r.1 == ("Web" : Str))).mpr ⟨hm, beq_self_eq_true ("Web" : Str)⟩
  rw [show lw.mkL = mkL from rfl, e] at h
  rcases List.mem_cons.mp h with h | h
  · cases h; exact bfI_Web_0
  rcases List.mem_cons.mp h with h | h
  · cases h; exact bfI_Web_1
  cases h
theorem scI_Web : FnScope [("self" : Str), ("places" : Str), ("ties" : Str), ("marks" : Str), ("tie" : Str), ("mark" : Str)] [("self" : Str), ("places" : Str), ("ties" : Str), ("marks" : Str)] (inDf ("Web" : Str) ("Web.__init__" : Str)).scope := C8.fnScope_by (by kernel_rfl)
theorem NI_Web : lw.NI ("Web" : Str) = [("self" : Str), ("places" : Str), ("ties" : Str), ("marks" : Str), ("tie" : Str), ("mark" : Str)] := by kernel_rfl
theorem psI_Web : lw.psI ("Web" : Str) = [("self" : Str), ("places" : Str), ("ties" : Str), ("marks" : Str)] := by kernel_rfl
theorem bodyI_Web (cf ci : Str → Fn) : lw.bodyI cf ci ("Web" : Str) = bi_Web cf ci := by kernel_rfl
theorem iok_Web : InitOk lw ("Web" : Str) := ⟨List.elem_iff.mp (by kernel_rfl), ⟨(inDf ("Web" : Str) ("Web.__init__" : Str)), List.mem_of_getElem? (i := 0) rfl, rfl, rfl, by rw [NI_Web, psI_Web]; exact scI_Web, by rw [psI_Web]; exact fmI_Web, fun cf ci k G hS hC => by rw [NI_Web, bodyI_Web]; exact cmpI_Web cf ci k G hS hC⟩⟩
end Lk12

set_option Elab.async false
set_option linter.all false
set_option maxRecDepth 100000
set_option maxHeartbeats 0
namespace Lk12
open PySem PySem.Spec PyProof.Rows L2 Pv PySem.W PySem.Calls
def LV : Nat := 50
theorem ob_eq (s : PySem.W.SharedT) : ob s = (hookC 5 cfg).obs s.abs := by
  have e : HandSHeadRun.getT s = s.abs.heap.get? := funext (HandSHeadRun.getT_eq s)
  show obsC cfg (He.frG (HandSHeadRun.getT s) (asC (HandSHeadRun.getT s) 5)) = obsC cfg (He.frG s.abs.heap.get? (asC s.abs.heap.get? 5))
  rw [e]
theorem par_WebError : ex_WebError.params = ⟨[], [⟨("self" : Str), none, ⟨4, 17, 4, 21⟩⟩, ⟨("given" : Str), none, ⟨4, 23, 4, 28⟩⟩], none, [], [], none, [.Constant .none 0 ⟨4, 29, 4, 33⟩]⟩ := by kernel_rfl
theorem ib_WebError : InBd ex_WebError := ⟨fun h => Bool.noConfusion (show true = false from h), fun _ T kV doc pm an cl cdv ct a b => by rw [par_WebError]; exact ⟨_, rfl, fun v => rfl⟩⟩
theorem intx : InTx cfg := by
  show ∀ d ∈ [ex_WebError], _
  exact fa_cons (InTx.one (by kernel_rfl) ib_WebError) (fa_nil)
theorem excN2_eq : excN2 = [(("WebError" : Str), [("given" : Str)]), (("InvalidMark" : Str), [("given" : Str)]), (("InvalidMarks" : Str), [("given" : Str)]), (("InvalidPlaces" : Str), [("given" : Str)]), (("InvalidTie" : Str), [("given" : Str)]), (("InvalidTies" : Str), [("given" : Str)]), (("InvalidWeb" : Str), [("given" : Str)])] := by kernel_rfl
theorem lw_exc : ∀ p ∈ lw.excL, (∃ q ∈ cfg.exc0, q.1 = p.1 ∧ q.2 ∈ cfg.inits ∧ p.2 = [q.2.n]) ∨ ∃ q ∈ cfg.exc1, q.1 = p.1 ∧ q.2.1 ∈ cfg.inits ∧ q.2.2 ∈ cfg.inits ∧ p.2 = [q.2.1.n, q.2.2.n] := by
  rw [show lw.excL = excN2 from rfl, excN2_eq]
  exact fa_cons (.inl ⟨(("WebError" : Str), ex_WebError), List.mem_of_getElem? (i := 0) rfl, rfl, List.mem_of_getElem? (i := 0) rfl, rfl⟩) (fa_cons (.inl ⟨(("InvalidMark" : Str), ex_WebError), List.mem_of_getElem? (i := 1) rfl, rfl, List.mem_of_getElem? (i := 0) rfl, rfl⟩) (fa_cons (.inl ⟨(("InvalidMarks" : Str), ex_WebError), List.mem_of_getElem? (i := 2) rfl, rfl, List.mem_of_getElem? (i := 0) rfl, rfl⟩) (fa_cons (.inl ⟨(("InvalidPlaces" : Str), ex_WebError), List.mem_of_getElem? (i := 3) rfl, rfl, List.mem_of_getElem? (i := 0) rfl, rfl⟩) (fa_cons (.inl ⟨(("InvalidTie" : Str), ex_WebError), List.mem_of_getElem? (i := 4) rfl, rfl, List.mem_of_getElem? (i := 0) rfl, rfl⟩) (fa_cons (.inl ⟨(("InvalidTies" : Str), ex_WebError), List.mem_of_getElem? (i := 5) rfl, rfl, List.mem_of_getElem? (i := 0) rfl, rfl⟩) (fa_cons (.inl ⟨(("InvalidWeb" : Str), ex_WebError), List.mem_of_getElem? (i := 6) rfl, rfl, List.mem_of_getElem? (i := 0) rfl, rfl⟩) (fa_nil)))))))
theorem lw_defs : ∀ x ∈ defsL, DefOk lw x := by
  unfold defsL
  exact fa_app (fa_cons (dok_is_whole) (fa_cons (dok_is_name) (fa_cons (dok_is_place) (fa_cons (dok_is_tie) (fa_cons (dok_check_web) (fa_cons (dok_check_plain_web) (fa_cons (dok_neighbours_in) (fa_cons (dok_led) (fa_cons (dok_is_mark) (fa_cons (dok_check_mark) (fa_cons (dok_as_one) (fa_cons (dok_pinched) (fa_cons (dok_check_tie) (fa_cons (dok_less_tie) (fa_cons (dok_without_tie) (fa_cons (dok_pinched_tie) (fa_cons (dok_reached) (fa_cons (dok_pieces) (fa_cons (dok__law_cell) (fa_cons (dok__law_box) (fa_nil))))))))))))))))))))) (fa_cons (dok__law_take) (fa_cons (dok__law_pick) (fa_cons (dok__law_mixed) (fa_cons (dok__law_same) (fa_cons (dok__law_copied) (fa_cons (dok__law_blamed) (fa_cons (dok__law_is_web) (fa_cons (dok__law_drawn_web) (fa_cons (dok__law_made) (fa_cons (dok__law_asked) (fa_cons (dok__law_put) (fa_cons (dok__law_pinched) (fa_cons (dok__law_pinched_tie) (fa_cons (dok__law_marks_right) (fa_cons (dok__law_ties_right) (fa_cons (dok__law_pieces) (fa_cons (dok__law_pieces_right) (fa_cons (dok__law_refused_right) (fa_cons (dok_law) (fa_nil))))))))))))))))))))
theorem lw_inis : ∀ p ∈ mkL, InitOk lw p.1 := by
  unfold mkL
  exact fa_cons (iok_Web) (fa_cons (iok_Web) (fa_nil))
theorem lw_fnN : ∀ p ∈ fnL, p.1 ∈ defsL := fun p hp => List.elem_iff.mp (List.all_eq_true.mp (show (fnL.all fun p => List.elem p.1 defsL) = true by kernel_rfl) p hp)
theorem lw_ok : lw.Ok := ⟨intx, lw_exc, lw_fnN, lw_defs, lw_inis⟩
theorem par_law : (dfD "law").params = ⟨[], [⟨("script" : Str), none, ⟨296, 8, 296, 14⟩⟩], none, [], [], none, []⟩ := by kernel_rfl
theorem holds_of (plain : LawOk lw LV 63) : PySem.Challenge.rw_seenbywebs_k12_webs_pinched_and_pieces.Holds := by
  w_on; o_law
  refine HandSHeadRun.head_any (r := R) (q := qv) (H := hookC 5 cfg) (ob := ob) (M := 4000) (loose := names) (d := HandSHeadRun.topDef R.prog 57) (kwd := []) ob_eq
    (by kernel_rfl) (fun s => by kernel_rfl) run (by kernel_rfl) (by kernel_rfl) (by kernel_rfl) (by rfl) (by first | assumption | decide +kernel) (by decide +kernel) ⟨rfl, rfl, rfl, rfl, rfl, by decide +kernel⟩ ?hw ?hc
  case hw => w_witness2
  case hc =>
    refine law_end (l := PySem.Challenge.rw_seenbywebs_k12_webs_pinched_and_pieces) (c := cfg) (L := lw) (m := 63) (n := LV) lw_ok (by kernel_rfl) rfl (by decide) (by kernel_rfl) (by kernel_rfl) ⟨rfl, by decide, by decide⟩ (by kernel_rfl) ⟨dfD "law", List.mem_map.mpr ⟨"law", List.elem_iff.mp (by kernel_rfl), rfl⟩, rfl, rfl, rfl, by rw [N_law]; exact sc_law, fun kV doc pm an cdv ct u => by rw [par_law]; rfl, fun cf ci k G hS hC => by rw [N_law, body_law]; exact cmp_law cf ci k G hS hC⟩ plain
end Lk12

set_option Elab.async false
set_option linter.all false
namespace Lk12
open PySem PySem.Spec PyProof.Rows L2 Pv
noncomputable abbrev b_is_name_cg1 : TV := (gNm 1)
noncomputable abbrev b_is_name_ct1 (cf ci : Str → Fn) : EV Bool := tYesD
noncomputable abbrev b_is_name_ce1 (cf ci : Str → Fn) : EV D := (eBin (isCmp .In) (eVar 1) (eC (.str ("abcdefghijklmnopqrstuvwxyz" : Str))))
noncomputable abbrev b_neighbours_in_fb1 (cf ci : Str → Fn) : SV := (sSeq (sIf (tBl (eBin (isCmp .NotEq) (eVar 3) (eVar 4))) (sSeq (sAsg (gSb (eBin isIx (eVar 1) (eVar 3)) (eVar 4)) (eC (.bl true))) (sSeq (sAsg (gSb (eBin isIx (eVar 1) (eVar 4)) (eVar 3)) (eC (.bl true))) sNext)) sNext) sNext)
noncomputable abbrev b_neighbours_in_cg1 : TV := (gNm 2)
noncomputable abbrev b_neighbours_in_ct1 (cf ci : Str → Fn) : EV Bool := tYesD
noncomputable abbrev b_neighbours_in_ce1 (cf ci : Str → Fn) : EV D := eDict0
noncomputable abbrev b_neighbours_in_cg2 : TV := (gNm 5)
noncomputable abbrev b_neighbours_in_ct2 (cf ci : Str → Fn) : EV Bool := tYesD
noncomputable abbrev b_neighbours_in_ce2 (cf ci : Str → Fn) : EV D := (eCallB (opSortedX false) (aCons (eVar 5) aNil))
noncomputable abbrev b_led_cg1 : TV := (gTp 3 (gsCons (gNm 2) (gsCons (gNm 3) (gsCons (gNm 4) gsNil))))
noncomputable abbrev b_led_ct1 (cf ci : Str → Fn) : EV Bool := tYesD
noncomputable abbrev b_led_ce1 (cf ci : Str → Fn) : EV D := (eTup (aCons (eVar 2) (aCons (eBin isIx (eVar 1) (eVar 3)) (aCons (eBin isIx (eVar 1) (eVar 4)) aNil))))
noncomputable abbrev b_as_one_fb1 (cf ci : Str → Fn) : SV := (sSeq (sSet 6 (eIf (tBl (eBin (isCmp .Eq) (eVar 5) (eVar 2))) (eVar 1) (eVar 5))) (sSeq (sAsg (gSb (eVar 4) (eVar 5)) (eIf (tBl (eBin (isCmp .Gt) (eVar 6) (eVar 2))) (eBin (isBin .Sub) (eVar 6) (eC (.int 1))) (eVar 6))) sNext))
noncomputable abbrev b_as_one_cg1 : TV := (gNm 5)
noncomputable abbrev b_as_one_ct1 (cf ci : Str → Fn) : EV Bool := tYesD
noncomputable abbrev b_as_one_ce1 (cf ci : Str → Fn) : EV D := (eBin isIx (eVar 4) (eVar 5))
noncomputable abbrev b_pinched_tie_cg1 : TV := (gNm 8)
noncomputable abbrev b_pinched_tie_ct1 (cf ci : Str → Fn) : EV Bool := tYesD
noncomputable abbrev b_pinched_tie_ce1 (cf ci : Str → Fn) : EV D := (eIf (tBl (eBin (isCmp .Eq) (eVar 8) (eVar 7))) (eVar 6) (eVar 8))
noncomputable abbrev b_reached_wt1 (cf ci : Str → Fn) : EV Bool := (tBl (eBin (isCmp .NotEq) (eVar 3) (eLst aNil)))
noncomputable abbrev b_reached_wb1 (cf ci : Str → Fn) : SV := (sSeq (sSet 4 (eMeth mtT ("pop" : Str) (eVar 3) aNil)) (sSeq (sSet 5 (eLc false [6] (iVal (eBin isIx (eVar 0) (eVar 4))) (gNm 6) (tBl (eBin (isCmp .NotIn) (eVar 6) (eVar 2))) (eVar 6))) (sSeq (sDrop (eMeth mtT ("update" : Str) (eVar 2) (aCons (eDc [6] (iVal (eVar 5)) (gNm 6) tYesD (eVar 6) (eC (.bl true))) aNil))) (sSeq (sDrop (eMeth mtT ("extend" : Str) (eVar 3) (aCons (eVar 5) aNil))) sNext))))
noncomputable abbrev b_reached_cg1 : TV := (gNm 6)
noncomputable abbrev b_reached_ct1 (cf ci : Str → Fn) : EV Bool := (tBl (eBin (isCmp .NotIn) (eVar 6) (eVar 2)))
noncomputable abbrev b_reached_ce1 (cf ci : Str → Fn) : EV D := (eVar 6)
noncomputable abbrev b_pieces_wt1 (cf ci : Str → Fn) : EV Bool := (tBl (eBin (isCmp .NotEq) (eVar 2) (eLst aNil)))
noncomputable abbrev b_pieces_wb1 (cf ci : Str → Fn) : SV := (sSeq (sSet 4 (eCall ⟨2, [], [0, 1]⟩ (cf ("reached" : Str)) (aCons (eVar 1) (aCons (eBin isIx (eVar 2) (eC (.int 0))) aNil)) aNil)) (sSeq (sSet 5 (eDc [9, 8] (iEnumD (eVar 4)) (gTp 2 (gsCons (gNm 9) (gsCons (gNm 8) gsNil))) tYesD (eVar 8) (eVar 9))) (sSeq (sSet 6 (eLc false [7] (iVal (eFld (flF ("ties" : Str)) ("ties" : Str) (eVar 0))) (gNm 7) (tBl (eBin (isCmp .In) (eBin isIx (eVar 7) (eC (.int 1))) (eVar 5))) (eVar 7))) (sSeq (sDrop (eMeth mtT ("append" : Str) (eVar 3) (aCons (eMake true ("Web" : Str) ⟨3, [], [0, 1, 2, 3]⟩ (ci ("Web" : Str)) (aCons (eCallB opLen (aCons (eVar 4) aNil)) (aCons (eCallB opTuple (aCons (eCall ⟨2, [], [0, 1]⟩ (cf ("led" : Str)) (aCons (eVar 6) (aCons (eVar 5) aNil)) aNil) aNil)) (aCons (eTup aNil) aNil))) aNil) aNil))) (sSeq (sSet 2 (eLc false [8] (iVal (eVar 2)) (gNm 8) (tBl (eBin (isCmp .NotIn) (eVar 8) (eVar 5))) (eVar 8))) sNext)))))
noncomputable abbrev b_pieces_cg1 : TV := (gNm 7)
noncomputable abbrev b_pieces_ct1 (cf ci : Str → Fn) : EV Bool := (tBl (eBin (isCmp .In) (eBin isIx (eVar 7) (eC (.int 1))) (eVar 5)))
noncomputable abbrev b_pieces_ce1 (cf ci : Str → Fn) : EV D := (eVar 7)
noncomputable abbrev b_pieces_cg2 : TV := (gNm 8)
noncomputable abbrev b_pieces_ct2 (cf ci : Str → Fn) : EV Bool := (tBl (eBin (isCmp .NotIn) (eVar 8) (eVar 5)))
noncomputable abbrev b_pieces_ce2 (cf ci : Str → Fn) : EV D := (eVar 8)
noncomputable abbrev b__law_mixed_wt1 (cf ci : Str → Fn) : EV Bool := (tBl (eBin (isCmp .NotEq) (eVar 2) (eLst aNil)))
noncomputable abbrev b__law_mixed_wb1 (cf ci : Str → Fn) : SV := (sSeq (sDrop (eMeth mtT ("append" : Str) (eVar 3) (aCons (eMeth mtT ("pop" : Str) (eVar 2) (aCons (eCall ⟨2, [], [0, 1]⟩ (cf ("_law_take" : Str)) (aCons (eVar 0) (aCons (eCallB opLen (aCons (eVar 2) aNil)) aNil)) aNil) aNil)) aNil))) sNext)
noncomputable abbrev b__law_same_cg1 : TV := (gNm 2)
noncomputable abbrev b__law_same_ct1 (cf ci : Str → Fn) : EV Bool := (tBl (eBin (isCmp .NotEq) (eSl (eVar 0) (pSome (eVar 2)) (pSome (eBin (isBin .Add) (eVar 2) (eC (.int 1))))) (eBin isIx (eVar 1) (eVar 2))))
noncomputable abbrev b__law_same_ce1 (cf ci : Str → Fn) : EV D := (eVar 2)
noncomputable abbrev b__law_same_cg2 : TV := (gNm 3)
noncomputable abbrev b__law_same_ct2 (cf ci : Str → Fn) : EV Bool := (tOrD (tBl (eBin (isCmp .NotIn) (eVar 3) (eVar 0))) (tNotD (tTru (eCall ⟨2, [], [0, 1]⟩ (cf ("_law_same" : Str)) (aCons (eBin isIx (eVar 0) (eVar 3)) (aCons (eBin isIx (eVar 1) (eVar 3)) aNil)) aNil))))
noncomputable abbrev b__law_same_ce2 (cf ci : Str → Fn) : EV D := (eVar 3)
noncomputable abbrev b__law_same_cg3 : TV := (gNm 2)
noncomputable abbrev b__law_same_ct3 (cf ci : Str → Fn) : EV Bool := (tNotD (tTru (eCall ⟨2, [], [0, 1]⟩ (cf ("_law_same" : Str)) (aCons (eBin isIx (eVar 0) (eVar 2)) (aCons (eBin isIx (eVar 1) (eVar 2)) aNil)) aNil)))
noncomputable abbrev b__law_same_ce3 (cf ci : Str → Fn) : EV D := (eVar 2)
noncomputable abbrev b__law_copied_cg1 : TV := (gNm 1)
noncomputable abbrev b__law_copied_ct1 (cf ci : Str → Fn) : EV Bool := tYesD
noncomputable abbrev b__law_copied_ce1 (cf ci : Str → Fn) : EV D := (eCall ⟨1, [], [0]⟩ (cf ("_law_copied" : Str)) (aCons (eVar 1) aNil) aNil)
noncomputable abbrev b__law_copied_cg2 : TV := (gNm 2)
noncomputable abbrev b__law_copied_ct2 (cf ci : Str → Fn) : EV Bool := tYesD
noncomputable abbrev b__law_copied_ce2 (cf ci : Str → Fn) : EV D := (eTup (aCons (eVar 2) (aCons (eCall ⟨1, [], [0]⟩ (cf ("_law_copied" : Str)) (aCons (eBin isIx (eVar 0) (eVar 2)) aNil) aNil) aNil)))
noncomputable abbrev b__law_copied_cg3 : TV := (gNm 1)
noncomputable abbrev b__law_copied_ct3 (cf ci : Str → Fn) : EV Bool := tYesD
noncomputable abbrev b__law_copied_ce3 (cf ci : Str → Fn) : EV D := (eCall ⟨1, [], [0]⟩ (cf ("_law_copied" : Str)) (aCons (eVar 1) aNil) aNil)
noncomputable abbrev b__law_blamed_fb1 (cf ci : Str → Fn) : SV := (sSeq (sIf (tTru (eCallB (opIsi kit) (aCons (eVar 2) (aCons (eC (.ty "list")) aNil)))) (sSeq (sDrop (eMeth mtT ("append" : Str) (eVar 2) (aCons (eC (.str ("more" : Str))) aNil))) sNext) sNext) (sSeq (sIf (tTru (eCallB (opIsi kit) (aCons (eVar 2) (aCons (eC (.ty "dict")) aNil)))) (sSeq (sAsg (gSb (eVar 2) (eC (.str ("more" : Str)))) (eC (.int 7))) sNext) sNext) sNext))
noncomputable abbrev b__law_drawn_web_fb1 (cf ci : Str → Fn) : SV := (sSeq (sSet 8 (eIf (tOrD (tBl (eBin (isCmp .Eq) (eCall ⟨2, [], [0, 1]⟩ (cf ("_law_take" : Str)) (aCons (eVar 0) (aCons (eC (.int 2)) aNil)) aNil) (eC (.int 0)))) (tBl (eBin (isCmp .Eq) (eVar 2) (eVar 4)))) (eSl (eVar 7) pNone (pSome (eVar 2))) (eSl (eVar 7) (pSome (eVar 2)) pNone))) (sSeq (sSet 9 (eTup (aCons (eCall ⟨2, [], [0, 1]⟩ (cf ("_law_pick" : Str)) (aCons (eVar 0) (aCons (eVar 6) aNil)) aNil) (aCons (eCall ⟨2, [], [0, 1]⟩ (cf ("_law_pick" : Str)) (aCons (eVar 0) (aCons (eVar 8) aNil)) aNil) (aCons (eCall ⟨2, [], [0, 1]⟩ (cf ("_law_pick" : Str)) (aCons (eVar 0) (aCons (eVar 8) aNil)) aNil) aNil))))) (sSeq (sDrop (eMeth mtT ("append" : Str) (eVar 5) (aCons (eIf (tAndD (tBl (eBin (isCmp .NotEq) (eVar 5) (eLst aNil))) (tBl (eBin (isCmp .Eq) (eCall ⟨2, [], [0, 1]⟩ (cf ("_law_take" : Str)) (aCons (eVar 0) (aCons (eC (.int 4)) aNil)) aNil) (eC (.int 0))))) (eCall ⟨2, [], [0, 1]⟩ (cf ("_law_pick" : Str)) (aCons (eVar 0) (aCons (eVar 5) aNil)) aNil) (eVar 9)) aNil))) (sSeq (sIf (tBl (eBin (isCmp .Eq) (eCall ⟨2, [], [0, 1]⟩ (cf ("_law_take" : Str)) (aCons (eVar 0) (aCons (eC (.int 5)) aNil)) aNil) (eC (.int 0)))) (sSeq (sDrop (eMeth mtT ("append" : Str) (eVar 5) (aCons (eTup (aCons (eCall ⟨2, [], [0, 1]⟩ (cf ("_law_pick" : Str)) (aCons (eVar 0) (aCons (eVar 6) aNil)) aNil) (aCons (eBin isIx (eVar 9) (eC (.int 2))) (aCons (eBin isIx (eVar 9) (eC (.int 1))) aNil)))) aNil))) sNext) sNext) sNext))))
noncomputable abbrev b__law_put_cg1 : TV := (gNm 5)
noncomputable abbrev b__law_put_ct1 (cf ci : Str → Fn) : EV Bool := tYesD
noncomputable abbrev b__law_put_ce1 (cf ci : Str → Fn) : EV D := (eIf (tBl (eBin (isCmp .Eq) (eVar 5) (eVar 1))) (eVar 2) (eVar 5))
noncomputable abbrev b__law_put_cg2 : TV := (gNm 5)
noncomputable abbrev b__law_put_ct2 (cf ci : Str → Fn) : EV Bool := tYesD
noncomputable abbrev b__law_put_ce2 (cf ci : Str → Fn) : EV D := (eIf (tBl (eBin (isCmp .Gt) (eVar 5) (eVar 1))) (eBin (isBin .Sub) (eVar 5) (eC (.int 1))) (eVar 5))
noncomputable abbrev b__law_put_cg3 : TV := (gTp 3 (gsCons (gNm 7) (gsCons (gNm 8) (gsCons (gNm 9) gsNil))))
noncomputable abbrev b__law_put_ct3 (cf ci : Str → Fn) : EV Bool := tYesD
noncomputable abbrev b__law_put_ce3 (cf ci : Str → Fn) : EV D := (eTup (aCons (eVar 7) (aCons (eBin isIx (eVar 4) (eVar 8)) (aCons (eBin isIx (eVar 4) (eVar 9)) aNil))))
noncomputable abbrev b__law_put_cg4 : TV := (gNm 6)
noncomputable abbrev b__law_put_ct4 (cf ci : Str → Fn) : EV Bool := tYesD
noncomputable abbrev b__law_put_ce4 (cf ci : Str → Fn) : EV D := (eBin isIx (eVar 4) (eVar 6))
noncomputable abbrev b__law_marks_right_fb1 (cf ci : Str → Fn) : SV := (sSeq (sFor (iRng itRng1 (aCons (eVar 5) aNil)) (gNm 6) (sSeq (sSet 7 (eCall ⟨3, [], [0, 1, 2]⟩ (cf ("_law_asked" : Str)) (aCons (eC (.int 0)) (aCons (eLst (aCons (eVar 4) (aCons (eVar 3) (aCons (eVar 6) aNil)))) (aCons (eVar 2) aNil))) aNil)) (sSeq (sIf (tAndD (tBl (eBin (isCmp .Eq) (eVar 3) (eVar 6))) (tNotD (tTru (eCall ⟨2, [], [0, 1]⟩ (cf ("_law_same" : Str)) (aCons (eVar 7) (aCons (eLst (aCons (eC (.str ("mark" : Str))) (aCons (eVar 6) aNil))) aNil)) aNil)))) (sSeq (sRet (eC (.bl false))) sNext) sNext) (sSeq (sIf (tAndD (tBl (eBin (isCmp .NotEq) (eVar 3) (eVar 6))) (tOrD (tBl (eBin (isCmp .NotEq) (eBin isIx (eVar 7) (eC (.int 0))) (eC (.str ("told" : Str))))) (tNotD (tTru (eCall ⟨2, [], [0, 1]⟩ (cf ("_law_is_web" : Str)) (aCons (eBin isIx (eVar 7) (eC (.int 1))) (aCons (eCall ⟨3, [], [0, 1, 2]⟩ (cf ("_law_pinched" : Str)) (aCons (eVar 1) (aCons (eVar 3) (aCons (eVar 6) aNil))) aNil) aNil)) aNil))))) (sSeq (sRet (eC (.bl false))) sNext) sNext) (sSeq (sSet 2 (eNot (eVar 2))) sNext))))) sNext)
noncomputable abbrev b__law_marks_right_fb2 (cf ci : Str → Fn) : SV := (sSeq (sSet 7 (eCall ⟨3, [], [0, 1, 2]⟩ (cf ("_law_asked" : Str)) (aCons (eC (.int 0)) (aCons (eLst (aCons (eVar 4) (aCons (eVar 3) (aCons (eVar 6) aNil)))) (aCons (eVar 2) aNil))) aNil)) (sSeq (sIf (tAndD (tBl (eBin (isCmp .Eq) (eVar 3) (eVar 6))) (tNotD (tTru (eCall ⟨2, [], [0, 1]⟩ (cf ("_law_same" : Str)) (aCons (eVar 7) (aCons (eLst (aCons (eC (.str ("mark" : Str))) (aCons (eVar 6) aNil))) aNil)) aNil)))) (sSeq (sRet (eC (.bl false))) sNext) sNext) (sSeq (sIf (tAndD (tBl (eBin (isCmp .NotEq) (eVar 3) (eVar 6))) (tOrD (tBl (eBin (isCmp .NotEq) (eBin isIx (eVar 7) (eC (.int 0))) (eC (.str ("told" : Str))))) (tNotD (tTru (eCall ⟨2, [], [0, 1]⟩ (cf ("_law_is_web" : Str)) (aCons (eBin isIx (eVar 7) (eC (.int 1))) (aCons (eCall ⟨3, [], [0, 1, 2]⟩ (cf ("_law_pinched" : Str)) (aCons (eVar 1) (aCons (eVar 3) (aCons (eVar 6) aNil))) aNil) aNil)) aNil))))) (sSeq (sRet (eC (.bl false))) sNext) sNext) (sSeq (sSet 2 (eNot (eVar 2))) sNext))))
noncomputable abbrev b__law_ties_right_fb1 (cf ci : Str → Fn) : SV := (sSeq (sSet 6 (eTup (aCons (eBin isIx (eVar 1) (eC (.int 0))) (aCons (eCallB opTuple (aCons (eBin (isBin .Add) (eSl (eVar 5) pNone (pSome (eVar 3))) (eSl (eVar 5) (pSome (eBin (isBin .Add) (eVar 3) (eC (.int 1)))) pNone)) aNil)) (aCons (eBin isIx (eVar 1) (eC (.int 2))) aNil))))) (sSeq (sPar2 7 8 (aCons (eCall ⟨3, [], [0, 1, 2]⟩ (cf ("_law_asked" : Str)) (aCons (eC (.int 1)) (aCons (eLst (aCons (eVar 4) (aCons (eVar 3) aNil))) (aCons (eVar 2) aNil))) aNil) (aCons (eCall ⟨2, [], [0, 1]⟩ (cf ("_law_pinched_tie" : Str)) (aCons (eVar 1) (aCons (eVar 3) aNil)) aNil) aNil))) (sSeq (sIf (tOrD (tBl (eBin (isCmp .NotEq) (eBin isIx (eVar 7) (eC (.int 0))) (eC (.str ("told" : Str))))) (tNotD (tTru (eCall ⟨2, [], [0, 1]⟩ (cf ("_law_is_web" : Str)) (aCons (eBin isIx (eVar 7) (eC (.int 1))) (aCons (eVar 6) aNil)) aNil)))) (sSeq (sRet (eC (.bl false))) sNext) sNext) (sSeq (sSet 7 (eCall ⟨3, [], [0, 1, 2]⟩ (cf ("_law_asked" : Str)) (aCons (eC (.int 2)) (aCons (eLst (aCons (eVar 4) (aCons (eVar 3) aNil))) (aCons (eNot (eVar 2)) aNil))) aNil)) (sSeq (sIf (tOrD (tAndD (tBl (eBin (isCmp .Is) (eVar 8) (eC .non))) (tNotD (tTru (eCall ⟨2, [], [0, 1]⟩ (cf ("_law_same" : Str)) (aCons (eVar 7) (aCons (eLst (aCons (eC (.str ("tie" : Str))) (aCons (eVar 3) aNil))) aNil)) aNil)))) (tAndD (tBl (eBin (isCmp .IsNot) (eVar 8) (eC .non))) (tOrD (tBl (eBin (isCmp .NotEq) (eBin isIx (eVar 7) (eC (.int 0))) (eC (.str ("told" : Str))))) (tNotD (tTru (eCall ⟨2, [], [0, 1]⟩ (cf ("_law_is_web" : Str)) (aCons (eBin isIx (eVar 7) (eC (.int 1))) (aCons (eVar 8) aNil)) aNil)))))) (sSeq (sRet (eC (.bl false))) sNext) sNext) (sSeq (sIf (tAndD (tBl (eBin (isCmp .IsNot) (eVar 8) (eC .non))) (tBl (eBin (isCmp .Gt) (eCallB opLen (aCons (eVar 5) aNil)) (eC (.int 1))))) (sSeq (sSet 9 (eCall ⟨2, [], [0, 1]⟩ (cf ("_law_take" : Str)) (aCons (eVar 0) (aCons (eBin (isBin .Sub) (eCallB opLen (aCons (eVar 5) aNil)) (eC (.int 1))) aNil)) aNil)) (sSeq (sPar2 10 11 (aCons (eCall ⟨3, [], [0, 1, 2]⟩ (cf ("_law_asked" : Str)) (aCons (eC (.int 2)) (aCons (eLst (aCons (eBin isIx (eVar 7) (eC (.int 1))) (aCons (eVar 9) aNil))) (aCons (eVar 2) aNil))) aNil) (aCons (eCall ⟨2, [], [0, 1]⟩ (cf ("_law_pinched_tie" : Str)) (aCons (eVar 8) (aCons (eVar 9) aNil)) aNil) aNil))) (sSeq (sIf (tOrD (tAndD (tBl (eBin (isCmp .Is) (eVar 11) (eC .non))) (tNotD (tTru (eCall ⟨2, [], [0, 1]⟩ (cf ("_law_same" : Str)) (aCons (eVar 10) (aCons (eLst (aCons (eC (.str ("tie" : Str))) (aCons (eVar 9) aNil))) aNil)) aNil)))) (tAndD (tBl (eBin (isCmp .IsNot) (eVar 11) (eC .non))) (tOrD (tBl (eBin (isCmp .NotEq) (eBin isIx (eVar 10) (eC (.int 0))) (eC (.str ("told" : Str))))) (tNotD (tTru (eCall ⟨2, [], [0, 1]⟩ (cf ("_law_is_web" : Str)) (aCons (eBin isIx (eVar 10) (eC (.int 1))) (aCons (eVar 11) aNil)) aNil)))))) (sSeq (sRet (eC (.bl false))) sNext) sNext) sNext))) sNext) (sSeq (sSet 2 (eNot (eVar 2))) sNext)))))))
noncomputable abbrev b__law_pieces_fb1 (cf ci : Str → Fn) : SV := (sSeq (sAsg (gTp 2 (gsCons (gNm 8) (gsCons (gNm 9) gsNil))) (eTup (aCons (eCallB opMin (aCons (eBin isIx (eVar 1) (eVar 5)) (aCons (eBin isIx (eVar 1) (eVar 6)) aNil))) (aCons (eCallB opMax (aCons (eBin isIx (eVar 1) (eVar 5)) (aCons (eBin isIx (eVar 1) (eVar 6)) aNil))) aNil)))) (sSeq (sSet 1 (eLc false [3] (iVal (eVar 1)) (gNm 3) tYesD (eIf (tBl (eBin (isCmp .Eq) (eVar 3) (eVar 9))) (eVar 8) (eVar 3)))) sNext))
noncomputable abbrev b__law_pieces_fb2 (cf ci : Str → Fn) : SV := (sSeq (sSet 7 (eLc false [10] (iRng itRng1 (aCons (eBin isIx (eVar 0) (eC (.int 0))) aNil)) (gNm 10) (tBl (eBin (isCmp .Eq) (eBin isIx (eVar 1) (eVar 10)) (eVar 3))) (eVar 10))) (sSeq (sDrop (eMeth mtT ("append" : Str) (eVar 2) (aCons (eTup (aCons (eCallB opLen (aCons (eVar 7) aNil)) (aCons (eCallB opTuple (aCons (eLc false [4, 5, 6] (iVal (eBin isIx (eVar 0) (eC (.int 1)))) (gTp 3 (gsCons (gNm 4) (gsCons (gNm 5) (gsCons (gNm 6) gsNil)))) (tBl (eBin (isCmp .In) (eVar 5) (eVar 7))) (eTup (aCons (eVar 4) (aCons (eMeth mtT ("index" : Str) (eVar 7) (aCons (eVar 5) aNil)) (aCons (eMeth mtT ("index" : Str) (eVar 7) (aCons (eVar 6) aNil)) aNil))))) aNil)) (aCons (eTup aNil) aNil)))) aNil))) sNext))
noncomputable abbrev b__law_pieces_cg1 : TV := (gNm 3)
noncomputable abbrev b__law_pieces_ct1 (cf ci : Str → Fn) : EV Bool := tYesD
noncomputable abbrev b__law_pieces_ce1 (cf ci : Str → Fn) : EV D := (eIf (tBl (eBin (isCmp .Eq) (eVar 3) (eVar 9))) (eVar 8) (eVar 3))
noncomputable abbrev b__law_pieces_cg2 : TV := (gNm 8)
noncomputable abbrev b__law_pieces_ct2 (cf ci : Str → Fn) : EV Bool := tYesD
noncomputable abbrev b__law_pieces_ce2 (cf ci : Str → Fn) : EV D := (eTup (aCons (eVar 8) (aCons (eC (.int 1)) aNil)))
noncomputable abbrev b__law_pieces_cg3 : TV := (gNm 10)
noncomputable abbrev b__law_pieces_ct3 (cf ci : Str → Fn) : EV Bool := (tBl (eBin (isCmp .Eq) (eBin isIx (eVar 1) (eVar 10)) (eVar 3)))
noncomputable abbrev b__law_pieces_ce3 (cf ci : Str → Fn) : EV D := (eVar 10)
noncomputable abbrev b__law_pieces_cg4 : TV := (gTp 3 (gsCons (gNm 4) (gsCons (gNm 5) (gsCons (gNm 6) gsNil))))
noncomputable abbrev b__law_pieces_ct4 (cf ci : Str → Fn) : EV Bool := (tBl (eBin (isCmp .In) (eVar 5) (eVar 7)))
noncomputable abbrev b__law_pieces_ce4 (cf ci : Str → Fn) : EV D := (eTup (aCons (eVar 4) (aCons (eMeth mtT ("index" : Str) (eVar 7) (aCons (eVar 5) aNil)) (aCons (eMeth mtT ("index" : Str) (eVar 7) (aCons (eVar 6) aNil)) aNil))))
noncomputable abbrev b__law_pieces_right_fb1 (cf ci : Str → Fn) : SV := (sSeq (sSet 6 (eCall ⟨3, [], [0, 1, 2]⟩ (cf ("_law_asked" : Str)) (aCons (eC (.int 3)) (aCons (eLst (aCons (eVar 7) aNil)) (aCons (eVar 2) aNil))) aNil)) (sSeq (sIf (tOrD (tBl (eBin (isCmp .NotEq) (eBin isIx (eVar 6) (eC (.int 0))) (eC (.str ("told" : Str))))) (tOrD (tNotD (tTru (eCallB (opIsi kit) (aCons (eBin isIx (eVar 6) (eC (.int 1))) (aCons (eC (.ty "list")) aNil))))) (tBl (eBin (isCmp .NotEq) (eCallB opLen (aCons (eBin isIx (eVar 6) (eC (.int 1))) aNil)) (eCallB opLen (aCons (eVar 8) aNil)))))) (sSeq (sRet (eC (.bl false))) sNext) sNext) (sSeq (sIf (tBl (eBin (isCmp .NotEq) (eLc false [9] (iRng itRng1 (aCons (eCallB opLen (aCons (eVar 8) aNil)) aNil)) (gNm 9) (tNotD (tTru (eCall ⟨2, [], [0, 1]⟩ (cf ("_law_is_web" : Str)) (aCons (eBin isIx (eBin isIx (eVar 6) (eC (.int 1))) (eVar 9)) (aCons (eBin isIx (eVar 8) (eVar 9)) aNil)) aNil))) (eVar 9)) (eLst aNil))) (sSeq (sRet (eC (.bl false))) sNext) sNext) (sSeq (sDrop (eMeth mtT ("reverse" : Str) (eBin isIx (eVar 6) (eC (.int 1))) aNil)) (sSeq (sSet 2 (eNot (eVar 2))) sNext)))))
noncomputable abbrev b__law_pieces_right_cg1 : TV := (gNm 9)
noncomputable abbrev b__law_pieces_right_ct1 (cf ci : Str → Fn) : EV Bool := (tNotD (tTru (eCall ⟨2, [], [0, 1]⟩ (cf ("_law_is_web" : Str)) (aCons (eBin isIx (eBin isIx (eVar 6) (eC (.int 1))) (eVar 9)) (aCons (eBin isIx (eVar 8) (eVar 9)) aNil)) aNil)))
noncomputable abbrev b__law_pieces_right_ce1 (cf ci : Str → Fn) : EV D := (eVar 9)
noncomputable abbrev b__law_refused_right_fb1 (cf ci : Str → Fn) : SV := (sSeq (sSet 5 (eCall ⟨1, [], [0]⟩ (cf ("_law_copied" : Str)) (aCons (eCall ⟨2, [], [0, 1]⟩ (cf ("_law_pick" : Str)) (aCons (eVar 0) (aCons (eLst (aCons (eC .non) (aCons (eC (.int 5)) (aCons (eLst aNil) (aCons eDict0 (aCons (eC (.str ("web" : Str))) (aCons (eVar 1) (aCons (eC (.bl true)) aNil)))))))) aNil)) aNil) aNil) aNil)) (sSeq (sSet 6 (eCall ⟨3, [], [0, 1, 2]⟩ (cf ("_law_asked" : Str)) (aCons (eVar 3) (aCons (eLst (aCons (eVar 5) (aCons (eC .non) (aCons (eC .non) aNil)))) (aCons (eVar 2) aNil))) aNil)) (sSeq (sIf (tOrD (tBl (eBin (isCmp .NotEq) (eBin isIx (eVar 6) (eC (.int 0))) (eC (.str ("web" : Str))))) (tNotD (tTru (eCall ⟨2, [], [0, 1]⟩ (cf ("_law_blamed" : Str)) (aCons (eBin isIx (eVar 6) (eC (.int 1))) (aCons (eVar 5) aNil)) aNil)))) (sSeq (sRet (eC (.bl false))) sNext) sNext) sNext)))
noncomputable abbrev b__law_refused_right_fb2 (cf ci : Str → Fn) : SV := (sSeq (sSet 5 (eCall ⟨1, [], [0]⟩ (cf ("_law_copied" : Str)) (aCons (eCall ⟨2, [], [0, 1]⟩ (cf ("_law_pick" : Str)) (aCons (eVar 0) (aCons (eLst (aCons (eC .non) (aCons (eUn (isUn .USub) (eC (.int 1))) (aCons (eCallB opLen (aCons (eBin isIx (eVar 1) (eC (.int 1))) aNil)) (aCons (eC (.bl true)) (aCons (eC (.str ("0" : Str))) (aCons (eLst (aCons (eC (.int 0)) aNil)) (aCons eDict0 (aCons (eTup (aCons (eC (.str ("a" : Str))) (aCons (eC (.int 0)) (aCons (eC (.int 1)) aNil)))) aNil))))))))) aNil)) aNil) aNil) aNil)) (sSeq (sSet 6 (eCall ⟨3, [], [0, 1, 2]⟩ (cf ("_law_asked" : Str)) (aCons (eVar 3) (aCons (eLst (aCons (eVar 7) (aCons (eVar 5) aNil))) (aCons (eVar 2) aNil))) aNil)) (sSeq (sIf (tOrD (tBl (eBin (isCmp .NotEq) (eBin isIx (eVar 6) (eC (.int 0))) (eC (.str ("tie" : Str))))) (tNotD (tTru (eCall ⟨2, [], [0, 1]⟩ (cf ("_law_blamed" : Str)) (aCons (eBin isIx (eVar 6) (eC (.int 1))) (aCons (eVar 5) aNil)) aNil)))) (sSeq (sRet (eC (.bl false))) sNext) sNext) (sSeq (sSet 2 (eNot (eVar 2))) sNext))))
noncomputable abbrev b_law_fb1 (cf ci : Str → Fn) : SV := (sSeq (sSet 2 (eCall ⟨1, [], [0]⟩ (cf ("_law_box" : Str)) (aCons (eCall ⟨2, [], [0, 1]⟩ (cf ("_law_cell" : Str)) (aCons (eVar 0) (aCons (eVar 1) aNil)) aNil) aNil) aNil)) (sSeq (sSet 3 (eBin (isCmp .Eq) (eCall ⟨2, [], [0, 1]⟩ (cf ("_law_take" : Str)) (aCons (eVar 2) (aCons (eC (.int 2)) aNil)) aNil) (eC (.int 0)))) (sSeq (sFor (iRng itRng1 (aCons (eC (.int 4)) aNil)) (gNm 4) (sSeq (sSet 5 (eCall ⟨2, [], [0, 1]⟩ (cf ("_law_drawn_web" : Str)) (aCons (eVar 2) (aCons (eCall ⟨2, [], [0, 1]⟩ (cf ("_law_pick" : Str)) (aCons (eVar 2) (aCons (eLst (aCons (eC (.int 0)) (aCons (eC (.int 1)) (aCons (eC (.int 2)) (aCons (eC (.int 3)) (aCons (eC (.int 4)) aNil)))))) aNil)) aNil) aNil)) aNil)) (sSeq (sIf (tOrD (tNotD (tTru (eCall ⟨3, [], [0, 1, 2]⟩ (cf ("_law_marks_right" : Str)) (aCons (eVar 2) (aCons (eVar 5) (aCons (eVar 3) aNil))) aNil))) (tNotD (tTru (eCall ⟨3, [], [0, 1, 2]⟩ (cf ("_law_ties_right" : Str)) (aCons (eVar 2) (aCons (eVar 5) (aCons (eNot (eVar 3)) aNil))) aNil)))) (sSeq (sRet (eC (.bl false))) sNext) sNext) (sSeq (sIf (tOrD (tNotD (tTru (eCall ⟨3, [], [0, 1, 2]⟩ (cf ("_law_pieces_right" : Str)) (aCons (eVar 2) (aCons (eVar 5) (aCons (eVar 3) aNil))) aNil))) (tNotD (tTru (eCall ⟨3, [], [0, 1, 2]⟩ (cf ("_law_refused_right" : Str)) (aCons (eVar 2) (aCons (eVar 5) (aCons (eNot (eVar 3)) aNil))) aNil)))) (sSeq (sRet (eC (.bl false))) sNext) sNext) (sSeq (sSet 3 (eNot (eVar 3))) sNext))))) sNext)))
noncomputable abbrev b_law_fb2 (cf ci : Str → Fn) : SV := (sSeq (sSet 5 (eCall ⟨2, [], [0, 1]⟩ (cf ("_law_drawn_web" : Str)) (aCons (eVar 2) (aCons (eCall ⟨2, [], [0, 1]⟩ (cf ("_law_pick" : Str)) (aCons (eVar 2) (aCons (eLst (aCons (eC (.int 0)) (aCons (eC (.int 1)) (aCons (eC (.int 2)) (aCons (eC (.int 3)) (aCons (eC (.int 4)) aNil)))))) aNil)) aNil) aNil)) aNil)) (sSeq (sIf (tOrD (tNotD (tTru (eCall ⟨3, [], [0, 1, 2]⟩ (cf ("_law_marks_right" : Str)) (aCons (eVar 2) (aCons (eVar 5) (aCons (eVar 3) aNil))) aNil))) (tNotD (tTru (eCall ⟨3, [], [0, 1, 2]⟩ (cf ("_law_ties_right" : Str)) (aCons (eVar 2) (aCons (eVar 5) (aCons (eNot (eVar 3)) aNil))) aNil)))) (sSeq (sRet (eC (.bl false))) sNext) sNext) (sSeq (sIf (tOrD (tNotD (tTru (eCall ⟨3, [], [0, 1, 2]⟩ (cf ("_law_pieces_right" : Str)) (aCons (eVar 2) (aCons (eVar 5) (aCons (eVar 3) aNil))) aNil))) (tNotD (tTru (eCall ⟨3, [], [0, 1, 2]⟩ (cf ("_law_refused_right" : Str)) (aCons (eVar 2) (aCons (eVar 5) (aCons (eNot (eVar 3)) aNil))) aNil)))) (sSeq (sRet (eC (.bl false))) sNext) sNext) (sSeq (sSet 3 (eNot (eVar 3))) sNext))))
noncomputable abbrev bi_Web_cg1 : TV := (gNm 4)
noncomputable abbrev bi_Web_ct1 (cf ci : Str → Fn) : EV Bool := tYesD
noncomputable abbrev bi_Web_ce1 (cf ci : Str → Fn) : EV D := (eCall ⟨2, [], [0, 1]⟩ (cf ("is_tie" : Str)) (aCons (eVar 1) (aCons (eVar 4) aNil)) aNil)
noncomputable abbrev bi_Web_cg2 : TV := (gNm 5)
noncomputable abbrev bi_Web_ct2 (cf ci : Str → Fn) : EV Bool := tYesD
noncomputable abbrev bi_Web_ce2 (cf ci : Str → Fn) : EV D := (eCall ⟨2, [], [0, 1]⟩ (cf ("is_place" : Str)) (aCons (eVar 1) (aCons (eVar 5) aNil)) aNil)
end Lk12

set_option Elab.async false
set_option linter.all false
set_option maxRecDepth 100000
set_option maxHeartbeats 1000000
namespace Lk12p
open PySem PySem.Spec PyProof.Rows L2 Pv
open Lk12 hiding R P kit names run ob
@[simp] theorem kt_NoneType_bool : Lk12.kit (.inl "NoneType") (.inl "bool") = some false := nr (by kernel_rfl)
@[simp] theorem kt_NoneType_int : Lk12.kit (.inl "NoneType") (.inl "int") = some false := nr (by kernel_rfl)
@[simp] theorem kt_NoneType_str : Lk12.kit (.inl "NoneType") (.inl "str") = some false := nr (by kernel_rfl)
@[simp] theorem kt_NoneType_tuple : Lk12.kit (.inl "NoneType") (.inl "tuple") = some false := nr (by kernel_rfl)
@[simp] theorem kt_NoneType_list : Lk12.kit (.inl "NoneType") (.inl "list") = some false := nr (by kernel_rfl)
@[simp] theorem kt_NoneType_dict : Lk12.kit (.inl "NoneType") (.inl "dict") = some false := nr (by kernel_rfl)
@[simp] theorem kt_NoneType_Web : Lk12.kit (.inl "NoneType") (.inr ("Web" : Str)) = some false := nr (by kernel_rfl)
@[simp] theorem kt_bool_bool : Lk12.kit (.inl "bool") (.inl "bool") = some true := nr (by kernel_rfl)
@[simp] theorem kt_bool_int : Lk12.kit (.inl "bool") (.inl "int") = some true := nr (by kernel_rfl)
@[simp] theorem kt_bool_str : Lk12.kit (.inl "bool") (.inl "str") = some false := nr (by kernel_rfl)
@[simp] theorem kt_bool_tuple : Lk12.kit (.inl "bool") (.inl "tuple") = some false := nr (by kernel_rfl)
@[simp] theorem kt_bool_list : Lk12.kit (.inl "bool") (.inl "list") = some false := nr (by kernel_rfl)
@[simp] theorem kt_bool_dict : Lk12.kit (.inl "bool") (.inl "dict") = some false := nr (by kernel_rfl)
@[simp] theorem kt_bool_Web : Lk12.kit (.inl "bool") (.inr ("Web" : Str)) = some false := nr (by kernel_rfl)
@[simp] theorem kt_int_bool : Lk12.kit (.inl "int") (.inl "bool") = some false := nr (by kernel_rfl)
@[simp] theorem kt_int_int : Lk12.kit (.inl "int") (.inl "int") = some true := nr (by kernel_rfl)
@[simp] theorem kt_int_str : Lk12.kit (.inl "int") (.inl "str") = some false := nr (by kernel_rfl)
@[simp] theorem kt_int_tuple : Lk12.kit (.inl "int") (.inl "tuple") = some false := nr (by kernel_rfl)
@[simp] theorem kt_int_list : Lk12.kit (.inl "int") (.inl "list") = some false := nr (by kernel_rfl)
@[simp] theorem kt_int_dict : Lk12.kit (.inl "int") (.inl "dict") = some false := nr (by kernel_rfl)
@[simp] theorem kt_int_Web : Lk12.kit (.inl "int") (.inr ("Web" : Str)) = some false := nr (by kernel_rfl)
@[simp] theorem kt_str_bool : Lk12.kit (.inl "str") (.inl "bool") = some false := nr (by kernel_rfl)
@[simp] theorem kt_str_int : Lk12.kit (.inl "str") (.inl "int") = some false := nr (by kernel_rfl)
@[simp] theorem kt_str_str : Lk12.kit (.inl "str") (.inl "str") = some true := nr (by kernel_rfl)
@[simp] theorem kt_str_tuple : Lk12.kit (.inl "str") (.inl "tuple") = some false := nr (by kernel_rfl)
@[simp] theorem kt_str_list : Lk12.kit (.inl "str") (.inl "list") = some false := nr (by kernel_rfl)
@[simp] theorem kt_str_dict : Lk12.kit (.inl "str") (.inl "dict") = some false := nr (by kernel_rfl)
@[simp] theorem kt_str_Web : Lk12.kit (.inl "str") (.inr ("Web" : Str)) = some false := nr (by kernel_rfl)
@[simp] theorem kt_tuple_bool : Lk12.kit (.inl "tuple") (.inl "bool") = some false := nr (by kernel_rfl)
@[simp] theorem kt_tuple_int : Lk12.kit (.inl "tuple") (.inl "int") = some false := nr (by kernel_rfl)
@[simp] theorem kt_tuple_str : Lk12.kit (.inl "tuple") (.inl "str") = some false := nr (by kernel_rfl)
@[simp] theorem kt_tuple_tuple : Lk12.kit (.inl "tuple") (.inl "tuple") = some true := nr (by kernel_rfl)
@[simp] theorem kt_tuple_list : Lk12.kit (.inl "tuple") (.inl "list") = some false := nr (by kernel_rfl)
@[simp] theorem kt_tuple_dict : Lk12.kit (.inl "tuple") (.inl "dict") = some false := nr (by kernel_rfl)
@[simp] theorem kt_tuple_Web : Lk12.kit (.inl "tuple") (.inr ("Web" : Str)) = some false := nr (by kernel_rfl)
@[simp] theorem kt_list_bool : Lk12.kit (.inl "list") (.inl "bool") = some false := nr (by kernel_rfl)
@[simp] theorem kt_list_int : Lk12.kit (.inl "list") (.inl "int") = some false := nr (by kernel_rfl)
@[simp] theorem kt_list_str : Lk12.kit (.inl "list") (.inl "str") = some false := nr (by kernel_rfl)
@[simp] theorem kt_list_tuple : Lk12.kit (.inl "list") (.inl "tuple") = some false := nr (by kernel_rfl)
@[simp] theorem kt_list_list : Lk12.kit (.inl "list") (.inl "list") = some true := nr (by kernel_rfl)
@[simp] theorem kt_list_dict : Lk12.kit (.inl "list") (.inl "dict") = some false := nr (by kernel_rfl)
@[simp] theorem kt_list_Web : Lk12.kit (.inl "list") (.inr ("Web" : Str)) = some false := nr (by kernel_rfl)
@[simp] theorem kt_dict_bool : Lk12.kit (.inl "dict") (.inl "bool") = some false := nr (by kernel_rfl)
@[simp] theorem kt_dict_int : Lk12.kit (.inl "dict") (.inl "int") = some false := nr (by kernel_rfl)
@[simp] theorem kt_dict_str : Lk12.kit (.inl "dict") (.inl "str") = some false := nr (by kernel_rfl)
@[simp] theorem kt_dict_tuple : Lk12.kit (.inl "dict") (.inl "tuple") = some false := nr (by kernel_rfl)
@[simp] theorem kt_dict_list : Lk12.kit (.inl "dict") (.inl "list") = some false := nr (by kernel_rfl)
@[simp] theorem kt_dict_dict : Lk12.kit (.inl "dict") (.inl "dict") = some true := nr (by kernel_rfl)
@[simp] theorem kt_dict_Web : Lk12.kit (.inl "dict") (.inr ("Web" : Str)) = some false := nr (by kernel_rfl)
@[simp] theorem kt_Web_bool : Lk12.kit (.inr ("Web" : Str)) (.inl "bool") = some false := nr (by kernel_rfl)
@[simp] theorem kt_Web_int : Lk12.kit (.inr ("Web" : Str)) (.inl "int") = some false := nr (by kernel_rfl)
@[simp] theorem kt_Web_str : Lk12.kit (.inr ("Web" : Str)) (.inl "str") = some false := nr (by kernel_rfl)
@[simp] theorem kt_Web_tuple : Lk12.kit (.inr ("Web" : Str)) (.inl "tuple") = some false := nr (by kernel_rfl)
@[simp] theorem kt_Web_list : Lk12.kit (.inr ("Web" : Str)) (.inl "list") = some false := nr (by kernel_rfl)
@[simp] theorem kt_Web_dict : Lk12.kit (.inr ("Web" : Str)) (.inl "dict") = some false := nr (by kernel_rfl)
@[simp] theorem kt_Web_Web : Lk12.kit (.inr ("Web" : Str)) (.inr ("Web" : Str)) = some true := nr (by kernel_rfl)
end Lk12p

set_option Elab.async false
set_option linter.all false
set_option maxRecDepth 10000
set_option maxHeartbeats 1000000
namespace Lk12p
open PySem PySem.Spec PyProof.Rows L2 Pv
open Lk12 hiding R P kit names run ob
theorem same_non {n : Nat} {s : DS} : lw.cf (n + 1) "_law_same" [.non, .non] s = .ok (.bl true) s := by
  rw [Law.cf_s, body__law_same, ps__law_same, N__law_same]
  simp [b__law_same]
theorem same_bl {n : Nat} {b : Bool} {s : DS} : lw.cf (n + 1) "_law_same" [.bl b, .bl b] s = .ok (.bl true) s := by
  rw [Law.cf_s, body__law_same, ps__law_same, N__law_same]
  simp [b__law_same]
theorem same_int {n : Nat} {b : Int} {s : DS} : lw.cf (n + 1) "_law_same" [.int b, .int b] s = .ok (.bl true) s := by
  rw [Law.cf_s, body__law_same, ps__law_same, N__law_same]
  simp [b__law_same]
theorem same_str {n : Nat} {b : Str} {s : DS} (h : b.length ≤ 1000) : lw.cf (n + 1) "_law_same" [.str b, .str b] s = .ok (.bl true) s := by
  rw [Law.cf_s, body__law_same, ps__law_same, N__law_same]
  have hz : b.length ≤ sizeLine := le_size (by omega)
  have hr := rng_n (n := b.length) (by omega)
  simp [b__law_same, hz, hr]
  rw [lcL_none okL_nil]
  · simp
  · intro d hd
    obtain ⟨k, hk, rfl⟩ := mem_rngL hd
    have e1 := ix_str (z := b) (s := s) hk hz
    have e2 := cutS_one (z := b) hk
    simp [slO, hz, e1, e2]
theorem same_seq {n : Nat} {a b : D} {xs ys : List D} {s : DS} {ta : String} (h1 : tyO a s = some (.inl ta)) (h2 : tyO b s = some (.inl ta)) (ht : ta = "tuple" ∨ ta = "list") (l1 : opLen [a] s = some (.int xs.length, s)) (l2 : opLen [b] s = some (.int ys.length, s)) (hn : isNonD b = false)
    (hl : xs.length = ys.length) (hy : ys.length ≤ 100000) (hx : ∀ k (h : k < xs.length) (h' : k < ys.length), ixO a (.int k) s = some xs[k] ∧ ixO b (.int k) s = some ys[k] ∧ lw.cf n "_law_same" [xs[k], ys[k]] s = .ok (.bl true) s) : lw.cf (n + 1) "_law_same" [a, b] s = .ok (.bl true) s := by
  rw [Law.cf_s, body__law_same, ps__law_same, N__law_same]
  have hz : ys.length ≤ sizeLine := le_size (by omega)
  have hr := rng_n (n := ys.length) (by omega)
  have key : lcL [] (gNm 2) (tNotD (tTru (eCall ⟨2, [], [0, 1]⟩ (lw.cf n "_law_same") (aCons (eBin isIx (eVar 0) (eVar 2)) (aCons (eBin isIx (eVar 1) (eVar 2)) aNil)) aNil))) (eVar 2) [some a, some b, none, none] (rngL 0 ys.length) s = .ok [] s := by
    refine lcL_none okL_nil fun d hd => ?_
    obtain ⟨k, hk, rfl⟩ := mem_rngL hd
    obtain ⟨e1, e2, e3⟩ := hx k (by omega) hk
    simp [e1, e2, e3]
  rcases ht with rfl | rfl
  · simp [b__law_same, h1, h2, l1, l2, hn, hl, hz, hr, key]
  · simp [b__law_same, h1, h2, l1, l2, hn, hl, hz, hr, key]
theorem same_dct {m n : Nat} {ks : List Key} {vs : List Int} {s : DS} (h : s[m]? = some (.dct ks (vs.map .int))) (hl : ks.length = vs.length) (hb : ks.length ≤ 1000) : lw.cf (n + 2) "_law_same" [.ref m, .ref m] s = .ok (.bl true) s := by
  rw [Law.cf_s, body__law_same, ps__law_same, N__law_same]
  have hlt : m < s.length := lt_of_get h
  have e1 : tyO (.ref m) s = some (.inl "dict") := by simp [tyO, h]
  have e2 : opLen [.ref m] s = some (.int ks.length, s) := by
    show (match seqOf (.ref m) s with | some xs => _ | none => _) = _
    rw [seqOf_d h, dctOf_d h]
    rfl
  have hf : (s.set m (.fdct ks (vs.map .int)))[m]? = some (.fdct ks (vs.map .int)) := by simp [hlt]
  have key := ev_lock (i := 1) (t := []) (d := .lst []) (env := [some (.ref m), some (.ref m), none, none]) (f := eLc false [3] (iVal (eVar 1)) (gNm 3) (tOrD (tBl (eBin (isCmp .NotIn) (eVar 3) (eVar 0))) (tNotD (tTru (eCall ⟨2, [], [0, 1]⟩ (lw.cf (n + 1) "_law_same") (aCons (eBin isIx (eVar 0) (eVar 3)) (aCons (eBin isIx (eVar 1) (eVar 3)) aNil)) aNil)))) (eVar 3)) rfl h (by
    have i1 : itemsOf (.ref m) (s.set m (.fdct ks (vs.map .int))) = some ⟨ks.map keyD, []⟩ := by simp [itemsOf, hf]
    simp [i1]
    rw [lcL_none okL_nil]
    · simp
    · intro d hd
      obtain ⟨k, hk, rfl⟩ := List.mem_map.mp hd
      obtain ⟨v, hv, hlk⟩ := look_mem (vs := vs.map D.int) hk (by simpa using hl)
      obtain ⟨w, _, rfl⟩ := List.mem_map.mp hv
      simp [in_dct (seqOf_f hf) (dctOf_f hf) keyOf_keyD, ix_key (seqOf_f hf) (dctOf_f hf) keyOf_keyD, hlk, same_int])
  simp [b__law_same, e1, e2, key]
/-- what stands alike is the same -/
theorem same_ok : ∀ {k n : Nat} {a b : D} {s : DS}, Sm s k a b → lw.cf (n + k + 1) "_law_same" [a, b] s = .ok (.bl true) s
  | _, _, _, _, _, .non => same_non
  | _, _, _, _, _, .bl _ => same_bl
  | _, _, _, _, _, .int _ => same_int
  | _, _, _, _, _, .str h => same_str h
  | k + 1, n, a, b, s, .tup (xs := xs) (ys := ys) h1 h2 h3 h4 => by
    have hl := h3.len
    have ix : ∀ {d : D} {zs : List D}, tupOf d = some zs → tyO d s = some (.inl "tuple") ∧ opLen [d] s = some (.int zs.length, s) ∧ isNonD d = false ∧ ∀ i, ixO d (.int i) s = atI zs i := fun {d zs} h => by
      unfold tupOf at h
      split at h
      · cases h; simp
      · cases h; simp
      · cases h
    obtain ⟨t1, t2, _, t3⟩ := ix h1
    obtain ⟨u1, u2, u4, u3⟩ := ix h2
    refine same_seq t1 u1 (.inl rfl) t2 u2 u4 hl (by omega) fun i hi hi' => ?_
    rw [t3, u3, atI_nat hi, atI_nat hi']
    exact ⟨rfl, rfl, same_ok (h3.get i hi hi')⟩
  | k + 1, n, a, b, s, .lst (xs := xs) (ys := ys) h1 h2 h3 h4 => by
    have hl := h3.len
    have ix : ∀ {d : D} {zs : List D}, lstOf d s = some zs → tyO d s = some (.inl "list") ∧ opLen [d] s = some (.int zs.length, s) ∧ isNonD d = false ∧ ∀ i, ixO d (.int i) s = atI zs i := fun {d zs} h => by
      unfold lstOf at h
      split at h
      · cases h; simp
      · rename_i m
        split at h
        · rename_i e
          cases h
          exact ⟨by simp [tyO, e], op_len_ref e, rfl, fun i => ix_ref e⟩
        · cases h
      · cases h
    obtain ⟨t1, t2, _, t3⟩ := ix h1
    obtain ⟨u1, u2, u4, u3⟩ := ix h2
    refine same_seq t1 u1 (.inr rfl) t2 u2 u4 hl (by omega) fun i hi hi' => ?_
    rw [t3, u3, atI_nat hi, atI_nat hi']
    exact ⟨rfl, rfl, same_ok (h3.get i hi hi')⟩
  | k + 1, n, _, _, s, .dct h1 h2 h3 => same_dct h1 h2 h3
theorem same_at {k N : Nat} {a b : D} {s : DS} (h : Sm s k a b) (hN : k < N) : lw.cf N "_law_same" [a, b] s = .ok (.bl true) s := by
  obtain ⟨n, rfl⟩ : ∃ n, N = n + k + 1 := ⟨N - k - 1, by omega⟩
  exact same_ok h
end Lk12p

set_option Elab.async false
set_option linter.all false
set_option maxRecDepth 10000
set_option maxHeartbeats 1000000
namespace Lk12p
open PySem PySem.Spec PyProof.Rows L2 Pv
open Lk12 hiding R P kit names run ob
theorem copied_im {k n : Nat} {d : D} {s : DS} (h : imB k d = true) : ∃ t, lw.cf (n + k + 1) "_law_copied" [d] s = .ok (nrm d) (s ++ t) := by
  induction k generalizing n d s with
  | zero =>
    rw [Law.cf_s, body__law_copied, ps__law_copied, N__law_copied]
    cases imV h with
    | _ => exact ⟨[], by simp [b__law_copied, nrm]⟩
  | succ k ih =>
    rw [Law.cf_s, body__law_copied, ps__law_copied, N__law_copied]
    have seq : ∀ xs : List D, xs.length ≤ 100000 → (∀ x ∈ xs, imB k x = true) → ∀ d0, ∃ u, lcL [] (gNm 1) tYesD (eCall ⟨1, [], [0]⟩ (lw.cf (n + (k + 1)) "_law_copied") (aCons (eVar 1) aNil) aNil) [some d0, none, none] xs s = .ok (xs.map nrm) (s ++ u) := fun xs q r d0 => by
      have := lcL_ext (lv := []) (g := gNm 1) (t := tYesD) (e := eCall ⟨1, [], [0]⟩ (lw.cf (n + (k + 1)) "_law_copied") (aCons (eVar 1) aNil) aNil) (env := [some d0, none, none]) (φ := nrm) (s0 := s) (fun _ => okL_nil) (l := xs) [] fun d hd u => by
        obtain ⟨t, e⟩ := ih (n := n) (d := d) (s := s ++ u) (r d hd)
        have e' : lw.cf (n + (k + 1)) "_law_copied" [d] (s ++ u) = .ok (nrm d) (s ++ u ++ t) := e
        exact ⟨[some d0, some d, none], by simp, by simp, u ++ t, by simpa using e'⟩
      simpa using this
    cases imV h with
    | tup q r =>
      rename_i xs
      obtain ⟨u, hu⟩ := seq xs q r (.tup xs)
      have hz : (xs.map nrm).length ≤ sizeLine := le_size (by simp; omega)
      refine ⟨u ++ [.lst (xs.map nrm)], ?_⟩
      have g := op_tup_ref (s := s ++ u ++ [.lst (xs.map nrm)]) (n := (s ++ u).length) (xs := xs.map nrm) (by simp)
      simp only [List.length_append, List.append_assoc] at g
      simp at hz
      simp [b__law_copied, hu, hz, g, nrm, nrmL_map]
    | ktup q r =>
      rename_i xs
      obtain ⟨u, hu⟩ := seq xs q r (.ktup xs)
      have hz : (xs.map nrm).length ≤ sizeLine := le_size (by simp; omega)
      refine ⟨u ++ [.lst (xs.map nrm)], ?_⟩
      have g := op_tup_ref (s := s ++ u ++ [.lst (xs.map nrm)]) (n := (s ++ u).length) (xs := xs.map nrm) (by simp)
      simp only [List.length_append, List.append_assoc] at g
      simp at hz
      simp [b__law_copied, hu, hz, g, nrm, nrmL_map]
    | _ => exact ⟨[], by simp [b__law_copied, nrm]⟩
/-- a list of values that do not change -/
theorem copied_lst {n : Nat} {xs : List D} {s : DS} (q : xs.length ≤ 1000) (r : ∀ x ∈ xs, imB 2 x = true) : ∃ t, lw.cf (n + 4) "_law_copied" [.lst xs] s = .ok (.ref (s ++ t).length) (s ++ t ++ [.lst (xs.map nrm)]) := by
  rw [Law.cf_s, body__law_copied, ps__law_copied, N__law_copied]
  obtain ⟨u, hu⟩ := lcL_ext (lv := []) (g := gNm 1) (t := tYesD) (e := eCall ⟨1, [], [0]⟩ (lw.cf (n + 3) "_law_copied") (aCons (eVar 1) aNil) aNil) (env := [some (.lst xs), none, none]) (φ := nrm) (s0 := s) (fun _ => okL_nil) (l := xs) [] fun d hd u => by
    obtain ⟨t, e⟩ := copied_im (n := n) (d := d) (s := s ++ u) (r d hd)
    exact ⟨[some (.lst xs), some d, none], by simp, by simp, u ++ t, by simpa using e⟩
  have hz : (xs.map nrm).length ≤ sizeLine := le_size (by simp; omega)
  simp at hz hu
  exact ⟨u, by simp [b__law_copied, hu, hz]⟩
/-- an empty dict -/
theorem copied_dct0 {n m : Nat} {s : DS} (h : s[m]? = some (.dct [] [])) : lw.cf (n + 1) "_law_copied" [.ref m] s = .ok (.ref s.length) (s ++ [.dct [] []]) := by
  rw [Law.cf_s, body__law_copied, ps__law_copied, N__law_copied]
  have e1 : tyO (.ref m) s = some (.inl "dict") := by simp [tyO, h]
  have hlt : m < s.length := lt_of_get h
  have hf : (s.set m (.fdct [] []))[m]? = some (.fdct [] []) := by simp [hlt]
  have key := ev_lock (i := 0) (t := []) (d := .lst []) (env := [some (.ref m), none, none]) (f := eLc false [2] (iVal (eVar 0)) (gNm 2) tYesD (eTup (aCons (eVar 2) (aCons (eCall ⟨1, [], [0]⟩ (lw.cf n "_law_copied") (aCons (eBin isIx (eVar 0) (eVar 2)) aNil) aNil) aNil)))) rfl h (by
    have i1 : itemsOf (.ref m) (s.set m (.fdct [] [])) = some ⟨[], []⟩ := by simp [itemsOf, hf]
    simp [i1]
    rw [lcL_none okL_nil (fun d hd => absurd hd List.not_mem_nil)]
    simp)
  simp at key
  simp [b__law_copied, e1, key, opDictP, pairsOfL, mergeP]
/-- an error keeps the very value -/
noncomputable abbrev blB : SV := (sSeq (sIf (tTru (eCallB (opIsi Lk12.kit) (aCons (eVar 2) (aCons (eC (.ty "list")) aNil)))) (sSeq (sDrop (eMeth mtT ("append" : Str) (eVar 2) (aCons (eC (.str ("more" : Str))) aNil))) sNext) sNext) (sSeq (sIf (tTru (eCallB (opIsi Lk12.kit) (aCons (eVar 2) (aCons (eC (.ty "dict")) aNil)))) (sSeq (sAsg (gSb (eVar 2) (eC (.str ("more" : Str)))) (eC (.int 7))) sNext) sNext) sNext))
theorem bl_calm {d : D} {l : List D} {s : DS} {k : Nat} (h : ∀ x ∈ l, imB k x = true) (e : Option D) : ∃ e', forL [] (gNm 2) blB l [some d, some d, e] s = .nx [some d, some d, e'] s := by
  obtain ⟨env', s', e1, _, rfl, e', rfl⟩ := forL_ok (lv := []) (g := gNm 2) (body := blB) (fun l env s' => (∀ x ∈ l, imB k x = true) ∧ s' = s ∧ ∃ e, env = [some d, some d, e]) (fun _ _ _ _ => okL_nil) (fun x r env s' ⟨h1, h2, e, h3⟩ => by
    subst h2 h3
    refine ⟨_, _, rfl, [some d, some d, some x], s', .inl ?_, fun y hy => h1 y (List.mem_cons_of_mem _ hy), rfl, _, rfl⟩
    cases imV (h1 x List.mem_cons_self) <;> simp) l _ s ⟨h, rfl, e, rfl⟩
  exact ⟨e', e1⟩
theorem more_len : ("more" : Str).length ≤ 1000 := by decide +kernel
theorem blamed_ok {n : Nat} {d : D} {s : DS} (h : Wr s d) : ∃ s', lw.cf (n + 6) "_law_blamed" [d, d] s = .ok (.bl true) s' ∧ (s' = s ∨ ∃ m o, d = .ref m ∧ s' = s.set m o) := by
  rw [Law.cf_s, body__law_blamed, ps__law_blamed, N__law_blamed]
  cases h with
  | im h =>
    refine ⟨s, ?_, .inl rfl⟩
    have e1 := same_at (N := n + 5) (s := s) (sm_im h).2.1 (by omega)
    obtain ⟨e', e2⟩ := bl_calm (d := d) (l := [d]) (s := s) (k := 4) (fun x hx => by
      rcases List.mem_cons.mp hx with rfl | hx
      · exact h
      · cases hx) none
    cases imV h with
    | tup q r =>
      clear e2
      rename_i xs
      have hz : 1 + xs.length ≤ sizeLine := le_size (by omega)
      obtain ⟨e', e2⟩ := bl_calm (d := .tup xs) (l := .tup xs :: xs) (s := s) (k := 4) (fun x hx => by
        rcases List.mem_cons.mp hx with rfl | hx
        · exact h
        · exact imB_mono (by omega) (r x hx)) none
      simp [b__law_blamed, e1, hz, e2]
    | ktup q r =>
      clear e2
      rename_i xs
      have hz : 1 + xs.length ≤ sizeLine := le_size (by omega)
      obtain ⟨e', e2⟩ := bl_calm (d := .ktup xs) (l := .ktup xs :: xs) (s := s) (k := 4) (fun x hx => by
        rcases List.mem_cons.mp hx with rfl | hx
        · exact h
        · exact imB_mono (by omega) (r x hx)) none
      simp [b__law_blamed, e1, hz, e2]
    | _ =>
      simp [b__law_blamed, e1, e2]
  | lst h1 h2 h3 =>
    rename_i m xs
    have hlt := lt_of_get h1
    have l1 : lstOf (.ref m) s = some xs := lst_ref h1
    have e1 := same_at (N := n + 5) (s := s) (Sm.lst (k := 2) l1 l1 (SmL.refl fun x hx => (sm_im (h2 x hx)).2.1) (by omega)) (by omega)
    have h1' : (s.set m (.lst (xs ++ [.str "more"])))[m]? = some (.lst (xs ++ [.str "more"])) := by simp [hlt]
    have l2 : lstOf (.ref m) (s.set m (.lst (xs ++ [.str "more"]))) = some (xs ++ [.str "more"]) := lst_ref h1'
    have e3 := same_at (N := n + 5) (s := s.set m (.lst (xs ++ [.str "more"]))) (Sm.lst (k := 2) l2 l2 (SmL.refl fun x hx => by
      rcases List.mem_append.mp hx with hx | hx
      · exact (sm_im (h2 x hx)).2.1
      · simp at hx; subst hx; exact .str more_len) (by simp; omega)) (by omega)
    refine ⟨_, ?_, .inr ⟨m, .lst (xs ++ [.str "more"]), rfl, rfl⟩⟩
    have hz : 1 + xs.length ≤ sizeLine := le_size (by omega)
    have hz2 : xs.length < sizeLine := by have := @le_size (xs.length + 1) (by omega); omega
    have t1 : tyO (.ref m) s = some (.inl "list") := by simp [tyO, h1]
    have t2 : tyO (.ref m) (s.set m (.lst (xs ++ [.str "more"]))) = some (.inl "list") := by simp [tyO, h1']
    obtain ⟨e', e2⟩ := bl_calm (d := .ref m) (l := xs) (s := s.set m (.lst (xs ++ [.str "more"]))) (k := 2) h2 (some (.ref m))
    have e4 : forL [] (gNm 2) blB (.ref m :: xs) [some (.ref m), some (.ref m), none] s = .nx [some (.ref m), some (.ref m), e'] (s.set m (.lst (xs ++ [.str "more"]))) := by
      have eb : blB [some (.ref m), some (.ref m), some (.ref m)] s = .nx [some (.ref m), some (.ref m), some (.ref m)] (s.set m (.lst (xs ++ [.str "more"]))) := by
        simp [t1, t2, rcv_ref h1, app_ref h1 hz2]
      unfold forL
      rw [if_pos okL_nil, ev_gNm]
      show (match blB [some (.ref m), some (.ref m), some (.ref m)] s with | .nx env2 s2 => _ | .ct env2 s2 => _ | .bk env2 s2 => _ | .rt d s2 => _ | .exc x env2 s2 => _ | .bad => _) = _
      rw [eb]
      exact e2
    simp [b__law_blamed, e1, hz, t1, op_lst_ref h1, e4, e3]
  | dct h1 =>
    rename_i m
    have hlt := lt_of_get h1
    have e1 := same_at (N := n + 5) (s := s) (Sm.dct (k := 0) (vs := []) h1 rfl (by simp)) (by omega)
    have h1' : (s.set m (.dct [.inr "more"] [.int 7]))[m]? = some (.dct [.inr "more"] ([7].map .int)) := by simp [hlt]
    have e3 := same_at (N := n + 5) (s := s.set m (.dct [.inr "more"] [.int 7])) (Sm.dct (k := 0) h1' rfl (by simp)) (by omega)
    refine ⟨_, ?_, .inr ⟨m, .dct [.inr "more"] [.int 7], rfl, rfl⟩⟩
    have t1 : tyO (.ref m) s = some (.inl "dict") := by simp [tyO, h1]
    have eb : blB [some (.ref m), some (.ref m), some (.ref m)] s = .nx [some (.ref m), some (.ref m), some (.ref m)] (s.set m (.dct [.inr "more"] [.int 7])) := by
      have st : setO (.ref m) (.str "more") (.int 7) s = some (s.set m (.dct [.inr "more"] [.int 7])) := by
        have : 0 < sizeLine := by unfold sizeLine; omega
        simp [setO, h1, Pv.keyOf, putKs, putVs, this]
      simp [t1, st]
    have e4 : forL [] (gNm 2) blB [.ref m] [some (.ref m), some (.ref m), none] s = .nx [some (.ref m), some (.ref m), some (.ref m)] (s.set m (.dct [.inr "more"] [.int 7])) := by
      unfold forL
      rw [if_pos okL_nil, ev_gNm]
      show (match blB [some (.ref m), some (.ref m), some (.ref m)] s with | .nx env2 s2 => _ | .ct env2 s2 => _ | .bk env2 s2 => _ | .rt d s2 => _ | .exc x env2 s2 => _ | .bad => _) = _
      rw [eb]
      show forL _ _ _ _ _ _ = _
      unfold forL
      rw [if_pos okL_nil]
    simp [b__law_blamed, e1, t1, e4, e3]
end Lk12p

set_option Elab.async false
set_option linter.all false
set_option maxRecDepth 10000
set_option maxHeartbeats 2000000
namespace Lk12p
open PySem PySem.Spec PyProof.Rows L2 Pv
open Lk12 hiding R P kit names run ob
theorem take_ok {n b m : Nat} {s : DS} {many : Int} (hb : Bx b m s) (hm : m < 10 ^ 9) (h : 0 < many) (h9 : many < 2 ^ 31) : ∃ d s', lw.cf (n + 1) "_law_take" [.ref b, .int many] s = .ok (.int d) s' ∧ 0 ≤ d ∧ d < many ∧ Bx b (m + 1) s' ∧ Fr b s s' := by
  obtain ⟨i, c, j, k, e, j0, j1, k0, k1⟩ := hb
  have hlt : b < s.length := lt_of_get e
  rw [Law.cf_s, body__law_take, ps__law_take, N__law_take]
  have hmany : many ≠ 0 := by omega
  have l0 : ixO (.ref b) (.int 0) s = some (.int i) := by rw [ix_ref e, Pv.at0]
  have l1 : ixO (.ref b) (.int 1) s = some (.bl c) := by rw [ix_ref e, Pv.at1]
  have l2 : ixO (.ref b) (.int 2) s = some (.int j) := by rw [ix_ref e, Pv.at2]
  have l3 : ixO (.ref b) (.int 3) s = some (.int k) := by rw [ix_ref e, Pv.at3]
  have hlog : many.natAbs.log2 < 9000 := by
    have : many.natAbs < 2 ^ 31 := by omega
    have z := (Nat.log2_lt (by omega)).mpr this
    omega
  by_cases hc : c = true ∧ 0 < i
  · obtain ⟨rfl, hi⟩ := hc
    refine ⟨i.fmod many, s.set b (.lst [.int (i.fdiv many), .bl true, .int j, .int k]), ?_, Int.fmod_nonneg_of_pos _ h, Int.fmod_lt_of_pos _ h, ⟨i.fdiv many, true, j, k, by simp [hlt], j0, j1, k0, by omega⟩, Fr.set⟩
    simp [b__law_take, l0, l1, hi, hmany, hlog, set_at0 e]
  · have mo : ∀ x y : Int, x.natAbs < 2 ^ 64 → y.natAbs < 2 ^ 64 → mulOk x y = true := fun x y h1 h2 => by
      have z : ∀ w : Int, w.natAbs < 2 ^ 64 → w.natAbs.log2 < 65 := fun w hw => by
        by_cases q : w.natAbs = 0
        · rw [q]; decide
        · exact Nat.lt_of_lt_of_le ((Nat.log2_lt q).mpr hw) (by omega)
      have a1 := z x h1; have a2 := z y h2
      unfold mulOk
      exact decide_eq_true (by omega)
    have m1 : mulOk 15489325 (k + 1) = true := mo _ _ (by decide) (by omega)
    have m3 : mulOk 105479 (k + 1) = true := mo _ _ (by decide) (by omega)
    have p1 : (j + 15489325 * (k + 1) + 179433361).natAbs < 18446744073709551616 := by omega
    have g0 : ∀ y : Int, 0 ≤ y.fmod 2147483647 ∧ y.fmod 2147483647 < 2147483647 := fun y => ⟨Int.fmod_nonneg_of_pos _ (by decide), Int.fmod_lt_of_pos _ (by decide)⟩
    have m2 : ∀ y : Int, mulOk (y.fmod 2147483647) 48271 = true := fun y => mo _ _ (by have := g0 y; omega) (by decide)
    have p2 : ∀ y : Int, (y.fmod 2147483647 * 48271 + 105479 * (k + 1)).natAbs < 18446744073709551616 := fun y => by have := g0 y; omega
    have lg : Nat.log2 64 < 9000 := by decide
    have e' : (s.set b (.lst [.int i, .bl c, .int j, .int (k + 1)]))[b]? = some (.lst [.int i, .bl c, .int j, .int (k + 1)]) := by simp [hlt]
    have l2' : ixO (.ref b) (.int 2) (s.set b (.lst [.int i, .bl c, .int j, .int (k + 1)])) = some (.int j) := by rw [ix_ref e', Pv.at2]
    have l3' : ixO (.ref b) (.int 3) (s.set b (.lst [.int i, .bl c, .int j, .int (k + 1)])) = some (.int (k + 1)) := by rw [ix_ref e', Pv.at3]
    refine ⟨((((((j + 15489325 * (k + 1) + 179433361) ^ 5).fmod 2147483647 * 48271 + 105479 * (k + 1)) ^ 3).fmod 2147483587).fdiv 64).fmod many, s.set b (.lst [.int i, .bl c, .int j, .int (k + 1)]), ?_, Int.fmod_nonneg_of_pos _ h, Int.fmod_lt_of_pos _ h, ⟨i, c, j, k + 1, e', j0, j1, by omega, by omega⟩, Fr.set⟩
    cases c with
    | false => simp [b__law_take, l0, l1, l2, l3, hmany, set_at3 e, l2', l3', m1, m2, m3, isBin, p1, p2, lg]
    | true =>
      have hi : ¬ 0 < i := fun z => hc ⟨rfl, z⟩
      simp [b__law_take, l0, l1, l2, l3, hi, hmany, set_at3 e, l2', l3', m1, m2, m3, isBin, p1, p2, lg]
/-- what stands in a list or a tuple, read as it is now -/
theorem pick_ok {n b m : Nat} {s : DS} {it : D} {xs : List D} (hb : Bx b m s) (hm : m < 10 ^ 9) (hx : ∀ s', Fr b s s' → seqOf it s' = some xs) (hns : ∀ z, it ≠ .str z) (hnc : ∀ z, it ≠ .scr z) (hne : xs ≠ []) (hl : xs.length < 2 ^ 31) :
    ∃ d s', lw.cf (n + 2) "_law_pick" [.ref b, it] s = .ok d s' ∧ d ∈ xs ∧ Bx b (m + 1) s' ∧ Fr b s s' := by
  have hpos : 0 < xs.length := List.length_pos_iff.mpr hne
  obtain ⟨d, s', e, h0, h1, hb', hf⟩ := take_ok (n := n) hb hm (many := xs.length) (by omega) (by omega)
  obtain ⟨x, hx1, hx2⟩ := atI_nn h0 h1
  refine ⟨x, s', ?_, hx2, hb', hf⟩
  have hix : ixO it (.int d) s' = some x := by
    unfold ixO
    split
    · rename_i z _ _; exact absurd rfl (hns _)
    · rename_i z _ _; exact absurd rfl (hnc _)
    · rw [hx _ hf]; exact hx1
  have hlen : opLen [it] s = some (.int xs.length, s) := by
    unfold opLen
    split
    · rename_i heq; cases heq; exact absurd rfl (hns _)
    · rename_i heq; cases heq; exact absurd rfl (hnc _)
    · rename_i d' _ _ _ heq; cases heq; rw [hx _ Fr.refl]
    · rename_i h1 h2; exact absurd rfl (h2 _)
  rw [Law.cf_s, body__law_pick, ps__law_pick, N__law_pick]
  simp [b__law_pick, hlen, e, hix]
theorem pick_lst {n b m : Nat} {s : DS} {xs : List D} (hb : Bx b m s) (hm : m < 10 ^ 9) (hne : xs ≠ []) (hl : xs.length < 2 ^ 31) : ∃ d s', lw.cf (n + 2) "_law_pick" [.ref b, .lst xs] s = .ok d s' ∧ d ∈ xs ∧ Bx b (m + 1) s' ∧ Fr b s s' :=
  pick_ok hb hm (fun _ _ => rfl) (fun _ h => nomatch h) (fun _ h => nomatch h) hne hl
theorem pick_ref {n b m c : Nat} {s : DS} {xs : List D} (hb : Bx b m s) (hm : m < 10 ^ 9) (hc : s[c]? = some (.lst xs)) (hcb : c ≠ b) (hne : xs ≠ []) (hl : xs.length < 2 ^ 31) : ∃ d s', lw.cf (n + 2) "_law_pick" [.ref b, .ref c] s = .ok d s' ∧ d ∈ xs ∧ Bx b (m + 1) s' ∧ Fr b s s' :=
  pick_ok hb hm (fun s' hf => seq_ref (hf.get hc hcb)) (fun _ h => nomatch h) (fun _ h => nomatch h) hne hl
/-- drawn out of order -/
theorem mixed_ok {n b m : Nat} {s : DS} {ns : List Int} (hb : Bx b m s) (hm : m + ns.length < 10 ^ 9) (hl : ns.length ≤ 1000) :
    ∃ (c : Nat) (ks : List Int) (s' : DS), lw.cf (n + 2) "_law_mixed" [.ref b, .lst (ns.map .int)] s = .ok (.ref c) s' ∧ s.length ≤ c ∧ s'[c]? = some (.lst (ks.map .int)) ∧ ks.Perm ns ∧ Bx b (m + ns.length) s' ∧ Fr b s s' := by
  have hblt := hb.lt
  rw [Law.cf_s, body__law_mixed, ps__law_mixed, N__law_mixed]
  obtain ⟨L, hL⟩ : ∃ L, L = s.length := ⟨_, rfl⟩
  have key := whD_ok (t := tBl (eBin (isCmp .NotEq) (eVar 2) (eLst aNil))) (body := (sSeq (sDrop (eMeth mtT ("append" : Str) (eVar 3) (aCons (eMeth mtT ("pop" : Str) (eVar 2) (aCons (eCall ⟨2, [], [0, 1]⟩ (lw.cf (n + 1) ("_law_take" : Str)) (aCons (eVar 0) (aCons (eCallB opLen (aCons (eVar 2) aNil)) aNil)) aNil) aNil)) aNil))) sNext))
    (fun q env s' => env = [some (.ref b), some (.lst (ns.map .int)), some (.ref L), some (.ref (L + 1))] ∧ Fr b s s' ∧ ∃ lf fd : List Int, lf.length = q ∧ s'[L]? = some (.lst (lf.map .int)) ∧ s'[L + 1]? = some (.lst (fd.map .int)) ∧ (fd ++ lf).Perm ns ∧ Bx b (m + fd.length) s')
    (fun env s' => env = [some (.ref b), some (.lst (ns.map .int)), some (.ref L), some (.ref (L + 1))] ∧ Fr b s s' ∧ ∃ fd : List Int, s'[L + 1]? = some (.lst (fd.map .int)) ∧ fd.Perm ns ∧ Bx b (m + fd.length) s') (fun q env s' ⟨he, hf, lf, fd, h1, h2, h3, h4, h5⟩ => by
      subst he
      by_cases hlf : lf = []
      · subst hlf
        left
        exact ⟨s', by simp [eq_ref_nil h2], rfl, hf, fd, h3, by simpa using h4, h5⟩
      · right
        have hpos := List.length_pos_iff.mpr hlf
        have hlen : fd.length + lf.length = ns.length := by
          have := h4.length_eq
          simpa using this
        have ne := eq_ref_ints h2 hlf
        refine ⟨s', by simp [ne], ?_⟩
        obtain ⟨d, s1, e1, d0, d1, b1, f1⟩ := take_ok (n := n) h5 (by omega) (many := (lf.length : Nat)) (by omega) (by omega)
        have g2 := f1.get h2 (by omega)
        have g3 := f1.get h3 (by omega)
        have hs24 : (1000 : Nat) < sizeLine := by have := @le_size 1001 (by omega); omega
        obtain ⟨y, e2, hy, hy2⟩ := pop_at (k := d) g2 d0 (by simpa using d1) (by simp only [List.length_map]; omega)
        obtain ⟨yi, hyi, rfl⟩ := List.mem_map.mp hy
        rw [erase_map] at e2
        have g4 : (s1.set L (.lst ((lf.eraseIdx d.toNat).map D.int)))[L + 1]? = some (.lst (fd.map .int)) := by rw [List.getElem?_set_ne (by omega)]; exact g3
        have e3 := app_ref (y := .int yi) g4 (by simp only [List.length_map]; omega)
        have hsz : L + 1 < s1.length := lt_of_get g3
        have hy3 : lf[d.toNat]? = some yi := by
          rw [List.getElem?_map] at hy2
          obtain ⟨z, hz1, hz2⟩ := Option.map_eq_some_iff.mp hy2
          cases hz2; exact hz1
        have hd : d.toNat < lf.length := (List.getElem?_eq_some_iff.mp hy3).1
        refine ⟨_, (s1.set L (.lst ((lf.eraseIdx d.toNat).map D.int))).set (L + 1) (.lst (fd.map D.int ++ [D.int yi])), .inl ?_, lf.length - 1, by omega, rfl, ?_, lf.eraseIdx d.toNat, fd ++ [yi], ?_, ?_, ?_, ?_, ?_⟩
        · have l0 : opLen [.ref L] s' = some (.int (lf.length : Nat), s') := by
            have := op_len_ref h2
            simpa using this
          have r1 := rcv_ref h3
          have r2 := rcv_ref h2
          simp [r1, r2, l0, e1, e2, e3]
        · exact ((hf.trans f1).setNew (by omega)).setNew (by omega)
        · rw [List.length_eraseIdx_of_lt hd]
        · rw [List.getElem?_set_ne (by omega), List.getElem?_set_self (by omega)]
        · rw [List.getElem?_set_self (by simpa using hsz)]
          simp
        · refine List.Perm.trans ?_ h4
          rw [List.append_assoc]
          refine List.Perm.append_left fd ?_
          have := erase_perm lf d.toNat hd
          rw [(List.getElem?_eq_some_iff.mp hy3).2] at this
          exact this
        · refine Bx.set (Bx.set ?_ (by omega)) (by omega)
          simpa [Nat.add_assoc] using b1) 100000 ns.length [some (.ref b), some (.lst (ns.map .int)), some (.ref L), some (.ref (L + 1))] (s ++ [.lst (ns.map .int)] ++ [.lst []]) ⟨rfl, by rw [List.append_assoc]; exact Fr.app, ns, [], rfl, by simp [hL], by simp [hL], by simp, by rw [List.append_assoc]; exact hb.app⟩ (by omega)
  obtain ⟨env', s', e1, rfl, hf, fd, h3, h4, h5⟩ := key
  have hlen : fd.length = ns.length := h4.length_eq
  refine ⟨L + 1, fd, s', ?_, by omega, h3, h4, by rw [← hlen]; exact h5, hf⟩
  have hsz : (ns.map D.int).length ≤ sizeLine := le_size (by simp; omega)
  simp only [List.append_assoc, List.cons_append, List.nil_append] at e1
  subst hL
  simp [b__law_mixed, e1]
end Lk12p

set_option Elab.async false
set_option linter.all false
set_option maxRecDepth 10000
set_option maxHeartbeats 2000000
namespace Lk12p
open PySem PySem.Spec PyProof.Rows L2 Pv
open Lk12 hiding R P kit names run ob
theorem whole_int {n : Nat} {v : Int} {s : DS} : lw.cf (n + 1) "is_whole" [.int v] s = .ok (.bl true) s := by
  rw [Law.cf_s, body_is_whole, ps_is_whole, N_is_whole]
  simp [b_is_whole]
theorem whole_no {n : Nat} {d : D} {T : String} {s : DS} (h : tyO d s = some (.inl T)) (hT : T = "NoneType" ∨ T = "bool" ∨ T = "str" ∨ T = "tuple" ∨ T = "list" ∨ T = "dict") : lw.cf (n + 1) "is_whole" [d] s = .ok (.bl false) s := by
  rw [Law.cf_s, body_is_whole, ps_is_whole, N_is_whole]
  rcases hT with rfl | rfl | rfl | rfl | rfl | rfl <;> simp [b_is_whole, h]
theorem place_int {n : Nat} {p v : Int} {s : DS} : lw.cf (n + 2) "is_place" [.int p, .int v] s = .ok (.bl (decide (0 ≤ v) && decide (v < p))) s := by
  rw [Law.cf_s, body_is_place, ps_is_place, N_is_place]
  by_cases h : 0 ≤ v <;> simp [b_is_place, whole_int, h]
theorem place_no {n : Nat} {p : D} {d : D} {T : String} {s : DS} (h : tyO d s = some (.inl T)) (hT : T = "NoneType" ∨ T = "bool" ∨ T = "str" ∨ T = "tuple" ∨ T = "list" ∨ T = "dict") : lw.cf (n + 2) "is_place" [p, d] s = .ok (.bl false) s := by
  rw [Law.cf_s, body_is_place, ps_is_place, N_is_place]
  simp [b_is_place, whole_no h hT]
theorem name_str {n : Nat} {x : Str} {s : DS} (hx : x.length ≤ 1000) : lw.cf (n + 1) "is_name" [.str x] s = .ok (.bl (nmB x)) s := by
  rw [Law.cf_s, body_is_name, ps_is_name, N_is_name]
  have hz : x.length ≤ sizeLine := le_size (by omega)
  have hz2 : (signL x).length ≤ sizeLine := by rw [signL_len]; exact hz
  have key : lcL [] (gNm 1) tYesD (eBin (isCmp .In) (eVar 1) (eC (.str ("abcdefghijklmnopqrstuvwxyz" : Str)))) [some (.str x), none] (x.cps.toList.map fun c => D.str ⟨#[c]⟩) s = .ok (signL x) s := by
    refine lcL_mapf okL_nil fun c _ => ?_
    refine ⟨[some (.str x), some (.str ⟨#[c]⟩)], by simp, by simp, ?_⟩
    simp [inO, seqOf, lstOf, dctOf, inStr]
  by_cases h1 : 1 ≤ x.length
  · by_cases h2 : x.length ≤ 12
    · have e1 : ((1 : Int) ≤ x.length) = True := eq_true (by omega)
      have e2 : ((x.length : Int) ≤ 12) = True := eq_true (by omega)
      have oa := signL_all (s := s) h1 h2
      simp [b_is_name, hz, e1, e2, key, hz2, oa]
    · have e1 : ((1 : Int) ≤ x.length) = True := eq_true (by omega)
      have e2 : ((x.length : Int) ≤ 12) = False := eq_false (by omega)
      simp [b_is_name, hz, e1, e2, nmB, h2]
  · have e1 : ((1 : Int) ≤ x.length) = False := eq_false (by omega)
    simp [b_is_name, hz, e1, nmB, h1]
theorem name_no {n : Nat} {d : D} {T : String} {s : DS} (h : tyO d s = some (.inl T)) (hT : T = "NoneType" ∨ T = "bool" ∨ T = "int" ∨ T = "tuple" ∨ T = "list" ∨ T = "dict") : lw.cf (n + 1) "is_name" [d] s = .ok (.bl false) s := by
  rw [Law.cf_s, body_is_name, ps_is_name, N_is_name]
  rcases hT with rfl | rfl | rfl | rfl | rfl | rfl <;> simp [b_is_name, h]
theorem tie_ok {n : Nat} {p : Int} {t : Tie} {s : DS} (h : nmB t.1 = true) (hi : 0 ≤ t.2.1 ∧ t.2.1 < p) (hj : 0 ≤ t.2.2 ∧ t.2.2 < p) : lw.cf (n + 3) "is_tie" [.int p, tieD t] s = .ok (.bl true) s := by
  rw [Law.cf_s, body_is_tie, ps_is_tie, N_is_tie]
  have := nmB_len h
  simp [b_is_tie, tieD, name_str (x := t.1) (by omega), h, place_int, hi, hj]
theorem fl_places : flF "places" "Web" = true := by kernel_rfl
theorem fl_ties : flF "ties" "Web" = true := by kernel_rfl
theorem fl_marks : flF "marks" "Web" = true := by kernel_rfl
section
variable {p : Int} {ts : List Tie} {ms : List Int} {dt dm : D} {s s' : DS} {n : Nat}
@[simp] theorem web_places : fldR (flF "places") "places" (insOf (webD p ts ms) s) s' = .ok (.int p) s' := fldR_ok fl_places (by simp)
@[simp] theorem web_ties : fldR (flF "ties") "ties" (insOf (webD p ts ms) s) s' = .ok (.tup ((sortT ts).map tieD)) s' := fldR_ok fl_ties (by simp)
@[simp] theorem web_marks : fldR (flF "marks") "marks" (insOf (webD p ts ms) s) s' = .ok (.tup (ms.map .int)) s' := fldR_ok fl_marks (by simp)
@[simp] theorem web_ty : tyO (webD p ts ms) s = some (.inr "Web") := nr rfl
theorem web_init {r : Nat} (h : WV p ts ms) (h1 : tupOf dt = some (ts.map tieD)) (h2 : tupOf dm = some (ms.map .int)) (hr : s[r]? = some (.ins "Web" [] [])) :
    lw.ci (n + 5) "Web" [.ref r, .int p, dt, dm] s = .ok .non (s.set r (.ins "Web" wN [.int p, .tup ((sortT ts).map tieD), dm])) := by
  rw [Law.ci_s, bodyI_Web, psI_Web, NI_Web]
  have T1 := tupA h1 s
  have T2 := tupA h2 s
  have hlt := lt_of_get hr
  have hp0 := h.p0
  have hp12 := h.p12
  have htl := h.tl
  have hml := h.ml
  have k1 := lcL_mapf (lv := []) (g := gNm 4) (t := tYesD) (e := eCall ⟨2, [], [0, 1]⟩ (lw.cf (n + 3) "is_tie") (aCons (eVar 1) (aCons (eVar 4) aNil)) aNil) (env := [some (.ref r), some (.int p), some dt, some dm, none, none]) (s := s) (f := tieD) (φ := fun _ => D.bl true) okL_nil (l := ts) fun t ht => by
    obtain ⟨a1, a2, a3⟩ := h.tv t ht
    exact ⟨[some (.ref r), some (.int p), some dt, some dm, some (tieD t), none], by simp, by simp, by simp [tie_ok a1 a2 a3]⟩
  have k2 := lcL_mapf (lv := []) (g := gNm 5) (t := tYesD) (e := eCall ⟨2, [], [0, 1]⟩ (lw.cf (n + 3) "is_place") (aCons (eVar 1) (aCons (eVar 5) aNil)) aNil) (env := [some (.ref r), some (.int p), some dt, some dm, none, none]) (s := s) (f := D.int) (φ := fun _ => D.bl true) okL_nil (l := ms) fun t ht => by
    have a1 := h.mv t ht
    exact ⟨[some (.ref r), some (.int p), some dt, some dm, none, some (.int t)], by simp, by simp, by simp [place_int, a1]⟩
  have z1 : ts.length ≤ sizeLine := le_size (by omega)
  have z2 : ms.length ≤ sizeLine := le_size (by omega)
  have b1 : ((60 : Int) < ts.length) = False := eq_false (by omega)
  have al : ∀ {β : Type} (l : List β), (l.all fun _ => true) = true := fun l => List.all_eq_true.mpr fun _ _ => rfl
  have o1 := op_all (s := s) (l := ts) (p := fun _ => true)
  have o2 := op_all (s := s) (l := ms) (p := fun _ => true)
  rw [al] at o1 o2
  have len2 : ms.length ≤ 4000 := by omega
  have st1 := fldS_ok (s := s) (env := [some (.ref r), some (.int p), some dt, some dm, none, none]) (y := .int p) (n := "places") hr fl_places (by simp)
  have g1 : (s.set r (.ins "Web" wN1 [.int p]))[r]? = some (.ins "Web" wN1 [.int p]) := by simp [hlt]
  have st2 := fldS_ok (s := s.set r (.ins "Web" wN1 [.int p])) (env := [some (.ref r), some (.int p), some dt, some dm, none, none]) (y := .tup ((sortT ts).map tieD)) (n := "ties") g1 fl_ties (by decide)
  have g2 : (s.set r (.ins "Web" wN2 [.int p, .tup ((sortT ts).map tieD)]))[r]? = some (.ins "Web" wN2 [.int p, .tup ((sortT ts).map tieD)]) := by simp [hlt]
  have st3 := fldS_ok (s := s.set r (.ins "Web" wN2 [.int p, .tup ((sortT ts).map tieD)])) (env := [some (.ref r), some (.int p), some dt, some dm, none, none]) (y := dm) (n := "marks") g2 fl_marks (by decide)
  rw [wP1, wQ1] at st1
  rw [wP2, wQ2, List.set_set] at st2
  rw [wP3, wQ3, List.set_set] at st3
  have so := op_sortedX_ties (m := false) (d := dt) (s := s.set r (.ins "Web" wN1 [.int p])) (ts := ts) (tupA h1 _).sq
  have hints : (tupOf dm).bind intsOf = some ms := by rw [h2]; exact ints_map
  simp [bi_Web, whole_int, hp0, hp12, T1.ty, T1.len, T1.items, T2.ty, T2.len, T2.items, k1, k2, z1, z2, b1, o1, o2, hints, distinct_nodup h.nd, len2, st1, so, st2, st3]
theorem web_make {N : Nat} (hN : 5 ≤ N) (h : WV p ts ms) (h1 : tupOf dt = some (ts.map tieD)) : mkE true s.length (lw.ci N "Web" [.ref s.length, .int p, dt, .tup (ms.map .int)] (s ++ [.ins "Web" [] []])) = .ok (webD p ts ms) (s ++ [.dead]) := by
  obtain ⟨n, rfl⟩ : ∃ n, N = n + 5 := ⟨N - 5, by omega⟩
  have hs : ∀ o : DO, (s ++ [DO.ins "Web" [] []]).set s.length o = s ++ [o] := fun o => by
    rw [List.set_append_right _ _ (Nat.le_refl _), Nat.sub_self]; rfl
  rw [web_init h h1 (dm := .tup (ms.map .int)) rfl (by simp), hs, mkE_ok (s := s ++ [DO.ins "Web" wN [.int p, .tup ((sortT ts).map tieD), .tup (ms.map .int)]]) (n := s.length) (c := "Web") (ns := wN) (vs := [.int p, .tup ((sortT ts).map tieD), .tup (ms.map .int)]) (by simp)]
  rw [List.set_append_right _ _ (Nat.le_refl _), Nat.sub_self]
  rfl
end
end Lk12p

set_option Elab.async false
set_option linter.all false
set_option maxRecDepth 10000
set_option maxHeartbeats 2000000
namespace Lk12p
open PySem PySem.Spec PyProof.Rows L2 Pv
open Lk12 hiding R P kit names run ob
section
variable {p p1 p2 : Int} {ts ts1 ts2 : List Tie} {ms ms1 ms2 : List Int} {s s' : DS} {n : Nat} {d : D} {T : String}
theorem check_web_ok : lw.cf (n + 1) "check_web" [webD p ts ms] s = .ok .non s := by
  rw [Law.cf_s, body_check_web, ps_check_web, N_check_web]
  simp [b_check_web]
theorem check_web_no (h : tyO d s = some (.inl T)) (hT : T = "NoneType" ∨ T = "bool" ∨ T = "int" ∨ T = "str" ∨ T = "tuple" ∨ T = "list" ∨ T = "dict") : lw.cf (n + 1) "check_web" [d] s = .exc (excOf "InvalidWeb" ["given"] d) s := by
  rw [Law.cf_s, body_check_web, ps_check_web, N_check_web]
  rcases hT with rfl | rfl | rfl | rfl | rfl | rfl | rfl <;> simp [b_check_web, h]
theorem led_it {nm : D} {φ : Int → Int} {dt : D} (ht : itemsOf dt s = some ⟨ts.map tieD, []⟩) (h60 : ts.length ≤ 1000) (h : ∀ t ∈ ts, ixO nm (.int t.2.1) s = some (.int (φ t.2.1)) ∧ ixO nm (.int t.2.2) s = some (.int (φ t.2.2))) :
    lw.cf (n + 1) "led" [dt, nm] s = .ok (.lst ((ts.map fun t => (t.1, φ t.2.1, φ t.2.2)).map tieD)) s := by
  rw [Law.cf_s, body_led, ps_led, N_led]
  have k1 := lcL_mapf (lv := []) (g := gTp 3 (gsCons (gNm 2) (gsCons (gNm 3) (gsCons (gNm 4) gsNil)))) (t := tYesD) (e := eTup (aCons (eVar 2) (aCons (eBin isIx (eVar 1) (eVar 3)) (aCons (eBin isIx (eVar 1) (eVar 4)) aNil)))) (env := [some dt, some nm, none, none, none]) (s := s) (f := tieD) (φ := fun t => tieD (t.1, φ t.2.1, φ t.2.2)) okL_nil (l := ts) fun t ht => by
    obtain ⟨a1, a2⟩ := h t ht
    refine ⟨[some dt, some nm, some (.str t.1), some (.int t.2.1), some (.int t.2.2)], by simp [tieD], by simp, ?_⟩
    simp [a1, a2, tieD]
  have z1 : ts.length ≤ sizeLine := le_size (by omega)
  simp [b_led, ht, k1, z1]
theorem led_ok {nm : D} {φ : Int → Int} {dt : D} (ht : tupOf dt = some (ts.map tieD)) (h60 : ts.length ≤ 1000) (h : ∀ t ∈ ts, ixO nm (.int t.2.1) s = some (.int (φ t.2.1)) ∧ ixO nm (.int t.2.2) s = some (.int (φ t.2.2))) :
    lw.cf (n + 1) "led" [dt, nm] s = .ok (.lst ((ts.map fun t => (t.1, φ t.2.1, φ t.2.2)).map tieD)) s := led_it (tupA ht s).items h60 h
theorem is_mark_int {v : Int} : lw.cf (n + 2) "is_mark" [webD p ts ms, .int v] s = .ok (.bl (decide (0 ≤ v) && decide (v < ms.length))) s := by
  rw [Law.cf_s, body_is_mark, ps_is_mark, N_is_mark]
  by_cases h : 0 ≤ v <;> simp [b_is_mark, whole_int, h]
theorem is_mark_no (h : tyO d s = some (.inl T)) (hT : T = "NoneType" ∨ T = "bool" ∨ T = "str" ∨ T = "tuple" ∨ T = "list" ∨ T = "dict") : lw.cf (n + 2) "is_mark" [webD p ts ms, d] s = .ok (.bl false) s := by
  rw [Law.cf_s, body_is_mark, ps_is_mark, N_is_mark]
  simp [b_is_mark, whole_no h hT]
theorem check_mark_no (h : tyO d s = some (.inl T)) (hT : T = "NoneType" ∨ T = "bool" ∨ T = "str" ∨ T = "tuple" ∨ T = "list" ∨ T = "dict") : lw.cf (n + 3) "check_mark" [webD p ts ms, d] s = .exc (excOf "InvalidMark" ["given"] d) s := by
  rw [Law.cf_s, body_check_mark, ps_check_mark, N_check_mark]
  simp [b_check_mark, is_mark_no h hT]
theorem check_mark_int {v : Int} : lw.cf (n + 3) "check_mark" [webD p ts ms, .int v] s = if 0 ≤ v ∧ v < ms.length then .ok .non s else .exc (excOf "InvalidMark" ["given"] (.int v)) s := by
  rw [Law.cf_s, body_check_mark, ps_check_mark, N_check_mark]
  by_cases h : 0 ≤ v ∧ v < ms.length
  · simp [b_check_mark, is_mark_int, h]
  · have h2 : (decide (0 ≤ v) && decide (v < (ms.length : Int))) = false := by
      rw [← Bool.decide_and]; exact decide_eq_false h
    simp [b_check_mark, is_mark_int, h2, h]
theorem as_one_ok {kept gone : Int} {mk : List Int} (h : WV p ts ms) (hk : 0 ≤ kept ∧ kept < p) (hg : 0 ≤ gone ∧ gone < p) (hne : kept ≠ gone) (hm : ∀ m ∈ mk, (0 ≤ m ∧ m < p) ∧ m ≠ gone) (hn : mk.Nodup) (hml : mk.length ≤ 100) :
    ∃ t, lw.cf (n + 6) "as_one" [webD p ts ms, .int kept, .int gone, .lst (mk.map .int)] s = .ok (webD (p - 1) ((sortT ts).map (reT (pin kept gone))) (mk.map (pin kept gone))) (s ++ t) := by
  rw [Law.cf_s, body_as_one, ps_as_one, N_as_one]
  have h0 := h.p0; have h12 := h.p12; have htl := h.tl
  have hr := rng_i (j := p) (by omega) (by omega)
  have key := forL_rng (lv := []) (g := gNm 5) (n := p.toNat) (body := b_as_one_fb1 (lw.cf (n + 5)) (lw.ci (n + 5)))
    (fun k env s' => (∃ x y, env = [some (webD p ts ms), some (.int kept), some (.int gone), some (.lst (mk.map .int)), some (.ref s.length), x, y]) ∧ ∃ ks vs, s' = s ++ [.dct ks vs] ∧ ks.length = vs.length ∧ ks.length ≤ k ∧ ∀ j : Nat, j < k → lookK ks vs (.inl j) = some (.int (pin kept gone j)))
    (fun _ _ _ _ => okL_nil) (fun k env s' hk ⟨⟨x, y, he⟩, ks, vs, hs, q1, q2, q3⟩ => by
      subst he hs
      have g := app_get (s := s) (a := .dct ks vs)
      refine ⟨_, _, rfl, ?_⟩
      have e3 := set_dct (i := k) (x := .int (pin kept gone k)) g (by omega)
      rw [app_set] at e3
      refine ⟨[some (webD p ts ms), some (.int kept), some (.int gone), some (.lst (mk.map .int)), some (.ref s.length), some (.int k), some (.int (if (k : Int) = gone then kept else k))], s ++ [.dct (putKs ks (.inl (k : Int))) (putVs ks vs (.inl (k : Int)) (.int (pin kept gone k)))], .inl ?_, ⟨_, _, rfl⟩, _, _, rfl, (put_len q1).1, by have := (put_len (x := .int (pin kept gone k)) (k := .inl (k : Int)) q1).2; omega, fun j hj => ?_⟩
      · by_cases c1 : (k : Int) = gone
        · by_cases c2 : gone < kept
          · have e : pin kept gone k = kept - 1 := by simp [pin, c1, c2]
            rw [e] at e3 ⊢
            simp only [c1] at e3 ⊢
            simp [c2, e3]
          · have e : pin kept gone k = kept := by simp [pin, c1, c2]
            rw [e] at e3 ⊢
            simp only [c1] at e3 ⊢
            simp [c2, e3]
        · by_cases c2 : gone < (k : Int)
          · have e : pin kept gone k = (k : Int) - 1 := by simp [pin, c1, c2]
            rw [e] at e3 ⊢
            simp [c1, c2, e3]
          · have e : pin kept gone k = (k : Int) := by simp [pin, c1, c2]
            rw [e] at e3 ⊢
            simp [c1, c2, e3]
      · rw [look_put q1]
        by_cases ej : j = k
        · subst ej; rw [if_pos rfl]
        · rw [if_neg (by simp only [Sum.inl.injEq]; omega)]
          exact q3 j (by omega)) (env := [some (webD p ts ms), some (.int kept), some (.int gone), some (.lst (mk.map .int)), some (.ref s.length), none, none]) (s := s ++ [.dct [] []]) ⟨⟨none, none, rfl⟩, [], [], rfl, rfl, Nat.le_refl _, fun j hj => absurd hj (Nat.not_lt_zero _)⟩
  obtain ⟨env', s', ek, ⟨x, y, rfl⟩, ks, vs, rfl, q1, q2, q3⟩ := key
  have g := app_get (s := s) (a := .dct ks vs)
  have look : ∀ j : Int, 0 ≤ j → j < p → ixO (.ref s.length) (.int j) (s ++ [.dct ks vs]) = some (.int (pin kept gone j)) := fun j j0 j1 => by
    have e : j = ((j.toNat : Nat) : Int) := by omega
    rw [ix_dct g, e]
    exact q3 _ (by omega)
  have k2 := led_ok (n := n + 4) (s := s ++ [.dct ks vs]) (nm := .ref s.length) (φ := pin kept gone) (dt := .tup ((sortT ts).map tieD)) (ts := sortT ts) rfl (by rw [sortT_len]; omega) fun t ht => by
    obtain ⟨_, q1, q2⟩ := h.tv t (sortT_mem.mp ht)
    exact ⟨look _ q1.1 q1.2, look _ q2.1 q2.2⟩
  have k3 : lcL [] (gNm 5) tYesD (eBin isIx (eVar 4) (eVar 5)) [some (webD p ts ms), some (.int kept), some (.int gone), some (.lst (mk.map .int)), some (.ref s.length), none, y] (mk.map .int) (s ++ [.dct ks vs]) = .ok (mk.map fun m => .int (pin kept gone m)) (s ++ [.dct ks vs]) := by
    refine lcL_mapf okL_nil fun m hm' => ⟨[some (webD p ts ms), some (.int kept), some (.int gone), some (.lst (mk.map .int)), some (.ref s.length), some (.int m), y], by simp, by simp, ?_⟩
    have := look m (hm m hm').1.1 (hm m hm').1.2
    simp [this]
  have z : (mk.map fun m => D.int (pin kept gone m)).length ≤ sizeLine := le_size (by simp; omega)
  have em : (mk.map fun m => D.int (pin kept gone m)) = (mk.map (pin kept gone)).map .int := by simp
  have mkw := web_make (s := s ++ [.dct ks vs]) (N := n + 5) (by omega) (WV.pin h.sort hk hg hne hm hn) (dt := .tup (((sortT ts).map (reT (pin kept gone))).map tieD)) rfl
  rw [← em] at mkw
  refine ⟨[.dct ks vs, .dead], ?_⟩
  have e2 : ((sortT ts).map fun t => (t.1, pin kept gone t.2.1, pin kept gone t.2.2)) = (sortT ts).map (reT (pin kept gone)) := rfl
  rw [e2] at k2
  simp [-List.map_map] at mkw z
  simp [-List.map_map, b_as_one, hr, ek, k2, k3, z, mkw]
theorem cut_erase {α : Type} {f : α → D} {l : List α} {k : Nat} (hk : k < l.length) : cutA (l.map f) none (some (k : Int)) ++ cutA (l.map f) (some ((k : Int) + 1)) none = (l.eraseIdx k).map f := by
  have e1 : ((k : Int) + 1) = ((k + 1 : Nat) : Int) := by omega
  rw [e1, cut_lo (by simp; omega), cut_hi (by simp; omega), ← erase_map, List.eraseIdx_eq_take_drop_succ]
theorem mem_erase {l : List Int} (hn : l.Nodup) {k : Nat} (hk : k < l.length) {x : Int} (hx : x ∈ l.eraseIdx k) : x ≠ l[k] := by
  have hp := erase_perm l k hk
  have hn2 : (l[k] :: l.eraseIdx k).Nodup := hp.symm.nodup hn
  rw [List.nodup_cons] at hn2
  exact fun e => hn2.1 (e ▸ hx)
theorem pinched_same {i : Nat} (hi : i < ms.length) : lw.cf (n + 4) "pinched" [webD p ts ms, .int i, .int i] s = .exc (excOf "InvalidMark" ["given"] (.int i)) s := by
  rw [Law.cf_s, body_pinched, ps_pinched, N_pinched]
  have ci : (i : Int) < ms.length := by omega
  simp [b_pinched, check_web_ok, check_mark_int, is_mark_int, ci]
theorem pinched_ok {i j : Nat} (h : WV p ts ms) (hi : i < ms.length) (hj : j < ms.length) (hne : i ≠ j) : ∃ t, lw.cf (n + 7) "pinched" [webD p ts ms, .int i, .int j] s = .ok (webD (p - 1) ((sortT ts).map (reT (pin ms[i] ms[j]))) ((ms.eraseIdx j).map (pin ms[i] ms[j]))) (s ++ t) := by
  have hml := h.ml
  have hne' : ms[i] ≠ ms[j] := fun e => hne (by
    have z1 := idxI_get h.nd hi
    have z2 := idxI_get h.nd hj
    rw [e] at z1; omega)
  obtain ⟨t, e⟩ := as_one_ok (n := n) (s := s) (mk := ms.eraseIdx j) h (h.mv _ (List.getElem_mem hi)) (h.mv _ (List.getElem_mem hj)) hne' (fun m hm => ⟨h.mv m ((List.eraseIdx_sublist ms j).mem hm), mem_erase h.nd hj hm⟩) (h.nd.sublist (List.eraseIdx_sublist ms j)) (by have := List.length_eraseIdx_le ms j; omega)
  refine ⟨t, ?_⟩
  rw [Law.cf_s, body_pinched, ps_pinched, N_pinched]
  have ci : (i : Int) < ms.length := by omega
  have cj : (j : Int) < ms.length := by omega
  have cn : ((j : Int) = i) = False := eq_false (by omega)
  have gi := at_map (f := D.int) hi
  have gj := at_map (f := D.int) hj
  have ce := cut_erase (f := D.int) hj
  have z : (ms.eraseIdx j).length ≤ sizeLine := le_size (by have := List.length_eraseIdx_le ms j; omega)
  simp [-List.map_append, -List.map_map, b_pinched, check_web_ok, check_mark_int, is_mark_int, ci, cj, cn, gi, gj, ce, z, e]
theorem pinched_mark {a b : D} {y : Exn} (h : lw.cf (n + 3) "check_mark" [webD p ts ms, a] s = .exc y s) : lw.cf (n + 4) "pinched" [webD p ts ms, a, b] s = .exc y s := by
  rw [Law.cf_s, body_pinched, ps_pinched, N_pinched]
  simp [b_pinched, check_web_ok, h]
theorem pinched_mark2 {i : Int} (hi : 0 ≤ i ∧ i < ms.length) (h : lw.cf (n + 3) "is_mark" [webD p ts ms, d] s = .ok (.bl false) s) : lw.cf (n + 4) "pinched" [webD p ts ms, .int i, d] s = .exc (excOf "InvalidMark" ["given"] d) s := by
  rw [Law.cf_s, body_pinched, ps_pinched, N_pinched]
  simp [b_pinched, check_web_ok, check_mark_int, hi, h]
theorem check_tie_int {v : Int} : lw.cf (n + 2) "check_tie" [webD p ts ms, .int v] s = if 0 ≤ v ∧ v < ts.length then .ok .non s else .exc (excOf "InvalidTie" ["given"] (.int v)) s := by
  rw [Law.cf_s, body_check_tie, ps_check_tie, N_check_tie]
  by_cases h0 : 0 ≤ v
  · by_cases h1 : v < ts.length
    · simp [b_check_tie, whole_int, h0, h1, sortT_len]
    · simp [b_check_tie, whole_int, h0, h1, sortT_len]
  · simp [b_check_tie, whole_int, h0]
theorem check_tie_no (h : tyO d s = some (.inl T)) (hT : T = "NoneType" ∨ T = "bool" ∨ T = "str" ∨ T = "tuple" ∨ T = "list" ∨ T = "dict") : lw.cf (n + 2) "check_tie" [webD p ts ms, d] s = .exc (excOf "InvalidTie" ["given"] d) s := by
  rw [Law.cf_s, body_check_tie, ps_check_tie, N_check_tie]
  simp [b_check_tie, whole_no h hT]
theorem less_tie_ok {k : Nat} (h : WV p ts ms) (hk : k < ts.length) : lw.cf (n + 6) "less_tie" [webD p ts ms, .int k] s = .ok (webD p ((sortT ts).eraseIdx k) ms) (s ++ [.dead]) := by
  rw [Law.cf_s, body_less_tie, ps_less_tie, N_less_tie]
  have hk' : k < (sortT ts).length := by rw [sortT_len]; exact hk
  have ce := cut_erase (f := tieD) hk'
  have htl := h.tl
  have z : ((sortT ts).eraseIdx k).length ≤ sizeLine := le_size (by have := List.length_eraseIdx_le (sortT ts) k; rw [sortT_len] at this; omega)
  have mkw := web_make (s := s) (N := n + 5) (by omega) (h.sort.less k) (dt := .tup (((sortT ts).eraseIdx k).map tieD)) rfl
  simp [-List.map_append, -List.map_map, b_less_tie, ce, z, mkw]
theorem without_ok {k : Nat} (h : WV p ts ms) (hk : k < ts.length) : lw.cf (n + 7) "without_tie" [webD p ts ms, .int k] s = .ok (webD p ((sortT ts).eraseIdx k) ms) (s ++ [.dead]) := by
  rw [Law.cf_s, body_without_tie, ps_without_tie, N_without_tie]
  have ck : (k : Int) < ts.length := by omega
  simp [b_without_tie, check_web_ok, check_tie_int, ck, less_tie_ok h hk]
theorem without_no {y : Exn} (h : lw.cf (n + 2) "check_tie" [webD p ts ms, d] s = .exc y s) : lw.cf (n + 3) "without_tie" [webD p ts ms, d] s = .exc y s := by
  rw [Law.cf_s, body_without_tie, ps_without_tie, N_without_tie]
  simp [b_without_tie, check_web_ok, h]
theorem pinched_tie_no {y : Exn} (h : lw.cf (n + 2) "check_tie" [webD p ts ms, d] s = .exc y s) : lw.cf (n + 3) "pinched_tie" [webD p ts ms, d] s = .exc y s := by
  rw [Law.cf_s, body_pinched_tie, ps_pinched_tie, N_pinched_tie]
  simp [b_pinched_tie, check_web_ok, h]
theorem pinched_tie_same {k : Nat} (hk : k < (sortT ts).length) (hb : (sortT ts)[k].2.1 = (sortT ts)[k].2.2 ∨ ((sortT ts)[k].2.1 ∈ ms ∧ (sortT ts)[k].2.2 ∈ ms)) : lw.cf (n + 3) "pinched_tie" [webD p ts ms, .int k] s = .exc (excOf "InvalidTie" ["given"] (.int k)) s := by
  rw [Law.cf_s, body_pinched_tie, ps_pinched_tie, N_pinched_tie]
  have ck : (k : Int) < ts.length := by rw [sortT_len] at hk; omega
  have ga := at_map (f := tieD) hk
  have ta : tieD (sortT ts)[k] = .tup [.str (sortT ts)[k].1, .int (sortT ts)[k].2.1, .int (sortT ts)[k].2.2] := rfl
  rw [ta] at ga
  by_cases e : (sortT ts)[k].2.1 = (sortT ts)[k].2.2
  · simp [b_pinched_tie, check_web_ok, check_tie_int, ck, ga, e]
  · obtain ⟨m1, m2⟩ := hb.resolve_left e
    simp [b_pinched_tie, check_web_ok, check_tie_int, ck, ga, e, m1, m2]
theorem pinched_tie_ok {k : Nat} (h : WV p ts ms) (hk : k < (sortT ts).length) (hne : (sortT ts)[k].2.1 ≠ (sortT ts)[k].2.2) (hnb : ¬ ((sortT ts)[k].2.1 ∈ ms ∧ (sortT ts)[k].2.2 ∈ ms)) :
    ∃ t, lw.cf (n + 7) "pinched_tie" [webD p ts ms, .int k] s = .ok (webD (p - 1) ((sortT ((sortT ts).eraseIdx k)).map (reT (pin (if (sortT ts)[k].2.2 < (sortT ts)[k].2.1 then (sortT ts)[k].2.2 else (sortT ts)[k].2.1) (if (sortT ts)[k].2.2 > (sortT ts)[k].2.1 then (sortT ts)[k].2.2 else (sortT ts)[k].2.1)))) (ms.map (pin (if (sortT ts)[k].2.2 < (sortT ts)[k].2.1 then (sortT ts)[k].2.2 else (sortT ts)[k].2.1) (if (sortT ts)[k].2.2 > (sortT ts)[k].2.1 then (sortT ts)[k].2.2 else (sortT ts)[k].2.1)))) (s ++ t) := by
  have hml := h.ml
  have hkt : k < ts.length := by rw [sortT_len] at hk; exact hk
  obtain ⟨_, ti, tj⟩ := h.tv _ (sortT_mem.mp (List.getElem_mem hk))
  have ga := at_map (f := tieD) hk
  have ta : tieD (sortT ts)[k] = .tup [.str (sortT ts)[k].1, .int (sortT ts)[k].2.1, .int (sortT ts)[k].2.2] := rfl
  rw [ta] at ga
  generalize (sortT ts)[k].2.1 = i at *
  generalize (sortT ts)[k].2.2 = j at *
  obtain ⟨kept, hkept⟩ : ∃ v, v = (if j < i then j else i) := ⟨_, rfl⟩
  obtain ⟨gone, hgone⟩ : ∃ v, v = (if j > i then j else i) := ⟨_, rfl⟩
  rw [← hkept, ← hgone]
  have hkg : kept ≠ gone ∧ (0 ≤ kept ∧ kept < p) ∧ (0 ≤ gone ∧ gone < p) ∧ ¬ (kept ∈ ms ∧ gone ∈ ms) := by
    rw [hkept, hgone]
    by_cases c : j < i
    · rw [if_pos c, if_neg (by omega)]; exact ⟨by omega, tj, ti, fun z => hnb ⟨z.2, z.1⟩⟩
    · rw [if_neg c, if_pos (by omega)]; exact ⟨by omega, ti, tj, hnb⟩
  obtain ⟨c1, c2, c3, c4⟩ := hkg
  obtain ⟨mk, hmk⟩ : ∃ mk, mk = ms.map fun m => if m = gone then kept else m := ⟨_, rfl⟩
  have em : mk.map (pin kept gone) = ms.map (pin kept gone) := by
    rw [hmk, List.map_map]
    refine List.map_congr_left fun m _ => ?_
    show pin kept gone (if m = gone then kept else m) = _
    by_cases e : m = gone
    · rw [if_pos e, e, pin_gone c1]
    · rw [if_neg e]
  obtain ⟨t, e⟩ := as_one_ok (n := n) (s := s ++ [.dead]) (mk := mk) (h.sort.less k) c2 c3 c1 (fun m hm => by
    rw [hmk] at hm
    obtain ⟨x, hx, rfl⟩ := List.mem_map.mp hm
    by_cases e : x = gone
    · rw [if_pos e]; exact ⟨c2, c1⟩
    · rw [if_neg e]; exact ⟨h.mv x hx, e⟩) (by
    rw [hmk]
    refine nodup_map h.nd fun x hx y hy e => ?_
    by_cases e1 : x = gone
    · by_cases e2 : y = gone
      · rw [e1, e2]
      · rw [if_pos e1, if_neg e2] at e
        exact absurd ⟨e ▸ hy, e1 ▸ hx⟩ c4
    · by_cases e2 : y = gone
      · rw [if_neg e1, if_pos e2] at e
        exact absurd ⟨e ▸ hx, e2 ▸ hy⟩ c4
      · rw [if_neg e1, if_neg e2] at e
        exact e) (by rw [hmk]; simp; omega)
  rw [em] at e
  refine ⟨[.dead] ++ t, ?_⟩
  rw [← List.append_assoc, ← e]
  rw [Law.cf_s, body_pinched_tie, ps_pinched_tie, N_pinched_tie]
  have ck : (k : Int) < ts.length := by omega
  have lt := less_tie_ok (n := n) (s := s) h hkt
  have o1 : ∀ s, opMin [.int i, .int j] s = some (.int kept, s) := fun s => by rw [hkept]; rfl
  have o2 : ∀ s, opMax [.int i, .int j] s = some (.int gone, s) := fun s => by rw [hgone]; rfl
  generalize (sortT ts)[k].1 = x at *
  have k1 : lcL [] (gNm 8) tYesD (eIf (tBl (eBin (isCmp .Eq) (eVar 8) (eVar 7))) (eVar 6) (eVar 8)) [some (webD p ts ms), some (.int k), none, some (.str x), some (.int i), some (.int j), some (.int kept), some (.int gone), none] (ms.map .int) s = .ok (mk.map .int) s := by
    rw [hmk, List.map_map]
    refine lcL_mapf okL_nil fun m _ => ⟨[some (webD p ts ms), some (.int k), none, some (.str x), some (.int i), some (.int j), some (.int kept), some (.int gone), some (.int m)], by simp, by simp, ?_⟩
    by_cases e : m = gone <;> simp [e]
  have z : mk.length ≤ sizeLine := le_size (by rw [hmk]; simp; omega)
  by_cases mi : i ∈ ms
  · have mj : j ∉ ms := fun z => hnb ⟨mi, z⟩
    simp [-List.map_map, b_pinched_tie, check_web_ok, check_tie_int, ck, ga, hne, mi, mj, o1, o2, k1, z, lt]
  · simp [-List.map_map, b_pinched_tie, check_web_ok, check_tie_int, ck, ga, hne, mi, o1, o2, k1, z, lt]
end
end Lk12p

set_option Elab.async false
set_option linter.all false
set_option maxRecDepth 10000
set_option maxHeartbeats 2000000
namespace Lk12p
open PySem PySem.Spec PyProof.Rows L2 Pv
open Lk12 hiding R P kit names run ob
section
variable {p : Int} {ts : List Tie} {ms : List Int} {s s' : DS} {n : Nat} {d : D} {T : String}
/-- the neighbours' lists -/
def nearD (P : Nat) (N : Nat → List Int) : D := .lst ((List.range P).map fun (x : Nat) => .lst ((N x).map .int))
theorem near_ok (h : WV p ts ms) : ∃ (N : Nat → List Int) (t : DS), lw.cf (n + 1) "neighbours_in" [webD p ts ms] s = .ok (nearD p.toNat N) (s ++ t) ∧ ∀ x, x < p.toNat → (N x).Nodup ∧ ∀ y, y ∈ N x ↔ (x : Int) ≠ y ∧ Adj ts x y := by
  rw [Law.cf_s, body_neighbours_in, ps_neighbours_in, N_neighbours_in]
  have h0 := h.p0; have h12 := h.p12; have htl := h.tl
  have hr := rng_i (j := p) (by omega) (by omega)
  obtain ⟨P, hP⟩ : ∃ P, P = p.toNat := ⟨_, rfl⟩
  obtain ⟨refs, hrefs⟩ : ∃ refs, refs = (List.range P).map fun (k : Nat) => D.ref (s.length + k) := ⟨_, rfl⟩
  have c1 := lc_dicts (env := [some (webD p ts ms), none, none, none, none, none]) (i := 2) (rngL 0 P) s
  rw [rngL_len, ← hrefs] at c1
  have hrl : refs.length ≤ sizeLine := le_size (by rw [hrefs]; simp; omega)
  obtain ⟨H0, hH0⟩ : ∃ H0, H0 = s ++ List.replicate P (.dct [] []) ++ [.lst refs] := ⟨_, rfl⟩
  have nb0 : NBs s P refs H0 (fun _ _ => False) := by
    refine ⟨fun i hi => ?_, by rw [hH0]; simp; omega, ?_, fun _ _ q => q.elim, fun x hx => ⟨[], [], ?_, rfl, List.nodup_nil, fun y => by simp⟩⟩
    · rw [hH0, List.append_assoc, List.getElem?_append_left hi]
    · rw [hH0, List.getElem?_append_right (by simp)]; simp
    · rw [hH0, List.append_assoc, List.getElem?_append_right (Nat.le_add_right _ _), Nat.add_sub_cancel_left, List.getElem?_append_left (by simpa using hx), List.getElem?_replicate, if_pos hx]
      rfl
  have ixr : ∀ (H : DS) (M : Nat → Int → Prop) (i : Int), NBs s P refs H M → 0 ≤ i → i < p → ixO (.ref (s.length + P)) (.int i) H = some (.ref (s.length + i.toNat)) := fun H M i nb i0 i1 => by
    obtain ⟨k, rfl⟩ : ∃ k : Nat, i = k := ⟨i.toNat, by omega⟩
    rw [ix_ref nb.cell, hrefs, at_map (by simp; omega)]
    simp
  have key := forL_ok (lv := []) (g := gTp 3 (gsCons (gNm 2) (gsCons (gNm 3) (gsCons (gNm 4) gsNil)))) (body := b_neighbours_in_fb1 (lw.cf n) (lw.ci n)) (fun l env H => ∃ us vs x2 x3 x4, sortT ts = us ++ vs ∧ l = vs.map tieD ∧ env = [some (webD p ts ms), some (.ref (s.length + P)), x2, x3, x4, none] ∧ NBs s P refs H (fun x y => (x : Int) ≠ y ∧ Adj us x y))
    (fun _ _ _ _ => okL_nil) (fun d r env H ⟨us, vs, x2, x3, x4, e1, e2, e3, nb⟩ => by
      subst e3
      cases vs with
      | nil => cases e2
      | cons t vs =>
        obtain ⟨rfl, rfl⟩ := List.cons.inj e2
        have ht : t ∈ ts := sortT_mem.mp (by rw [e1]; simp)
        obtain ⟨_, ti, tj⟩ := h.tv t ht
        have hus : ∀ u ∈ us ++ [t], u ∈ ts := fun u hu => sortT_mem.mp (by
          rw [e1]
          rcases List.mem_append.mp hu with q | q
          · exact List.mem_append_left _ q
          · simp at q; subst q; simp)
        have rng' : ∀ (x : Nat) (y : Int), ((x : Int) ≠ y ∧ Adj (us ++ [t]) x y) → 0 ≤ y ∧ y < 12 := fun x y ⟨_, u, hu, q⟩ => by
          obtain ⟨_, q1, q2⟩ := h.tv u (hus u hu)
          rcases q with ⟨_, q⟩ | ⟨q, _⟩ <;> omega
        have ne := fun e => (e : us ++ t :: vs = us ++ [t] ++ vs)
        refine ⟨[some (webD p ts ms), some (.ref (s.length + P)), some (.str t.1), some (.int t.2.1), some (.int t.2.2), none], H, by simp [tieD], ?_⟩
        by_cases hij : t.2.1 = t.2.2
        · refine ⟨[some (webD p ts ms), some (.ref (s.length + P)), some (.str t.1), some (.int t.2.1), some (.int t.2.2), none], H, .inl (by simp [hij]), us ++ [t], vs, _, _, _, by rw [e1]; simp, rfl, rfl, nb.congr (fun x y hx => ?_) rng'⟩
          constructor
          · rintro ⟨a, b⟩; exact ⟨a, b.of fun u hu => List.mem_append_left _ hu⟩
          · rintro ⟨a, u, hu, q⟩
            refine ⟨a, u, ?_, q⟩
            rcases List.mem_append.mp hu with z | z
            · exact z
            · simp at z; subst z
              rcases q with ⟨q1, q2⟩ | ⟨q1, q2⟩ <;> exact absurd (by omega) a
        · obtain ⟨H1, s1, nb1⟩ := nb.put (x := t.2.1.toNat) (y := t.2.2) (by omega) (by omega)
          obtain ⟨H2, s2, nb2⟩ := nb1.put (x := t.2.2.toNat) (y := t.2.1) (by omega) (by omega)
          have i1 := ixr H _ t.2.1 nb ti.1 ti.2
          have i2 := ixr H1 _ t.2.2 nb1 tj.1 tj.2
          refine ⟨[some (webD p ts ms), some (.ref (s.length + P)), some (.str t.1), some (.int t.2.1), some (.int t.2.2), none], H2, .inl (by simp [hij, i1, s1, i2, s2]), us ++ [t], vs, _, _, _, by rw [e1]; simp, rfl, rfl, nb2.congr (fun x y hx => ?_) rng'⟩
          constructor
          · rintro ((⟨a, b⟩ | ⟨a, b⟩) | ⟨a, b⟩)
            · exact ⟨a, b.of fun u hu => List.mem_append_left _ hu⟩
            · exact ⟨by omega, t, by simp, .inl ⟨by omega, b.symm⟩⟩
            · exact ⟨by omega, t, by simp, .inr ⟨b.symm, by omega⟩⟩
          · rintro ⟨a, u, hu, q⟩
            rcases List.mem_append.mp hu with z | z
            · exact .inl (.inl ⟨a, u, z, q⟩)
            · simp at z; subst z
              rcases q with ⟨q1, q2⟩ | ⟨q1, q2⟩
              · exact .inl (.inr ⟨by omega, q2.symm⟩)
              · exact .inr ⟨by omega, q1.symm⟩) ((sortT ts).map tieD) [some (webD p ts ms), some (.ref (s.length + P)), none, none, none, none] H0 ⟨[], sortT ts, none, none, none, rfl, rfl, rfl, nb0.congr (fun x y _ => ⟨fun q => q.elim, fun ⟨_, u, hu, _⟩ => nomatch hu⟩) (fun x y ⟨_, u, hu, _⟩ => nomatch hu)⟩
  obtain ⟨env', H, ek, us, vs, x2, x3, x4, e1, e2, rfl, nb⟩ := key
  have evs : vs = [] := by cases vs with
    | nil => rfl
    | cons _ _ => cases e2
  subst evs
  rw [List.append_nil] at e1
  have adj : ∀ x y, Adj us x y ↔ Adj ts x y := fun x y => ⟨fun q => q.of fun u hu => sortT_mem.mp (e1 ▸ hu), fun q => q.of fun u hu => e1 ▸ sortT_mem.mpr hu⟩
  -- the lists
  have ch : ∀ x : Nat, ∃ ns : List Int, x < P → ns.Nodup ∧ ns.length ≤ 12 ∧ (∃ vs, H[s.length + x]? = some (.dct (ns.map Sum.inl) vs)) ∧ ∀ y, y ∈ ns ↔ (x : Int) ≠ y ∧ Adj us x y := fun x => by
    by_cases hx : x < P
    · obtain ⟨ns, vs, q1, q2, q3, q4⟩ := nb.dct x hx
      exact ⟨ns, fun _ => ⟨q3, NBs.small nb.rng q3 q4, ⟨vs, q1⟩, q4⟩⟩
    · exact ⟨[], fun z => absurd z hx⟩
  obtain ⟨N, hN⟩ : ∃ N : Nat → List Int, ∀ x, x < P → (N x).Nodup ∧ (N x).length ≤ 12 ∧ (∃ vs, H[s.length + x]? = some (.dct ((N x).map Sum.inl) vs)) ∧ ∀ y, y ∈ N x ↔ (x : Int) ≠ y ∧ Adj us x y := ⟨fun x => (ch x).choose, fun x => (ch x).choose_spec⟩
  obtain ⟨t, ht⟩ := ext_of (by rw [nb.len]; omega) nb.pre
  refine ⟨fun x => sortI (N x), t, ?_, fun x hx => ?_⟩
  · have ok : okL [(s.length + P, refs)] H := fun q hq => by simp at hq; subst hq; exact nb.cell
    have c2 : lcL [(s.length + P, refs)] (gNm 5) tYesD (eCallB (opSortedX false) (aCons (eVar 5) aNil)) [some (webD p ts ms), some (.ref (s.length + P)), x2, x3, x4, none] refs H = .ok ((List.range P).map fun (x : Nat) => .lst ((sortI (N x)).map .int)) H := by
      rw [hrefs] at ok ⊢
      refine lcL_mapf ok fun x hx => ⟨[some (webD p ts ms), some (.ref (s.length + P)), x2, x3, x4, some (.ref (s.length + x))], by simp, by simp, ?_⟩
      obtain ⟨_, q2, ⟨vs, q3⟩, _⟩ := hN x (List.mem_range.mp hx)
      have so := sortedX_dct (m := false) q3 (by omega)
      simp [so]
    have it := items_ref nb.cell
    have lc0 : (s ++ List.replicate P (DO.dct [] [])).length = s.length + P := by simp
    have z : P ≤ sizeLine := le_size (by omega)
    rw [← hP, ← ht]
    simp [-List.map_map, b_neighbours_in, hr, ← hP, c1, hrl, ← hH0, ek, it, c2, z, nearD]
  · obtain ⟨q1, _, _, q4⟩ := hN x (by omega)
    exact ⟨(sortI_perm _).symm.nodup q1, fun y => by rw [(sortI_perm _).mem_iff, q4, adj]⟩
theorem reached_ok {N : Nat → List Int} {x : Int} (h0 : 0 ≤ p) (h12 : p ≤ 12) (hv : ∀ t ∈ ts, (0 ≤ t.2.1 ∧ t.2.1 < p) ∧ 0 ≤ t.2.2 ∧ t.2.2 < p) (hN : ∀ x, x < p.toNat → (N x).Nodup ∧ ∀ y, y ∈ N x ↔ (x : Int) ≠ y ∧ Adj ts x y) (hx : 0 ≤ x ∧ x < p) :
    ∃ t, lw.cf (n + 1) "reached" [nearD p.toNat N, .int x] s = .ok (.lst ((cls p ts (rp ts x)).map .int)) (s ++ t) := by
  rw [Law.cf_s, body_reached, ps_reached, N_reached]
  have adjr : ∀ y z, Adj ts y z → (0 ≤ z ∧ z < p) := fun y z ⟨u, hu, q⟩ => by
    obtain ⟨q1, q2⟩ := hv u hu
    rcases q with ⟨_, e⟩ | ⟨e, _⟩
    · rw [← e]; exact q2
    · rw [← e]; exact q1
  obtain ⟨L, hL⟩ : ∃ L, L = s.length := ⟨_, rfl⟩
  have key := whD_ok (t := b_reached_wt1 (lw.cf n) (lw.ci n)) (body := b_reached_wb1 (lw.cf n) (lw.ci n))
    (fun m env H => (∃ x4 x5 x6, env = [some (nearD p.toNat N), some (.int x), some (.ref L), some (.ref (L + 1)), x4, x5, x6]) ∧ (∀ i, i < s.length → H[i]? = s[i]?) ∧ s.length + 2 ≤ H.length ∧ ∃ sn ws : List Int, ∃ vs, H[L]? = some (.dct (sn.map Sum.inl) vs) ∧ sn.length = vs.length ∧ H[L + 1]? = some (.lst (ws.map .int)) ∧ sn.Nodup ∧ x ∈ sn ∧ (∀ y ∈ sn, (0 ≤ y ∧ y < p) ∧ rp ts y = rp ts x) ∧ (∀ w ∈ ws, w ∈ sn) ∧ (∀ y ∈ sn, y ∉ ws → ∀ z, Adj ts y z → z ∈ sn) ∧ m = 2 * (p.toNat - sn.length) + ws.length ∧ m ≤ 24)
    (fun env H => (∃ x4 x5 x6, env = [some (nearD p.toNat N), some (.int x), some (.ref L), some (.ref (L + 1)), x4, x5, x6]) ∧ (∀ i, i < s.length → H[i]? = s[i]?) ∧ s.length + 2 ≤ H.length ∧ ∃ sn : List Int, ∃ vs, H[L]? = some (.dct (sn.map Sum.inl) vs) ∧ sn.Nodup ∧ sn.length ≤ 12 ∧ (sortI sn) = cls p ts (rp ts x))
    (fun m env H ⟨⟨x4, x5, x6, he⟩, hpre, hlen, sn, ws, vs, g1, g2, g3, hn, hxs, hr, hw, hc, hm, hm24⟩ => by
      subst he
      have hsl : sn.length ≤ p.toNat := nodup_le hn fun y hy => by have := (hr y hy).1; omega
      rcases List.eq_nil_or_concat ws with e | ⟨ws0, hh, e⟩
      · subst e
        left
        refine ⟨H, by simp [eq_ref_nil g3], ⟨x4, x5, x6, rfl⟩, hpre, hlen, sn, vs, g1, hn, by omega, ?_⟩
        refine lt_ext (sortI_lt hn) cls_lt fun y => ?_
        rw [(sortI_perm sn).mem_iff, mem_cls]
        exact ⟨hr y, fun q => rp_closed (S := fun y => y ∈ sn) (fun a b hab ha => hc a ha (by simp) b hab) q.2.symm hxs⟩
      · rw [List.concat_eq_append] at e
        subst e
        right
        have ne := eq_ref_ints g3 (by simp)
        refine ⟨H, by simp [ne], ?_⟩
        have hhs : hh ∈ sn := hw hh (by simp)
        obtain ⟨⟨hh0, hh1⟩, hhr⟩ := hr hh hhs
        have g3' : H[L + 1]? = some (.lst (ws0.map D.int ++ [.int hh])) := by rw [g3]; simp
        have p1 := pop_last g3'
        obtain ⟨k, rfl⟩ : ∃ k : Nat, hh = k := ⟨hh.toNat, by omega⟩
        have hkP : k < p.toNat := by omega
        obtain ⟨nN, mN⟩ := hN k hkP
        obtain ⟨H1, hH1⟩ : ∃ H1, H1 = H.set (L + 1) (.lst (ws0.map .int)) := ⟨_, rfl⟩
        rw [← hH1] at p1
        have k1 : H1[L]? = some (.dct (sn.map Sum.inl) vs) := by rw [hH1, List.getElem?_set_ne (by omega)]; exact g1
        have k2 : H1[L + 1]? = some (.lst (ws0.map .int)) := by rw [hH1, List.getElem?_set_self (lt_of_get g3)]
        have kl : H1.length = H.length := by rw [hH1]; simp
        have ixn : ixO (nearD p.toNat N) (.int k) H1 = some (.lst ((N k).map .int)) := by
          unfold nearD
          rw [ix_lst, at_map (by simpa using hkP)]
          simp
        obtain ⟨fr, hfr⟩ : ∃ fr, fr = (N k).filter fun o => !decide (o ∈ sn) := ⟨_, rfl⟩
        have fn : fr.Nodup := by rw [hfr]; exact nN.filter _
        have fd : ∀ o ∈ fr, o ∉ sn := fun o ho => by
          rw [hfr] at ho
          simpa using (List.mem_filter.mp ho).2
        have fm : ∀ o ∈ fr, (k : Int) ≠ o ∧ Adj ts k o := fun o ho => by
          rw [hfr] at ho
          exact (mN o).mp (List.mem_filter.mp ho).1
        have fc : ∀ o, Adj ts k o → o ∈ sn ∨ o ∈ fr := fun o ho => by
          by_cases q : o ∈ sn
          · exact .inl q
          · refine .inr ?_
            rw [hfr, List.mem_filter]
            exact ⟨(mN o).mpr ⟨fun e => q (e ▸ hhs), ho⟩, by simp [q]⟩
        have nn : (sn ++ fr).Nodup := by
          rw [List.nodup_append]
          exact ⟨hn, fn, fun a ha b hb e => fd b hb (e ▸ ha)⟩
        have rr : ∀ y ∈ sn ++ fr, (0 ≤ y ∧ y < p) ∧ rp ts y = rp ts x := fun y hy => by
          rcases List.mem_append.mp hy with q | q
          · exact hr y q
          · have a := (fm y q).2
            exact ⟨adjr _ _ a, (rp_adj a).symm.trans hhr⟩
        have hsl2 : (sn ++ fr).length ≤ p.toNat := nodup_le nn fun y hy => by have := (rr y hy).1; omega
        rw [List.length_append] at hsl2
        have c1 : lcL [] (gNm 6) (b_reached_ct1 (lw.cf n) (lw.ci n)) (eVar 6) [some (nearD p.toNat N), some (.int x), some (.ref L), some (.ref (L + 1)), some (.int k), x5, none] ((N k).map .int) H1 = .ok (fr.map .int) H1 := by
          rw [hfr]
          refine lcL_filterf okL_nil fun o _ => ⟨[some (nearD p.toNat N), some (.int x), some (.ref L), some (.ref (L + 1)), some (.int k), x5, some (.int o)], by simp, ?_, fun _ => by simp⟩
          have q := in_dct (x := .int o) (k := .inl o) (seqOf_d k1) (dctOf_d k1) rfl
          rw [look_in g2] at q
          simp [q]
        have zf : fr.length ≤ sizeLine := le_size (by omega)
        have c2 : dcL [] (gNm 6) tYesD (eVar 6) (eC (.bl true)) [some (nearD p.toNat N), some (.int x), some (.ref L), some (.ref (L + 1)), some (.int k), some (.lst (fr.map .int)), none] (fr.map .int) H1 = .ok (fr.map fun o => ((.inl o : Key), .bl true)) H1 := by
          refine dcL_mapf okL_nil fun o _ => ⟨[some (nearD p.toNat N), some (.int x), some (.ref L), some (.ref (L + 1)), some (.int k), some (.lst (fr.map .int)), some (.int o)], .int o, by simp, by simp, by simp, rfl, by simp⟩
        have mf := merge_fresh (v := .bl true) (fr := fr) (sn := []) (vs := []) fn (fun _ _ => by simp)
        simp only [List.map_nil, List.nil_append] at mf
        obtain ⟨H2, hH2⟩ : ∃ H2, H2 = H1 ++ [.dct (fr.map Sum.inl) (fr.map fun _ => D.bl true)] := ⟨_, rfl⟩
        have u1 : H2[L]? = some (.dct (sn.map Sum.inl) vs) := by rw [hH2]; exact get_app k1
        have u2 : H2[H1.length]? = some (.dct (fr.map Sum.inl) (fr.map fun _ => D.bl true)) := by rw [hH2]; simp
        have up := upd_ref (n := L) (m := H1.length) (by omega) u1 u2 (by omega) fn fd
        obtain ⟨H3, hH3⟩ : ∃ H3, H3 = H2.set L (.dct ((sn ++ fr).map Sum.inl) (vs ++ fr.map fun _ => D.bl true)) := ⟨_, rfl⟩
        rw [← hH3] at up
        have v2 : H3[L + 1]? = some (.lst (ws0.map .int)) := by rw [hH3, List.getElem?_set_ne (by omega), hH2]; exact get_app k2
        have rc1 := rcv_dct k1
        have rc2 := rcv_ref v2
        have rc0 := rcv_ref g3
        have hwl : ws0.length ≤ 200 := by simp only [List.length_append, List.length_cons, List.length_nil] at hm; omega
        have ex := ext_ref (ys := fr.map .int) v2 (le_size (by simp; omega))
        obtain ⟨H4, hH4⟩ : ∃ H4, H4 = H3.set (L + 1) (.lst (ws0.map D.int ++ fr.map .int)) := ⟨_, rfl⟩
        rw [← hH4] at ex
        have l3 : H3.length = H.length + 1 := by rw [hH3, hH2]; simp [kl]
        refine ⟨[some (nearD p.toNat N), some (.int x), some (.ref L), some (.ref (L + 1)), some (.int k), some (.lst (fr.map .int)), x6], H4, .inl ?_, 2 * (p.toNat - (sn ++ fr).length) + (ws0 ++ fr).length, ?_, ⟨_, _, _, rfl⟩, fun i hi => ?_, ?_, sn ++ fr, ws0 ++ fr, vs ++ fr.map fun _ => D.bl true, ?_, ?_, ?_, nn, List.mem_append_left _ hxs, rr, fun w hw' => ?_, fun y hy hyw z hyz => ?_, rfl, ?_⟩
        · simp [p1, rc0, ixn, c1, zf, rc1, c2, mf, ← hH2, up, rc2, ex]
        · simp only [List.length_append, List.length_cons, List.length_nil] at hm ⊢; omega
        · rw [hH4, List.getElem?_set_ne (by omega), hH3, List.getElem?_set_ne (by omega), hH2, List.getElem?_append_left (by omega), hH1, List.getElem?_set_ne (by omega)]
          exact hpre i hi
        · rw [hH4]; simp; omega
        · rw [hH4, List.getElem?_set_ne (by omega), hH3, List.getElem?_set_self (lt_of_get u1)]
        · simp [g2]
        · rw [hH4, List.getElem?_set_self (lt_of_get v2)]; simp
        · rcases List.mem_append.mp hw' with q | q
          · exact List.mem_append_left _ (hw w (by simp [q]))
          · exact List.mem_append_right _ q
        · have hyf : y ∉ fr := fun q => hyw (List.mem_append_right _ q)
          have hys : y ∈ sn := (List.mem_append.mp hy).resolve_right hyf
          by_cases e : y = k
          · subst e
            exact List.mem_append.mpr (fc z hyz)
          · exact List.mem_append_left _ (hc y hys (by
              simp only [List.mem_append, List.mem_singleton, not_or]
              exact ⟨fun q => hyw (List.mem_append_left _ q), e⟩) z hyz)
        · simp only [List.length_append, List.length_cons, List.length_nil] at hm ⊢; omega)
    100000 (2 * (p.toNat - 1) + 1) [some (nearD p.toNat N), some (.int x), some (.ref L), some (.ref (L + 1)), none, none, none] (s ++ [.dct [.inl x] [.bl true], .lst [.int x]]) ⟨⟨none, none, none, rfl⟩, fun i hi => List.getElem?_append_left hi, by simp, [x], [x], [.bl true], by rw [hL]; simp, rfl, by rw [hL]; simp, by simp, by simp, fun y hy => by simp at hy; subst hy; exact ⟨hx, rfl⟩, fun w hw => hw, fun y hy hyw => absurd hy hyw, rfl, by omega⟩ (by omega)
  obtain ⟨env', H, ek, ⟨x4, x5, x6, rfl⟩, hpre, hlen, sn, vs, g1, hn, hl, hcls⟩ := key
  obtain ⟨t, ht⟩ := ext_of (by omega) hpre
  refine ⟨t, ?_⟩
  have so := sortedX_dct (m := false) g1 (by omega)
  rw [hcls] at so
  rw [← ht]
  subst hL
  simp [b_reached, merge_one, ek, so]
end
end Lk12p

set_option Elab.async false
set_option linter.all false
set_option maxRecDepth 10000
set_option maxHeartbeats 2000000
namespace Lk12p
open PySem PySem.Spec PyProof.Rows L2 Pv
open Lk12 hiding R P kit names run ob
section
variable {p : Int} {ts : List Tie} {ms : List Int} {s s' : DS} {n : Nat} {d : D} {T : String}
theorem plain_ok : lw.cf (n + 1) "check_plain_web" [webD p ts []] s = .ok .non s := by
  rw [Law.cf_s, body_check_plain_web, ps_check_plain_web, N_check_plain_web]
  have e := eq_tup_nil (ns := []) (s := s)
  simp at e
  simp [b_check_plain_web, e]
theorem plain_no (hne : ms ≠ []) : lw.cf (n + 1) "check_plain_web" [webD p ts ms] s = .exc (excOf "InvalidWeb" ["given"] (webD p ts ms)) s := by
  rw [Law.cf_s, body_check_plain_web, ps_check_plain_web, N_check_plain_web]
  have e := eq_tup_nil (ns := ms) (s := s)
  simp [b_check_plain_web, e, hne]
theorem plain_no1 (h : tyO d s = some (.inl T)) (hT : T = "NoneType" ∨ T = "bool" ∨ T = "int" ∨ T = "str" ∨ T = "tuple" ∨ T = "list" ∨ T = "dict") : lw.cf (n + 1) "check_plain_web" [d] s = .exc (excOf "InvalidWeb" ["given"] d) s := by
  rw [Law.cf_s, body_check_plain_web, ps_check_plain_web, N_check_plain_web]
  rcases hT with rfl | rfl | rfl | rfl | rfl | rfl | rfl <;> simp [b_check_plain_web, h]
theorem pieces_no {y : Exn} (h : lw.cf (n + 1) "check_plain_web" [d] s = .exc y s) : lw.cf (n + 2) "pieces" [d] s = .exc y s := by
  rw [Law.cf_s, body_pieces, ps_pieces, N_pieces]
  simp [b_pieces, h]
/-- the web of a piece -/
noncomputable def pcW (p : Int) (ts : List Tie) (r : Int) : D := webD ((cls p ts r).length : Nat) (pcT p ts r (sortT ts)) []
theorem pieces_ok (h : WV p ts []) : ∃ c s' t, lw.cf (n + 6) "pieces" [webD p ts []] s = .ok (.ref c) s' ∧ s' = s ++ t ∧ s.length ≤ c ∧ s'[c]? = some (.lst ((reps p ts).map (pcW p ts))) := by
  rw [Law.cf_s, body_pieces, ps_pieces, N_pieces]
  have h0 := h.p0; have h12 := h.p12; have htl := h.tl
  obtain ⟨N, t0, e0, hN⟩ := near_ok (n := n + 4) (s := s) h
  have lr := lrOk_of h0 (by omega)
  have hpl : rngL 0 p.toNat = (plc p).map D.int := by rw [rngL_map]; unfold plc; rw [List.map_map]; rfl
  obtain ⟨C, hC⟩ : ∃ C, C = (s ++ t0).length := ⟨_, rfl⟩
  obtain ⟨H0, hH0⟩ : ∃ H0, H0 = s ++ t0 ++ [.lst []] := ⟨_, rfl⟩
  have hsC : s.length ≤ C := by rw [hC]; simp
  have hfil : ∀ q : Int → Bool, ((plc p).filter q).length ≤ p.toNat := fun q => by
    have := List.length_filter_le q (plc p)
    simpa [plc] using this
  have key := whD_ok (t := b_pieces_wt1 (lw.cf (n + 5)) (lw.ci (n + 5))) (body := b_pieces_wb1 (lw.cf (n + 5)) (lw.ci (n + 5)))
    (fun m env H => ∃ (lf : List Int) (fd : List D) (m0 : Int) (x4 x5 x6 x7 x8 x9 : Option D), env = [some (webD p ts []), some (nearD p.toNat N), some (.lst (lf.map .int)), some (.ref C), x4, x5, x6, x7, x8, x9] ∧ (∀ i, i < s.length → H[i]? = s[i]?) ∧ H[C]? = some (.lst fd) ∧ lf = (plc p).filter (fun y => decide (m0 ≤ rp ts y)) ∧ fd ++ ((reps p ts).filter fun y => decide (m0 ≤ y)).map (pcW p ts) = (reps p ts).map (pcW p ts) ∧ m = lf.length)
    (fun env H => ∃ (x2 x4 x5 x6 x7 x8 x9 : Option D), env = [some (webD p ts []), some (nearD p.toNat N), x2, some (.ref C), x4, x5, x6, x7, x8, x9] ∧ (∀ i, i < s.length → H[i]? = s[i]?) ∧ H[C]? = some (.lst ((reps p ts).map (pcW p ts))))
    (fun m env H ⟨lf, fd, m0, x4, x5, x6, x7, x8, x9, he, hpre, hc, hlf, hfd, hm⟩ => by
      subst he
      by_cases e : lf = []
      · left
        refine ⟨H, by simp [eq_lst_ints, e], _, x4, x5, x6, x7, x8, x9, rfl, hpre, ?_⟩
        have : (reps p ts).filter (fun y => decide (m0 ≤ y)) = [] := by
          rw [List.filter_eq_nil_iff]
          intro y hy hy2
          obtain ⟨q1, q2⟩ := mem_reps.mp hy
          have : y ∈ lf := by
            rw [hlf, List.mem_filter, mem_plc]
            exact ⟨q1, by rw [q2]; exact hy2⟩
          rw [e] at this
          cases this
        rw [this] at hfd
        simp only [List.map_nil, List.append_nil] at hfd
        rw [hc, hfd]
      · right
        refine ⟨H, by simp [eq_lst_ints, e], ?_⟩
        obtain ⟨x0, r, hxr⟩ : ∃ x0 r, lf = x0 :: r := by
          cases lf with
          | nil => exact absurd rfl e
          | cons x0 r => exact ⟨x0, r, rfl⟩
        have hsorted : lf.Pairwise (· < ·) := by rw [hlf]; exact (plc_lt p).filter _
        have hleast : ∀ y ∈ lf, x0 ≤ y := fun y hy => by
          rw [hxr] at hy hsorted
          rw [List.pairwise_cons] at hsorted
          rcases List.mem_cons.mp hy with q | q
          · omega
          · have := hsorted.1 y q; omega
        have memlf : ∀ y, y ∈ lf ↔ (0 ≤ y ∧ y < p) ∧ m0 ≤ rp ts y := fun y => by rw [hlf, List.mem_filter, mem_plc, decide_eq_true_eq]
        obtain ⟨hx0, hx1⟩ := (memlf x0).mp (by rw [hxr]; exact List.mem_cons_self)
        have hrn : 0 ≤ rp ts x0 := rp_nn (fun t ht => by obtain ⟨_, q1, q2⟩ := h.tv t ht; omega) hx0.1
        have hrle : rp ts x0 ≤ x0 := rp_le
        have hrx : rp ts x0 = x0 := by
          have := hleast (rp ts x0) ((memlf _).mpr ⟨by omega, by rw [rp_rp]; exact hx1⟩)
          omega
        obtain ⟨t1, e1⟩ := reached_ok (n := n + 4) (s := H) (N := N) h0 h12 (fun t ht => (h.tv t ht).2) hN hx0
        rw [hrx] at e1
        obtain ⟨cl, hcl⟩ : ∃ cl, cl = cls p ts x0 := ⟨_, rfl⟩
        rw [← hcl] at e1
        have cln : cl.Nodup := by rw [hcl]; exact lt_nodup cls_lt
        have cl12 : cl.length ≤ 12 := by
          have := hfil fun y => decide (rp ts y = x0)
          rw [hcl]; unfold cls; omega
        have ck : cutA ([] : List D) none none = [] := rfl
        -- the names
        obtain ⟨H1, hH1⟩ : ∃ H1, H1 = H ++ t1 := ⟨_, rfl⟩
        rw [← hH1] at e1
        have d1 : dcL [] (gTp 2 (gsCons (gNm 9) (gsCons (gNm 8) gsNil))) tYesD (eVar 8) (eVar 9) [some (webD p ts []), some (nearD p.toNat N), some (.lst (lf.map .int)), some (.ref C), some (.lst (cl.map .int)), x5, x6, x7, none, none] (enumL 0 (cl.map .int)) H1 = .ok ((cl.zipIdx 0).map fun q => ((.inl q.1 : Key), D.int (q.2 : Nat))) H1 := by
          rw [enumL_zip]
          refine dcL_mapf okL_nil fun q _ => ⟨[some (webD p ts []), some (nearD p.toNat N), some (.lst (lf.map .int)), some (.ref C), some (.lst (cl.map .int)), x5, x6, x7, some (.int q.1), some (.int (q.2 : Nat))], .int q.1, by simp, by simp, by simp, rfl, by simp⟩
        have mf := merge_fresh2 (κ := fun q : Int × Nat => q.1) (φ := fun q => D.int (q.2 : Nat)) (l := cl.zipIdx 0) (sn := []) (vs := []) (by rw [zipIdx_fst]; exact cln) (fun _ _ => by simp)
        rw [zipIdx_fst] at mf
        simp only [List.map_nil, List.nil_append] at mf
        obtain ⟨H2, hH2⟩ : ∃ H2, H2 = H1 ++ [.dct (cl.map Sum.inl) ((cl.zipIdx 0).map fun q => D.int (q.2 : Nat))] := ⟨_, rfl⟩
        have g2 : H2[H1.length]? = some (.dct (cl.map Sum.inl) ((cl.zipIdx 0).map fun q => D.int (q.2 : Nat))) := by rw [hH2]; simp
        have inn : ∀ y, inO (.int y) (.ref H1.length) H2 = some (decide (y ∈ cl)) := fun y => by
          rw [in_dct (x := .int y) (k := .inl y) (seqOf_d g2) (dctOf_d g2) rfl, look_in (by simp)]
        have ixn : ∀ y, y ∈ cl → ixO (.ref H1.length) (.int y) H2 = some (.int (idxI y cl : Nat)) := fun y hy => by
          rw [ix_dct g2, look_idx hy]
          simp
        obtain ⟨us, hus⟩ : ∃ us, us = (sortT ts).filter fun t => decide (t.2.1 ∈ cl) := ⟨_, rfl⟩
        have usl : us.length ≤ 60 := by
          rw [hus]
          refine Nat.le_trans (List.length_filter_le _ _) ?_
          rw [sortT_len]
          omega
        have c1 : lcL [] (gNm 7) (b_pieces_ct1 (lw.cf (n + 5)) (lw.ci (n + 5))) (eVar 7) [some (webD p ts []), some (nearD p.toNat N), some (.lst (lf.map .int)), some (.ref C), some (.lst (cl.map .int)), some (.ref H1.length), x6, none, x8, x9] ((sortT ts).map tieD) H2 = .ok (us.map tieD) H2 := by
          rw [hus]
          refine lcL_filterf okL_nil fun t _ => ⟨[some (webD p ts []), some (nearD p.toNat N), some (.lst (lf.map .int)), some (.ref C), some (.lst (cl.map .int)), some (.ref H1.length), x6, some (tieD t), x8, x9], by simp, ?_, fun _ => by simp⟩
          simp [tieD_at.2.1, inn]
        have z1 : us.length ≤ sizeLine := le_size (by omega)
        have k2 := led_it (n := n + 4) (s := H2) (nm := .ref H1.length) (φ := fun y => ((idxI y cl : Nat) : Int)) (dt := .lst (us.map tieD)) (ts := us) rfl (by omega) fun t ht => by
          rw [hus, List.mem_filter, decide_eq_true_eq] at ht
          have hut := sortT_mem.mp ht.1
          obtain ⟨_, q1, q2⟩ := h.tv t hut
          have hj : t.2.2 ∈ cl := by
            rw [hcl, mem_cls]
            refine ⟨q2, ?_⟩
            have q := ht.2
            rw [hcl] at q
            rw [← (mem_cls.mp q).2]
            exact (rp_adj ⟨t, hut, .inl ⟨rfl, rfl⟩⟩).symm
          exact ⟨ixn _ ht.2, ixn _ hj⟩
        have wv := WV.cls h x0 (sortT ts) (sortT_self ts)
        have epc : us.map (reT fun y => ((idxI y cl : Nat) : Int)) = pcT p ts x0 (sortT ts) := by rw [hus, hcl]; rfl
        have ereT : (us.map fun t => (t.1, ((idxI t.2.1 cl : Nat) : Int), ((idxI t.2.2 cl : Nat) : Int))) = pcT p ts x0 (sortT ts) := epc
        rw [ereT] at k2
        have mk : mkE true H2.length (lw.ci (n + 5) "Web" [.ref H2.length, .int (cl.length : Nat), .tup ((pcT p ts x0 (sortT ts)).map tieD), .tup []] (H2 ++ [.ins "Web" [] []])) = .ok (pcW p ts x0) (H2 ++ [DO.dead]) := by
          have := web_make (s := H2) (N := n + 5) (by omega) wv (dt := .tup ((pcT p ts x0 (sortT ts)).map tieD)) rfl
          rw [hcl]
          exact this
        have c3 : (H2 ++ [DO.dead])[C]? = some (.lst fd) := by rw [hH2, hH1]; exact get_app (get_app (get_app hc))
        have rc := rcv_ref (show H2[C]? = some (.lst fd) by rw [hH2, hH1]; exact get_app (get_app hc))
        have fdl : fd.length ≤ 12 := by
          have := congrArg List.length hfd
          simp only [List.length_append, List.length_map] at this
          have := hfil fun y => decide (rp ts y = y)
          unfold reps at *
          omega
        have ap := app_ref (y := pcW p ts x0) c3 (by have := @le_size 13 (by omega); omega)
        obtain ⟨H3, hH3⟩ : ∃ H3, H3 = (H2 ++ [DO.dead]).set C (.lst (fd ++ [pcW p ts x0])) := ⟨_, rfl⟩
        rw [← hH3] at ap
        have hCH : C < H.length := lt_of_get hc
        have g3 : H3[H1.length]? = some (.dct (cl.map Sum.inl) ((cl.zipIdx 0).map fun q => D.int (q.2 : Nat))) := by
          rw [hH3, List.getElem?_set_ne (by rw [hH1]; simp; omega)]
          exact get_app g2
        have inn3 : ∀ y, inO (.int y) (.ref H1.length) H3 = some (decide (y ∈ cl)) := fun y => by
          rw [in_dct (x := .int y) (k := .inl y) (seqOf_d g3) (dctOf_d g3) rfl, look_in (by simp)]
        have c4 : lcL [] (gNm 8) (b_pieces_ct2 (lw.cf (n + 5)) (lw.ci (n + 5))) (eVar 8) [some (webD p ts []), some (nearD p.toNat N), some (.lst (lf.map .int)), some (.ref C), some (.lst (cl.map .int)), some (.ref H1.length), some (.lst (us.map tieD)), x7, none, x9] (lf.map .int) H3 = .ok ((lf.filter fun y => !decide (y ∈ cl)).map .int) H3 := by
          refine lcL_filterf okL_nil fun y _ => ⟨[some (webD p ts []), some (nearD p.toNat N), some (.lst (lf.map .int)), some (.ref C), some (.lst (cl.map .int)), some (.ref H1.length), some (.lst (us.map tieD)), x7, some (.int y), x9], by simp, ?_, fun _ => by simp⟩
          simp [inn3]
        have lfl : (lf.filter fun y => !decide (y ∈ cl)).length ≤ sizeLine := le_size (by
          have := List.length_filter_le (fun y => !decide (y ∈ cl)) lf
          have := hfil fun y => decide (m0 ≤ rp ts y)
          rw [← hlf] at this
          omega)
        have ix0 : atI (lf.map D.int) 0 = some (.int x0) := by rw [hxr, List.map_cons, Pv.at0]
        refine ⟨[some (webD p ts []), some (nearD p.toNat N), some (.lst ((lf.filter fun y => !decide (y ∈ cl)).map .int)), some (.ref C), some (.lst (cl.map .int)), some (.ref H1.length), some (.lst (us.map tieD)), x7, x8, x9], H3, .inl ?_, (lf.filter fun y => !decide (y ∈ cl)).length, ?_, lf.filter fun y => !decide (y ∈ cl), fd ++ [pcW p ts x0], x0 + 1, _, _, _, _, _, _, rfl, ?_, ?_, ?_, ?_, rfl⟩
        · have zc : cl.length ≤ sizeLine := le_size (by omega)
          simp [-List.map_map, ix0, e1, d1, zc, mf, ← hH2, c1, z1, k2, mk, rc, ap, c4, lfl]
        · have hin : x0 ∈ cl := by rw [hcl, mem_cls]; exact ⟨hx0, hrx⟩
          rw [hm, hxr, List.filter_cons_of_neg (by simpa using hin)]
          have := List.length_filter_le (fun y => !decide (y ∈ cl)) r
          rw [List.length_cons]; omega
        · intro i hi
          have hHl : i < H.length := by
            have := hpre i hi
            rw [List.getElem?_eq_getElem hi] at this
            exact lt_of_get this
          have hiC : i ≠ C := by omega
          rw [hH3, List.getElem?_set_ne (fun q => hiC q.symm), hH2, hH1, List.append_assoc, List.append_assoc, List.getElem?_append_left hHl]
          exact hpre i hi
        · rw [hH3, List.getElem?_set_self (lt_of_get c3)]
        · rw [hlf, List.filter_filter]
          apply List.filter_congr
          intro y hy
          have hy2 := mem_plc.mp hy
          by_cases c : m0 ≤ rp ts y
          · have hry : x0 ≤ rp ts y := by
              have := rp_nn (x := y) (fun t ht => by obtain ⟨_, q1, q2⟩ := h.tv t ht; omega) hy2.1
              have q3 : rp ts y ≤ y := rp_le
              exact hleast _ ((memlf _).mpr ⟨by omega, by rw [rp_rp]; exact c⟩)
            by_cases c2 : rp ts y = x0
            · have : y ∈ cl := by rw [hcl, mem_cls]; exact ⟨hy2, c2⟩
              simp [this, c, c2]; omega
            · have : y ∉ cl := by rw [hcl, mem_cls]; exact fun q => c2 q.2
              simp [this, c]; omega
          · have : ¬ x0 + 1 ≤ rp ts y := by omega
            simp [c, this]
        · rw [← hfd, List.append_assoc]
          congr 1
          have : (reps p ts).filter (fun y => decide (m0 ≤ y)) = x0 :: (reps p ts).filter (fun y => decide (x0 + 1 ≤ y)) := by
            refine lt_ext (reps_lt.filter _) ?_ fun y => ?_
            · rw [List.pairwise_cons]
              refine ⟨fun y hy => ?_, reps_lt.filter _⟩
              have := (List.mem_filter.mp hy).2
              simp at this; omega
            · rw [List.mem_cons, List.mem_filter, List.mem_filter, mem_reps]
              simp only [decide_eq_true_eq]
              constructor
              · rintro ⟨⟨a1, a2⟩, a3⟩
                have := hleast y ((memlf y).mpr ⟨a1, by rw [a2]; exact a3⟩)
                by_cases q : y = x0
                · exact .inl q
                · exact .inr ⟨⟨a1, a2⟩, by omega⟩
              · rintro (rfl | ⟨⟨a1, a2⟩, a3⟩)
                · exact ⟨⟨hx0, hrx⟩, by rw [← hrx]; exact hx1⟩
                · exact ⟨⟨a1, a2⟩, by omega⟩
          rw [this]; simp) 100000 (plc p).length [some (webD p ts []), some (nearD p.toNat N), some (.lst ((plc p).map .int)), some (.ref C), none, none, none, none, none, none] H0 ⟨plc p, [], 0, none, none, none, none, none, none, rfl, fun i hi => by rw [hH0, List.append_assoc, List.getElem?_append_left hi], by rw [hH0, hC]; simp, ?_, ?_, rfl⟩ (by have := hfil fun _ => true; simp [plc]; omega)
  · obtain ⟨env', H', ek, x2, x4, x5, x6, x7, x8, x9, rfl, hpre, hc⟩ := key
    obtain ⟨t, ht⟩ := ext_of (by have := lt_of_get hc; omega) hpre
    refine ⟨C, H', t, ?_, ht, hsC, hc⟩
    have hr := rng_i (j := p) (by omega) (by omega)
    have zp : (plc p).length ≤ sizeLine := le_size (by simp [plc]; omega)
    simp [plain_ok, b_pieces, e0, hr, hpl, lr, zp, ← hC, ← hH0, ek, -List.map_map]
  · symm
    rw [List.filter_eq_self]
    intro y hy
    have := mem_plc.mp hy
    have := rp_nn (x := y) (fun t ht => by obtain ⟨_, q1, q2⟩ := h.tv t ht; omega) this.1
    simpa using this
  · rw [List.nil_append]
    congr 1
    rw [List.filter_eq_self]
    intro y hy
    have := (mem_reps.mp hy).1.1
    simpa using this
end
end Lk12p

set_option Elab.async false
set_option linter.all false
set_option maxRecDepth 10000
set_option maxHeartbeats 2000000
namespace Lk12p
open PySem PySem.Spec PyProof.Rows L2 Pv
open Lk12 hiding R P kit names run ob
@[simp] theorem xm_InvalidWeb_InvalidWeb : Lk12.xmF ("InvalidWeb" : Str) ("InvalidWeb" : Str) = some true := nr (by kernel_rfl)
@[simp] theorem xm_InvalidWeb_InvalidMark : Lk12.xmF ("InvalidWeb" : Str) ("InvalidMark" : Str) = some false := nr (by kernel_rfl)
@[simp] theorem xm_InvalidWeb_InvalidTie : Lk12.xmF ("InvalidWeb" : Str) ("InvalidTie" : Str) = some false := nr (by kernel_rfl)
@[simp] theorem xm_InvalidMark_InvalidWeb : Lk12.xmF ("InvalidMark" : Str) ("InvalidWeb" : Str) = some false := nr (by kernel_rfl)
@[simp] theorem xm_InvalidMark_InvalidMark : Lk12.xmF ("InvalidMark" : Str) ("InvalidMark" : Str) = some true := nr (by kernel_rfl)
@[simp] theorem xm_InvalidMark_InvalidTie : Lk12.xmF ("InvalidMark" : Str) ("InvalidTie" : Str) = some false := nr (by kernel_rfl)
@[simp] theorem xm_InvalidTie_InvalidWeb : Lk12.xmF ("InvalidTie" : Str) ("InvalidWeb" : Str) = some false := nr (by kernel_rfl)
@[simp] theorem xm_InvalidTie_InvalidMark : Lk12.xmF ("InvalidTie" : Str) ("InvalidMark" : Str) = some false := nr (by kernel_rfl)
@[simp] theorem xm_InvalidTie_InvalidTie : Lk12.xmF ("InvalidTie" : Str) ("InvalidTie" : Str) = some true := nr (by kernel_rfl)
@[simp] theorem xf_InvalidWeb_given : Lk12.xfF ("InvalidWeb" : Str) ("given" : Str) = true := nr (by kernel_rfl)
@[simp] theorem xf_InvalidMark_given : Lk12.xfF ("InvalidMark" : Str) ("given" : Str) = true := nr (by kernel_rfl)
@[simp] theorem xf_InvalidTie_given : Lk12.xfF ("InvalidTie" : Str) ("given" : Str) = true := nr (by kernel_rfl)
section
variable {p p1 p2 : Int} {ts ts1 ts2 ts' : List Tie} {ms ms1 ms2 : List Int} {s s' : DS} {n : Nat} {d dt dt1 dt2 : D} {T : String} {b nm : Bool}
theorem lmade_ok (h : WV p ts ms) (h1 : tupOf dt = some (ts.map tieD)) : lw.cf (n + 6) "_law_made" [ownD p dt ms, .bl b] s = .ok (webD p ts ms) (s ++ [.dead]) := by
  rw [Law.cf_s, body__law_made, ps__law_made, N__law_made]
  have mk := web_make (s := s) (N := n + 5) (by omega) h h1
  cases b <;> simp [b__law_made, mk]
theorem sm_ties (hn : ∀ t ∈ ts, nmB t.1 = true) : SmL s 1 (ts.map tieD) (ts.map tieD) := SmL.map fun t ht => (sm_im (tieD_im (k := 0) (by have := nmB_len (hn t ht); omega))).2.1
theorem is_web_ok (hl : ts'.length ≤ 1000) (hn : ∀ t ∈ ts', nmB t.1 = true) (hml : ms.length ≤ 1000) (h1 : tupOf dt = some (ts'.map tieD)) (hp : ts.Perm ts') : lw.cf (n + 6) "_law_is_web" [webD p ts ms, ownD p dt ms] s = .ok (.bl true) s := by
  rw [Law.cf_s, body__law_is_web, ps__law_is_web, N__law_is_web]
  have so := op_sortedX_ties (m := false) (d := dt) (s := s) (ts := ts') (tupA h1 s).sq
  have es := sortT_perm hp
  have sm : Sm s 4 (.lst [.int p, .tup ((sortT ts).map tieD), .tup (ms.map .int)]) (.lst [.int p, .tup ((sortT ts').map tieD), .tup (ms.map .int)]) := by
    rw [es]
    refine .lst rfl rfl (.cons (.int p) (.cons (.tup rfl rfl ((sm_ties (ts := sortT ts') fun t ht => hn t (sortT_mem.mp ht)).mono (by omega)) (by simp [sortT_len]; omega)) (.cons (.tup rfl rfl (SmL.map fun x _ => .int x) (by simp; omega)) .nil))) (by simp)
  have sa := same_at (N := n + 5) sm (by omega)
  simp [-List.map_map, b__law_is_web, so, sa]
theorem lput_ok {kept gone : Int} (h0 : 0 ≤ p) (h12 : p ≤ 12) (htl : ts.length ≤ 1000) (hml : ms.length ≤ 1000) (h1 : tupOf dt = some (ts.map tieD)) (hv : ∀ t ∈ ts, (0 ≤ t.2.1 ∧ t.2.1 < p) ∧ 0 ≤ t.2.2 ∧ t.2.2 < p) (hm : ∀ m ∈ ms, 0 ≤ m ∧ m < p) :
    lw.cf (n + 1) "_law_put" [ownD p dt ms, .int gone, .int kept] s = .ok (ownD (p - 1) (.tup ((ts.map (reT (pin kept gone))).map tieD)) (ms.map (pin kept gone))) s := by
  rw [Law.cf_s, body__law_put, ps__law_put, N__law_put]
  have hr := rng_i (j := p) (by omega) (by omega)
  have T1 := tupA h1 s
  obtain ⟨L1, hL1⟩ : ∃ L1, L1 = (List.range p.toNat).map fun (k : Nat) => D.int (if (k : Int) = gone then kept else k) := ⟨_, rfl⟩
  obtain ⟨L2, hL2⟩ : ∃ L2, L2 = (List.range p.toNat).map fun (k : Nat) => D.int (pin kept gone k) := ⟨_, rfl⟩
  obtain ⟨L3, hL3⟩ : ∃ L3, L3 = (ts.map (reT (pin kept gone))).map tieD := ⟨_, rfl⟩
  obtain ⟨L4, hL4⟩ : ∃ L4, L4 = (ms.map (pin kept gone)).map D.int := ⟨_, rfl⟩
  have k1 : lcL [] (gNm 5) tYesD (eIf (tBl (eBin (isCmp .Eq) (eVar 5) (eVar 1))) (eVar 2) (eVar 5)) [some (ownD p dt ms), some (.int gone), some (.int kept), none, none, none, none, none, none, none] (rngL 0 p.toNat) s = .ok L1 s := by
    rw [rngL_map, hL1]
    refine lcL_mapf okL_nil fun k _ => ⟨[some (ownD p dt ms), some (.int gone), some (.int kept), none, none, some (.int (k : Int)), none, none, none, none], by simp, by simp, ?_⟩
    by_cases e : (k : Int) = gone <;> simp [e]
  have k2 : lcL [] (gNm 5) tYesD (eIf (tBl (eBin (isCmp .Gt) (eVar 5) (eVar 1))) (eBin (isBin .Sub) (eVar 5) (eC (.int 1))) (eVar 5)) [some (ownD p dt ms), some (.int gone), some (.int kept), some (.lst L1), none, none, none, none, none, none] L1 s = .ok L2 s := by
    rw [hL2]
    conv => lhs; arg 6; rw [hL1]
    refine lcL_mapf okL_nil fun k _ => ⟨[some (ownD p dt ms), some (.int gone), some (.int kept), some (.lst L1), none, some (.int (if (k : Int) = gone then kept else k)), none, none, none, none], by simp, by simp, ?_⟩
    generalize ez : (if (k : Int) = gone then kept else (k : Int)) = z
    have ep : pin kept gone k = if z > gone then z - 1 else z := by unfold pin; rw [ez]
    rw [ep]
    by_cases e : gone < z <;> simp [e]
  have ix2 : ∀ j : Int, 0 ≤ j → j < p → atI L2 j = some (.int (pin kept gone j)) := fun j j0 j1 => by
    have e : j = ((j.toNat : Nat) : Int) := by omega
    rw [hL2, e, at_map (by simp; omega)]
    simp
  have k3 : lcL [] (gTp 3 (gsCons (gNm 7) (gsCons (gNm 8) (gsCons (gNm 9) gsNil)))) tYesD (eTup (aCons (eVar 7) (aCons (eBin isIx (eVar 4) (eVar 8)) (aCons (eBin isIx (eVar 4) (eVar 9)) aNil)))) [some (ownD p dt ms), some (.int gone), some (.int kept), some (.lst L1), some (.lst L2), none, none, none, none, none] (ts.map tieD) s = .ok L3 s := by
    rw [hL3, List.map_map]
    refine lcL_mapf okL_nil fun t ht => ⟨[some (ownD p dt ms), some (.int gone), some (.int kept), some (.lst L1), some (.lst L2), none, none, some (.str t.1), some (.int t.2.1), some (.int t.2.2)], by simp [tieD], by simp, ?_⟩
    obtain ⟨q1, q2⟩ := hv t ht
    simp [ix2 _ q1.1 q1.2, ix2 _ q2.1 q2.2, tieD, reT]
  have k4 : lcL [] (gNm 6) tYesD (eBin isIx (eVar 4) (eVar 6)) [some (ownD p dt ms), some (.int gone), some (.int kept), some (.lst L1), some (.lst L2), none, none, none, none, none] (ms.map .int) s = .ok L4 s := by
    rw [hL4, List.map_map]
    refine lcL_mapf okL_nil fun m hm' => ⟨[some (ownD p dt ms), some (.int gone), some (.int kept), some (.lst L1), some (.lst L2), none, some (.int m), none, none, none], by simp, by simp, ?_⟩
    simp [ix2 _ (hm m hm').1 (hm m hm').2]
  have z3 : L3.length ≤ sizeLine := le_size (by rw [hL3]; simp; omega)
  have z4 : L4.length ≤ sizeLine := le_size (by rw [hL4]; simp; omega)
  have z1 : L1.length ≤ sizeLine := le_size (by rw [hL1]; simp; omega)
  have z2 : L2.length ≤ sizeLine := le_size (by rw [hL2]; simp; omega)
  have e5 : ownD (p - 1) (.tup ((ts.map (reT (pin kept gone))).map tieD)) (ms.map (pin kept gone)) = .tup [.int (p - 1), .tup L3, .tup L4] := by rw [hL3, hL4]; rfl
  rw [e5]
  simp [-List.map_map, b__law_put, hr, k1, z1, k2, z2, T1.items, k3, k4, z3, z4]
theorem lpinched_ok {i j : Nat} (h : WV p ts ms) (h1 : tupOf dt = some (ts.map tieD)) (hi : i < ms.length) (hj : j < ms.length) :
    lw.cf (n + 2) "_law_pinched" [ownD p dt ms, .int i, .int j] s = .ok (ownD (p - 1) (.tup ((ts.map (reT (pin ms[i] ms[j]))).map tieD)) ((ms.eraseIdx j).map (pin ms[i] ms[j]))) s := by
  rw [Law.cf_s, body__law_pinched, ps__law_pinched, N__law_pinched]
  have gi := at_map (f := D.int) hi
  have gj := at_map (f := D.int) hj
  have ce := cut_erase (f := D.int) hj
  have hml := h.ml
  have htl := h.tl
  have hel := List.length_eraseIdx_le ms j
  have z : (cutA (ms.map D.int) none (some (j : Int))).length + (cutA (ms.map D.int) (some ((j : Int) + 1)) none).length ≤ sizeLine := le_size (by
    have := congrArg List.length ce
    rw [List.length_append, List.length_map] at this
    omega)
  have k3 := cat_tt (s := s) z
  rw [ce] at k3
  have lp := lput_ok (n := n) (s := s) (kept := ms[i]) (gone := ms[j]) (ms := ms.eraseIdx j) h.p0 h.p12 (by omega) (by omega) h1 (fun t ht => (h.tv t ht).2) (fun m hm => h.mv m ((List.eraseIdx_sublist ms j).mem hm))
  simp [-List.map_append, -List.map_map, b__law_pinched, gi, gj, k3]
  simp [-List.map_append, -List.map_map, ownD] at lp ⊢
  rw [lp]
theorem lpt_none {k : Nat} (h1 : tupOf dt = some (ts.map tieD)) (hk : k < (sortT ts).length) (hb : (sortT ts)[k].2.1 = (sortT ts)[k].2.2 ∨ ((sortT ts)[k].2.1 ∈ ms ∧ (sortT ts)[k].2.2 ∈ ms)) :
    lw.cf (n + 1) "_law_pinched_tie" [ownD p dt ms, .int k] s = .ok .non s := by
  rw [Law.cf_s, body__law_pinched_tie, ps__law_pinched_tie, N__law_pinched_tie]
  have so := op_sortedX_ties (m := false) (d := dt) (s := s) (ts := ts) (tupA h1 s).sq
  have ga := at_map (f := tieD) hk
  have ta : tieD (sortT ts)[k] = .tup [.str (sortT ts)[k].1, .int (sortT ts)[k].2.1, .int (sortT ts)[k].2.2] := rfl
  rw [ta] at ga
  by_cases e : (sortT ts)[k].2.1 = (sortT ts)[k].2.2
  · simp [b__law_pinched_tie, so, ga, e]
  · obtain ⟨m1, m2⟩ := hb.resolve_left e
    simp [b__law_pinched_tie, so, ga, e, m1, m2]
theorem lpt_ok {k : Nat} (h : WV p ts ms) (h1 : tupOf dt = some (ts.map tieD)) (hk : k < (sortT ts).length) (hne : (sortT ts)[k].2.1 ≠ (sortT ts)[k].2.2) (hnb : ¬ ((sortT ts)[k].2.1 ∈ ms ∧ (sortT ts)[k].2.2 ∈ ms)) :
    lw.cf (n + 2) "_law_pinched_tie" [ownD p dt ms, .int k] s = .ok (ownD (p - 1) (.tup ((((sortT ts).eraseIdx k).map (reT (pin (if (sortT ts)[k].2.2 < (sortT ts)[k].2.1 then (sortT ts)[k].2.2 else (sortT ts)[k].2.1) (if (sortT ts)[k].2.2 > (sortT ts)[k].2.1 then (sortT ts)[k].2.2 else (sortT ts)[k].2.1)))).map tieD)) (ms.map (pin (if (sortT ts)[k].2.2 < (sortT ts)[k].2.1 then (sortT ts)[k].2.2 else (sortT ts)[k].2.1) (if (sortT ts)[k].2.2 > (sortT ts)[k].2.1 then (sortT ts)[k].2.2 else (sortT ts)[k].2.1)))) s := by
  rw [Law.cf_s, body__law_pinched_tie, ps__law_pinched_tie, N__law_pinched_tie]
  have so := op_sortedX_ties (m := false) (d := dt) (s := s) (ts := ts) (tupA h1 s).sq
  have so2 := op_sortedX_ties (m := true) (d := dt) (s := s) (ts := ts) (tupA h1 s).sq
  have ga := at_map (f := tieD) hk
  have ta : tieD (sortT ts)[k] = .tup [.str (sortT ts)[k].1, .int (sortT ts)[k].2.1, .int (sortT ts)[k].2.2] := rfl
  rw [ta] at ga
  have ce := cut_erase (f := tieD) hk
  have htl := h.tl
  have hml := h.ml
  have z : ((sortT ts).eraseIdx k).length ≤ sizeLine := le_size (by have := List.length_eraseIdx_le (sortT ts) k; rw [sortT_len] at this; omega)
  have hls := h.sort.less k
  have z2 : (cutA ((sortT ts).map tieD) none (some (k : Int))).length + (cutA ((sortT ts).map tieD) (some ((k : Int) + 1)) none).length ≤ sizeLine := le_size (by
    have := congrArg List.length ce
    rw [List.length_append, List.length_map] at this
    have := List.length_eraseIdx_le (sortT ts) k
    rw [sortT_len] at this
    omega)
  generalize (sortT ts)[k].2.1 = i at *
  generalize (sortT ts)[k].2.2 = j at *
  generalize (sortT ts)[k].1 = x at *
  obtain ⟨kept, hkept⟩ : ∃ v, v = (if j < i then j else i) := ⟨_, rfl⟩
  obtain ⟨gone, hgone⟩ : ∃ v, v = (if j > i then j else i) := ⟨_, rfl⟩
  rw [← hkept, ← hgone]
  have o1 : ∀ s, opMin [.int i, .int j] s = some (.int kept, s) := fun s => by rw [hkept]; rfl
  have o2 : ∀ s, opMax [.int i, .int j] s = some (.int gone, s) := fun s => by rw [hgone]; rfl
  have lp := lput_ok (n := n) (s := s) (kept := kept) (gone := gone) (dt := .tup (((sortT ts).eraseIdx k).map tieD)) hls.p0 hls.p12 (by have := hls.tl; omega) (by omega) rfl (fun t ht => (hls.tv t ht).2) hls.mv
  have lp2 : lw.cf (n + 1) "_law_put" [.tup [.int p, .tup (((sortT ts).eraseIdx k).map tieD), .tup (ms.map .int)], .int gone, .int kept] s = _ := lp
  by_cases mi : i ∈ ms
  · have mj : j ∉ ms := fun q => hnb ⟨mi, q⟩
    simp [-List.map_append, -List.map_map, b__law_pinched_tie, so, so2, ga, hne, mi, mj, ce, z, z2, o1, o2, lp2]
  · simp [-List.map_append, -List.map_map, b__law_pinched_tie, so, so2, ga, hne, mi, ce, z, z2, o1, o2, lp2]
end
end Lk12p

set_option Elab.async false
set_option linter.all false
set_option maxRecDepth 10000
set_option maxHeartbeats 2000000
namespace Lk12p
open PySem PySem.Spec PyProof.Rows L2 Pv
open Lk12 hiding R P kit names run ob
noncomputable def askH : List HdD := [⟨("InvalidWeb" : Str), some 3, fun y => (sSeq (sRet (eLst (aCons (eC (.str ("web" : Str))) (aCons (eXfT xfF (some y) ("given" : Str)) aNil)))) sNext)⟩, ⟨("InvalidMark" : Str), some 3, fun y => (sSeq (sRet (eLst (aCons (eC (.str ("mark" : Str))) (aCons (eXfT xfF (some y) ("given" : Str)) aNil)))) sNext)⟩, ⟨("InvalidTie" : Str), some 3, fun y => (sSeq (sRet (eLst (aCons (eC (.str ("tie" : Str))) (aCons (eXfT xfF (some y) ("given" : Str)) aNil)))) sNext)⟩]
/-- what is told of a call -/
noncomputable def askR (r : R D) (env : Env') : R D := match r with
  | .ok v s => .ok (.lst [.str "told", v]) s
  | .exc x s => fin (sq (tryH xmF askH x env s) sNext)
  | .bad => .bad
section
variable {p p1 p2 : Int} {ts ts1 ts2 ts' : List Tie} {ms ms1 ms2 : List Int} {s s' : DS} {n : Nat} {a b c d dt dt1 dt2 : D} {T : String} {nm : Bool} {r : List D} {res : R D} {env : Env'}
theorem ask_ok {v : D} : askR (.ok v s) env = .ok (.lst [.str "told", v]) s := rfl
theorem ask_web {w x y : Option D} : askR (.exc (excOf "InvalidWeb" ["given"] d) s) [w, x, y, none] = .ok (.lst [.str "web", d]) s := by
  unfold askR askH
  dsimp only
  rw [tryH_yes (s' := s) (d := .lst [.str "web", d]) (by simp) rfl (by simp [lookN])]
  rfl
theorem ask_mark {w x y : Option D} : askR (.exc (excOf "InvalidMark" ["given"] d) s) [w, x, y, none] = .ok (.lst [.str "mark", d]) s := by
  unfold askR askH
  dsimp only
  rw [tryH_no (by simp), tryH_yes (s' := s) (d := .lst [.str "mark", d]) (by simp) rfl (by simp [lookN])]
  rfl
theorem ask_tie {w x y : Option D} : askR (.exc (excOf "InvalidTie" ["given"] d) s) [w, x, y, none] = .ok (.lst [.str "tie", d]) s := by
  unfold askR askH
  dsimp only
  rw [tryH_no (by simp), tryH_no (by simp), tryH_yes (s' := s) (d := .lst [.str "tie", d]) (by simp) rfl (by simp [lookN])]
  rfl
theorem asked0 (h : lw.cf n "pinched" [a, b, c] s = res) : lw.cf (n + 1) "_law_asked" [.int 0, .lst (a :: b :: c :: r), .bl nm] s = askR res [some (.int 0), some (.lst (a :: b :: c :: r)), some (.bl nm), none] := by
  rw [Law.cf_s, body__law_asked, ps__law_asked, N__law_asked]
  cases res <;> cases nm <;> simp [b__law_asked, h] <;> rfl
theorem asked1 (h : lw.cf n "without_tie" [a, b] s = res) : lw.cf (n + 1) "_law_asked" [.int 1, .lst (a :: b :: r), .bl nm] s = askR res [some (.int 1), some (.lst (a :: b :: r)), some (.bl nm), none] := by
  rw [Law.cf_s, body__law_asked, ps__law_asked, N__law_asked]
  cases res <;> cases nm <;> simp [b__law_asked, h] <;> rfl
theorem asked2 (h : lw.cf n "pinched_tie" [a, b] s = res) : lw.cf (n + 1) "_law_asked" [.int 2, .lst (a :: b :: r), .bl nm] s = askR res [some (.int 2), some (.lst (a :: b :: r)), some (.bl nm), none] := by
  rw [Law.cf_s, body__law_asked, ps__law_asked, N__law_asked]
  cases res <;> cases nm <;> simp [b__law_asked, h] <;> rfl
theorem asked3 (h : lw.cf n "pieces" [a] s = res) : lw.cf (n + 1) "_law_asked" [.int 3, .lst (a :: r), .bl nm] s = askR res [some (.int 3), some (.lst (a :: r)), some (.bl nm), none] := by
  rw [Law.cf_s, body__law_asked, ps__law_asked, N__law_asked]
  cases res <;> cases nm <;> simp [b__law_asked, h] <;> rfl
end
end Lk12p

set_option Elab.async false
set_option linter.all false
set_option maxRecDepth 10000
set_option maxHeartbeats 2000000
namespace Lk12p
open PySem PySem.Spec PyProof.Rows L2 Pv
open Lk12 hiding R P kit names run ob
section
variable {p : Int} {ts : List Tie} {ms : List Int} {s : DS} {n b m : Nat} {dt : D} {nm : Bool}
theorem own_eq {ms' : List Int} {xs : List D} (h : xs = ms'.map .int) : D.tup [.int p, dt, .tup xs] = ownD p dt ms' := by rw [h]; rfl
theorem str_len : ("mark" : Str).length ≤ 1000 ∧ ("tie" : Str).length ≤ 1000 := by decide +kernel
theorem marks_f2 {i : Nat} (h : WV p ts ms) (h1 : tupOf dt = some (ts.map tieD)) (hi : i < ms.length) (bx : D) (x6 x7 : Option D) : ∃ (q : Bool) (x : Option D × Option D) (t : DS), forL [] (gNm 6) (b__law_marks_right_fb2 (lw.cf (n + 9)) (lw.ci (n + 9))) (rngL 0 ms.length) [some bx, some (ownD p dt ms), some (.bl nm), some (.int i), some (webD p ts ms), some (.int ms.length), x6, x7] s
    = .nx [some bx, some (ownD p dt ms), some (.bl q), some (.int i), some (webD p ts ms), some (.int ms.length), x.1, x.2] (s ++ t) := by
  have hp0 := h.p0; have hml := h.ml; have htl := h.tl
  obtain ⟨env', s', e, ⟨q, x, he⟩, t, rfl⟩ := forL_rng (lv := []) (g := gNm 6) (n := ms.length) (body := b__law_marks_right_fb2 (lw.cf (n + 9)) (lw.ci (n + 9))) (fun k env s' => (∃ (q : Bool) (x : Option D × Option D), env = [some bx, some (ownD p dt ms), some (.bl q), some (.int i), some (webD p ts ms), some (.int ms.length), x.1, x.2]) ∧ ∃ t, s' = s ++ t)
    (fun _ _ _ _ => okL_nil) (fun k env s' hk ⟨⟨q, x, he⟩, t, ht⟩ => by
      subst he ht
      refine ⟨_, _, rfl, ?_⟩
      by_cases hik : i = k
      · subst hik
        have a := asked0 (n := n + 8) (r := []) (nm := q) (pinched_same (n := n + 4) (s := s ++ t) (p := p) (ts := ts) hi)
        rw [ask_mark] at a
        have sa := same_at (N := n + 9) (s := s ++ t) (k := 1) (a := .lst [.str "mark", .int i]) (b := .lst [.str "mark", .int i]) (.lst rfl rfl (.cons (.str str_len.1) (.cons (.int i) .nil)) (by simp)) (by omega)
        exact ⟨[some bx, some (ownD p dt ms), some (.bl (!q)), some (.int i), some (webD p ts ms), some (.int ms.length), some (.int i), some (.lst [.str "mark", .int i])], s ++ t, .inl (by simp [a, sa]), ⟨!q, (some (.int i), some (.lst [.str "mark", .int i])), rfl⟩, t, rfl⟩
      · obtain ⟨t1, e1⟩ := pinched_ok (n := n + 1) (s := s ++ t) h hi hk hik
        have a := asked0 (n := n + 8) (r := []) (nm := q) e1
        rw [ask_ok] at a
        obtain ⟨W, hW⟩ : ∃ W, W = webD (p - 1) ((sortT ts).map (reT (pin ms[i] ms[k]))) ((ms.eraseIdx k).map (pin ms[i] ms[k])) := ⟨_, rfl⟩
        have hel := List.length_eraseIdx_le ms k
        have iw := is_web_ok (n := n + 3) (s := s ++ t ++ t1) (p := p - 1) (ts := (sortT ts).map (reT (pin ms[i] ms[k]))) (ts' := ts.map (reT (pin ms[i] ms[k]))) (ms := (ms.eraseIdx k).map (pin ms[i] ms[k])) (dt := .tup ((ts.map (reT (pin ms[i] ms[k]))).map tieD)) (by simp; omega) (fun u hu => by
          obtain ⟨v, hv, rfl⟩ := List.mem_map.mp hu
          exact (h.tv v hv).1) (by simp; omega) rfl ((sortT_self ts).map _)
        have lp := lpinched_ok (n := n + 7) (s := s ++ t ++ t1) h h1 hi hk
        rw [← hW] at a iw
        obtain ⟨O, hO⟩ : ∃ O, O = ownD (p - 1) (.tup ((ts.map (reT (pin ms[i] ms[k]))).map tieD)) ((ms.eraseIdx k).map (pin ms[i] ms[k])) := ⟨_, rfl⟩
        rw [← hO] at iw lp
        have cik : ((i : Int) = k) = False := eq_false (by omega)
        simp only [List.append_assoc] at a iw lp
        exact ⟨[some bx, some (ownD p dt ms), some (.bl (!q)), some (.int i), some (webD p ts ms), some (.int ms.length), some (.int k), some (.lst [.str "told", W])], s ++ (t ++ t1), .inl (by simp [a, cik, lp, iw]), ⟨!q, (some (.int k), some (.lst [.str "told", W])), rfl⟩, t ++ t1, rfl⟩) (env := [some bx, some (ownD p dt ms), some (.bl nm), some (.int i), some (webD p ts ms), some (.int ms.length), x6, x7]) (s := s) ⟨⟨nm, (x6, x7), rfl⟩, [], by simp⟩
  subst he
  exact ⟨q, x, t, e⟩
theorem marks_ok (h : WV p ts ms) (h1 : tupOf dt = some (ts.map tieD)) (hb : Bx b m s) : ∃ s', lw.cf (n + 10) "_law_marks_right" [.ref b, ownD p dt ms, .bl nm] s = .ok (.bl true) s' ∧ Bx b m s' ∧ Fr b s s' := by
  have hp0 := h.p0; have hp12 := h.p12; have hml := h.ml; have htl := h.tl
  rw [Law.cf_s, body__law_marks_right, ps__law_marks_right, N__law_marks_right]
  have m1 := lmade_ok (n := n + 3) (s := s) (b := nm) h h1
  have hr2 := rng_n (n := ms.length) (by omega)
  obtain ⟨env', s', e, ⟨q, x3, x6, x7, he⟩, t, rfl⟩ := forL_rng (lv := []) (g := gNm 3) (n := ms.length) (body := b__law_marks_right_fb1 (lw.cf (n + 9)) (lw.ci (n + 9))) (fun k env s' => (∃ (q : Bool) (x3 x6 x7 : Option D), env = [some (.ref b), some (ownD p dt ms), some (.bl q), x3, some (webD p ts ms), some (.int ms.length), x6, x7]) ∧ ∃ t, s' = s ++ [.dead] ++ t)
    (fun _ _ _ _ => okL_nil) (fun k env s' hk ⟨⟨q, x3, x6, x7, he⟩, t, ht⟩ => by
      subst he
      refine ⟨_, _, rfl, ?_⟩
      obtain ⟨q', x, t1, f⟩ := marks_f2 (n := n) (s := s') (nm := q) h h1 hk (.ref b) x6 x7
      exact ⟨[some (.ref b), some (ownD p dt ms), some (.bl q'), some (.int k), some (webD p ts ms), some (.int ms.length), x.1, x.2], s' ++ t1, .inl (by simp [hr2, f]), ⟨q', _, _, _, rfl⟩, t ++ t1, by rw [ht]; simp only [List.append_assoc]⟩) (env := [some (.ref b), some (ownD p dt ms), some (.bl nm), none, some (webD p ts ms), some (.int ms.length), none, none]) (s := s ++ [.dead]) ⟨⟨nm, none, none, none, rfl⟩, [], by simp⟩
  subst he
  have w1 := fun s => is_web_ok (s := s) (n := n + 3) (p := p) (ts := ts) (ms := ms) (by omega) (fun t ht => (h.tv t ht).1) (by omega) h1 (List.Perm.refl _)
  refine ⟨s ++ [.dead] ++ t, ?_, by simp only [List.append_assoc]; exact hb.app, by simp only [List.append_assoc]; exact Fr.app⟩
  simp [b__law_marks_right, m1, hr2, e, w1]
theorem webD_perm {ts' : List Tie} (h : ts.Perm ts') : webD p ts ms = webD p ts' ms := by unfold webD; rw [sortT_perm h]
theorem ptie_two {k : Nat} (h : WV p ts ms) (h1 : tupOf dt = some (ts.map tieD)) (hk : k < ts.length) :
    (∀ (n : Nat) (nm : Bool) (s : DS), lw.cf (n + 9) "_law_asked" [.int 2, .lst [webD p ts ms, .int k], .bl nm] s = .ok (.lst [.str "tie", .int k]) s ∧ lw.cf (n + 9) "_law_pinched_tie" [ownD p dt ms, .int k] s = .ok .non s) ∨
    ∃ (p' : Int) (ts' : List Tie) (ms' : List Int), WV p' ts' ms' ∧ ts'.length + 1 = ts.length ∧ ∀ (n : Nat) (nm : Bool) (s : DS), (∃ t, lw.cf (n + 9) "_law_asked" [.int 2, .lst [webD p ts ms, .int k], .bl nm] s = .ok (.lst [.str "told", webD p' ts' ms']) (s ++ t)) ∧ lw.cf (n + 9) "_law_pinched_tie" [ownD p dt ms, .int k] s = .ok (ownD p' (.tup (ts'.map tieD)) ms') s := by
  have hk' : k < (sortT ts).length := by rw [sortT_len]; exact hk
  by_cases hb : (sortT ts)[k].2.1 = (sortT ts)[k].2.2 ∨ ((sortT ts)[k].2.1 ∈ ms ∧ (sortT ts)[k].2.2 ∈ ms)
  · left
    intro n nm s
    refine ⟨?_, lpt_none h1 hk' hb⟩
    have a := asked2 (n := n + 8) (r := []) (nm := nm) (pinched_tie_same (p := p) (n := n + 5) (s := s) hk' hb)
    rw [ask_tie] at a
    exact a
  · right
    have hne : (sortT ts)[k].2.1 ≠ (sortT ts)[k].2.2 := fun q => hb (.inl q)
    have hnb : ¬ ((sortT ts)[k].2.1 ∈ ms ∧ (sortT ts)[k].2.2 ∈ ms) := fun q => hb (.inr q)
    have A := fun (n : Nat) (s : DS) => pinched_tie_ok (n := n) (s := s) h hk' hne hnb
    have B := fun (n : Nat) (s : DS) => lpt_ok (n := n) (s := s) h h1 hk' hne hnb
    obtain ⟨_, ti, tj⟩ := h.tv _ (sortT_mem.mp (List.getElem_mem hk'))
    have hls := h.sort.less k
    have hlen : ((sortT ts).eraseIdx k).length + 1 = ts.length := by rw [List.length_eraseIdx_of_lt hk', sortT_len]; omega
    generalize (sortT ts)[k].2.1 = i at *
    generalize (sortT ts)[k].2.2 = j at *
    obtain ⟨kept, hkept⟩ : ∃ v, v = (if j < i then j else i) := ⟨_, rfl⟩
    obtain ⟨gone, hgone⟩ : ∃ v, v = (if j > i then j else i) := ⟨_, rfl⟩
    rw [← hkept, ← hgone] at A B
    have hkg : kept ≠ gone ∧ (0 ≤ kept ∧ kept < p) ∧ (0 ≤ gone ∧ gone < p) ∧ ¬ (kept ∈ ms ∧ gone ∈ ms) := by
      rw [hkept, hgone]
      by_cases c : j < i
      · rw [if_pos c, if_neg (by omega)]; exact ⟨by omega, tj, ti, fun z => hnb ⟨z.2, z.1⟩⟩
      · rw [if_neg c, if_pos (by omega)]; exact ⟨by omega, ti, tj, hnb⟩
    obtain ⟨c1, c2, c3, c4⟩ := hkg
    obtain ⟨mk, hmk⟩ : ∃ mk, mk = ms.map fun m => if m = gone then kept else m := ⟨_, rfl⟩
    have em : mk.map (pin kept gone) = ms.map (pin kept gone) := by
      rw [hmk, List.map_map]
      refine List.map_congr_left fun m _ => ?_
      show pin kept gone (if m = gone then kept else m) = _
      by_cases e : m = gone
      · rw [if_pos e, e, pin_gone c1]
      · rw [if_neg e]
    have wv := hls.pin c2 c3 c1 (mk := mk) (fun m hm => by
      rw [hmk] at hm
      obtain ⟨x, hx, rfl⟩ := List.mem_map.mp hm
      by_cases e : x = gone
      · rw [if_pos e]; exact ⟨c2, c1⟩
      · rw [if_neg e]; exact ⟨h.mv x hx, e⟩) (by
      rw [hmk]
      refine nodup_map h.nd fun x hx y hy e => ?_
      by_cases e1 : x = gone
      · by_cases e2 : y = gone
        · rw [e1, e2]
        · rw [if_pos e1, if_neg e2] at e
          exact absurd ⟨e ▸ hy, e1 ▸ hx⟩ c4
      · by_cases e2 : y = gone
        · rw [if_neg e1, if_pos e2] at e
          exact absurd ⟨e ▸ hx, e2 ▸ hy⟩ c4
        · rw [if_neg e1, if_neg e2] at e
          exact e)
    rw [em] at wv
    refine ⟨p - 1, _, _, wv, by rw [List.length_map]; exact hlen, fun n nm s => ⟨?_, B (n + 7) s⟩⟩
    obtain ⟨t, e⟩ := A (n + 1) s
    have a := asked2 (n := n + 8) (r := []) (nm := nm) e
    rw [ask_ok, webD_perm (ts' := ((sortT ts).eraseIdx k).map (reT (pin kept gone))) ((sortT_self _).map _)] at a
    exact ⟨t, a⟩
@[simp] theorem own_non : isNonD (ownD p dt ms) = false := nr rfl
theorem ties_ok (h : WV p ts ms) (h1 : tupOf dt = some (ts.map tieD)) (hb : Bx b m s) (hm : m + 100 < 10 ^ 9) : ∃ s', lw.cf (n + 10) "_law_ties_right" [.ref b, ownD p dt ms, .bl nm] s = .ok (.bl true) s' ∧ Bx b (m + 60) s' ∧ Fr b s s' := by
  have hp0 := h.p0; have hp12 := h.p12; have hml := h.ml; have htl := h.tl
  rw [Law.cf_s, body__law_ties_right, ps__law_ties_right, N__law_ties_right]
  have m1 := lmade_ok (n := n + 3) (s := s) (b := nm) h h1
  have so := op_sortedX_ties (m := false) (d := dt) (s := s ++ [.dead]) (ts := ts) (tupA h1 _).sq
  have hr2 := rng_n (n := ts.length) (by omega)
  obtain ⟨env', s', e, ⟨q, x3, x6, x7, x8, x9, x10, x11, he⟩, hb', hf'⟩ := forL_rng (lv := []) (g := gNm 3) (n := ts.length) (body := b__law_ties_right_fb1 (lw.cf (n + 9)) (lw.ci (n + 9))) (fun k env s' => (∃ (q : Bool) (x3 x6 x7 x8 x9 x10 x11 : Option D), env = [some (.ref b), some (ownD p dt ms), some (.bl q), x3, some (webD p ts ms), some (.lst ((sortT ts).map tieD)), x6, x7, x8, x9, x10, x11]) ∧ Bx b (m + k) s' ∧ Fr b s s')
    (fun _ _ _ _ => okL_nil) (fun k env s0 hk ⟨⟨q, x3, x6, x7, x8, x9, x10, x11, he⟩, hb0, hf0⟩ => by
      subst he
      refine ⟨_, _, rfl, ?_⟩
      have hk' : k < (sortT ts).length := by rw [sortT_len]; exact hk
      have ce := cut_erase (f := tieD) hk'
      have hel : ((sortT ts).eraseIdx k).length + 1 = ts.length := by rw [List.length_eraseIdx_of_lt hk', sortT_len]; omega
      have z : ((sortT ts).eraseIdx k).length ≤ sizeLine := le_size (by omega)
      have z2 : (cutA ((sortT ts).map tieD) none (some (k : Int))).length + (cutA ((sortT ts).map tieD) (some ((k : Int) + 1)) none).length ≤ sizeLine := le_size (by
        have := congrArg List.length ce
        rw [List.length_append, List.length_map] at this
        omega)
      obtain ⟨O, hO⟩ : ∃ O, O = ownD p (.tup (((sortT ts).eraseIdx k).map tieD)) ms := ⟨_, rfl⟩
      have hO2 : D.tup [.int p, .tup (((sortT ts).eraseIdx k).map tieD), .tup (ms.map .int)] = O := by rw [hO]; rfl
      have a1 := asked1 (n := n + 8) (r := []) (nm := q) (without_ok (n := n + 1) (s := s0) h hk)
      rw [ask_ok] at a1
      have w1 := fun s => is_web_ok (s := s) (n := n + 3) (p := p) (ts := (sortT ts).eraseIdx k) (ms := ms) (dt := .tup (((sortT ts).eraseIdx k).map tieD)) (by omega) (fun t ht => (h.sort.less k |>.tv t ht).1) (by omega) rfl (List.Perm.refl _)
      rw [← hO] at w1
      obtain ⟨W1, hW1⟩ : ∃ W, W = webD p ((sortT ts).eraseIdx k) ms := ⟨_, rfl⟩
      rw [← hW1] at a1 w1
      rcases ptie_two h h1 hk with N | ⟨p', ts', ms', hv, hl', Y⟩
      · have n1 := fun s => (N n (!q) s).1
        have n2 := fun s => (N n (!q) s).2
        have sa := fun s => same_at (N := n + 9) (s := s) (k := 1) (a := .lst [.str "tie", .int k]) (b := .lst [.str "tie", .int k]) (.lst rfl rfl (.cons (.str str_len.2) (.cons (.int k) .nil)) (by simp)) (by omega)
        exact ⟨[some (.ref b), some (ownD p dt ms), some (.bl (!q)), some (.int k), some (webD p ts ms), some (.lst ((sortT ts).map tieD)), some O, some (.lst [.str "tie", .int k]), some .non, x9, x10, x11], s0 ++ [.dead], .inl (by simp [-List.map_append, -List.map_map, ce, z, z2, hO2, a1, n1, n2, w1, sa]), ⟨!q, _, _, _, _, _, _, _, rfl⟩, hb0.app.mono (by omega), hf0.trans Fr.app⟩
      · obtain ⟨⟨t1, y1⟩, _⟩ := Y n (!q) (s0 ++ [.dead])
        have y2 := fun s => (Y n (!q) s).2
        have one0 : (1 : Int) < ts.length ↔ 1 < ts.length := by omega
        have w2 := fun s => is_web_ok (s := s) (n := n + 3) (p := p') (ts := ts') (ms := ms') (dt := .tup (ts'.map tieD)) (by omega) (fun t ht => (hv.tv t ht).1) (by have := hv.ml; omega) rfl (List.Perm.refl _)
        obtain ⟨W2, hW2⟩ : ∃ W, W = webD p' ts' ms' := ⟨_, rfl⟩
        obtain ⟨S1, hS1⟩ : ∃ S1, S1 = s0 ++ [.dead] ++ t1 := ⟨_, rfl⟩
        have hb1 : Bx b (m + k) S1 := by rw [hS1, List.append_assoc]; exact hb0.app
        have hf1 : Fr b s S1 := by rw [hS1, List.append_assoc]; exact hf0.trans Fr.app
        by_cases one : 1 < ts.length
        · obtain ⟨at', S2, e2, i0, i1, hb2, hf2⟩ := take_ok (n := n + 8) hb1 (by omega) (many := (ts.length : Int) - 1) (by omega) (by omega)
          obtain ⟨v, rfl⟩ : ∃ v : Nat, at' = v := ⟨at'.toNat, by omega⟩
          rcases ptie_two (dt := .tup (ts'.map tieD)) hv rfl (k := v) (by omega) with N | ⟨p2, ts2, ms2, hv2, hl2, Y2⟩
          · have n1 := fun s => (N n q s).1
            have n2 := fun s => (N n q s).2
            rw [← hW2] at y1 w2 n1
            rw [← hS1] at y1
            have sa := fun s => same_at (N := n + 9) (s := s) (k := 1) (a := .lst [.str "tie", .int v]) (b := .lst [.str "tie", .int v]) (.lst rfl rfl (.cons (.str str_len.2) (.cons (.int v) .nil)) (by simp)) (by omega)
            exact ⟨[some (.ref b), some (ownD p dt ms), some (.bl (!q)), some (.int k), some (webD p ts ms), some (.lst ((sortT ts).map tieD)), some O, some (.lst [.str "told", W2]), some (ownD p' (.tup (ts'.map tieD)) ms'), some (.int v), some (.lst [.str "tie", .int v]), some .non], S2, .inl (by simp [-List.map_append, -List.map_map, ce, z, z2, hO2, a1, y1, y2, w1, w2, one0, one, e2, n1, n2, sa, sortT_len]), ⟨!q, _, _, _, _, _, _, _, rfl⟩, hb2.mono (by omega), hf1.trans hf2⟩
          · obtain ⟨⟨t2, u1⟩, _⟩ := Y2 n q S2
            have u2 := fun s => (Y2 n q s).2
            have w3 := fun s => is_web_ok (s := s) (n := n + 3) (p := p2) (ts := ts2) (ms := ms2) (dt := .tup (ts2.map tieD)) (by omega) (fun t ht => (hv2.tv t ht).1) (by have := hv2.ml; omega) rfl (List.Perm.refl _)
            rw [← hW2] at y1 w2 u1
            rw [← hS1] at y1
            obtain ⟨W3, hW3⟩ : ∃ W, W = webD p2 ts2 ms2 := ⟨_, rfl⟩
            rw [← hW3] at u1 w3
            exact ⟨[some (.ref b), some (ownD p dt ms), some (.bl (!q)), some (.int k), some (webD p ts ms), some (.lst ((sortT ts).map tieD)), some O, some (.lst [.str "told", W2]), some (ownD p' (.tup (ts'.map tieD)) ms'), some (.int v), some (.lst [.str "told", W3]), some (ownD p2 (.tup (ts2.map tieD)) ms2)], S2 ++ t2, .inl (by simp [-List.map_append, -List.map_map, ce, z, z2, hO2, a1, y1, y2, w1, w2, one0, one, e2, u1, u2, w3, sortT_len]), ⟨!q, _, _, _, _, _, _, _, rfl⟩, hb2.app.mono (by omega), (hf1.trans hf2).trans Fr.app⟩
        · rw [← hW2] at y1 w2
          rw [← hS1] at y1
          exact ⟨[some (.ref b), some (ownD p dt ms), some (.bl (!q)), some (.int k), some (webD p ts ms), some (.lst ((sortT ts).map tieD)), some O, some (.lst [.str "told", W2]), some (ownD p' (.tup (ts'.map tieD)) ms'), x9, x10, x11], S1, .inl (by simp [-List.map_append, -List.map_map, ce, z, z2, hO2, a1, y1, y2, w1, w2, one0, one, sortT_len]), ⟨!q, _, _, _, _, _, _, _, rfl⟩, hb1.mono (by omega), hf1⟩) (env := [some (.ref b), some (ownD p dt ms), some (.bl nm), none, some (webD p ts ms), some (.lst ((sortT ts).map tieD)), none, none, none, none, none, none]) (s := s ++ [.dead]) ⟨⟨nm, none, none, none, none, none, none, none, rfl⟩, hb.app, Fr.app⟩
  subst he
  have w1 := fun s => is_web_ok (s := s) (n := n + 3) (p := p) (ts := ts) (ms := ms) (by omega) (fun t ht => (h.tv t ht).1) (by omega) h1 (List.Perm.refl _)
  refine ⟨s', ?_, hb'.mono (by omega), hf'⟩
  simp [b__law_ties_right, m1, so, hr2, e, w1, sortT_len]
end
end Lk12p

set_option Elab.async false
set_option linter.all false
set_option maxRecDepth 10000
set_option maxHeartbeats 2000000
namespace Lk12p
open PySem PySem.Spec PyProof.Rows L2 Pv
open Lk12 hiding R P kit names run ob
theorem rp_mem1 {ts us : List Tie} (h : ∀ t, t ∈ us → t ∈ ts) {x : Int} : rp ts x ≤ rp us x := by
  have : rp ts (rp us x) = rp ts x := rp_closed (ts := us) (S := fun y => rp ts y = rp ts x) (fun a b hab ha => by
    rw [← ha]; exact (rp_adj (hab.of h)).symm) (rp_rp (ts := us) (x := x)).symm rfl
  rw [← this]
  exact rp_le
theorem rp_mem {ts us : List Tie} (h : ∀ t, t ∈ us ↔ t ∈ ts) {x : Int} : rp ts x = rp us x := by
  have a := rp_mem1 (x := x) fun t => (h t).mp
  have b := rp_mem1 (x := x) fun t => (h t).mpr
  omega
theorem at_plc {p j : Int} {f : Int → Int} (h0 : 0 ≤ j) (h1 : j < p) : atI (((plc p).map f).map D.int) j = some (D.int (f j)) := by
  have e : j = ((j.toNat : Nat) : Int) := by omega
  rw [e]
  unfold plc
  rw [List.map_map, at_map (by simp; omega)]
  simp
theorem merge_dup {v : D} : ∀ {l sn : List Int} {vs : List D}, sn.Nodup → ∃ (ns : List Int) (ws : List D), mergeP (l.map fun x => ((.inl x : Key), v)) (sn.map Sum.inl, vs) = (ns.map Sum.inl, ws) ∧ ns.Nodup ∧ ∀ x, x ∈ ns ↔ x ∈ sn ∨ x ∈ l
  | [], sn, vs, hn => ⟨sn, vs, rfl, hn, fun x => by simp⟩
  | a :: r, sn, vs, hn => by
    have hany : ((sn.map Sum.inl : List Key).any fun j => decide (j = .inl a)) = decide (a ∈ sn) := by
      rw [Bool.eq_iff_iff, List.any_eq_true, decide_eq_true_eq]
      constructor
      · rintro ⟨k, hk, e⟩
        obtain ⟨w, hw, rfl⟩ := List.mem_map.mp hk
        simp only [decide_eq_true_eq, Sum.inl.injEq] at e
        exact e ▸ hw
      · intro ha
        exact ⟨.inl a, List.mem_map.mpr ⟨a, ha, rfl⟩, by simp⟩
    rw [List.map_cons]
    unfold mergeP
    by_cases ha : a ∈ sn
    · have e1 : putKs (sn.map Sum.inl) (.inl a) = (sn.map Sum.inl : List Key) := by
        unfold putKs; rw [hany]; simp [ha]
      obtain ⟨ns, ws, e, q1, q2⟩ := merge_dup (v := v) (l := r) (sn := sn) (vs := putVs (sn.map Sum.inl) vs (.inl a) v) hn
      refine ⟨ns, ws, by simpa [e1] using e, q1, fun x => ?_⟩
      rw [q2, List.mem_cons]
      constructor
      · rintro (q | q)
        · exact .inl q
        · exact .inr (.inr q)
      · rintro (q | rfl | q)
        · exact .inl q
        · exact .inl ha
        · exact .inr q
    · have e1 : putKs (sn.map Sum.inl) (.inl a) = ((sn ++ [a]).map Sum.inl : List Key) := by
        unfold putKs; rw [hany]; simp [ha]
      obtain ⟨ns, ws, e, q1, q2⟩ := merge_dup (v := v) (l := r) (sn := sn ++ [a]) (vs := putVs (sn.map Sum.inl) vs (.inl a) v) (by
        rw [List.nodup_append]
        refine ⟨hn, by simp, fun x hx y hy e => ?_⟩
        rw [List.mem_singleton.mp hy] at e
        exact ha (e ▸ hx))
      refine ⟨ns, ws, by simpa only [e1] using e, q1, fun x => ?_⟩
      rw [q2, List.mem_append, List.mem_singleton, List.mem_cons, or_assoc]
section
variable {p : Int} {ts : List Tie} {ms : List Int} {s : DS} {n b m : Nat} {dt : D} {nm : Bool}
theorem lix_ints {x : Int} {ms : List Int} {s : DS} (h : x ∈ ms) : mtIndex (.lst (ms.map .int)) [.int x] s = some (.int (idxI x ms : Nat), s) := by
  show (if flatD (.int x) = true ∧ (ms.map D.int).all flatD = true then (idxF (.int x) (ms.map .int)).map fun (j : Nat) => (D.int j, s) else _) = _
  rw [if_pos ⟨rfl, flat_ints⟩, idxF_int h]; rfl
theorem pairs_ints {l : List Int} : pairsOfL (l.map fun x => D.tup [.int x, .int 1]) = some (l.map fun x => ((.inl x : Key), D.int 1)) := by
  induction l with
  | nil => rfl
  | cons a r ih => rw [List.map_cons, List.map_cons]; unfold pairsOfL; rw [ih]; rfl
theorem in_lints {x : Int} {ms : List Int} {s : DS} : inO (.int x) (.lst (ms.map .int)) s = some (decide (x ∈ ms)) := by
  show (if flatD (.int x) = true ∧ (ms.map D.int).all flatD = true then some ((ms.map D.int).any fun z => eqF z (.int x)) else _) = _
  rw [if_pos ⟨rfl, flat_ints⟩, Pv.any_ints]
/-- a piece as it is due -/
noncomputable def dueW (p : Int) (ts : List Tie) (r : Int) : D := ownD ((cls p ts r).length : Nat) (.tup ((pcT p ts r ts).map tieD)) []
theorem lpieces_ok (h : WV p ts []) (h1 : tupOf dt = some (ts.map tieD)) : ∃ t, lw.cf (n + 1) "_law_pieces" [ownD p dt []] s = .ok (.ref s.length) (s ++ .lst ((reps p ts).map (dueW p ts)) :: t) := by
  rw [Law.cf_s, body__law_pieces, ps__law_pieces, N__law_pieces]
  have h0 := h.p0; have h12 := h.p12; have htl := h.tl
  have T1 := tupA h1
  have hr := rng_i (j := p) (by omega) (by omega)
  have lr := lrOk_of h0 (by omega)
  have hpl : rngL 0 p.toNat = (plc p).map D.int := by rw [rngL_map]; unfold plc; rw [List.map_map]; rfl
  have plen : (plc p).length ≤ 12 := by simp [plc]; omega
  have zp : (plc p).length ≤ sizeLine := le_size (by omega)
  have key := forL_ok (lv := []) (g := gTp 3 (gsCons (gNm 4) (gsCons (gNm 5) (gsCons (gNm 6) gsNil)))) (body := b__law_pieces_fb1 (lw.cf n) (lw.ci n)) (fun l env H => ∃ us vs x4 x5 x6 x8 x9, ts = us ++ vs ∧ l = vs.map tieD ∧ env = [some (ownD p dt []), some (.lst (((plc p).map (rp us.reverse)).map .int)), none, none, x4, x5, x6, none, x8, x9, none] ∧ H = s)
    (fun _ _ _ _ => okL_nil) (fun d r env H ⟨us, vs, x4, x5, x6, x8, x9, e1, e2, e3, e4⟩ => by
      subst e3 e4
      cases vs with
      | nil => cases e2
      | cons t vs =>
        obtain ⟨rfl, rfl⟩ := List.cons.inj e2
        have ht : t ∈ ts := by rw [e1]; simp
        obtain ⟨_, ti, tj⟩ := h.tv t ht
        have ii := at_plc (f := rp us.reverse) ti.1 ti.2
        have ij := at_plc (f := rp us.reverse) tj.1 tj.2
        obtain ⟨one, hone⟩ : ∃ v, v = (if rp us.reverse t.2.2 < rp us.reverse t.2.1 then rp us.reverse t.2.2 else rp us.reverse t.2.1) := ⟨_, rfl⟩
        obtain ⟨other, hother⟩ : ∃ v, v = (if rp us.reverse t.2.2 > rp us.reverse t.2.1 then rp us.reverse t.2.2 else rp us.reverse t.2.1) := ⟨_, rfl⟩
        have o1 : ∀ s, opMin [.int (rp us.reverse t.2.1), .int (rp us.reverse t.2.2)] s = some (.int one, s) := fun s => by rw [hone]; rfl
        have o2 : ∀ s, opMax [.int (rp us.reverse t.2.1), .int (rp us.reverse t.2.2)] s = some (.int other, s) := fun s => by rw [hother]; rfl
        have rc : ∀ y, rp (t :: us.reverse) y = if rp us.reverse y = other then one else rp us.reverse y := fun y => by rw [rp_cons, ← hone, ← hother]
        have er : (us ++ [t]).reverse = t :: us.reverse := by simp
        obtain ⟨L, hL⟩ : ∃ L, L = ((plc p).map (rp us.reverse)).map D.int := ⟨_, rfl⟩
        obtain ⟨L2, hL2⟩ : ∃ L, L = ((plc p).map (rp (us ++ [t]).reverse)).map D.int := ⟨_, rfl⟩
        rw [← hL] at ii ij ⊢
        have k1 : lcL [] (gNm 3) tYesD (eIf (tBl (eBin (isCmp .Eq) (eVar 3) (eVar 9))) (eVar 8) (eVar 3)) [some (ownD p dt []), some (.lst L), none, none, some (.str t.1), some (.int t.2.1), some (.int t.2.2), none, some (.int one), some (.int other), none] L H = .ok L2 H := by
          rw [hL2, er, List.map_map]
          conv => lhs; arg 6; rw [hL, List.map_map]
          refine lcL_mapf okL_nil fun y _ => ⟨[some (ownD p dt []), some (.lst L), none, some (.int (rp us.reverse y)), some (.str t.1), some (.int t.2.1), some (.int t.2.2), none, some (.int one), some (.int other), none], by simp, by simp, ?_⟩
          have := rc y
          by_cases e : rp us.reverse y = other
          · rw [if_pos e] at this; simp [e, this]
          · rw [if_neg e] at this; simp [e, this]
        have z : L2.length ≤ sizeLine := le_size (by rw [hL2]; simp; omega)
        exact ⟨[some (ownD p dt []), some (.lst L), none, none, some (.str t.1), some (.int t.2.1), some (.int t.2.2), none, x8, x9, none], H, by simp [tieD], [some (ownD p dt []), some (.lst L2), none, none, some (.str t.1), some (.int t.2.1), some (.int t.2.2), none, some (.int one), some (.int other), none], H, .inl (by simp [ii, ij, o1, o2, k1, z]), us ++ [t], vs, _, _, _, _, _, by rw [e1]; simp, rfl, by rw [hL2], rfl⟩)
    (ts.map tieD) [some (ownD p dt []), some (.lst (((plc p).map (rp [].reverse)).map .int)), none, none, none, none, none, none, none, none, none] s ⟨[], ts, none, none, none, none, none, rfl, rfl, rfl, rfl⟩
  obtain ⟨env', H, ek, us, vs, x4, x5, x6, x8, x9, e1, e2, he, hH⟩ := key
  subst he hH
  have evs : vs = [] := by cases vs with
    | nil => rfl
    | cons _ _ => cases e2
  subst evs
  rw [List.append_nil] at e1
  subst e1
  have erp : ∀ y, rp ts.reverse y = rp ts y := fun y => rp_mem fun t => by simp
  have e0 : ((plc p).map (rp ([] : List Tie).reverse)).map D.int = (plc p).map .int := by
    rw [List.map_map]; rfl
  obtain ⟨nl, hnl⟩ : ∃ nl, nl = (plc p).map (rp ts) := ⟨_, rfl⟩
  have enl : (plc p).map (rp ts.reverse) = nl := by rw [hnl]; exact List.map_congr_left fun y _ => erp y
  rw [enl, e0] at ek
  have nllen : nl.length ≤ 12 := by rw [hnl]; simp; omega
  obtain ⟨ns, ws, em, nn, nm⟩ := merge_dup (v := .int 1) (l := nl) (sn := []) (vs := []) List.nodup_nil
  simp only [List.map_nil, List.not_mem_nil, false_or] at em nm
  have ens : sortI ns = reps p ts := by
    refine lt_ext (sortI_lt nn) reps_lt fun y => ?_
    rw [(sortI_perm ns).mem_iff, nm, hnl, mem_reps, List.mem_map]
    constructor
    · rintro ⟨x, hx, rfl⟩
      have hx := mem_plc.mp hx
      have q1 := rp_nn (x := x) (fun t ht => by obtain ⟨_, q1, q2⟩ := h.tv t ht; omega) hx.1
      have q2 : rp ts x ≤ x := rp_le
      exact ⟨by omega, rp_rp⟩
    · rintro ⟨q1, q2⟩
      exact ⟨y, mem_plc.mpr q1, q2⟩
  have ns64 : ns.length < 64 := by
    have := nodup_le (n := 12) nn fun y hy => by
      rw [nm, hnl, List.mem_map] at hy
      obtain ⟨x, hx, rfl⟩ := hy
      have hx := mem_plc.mp hx
      have q1 := rp_nn (x := x) (fun t ht => by obtain ⟨_, q1, q2⟩ := h.tv t ht; omega) hx.1
      have q2 : rp ts x ≤ x := rp_le
      omega
    omega
  obtain ⟨H1, hH1⟩ : ∃ H1, H1 = H ++ [.lst []] := ⟨_, rfl⟩
  obtain ⟨H2, hH2⟩ : ∃ H2, H2 = H1 ++ [.dct (ns.map Sum.inl) ws] := ⟨_, rfl⟩
  have k2 : lcL [] (gNm 8) tYesD (eTup (aCons (eVar 8) (aCons (eC (.int 1)) aNil))) [some (ownD p dt []), some (.lst (nl.map .int)), some (.ref H.length), none, x4, x5, x6, none, none, x9, none] (nl.map .int) H1 = .ok (nl.map fun x => D.tup [.int x, .int 1]) H1 := by
    refine lcL_mapf okL_nil fun y _ => ⟨[some (ownD p dt []), some (.lst (nl.map .int)), some (.ref H.length), none, x4, x5, x6, none, some (.int y), x9, none], by simp, by simp, by simp⟩
  have z2 : (nl.map fun x => D.tup [.int x, .int 1]).length ≤ sizeLine := le_size (by simp; omega)
  have zn : nl.length ≤ sizeLine := le_size (by omega)
  have k3 : opDictP [.lst (nl.map fun x => D.tup [.int x, .int 1])] H1 = some (.ref H1.length, H2) := by
    show ((lstOf (.lst (nl.map fun x => D.tup [.int x, .int 1])) H1).bind fun xs => (pairsOfL xs).map fun ps => (D.ref H1.length, H1 ++ [.dct (mergeP ps ([], [])).1 (mergeP ps ([], [])).2])) = _
    show ((pairsOfL (nl.map fun x => D.tup [.int x, .int 1])).map fun ps => (D.ref H1.length, H1 ++ [.dct (mergeP ps ([], [])).1 (mergeP ps ([], [])).2])) = _
    rw [pairs_ints]
    show some (D.ref H1.length, H1 ++ [.dct (mergeP _ ([], [])).1 (mergeP _ ([], [])).2]) = _
    rw [em, hH2]
  have g2 : H2[H1.length]? = some (.dct (ns.map Sum.inl) ws) := by rw [hH2]; simp
  have so := sortedX_dct (m := false) g2 ns64
  rw [ens] at so
  have replen : (reps p ts).length ≤ 12 := by
    have := List.length_filter_le (fun y => decide (rp ts y = y)) (plc p)
    unfold reps; omega
  have key2 := forL_ok (lv := []) (g := gNm 3) (body := b__law_pieces_fb2 (lw.cf n) (lw.ci n)) (fun l env X => ∃ l1 l2 x3 x7, reps p ts = l1 ++ l2 ∧ l = l2.map .int ∧ env = [some (ownD p dt []), some (.lst (nl.map .int)), some (.ref H.length), x3, x4, x5, x6, x7, x8, x9, none] ∧ X = H ++ [.lst (l1.map (dueW p ts)), .dct (ns.map Sum.inl) ws])
    (fun _ _ _ _ => okL_nil) (fun d r env X ⟨l1, l2, x3, x7, q1, q2, q3, q4⟩ => by
      subst q3
      cases l2 with
      | nil => cases q2
      | cons x l2 =>
        obtain ⟨rfl, rfl⟩ := List.cons.inj q2
        refine ⟨[some (ownD p dt []), some (.lst (nl.map .int)), some (.ref H.length), some (.int x), x4, x5, x6, x7, x8, x9, none], X, by simp, ?_⟩
        obtain ⟨cl, hcl⟩ : ∃ cl, cl = cls p ts x := ⟨_, rfl⟩
        have cllen : cl.length ≤ 12 := by
          have := List.length_filter_le (fun y => decide (rp ts y = x)) (plc p)
          rw [hcl]; unfold cls; omega
        have c1 : lcL [] (gNm 10) (b__law_pieces_ct3 (lw.cf n) (lw.ci n)) (eVar 10) [some (ownD p dt []), some (.lst (nl.map .int)), some (.ref H.length), some (.int x), x4, x5, x6, x7, x8, x9, none] ((plc p).map .int) X = .ok (cl.map .int) X := by
          rw [hcl]
          refine lcL_filterf okL_nil fun y hy => ⟨[some (ownD p dt []), some (.lst (nl.map .int)), some (.ref H.length), some (.int x), x4, x5, x6, x7, x8, x9, some (.int y)], by simp, ?_, fun _ => by simp⟩
          have hy := mem_plc.mp hy
          have := at_plc (f := rp ts) hy.1 hy.2
          rw [← hnl] at this
          simp [this]
        have z1 : cl.length ≤ sizeLine := le_size (by omega)
        obtain ⟨P, hP⟩ : ∃ P, P = (pcT p ts x ts).map tieD := ⟨_, rfl⟩
        have c2 : lcL [] (gTp 3 (gsCons (gNm 4) (gsCons (gNm 5) (gsCons (gNm 6) gsNil)))) (b__law_pieces_ct4 (lw.cf n) (lw.ci n)) (b__law_pieces_ce4 (lw.cf n) (lw.ci n)) [some (ownD p dt []), some (.lst (nl.map .int)), some (.ref H.length), some (.int x), none, none, none, some (.lst (cl.map .int)), x8, x9, none] (ts.map tieD) X = .ok P X := by
          rw [hP]
          unfold pcT
          rw [← hcl, List.map_map]
          refine lcL_filterf okL_nil fun t ht => ⟨[some (ownD p dt []), some (.lst (nl.map .int)), some (.ref H.length), some (.int x), some (.str t.1), some (.int t.2.1), some (.int t.2.2), some (.lst (cl.map .int)), x8, x9, none], by simp [tieD], ?_, fun hq => ?_⟩
          · simp [in_lints]
          · rw [decide_eq_true_eq] at hq
            obtain ⟨_, q1, q2⟩ := h.tv t ht
            have hj : t.2.2 ∈ cl := by
              rw [hcl, mem_cls]
              refine ⟨q2, ?_⟩
              rw [hcl] at hq
              rw [← (mem_cls.mp hq).2]
              exact (rp_adj ⟨t, ht, .inl ⟨rfl, rfl⟩⟩).symm
            have i1 := lix_ints (s := X) hq
            have i2 := lix_ints (s := X) hj
            simp [i1, i2, tieD, reT]
        have z3 : P.length ≤ sizeLine := le_size (by
          rw [hP, List.length_map]; unfold pcT; rw [List.length_map]
          exact Nat.le_trans (List.length_filter_le _ _) (by omega))
        have gX : X[H.length]? = some (.lst (l1.map (dueW p ts))) := by rw [q4]; simp
        have l1len : l1.length ≤ 12 := by
          have := congrArg List.length q1
          rw [List.length_append] at this
          omega
        have rc := rcv_ref gX
        have ap := app_ref (y := .tup [.int cl.length, .tup P, .tup []]) gX (by have := @le_size 13 (by omega); rw [List.length_map]; omega)
        refine ⟨[some (ownD p dt []), some (.lst (nl.map .int)), some (.ref H.length), some (.int x), x4, x5, x6, some (.lst (cl.map .int)), x8, x9, none], X.set H.length (.lst (l1.map (dueW p ts) ++ [.tup [.int cl.length, .tup P, .tup []]])), .inl ?_, l1 ++ [x], l2, _, _, by rw [q1]; simp, rfl, rfl, ?_⟩
        · simp [-List.map_map, hr, hpl, c1, z1, rc, (T1 X).items, c2, z3, ap]
        · have ed : dueW p ts x = .tup [.int cl.length, .tup P, .tup []] := by rw [hP, hcl]; rfl
          rw [q4, List.set_append_right _ _ (Nat.le_refl _), Nat.sub_self]
          simp [ed])
    ((reps p ts).map .int) [some (ownD p dt []), some (.lst (nl.map .int)), some (.ref H.length), none, x4, x5, x6, none, x8, x9, none] H2 ⟨[], reps p ts, none, none, rfl, rfl, rfl, by rw [hH2, hH1]; simp⟩
  obtain ⟨env2, X, ek2, l1, l2, x3, x7, q1, q2, q3, q4⟩ := key2
  have el2 : l2 = [] := by cases l2 with
    | nil => rfl
    | cons _ _ => cases q2
  subst el2
  rw [List.append_nil] at q1
  subst q3
  rw [← q1] at q4
  refine ⟨[.dct (ns.map Sum.inl) ws], ?_⟩
  rw [← q4]
  simp [-List.map_map, b__law_pieces, lr, hpl, zp, (T1 H).items, ek, ← hH1, k2, z2, zn, k3, so, ek2]
end
end Lk12p

set_option Elab.async false
set_option linter.all false
set_option maxRecDepth 10000
set_option maxHeartbeats 2000000
namespace Lk12p
open PySem PySem.Spec PyProof.Rows L2 Pv
open Lk12 hiding R P kit names run ob
section
variable {p : Int} {ts : List Tie} {ms : List Int} {s : DS} {n b m : Nat} {dt : D} {nm : Bool}
theorem rev_ref {c : Nat} {xs : List D} (h : s[c]? = some (.lst xs)) : mtReverse (.ref c) [] s = some (.non, s.set c (.lst xs.reverse)) := by
  simp [mtReverse, refL, h]
theorem get_map {α β : Type} {f : α → β} {l : List α} {k : Nat} (hk : k < l.length) : (l.map f)[k]? = some (f l[k]) := by simp [hk]
theorem prt_ok (h : WV p ts ms) (h1 : tupOf dt = some (ts.map tieD)) (hb : Bx b m s) : ∃ s', lw.cf (n + 10) "_law_pieces_right" [.ref b, ownD p dt ms, .bl nm] s = .ok (.bl true) s' ∧ Bx b m s' ∧ Fr b s s' := by
  have hp0 := h.p0; have hp12 := h.p12; have hml := h.ml; have htl := h.tl
  have hn : WV p ts [] := ⟨h.p0, h.p12, h.tl, h.tv, fun m hm => (by cases hm), List.nodup_nil⟩
  rw [Law.cf_s, body__law_pieces_right, ps__law_pieces_right, N__law_pieces_right]
  have m1 := lmade_ok (n := n + 3) (s := s) (b := nm) hn h1
  obtain ⟨t0, e0⟩ := lpieces_ok (n := n + 8) (s := s ++ [.dead]) hn h1
  obtain ⟨C, hC⟩ : ∃ C, C = (s ++ [DO.dead]).length := ⟨_, rfl⟩
  obtain ⟨S0, hS0⟩ : ∃ S0, S0 = s ++ [DO.dead] ++ .lst ((reps p ts).map (dueW p ts)) :: t0 := ⟨_, rfl⟩
  rw [← hC, ← hS0] at e0
  have gC : S0[C]? = some (.lst ((reps p ts).map (dueW p ts))) := by rw [hS0, hC]; simp
  have hCS : C < S0.length := lt_of_get gC
  have replen : (reps p ts).length ≤ 12 := by
    have := List.length_filter_le (fun y => decide (rp ts y = y)) (plc p)
    have plen : (plc p).length ≤ 12 := by simp [plc]; omega
    unfold reps; omega
  obtain ⟨O, hO⟩ : ∃ O, O = ownD p dt [] := ⟨_, rfl⟩
  have hO2 : D.tup [.int p, dt, .tup []] = O := by rw [hO]; rfl
  rw [← hO] at m1 e0
  obtain ⟨W, hW⟩ : ∃ W, W = webD p ts [] := ⟨_, rfl⟩
  have r2 : itRng1 [.int 2] = some ⟨rngL 0 2, []⟩ := rng_i (by omega) (by omega)
  have rl := rng_n (n := (reps p ts).length) (by omega)
  obtain ⟨env', s', e, ⟨q, x4, x6, x9, he⟩, u, hu⟩ := forL_rng (lv := []) (g := gNm 4) (n := 2) (body := b__law_pieces_right_fb1 (lw.cf (n + 9)) (lw.ci (n + 9))) (fun k env H => (∃ (q : Bool) (x4 x6 x9 : Option D), env = [some (.ref b), some (ownD p dt ms), some (.bl q), some O, x4, none, x6, some W, some (.ref C), x9]) ∧ ∃ u, H = S0 ++ u)
    (fun _ _ _ _ => okL_nil) (fun k env H hk ⟨⟨q, x4, x6, x9, he⟩, u, hu⟩ => by
      subst he
      refine ⟨_, _, rfl, ?_⟩
      obtain ⟨c, H1, t, a1, a2, a3, a4⟩ := pieces_ok (n := n + 2) (s := H) hn
      have a := asked3 (n := n + 8) (r := []) (nm := q) a1
      rw [ask_ok, ← hW] at a
      have gC1 : H1[C]? = some (.lst ((reps p ts).map (dueW p ts))) := by rw [a2, hu]; exact get_app (get_app gC)
      have l1 := op_len_ref a4
      have l2 := op_len_ref gC1
      rw [List.length_map] at l1 l2
      have ty : tyO (.ref c) H1 = some (.inl "list") := by simp [tyO, a4]
      have rc := rcv_ref a4
      have rv := rev_ref a4
      have c1 : lcL [] (gNm 9) (b__law_pieces_right_ct1 (lw.cf (n + 9)) (lw.ci (n + 9))) (eVar 9) [some (.ref b), some (ownD p dt ms), some (.bl q), some O, some (.int k), none, some (.lst [.str "told", .ref c]), some W, some (.ref C), none] (rngL 0 (reps p ts).length) H1 = .ok [] H1 := by
        rw [rngL_map]
        refine lcL_none okL_nil fun d hd => ?_
        obtain ⟨j, hj, rfl⟩ := List.mem_map.mp hd
        have hj := List.mem_range.mp hj
        have i1 := ix_ref (i := (j : Nat)) a4
        have i2 := ix_ref (i := (j : Nat)) gC1
        rw [at_map hj] at i1 i2
        have wv := WV.cls hn (reps p ts)[j] ts (List.Perm.refl _)
        have iw := is_web_ok (n := n + 3) (s := H1) (p := ((cls p ts (reps p ts)[j]).length : Nat)) (ts := pcT p ts (reps p ts)[j] (sortT ts)) (ts' := pcT p ts (reps p ts)[j] ts) (ms := []) (dt := .tup ((pcT p ts (reps p ts)[j] ts).map tieD)) (by have := wv.tl; omega) (fun t ht => (wv.tv t ht).1) (by simp) rfl (pcT_perm (sortT_self ts))
        have iw2 : lw.cf (n + 3 + 6) "_law_is_web" [pcW p ts (reps p ts)[j], dueW p ts (reps p ts)[j]] H1 = .ok (.bl true) H1 := iw
        generalize pcW p ts (reps p ts)[j] = A at *
        generalize dueW p ts (reps p ts)[j] = B at *
        refine ⟨[some (.ref b), some (ownD p dt ms), some (.bl q), some O, some (.int k), none, some (.lst [.str "told", .ref c]), some W, some (.ref C), some (.int (j : Nat))], by simp, ?_⟩
        simp [i1, i2, iw2]
      refine ⟨[some (.ref b), some (ownD p dt ms), some (.bl (!q)), some O, some (.int k), none, some (.lst [.str "told", .ref c]), some W, some (.ref C), x9], H1.set c (.lst ((reps p ts).map (pcW p ts)).reverse), .inl ?_, ⟨!q, _, _, _, rfl⟩, ?_⟩
      · simp [-List.map_reverse, a, ty, l1, l2, rl, c1, rc, rv]
      · rw [a2, List.set_append_right _ _ a3, hu]
        exact ⟨u ++ _, by rw [List.append_assoc]⟩) (env := [some (.ref b), some (ownD p dt ms), some (.bl nm), some O, none, none, none, some W, some (.ref C), none]) (s := S0) ⟨⟨nm, none, none, none, rfl⟩, [], by simp⟩
  subst he
  have eS : s' = s ++ ([DO.dead] ++ .lst ((reps p ts).map (dueW p ts)) :: t0 ++ u) := by rw [hu, hS0]; simp only [List.append_assoc]
  have hb1 : Bx b m s' := by rw [eS]; exact hb.app
  have hf1 : Fr b s s' := by rw [eS]; exact Fr.app
  have en := eq_tup_nil (ns := ms) (s := s')
  rw [← hW] at m1
  by_cases hne : ms = []
  · refine ⟨s', ?_, hb1, hf1⟩
    have en' : eqO (.tup (ms.map .int)) (.tup []) s' = some true := by rw [en]; simp [hne]
    simp [b__law_pieces_right, hO2, m1, e0, r2, e, en']
  · have en' : eqO (.tup (ms.map .int)) (.tup []) s' = some false := by rw [en]; simp [hne]
    have m2 := lmade_ok (n := n + 3) (s := s') (b := q) h h1
    have a := asked3 (n := n + 8) (r := []) (nm := q) (pieces_no (n := n + 6) (s := s' ++ [.dead]) (plain_no (p := p) (ts := ts) hne))
    rw [ask_web] at a
    have w1 := fun s => is_web_ok (s := s) (n := n + 3) (p := p) (ts := ts) (ms := ms) (by omega) (fun t ht => (h.tv t ht).1) (by omega) h1 (List.Perm.refl _)
    refine ⟨s' ++ [.dead], ?_, hb1.app, hf1.trans Fr.app⟩
    simp [b__law_pieces_right, hO2, m1, e0, r2, e, en', m2, a, w1]
end
end Lk12p

set_option Elab.async false
set_option linter.all false
set_option maxRecDepth 10000
set_option maxHeartbeats 2000000
namespace Lk12p
open PySem PySem.Spec PyProof.Rows L2 Pv
open Lk12 hiding R P kit names run ob
theorem wrong_ok {n : Nat} {x : D} {s : DS} (h : Mi s x) : ∃ d t, lw.cf (n + 5) "_law_copied" [x] s = .ok d (s ++ t) ∧ Wr (s ++ t) d ∧ (∀ m, d = .ref m → s.length ≤ m) ∧ tyO d (s ++ t) = tyO x s ∧ (∀ v, x = .int v → d = .int v) ∧ (∀ z, x = .str z → d = .str z) := by
  cases h with
  | im h =>
    obtain ⟨t, e⟩ := copied_im (n := n + 1) (s := s) h
    refine ⟨nrm x, t, e, .im (imB_mono (by omega) (im_nrm h)), ?_, ?_, ?_, ?_⟩
    · intro m hm
      have := im_nrm h
      rw [hm] at this
      exact absurd this (by simp [imB])
    · cases imV h <;> simp [nrm]
    · rintro v rfl; rfl
    · rintro z rfl; rfl
  | lst h1 h2 =>
    rename_i xs
    obtain ⟨t, e⟩ := copied_lst (n := n + 1) (s := s) (xs := xs) (by omega) h1
    have g : (s ++ (t ++ [DO.lst (xs.map nrm)]))[(s ++ t).length]? = some (.lst (xs.map nrm)) := by
      rw [← List.append_assoc]; simp
    refine ⟨_, t ++ [.lst (xs.map nrm)], by rw [← List.append_assoc]; exact e, .lst g (fun y hy => ?_) (by simp; omega), ?_, ?_, ?_, ?_⟩
    · obtain ⟨u, hu, rfl⟩ := List.mem_map.mp hy
      exact im_nrm (h1 u hu)
    · intro m hm
      cases hm
      simp
    · simp only [tyO, g]
    · rintro v hv; cases hv
    · rintro v hv; cases hv
  | dct h1 =>
    refine ⟨_, [.dct [] []], copied_dct0 (n := n + 4) h1, .dct (by simp), ?_, ?_, ?_, ?_⟩
    · intro m hm
      cases hm
      exact Nat.le_refl _
    · simp [tyO, h1]
    · rintro v hv; cases hv
    · rintro v hv; cases hv
section
variable {p : Int} {ts : List Tie} {ms : List Int} {s : DS} {n : Nat} {d e a c : D} {T : String} {q : Bool}
abbrev T7 (T : String) : Prop := T = "NoneType" ∨ T = "bool" ∨ T = "int" ∨ T = "str" ∨ T = "tuple" ∨ T = "list" ∨ T = "dict"
abbrev T6 (T : String) : Prop := T = "NoneType" ∨ T = "bool" ∨ T = "str" ∨ T = "tuple" ∨ T = "list" ∨ T = "dict"
theorem pinched_no0 (h : tyO d s = some (.inl T)) (hT : T7 T) : lw.cf (n + 3) "pinched" [d, e, a] s = .exc (excOf "InvalidWeb" ["given"] d) s := by
  rw [Law.cf_s, body_pinched, ps_pinched, N_pinched]
  simp [b_pinched, check_web_no h hT]
theorem without_no0 (h : tyO d s = some (.inl T)) (hT : T7 T) : lw.cf (n + 3) "without_tie" [d, e] s = .exc (excOf "InvalidWeb" ["given"] d) s := by
  rw [Law.cf_s, body_without_tie, ps_without_tie, N_without_tie]
  simp [b_without_tie, check_web_no h hT]
theorem ptie_no0 (h : tyO d s = some (.inl T)) (hT : T7 T) : lw.cf (n + 3) "pinched_tie" [d, e] s = .exc (excOf "InvalidWeb" ["given"] d) s := by
  rw [Law.cf_s, body_pinched_tie, ps_pinched_tie, N_pinched_tie]
  simp [b_pinched_tie, check_web_no h hT]
theorem asked_web {k : Nat} (hk : k < 4) (h : tyO d s = some (.inl T)) (hT : T7 T) : lw.cf (n + 4) "_law_asked" [.int k, .lst [d, .non, .non], .bl q] s = .ok (.lst [.str "web", d]) s := by
  have : k = 0 ∨ k = 1 ∨ k = 2 ∨ k = 3 := by omega
  rcases this with rfl | rfl | rfl | rfl
  · exact (asked0 (pinched_no0 h hT)).trans ask_web
  · exact (asked1 (without_no0 h hT)).trans ask_web
  · exact (asked2 (ptie_no0 h hT)).trans ask_web
  · exact (asked3 (pieces_no (n := n + 1) (plain_no1 h hT))).trans ask_web
end
theorem ty_keep {b : Nat} {S S' : DS} {d : D} (hw : Wr S d) (hf : Fr b S S') (hd : ∀ i, d = .ref i → i ≠ b) : tyO d S' = tyO d S := by
  cases d with
  | ref i =>
    obtain ⟨o, ho⟩ : ∃ o, S[i]? = some o := by
      cases hw with
      | im z => exact absurd z (by simp [imB])
      | lst z _ _ => exact ⟨_, z⟩
      | dct z => exact ⟨_, z⟩
    have := hf.get ho (hd i rfl)
    simp only [tyO, ho, this]
  | _ => rfl
def oddL (v : Int) (c : Nat) : List D := [.non, .int (-1), .int v, .bl true, .str "0", .lst [.int 0], .ref c]
def tieL (v : Int) (c : Nat) : List D := [.non, .int (-1), .int v, .bl true, .str "0", .lst [.int 0], .ref c, .tup [.str "a", .int 0, .int 1]]
theorem tie_item {v : Int} {c : Nat} {s : DS} {x : D} (hc : s[c]? = some (.dct [] [])) (hx : x ∈ tieL v c) : Mi s x ∧ ((∃ T, tyO x s = some (.inl T) ∧ T6 T) ∨ x = .int (-1) ∨ x = .int v) := by
  have l0 : ("0" : Str).length ≤ 1000 := by decide +kernel
  have l4 : ("a" : Str).length ≤ 1000 := by decide +kernel
  simp only [tieL, List.mem_cons, List.not_mem_nil, or_false] at hx
  rcases hx with rfl | rfl | rfl | rfl | rfl | rfl | rfl | rfl
  · exact ⟨.im (by simp), .inl ⟨_, rfl, by simp [T6]⟩⟩
  · exact ⟨.im (by simp), .inr (.inl rfl)⟩
  · exact ⟨.im (by simp), .inr (.inr rfl)⟩
  · exact ⟨.im (by simp), .inl ⟨_, rfl, by simp [T6]⟩⟩
  · exact ⟨.im (by simp [l0]), .inl ⟨_, rfl, by simp [T6]⟩⟩
  · exact ⟨.lst (by simp) (by simp), .inl ⟨_, rfl, by simp [T6]⟩⟩
  · exact ⟨.dct hc, .inl ⟨"dict", by simp [tyO, hc], by simp [T6]⟩⟩
  · exact ⟨.im (imB_tup (by simp) (by simp [l4])), .inl ⟨_, rfl, by simp [T6]⟩⟩
theorem odd_item {v : Int} {c : Nat} {s : DS} {x : D} (hc : s[c]? = some (.dct [] [])) (hx : x ∈ oddL v c) : Mi s x ∧ ((∃ T, tyO x s = some (.inl T) ∧ T6 T) ∨ x = .int (-1) ∨ x = .int v) := tie_item hc (by
  simp only [oddL, tieL, List.mem_cons, List.not_mem_nil, or_false] at hx ⊢
  rcases hx with h | h | h | h | h | h | h <;> simp [h])
/-- one is picked, copied -/
theorem pick_copy {n b m c : Nat} {s : DS} {menu : List D} (hb : Bx b m s) (hm : m < 10 ^ 9) (hc : s[c]? = some (.dct [] [])) (hcb : c ≠ b) (hne : menu ≠ []) (hl : menu.length < 1000) (hmi : ∀ s', s'[c]? = some (.dct [] []) → ∀ x ∈ menu, Mi s' x) :
    ∃ x s1 d t, lw.cf (n + 5) "_law_pick" [.ref b, .lst menu] s = .ok x s1 ∧ lw.cf (n + 5) "_law_copied" [x] s1 = .ok d (s1 ++ t) ∧ x ∈ menu ∧ s1[c]? = some (.dct [] []) ∧ Wr (s1 ++ t) d ∧ tyO d (s1 ++ t) = tyO x s1 ∧ (∀ v, x = .int v → d = .int v) ∧ (∀ z, x = .str z → d = .str z) ∧ (∀ i, d = .ref i → s.length ≤ i) ∧ Bx b (m + 1) (s1 ++ t) ∧ Fr b s (s1 ++ t) := by
  obtain ⟨x, s1, e1, xm, hb1, hf1⟩ := pick_lst (n := n + 3) hb hm (xs := menu) hne (by omega)
  have hc1 := hf1.get hc hcb
  obtain ⟨d, t, e2, wr, hd, h1, h2, h3⟩ := wrong_ok (n := n) (hmi s1 hc1 x xm)
  exact ⟨x, s1, d, t, e1, e2, xm, hc1, wr, h1, h2, h3, fun i hi => by have := hd i hi; have := hf1.1; omega, hb1.app, hf1.trans Fr.app⟩
theorem own_im {p : Int} {ts : List Tie} {ms : List Int} {dt : D} (h : WV p ts ms) (h1 : tupOf dt = some (ts.map tieD)) : imB 3 (ownD p dt ms) = true := by
  have htl := h.tl; have hml := h.ml
  refine imB_tup (by simp) fun x hx => ?_
  simp only [List.mem_cons, List.not_mem_nil, or_false] at hx
  rcases hx with rfl | rfl | rfl
  · simp
  · have key : ∀ y ∈ ts.map tieD, imB 1 y = true := fun y hy => by
      obtain ⟨t, ht, rfl⟩ := List.mem_map.mp hy
      exact tieD_im (by have := nmB_len (h.tv t ht).1; omega)
    rcases (tupA h1 []).rcv with e | e
    · rw [e]; exact imB_tup (by simp; omega) key
    · rw [e]; exact imB_ktup (by simp; omega) key
  · exact imB_tup (by simp; omega) fun y hy => by
      obtain ⟨t, ht, rfl⟩ := List.mem_map.mp hy
      simp
theorem refused_f {p : Int} {ts : List Tie} {ms : List Int} {own : D} {n b m : Nat} {q : Bool} {s0 : DS} {x8 : Option D} (ho : imB 3 own = true) (hb : Bx b m s0) (hm : m + 100 < 10 ^ 9) :
    ∃ (x3 x5 x6 : Option D) (s' : DS), forL [] (gNm 3) (b__law_refused_right_fb1 (lw.cf (n + 9)) (lw.ci (n + 9))) (rngL 0 4) [some (.ref b), some own, some (.bl q), none, none, none, none, some (webD p ts ms), x8] s0
      = .nx [some (.ref b), some own, some (.bl q), x3, none, x5, x6, some (webD p ts ms), x8] s' ∧ Bx b (m + 4) s' ∧ Fr b s0 s' := by
  have hblt := hb.lt
  have web_len : ("web" : Str).length ≤ 1000 := by decide +kernel
  obtain ⟨env', s', e, ⟨x3, x5, x6, he⟩, hb', hf'⟩ := forL_rng (lv := []) (g := gNm 3) (n := 4) (body := b__law_refused_right_fb1 (lw.cf (n + 9)) (lw.ci (n + 9))) (fun k env s' => (∃ (x3 x5 x6 : Option D), env = [some (.ref b), some own, some (.bl q), x3, none, x5, x6, some (webD p ts ms), x8]) ∧ Bx b (m + k) s' ∧ Fr b s0 s')
    (fun _ _ _ _ => okL_nil) (fun k env s1 hk ⟨⟨x3, x5, x6, he⟩, hb1, hf1⟩ => by
      subst he
      refine ⟨_, _, rfl, ?_⟩
      obtain ⟨y, s2, d, t, a1, a2, a3, a4, a5, a6, a7, a8, a9, hb2, hf2⟩ := pick_copy (n := n + 4) (c := s1.length) (menu := [.non, .int 5, .lst [], .ref s1.length, .str "web", own, .bl true]) (hb1.app (t := [.dct [] []])) (by omega) (by simp) (by have := hb1.lt; omega) (by simp) (by simp) (fun s' hc x hx => by
        simp only [List.mem_cons, List.not_mem_nil, or_false] at hx
        rcases hx with rfl | rfl | rfl | rfl | rfl | rfl | rfl
        · exact .im (by simp)
        · exact .im (by simp)
        · exact .lst (by simp) (by simp)
        · exact .dct hc
        · exact .im (by simp [web_len])
        · exact .im ho
        · exact .im (by simp))
      obtain ⟨T, hty, hT⟩ := a5.ty
      have e4 := asked_web (n := n + 5) (q := q) hk hty hT
      obtain ⟨s4, e5, hs4⟩ := blamed_ok (n := n + 3) a5
      obtain ⟨hf04, hb4⟩ := after_bl ((hf1.trans Fr.app).trans hf2) hb2 (fun i hi => by have z1 := a9 i hi; have := hf1.1; simp only [List.length_append] at z1; omega) hblt hs4
      exact ⟨[some (.ref b), some own, some (.bl q), some (.int k), none, some d, some (.lst [.str "web", d]), some (webD p ts ms), x8], s4, .inl (by simp [a1, a2, e4, e5]), ⟨_, _, _, rfl⟩, hb4.mono (by omega), hf04⟩) (env := [some (.ref b), some own, some (.bl q), none, none, none, none, some (webD p ts ms), x8]) (s := s0) ⟨⟨none, none, none, rfl⟩, hb, Fr.refl⟩
  subst he
  exact ⟨x3, x5, x6, s', e, hb', hf'⟩
theorem refused_g {p : Int} {ts : List Tie} {ms : List Int} {dt : D} {n b m : Nat} {q : Bool} {s0 : DS} {x3 x4 x5 x6 x8 : Option D} (h1 : tupOf dt = some (ts.map tieD)) (hb : Bx b m s0) (hm : m + 100 < 10 ^ 9) :
    ∃ (env' : Env') (s' : DS), forL [] (gNm 3) (b__law_refused_right_fb2 (lw.cf (n + 9)) (lw.ci (n + 9))) [.int 1, .int 2] [some (.ref b), some (ownD p dt ms), some (.bl q), x3, x4, x5, x6, some (webD p ts ms), x8] s0
      = .nx env' s' ∧ Bx b (m + 2) s' ∧ Fr b s0 s' := by
  have hblt := hb.lt
  obtain ⟨env', s', e, ⟨_, _, _, _, he⟩, j, hj, hmem, hb', hf'⟩ := forL_ok (lv := []) (g := gNm 3) (body := b__law_refused_right_fb2 (lw.cf (n + 9)) (lw.ci (n + 9))) (fun l env s' => (∃ (q : Bool) (x3 x5 x6 : Option D), env = [some (.ref b), some (ownD p dt ms), some (.bl q), x3, x4, x5, x6, some (webD p ts ms), x8]) ∧ ∃ j, j + l.length = 2 ∧ (∀ d ∈ l, d = .int 1 ∨ d = .int 2) ∧ Bx b (m + j) s' ∧ Fr b s0 s')
    (fun _ _ _ _ => okL_nil) (fun d r env s1 ⟨⟨q, x3, x5, x6, he⟩, j, hj, hmem, hb1, hf1⟩ => by
      subst he
      refine ⟨_, _, rfl, ?_⟩
      rw [List.length_cons] at hj
      have T1 := tupA h1
      obtain ⟨y, s2, d2, t, a1, a2, a3, a4, a5, a6, a7, a8, a9, hb2, hf2⟩ := pick_copy (n := n + 4) (c := s1.length) (menu := tieL ts.length s1.length) (hb1.app (t := [.dct [] []])) (by omega) (by simp) (by have := hb1.lt; omega) (by simp [tieL]) (by simp [tieL]) (fun s' hc x hx => (tie_item hc hx).1)
      have ck : ∀ N, lw.cf (N + 2) "check_tie" [webD p ts ms, d2] (s2 ++ t) = .exc (excOf "InvalidTie" ["given"] d2) (s2 ++ t) := fun N => by
        rcases (tie_item a4 a3).2 with ⟨T, hT, h6⟩ | e | e
        · exact check_tie_no (by rw [a6]; exact hT) h6
        · rw [a7 _ e, check_tie_int, if_neg (by omega)]
        · rw [a7 _ e, check_tie_int, if_neg (by omega)]
      obtain ⟨s4, e5, hs4⟩ := blamed_ok (n := n + 3) a5
      obtain ⟨hf04, hb4⟩ := after_bl ((hf1.trans Fr.app).trans hf2) hb2 (fun i hi => by have z1 := a9 i hi; have := hf1.1; simp only [List.length_append] at z1; omega) hblt hs4
      have e4 : lw.cf (n + 9) "_law_asked" [d, .lst [webD p ts ms, d2], .bl q] (s2 ++ t) = .ok (.lst [.str "tie", d2]) (s2 ++ t) := by
        rcases hmem d List.mem_cons_self with rfl | rfl
        · exact (asked1 (n := n + 8) (without_no (n := n + 5) (ck _))).trans ask_tie
        · exact (asked2 (n := n + 8) (pinched_tie_no (n := n + 5) (ck _))).trans ask_tie
      have u1 : ∀ s, isUn .USub (.int 1) s = some (.int (-1), s) := fun _ => rfl
      have ln : ∀ s, opLen [dt] s = some (.int ts.length, s) := fun s => by have := (T1 s).len; rw [List.length_map] at this; exact this
      simp only [tieL] at a1
      exact ⟨[some (.ref b), some (ownD p dt ms), some (.bl (!q)), some d, x4, some d2, some (.lst [.str "tie", d2]), some (webD p ts ms), x8], s4, .inl (by simp [u1, ln, a1, a2, e4, e5]), ⟨_, _, _, _, rfl⟩, j + 1, by omega, fun x hx => hmem x (List.mem_cons_of_mem _ hx), hb4.mono (by omega), hf04⟩) [.int 1, .int 2] [some (.ref b), some (ownD p dt ms), some (.bl q), x3, x4, x5, x6, some (webD p ts ms), x8] s0 ⟨⟨q, _, _, _, rfl⟩, 0, rfl, fun d hd => by simpa using hd, hb, Fr.refl⟩
  exact ⟨env', s', e, hb'.mono (by simp at hj; omega), hf'⟩
theorem refused_ok {p : Int} {ts : List Tie} {ms : List Int} {dt : D} {n b m : Nat} {nm : Bool} {s : DS} (h : WV p ts ms) (h1 : tupOf dt = some (ts.map tieD)) (hb : Bx b m s) (hm : m + 200 < 10 ^ 9) : ∃ s', lw.cf (n + 10) "_law_refused_right" [.ref b, ownD p dt ms, .bl nm] s = .ok (.bl true) s' ∧ Bx b (m + 9) s' ∧ Fr b s s' := by
  have hblt := hb.lt
  have hml := h.ml
  rw [Law.cf_s, body__law_refused_right, ps__law_refused_right, N__law_refused_right]
  have m1 := lmade_ok (n := n + 3) (s := s) (b := nm) h h1
  obtain ⟨L, hL⟩ : ∃ L : Int, L = ms.length := ⟨_, rfl⟩
  obtain ⟨s0, hs0⟩ : ∃ s0, s0 = s ++ [DO.dead] := ⟨_, rfl⟩
  rw [← hs0] at m1
  have hb0 : Bx b m s0 := by rw [hs0]; exact hb.app
  have hf0 : Fr b s s0 := by rw [hs0]; exact Fr.app
  obtain ⟨x3, x5, x6, s1, f1, hb1, hf1⟩ := refused_f (p := p) (ts := ts) (ms := ms) (own := ownD p dt ms) (n := n) (q := nm) (x8 := some (.int L)) (own_im h h1) hb0 (by omega)
  have hf01 := hf0.trans hf1
  -- a mark
  obtain ⟨y2, s2, d2, t2, a1, a2, a3, a4, a5, a6, a7, a8, a9, hb2, hf2⟩ := pick_copy (n := n + 4) (c := s1.length) (menu := oddL L s1.length) (hb1.app (t := [.dct [] []])) (by omega) (by simp) (by have := hb1.lt; omega) (by simp [oddL]) (by simp [oddL]) (fun s' hc x hx => (odd_item hc hx).1)
  obtain ⟨w, s3, w1, _, hb3, hf3⟩ := pick_lst (n := n + 7) hb2 (by omega) (xs := [.int 0, .non]) (by simp) (by simp)
  have hd2 : ∀ i, d2 = .ref i → s1.length + 1 ≤ i := fun i hi => by have z1 := a9 i hi; simp only [List.length_append, List.length_cons, List.length_nil] at z1; omega
  have hb1l := hb1.lt
  have a5' : Wr s3 d2 := a5.get fun i o hi ho => hf3.get ho (by have := hd2 i hi; omega)
  have a6' : tyO d2 s3 = tyO y2 s2 := (ty_keep a5 hf3 (fun i hi => by have := hd2 i hi; omega)).trans a6
  have mk : ∀ (d : D) (x : D) (S S1 : DS), x ∈ oddL L s1.length → S1[s1.length]? = some (.dct [] []) → tyO d S = tyO x S1 → (∀ v, x = .int v → d = .int v) → ∀ N, lw.cf (N + 3) "check_mark" [webD p ts ms, d] S = .exc (excOf "InvalidMark" ["given"] d) S ∧ lw.cf (N + 3) "is_mark" [webD p ts ms, d] S = .ok (.bl false) S := fun d x S S1 hx hc hty hv N => by
    rcases (odd_item hc hx).2 with ⟨T, hT, h6⟩ | e | e
    · exact ⟨check_mark_no (by rw [hty]; exact hT) h6, is_mark_no (n := N + 1) (by rw [hty]; exact hT) h6⟩
    · rw [hv _ e, check_mark_int, if_neg (by omega), is_mark_int (n := N + 1)]
      exact ⟨rfl, rfl⟩
    · rw [hv _ e, check_mark_int, if_neg (by omega), is_mark_int (n := N + 1)]
      refine ⟨rfl, ?_⟩
      have : (decide (L < (ms.length : Int))) = false := decide_eq_false (by omega)
      rw [this, Bool.and_false]
  have p2 : lw.cf (n + 9) "_law_asked" [.int 0, .lst [webD p ts ms, d2, w], .bl nm] s3 = .ok (.lst [.str "mark", d2]) s3 := (asked0 (n := n + 8) (r := []) (pinched_mark (n := n + 4) (mk d2 y2 s3 s2 a3 a4 a6' a7 _).1)).trans ask_mark
  obtain ⟨s4, p3, q4⟩ := blamed_ok (n := n + 3) a5'
  have hf13 : Fr b s s3 := ((hf01.trans Fr.app).trans hf2).trans hf3
  obtain ⟨hf4, hb4⟩ := after_bl hf13 hb3 (fun i hi => by have := hd2 i hi; have := hf01.1; omega) hblt q4
  have hc4 : s4[s1.length]? = some (.dct [] []) := by
    have g : s3[s1.length]? = some (.dct [] []) := hf3.get (get_app a4) (by omega)
    rcases q4 with rfl | ⟨k, o, e, rfl⟩
    · exact g
    · have := hd2 k e
      rw [List.getElem?_set_ne (by omega)]; exact g
  have u1 : ∀ s, isUn .USub (.int 1) s = some (.int (-1), s) := fun _ => rfl
  have u3 : itRng1 [.int 4] = some ⟨rngL 0 4, []⟩ := rng_i (by omega) (by omega)
  by_cases hz : 0 < L
  · obtain ⟨y5, s5, d5, t5, c1, c2, c3, c4, c5, c6, c7, c8, c9, hb5, hf5⟩ := pick_copy (n := n + 4) (c := s1.length) (menu := oddL L s1.length) hb4 (by omega) hc4 (by omega) (by simp [oddL]) (by simp [oddL]) (fun s' hc x hx => (odd_item hc hx).1)
    have p5 : lw.cf (n + 9) "_law_asked" [.int 0, .lst [webD p ts ms, .int (L - 1), d5], .bl (!nm)] (s5 ++ t5) = .ok (.lst [.str "mark", d5]) (s5 ++ t5) := (asked0 (n := n + 8) (r := []) (pinched_mark2 (n := n + 4) (by omega) (mk d5 y5 _ s5 c3 c4 c6 c7 _).2)).trans ask_mark
    obtain ⟨s6, p6, q6⟩ := blamed_ok (n := n + 3) c5
    obtain ⟨hf6, hb6⟩ := after_bl (hf4.trans hf5) hb5 (fun i hi => by have := c9 i hi; have := hf4.1; omega) hblt q6
    obtain ⟨env', s7, g1, hb7, hf7⟩ := refused_g (n := n) (p := p) (ts := ts) (ms := ms) (q := nm) (x3 := x3) (x4 := some (.lst (oddL L s1.length))) (x5 := some d5) (x6 := some (.lst [.str "mark", d5])) (x8 := some (.int L)) h1 hb6 (by omega)
    refine ⟨s7, ?_, hb7.mono (by omega), hf6.trans hf7⟩
    simp only [oddL] at a1 c1 g1
    simp [b__law_refused_right, m1, ← hL, u3, f1, u1, a1, a2, w1, p2, p3, hz, c1, c2, p5, p6, g1]
  · obtain ⟨env', s7, g1, hb7, hf7⟩ := refused_g (n := n) (p := p) (ts := ts) (ms := ms) (q := nm) (x3 := x3) (x4 := some (.lst (oddL L s1.length))) (x5 := some d2) (x6 := some (.lst [.str "mark", d2])) (x8 := some (.int L)) h1 hb4 (by omega)
    refine ⟨s7, ?_, hb7.mono (by omega), hf4.trans hf7⟩
    simp only [oddL] at a1 g1
    simp [b__law_refused_right, m1, ← hL, u3, f1, u1, a1, a2, w1, p2, p3, hz, g1]
end Lk12p

set_option Elab.async false
set_option linter.all false
set_option maxRecDepth 10000
set_option maxHeartbeats 4000000
namespace Lk12p
open PySem PySem.Spec PyProof.Rows L2 Pv
open Lk12 hiding R P kit names run ob
def tieP (t : Tie) : PyData := .tuple [.str t.1, .int t.2.1, .int t.2.2]
theorem nm_ok {x : Str} (h : nmB x = true) : PyData.strOk x = true := by
  unfold nmB at h
  simp only [Bool.and_eq_true, decide_eq_true_eq, List.all_eq_true] at h
  have sg : ∀ c ∈ ("abcdefghijklmnopqrstuvwxyz" : Str).cps.toList, c < 0x110000 := by decide +kernel
  show (x.cps.all fun c => decide (c < 0x110000)) = true
  rw [Array.all_eq_true_iff_forall_mem]
  intro c hc
  exact decide_eq_true (sg c (h.2 c (by simpa using hc)))
theorem lay_ties : ∀ ts : List Tie, (∀ t ∈ ts, nmB t.1 = true) → PyData.canLayAll0 (ts.map tieP) = true
  | [], _ => rfl
  | t :: r, h => by simp [PyData.canLayAll0, PyData.canLay0, tieP, lay_ties r fun u hu => h u (List.mem_cons_of_mem _ hu), nm_ok (h t List.mem_cons_self)]
theorem depth_ties : ∀ ts : List Tie, PyData.depthAll (ts.map tieP) ≤ 1
  | [] => by simp [PyData.depthAll]
  | t :: r => by
    have := depth_ties r
    simp [PyData.depthAll, PyData.depth, tieP]
    omega
theorem shaped_ties {ts : List Tie} (h : ∀ t ∈ ts, nmB t.1 = true) : SeqAt.shaped (.list (ts.map tieP)) = true := by
  have := depth_ties ts
  simp [SeqAt.shaped, PyData.canLay0, PyData.depth, lay_ties ts h]
  omega
theorem eq_ref_ties {c : Nat} {ts : List Tie} {s : DS} (h : s[c]? = some (.lst (ts.map tieD))) (hn : ∀ t ∈ ts, nmB t.1 = true) : eqO (.ref c) (.lst []) s = some (decide (ts = [])) := by
  cases ts with
  | nil => rw [eq_ref_nil h]; simp
  | cons t ts =>
    rw [eq_ref_cons (x := tieD t) (xs := ts.map tieD) h (pdL_ties (t :: ts)) (shaped_ties hn)]
    simp
noncomputable def drE (cf ci : Str → Fn) : EV D := (eIf (tOrD (tBl (eBin (isCmp .Eq) (eCall ⟨2, [], [0, 1]⟩ (cf ("_law_take" : Str)) (aCons (eVar 0) (aCons (eC (.int 2)) aNil)) aNil) (eC (.int 0)))) (tBl (eBin (isCmp .Eq) (eVar 2) (eVar 4)))) (eSl (eVar 7) pNone (pSome (eVar 2))) (eSl (eVar 7) (pSome (eVar 2)) pNone))
noncomputable def drB (cf ci : Str → Fn) : SV := (sSeq (sIf (tBl (eBin (isCmp .Eq) (eCall ⟨2, [], [0, 1]⟩ (cf ("_law_take" : Str)) (aCons (eVar 0) (aCons (eC (.int 5)) aNil)) aNil) (eC (.int 0)))) (sSeq (sDrop (eMeth mtT ("append" : Str) (eVar 5) (aCons (eTup (aCons (eCall ⟨2, [], [0, 1]⟩ (cf ("_law_pick" : Str)) (aCons (eVar 0) (aCons (eVar 6) aNil)) aNil) (aCons (eBin isIx (eVar 9) (eC (.int 2))) (aCons (eBin isIx (eVar 9) (eC (.int 1))) aNil)))) aNil))) sNext) sNext) sNext)
noncomputable def drA (cf ci : Str → Fn) : SV := (sSeq (sDrop (eMeth mtT ("append" : Str) (eVar 5) (aCons (eIf (tAndD (tBl (eBin (isCmp .NotEq) (eVar 5) (eLst aNil))) (tBl (eBin (isCmp .Eq) (eCall ⟨2, [], [0, 1]⟩ (cf ("_law_take" : Str)) (aCons (eVar 0) (aCons (eC (.int 4)) aNil)) aNil) (eC (.int 0))))) (eCall ⟨2, [], [0, 1]⟩ (cf ("_law_pick" : Str)) (aCons (eVar 0) (aCons (eVar 5) aNil)) aNil) (eVar 9)) aNil))) (drB cf ci))
noncomputable def drR (cf ci : Str → Fn) : SV := (sSeq (sSet 9 (eTup (aCons (eCall ⟨2, [], [0, 1]⟩ (cf ("_law_pick" : Str)) (aCons (eVar 0) (aCons (eVar 6) aNil)) aNil) (aCons (eCall ⟨2, [], [0, 1]⟩ (cf ("_law_pick" : Str)) (aCons (eVar 0) (aCons (eVar 8) aNil)) aNil) (aCons (eCall ⟨2, [], [0, 1]⟩ (cf ("_law_pick" : Str)) (aCons (eVar 0) (aCons (eVar 8) aNil)) aNil) aNil))))) (drA cf ci))
theorem dr_eq (cf ci : Str → Fn) : b__law_drawn_web_fb1 cf ci = sSeq (sSet 8 (drE cf ci)) (drR cf ci) := rfl
theorem lets_ok {x : D} (h : x ∈ [D.lst [.str "a"], .lst [.str "a", .str "b"], .lst [.str "z", .str "ab"]]) : ∃ L, x = .lst L ∧ L ≠ [] ∧ L.length < 2 ^ 31 ∧ ∀ y ∈ L, ∃ z, y = .str z ∧ nmB z = true := by
  have ha : nmB "a" = true := by decide +kernel
  have hb : nmB "b" = true := by decide +kernel
  have hc : nmB "z" = true := by decide +kernel
  have hd : nmB "ab" = true := by decide +kernel
  simp only [List.mem_cons, List.not_mem_nil, or_false] at h
  rcases h with rfl | rfl | rfl
  · exact ⟨_, rfl, by simp, by simp, fun y hy => by simp at hy; subst hy; exact ⟨_, rfl, ha⟩⟩
  · exact ⟨_, rfl, by simp, by simp, fun y hy => by
      simp at hy
      rcases hy with rfl | rfl
      · exact ⟨_, rfl, ha⟩
      · exact ⟨_, rfl, hb⟩⟩
  · exact ⟨_, rfl, by simp, by simp, fun y hy => by
      simp at hy
      rcases hy with rfl | rfl
      · exact ⟨_, rfl, hc⟩
      · exact ⟨_, rfl, hd⟩⟩
/-- a tie that stands in a web of p places -/
def Vt (p : Int) (t : Tie) : Prop := nmB t.1 = true ∧ (0 ≤ t.2.1 ∧ t.2.1 < p) ∧ 0 ≤ t.2.2 ∧ t.2.2 < p
/-- the heap while a web is drawn -/
structure DrI (b c o : Nat) (p : Int) (ks : List Int) (s : DS) (m k : Nat) (H : DS) : Prop where
  bx : Bx b m H
  fr : Fr b s H
  ord : H[o]? = some (.lst (ks.map .int))
  ties : ∃ ts : List Tie, H[c]? = some (.lst (ts.map tieD)) ∧ ts.length ≤ k ∧ ∀ t ∈ ts, Vt p t
  sc : s.length ≤ c
  cb : c ≠ b
  ob : o ≠ b
  oc : o ≠ c
section
variable {b c o : Nat} {p : Int} {ks : List Int} {s : DS} {m m' k k' : Nat} {H H' : DS} {n : Nat}
theorem DrI.step (h : DrI b c o p ks s m k H) (hb : Bx b m' H') (hf : Fr b H H') : DrI b c o p ks s m' k H' := by
  obtain ⟨ts, g, hl, hv⟩ := h.ties
  exact ⟨hb, h.fr.trans hf, hf.get h.ord h.ob, ⟨ts, hf.get g h.cb, hl, hv⟩, h.sc, h.cb, h.ob, h.oc⟩
theorem DrI.mono (h : DrI b c o p ks s m k H) (hm : m ≤ m') (hk : k ≤ k') : DrI b c o p ks s m' k' H := by
  obtain ⟨ts, g, hl, hv⟩ := h.ties
  exact ⟨h.bx.mono hm, h.fr, h.ord, ⟨ts, g, by omega, hv⟩, h.sc, h.cb, h.ob, h.oc⟩
theorem DrI.put {t : Tie} (h : DrI b c o p ks s m k H) (hk : k ≤ 1000) (ht : Vt p t) : ∃ H', mtAppend (.ref c) [tieD t] H = some (.non, H') ∧ rcvT (.ref c) H = some "list" ∧ DrI b c o p ks s m (k + 1) H' := by
  obtain ⟨ts, g, hl, hv⟩ := h.ties
  refine ⟨_, app_ref g (by have := @le_size 1001 (by omega); rw [List.length_map]; omega), rcv_ref g, h.bx.set h.cb, h.fr.setNew h.sc, ?_, ⟨ts ++ [t], ?_, by simp; omega, fun u hu => ?_⟩, h.sc, h.cb, h.ob, h.oc⟩
  · rw [List.getElem?_set_ne (fun q => h.oc q.symm)]; exact h.ord
  · rw [List.getElem?_set_self (lt_of_get g)]; simp
  · rcases List.mem_append.mp hu with hu | hu
    · exact hv u hu
    · simp at hu; subst hu; exact ht
variable {mk cut : D} {L : List D} {i j : Int} {z : Str} {x3 x8 x9 : Option D} {xs : List Int}
theorem drB_ok (h : DrI b c o p ks s m k H) (hk : k ≤ 1000) (hm : m + 100 < 10 ^ 9) (L0 : L ≠ []) (L1 : L.length < 2 ^ 31) (L2 : ∀ y ∈ L, ∃ z, y = .str z ∧ nmB z = true) (hi : 0 ≤ i ∧ i < p) (hj : 0 ≤ j ∧ j < p) :
    ∃ H', drB (lw.cf (n + 4)) (lw.ci (n + 4)) [some (.ref b), some mk, some cut, x3, some (.int p), some (.ref c), some (.lst L), some (.ref o), x8, some (tieD (z, i, j))] H = .nx [some (.ref b), some mk, some cut, x3, some (.int p), some (.ref c), some (.lst L), some (.ref o), x8, some (tieD (z, i, j))] H' ∧ DrI b c o p ks s (m + 2) (k + 1) H' := by
  obtain ⟨w, t1, a1, w0, w1, k1, q1⟩ := take_ok (n := n + 3) h.bx (by omega) (many := 5) (by omega) (by omega)
  have h1 := h.step k1 q1
  by_cases hw : w = 0
  · obtain ⟨l, t2, a2, lm, k2, q2⟩ := pick_lst (n := n + 2) k1 (by omega) (xs := L) L0 L1
    obtain ⟨y, rfl, hy⟩ := L2 l lm
    have h2 := h1.step k2 q2
    obtain ⟨H', e1, _, h3⟩ := h2.put (t := (y, j, i)) hk ⟨hy, hj, hi⟩
    have rc := rcv_ref h1.ties.choose_spec.1
    exact ⟨H', by simp [drB, a1, hw, a2, rc, e1, tieD] ; simp [tieD] at e1; simp [e1], h3.mono (by omega) (by omega)⟩
  · exact ⟨t1, by simp [drB, a1, hw], h1.mono (by omega) (by omega)⟩
theorem drA_ok (h : DrI b c o p ks s m k H) (hk : k + 1 ≤ 1000) (hm : m + 150 < 10 ^ 9) (L0 : L ≠ []) (L1 : L.length < 2 ^ 31) (L2 : ∀ y ∈ L, ∃ z, y = .str z ∧ nmB z = true) (hz : nmB z = true) (hi : 0 ≤ i ∧ i < p) (hj : 0 ≤ j ∧ j < p) :
    ∃ H', drA (lw.cf (n + 4)) (lw.ci (n + 4)) [some (.ref b), some mk, some cut, x3, some (.int p), some (.ref c), some (.lst L), some (.ref o), x8, some (tieD (z, i, j))] H = .nx [some (.ref b), some mk, some cut, x3, some (.int p), some (.ref c), some (.lst L), some (.ref o), x8, some (tieD (z, i, j))] H' ∧ DrI b c o p ks s (m + 4) (k + 2) H' := by
  obtain ⟨ts, g, hl, hv⟩ := h.ties
  have en := eq_ref_ties g fun t ht => (hv t ht).1
  have rc := rcv_ref g
  by_cases hts : ts = []
  · obtain ⟨H1, e1, _, h1⟩ := h.put (t := (z, i, j)) (by omega) ⟨hz, hi, hj⟩
    obtain ⟨H2, e2, h2⟩ := drB_ok (n := n) (mk := mk) (cut := cut) (x3 := x3) (x8 := x8) (z := z) h1 (by omega) (by omega) L0 L1 L2 hi hj
    generalize tieD (z, i, j) = T at *
    exact ⟨H2, by simp [drA, en, hts, rc, e1, e2], h2.mono (by omega) (by omega)⟩
  · obtain ⟨w, t4, a4, w0, w5, k4, q4⟩ := take_ok (n := n + 3) h.bx (by omega) (many := 4) (by omega) (by omega)
    have h4 := h.step k4 q4
    by_cases hw : w = 0
    · obtain ⟨l, t5, a5, lm, k5, q5⟩ := pick_ref (n := n + 2) k4 (by omega) (q4.get g h.cb) h.cb (by simpa using hts) (by simp; omega)
      obtain ⟨u, hu, rfl⟩ := List.mem_map.mp lm
      obtain ⟨H1, e1, _, h1⟩ := (h4.step k5 q5).put (t := u) (by omega) (hv u hu)
      obtain ⟨H2, e2, h2⟩ := drB_ok (n := n) (mk := mk) (cut := cut) (x3 := x3) (x8 := x8) (z := z) h1 (by omega) (by omega) L0 L1 L2 hi hj
      generalize tieD (z, i, j) = T at *
      generalize tieD u = U at *
      exact ⟨H2, by simp [drA, en, hts, rc, a4, hw, a5, e1, e2], h2.mono (by omega) (by omega)⟩
    · obtain ⟨H1, e1, _, h1⟩ := h4.put (t := (z, i, j)) (by omega) ⟨hz, hi, hj⟩
      obtain ⟨H2, e2, h2⟩ := drB_ok (n := n) (mk := mk) (cut := cut) (x3 := x3) (x8 := x8) (z := z) h1 (by omega) (by omega) L0 L1 L2 hi hj
      generalize tieD (z, i, j) = T at *
      exact ⟨H2, by simp [drA, en, hts, rc, a4, hw, e1, e2], h2.mono (by omega) (by omega)⟩
theorem drR_ok (h : DrI b c o p ks s m k H) (hk : k + 1 ≤ 1000) (hm : m + 200 < 10 ^ 9) (L0 : L ≠ []) (L1 : L.length < 2 ^ 31) (L2 : ∀ y ∈ L, ∃ z, y = .str z ∧ nmB z = true) (hx : xs ≠ []) (hx1 : xs.length < 2 ^ 31) (hxv : ∀ x ∈ xs, 0 ≤ x ∧ x < p) :
    ∃ x9' H', drR (lw.cf (n + 4)) (lw.ci (n + 4)) [some (.ref b), some mk, some cut, x3, some (.int p), some (.ref c), some (.lst L), some (.ref o), some (.lst (xs.map .int)), x9] H = .nx [some (.ref b), some mk, some cut, x3, some (.int p), some (.ref c), some (.lst L), some (.ref o), some (.lst (xs.map .int)), x9'] H' ∧ DrI b c o p ks s (m + 7) (k + 2) H' := by
  obtain ⟨l, t1, a1, lm, k1, q1⟩ := pick_lst (n := n + 2) h.bx (by omega) (xs := L) L0 L1
  obtain ⟨z, rfl, hz⟩ := L2 l lm
  obtain ⟨l1, t2, a2, lm1, k2, q2⟩ := pick_lst (n := n + 2) k1 (by omega) (xs := xs.map D.int) (by simpa using hx) (by simpa using hx1)
  obtain ⟨i, hi, rfl⟩ := List.mem_map.mp lm1
  obtain ⟨l2, t3, a3, lm2, k3, q3⟩ := pick_lst (n := n + 2) k2 (by omega) (xs := xs.map D.int) (by simpa using hx) (by simpa using hx1)
  obtain ⟨j, hj, rfl⟩ := List.mem_map.mp lm2
  have h3 := ((h.step k1 q1).step k2 q2).step k3 q3
  obtain ⟨H2, e2, h2⟩ := drA_ok (n := n) (mk := mk) (cut := cut) (x3 := x3) (x8 := some (.lst (xs.map .int))) (z := z) h3 hk (by omega) L0 L1 L2 hz (hxv i hi) (hxv j hj)
  have et : D.tup [.str z, .int i, .int j] = tieD (z, i, j) := rfl
  exact ⟨some (tieD (z, i, j)), H2, by simp [drR, a1, a2, a3, et, e2], h2.mono (by omega) (by omega)⟩
theorem drE_ok {ct : Nat} (h : DrI b c o p ks s m k H) (hm : m + 200 < 10 ^ 9) (hkl : ks.length = p.toNat) (h12 : p ≤ 12) (hkv : ∀ x ∈ ks, 0 ≤ x ∧ x < p) (hc0 : 0 < ct) (hc1 : ct ≤ p) :
    ∃ xs H', drE (lw.cf (n + 4)) (lw.ci (n + 4)) [some (.ref b), some mk, some (.int ct), x3, some (.int p), some (.ref c), some (.lst L), some (.ref o), x8, x9] H = .ok (.lst (xs.map .int)) H' ∧ xs ≠ [] ∧ xs.length < 2 ^ 31 ∧ (∀ x ∈ xs, 0 ≤ x ∧ x < p) ∧ DrI b c o p ks s (m + 1) k H' := by
  obtain ⟨w, t1, a1, w0, w1, k1, q1⟩ := take_ok (n := n + 3) h.bx (by omega) (many := 2) (by omega) (by omega)
  have h1 := h.step k1 q1
  have lo := sl_ref (lo := none) (hi := some (ct : Int)) h1.ord
  have hi := sl_ref (lo := some (ct : Int)) (hi := none) h1.ord
  rw [cut_lo (xs := ks.map D.int) (by rw [List.length_map]; omega), ← List.map_take] at lo
  rw [cut_hi (xs := ks.map D.int) (by rw [List.length_map]; omega), ← List.map_drop] at hi
  have ne1 : ks.take ct ≠ [] := by
    rw [← List.length_pos_iff, List.length_take]; omega
  have l1 : (ks.take ct).length < 2 ^ 31 := by rw [List.length_take]; omega
  by_cases hw : w = 0
  · exact ⟨ks.take ct, t1, by simp [-List.map_take, drE, a1, hw, lo], ne1, l1, fun x hx => hkv x (List.mem_of_mem_take hx), h1⟩
  · by_cases hcp : (ct : Int) = p
    · exact ⟨ks.take ct, t1, by simp [-List.map_take, drE, a1, hw, hcp]; rw [← hcp, lo]; rfl, ne1, l1, fun x hx => hkv x (List.mem_of_mem_take hx), h1⟩
    · refine ⟨ks.drop ct, t1, by simp [-List.map_drop, drE, a1, hw, hcp, hi], ?_, by rw [List.length_drop]; omega, fun x hx => hkv x (List.mem_of_mem_drop hx), h1⟩
      rw [← List.length_pos_iff, List.length_drop]; omega
end
theorem drawn_ok {n b m : Nat} {mk : Int} {s : DS} (hb : Bx b m s) (hm : m + 400 < 10 ^ 9) (h0 : 0 ≤ mk) (h3 : mk ≤ 4) : ∃ (p : Int) (ts : List Tie) (ms : List Int) (s' : DS), lw.cf (n + 5) "_law_drawn_web" [.ref b, .int mk] s = .ok (ownD p (.tup (ts.map tieD)) ms) s' ∧ WV p ts ms ∧ Bx b (m + 110) s' ∧ Fr b s s' := by
  have hblt := hb.lt
  rw [Law.cf_s, body__law_drawn_web, ps__law_drawn_web, N__law_drawn_web]
  obtain ⟨p, s1, e1, p0, p8, hb1, hf1⟩ := take_ok (n := n + 3) hb (by omega) (many := 8) (by omega) (by omega)
  obtain ⟨c, hc⟩ : ∃ c, c = s1.length := ⟨_, rfl⟩
  have hcb : c ≠ b := by have := hb1.lt; omega
  have hsc : s.length ≤ c := by rw [hc]; exact hf1.1
  obtain ⟨lt, s2, e2, lm, hb2, hf2⟩ := pick_lst (n := n + 2) (hb1.app (t := [.lst []])) (by omega) (xs := [.lst [.str "a"], .lst [.str "a", .str "b"], .lst [.str "z", .str "ab"]]) (by simp) (by simp)
  obtain ⟨L, rfl, L0, L1, L2⟩ := lets_ok lm
  have g2 : s2[c]? = some (.lst (([] : List Tie).map tieD)) := hf2.get (by simp [hc]) hcb
  have hf02 : Fr b s s2 := (hf1.trans Fr.app).trans hf2
  have hc2 := lt_of_get g2
  obtain ⟨ns, hns⟩ : ∃ ns, ns = (List.range p.toNat).map fun (i : Nat) => (i : Int) := ⟨_, rfl⟩
  have hrg : rngL 0 p.toNat = ns.map D.int := by rw [rngL_map, hns, List.map_map]; rfl
  have hnl : ns.length = p.toNat := by rw [hns]; simp
  have perm : ∀ ks : List Int, ks.Perm ns → ks.length = p.toNat ∧ (∀ x ∈ ks, 0 ≤ x ∧ x < p) ∧ ks.Nodup := fun ks hp => by
    refine ⟨by rw [hp.length_eq, hnl], fun x hx => ?_, hp.symm.nodup ?_⟩
    · have := hp.mem_iff.mp hx
      rw [hns] at this
      obtain ⟨i, hi, rfl⟩ := List.mem_map.mp this
      have := List.mem_range.mp hi
      omega
    · rw [hns, List.nodup_iff_pairwise_ne, List.pairwise_map]
      exact (List.nodup_iff_pairwise_ne.mp List.nodup_range).imp fun hne e => hne (by omega)
  have cond := lrOk_of (j := p) p0 (by omega)
  obtain ⟨o, ks, s3, e3, ho, g3, hperm, hb3, hf3⟩ := mixed_ok (n := n + 2) (ns := ns) hb2 (by omega) (by omega)
  obtain ⟨kl, kv, _⟩ := perm ks hperm
  have I3 : DrI b c o p ks s (m + 9) 0 s3 := ⟨hb3.mono (by omega), hf02.trans hf3, g3, ⟨[], hf3.get g2 hcb, by simp, fun _ h => nomatch h⟩, hsc, hcb, by have := hb2.lt; omega, by omega⟩
  -- the end
  have fine : ∀ (k : Nat) (cut x3 x8 x9 : Option D) (s4 : DS), DrI b c o p ks s (m + 100) k s4 → k ≤ 18 →
      ∃ (ts : List Tie) (ms : List Int) (s' : DS), fin ((sSeq (sRet (eTup (aCons (eVar 4) (aCons (eCallB opTuple (aCons (eVar 5) aNil)) (aCons (eCallB opTuple (aCons (eSl (eCall ⟨2, [], [0, 1]⟩ (lw.cf (n + 4) ("_law_mixed" : Str)) (aCons (eVar 0) (aCons (eLstRg false (eVar 4)) aNil)) aNil) pNone (pSome (eCallB opMin (aCons (eVar 1) (aCons (eVar 4) aNil))))) aNil)) aNil))))) sNext) [some (.ref b), some (.int mk), cut, x3, some (.int p), some (.ref c), some (.lst L), some (.ref o), x8, x9] s4) = .ok (ownD p (.tup (ts.map tieD)) ms) s' ∧ WV p ts ms ∧ Bx b (m + 110) s' ∧ Fr b s s' := by
    intro k cut x3 x8 x9 s4 I hk
    obtain ⟨ts, g4, hl, hv⟩ := I.ties
    obtain ⟨e, ks, s5, a1, a2, a3, a4, a5, a6⟩ := mixed_ok (n := n + 2) (ns := ns) I.bx (by omega) (by omega)
    obtain ⟨hkl, hmem, hnd⟩ := perm ks a4
    obtain ⟨q, hq⟩ : ∃ q : Nat, (if p < mk then p else mk) = (q : Int) := ⟨(if p < mk then p else mk).toNat, by split <;> omega⟩
    have hqp : q ≤ ks.length := by split at hq <;> omega
    have omin : opMin [.int mk, .int p] s5 = some (.int q, s5) := by rw [← hq]; rfl
    have sl := sl_ref (lo := none) (hi := some (q : Int)) a3
    rw [cut_lo (xs := ks.map D.int) (by simpa using hqp), ← List.map_take] at sl
    have ot := op_tup_ref g4
    have z1 : (ks.take q).length ≤ sizeLine := le_size (by simp; omega)
    refine ⟨ts, ks.take q, s5, ?_, ⟨p0, by omega, by omega, hv, fun x hx => hmem x (List.mem_of_mem_take hx), hnd.sublist (List.take_sublist _ _)⟩, a5.mono (by omega), I.fr.trans a6⟩
    simp [-List.map_take, cond, hrg, a1, omin, sl, ot, ownD]
  by_cases hp : 0 < p
  · obtain ⟨d4, s4, e4, d0, d1, hb4, hf4⟩ := take_ok (n := n + 3) hb3 (by omega) (many := p) hp (by omega)
    obtain ⟨ct, hct⟩ : ∃ ct : Nat, 1 + d4 = ct := ⟨(1 + d4).toNat, by omega⟩
    obtain ⟨t5, s5, e5, m5, hb5, hf5⟩ := pick_lst (n := n + 2) hb4 (by omega) (xs := [.int 0, .int 2, .int 4, .int 7, .int 9]) (by simp) (by simp)
    obtain ⟨tn, rfl, tn9⟩ : ∃ tn : Nat, t5 = .int tn ∧ tn ≤ 9 := by
      simp at m5
      rcases m5 with rfl | rfl | rfl | rfl | rfl
      · exact ⟨0, rfl, by omega⟩
      · exact ⟨2, rfl, by omega⟩
      · exact ⟨4, rfl, by omega⟩
      · exact ⟨7, rfl, by omega⟩
      · exact ⟨9, rfl, by omega⟩
    have I5 : DrI b c o p ks s (m + 20) 0 s5 := ((I3.step (m' := m + 19) (hb4.mono (by omega)) hf4).step (m' := m + 20) (hb5.mono (by omega)) hf5)
    have hr := rng_n (n := tn) (by omega)
    obtain ⟨env', s6, e6, ⟨x3, x8, x9, he⟩, I6⟩ := forL_rng (lv := []) (g := gNm 3) (n := tn) (body := b__law_drawn_web_fb1 (lw.cf (n + 4)) (lw.ci (n + 4))) (fun j env s' => (∃ (x3 x8 x9 : Option D), env = [some (.ref b), some (.int mk), some (.int ct), x3, some (.int p), some (.ref c), some (.lst L), some (.ref o), x8, x9]) ∧ DrI b c o p ks s (m + 20 + 8 * j) (2 * j) s')
      (fun _ _ _ _ => okL_nil) (fun j env s0 hj ⟨⟨x3, x8, x9, he⟩, I⟩ => by
        subst he
        refine ⟨_, _, rfl, ?_⟩
        rw [dr_eq]
        obtain ⟨xs, t1, f1, xn, xl, xv, I1⟩ := drE_ok (n := n) (mk := .int mk) (L := L) (x3 := some (.int (j : Nat))) (x8 := x8) (x9 := x9) I (by omega) kl (by omega) kv (ct := ct) (by omega) (by omega)
        obtain ⟨x9', t2, f2, I2⟩ := drR_ok (n := n) (mk := .int mk) (cut := .int ct) (x3 := some (.int (j : Nat))) (x9 := x9) I1 (by omega) (by omega) L0 L1 L2 xn xl xv
        exact ⟨[some (.ref b), some (.int mk), some (.int ct), some (.int (j : Nat)), some (.int p), some (.ref c), some (.lst L), some (.ref o), some (.lst (xs.map .int)), x9'], t2, .inl (by simp [-List.map_map, f1, f2]), ⟨_, _, _, rfl⟩, I2.mono (by omega) (by omega)⟩) (env := [some (.ref b), some (.int mk), some (.int ct), none, some (.int p), some (.ref c), some (.lst L), some (.ref o), none, none]) (s := s5) ⟨⟨none, none, none, rfl⟩, I5⟩
    subst he
    obtain ⟨ts, ms, s', e7, r1, r2, r3⟩ := fine (2 * tn) (some (.int ct)) x3 x8 x9 s6 (I6.mono (by omega) (by omega)) (by omega)
    refine ⟨p, ts, ms, s', ?_, r1, r2, r3⟩
    rw [← e7]
    simp [b__law_drawn_web, e1, ← hc, e2, cond, hrg, e3, hp, e4, hct, e5, hr, e6]
  · have r0 : itRng1 [.int 0] = some ⟨rngL 0 0, []⟩ := by rfl
    have f0 : ∀ env, forL [] (gNm 3) (b__law_drawn_web_fb1 (lw.cf (n + 4)) (lw.ci (n + 4))) (rngL 0 0) env s3 = .nx env s3 := fun env => by
      rw [rngL_0]; unfold forL; rw [if_pos okL_nil]
    obtain ⟨ts, ms, s', e7, r1, r2, r3⟩ := fine 0 (some (.int 0)) none none none s3 (I3.mono (by omega) (by omega)) (by omega)
    refine ⟨p, ts, ms, s', ?_, r1, r2, r3⟩
    rw [← e7]
    simp [b__law_drawn_web, e1, ← hc, e2, cond, hrg, e3, hp, r0, f0]
end Lk12p

set_option Elab.async false
set_option linter.all false
set_option maxRecDepth 10000
set_option maxHeartbeats 4000000
namespace Lk12p
open PySem PySem.Spec PyProof.Rows L2 Pv
open Lk12 hiding R P kit names run ob
theorem cell_ok {n k : Nat} {ns : List Int} {s : DS} (hk : k ≤ 3) : ∃ g, lw.cf (n + 1) "_law_cell" [.scr ns, .int k] s = .ok (.int g) s := by
  rw [Law.cf_s, body__law_cell, ps__law_cell, N__law_cell]
  by_cases h : k < ns.length
  · have c : ((k : Int) < ns.length) = True := eq_true (by omega)
    have e := atI_nat h
    exact ⟨ns[k], by simp [b__law_cell, c, e]⟩
  · have c : ((k : Int) < ns.length) = False := eq_false (by omega)
    have mo : mulOk 6727 k = true := by
      have : k = 0 ∨ k = 1 ∨ k = 2 ∨ k = 3 := by omega
      rcases this with rfl | rfl | rfl | rfl <;> decide
    have sl : slO (.scr ns) none (some 1) s = some (.lst ((cutA ns none (some 1)).map .int)) := rfl
    have su : ∀ xs : List Int, opSum [.lst (xs.map .int)] s = some (.int xs.sum, s) := fun xs => by
      show (some _).bind _ = _
      show (intsOf (xs.map D.int)).map _ = _
      rw [Pv.ints_map]; rfl
    exact ⟨_, by simp [b__law_cell, c, mo, sl, su]; rfl⟩
theorem box_ok {n : Nat} {g : Int} {s : DS} : ∃ o, lw.cf (n + 1) "_law_box" [.int g] s = .ok (.ref s.length) (s ++ [o]) ∧ Bx s.length 0 (s ++ [o]) := by
  rw [Law.cf_s, body__law_box, ps__law_box, N__law_box]
  have ab : ∀ s, opAbs [.int g] s = some (.int (if g < 0 then -g else g), s) := fun _ => rfl
  have pw : ∀ s, isBin .Pow (.int 10) (.int 18) s = some (.int 1000000000000000000, s) := fun _ => by rfl
  obtain ⟨a, ha⟩ : ∃ a, a = (if g < 0 then -g else g) := ⟨_, rfl⟩
  rw [← ha] at ab
  refine ⟨.lst [.int a, .bl (decide (1000000000000000000 ≤ a)), .int (a.fmod 2147483629), .int 0], by simp [b__law_box, ab, pw], ⟨a, _, a.fmod 2147483629, 0, by simp; rfl, Int.fmod_nonneg_of_pos _ (by decide), Int.fmod_lt_of_pos _ (by decide), by omega, by omega⟩⟩
theorem turn_ok {n k b : Nat} {sc : D} {q : Bool} {s : DS} {x4 x5 : Option D} (hb : Bx b 1 s) : ∃ (q' : Bool) (y4 y5 : Option D) (s' : DS), forL [] (gNm 4) (b_law_fb2 (lw.cf (n + 10)) (lw.ci (n + 10))) (rngL 0 4) [some sc, some (.int k), some (.ref b), some (.bl q), x4, x5] s
    = .nx [some sc, some (.int k), some (.ref b), some (.bl q'), y4, y5] s' := by
  obtain ⟨env', s', e, ⟨q', y4, y5, he⟩, hb'⟩ := forL_rng (lv := []) (g := gNm 4) (n := 4) (body := b_law_fb2 (lw.cf (n + 10)) (lw.ci (n + 10))) (fun j env s' => (∃ (q' : Bool) (y4 y5 : Option D), env = [some sc, some (.int k), some (.ref b), some (.bl q'), y4, y5]) ∧ Bx b (1 + 200 * j) s')
    (fun _ _ _ _ => okL_nil) (fun j env s0 hj ⟨⟨q', y4, y5, he⟩, hb0⟩ => by
      subst he
      refine ⟨_, _, rfl, ?_⟩
      obtain ⟨x, s1, e1, xm, hb1, hf1⟩ := pick_lst (n := n + 8) hb0 (by omega) (xs := [.int 0, .int 1, .int 2, .int 3, .int 4]) (by simp) (by simp)
      obtain ⟨v, rfl, v0, v3⟩ : ∃ v : Int, x = .int v ∧ 0 ≤ v ∧ v ≤ 4 := by
        simp at xm
        rcases xm with rfl | rfl | rfl | rfl | rfl <;> exact ⟨_, rfl, by omega, by omega⟩
      obtain ⟨p1, ts1, ms1, s2, e2, h1, hb2, hf2⟩ := drawn_ok (n := n + 5) hb1 (by omega) v0 v3
      obtain ⟨s3, e3, hb3, _⟩ := marks_ok (n := n) (nm := q') (dt := .tup (ts1.map tieD)) h1 rfl hb2
      obtain ⟨s4, e4, hb4, _⟩ := ties_ok (n := n) (nm := !q') (dt := .tup (ts1.map tieD)) h1 rfl hb3 (by omega)
      obtain ⟨s5, e5, hb5, _⟩ := prt_ok (n := n) (nm := q') (dt := .tup (ts1.map tieD)) h1 rfl hb4
      obtain ⟨s6, e6, hb6, _⟩ := refused_ok (n := n) (nm := !q') (dt := .tup (ts1.map tieD)) h1 rfl hb5 (by omega)
      exact ⟨[some sc, some (.int k), some (.ref b), some (.bl (!q')), some (.int j), some (ownD p1 (.tup (ts1.map tieD)) ms1)], s6, .inl (by simp [e1, e2, e3, e4, e5, e6]), ⟨_, _, _, rfl⟩, hb6.mono (by omega)⟩) (env := [some sc, some (.int k), some (.ref b), some (.bl q), x4, x5]) (s := s) ⟨⟨q, x4, x5, rfl⟩, hb⟩
  subst he
  exact ⟨q', y4, y5, s', e⟩
theorem law_ok {n : Nat} (ns : List Int) (s : DS) : ∃ s', lw.cf (n + 11) "law" [.scr ns] s = .ok (.bl true) s' := by
  rw [Law.cf_s, body_law, ps_law, N_law]
  obtain ⟨c, hc, hc3⟩ : ∃ c : Nat, (∀ s, (opMin [.int 3, .int ns.length] s).bind (fun p => opMax [.int 2, p.1] p.2) = some (.int c, s)) ∧ c ≤ 3 := by
    by_cases h : (ns.length : Int) < 3
    · by_cases h2 : (ns.length : Int) > 2
      · omega
      · exact ⟨2, fun s => by simp [opMin, opMax, h, h2], by omega⟩
    · exact ⟨3, fun s => by simp [opMin, opMax, h], by omega⟩
  obtain ⟨mi, hmi⟩ : ∃ mi : Int, ∀ s, opMin [.int 3, .int ns.length] s = some (.int mi, s) := ⟨_, fun _ => rfl⟩
  have hma : ∀ s, opMax [.int 2, .int mi] s = some (.int c, s) := fun s => by
    have := hc s
    rw [hmi] at this
    exact this
  have hr := rng_n (n := c) (by omega)
  obtain ⟨env', s', e, ⟨y1, y2, y3, y4, y5, he⟩⟩ := forL_rng (lv := []) (g := gNm 1) (n := c) (body := b_law_fb1 (lw.cf (n + 10)) (lw.ci (n + 10))) (fun k env s' => ∃ (y1 y2 y3 y4 y5 : Option D), env = [some (.scr ns), y1, y2, y3, y4, y5])
    (fun _ _ _ _ => okL_nil) (fun k env s0 hk ⟨y1, y2, y3, y4, y5, he⟩ => by
      subst he
      refine ⟨_, _, rfl, ?_⟩
      obtain ⟨g, e1⟩ := cell_ok (n := n + 9) (k := k) (ns := ns) (s := s0) (by omega)
      obtain ⟨o, e2, hb⟩ := box_ok (n := n + 9) (g := g) (s := s0)
      obtain ⟨d, s1, e3, d0, d1, hb1, hf1⟩ := take_ok (n := n + 9) hb (by omega) (many := 2) (by omega) (by omega)
      obtain ⟨q, z4, z5, s2, e4⟩ := turn_ok (n := n) (k := k) (sc := .scr ns) (q := decide (d = 0)) (x4 := y4) (x5 := y5) hb1
      have r4 : itRng1 [.int 4] = some ⟨rngL 0 4, []⟩ := rng_i (by omega) (by omega)
      exact ⟨[some (.scr ns), some (.int k), some (.ref s0.length), some (.bl q), z4, z5], s2, .inl (by simp [e1, e2, e3, r4, e4]), ⟨_, _, _, _, _, rfl⟩⟩) (env := [some (.scr ns), none, none, none, none, none]) (s := s) ⟨_, _, _, _, _, rfl⟩
  subst he
  exact ⟨s', by simp [b_law, hmi, hma, hr, e]⟩
theorem plain : ∀ ns : List Int, ∃ s', lw.cf 51 "law" [.scr ns] [] = .ok (.bl true) s' := fun ns => law_ok (n := 40) ns []
end Lk12p

theorem PySem.Challenge.cw_seenbywebs_k12_webs_pinched_and_pieces_holds : PySem.Challenge.rw_seenbywebs_k12_webs_pinched_and_pieces.Holds := by
  exact Lk12.holds_of fun ns _ => Lk12p.plain ns
