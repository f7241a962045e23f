import PyProof.Rows.All
import Wide.All
import OpenK.AllK
import Wide.FinOn
import HandS.ForMost
import HandS.Flow
import HandS.Zip
import HandS.Rev
import HandS.Walk
import HandS.Wide
import HandS.Defaults
import HandS.ExcInit
import HandS.ExcField
import HandS.ExcIs
import HandS.TryMany
import HandS.CallSlots
import HandS.CallLocal
import HandS.Small
import HandS.RaiseMore
import HandS.IsInst
import HandS.TupMul
import HandS.TupAny
import HandS.Style
import KE.KExcInit
import KE.KExcIs
import HandS.MakeKwOnly
import HandS.HeadHook4
import HandS.HeadEnd
import HandS.MakeKw
import Lean
import HandS.Codes
import HandS.Head0
import HandS.Head1
import HandS.Head2
import PySem.Challenge.RW_runsbelieved_k99_errors_by_hand
import KE.DataEq
set_option Elab.async false
section
set_option linter.all false
set_option maxRecDepth 100000
set_option maxHeartbeats 4000000
namespace Tm
open PySem PySem.Spec PyProof.Rows L2

/-! ### values as trees -/
inductive T where
  | non | bl (b : Bool) | int (i : Int) | str (x : Str) | glo (x : Str)
  | tup (xs : List T) | lst (xs : List T) | scr (xs : List T)
  | dic (ks : List Str) (xs : List T)
  | exc (c f m : Str) (t : T)

def zipK (ks : List Str) (vs : List V) : List (Key × V) := (ks.map Sum.inr).zip vs
/-- not a table of code objects -/
def NT (o : HO) : Prop := ∀ ps, o ≠ .tbl ps
/-- tables of code objects and such: what J leans on -/
def Sil (o : HO) : Prop := (∃ ps, o = .tbl ps) ∨ ∃ φ, o = .ext φ

/-- the written part, the module's names, what holds of the heap at every call -/
structure Ct where
  K : PySem.W.Frag
  mg : Str → Option Value
  J : Hp → Prop
  hJ : ∀ H H' : Hp, (∀ a o, H a = some o → Sil o → H' a = some o) → J H → J H'

/-- an exception that has been made: its class, its own dict, its arguments -/
def exoT (e C : Addr) (d : Option Addr) (t1 : Addr) : HO := .ext fun h => h.get? e = some ({ cls := .ref C, dict := d, data := .fields #[.ref t1, .none, .none, .none, .bool false, .none] } : Obj)

abbrev Fb := Addr → Prop
/-- a list that stands in the written part -/
def LitL (K : PySem.W.Frag) (a : Addr) (vs : List V) : Prop := ∃ (o : Obj) (its : Array Value) (n : Nat), K.lookup a = some o ∧ o.cls = .type "list" ∧ o.dict = none ∧ o.data = .seq its n ∧ its.size ≤ sizeLine ∧ Vals vs its.toList
mutual
/-- the value v stands for the tree, none of its lists and dicts at an address of F -/
def Rep (C : Ct) (F : Fb) (H : Hp) : T → V → Prop
  | .non, v => v = .non
  | .bl b, v => v = .bl b
  | .int i, v => v = .int i
  | .str x, v => v = .str x
  | .glo x, v => ∃ a, C.mg x = some (.ref a) ∧ v = .ref a
  | .tup ts, v => ∃ a vs, v = .ref a ∧ SqT C.K H a vs ∧ RepL C F H ts vs
  | .lst ts, v => ∃ a vs, v = .ref a ∧ ¬ F a ∧ H a = some (.lst vs) ∧ RepL C F H ts vs
  | .scr ts, v => ∃ a vs, v = .ref a ∧ ((¬ F a ∧ Rd H a (.lst vs)) ∨ LitL C.K a vs) ∧ RepL C F H ts vs
  | .dic ks ts, v => ∃ a vs, v = .ref a ∧ ¬ F a ∧ H a = some (.dK (zipK ks vs)) ∧ ks.length = ts.length ∧ RepL C F H ts vs
  | .exc c f m t, v => ∃ a Cl d t1 w, v = .ref a ∧ C.mg c = some (.ref Cl) ∧ H a = some (exoT a Cl (some d) t1) ∧ H d = some (exd d [(f, w)]) ∧ H t1 = some (.tup [.str m]) ∧ Rep C F H t w
def RepL (C : Ct) (F : Fb) (H : Hp) : List T → List V → Prop
  | [], vs => vs = []
  | t :: ts, vs => ∃ v r, vs = v :: r ∧ Rep C F H t v ∧ RepL C F H ts r
end

/-- what is tracked stays, but at P -/
structure Ext (C : Ct) (P : Fb) (H H' : Hp) : Prop where
  at_ : ∀ a o, ¬ P a → H a = some o → NT o → H' a = some o
  th : ∀ a, H' a = none → H a = none
  j : C.J H → C.J H'
/-- the forbidden ones are lists and dicts -/
def FOk (F : Fb) (H : Hp) : Prop := ∀ a o, F a → H a = some o → (∃ vs, o = .lst vs) ∨ ∃ kvs, o = .dK kvs

section
variable {C : Ct} {F F' P : Fb} {H H1 H2 H' : Hp} {t : T} {ts : List T} {v : V} {vs : List V} {a : Addr} {o : HO}
theorem Ext.refl (C : Ct) (P : Fb) (H : Hp) : Ext C P H H := ⟨fun _ _ _ h _ => h, fun _ h => h, fun h => h⟩
theorem Ext.trans (x : Ext C P H H1) (y : Ext C P H1 H2) : Ext C P H H2 := ⟨fun a o p h n => y.at_ a o p (x.at_ a o p h n) n, fun a h => x.th a (y.th a h), fun h => y.j (x.j h)⟩
theorem Ext.mono {P' : Fb} (x : Ext C P H H1) (h : ∀ a, P a → P' a) : Ext C P' H H1 := ⟨fun a o p e n => x.at_ a o (fun q => p (h a q)) e n, x.th, x.j⟩
theorem nt_lst (xs : List V) : NT (.lst xs) := fun _ h => by cases h
theorem nt_tup (xs : List V) : NT (.tup xs) := fun _ h => by cases h
theorem nt_dK (xs : List (Key × V)) : NT (.dK xs) := fun _ h => by cases h
theorem nt_frz (o : Obj) (u : HO) : NT (.frz o u) := fun _ h => by cases h
theorem nt_ext (φ : Heap → Prop) : NT (.ext φ) := fun _ h => by cases h
theorem nt_xd (fs : List (Str × V)) : NT (.xd fs) := fun _ h => by cases h
theorem FOk.not_tup (f : FOk F H) (h : H a = some (.tup vs)) : ¬ F a := fun z => by
  rcases f a _ z h with ⟨_, q⟩ | ⟨_, q⟩ <;> cases q
theorem FOk.not_frz {ob : Obj} {u : HO} (f : FOk F H) (h : H a = some (.frz ob u)) : ¬ F a := fun z => by
  rcases f a _ z h with ⟨_, q⟩ | ⟨_, q⟩ <;> cases q
theorem FOk.not_ext {φ : Heap → Prop} (f : FOk F H) (h : H a = some (.ext φ)) : ¬ F a := fun z => by
  rcases f a _ z h with ⟨_, q⟩ | ⟨_, q⟩ <;> cases q
theorem sqt_ext (f : FOk F H) (x : Ext C F H H') (h : SqT C.K H a vs) : SqT C.K H' a vs := by
  rcases h with (h | ⟨ob, h⟩) | h
  · exact .inl (.inl (x.at_ a _ (f.not_tup h) h (nt_tup vs)))
  · exact .inl (.inr ⟨ob, x.at_ a _ (f.not_frz h) h (nt_frz _ _)⟩)
  · exact .inr h
theorem rd_ext (x : Ext C F H H') (n : ¬ F a) (h : Rd H a (.lst vs)) : Rd H' a (.lst vs) := by
  rcases h with h | ⟨ob, h⟩
  · exact .inl (x.at_ a _ n h (nt_lst vs))
  · exact .inr ⟨ob, x.at_ a _ n h (nt_frz _ _)⟩
mutual
theorem Rep.ext (f : FOk F H) (x : Ext C F H H') : ∀ (t : T) (v : V), Rep C F H t v → Rep C F H' t v
  | .non, v, h => h
  | .bl _, v, h => h
  | .int _, v, h => h
  | .str _, v, h => h
  | .glo _, v, h => h
  | .tup ts, v, h => by
    obtain ⟨a, vs, e, h1, h2⟩ := h
    exact ⟨a, vs, e, sqt_ext f x h1, RepL.ext f x ts vs h2⟩
  | .lst ts, v, h => by
    obtain ⟨a, vs, e, n, h1, h2⟩ := h
    exact ⟨a, vs, e, n, x.at_ a _ n h1 (nt_lst _), RepL.ext f x ts vs h2⟩
  | .scr ts, v, h => by
    obtain ⟨a, vs, e, h1, h2⟩ := h
    exact ⟨a, vs, e, h1.imp (fun z => ⟨z.1, rd_ext x z.1 z.2⟩) id, RepL.ext f x ts vs h2⟩
  | .dic ks ts, v, h => by
    obtain ⟨a, vs, e, n, h1, hl, h2⟩ := h
    exact ⟨a, vs, e, n, x.at_ a _ n h1 (nt_dK _), hl, RepL.ext f x ts vs h2⟩
  | .exc c fl m t, v, h => by
    obtain ⟨a, Cl, d, t1, w, e, hc, h1, h2, h3, h4⟩ := h
    exact ⟨a, Cl, d, t1, w, e, hc, x.at_ a _ (f.not_ext h1) h1 (nt_ext _), x.at_ d _ (f.not_ext h2) h2 (nt_ext _), x.at_ t1 _ (f.not_tup h3) h3 (nt_tup _), Rep.ext f x t w h4⟩
theorem RepL.ext (f : FOk F H) (x : Ext C F H H') : ∀ (ts : List T) (vs : List V), RepL C F H ts vs → RepL C F H' ts vs
  | [], vs, h => h
  | t :: ts, vs, h => by
    obtain ⟨v, r, e, h1, h2⟩ := h
    exact ⟨v, r, e, Rep.ext f x t v h1, RepL.ext f x ts r h2⟩
end
mutual
theorem Rep.imp (hF : ∀ a, H a ≠ none → F' a → F a) : ∀ (t : T) (v : V), Rep C F H t v → Rep C F' H t v
  | .non, v, h => h
  | .bl _, v, h => h
  | .int _, v, h => h
  | .str _, v, h => h
  | .glo _, v, h => h
  | .tup ts, v, h => by
    obtain ⟨a, vs, e, h1, h2⟩ := h
    exact ⟨a, vs, e, h1, RepL.imp hF ts vs h2⟩
  | .lst ts, v, h => by
    obtain ⟨a, vs, e, n, h1, h2⟩ := h
    exact ⟨a, vs, e, fun z => n (hF a (by rw [h1]; exact fun z => by cases z) z), h1, RepL.imp hF ts vs h2⟩
  | .scr ts, v, h => by
    obtain ⟨a, vs, e, h1, h2⟩ := h
    exact ⟨a, vs, e, h1.imp (fun y => ⟨fun z => y.1 (hF a (by rcases y.2 with q | ⟨_, q⟩ <;> rw [q] <;> exact fun z => by cases z) z), y.2⟩) id, RepL.imp hF ts vs h2⟩
  | .dic ks ts, v, h => by
    obtain ⟨a, vs, e, n, h1, hl, h2⟩ := h
    exact ⟨a, vs, e, fun z => n (hF a (by rw [h1]; exact fun z => by cases z) z), h1, hl, RepL.imp hF ts vs h2⟩
  | .exc c fl m t, v, h => by
    obtain ⟨a, Cl, d, t1, w, e, hc, h1, h2, h3, h4⟩ := h
    exact ⟨a, Cl, d, t1, w, e, hc, h1, h2, h3, Rep.imp hF t w h4⟩
theorem RepL.imp (hF : ∀ a, H a ≠ none → F' a → F a) : ∀ (ts : List T) (vs : List V), RepL C F H ts vs → RepL C F' H ts vs
  | [], vs, h => h
  | t :: ts, vs, h => by
    obtain ⟨v, r, e, h1, h2⟩ := h
    exact ⟨v, r, e, Rep.imp hF t v h1, RepL.imp hF ts r h2⟩
end
theorem RepL.length : ∀ {ts : List T} {vs : List V}, RepL C F H ts vs → vs.length = ts.length
  | [], vs, h => by rw [show vs = [] from h]; rfl
  | t :: ts, vs, h => by
    obtain ⟨v, r, e, _, h2⟩ := h
    rw [e, List.length_cons, List.length_cons, RepL.length h2]
theorem RepL.get : ∀ {ts : List T} {vs : List V} {i : Nat} {t : T}, RepL C F H ts vs → ts[i]? = some t → ∃ v, vs[i]? = some v ∧ Rep C F H t v
  | [], vs, i, t, h, e => by simp at e
  | t0 :: ts, vs, 0, t, h, e => by
    obtain ⟨v, r, rfl, h1, h2⟩ := h
    simp at e; subst e
    exact ⟨v, rfl, h1⟩
  | t0 :: ts, vs, i + 1, t, h, e => by
    obtain ⟨v, r, rfl, h1, h2⟩ := h
    obtain ⟨u, q1, q2⟩ := RepL.get (i := i) h2 (by simpa using e)
    exact ⟨u, by simpa using q1, q2⟩
theorem RepL.append : ∀ {ts us : List T} {vs ws : List V}, RepL C F H ts vs → RepL C F H us ws → RepL C F H (ts ++ us) (vs ++ ws)
  | [], us, vs, ws, h, g => by rw [show vs = [] from h]; exact g
  | t :: ts, us, vs, ws, h, g => by
    obtain ⟨v, r, rfl, h1, h2⟩ := h
    exact ⟨v, r ++ ws, rfl, h1, RepL.append h2 g⟩
theorem RepL.one (h : Rep C F H t v) : RepL C F H [t] [v] := ⟨v, [], rfl, h, rfl⟩
theorem RepL.take : ∀ {ts : List T} {vs : List V} (n : Nat), RepL C F H ts vs → RepL C F H (ts.take n) (vs.take n)
  | ts, vs, 0, _ => by simp [RepL]
  | [], vs, n + 1, h => by rw [show vs = [] from h]; exact rfl
  | t :: ts, vs, n + 1, h => by
    obtain ⟨v, r, rfl, h1, h2⟩ := h
    exact ⟨v, r.take n, rfl, h1, RepL.take n h2⟩
theorem RepL.drop : ∀ {ts : List T} {vs : List V} (n : Nat), RepL C F H ts vs → RepL C F H (ts.drop n) (vs.drop n)
  | ts, vs, 0, h => h
  | [], vs, n + 1, h => by rw [show vs = [] from h]; exact rfl
  | t :: ts, vs, n + 1, h => by
    obtain ⟨v, r, rfl, h1, h2⟩ := h
    exact RepL.drop n h2
theorem RepL.set (h : Rep C F H t v) : ∀ {ts : List T} {vs : List V} (i : Nat), RepL C F H ts vs → RepL C F H (ts.set i t) (vs.set i v)
  | [], vs, i, g => by rw [show vs = [] from g]; exact rfl
  | t0 :: ts, vs, 0, g => by
    obtain ⟨v0, r, rfl, h1, h2⟩ := g
    exact ⟨v, r, rfl, h, h2⟩
  | t0 :: ts, vs, i + 1, g => by
    obtain ⟨v0, r, rfl, h1, h2⟩ := g
    exact ⟨v0, r.set i v, rfl, h1, RepL.set h i h2⟩
theorem RepL.rep {n : Nat} {ts : List T} {vs : List V} (h : RepL C F H ts vs) : RepL C F H (List.replicate n ts).flatten (List.replicate n vs).flatten := by
  induction n with
  | zero => exact rfl
  | succ n ih =>
    rw [List.replicate_succ, List.replicate_succ, List.flatten_cons, List.flatten_cons]
    exact RepL.append h ih

/-! ### steps of the heap -/
theorem ext_new (hp : H a = none) : Ext C P H (upd H a o) where
  at_ := fun b u _ e _ => by rw [upd_ne (ne_of_none e hp)]; exact e
  th := fun b e => by
    by_cases hb : b = a
    · rw [hb]; exact hp
    · rw [upd_ne hb] at e; exact e
  j := C.hJ _ _ fun b u e _ => by rw [upd_ne (ne_of_none e hp)]; exact e
theorem ext_mut {u : HO} (hp : H a = some u) (hs : ¬ Sil u) (pa : P a) : Ext C P H (upd H a o) where
  at_ := fun b w n e _ => by rw [upd_ne (fun z => n (by rw [z]; exact pa))]; exact e
  th := fun b e => by
    by_cases hb : b = a
    · rw [hb, upd_same] at e; cases e
    · rw [upd_ne hb] at e; exact e
  j := C.hJ _ _ fun b w e s => by
    rw [upd_ne (fun z => ?_)]
    · exact e
    · rw [z, hp] at e; cases e; exact hs s
theorem nsil_lst (xs : List V) : ¬ Sil (.lst xs) := by rintro (⟨_, h⟩ | ⟨_, h⟩) <;> cases h
theorem nsil_dK (xs : List (Key × V)) : ¬ Sil (.dK xs) := by rintro (⟨_, h⟩ | ⟨_, h⟩) <;> cases h
end
end Tm

end

section
set_option linter.all false
set_option maxRecDepth 100000
set_option maxHeartbeats 4000000
namespace Tm
open PySem PySem.Spec PyProof.Rows L2

/-! ### the evaluator -/
abbrev Tau := List (Option T)
inductive Rs (α : Type) where
  | ok (a : α) (τ : Tau)
  | exc (k f : Str) (t : T) (τ : Tau)
  | no
def Rs.bind {α β : Type} (r : Rs α) (g : α → Tau → Rs β) : Rs β := match r with
  | .ok a τ => g a τ
  | .exc k f t τ => .exc k f t τ
  | .no => .no
/-- what a def hands back -/
inductive Rm where
  | ok (t : T)
  | exc (k f : Str) (t : T)
  | no
abbrev Mf := List T → Rm
/-- a def that changes its first argument -/
abbrev Mio := T → List T → Option (T × T)

inductive Op where
  | add | sub | mul | fdiv | mod | pow
inductive Cp where
  | eq | ne | lt | le | gt | ge | isin | notin | isN | notN

/-- targets -/
inductive G where
  | nm (i : Nat) | tp (g : G) | nil | cons (g r : G)

inductive E where
  | nil | cons (a r : E)
  | var (i : Nat) | bor (i : Nat) | cst (t : T)
  | tup (es : E) | lst (es : E) | dic (ks : List Str) (es : E)
  | bin (o : Op) (a b : E) | neg (a : E) | not (a : E)
  | cmp (c : Cp) (a b : E) | chn (c d : Cp) (a b e : E)
  | and (a b : E) | or (a b : E) | ite (c a b : E)
  | idx (a i : E) | key (a : E) (k : Str) | slc (a : E) (lo hi : E) | rev (a : E)
  | call (m : Mf) (fr : Bool) (es : E)
  | cio (m : Mio) (fr : Bool) (i : Nat) (es : E)
  | mk (c f m : Str) (a : E) | fld (cs : List Str) (a : E) (f : Str)
  | isi (p : T → Option Bool) (a : E)
  | len (a : E) | sum (a : E) | mx (a : E) | mn (a : E) | any (a : E) | all (a : E) | srt (a : E) | tpl (a : E) | lis (a : E)
  | str (cs : List Str) (a : E) | rpr (a : E) | ixo (a b : E)
  | itr (a : E) | rng (a : E) | rng2 (a b : E) | enm (a : E) | zip (a b : E) | rvd (a : E)
  | lc (own : List Nat) (g : G) (it cnd elt : E)

/-! operations -/
/-- the heap's line -/
def lim {α : Type} (n : Nat) (r : Rs α) : Rs α := if n ≤ 16777216 then r else .no
def mulOk (i j : Int) : Bool := decide (i.natAbs < 2 ^ 64) || decide (j.natAbs < 2 ^ 64) || decide (i.natAbs.log2 + j.natAbs.log2 < 1000000)
def powOk (i j : Int) : Bool := decide (0 ≤ j) && decide ((Builtin.Int.intBits i : Int) * j ≤ 2 ^ 27)
def strRep (x : Str) (k : Int) : Str := if k < 1 then Str.empty else if (k == 1 || x.length == 0) = true then x else ⟨(List.replicate k.toNat x.cps).foldl (· ++ ·) #[]⟩
def strOk (x : Str) (k : Int) : Bool := decide (-1000 ≤ k) && decide (k ≤ 1000) && decide (x.length ≤ 1000) && decide ((strRep x k).length ≤ 16777216)
def fdivOk (_ j : Int) : Bool := decide (0 < j) && decide (j < 1073741824)
def repT (xs : List T) (k : Int) : List T := (List.replicate k.toNat xs).flatten
def repOk (n : Nat) (k : Int) : Bool := decide (-(2 ^ 63) ≤ k) && decide (k < 2 ^ 63) && decide (n * k.toNat ≤ 16777216)
def binT : Op → T → T → Option T
  | .add, .int i, .int j => some (.int (i + j))
  | .add, .lst xs, .lst ys => if xs.length + ys.length ≤ 16777216 then some (.lst (xs ++ ys)) else none
  | .add, .tup xs, .tup ys => if xs.length + ys.length ≤ 16777216 then some (.tup (xs ++ ys)) else none
  | .add, .str x, .str y => if x.length + y.length ≤ 16777216 then some (.str (x ++ y)) else none
  | .sub, .int i, .int j => some (.int (i - j))
  | .mul, .int i, .int j => if mulOk i j then some (.int (i * j)) else none
  | .mul, .lst xs, .int k => if repOk xs.length k then some (.lst (repT xs k)) else none
  | .mul, .tup xs, .int k => if !xs.isEmpty && decide (2 ≤ k) && decide (k ≤ 1000) && decide (xs.length ≤ 1000) then some (.tup (repT xs k)) else none
  | .mul, .str x, .int k => if strOk x k then some (.str (strRep x k)) else none
  | .fdiv, .int i, .int j => if fdivOk i j then some (.int (i / j)) else none
  | .mod, .int i, .int j => if j = 0 then none else some (.int (i.fmod j))
  | .pow, .int i, .int j => if powOk i j then some (.int (i ^ j.toNat)) else none
  | _, _, _ => none
mutual
/-- the library's data -/
def toD : T → Option PyData
  | .non => some .none
  | .bl b => some (.bool b)
  | .int i => some (.int i)
  | .str x => some (.str x)
  | .tup ts => (toDL ts).map .tuple
  | .lst ts => (toDL ts).map .list
  | _ => none
def toDL : List T → Option (List PyData)
  | [] => some []
  | t :: ts => match toD t, toDL ts with
    | some d, some ds => some (d :: ds)
    | _, _ => none
end
def eqD (x y : T) : Option Bool := match toD x, toD y with
  | some d, some e => if SeqAt.shaped d && SeqAt.shaped e then some (PyData.eqv d e) else none
  | _, _ => none
def flatT : T → Option V
  | .non => some .non
  | .bl b => some (.bl b)
  | .int i => some (.int i)
  | .str x => some (.str x)
  | _ => none
def flatTL : List T → Option (List V)
  | [] => some []
  | t :: ts => match flatT t, flatTL ts with
    | some d, some ds => some (d :: ds)
    | _, _ => none
def inF (x : T) (ys : List T) : Option Bool := match flatT x, flatTL ys with
  | some d, some ds => some (inV d ds)
  | _, _ => none
def cmpT : Cp → T → T → Option Bool
  | .eq, x, y => eqD x y
  | .ne, x, y => (eqD x y).map (!·)
  | .lt, .int i, .int j => some (decide (i < j))
  | .le, .int i, .int j => some (decide (i ≤ j))
  | .gt, .int i, .int j => some (decide (j < i))
  | .ge, .int i, .int j => some (decide (j ≤ i))
  | .isin, x, .lst ys => inF x ys
  | .isin, x, .tup ys => inF x ys
  | .notin, x, .lst ys => (inF x ys).map (!·)
  | .notin, x, .tup ys => (inF x ys).map (!·)
  | .isN, .non, .non => some true
  | .isN, _, .non => some false
  | .notN, .non, .non => some false
  | .notN, _, .non => some true
  | _, _, _ => none
def truT : T → Option Bool
  | .non => some false
  | .bl b => some b
  | .int i => some (i != 0)
  | .lst xs => some (!xs.isEmpty)
  | .tup xs => some (!xs.isEmpty)
  | _ => none
def idxT : T → T → Option T
  | .lst xs, .int i => atI xs i
  | .scr xs, .int i => atI xs i
  | .tup xs, .int i => atI xs i
  | _, _ => none
def keyT : List Str → List T → Str → Option T
  | k :: ks, x :: xs, y => if k = y then some x else keyT ks xs y
  | _, _, _ => none
def putT : List Str → List T → Str → T → List T
  | k :: ks, x :: xs, y, z => if k = y then z :: xs else x :: putT ks xs y z
  | _, xs, _, _ => xs
def optI : T → Option (Option Int)
  | .int i => some (some i)
  | _ => none
def cutT (xs : List T) (lo hi : Option Int) : List T := (xs.drop (HT.sIx xs.length 0 lo)).take (HT.sIx xs.length xs.length hi - HT.sIx xs.length 0 lo)
def slcT : T → Option Int → Option Int → Option T
  | .lst xs, lo, hi => some (.lst (cutT xs lo hi))
  | .scr xs, lo, hi => some (.lst (cutT xs lo hi))
  | .tup xs, lo, hi => some (.tup (cutT xs lo hi))
  | _, _, _ => none
def itemsT : T → Option (List T)
  | .lst xs => some xs
  | .scr xs => some xs
  | .tup xs => some xs
  | _ => none
def lstT : T → Option (List T)
  | .lst xs => some xs
  | .scr xs => some xs
  | _ => none
def setTau (τ : Tau) (i : Nat) (t : T) : Tau := τ.set i (some t)
mutual
def asgG : G → T → Tau → Option Tau
  | .nm i, t, τ => if i < τ.length then some (τ.set i (some t)) else none
  | .tp g, .tup ts, τ => asgGs g ts τ
  | _, _, _ => none
def asgGs : G → List T → Tau → Option Tau
  | .nil, [], τ => some τ
  | .cons g r, t :: ts, τ => match asgG g t τ with
    | some τ1 => asgGs r ts τ1
    | none => none
  | _, _, _ => none
end
def wipeT (τ : Tau) : List Nat → Tau
  | [] => τ
  | v :: vs => (wipeT τ vs).set v none
/-- the slots vs of τ as they are in τ0 -/
def backT (τ0 τ : Tau) : List Nat → Tau
  | [] => τ
  | v :: vs => (backT τ0 τ vs).set v (τ0.getD v none)
def ofO {α : Type} (o : Option α) (τ : Tau) : Rs α := match o with
  | some a => .ok a τ
  | none => .no
def ofRm (r : Rm) (τ : Tau) : Rs T := match r with
  | .ok t => .ok t τ
  | .exc k f t => .exc k f t τ
  | .no => .no
def lcRun (own : List Nat) (g : G) (body : Tau → Rs (Option T)) : List T → Tau → Rs (List T)
  | [], τ => .ok [] τ
  | t :: ts, τ => match asgG g t (wipeT τ own) with
    | none => .no
    | some τ1 => match body τ1 with
      | .ok o τ2 => (lcRun own g body ts (backT τ τ2 own)).bind fun r τ3 => .ok (match o with | some x => x :: r | none => r) τ3
      | .exc .. => .no
      | .no => .no
def rngL (lo hi : Int) : List T := (List.range (hi - lo).toNat).map fun (i : Nat) => .int (lo + i)
def rngOk (i : Int) : Bool := decide (-(2 ^ 62) ≤ i) && decide (i < 2 ^ 62)
def rng1T : T → Option (List T)
  | .int j => if rngOk j then some (rngL 0 j) else none
  | _ => none
def rng2T : T → T → Option (List T)
  | .int i, .int j => if rngOk i && rngOk j then some (rngL i j) else none
  | _, _ => none
def enmL (xs : List T) : List T := (List.range xs.length).zip xs |>.map fun (p : Nat × T) => .tup [.int p.1, p.2]
def zipL (xs ys : List T) : List T := (xs.zip ys).map fun p => .tup [p.1, p.2]
def zipT (x y : T) : Option (List T) := match lstT x, lstT y with
  | some xs, some ys => some (zipL xs ys)
  | _, _ => match x, y with
    | .tup xs, .tup ys => some (zipL xs ys)
    | _, _ => none
def isNilE : E → Bool
  | .nil => true
  | _ => false
def intsT : List T → Option (List Int)
  | [] => some []
  | .int i :: r => (intsT r).map (i :: ·)
  | _ => none
def blsT : List T → Option (List Bool)
  | [] => some []
  | .bl b :: r => (blsT r).map (b :: ·)
  | _ => none
def maxI : List Int → Option Int
  | [] => none
  | x :: xs => some (xs.foldl max x)
def minI : List Int → Option Int
  | [] => none
  | x :: xs => some (xs.foldl min x)
def fldT (cs : List Str) (f : Str) : T → Option T
  | .exc c f' _ t => if f' = f ∧ cs.contains c = true then some t else none
  | _ => none
/-- which classes an error of such a class is of -/
def isE (tb : List (Str × List Str)) (tg : Str) : T → Option Bool
  | .exc c _ _ _ => (tb.lookup c).map fun l => l.contains tg
  | _ => none
def strT (cs : List Str) : T → Option Str
  | .exc c _ m _ => if cs.contains c = true then some m else none
  | .str x => some x
  | _ => none

mutual
def evE : E → Tau → Rs T
  | .var i, τ | .bor i, τ => match τ[i]? with
    | some (some t) => .ok t τ
    | _ => .no
  | .cst t, τ => .ok t τ
  | .tup es, τ => (evA es τ).bind fun ts τ => lim ts.length (.ok (.tup ts) τ)
  | .lst es, τ => (evA es τ).bind fun ts τ => lim ts.length (.ok (.lst ts) τ)
  | .dic ks es, τ => match evA es τ with
    | .ok ts τ => if (flatTL ts).isSome && decide (ks.length = ts.length) then .ok (.dic ks ts) τ else .no
    | _ => .no
  | .bin o a b, τ => (evE a τ).bind fun x τ => (evE b τ).bind fun y τ => ofO (binT o x y) τ
  | .neg a, τ => (evE a τ).bind fun x τ => match x with
    | .int i => .ok (.int (-i)) τ
    | _ => .no
  | .not a, τ => (evE a τ).bind fun x τ => ofO ((truT x).map fun b => .bl (!b)) τ
  | .cmp c a b, τ => (evE a τ).bind fun x τ => (evE b τ).bind fun y τ => ofO ((cmpT c x y).map .bl) τ
  | .chn c d a b e, τ => (evE a τ).bind fun x τ => (evE b τ).bind fun y τ => match cmpT c x y with
    | some true => (evE e τ).bind fun z τ => ofO ((cmpT d y z).map .bl) τ
    | some false => .ok (.bl false) τ
    | none => .no
  | .and a b, τ => (evE a τ).bind fun x τ => match truT x with
    | some true => evE b τ
    | some false => .ok x τ
    | none => .no
  | .or a b, τ => (evE a τ).bind fun x τ => match truT x with
    | some true => .ok x τ
    | some false => evE b τ
    | none => .no
  | .ite c a b, τ => (evE c τ).bind fun x τ => match truT x with
    | some true => evE a τ
    | some false => evE b τ
    | none => .no
  | .idx a i, τ => (evE a τ).bind fun x τ => (evE i τ).bind fun y τ => ofO (idxT x y) τ
  | .key a k, τ => (evE a τ).bind fun x τ => match x with
    | .dic ks xs => ofO (keyT ks xs k) τ
    | _ => .no
  | .slc a lo hi, τ => (evE a τ).bind fun x τ => (evP lo τ).bind fun l τ => (evP hi τ).bind fun h τ => ofO (slcT x l h) τ
  | .rev a, τ => (evE a τ).bind fun x τ => match x with
    | .lst xs => .ok (.lst xs.reverse) τ
    | .tup xs => .ok (.tup xs.reverse) τ
    | _ => .no
  | .call m _ es, τ => (evA es τ).bind fun ts τ => ofRm (m ts) τ
  | .cio m _ i es, τ => match τ[i]? with
    | some (some _) => (evA es τ).bind fun ts τ => match τ[i]? with
      | some (some s) => match m s ts with
        | some (s', t) => .ok t (τ.set i (some s'))
        | none => .no
      | _ => .no
    | _ => .no
  | .mk c f m a, τ => (evE a τ).bind fun x τ => .ok (.exc c f m x) τ
  | .fld cs a f, τ => (evE a τ).bind fun x τ => ofO (fldT cs f x) τ
  | .isi p a, τ => (evE a τ).bind fun x τ => ofO ((p x).map .bl) τ
  | .len a, τ => (evE a τ).bind fun x τ => ofO ((itemsT x).map fun xs => .int xs.length) τ
  | .sum a, τ => (evE a τ).bind fun x τ => ofO ((lstT x).bind fun xs => (intsT xs).map fun is => .int is.sum) τ
  | .mx a, τ => (evE a τ).bind fun x τ => ofO ((lstT x).bind fun xs => (intsT xs).bind fun is => (maxI is).map .int) τ
  | .mn a, τ => (evE a τ).bind fun x τ => ofO ((lstT x).bind fun xs => (intsT xs).bind fun is => (minI is).map .int) τ
  | .any a, τ => (evE a τ).bind fun x τ => ofO ((itemsT x).bind fun xs => (blsT xs).map fun bs => .bl (bs.any id)) τ
  | .all a, τ => (evE a τ).bind fun x τ => ofO ((itemsT x).bind fun xs => (blsT xs).map fun bs => .bl (bs.all id)) τ
  | .srt a, τ => .no
  | .tpl a, τ => (evE a τ).bind fun x τ => ofO ((itemsT x).map .tup) τ
  | .lis a, τ => (evE a τ).bind fun x τ => ofO ((itemsT x).map .lst) τ
  | .str cs a, τ => (evE a τ).bind fun x τ => ofO ((strT cs x).map .str) τ
  | .rpr a, τ => .no
  | .ixo a b, τ => .no
  | .lc own g it c e, τ => (evI it τ).bind fun ts τ => lim ts.length <| (lcRun own g (fun τ => (evC c τ).bind fun k τ => if k then (evE e τ).bind fun x τ => .ok (some x) τ else .ok none τ) ts τ).bind fun xs τ => .ok (.lst xs) τ
  | .nil, _ | .cons .., _ | .itr .., _ | .rng .., _ | .rng2 .., _ | .enm .., _ | .zip .., _ | .rvd .., _ => .no
/-- a comprehension's test -/
def evC : E → Tau → Rs Bool
  | .nil, τ => .ok true τ
  | .cons c _, τ => (evE c τ).bind fun x τ => ofO (truT x) τ
  | _, _ => .no
/-- a part of a slice -/
def evP : E → Tau → Rs (Option Int)
  | .nil, τ => .ok none τ
  | .cons c _, τ => (evE c τ).bind fun x τ => ofO (optI x) τ
  | _, _ => .no
/-- arguments -/
def evA : E → Tau → Rs (List T)
  | .nil, τ => .ok [] τ
  | .cons a r, τ => (evE a τ).bind fun x τ => (evA r τ).bind fun xs τ => .ok (x :: xs) τ
  | _, _ => .no
/-- what a loop walks -/
def evI : E → Tau → Rs (List T)
  | .rng a, τ => (evE a τ).bind fun x τ => ofO (rng1T x) τ
  | .rng2 a b, τ => (evE a τ).bind fun x τ => (evE b τ).bind fun y τ => ofO (rng2T x y) τ
  | .enm a, τ => (evE a τ).bind fun x τ => ofO ((lstT x).map enmL) τ
  | .zip a b, τ => (evE a τ).bind fun x τ => (evE b τ).bind fun y τ => ofO (zipT x y) τ
  | .rvd a, τ => (evE a τ).bind fun x τ => ofO ((itemsT x).map List.reverse) τ
  | .itr a, τ => (evE a τ).bind fun x τ => ofO (itemsT x) τ
  | _, _ => .no
end

/-! ### statements -/
inductive S where
  | skip | seq (a b : S)
  | asg (g : G) (e : E) | asgo (i : Nat) (e : E) | ret (e : E) | retv (i : Nat) | drp (e : E)
  | ife (c : E) (a b : S) | fo (g : G) (it : E) (b : S) | whl (c : E) (b : S)
  | app (i : Nat) (e : E) | ext (i : Nat) (e : E) | setk (i : Nat) (k : Str) (e : E) | seti (i : Nat) (x e : E)
  | aug (i : Nat) (o : Op) (e : E) | augi (i : Nat) (x e : E)
  | unp (g : G) (es : E)
  | rse (c f : Str) (a : E)
  | brk | cnt
inductive Out where
  | nx (τ : Tau) | rt (t : T) (τ : Tau) | bk (τ : Tau) | ct (τ : Tau)
  | exc (k f : Str) (t : T) (τ : Tau) | no
def outR {α : Type} (r : Rs α) (g : α → Tau → Out) : Out := match r with
  | .ok a τ => g a τ
  | .exc k f t τ => .exc k f t τ
  | .no => .no
def forRun (g : G) (body : Tau → Out) : List T → Tau → Out
  | [], τ => .nx τ
  | t :: ts, τ => match asgG g t τ with
    | none => .no
    | some τ1 => match body τ1 with
      | .nx τ2 => forRun g body ts τ2
      | .ct τ2 => forRun g body ts τ2
      | .bk τ2 => .nx τ2
      | o => o
def whlRun (c : Tau → Rs T) (body : Tau → Out) : Nat → Tau → Out
  | 0, _ => .no
  | n + 1, τ => outR (c τ) fun x τ => match truT x with
    | none => .no
    | some false => .nx τ
    | some true => match body τ with
      | .nx τ2 => whlRun c body n τ2
      | .ct τ2 => whlRun c body n τ2
      | .bk τ2 => .nx τ2
      | o => o
def isLD : T → Bool
  | .lst _ | .dic _ _ => true
  | _ => false
def seqO (a : Out) (g : Tau → Out) : Out := match a with
  | .nx τ => g τ
  | o => o
def exS : S → Tau → Out
  | .skip, τ => .nx τ
  | .seq a b, τ => seqO (exS a τ) (exS b)
  | .asg g e, τ => outR (evE e τ) fun t τ => match asgG g t τ with
    | some τ => .nx τ
    | none => .no
  | .asgo i e, τ => outR (evE e τ) fun t τ => if isLD t then .nx (τ.set i (some t)) else .no
  | .ret e, τ => outR (evE e τ) fun t τ => .rt t τ
  | .retv i, τ => match τ[i]? with
    | some (some t) => .rt t τ
    | _ => .no
  | .drp e, τ => outR (evE e τ) fun _ τ => .nx τ
  | .ife c a b, τ => outR (evE c τ) fun x τ => match truT x with
    | some true => exS a τ
    | some false => exS b τ
    | none => .no
  | .fo g it b, τ => outR (evI it τ) fun ts τ => forRun g (exS b) ts τ
  | .whl c b, τ => whlRun (evE c) (exS b) 1000000 τ
  | .app i e, τ => match τ[i]? with
    | some (some (.lst _)) => outR (evE e τ) fun t τ => match τ[i]? with
      | some (some (.lst xs)) => if xs.length < 16777216 then .nx (τ.set i (some (.lst (xs ++ [t])))) else .no
      | _ => .no
    | _ => .no
  | .ext i e, τ => outR (evE e τ) fun t τ => match τ[i]?, itemsT t with
    | some (some (.lst xs)), some ys => if xs.length + ys.length ≤ 16777216 then .nx (τ.set i (some (.lst (xs ++ ys)))) else .no
    | _, _ => .no
  | .setk i k e, τ => outR (evE e τ) fun t τ => match τ[i]? with
    | some (some (.dic ks xs)) => if ks.contains k && decide ks.Nodup && decide (ks.length ≤ 1000) then .nx (τ.set i (some (.dic ks (putT ks xs k t)))) else .no
    | _ => .no
  | .seti i x e, τ => .no
  | .aug i o e, τ => .no
  | .augi i x e, τ => .no
  | .unp g es, τ => outR (evA es τ) fun ts τ => match asgGs g ts τ with
    | some τ => .nx τ
    | none => .no
  | .rse c f a, τ => outR (evE a τ) fun t τ => .exc c f t τ
  | .brk, τ => .bk τ
  | .cnt, τ => .ct τ

/-- a def's answer: n parameters, N names -/
def runM (n N : Nat) (s : S) (ts : List T) : Rm :=
  if ts.length = n then match exS s (ts.map some ++ List.replicate (N - n) none) with
    | .nx _ => .ok .non
    | .rt t _ => .ok t
    | .exc k f t _ => .exc k f t
    | _ => .no
  else .no
/-- .. of a def that changes its first argument -/
def runIo (n N : Nat) (s : S) : Mio := fun s0 ts =>
  if ts.length + 1 = n then match exS s (some s0 :: (ts.map some ++ List.replicate (N - n) none)) with
    | .nx τ => match τ[0]? with
      | some (some s1) => some (s1, .non)
      | _ => none
    | .rt t τ => match τ[0]? with
      | some (some s1) => some (s1, t)
      | _ => none
    | _ => none
  else none
end Tm

end

section
set_option linter.all false
set_option maxRecDepth 100000
set_option maxHeartbeats 4000000
namespace Tm
open PySem PySem.Spec PyProof.Rows L2

/-! ### what is static of a code -/
def isBor : E → Bool
  | .bor _ => true
  | _ => false
/-- it changes nothing that is tracked -/
def quiet : E → Bool
  | .nil => true
  | .cons a r => quiet a && quiet r
  | .var _ | .bor _ | .cst _ => true
  | .tup es | .lst es | .dic _ es | .call _ _ es | .rng es => quiet es
  | .bin _ a b | .cmp _ a b | .and a b | .or a b | .idx a b | .ixo a b | .zip a b | .rng2 a b => quiet a && quiet b
  | .neg a | .not a | .key a _ | .rev a | .mk _ _ _ a | .fld _ a _ | .isi _ a | .len a | .sum a | .mx a | .mn a | .any a | .all a | .srt a | .tpl a | .lis a | .str _ a | .rpr a | .itr a | .enm a | .rvd a => quiet a
  | .chn _ _ a b e => quiet a && quiet b && quiet e
  | .ite a b e => quiet a && quiet b && quiet e
  | .slc a b e => quiet a && quiet b && quiet e
  | .cio .. => false
  | .lc _ _ a b e => quiet a && quiet b && quiet e
/-- a list that it gives is new, and nobody else's -/
def fresh : E → Bool
  | .lst _ | .dic _ _ | .bin _ _ _ | .slc _ _ _ | .rev _ | .srt _ | .lis _ | .lc .. => true
  | .call _ fr _ => fr
  | _ => false

/-! ### the state -/
/-- one def's: what is static of it; F0: forbidden by its callers; H0: the heap at its entry; io: what of it may change; W: what is wished of an exception -/
structure Px where
  C : Ct
  M : List Nat
  F0 : Fb
  H0 : Hp
  io : Fb
  W : WX
abbrev Ow := List (Nat × Addr)
def Fo (F0 : Fb) (O : Ow) : Fb := fun a => F0 a ∨ ∃ i, (i, a) ∈ O
/-- the list or dict at a stands for the tree -/
def Top (C : Ct) (F : Fb) (H : Hp) (a : Addr) : T → Prop
  | .lst ts => ∃ vs, H a = some (.lst vs) ∧ RepL C F H ts vs
  | .dic ks ts => ∃ vs, H a = some (.dK (zipK ks vs)) ∧ ks.length = ts.length ∧ RepL C F H ts vs
  | _ => False
structure Gd (p : Px) (O : Ow) (τ : Tau) (σ : L2.St) (H : Hp) : Prop where
  len : τ.length = σ.length
  fok : FOk (Fo p.F0 O) H
  ftr : ∀ a, Fo p.F0 O a → H a ≠ none
  own : ∀ i t, i ∈ p.M → τ[i]? = some (some t) → ∃ a, (i, a) ∈ O ∧ σ[i]? = some (some (.ref a)) ∧ Top p.C (Fo p.F0 O) H a t
  plain : ∀ i t, i ∉ p.M → τ[i]? = some (some t) → ∃ v, σ[i]? = some (some v) ∧ Rep p.C (Fo p.F0 O) H t v
  odom : ∀ i a, (i, a) ∈ O → i ∈ p.M ∧ ¬ p.F0 a ∧ (p.io a ∨ p.H0 a = none)
  ona : ∀ i j a, (i, a) ∈ O → (j, a) ∈ O → i = j
  oni : ∀ i a b, (i, a) ∈ O → (i, b) ∈ O → a = b
  kp : ∀ a, p.io a → (0, a) ∈ O
  ext : Ext p.C p.io p.H0 H
  j0 : p.C.J p.H0
/-- lists and tuples have at most so many items -/
def WF (H : Hp) : Prop := ∀ a xs, (Rd H a (.lst xs) ∨ Rd H a (.tup xs)) → xs.length ≤ sizeLine
def RepB (C : Ct) (F : Fb) (H : Hp) (t : T) (v : V) : Prop := Rep C F H t v ∨ ∃ a, v = .ref a ∧ Top C F H a t
def FreshV (C : Ct) (F : Fb) (H : Hp) (t : T) (v : V) (H' : Hp) : Prop :=
  match t with
  | .lst ts => ∃ a, v = .ref a ∧ H a = none ∧ Top C (fun b => F b ∨ b = a) H' a (.lst ts)
  | .dic ks ts => ∃ a, v = .ref a ∧ H a = none ∧ Top C (fun b => F b ∨ b = a) H' a (.dic ks ts)
  | _ => True
/-- .. with the address a forbidden too -/
def Px.plus (p : Px) (a : Addr) : Px := { p with F0 := fun b => p.F0 b ∨ b = a }
structure PV (p : Px) (O : Ow) (τ' : Tau) (σ : L2.St) (c : E) (H : Hp) (t : T) (v : V) (H' : Hp) : Prop where
  rep : isBor c = false → Rep p.C (Fo p.F0 O) H' t v
  bor : RepB p.C (Fo p.F0 O) H' t v
  new : fresh c = true → FreshV p.C (Fo p.F0 O) H t v H'
  own : fresh c = true → isLD t = true → ∀ a, v = .ref a → Gd (p.plus a) O τ' σ H'
/-- what is wished of an exception that leaves at H -/
def Wx (p : Px) (O : Ow) (σ : L2.St) (H : Hp) (k f : Str) (t : T) (τ' : Tau) : Prop :=
  ∀ Cl d w H', p.C.mg k = some (.ref Cl) → H' d = some (.xd [(f, w)]) → Gd p O τ' σ H' → Rep p.C (Fo p.F0 O) H' t w → Ext p.C (Fo p.F0 O) H H' → p.W (.ref Cl) (some d) σ H'
def Ob (p : Px) (O : Ow) (σ : L2.St) (H : Hp) {α : Type} (r : Rs α) (k : α → Tau → Prop) : Prop := match r with
  | .ok a τ => k a τ
  | .exc x f t τ => Wx p O σ H x f t τ
  | .no => False
/-- what is owned -/
def Oo (O : Ow) : Fb := fun a => ∃ i, (i, a) ∈ O
def qF (_ : Px) (O : Ow) (b : Bool) : Fb := if b = true then fun _ => False else Oo O
def tEv (p : Px) (c : E) : TE := fun σ H Q => ∃ O τ, Gd p O τ σ H ∧ Ob p O σ H (evE c τ) fun t τ' => ∀ v H', Gd p O τ' σ H' → Ext p.C (qF p O (quiet c)) H H' → PV p O τ' σ c H t v H' → WF H' → Q v H'
/-- arguments: several values at once -/
def tAv (p : Px) (c : E) : TA := fun σ H Q => ∃ O τ, Gd p O τ σ H ∧ Ob p O σ H (evA c τ) fun ts τ' => ∀ vs H', Gd p O τ' σ H' → Ext p.C (qF p O (quiet c)) H H' → RepL p.C (Fo p.F0 O) H' ts vs → WF H' → Q vs H'
def tCv (p : Px) (c : E) : TT := fun σ H Q => ∃ O τ, Gd p O τ σ H ∧ Ob p O σ H ((evE c τ).bind fun x τ => ofO (truT x) τ) fun b τ' => ∀ H', Gd p O τ' σ H' → Ext p.C (qF p O (quiet c)) H H' → WF H' → Q b H'

section
variable {p : Px} {O : Ow} {τ τ' : Tau} {σ : L2.St} {H H1 H2 H' : Hp} {α β : Type} {c ca cb : E}
theorem Ob.bind {r : Rs α} {g : α → Tau → Rs β} {k : β → Tau → Prop} (h : Ob p O σ H (r.bind g) k) : Ob p O σ H r fun a τ => Ob p O σ H (g a τ) k := by
  cases r <;> exact h
theorem Ob.bind' {r : Rs α} {g : α → Tau → Rs β} {k : β → Tau → Prop} (h : Ob p O σ H r fun a τ => Ob p O σ H (g a τ) k) : Ob p O σ H (r.bind g) k := by
  cases r <;> exact h
theorem Ob.mono {r : Rs α} {k k' : α → Tau → Prop} (h : Ob p O σ H r k) (hk : ∀ a τ, k a τ → k' a τ) : Ob p O σ H r k' := by
  cases r with
  | ok a τ => exact hk a τ h
  | exc x f t τ => exact h
  | no => exact h
theorem Ob.at {r : Rs α} {k : α → Tau → Prop} (h : Ob p O σ H r k) (x : Ext p.C (Fo p.F0 O) H H1) : Ob p O σ H1 r k := by
  cases r with
  | ok a τ => exact h
  | exc k0 f t τ => exact fun Cl d w H' h1 h2 h3 h4 h5 => h Cl d w H' h1 h2 h3 h4 (x.trans h5)
  | no => exact h
theorem Ob.ofO {o : Option α} {τ : Tau} {k : α → Tau → Prop} (h : Ob p O σ H (ofO o τ) k) : ∃ a, o = some a ∧ k a τ := by
  cases o with
  | none => exact h.elim
  | some a => exact ⟨a, rfl, h⟩
theorem qF_sub {b : Bool} (a : Addr) (h : qF p O b a) : Fo p.F0 O a := by
  unfold qF at h
  split at h
  · exact h.elim
  · exact .inr h
theorem qF_oo {b : Bool} (a : Addr) (h : qF p O b a) : Oo O a := by
  unfold qF at h
  split at h
  · exact h.elim
  · exact h
theorem ext_q {b : Bool} (x : Ext p.C (qF p O b) H H') : Ext p.C (Fo p.F0 O) H H' := x.mono fun a h => qF_sub a h
theorem ext_q2 {a b c : Bool} (hc : c = (a && b)) (x : Ext p.C (qF p O a) H H1) (y : Ext p.C (qF p O b) H1 H') : Ext p.C (qF p O c) H H' := by
  subst hc
  refine (x.mono fun q h => ?_).trans (y.mono fun q h => ?_)
  · unfold qF at h ⊢
    cases a <;> cases b <;> simp_all
  · unfold qF at h ⊢
    cases a <;> cases b <;> simp_all
theorem ext_any {b : Bool} (x : Ext p.C (fun _ => False) H H') : Ext p.C (qF p O b) H H' := x.mono fun _ h => h.elim

theorem Rep.toB {C : Ct} {F : Fb} {t : T} {v : V} (h : Rep C F H t v) : RepB C F H t v := .inl h
theorem Top.ext {C : Ct} {F : Fb} {a : Addr} (f : FOk F H) (x : Ext C F H H') (e : H' a = H a) : ∀ {t : T}, Top C F H a t → Top C F H' a t
  | .lst ts, ⟨vs, h1, h2⟩ => ⟨vs, e.trans h1, RepL.ext f x ts vs h2⟩
  | .dic ks ts, ⟨vs, h1, hl, h2⟩ => ⟨vs, e.trans h1, hl, RepL.ext f x ts vs h2⟩
/-- a borrowed list, as it stands, behind what changes nothing -/
theorem RepB.ext0 {C : Ct} {F : Fb} {t : T} {v : V} (f : FOk F H) (x : Ext C (fun _ => False) H H') (h : RepB C F H t v) : RepB C F H' t v := by
  rcases h with h | ⟨a, e, h⟩
  · exact .inl (Rep.ext f (x.mono fun _ z => z.elim) t v h)
  · refine .inr ⟨a, e, ?_⟩
    cases t with
    | lst ts =>
      obtain ⟨vs, h1, h2⟩ := h
      exact ⟨vs, x.at_ a _ (fun z => z) h1 (nt_lst _), RepL.ext f (x.mono fun _ z => z.elim) ts vs h2⟩
    | dic ks ts =>
      obtain ⟨vs, h1, hl, h2⟩ := h
      exact ⟨vs, x.at_ a _ (fun z => z) h1 (nt_dK _), hl, RepL.ext f (x.mono fun _ z => z.elim) ts vs h2⟩
    | _ => exact h.elim
theorem RepB.lst {C : Ct} {F : Fb} {ts : List T} {v : V} (h : RepB C F H (.lst ts) v) : ∃ a vs, v = .ref a ∧ H a = some (.lst vs) ∧ RepL C F H ts vs := by
  rcases h with ⟨a, vs, e, _, h1, h2⟩ | ⟨a, e, vs, h1, h2⟩
  · exact ⟨a, vs, e, h1, h2⟩
  · exact ⟨a, vs, e, h1, h2⟩
theorem RepB.scr {C : Ct} {F : Fb} {ts : List T} {v : V} (h : RepB C F H (.scr ts) v) : ∃ a vs, v = .ref a ∧ SqL C.K H a vs ∧ RepL C F H ts vs := by
  rcases h with ⟨a, vs, e, h1, h2⟩ | ⟨a, e, h⟩
  · exact ⟨a, vs, e, h1.imp (fun z => z.2) id, h2⟩
  · exact h.elim
theorem RepB.tup {C : Ct} {F : Fb} {ts : List T} {v : V} (h : RepB C F H (.tup ts) v) : ∃ a vs, v = .ref a ∧ SqT C.K H a vs ∧ RepL C F H ts vs := by
  rcases h with ⟨a, vs, e, h1, h2⟩ | ⟨a, e, h⟩
  · exact ⟨a, vs, e, h1, h2⟩
  · exact h.elim
theorem RepB.dic {C : Ct} {F : Fb} {ks : List Str} {ts : List T} {v : V} (h : RepB C F H (.dic ks ts) v) : ∃ a vs, v = .ref a ∧ H a = some (.dK (zipK ks vs)) ∧ ks.length = ts.length ∧ RepL C F H ts vs := by
  rcases h with ⟨a, vs, e, _, h1, hl, h2⟩ | ⟨a, e, vs, h1, hl, h2⟩
  · exact ⟨a, vs, e, h1, hl, h2⟩
  · exact ⟨a, vs, e, h1, hl, h2⟩
theorem RepB.flat {C : Ct} {F : Fb} {t : T} {v : V} (h : RepB C F H t v) (ht : ∀ a, ¬ Top C F H a t) : Rep C F H t v := by
  rcases h with h | ⟨a, e, h⟩
  · exact h
  · exact (ht a h).elim
theorem RepB.int {C : Ct} {F : Fb} {i : Int} {v : V} (h : RepB C F H (.int i) v) : v = .int i := h.flat (fun _ z => z)
theorem RepB.bl {C : Ct} {F : Fb} {b : Bool} {v : V} (h : RepB C F H (.bl b) v) : v = .bl b := h.flat (fun _ z => z)
theorem RepB.str {C : Ct} {F : Fb} {x : Str} {v : V} (h : RepB C F H (.str x) v) : v = .str x := h.flat (fun _ z => z)
theorem RepB.non {C : Ct} {F : Fb} {v : V} (h : RepB C F H .non v) : v = .non := h.flat (fun _ z => z)

/-! ### from a rule of HandS -/
theorem wf_of {X : Cx} {pins : List (Addr × Obj)} {s : Shared} (I : Inv X pins σ H s) : WF H := fun a xs h => by
  rcases h with h | h
  · obtain ⟨its, r, ht, hz⟩ := I.list (a := a) (xs := xs) (.inl h)
    exact hz
  · obtain ⟨its, r, ht, hz⟩ := I.tuple (a := a) (xs := xs) (.inl h)
    exact hz
theorem pe_imp {X : Cx} {e : Expr} {t u : TE} (h : PE X e t) (hi : ∀ σ H (Q : VK), WF H → u σ H Q → t σ H fun v H' => WF H' → Q v H') : PE X e u :=
  ⟨fun pins s σ H Q I q => thn (h.run pins s σ H _ I (hi σ H Q (wf_of I) q)) fun _ _ ⟨v, H', I', r, q'⟩ => ⟨v, H', I', r, q' (wf_of I')⟩⟩
theorem pt_imp {X : Cx} {e : Expr} {t u : TT} (h : PT X e t) (hi : ∀ σ H (Q : Bool → Hp → Prop), WF H → u σ H Q → t σ H fun v H' => WF H' → Q v H') : PT X e u :=
  ⟨fun pins s σ H Q I q => thn (h.run pins s σ H _ I (hi σ H Q (wf_of I) q)) fun _ _ ⟨H', I', q'⟩ => ⟨H', I', q' (wf_of I')⟩⟩
theorem pa_imp {X : Cx} {es : List Expr} {t u : TA} (h : PA X es t) (hi : ∀ σ H (Q : List V → Hp → Prop), WF H → u σ H Q → t σ H fun v H' => WF H' → Q v H') : PA X es u :=
  ⟨fun pos pins s σ H Q I q => thn (h.run pos pins s σ H _ I (hi σ H Q (wf_of I) q)) fun _ _ ⟨v, H', I', r, q'⟩ => ⟨v, H', I', r, q' (wf_of I')⟩⟩

/-- two operands, one after the other -/
theorem ev_two {g : T → T → Tau → Rs β} {k : β → Tau → Prop} {R : V → V → Hp → Prop} (hq : isBor ca = false ∨ quiet cb = true) (G0 : Gd p O τ σ H)
    (h : Ob p O σ H ((evE ca τ).bind fun x τ => (evE cb τ).bind fun y τ => g x y τ) k)
    (hR : ∀ x y τ2 v u H2, Gd p O τ2 σ H2 → Ext p.C (qF p O (quiet ca && quiet cb)) H H2 → RepB p.C (Fo p.F0 O) H2 x v → RepB p.C (Fo p.F0 O) H2 y u → WF H2 → Ob p O σ H (g x y τ2) k → R v u H2) :
    tEv p ca σ H fun v H1 => tEv p cb σ H1 fun u H2 => R v u H2 := by
  refine ⟨O, τ, G0, h.bind.mono fun x τ1 h1 v H1 G1 X1 P1 W1 => ⟨O, τ1, G1, (h1.bind.at (ext_q X1)).mono fun y τ2 h2 u H2 G2 X2 P2 W2 => ?_⟩⟩
  refine hR x y τ2 v u H2 G2 (ext_q2 rfl X1 X2) ?_ P2.bor W2 ?_
  · rcases hq with hq | hq
    · exact .inl (Rep.ext G1.fok (ext_q X2) x v (P1.rep hq))
    · rw [hq] at X2
      exact P1.bor.ext0 G1.fok X2
  · exact h2
end
end Tm

end

section
set_option linter.all false
set_option maxRecDepth 100000
set_option maxHeartbeats 4000000
namespace Tm
open PySem PySem.Spec PyProof.Rows L2

section
variable {C : Ct} {F : Fb} {H H' : Hp} {ts : List T} {vs : List V} {q : Addr}
/-- what a forbidden address is -/
structure FT (F : Fb) (H : Hp) : Prop where
  ok : FOk F H
  tr : ∀ a, F a → H a ≠ none
theorem Gd.ft {p : Px} {O : Ow} {τ : Tau} {σ : L2.St} (G : Gd p O τ σ H) : FT (Fo p.F0 O) H := ⟨G.fok, G.ftr⟩
theorem RepL.add (hp : H q = none) (h : RepL C F H ts vs) : RepL C (fun b => F b ∨ b = q) H ts vs :=
  RepL.imp (fun a na z => by
    rcases z with z | z
    · exact z
    · rw [z] at na; exact (na hp).elim) ts vs h
theorem FOk.add (f : FOk F H) (hp : H q = none) : FOk (fun b => F b ∨ b = q) H := fun a o z e => by
  rcases z with z | z
  · exact f a o z e
  · rw [z, hp] at e; cases e
theorem new_lst (f : FT F H) (h : RepL C F H ts vs) (hp : H q = none) : Ext C (fun _ => False) H (upd H q (.lst vs)) ∧ Rep C F (upd H q (.lst vs)) (.lst ts) (.ref q) ∧ FreshV C F H (.lst ts) (.ref q) (upd H q (.lst vs)) :=
  ⟨ext_new hp, ⟨q, vs, rfl, fun z => f.tr q z hp, upd_same, RepL.ext f.ok (ext_new hp) ts vs h⟩, q, rfl, hp, vs, upd_same, RepL.ext (f.ok.add hp) (ext_new hp) ts vs (h.add hp)⟩
theorem new_tup (f : FT F H) (h : RepL C F H ts vs) (hp : H q = none) : Ext C (fun _ => False) H (upd H q (.tup vs)) ∧ Rep C F (upd H q (.tup vs)) (.tup ts) (.ref q) :=
  ⟨ext_new hp, q, vs, rfl, SqT.of upd_same, RepL.ext f.ok (ext_new hp) ts vs h⟩
theorem sqL (h : RepB C F H (.lst ts) v) : ∃ a vs, v = .ref a ∧ SqL C.K H a vs ∧ RepL C F H ts vs :=
  let ⟨a, vs, e, h1, h2⟩ := h.lst
  ⟨a, vs, e, SqL.of h1, h2⟩
end

/-- the post of an operation that gives t -/
def Gives (C : Ct) (F : Fb) (H : Hp) (t : T) (Q : VK) : Prop := ∀ v H', Ext C (fun _ => False) H H' → Rep C F H' t v → FreshV C F H t v H' → Q v H'
section
variable {C : Ct} {F : Fb} {H : Hp} {Q : VK} {ts : List T} {vs : List V} {q : Addr}
theorem Gives.lst (g : Gives C F H (.lst ts) Q) (f : FT F H) (h : RepL C F H ts vs) (hp : H q = none) : Q (.ref q) (upd H q (.lst vs)) :=
  let ⟨a, b, c⟩ := new_lst f h hp
  g _ _ a b c
theorem Gives.tup (g : Gives C F H (.tup ts) Q) (f : FT F H) (h : RepL C F H ts vs) (hp : H q = none) : Q (.ref q) (upd H q (.tup vs)) :=
  let ⟨a, b⟩ := new_tup f h hp
  g _ _ a b trivial
theorem Gives.tup0 {a : Addr} (g : Gives C F H (.tup ts) Q) (h : RepL C F H ts vs) (hq : SqT C.K H a vs) : Q (.ref a) H := g _ _ (Ext.refl C _ H) ⟨a, vs, rfl, hq, h⟩ trivial
theorem Gives.int {i : Int} (g : Gives C F H (.int i) Q) : Q (.int i) H := g _ _ (Ext.refl C _ H) rfl trivial
theorem Gives.bl {b : Bool} (g : Gives C F H (.bl b) Q) : Q (.bl b) H := g _ _ (Ext.refl C _ H) rfl trivial
theorem Gives.str {x : Str} (g : Gives C F H (.str x) Q) : Q (.str x) H := g _ _ (Ext.refl C _ H) rfl trivial
end

def rB (C : Ct) (F : Fb) (f : T → T → Option T) : R2 := fun x y H Q => ∃ tx ty t, FT F H ∧ RepB C F H tx x ∧ RepB C F H ty y ∧ f tx ty = some t ∧ Gives C F H t Q
theorem OpR.imp {X : Cx} {f : Value → Value → Sem Value} {r r' : R2} {x y : V} {H : Hp} {Q : VK} (h : OpR X f r) (e : r x y H Q) {pins : List (Addr × Obj)} {s : Shared} {σ : L2.St} {v u : Value} (I : Inv X pins σ H s) (rx : RelV x v) (ry : RelV y u) :
    wpAny (model X.prog X.w) X.A (f v u) (EP X pins σ Q) X.xe s := h pins s σ H x y v u Q I rx ry e
theorem sizeLine16 : sizeLine = 16777216 := sizeLine_eq
theorem RepL.nil_iff {C : Ct} {F : Fb} {H : Hp} {ts : List T} {vs : List V} (h : RepL C F H ts vs) : vs = [] ↔ ts = [] := by
  have := h.length
  constructor
  · intro e; rw [e] at this; exact List.length_eq_zero_iff.mp this.symm
  · intro e; rw [e] at this; exact List.length_eq_zero_iff.mp this
section
variable {X : Cx} {C : Ct} {F : Fb} (hK : C.K = X.K)
include hK
theorem op_add_t : OpR X (binaryOp .Add) (rB C F (binT .add)) := by
  intro pins s σ H x y v u Q I rx ry h
  obtain ⟨tx, ty, t, ft, hx, hy, e, g⟩ := h
  unfold binT at e
  split at e <;> (try (cases ‹Op.add = _›)) <;> (try (cases e; done))
  · cases e
    exact op_add pins s σ H x y v u Q I rx ry ⟨_, _, hx.int, hy.int, g.int⟩
  · split at e <;> cases e
    rename_i hl
    obtain ⟨a, vs, rfl, h1, h2⟩ := hx.lst
    obtain ⟨b, ws, rfl, h3, h4⟩ := hy.lst
    exact op_cat pins s σ H _ _ v u Q I rx ry ⟨a, b, vs, ws, rfl, rfl, h1, h3, by rw [h2.length, h4.length, sizeLine16]; exact hl, fun q hq => g.lst ft (h2.append h4) hq⟩
  · split at e <;> cases e
    rename_i xs ys hl
    obtain ⟨a, vs, rfl, h1, h2⟩ := hx.tup
    obtain ⟨b, ws, rfl, h3, h4⟩ := hy.tup
    refine op_catA pins s σ H _ _ v u Q I rx ry ⟨a, b, vs, ws, rfl, rfl, hK ▸ h1, hK ▸ h3, by rw [h2.length, h4.length, sizeLine16]; exact hl, fun z => ?_, fun z z2 => ?_, fun _ _ q hq => g.tup ft (h2.append h4) hq⟩
    · have : xs = [] := h2.nil_iff.mp z
      subst this
      exact g.tup0 h4 h3
    · have : ys = [] := h4.nil_iff.mp z2
      subst this
      rw [List.append_nil] at g
      exact g.tup0 h2 h1
  · split at e <;> cases e
    rename_i hl
    exact op_add_str pins s σ H x y v u Q I rx ry ⟨_, _, hx.str, hy.str, by rw [sizeLine16]; exact hl, g.str⟩
theorem op_sub_t : OpR X (binaryOp .Sub) (rB C F (binT .sub)) := by
  intro pins s σ H x y v u Q I rx ry h
  obtain ⟨tx, ty, t, ft, hx, hy, e, g⟩ := h
  unfold binT at e
  split at e <;> (try (cases ‹Op.sub = _›)) <;> (try (cases e; done))
  cases e
  exact op_sub pins s σ H x y v u Q I rx ry ⟨_, _, hx.int, hy.int, g.int⟩
theorem op_fdiv_t : OpR X (binaryOp .FloorDiv) (rB C F (binT .fdiv)) := by
  intro pins s σ H x y v u Q I rx ry h
  obtain ⟨tx, ty, t, ft, hx, hy, e, g⟩ := h
  unfold binT at e
  split at e <;> (try (cases ‹Op.fdiv = _›)) <;> (try (cases e; done))
  split at e <;> cases e
  rename_i hl
  unfold fdivOk at hl
  simp only [Bool.and_eq_true, decide_eq_true_eq] at hl
  exact op_fdiv pins s σ H x y v u Q I rx ry ⟨_, _, hx.int, hy.int, hl, g.int⟩
theorem op_mod_t : OpR X (binaryOp .Mod) (rB C F (binT .mod)) := by
  intro pins s σ H x y v u Q I rx ry h
  obtain ⟨tx, ty, t, ft, hx, hy, e, g⟩ := h
  unfold binT at e
  split at e <;> (try (cases ‹Op.mod = _›)) <;> (try (cases e; done))
  split at e <;> cases e
  rename_i hl
  exact op_modN pins s σ H x y v u Q I rx ry ⟨_, _, hx.int, hy.int, hl, g.int⟩
theorem op_pow_t : OpR X (binaryOp .Pow) (rB C F (binT .pow)) := by
  intro pins s σ H x y v u Q I rx ry h
  obtain ⟨tx, ty, t, ft, hx, hy, e, g⟩ := h
  unfold binT at e
  split at e <;> (try (cases ‹Op.pow = _›)) <;> (try (cases e; done))
  split at e <;> cases e
  rename_i hl
  unfold powOk at hl
  simp only [Bool.and_eq_true, decide_eq_true_eq] at hl
  exact opI (C := fun i j => 0 ≤ j ∧ (Builtin.Int.intBits i : Int) * j ≤ 2 ^ 27) (g := fun i j => i ^ j.toNat) (fun i j t u s Q E hc q => pow_int hc.1 hc.2 q) pins s σ H x y v u Q I rx ry ⟨_, _, hx.int, hy.int, hl, g.int⟩
theorem op_mul_t : OpR X (binaryOp .Mult) (rB C F (binT .mul)) := by
  intro pins s σ H x y v u Q I rx ry h
  obtain ⟨tx, ty, t, ft, hx, hy, e, g⟩ := h
  unfold binT at e
  split at e <;> (try (cases ‹Op.mul = _›)) <;> (try (cases e; done))
  · split at e <;> cases e
    rename_i i j hl
    unfold mulOk at hl
    simp only [Bool.or_eq_true, decide_eq_true_eq] at hl
    rcases hl with (hl | hl) | hl
    · exact op_mul pins s σ H x y v u Q I rx ry ⟨_, _, hx.int, hy.int, .inl (by omega), g.int⟩
    · exact op_mul pins s σ H x y v u Q I rx ry ⟨_, _, hx.int, hy.int, .inr (by omega), g.int⟩
    · exact op_mulW pins s σ H x y v u Q I rx ry ⟨_, _, hx.int, hy.int, hl, g.int⟩
  · split at e <;> cases e
    rename_i hl
    unfold repOk at hl
    simp only [Bool.and_eq_true, decide_eq_true_eq] at hl
    obtain ⟨a, vs, rfl, h1, h2⟩ := hx.lst
    refine op_rep pins s σ H _ y v u Q I rx ry ⟨a, _, vs, rfl, hy.int, h1, hl.1.1, hl.1.2, by rw [h2.length, sizeLine16]; exact hl.2, fun q hq => g.lst ft h2.rep hq⟩
  · split at e <;> cases e
    rename_i xs k hl
    simp only [Bool.and_eq_true, decide_eq_true_eq] at hl
    obtain ⟨a, vs, rfl, h1, h2⟩ := hx.tup
    refine op_repT pins s σ H _ y v u Q I rx ry ⟨a, _, vs, rfl, hy.int, hK ▸ h1, fun z => ?_, hl.1.1.2, hl.1.2, by rw [h2.length]; exact hl.2, fun q hq => g.tup ft h2.rep hq⟩
    have : xs = [] := h2.nil_iff.mp z
    subst this
    simp at hl
  · split at e <;> cases e
    rename_i x k hl
    unfold strOk at hl
    simp only [Bool.and_eq_true, decide_eq_true_eq] at hl
    obtain ⟨⟨⟨h1, h2⟩, h3⟩, h4⟩ := hl
    have ex := hx.str
    have ey := hy.int
    subst ex ey
    obtain ⟨t1, rfl⟩ := rx
    obtain ⟨t2, rfl⟩ := ry
    refine PySem.P.mul_str ?_ (fun k1 _ => ?_) (fun k1 _ => ?_) ?_
    · rw [decide_eq_false (by omega), decide_eq_false (by omega)]; rfl
    · have hk : 0 < k := by omega
      rw [Int.not_lt, Int.le_ediv_iff_mul_le hk]
      have a1 : (x.length : Int) * k ≤ 1000 * 1000 := Int.mul_le_mul (by omega) h2 (by omega) (by omega)
      omega
    · unfold Builtin.Str.tooLong
      refine decide_eq_false ?_
      rw [sizeLine16]
      have a1 : x.length * k.toNat ≤ 1000 * 1000 := Nat.mul_le_mul h3 (by omega)
      omega
    · have g := g.str
      unfold strRep at g h4
      split
      · rw [if_pos ‹_›] at g
        exact ⟨by rw [show Str.empty.length = 0 from rfl]; exact Nat.zero_le _, ⟨.str Str.empty, H, I.tok _, ⟨_, rfl⟩, g⟩⟩
      · rename_i hk
        rw [if_neg hk] at g h4
        split
        · rename_i hk2
          rw [if_pos hk2] at g
          exact ⟨.str x, H, I, ⟨_, rfl⟩, g⟩
        · rename_i hk2
          rw [if_neg hk2] at g h4
          exact ⟨by rw [sizeLine16]; exact h4, ⟨.str _, H, I.tok _, ⟨_, rfl⟩, g⟩⟩
end
end Tm

end

section
set_option linter.all false
set_option maxRecDepth 100000
set_option maxHeartbeats 4000000
namespace Tm
open PySem PySem.Spec PyProof.Rows L2

section
variable {p : Px} {O : Ow} {τ τ' : Tau} {σ : L2.St} {H H1 H2 H' : Hp} {α β : Type} {c ca cb : E} {t : T} {Q : VK}
theorem Gd.ext0 (G : Gd p O τ σ H) (x : Ext p.C (fun _ => False) H H') : Gd p O τ σ H' where
  len := G.len
  fok := fun a o fa e => by
    cases e0 : H a with
    | none => exact (G.ftr a fa e0).elim
    | some o0 =>
      have q := G.fok a o0 fa e0
      have nt : NT o0 := by rcases q with ⟨_, rfl⟩ | ⟨_, rfl⟩ <;> exact fun _ z => by cases z
      rw [x.at_ a o0 (fun z => z) e0 nt] at e
      cases e; exact q
  ftr := fun a fa e => G.ftr a fa (x.th a e)
  own := fun i t hi h => by
    obtain ⟨a, h1, h2, h3⟩ := G.own i t hi h
    refine ⟨a, h1, h2, ?_⟩
    have r : RepB p.C (Fo p.F0 O) H' t (.ref a) := RepB.ext0 G.fok x (.inr ⟨a, rfl, h3⟩)
    cases t with
    | lst ts =>
      obtain ⟨vs, k1, k2⟩ := h3
      exact ⟨vs, x.at_ a _ (fun z => z) k1 (nt_lst _), RepL.ext G.fok (x.mono fun _ z => z.elim) ts vs k2⟩
    | dic ks ts =>
      obtain ⟨vs, k1, hl, k2⟩ := h3
      exact ⟨vs, x.at_ a _ (fun z => z) k1 (nt_dK _), hl, RepL.ext G.fok (x.mono fun _ z => z.elim) ts vs k2⟩
    | _ => exact h3.elim
  plain := fun i t hi h => by
    obtain ⟨v, h1, h2⟩ := G.plain i t hi h
    exact ⟨v, h1, Rep.ext G.fok (x.mono fun _ z => z.elim) t v h2⟩
  odom := G.odom
  ona := G.ona
  oni := G.oni
  kp := G.kp
  j0 := G.j0
  ext := G.ext.trans (x.mono fun _ z => z.elim)
theorem FreshV.back {C : Ct} {F : Fb} {v : V} (th : ∀ a, H1 a = none → H a = none) : ∀ {t : T}, FreshV C F H1 t v H' → FreshV C F H t v H'
  | .lst ts, ⟨a, e, hn, h⟩ => ⟨a, e, th a hn, h⟩
  | .dic ks ts, ⟨a, e, hn, h⟩ => ⟨a, e, th a hn, h⟩
  | .non, _ | .bl _, _ | .int _, _ | .str _, _ | .glo _, _ | .tup _, _ | .scr _, _ | .exc .., _ => trivial
theorem FreshV.at {C : Ct} {F : Fb} {v : V} {a : Addr} : ∀ {t : T}, FreshV C F H t v H' → isLD t = true → v = .ref a → H a = none ∧ (∀ o, H' a = some o → (∃ vs, o = .lst vs) ∨ ∃ kvs, o = .dK kvs) ∧ H' a ≠ none
  | .lst ts, ⟨b, e, hn, vs, h, _⟩, _, ea => by
    rw [e] at ea
    cases ea
    exact ⟨hn, fun o eo => .inl ⟨vs, by rw [h] at eo; cases eo; rfl⟩, fun z => by rw [h] at z; cases z⟩
  | .dic ks ts, ⟨b, e, hn, vs, h, _⟩, _, ea => by
    rw [e] at ea
    cases ea
    exact ⟨hn, fun o eo => .inr ⟨_, by rw [h] at eo; cases eo; rfl⟩, fun z => by rw [h] at z; cases z⟩
  | .non, _, z, _ | .bl _, _, z, _ | .int _, _, z, _ | .str _, _, z, _ | .glo _, _, z, _ | .tup _, _, z, _ | .scr _, _, z, _ | .exc .., _, z, _ => by cases z
theorem Fo_plus {a : Addr} (b : Addr) (h : Fo (p.plus a).F0 O b) : Fo p.F0 O b ∨ b = a := by
  rcases h with (h | h) | h
  · exact .inl (.inl h)
  · exact .inr h
  · exact .inl (.inr h)
theorem Rep.plus {a : Addr} (hn : H a = none) {v : V} (h : Rep p.C (Fo p.F0 O) H t v) : Rep p.C (Fo (p.plus a).F0 O) H t v := Rep.imp (fun b nb z => by
  rcases Fo_plus b z with z | z
  · exact z
  · rw [z] at nb; exact (nb hn).elim) t v h
theorem RepL.plus {a : Addr} (hn : H a = none) {ts : List T} {vs : List V} (h : RepL p.C (Fo p.F0 O) H ts vs) : RepL p.C (Fo (p.plus a).F0 O) H ts vs := RepL.imp (fun b nb z => by
  rcases Fo_plus b z with z | z
  · exact z
  · rw [z] at nb; exact (nb hn).elim) ts vs h
theorem Top.plus {a b : Addr} (hn : H a = none) : ∀ {t : T}, Top p.C (Fo p.F0 O) H b t → Top p.C (Fo (p.plus a).F0 O) H b t
  | .lst ts, ⟨vs, h1, h2⟩ => ⟨vs, h1, h2.plus hn⟩
  | .dic ks ts, ⟨vs, h1, hl, h2⟩ => ⟨vs, h1, hl, h2.plus hn⟩
theorem FOk.plus {a : Addr} (f : FOk (Fo p.F0 O) H) (hn : H a = none) : FOk (Fo (p.plus a).F0 O) H := fun b o z e => by
  rcases Fo_plus b z with z | z
  · exact f b o z e
  · rw [z, hn] at e; cases e
theorem Top.ext0 {C : Ct} {F : Fb} {a : Addr} (f : FOk F H) (x : Ext C (fun _ => False) H H') : ∀ {t : T}, Top C F H a t → Top C F H' a t
  | .lst ts, ⟨vs, h1, h2⟩ => ⟨vs, x.at_ a _ (fun z => z) h1 (nt_lst _), RepL.ext f (x.mono fun _ z => z.elim) ts vs h2⟩
  | .dic ks ts, ⟨vs, h1, hl, h2⟩ => ⟨vs, x.at_ a _ (fun z => z) h1 (nt_dK _), hl, RepL.ext f (x.mono fun _ z => z.elim) ts vs h2⟩
/-- a new list or dict, nobody's yet -/
theorem Gd.plus_ext {a : Addr} (G : Gd p O τ σ H) (x : Ext p.C (fun _ => False) H H') (hn : H a = none) (hb : ∀ o, H' a = some o → (∃ vs, o = .lst vs) ∨ ∃ kvs, o = .dK kvs) (hs : H' a ≠ none) : Gd (p.plus a) O τ σ H' where
  len := G.len
  fok := fun b o z e => by
    rcases Fo_plus b z with z | z
    · exact (G.ext0 x).fok b o z e
    · rw [z] at e; exact hb o e
  ftr := fun b z => by
    rcases Fo_plus b z with z | z
    · exact (G.ext0 x).ftr b z
    · rw [z]; exact hs
  own := fun i t hi h => by
    obtain ⟨b, h1, h2, h3⟩ := G.own i t hi h
    exact ⟨b, h1, h2, Top.ext0 (G.fok.plus hn) x (h3.plus hn)⟩
  plain := fun i t hi h => by
    obtain ⟨v, h1, h2⟩ := G.plain i t hi h
    exact ⟨v, h1, Rep.ext (G.fok.plus hn) (x.mono fun _ z => z.elim) t v (h2.plus hn)⟩
  odom := fun i b h => by
    obtain ⟨h1, h2, h3⟩ := G.odom i b h
    refine ⟨h1, fun z => ?_, h3⟩
    rcases z with z | z
    · exact h2 z
    · exact G.ftr b (.inr ⟨i, h⟩) (by rw [z]; exact hn)
  ona := G.ona
  oni := G.oni
  kp := G.kp
  j0 := G.j0
  ext := G.ext.trans (x.mono fun _ z => z.elim)
theorem gives_of {q : Bool} (hb : isBor c = false) (hq : quiet c = q) (G2 : Gd p O τ σ H2) (X2 : Ext p.C (qF p O q) H H2)
    (k : ∀ v H', Gd p O τ σ H' → Ext p.C (qF p O (quiet c)) H H' → PV p O τ σ c H t v H' → WF H' → Q v H') : Gives p.C (Fo p.F0 O) H2 t fun v H' => WF H' → Q v H' := fun v H' x r f w =>
  k v H' (G2.ext0 x) (by rw [hq]; exact X2.trans (ext_any x)) ⟨fun _ => r, .inl r, (fun _ => f.back X2.th), fun _ hl a ea => by
    obtain ⟨hn, hb, hs⟩ := f.at hl ea
    exact G2.plus_ext x hn hb hs⟩ w
theorem ev_one {g : T → Tau → Rs β} {k : β → Tau → Prop} {R : V → Hp → Prop} (G0 : Gd p O τ σ H)
    (h : Ob p O σ H ((evE ca τ).bind g) k)
    (hR : ∀ x τ1 v H1, Gd p O τ1 σ H1 → Ext p.C (qF p O (quiet ca)) H H1 → PV p O τ1 σ ca H x v H1 → WF H1 → Ob p O σ H (g x τ1) k → R v H1) : tEv p ca σ H R :=
  ⟨O, τ, G0, h.bind.mono fun x τ1 h1 v H1 G1 X1 P1 W1 => hR x τ1 v H1 G1 X1 P1 W1 h1⟩
/-- a value that is there -/
theorem pv_at (hb : isBor c = false) (hf : fresh c = false) {v : V} (r : Rep p.C (Fo p.F0 O) H t v) : PV p O τ σ c H t v H := ⟨fun _ => r, .inl r, (fun z => by rw [hf] at z; cases z), fun z => by rw [hf] at z; cases z⟩
end

section
variable {X : Cx} {p : Px} {a b e : Expr} {es : List Expr} {c ca cb cc : E} {pos : Pos}
/-! ### names, constants -/
theorem sn_var {i : Nat} {x : Str} (hN : X.N[i]? = some x) (hv : Vis X.env.scope x) (hM : i ∉ p.M) (hd : (x == ("__debug__" : Str)) = false := by decide) (hcd : (x == ("__classdict__" : Str)) = false := by decide) :
    PE X (.Name x pos) (tEv p (.var i)) := pe_imp (pe_var hN hv hd hcd) fun σ H Q w ⟨O, τ, G, h⟩ => by
  unfold evE at h
  split at h
  · rename_i t e
    obtain ⟨v, h1, h2⟩ := G.plain i t hM e
    exact ⟨v, h1, fun _ => h v H G (Ext.refl _ _ _) (pv_at rfl rfl h2) w⟩
  · exact h.elim
theorem sn_bor {i : Nat} {x : Str} (hN : X.N[i]? = some x) (hv : Vis X.env.scope x) (hM : i ∈ p.M) (hd : (x == ("__debug__" : Str)) = false := by decide) (hcd : (x == ("__classdict__" : Str)) = false := by decide) :
    PE X (.Name x pos) (tEv p (.bor i)) := pe_imp (pe_var hN hv hd hcd) fun σ H Q w ⟨O, τ, G, h⟩ => by
  unfold evE at h
  split at h
  · rename_i t e
    obtain ⟨a, h0, h1, h2⟩ := G.own i t hM e
    exact ⟨.ref a, h1, fun _ => h (.ref a) H G (Ext.refl _ _ _) ⟨(fun z => by cases z), .inr ⟨a, rfl, h2⟩, (fun z => by cases z), (fun z => by cases z)⟩ w⟩
  · exact h.elim
theorem sn_cst {t : T} {v : V} (h0 : PE X e (tC v)) (r : ∀ F H, Rep p.C F H t v) : PE X e (tEv p (.cst t)) := pe_imp h0 fun σ H Q w ⟨O, τ, G, h⟩ => fun _ => h v H G (Ext.refl _ _ _) (pv_at rfl rfl (r _ _)) w
theorem sn_int {i : Int} {j} : PE X (.Constant (.int i) j pos) (tEv p (.cst (.int i))) := sn_cst pe_int fun _ _ => rfl
theorem sn_bl {i : Bool} {j} : PE X (.Constant (.bool i) j pos) (tEv p (.cst (.bl i))) := sn_cst pe_bl fun _ _ => rfl
theorem sn_str {i : Str} {j} : PE X (.Constant (.str i) j pos) (tEv p (.cst (.str i))) := sn_cst pe_str fun _ _ => rfl
theorem sn_non {j} : PE X (.Constant .none j pos) (tEv p (.cst .non)) := sn_cst pe_non fun _ _ => rfl
/-- a def, a class as a value -/
theorem sn_glo {x : Str} {f : Addr} (hC : p.C.mg = X.mg) (hg : Gl X x) (hm : X.mg x = some (.ref f)) (hd : (x == ("__debug__" : Str)) = false := by decide) : PE X (.Name x pos) (tEv p (.cst (.glo x))) :=
  sn_cst (pe_glob hg hm (v := .ref f) rfl hd) fun _ _ => ⟨f, by rw [hC]; exact hm, rfl⟩
/-! ### arguments, displays -/
theorem sa_nil : PA X [] (tAv p .nil) := pa_imp pa_nil fun σ H Q w ⟨O, τ, G, h⟩ => fun _ => h [] H G (Ext.refl _ _ _) rfl w
theorem sa_cons {cr : E} (ha : PE X e (tEv p ca)) (hr : PA X es (tAv p cr)) (hb : isBor ca = false := by rfl) (hs : starEach (e :: es) X.env = (false, eval e X.env) :: starEach es X.env := by rfl) : PA X (e :: es) (tAv p (.cons ca cr)) :=
  pa_imp (pa_cons ha hr hs) fun σ H Q w ⟨O, τ, G, h⟩ => by
    unfold evA at h
    refine ev_one G h fun x τ1 v H1 G1 X1 P1 W1 h1 => ⟨O, τ1, G1, (h1.bind.at (ext_q X1)).mono fun xs τ2 h2 vs H2 G2 X2 P2 W2 => fun _ => ?_⟩
    exact h2 (v :: vs) H2 G2 (ext_q2 rfl X1 X2) ⟨v, vs, rfl, Rep.ext G1.fok (ext_q X2) x v (P1.rep hb), P2⟩ W2
theorem av_get {p : Px} {O : Ow} {τ : Tau} {σ : L2.St} {H : Hp} {β : Type} {g : List T → Tau → Rs β} {k : β → Tau → Prop} {R : List V → Hp → Prop} (G0 : Gd p O τ σ H)
    (h : Ob p O σ H ((evA ca τ).bind g) k)
    (hR : ∀ xs τ1 vs H1, Gd p O τ1 σ H1 → Ext p.C (qF p O (quiet ca)) H H1 → RepL p.C (Fo p.F0 O) H1 xs vs → WF H1 → Ob p O σ H (g xs τ1) k → R vs H1) : tAv p ca σ H R :=
  ⟨O, τ, G0, h.bind.mono fun x τ1 h1 v H1 G1 X1 P1 W1 => hR x τ1 v H1 G1 X1 P1 W1 h1⟩
theorem Ob.lim {p : Px} {O : Ow} {σ : L2.St} {H : Hp} {β : Type} {n : Nat} {r : Rs β} {k : β → Tau → Prop} (h : Ob p O σ H (lim n r) k) : n ≤ sizeLine ∧ Ob p O σ H r k := by
  unfold Tm.lim at h
  split at h
  · exact ⟨by rw [sizeLine16]; assumption, h⟩
  · exact h.elim
theorem sn_tup {x1} (ha : PA X es (tAv p ca)) : PE X (.Tuple es x1 pos) (tEv p (.tup ca)) := pe_imp (pe_tup ha) fun σ H Q w ⟨O, τ, G, h⟩ => by
  unfold evE at h
  refine av_get G h fun xs τ1 vs H1 G1 X1 P1 W1 h1 => ?_
  obtain ⟨hl, h1⟩ := h1.lim
  exact ⟨by rw [P1.length]; exact hl, fun q hq => (gives_of (c := .tup ca) rfl rfl G1 X1 h1).tup G1.ft P1 hq⟩
theorem sn_lst (ha : PA X es (tAv p ca)) : PE X (.List es pos) (tEv p (.lst ca)) := pe_imp (pe_lst ha) fun σ H Q w ⟨O, τ, G, h⟩ => by
  unfold evE at h
  refine av_get G h fun xs τ1 vs H1 G1 X1 P1 W1 h1 => ?_
  obtain ⟨hl, h1⟩ := h1.lim
  exact ⟨by rw [P1.length]; exact hl, fun q hq => (gives_of (c := .lst ca) rfl rfl G1 X1 h1).lst G1.ft P1 hq⟩
/-! ### operators -/
def rBx (C : Ct) (f : T → T → Option T) : R2 := fun x y H Q => ∃ F, rB C F f x y H Q
theorem opx {f : Value → Value → Sem Value} {C : Ct} {g : T → T → Option T} (h : ∀ F, OpR X f (rB C F g)) : OpR X f (rBx C g) := fun pins s σ H x y v u Q I rx ry ⟨F, q⟩ => h F pins s σ H x y v u Q I rx ry q
theorem sn_bin {op : Operator} {o : Op} (ho : ∀ F, OpR X (binaryOp op) (rB p.C F (binT o))) (ha : PE X a (tEv p ca)) (hb : PE X b (tEv p cb)) (hq : isBor ca = false ∨ quiet cb = true := by first | exact .inl rfl | exact .inr rfl) :
    PE X (.BinOp a op b pos) (tEv p (.bin o ca cb)) := pe_imp (pe_op (opx ho) ha hb) fun σ H Q w ⟨O, τ, G, h⟩ => by
  unfold evE at h
  refine ev_two hq G h fun x y τ2 v u H2 G2 X2 rx ry W2 h2 => ?_
  obtain ⟨t, e, k⟩ := h2.ofO
  exact ⟨_, x, y, t, G2.ft, rx, ry, e, gives_of (c := .bin o ca cb) rfl rfl G2 X2 k⟩
theorem sn_cmp {op : CmpOp} {o : Cp} (ho : ∀ F, OpR X (compareOp op) (rB p.C F fun x y => (cmpT o x y).map .bl)) (ha : PE X a (tEv p ca)) (hb : PE X b (tEv p cb)) (hq : isBor ca = false ∨ quiet cb = true := by first | exact .inl rfl | exact .inr rfl)
    (hm : behindInMarks op b = false := by first | exact nomark _ | rfl) : PE X (.Compare a [op] [b] pos) (tEv p (.cmp o ca cb)) := pe_imp (pe_cmpR (opx ho) ha hb hm) fun σ H Q w ⟨O, τ, G, h⟩ => by
  unfold evE at h
  refine ev_two hq G h fun x y τ2 v u H2 G2 X2 rx ry W2 h2 => ?_
  obtain ⟨t, e, k⟩ := h2.ofO
  exact ⟨_, x, y, t, G2.ft, rx, ry, e, gives_of (c := .cmp o ca cb) rfl rfl G2 X2 k⟩
theorem tv_cmp {op : CmpOp} {o : Cp} (ho : ∀ F, OpR X (compareOp op) (rB p.C F fun x y => (cmpT o x y).map .bl)) (ha : PE X a (tEv p ca)) (hb : PE X b (tEv p cb)) (hq : isBor ca = false ∨ quiet cb = true := by first | exact .inl rfl | exact .inr rfl)
    (hm : behindInMarks op b = false := by first | exact nomark _ | rfl) : PT X (.Compare a [op] [b] pos) (tCv p (.cmp o ca cb)) := pt_imp (pt_cmpR (opx ho) ha hb hm) fun σ H Q w ⟨O, τ, G, h⟩ => by
  have h := h.bind
  unfold evE at h
  refine ev_two hq G h fun x y τ2 v u H2 G2 X2 rx ry W2 h2 => ?_
  obtain ⟨t, e, k⟩ := h2.ofO
  obtain ⟨bb, e1, e2⟩ := Option.map_eq_some_iff.mp e
  subst e2
  exact ⟨_, x, y, .bl bb, G2.ft, rx, ry, e, fun v' H' x' r' f' => ⟨bb, r', fun w' => k H' (G2.ext0 x') (X2.trans (ext_any x')) w'⟩⟩
end
end Tm

end

section
set_option linter.all false
set_option maxRecDepth 100000
set_option maxHeartbeats 4000000
namespace Tm
open PySem PySem.Spec PyProof.Rows L2

section
variable {C : Ct} {F : Fb} {H : Hp}
mutual
theorem dp_of : ∀ {t : T} {d : PyData} {v : V}, toD t = some d → RepB C F H t v → Dp C.K H v d
  | .non, d, v, e, h => by cases e; rw [h.non]; exact .non
  | .bl b, d, v, e, h => by cases e; rw [h.bl]; exact .bl b
  | .int i, d, v, e, h => by cases e; rw [h.int]; exact .int i
  | .str x, d, v, e, h => by cases e; rw [h.str]; exact .str x
  | .tup ts, d, v, e, h => by
    unfold toD at e
    obtain ⟨ds, e1, rfl⟩ := Option.map_eq_some_iff.mp e
    obtain ⟨a, vs, rfl, h1, h2⟩ := h.tup
    exact .tup h1 (dpAll_of e1 h2)
  | .lst ts, d, v, e, h => by
    unfold toD at e
    obtain ⟨ds, e1, rfl⟩ := Option.map_eq_some_iff.mp e
    obtain ⟨a, vs, rfl, h1, h2⟩ := h.lst
    exact .lst (SqL.of h1) (dpAll_of e1 h2)
  | .glo _, d, v, e, h => by cases e
  | .scr _, d, v, e, h => by cases e
  | .dic _ _, d, v, e, h => by cases e
  | .exc _ _ _ _, d, v, e, h => by cases e
theorem dpAll_of : ∀ {ts : List T} {ds : List PyData} {vs : List V}, toDL ts = some ds → RepL C F H ts vs → DpAll C.K H vs ds
  | [], ds, vs, e, h => by cases e; rw [show vs = [] from h]; exact .nil
  | t :: ts, ds, vs, e, h => by
    obtain ⟨v, r, rfl, h1, h2⟩ := h
    unfold toDL at e
    split at e
    · rename_i d ds' e1 e2
      cases e
      exact .cons (dp_of e1 (.inl h1)) (dpAll_of e2 h2)
    · cases e
end
theorem flat_of {t : T} {d v : V} (e : flatT t = some d) (h : RepB C F H t v) : v = d ∧ flatV d = true := by
  unfold flatT at e
  split at e <;> cases e
  · exact ⟨h.non, rfl⟩
  · exact ⟨h.bl, rfl⟩
  · exact ⟨h.int, rfl⟩
  · exact ⟨h.str, rfl⟩
theorem flatL_of : ∀ {ts : List T} {ds vs : List V}, flatTL ts = some ds → RepL C F H ts vs → vs = ds ∧ ds.all flatV = true
  | [], ds, vs, e, h => by cases e; rw [show vs = [] from h]; exact ⟨rfl, rfl⟩
  | t :: ts, ds, vs, e, h => by
    obtain ⟨v, r, rfl, h1, h2⟩ := h
    unfold flatTL at e
    split at e
    · rename_i d ds' e1 e2
      cases e
      obtain ⟨rfl, f1⟩ := flat_of e1 (.inl h1)
      obtain ⟨rfl, f2⟩ := flatL_of e2 h2
      exact ⟨rfl, by rw [List.all_cons, f1, f2]; rfl⟩
    · cases e
end
section
variable {X : Cx} {C : Ct} {F : Fb}
theorem op_eq_t (hK : C.K = X.K) (hu : X.A.units + 64 < cLine) : OpR X (compareOp .Eq) (rB C F fun x y => (cmpT .eq x y).map .bl) := by
  intro pins s σ H x y v u Q I rx ry ⟨tx, ty, t, ft, hx, hy, e, g⟩
  obtain ⟨b, e', rfl⟩ := Option.map_eq_some_iff.mp e
  replace e := e'
  replace e : eqD tx ty = some b := e
  unfold eqD at e
  split at e
  · rename_i d d2 e1 e2
    split at e <;> cases e
    rename_i hs
    simp only [Bool.and_eq_true] at hs
    exact op_eqD hu pins s σ H x y v u Q I rx ry ⟨d, d2, hK ▸ dp_of e1 hx, hK ▸ dp_of e2 hy, hs.1, hs.2, g.bl⟩
  · cases e
theorem op_ne_t (hK : C.K = X.K) (hu : X.A.units + 64 < cLine) : OpR X (compareOp .NotEq) (rB C F fun x y => (cmpT .ne x y).map .bl) := by
  intro pins s σ H x y v u Q I rx ry ⟨tx, ty, t, ft, hx, hy, e, g⟩
  obtain ⟨b0, e', rfl⟩ := Option.map_eq_some_iff.mp e
  replace e := e'
  replace e : (eqD tx ty).map (!·) = some b0 := e
  obtain ⟨b, e9, rfl⟩ := Option.map_eq_some_iff.mp e
  clear e
  replace e := e9
  unfold eqD at e
  split at e
  · rename_i d d2 e1 e2
    split at e <;> cases e
    rename_i hs
    simp only [Bool.and_eq_true] at hs
    exact op_neD hu pins s σ H x y v u Q I rx ry ⟨d, d2, hK ▸ dp_of e1 hx, hK ▸ dp_of e2 hy, hs.1, hs.2, g.bl⟩
  · cases e
theorem int_cmp {o : Cp} {op : CmpOp} {f : Int → Int → Bool} (h : OpR X (compareOp op) (rI0 fun i j => .bl (f i j))) (hc : ∀ x y b, cmpT o x y = some b → ∃ i j, x = .int i ∧ y = .int j ∧ b = f i j) :
    OpR X (compareOp op) (rB C F fun x y => (cmpT o x y).map .bl) := by
  intro pins s σ H x y v u Q I rx ry ⟨tx, ty, t, ft, hx, hy, e, g⟩
  obtain ⟨b, e', rfl⟩ := Option.map_eq_some_iff.mp e
  obtain ⟨i, j, rfl, rfl, rfl⟩ := hc _ _ _ e'
  exact h pins s σ H x y v u Q I rx ry ⟨i, j, hx.int, hy.int, g.bl⟩
theorem op_lt_t : OpR X (compareOp .Lt) (rB C F fun x y => (cmpT .lt x y).map .bl) := int_cmp op_lt fun x y b e => by
  unfold cmpT at e
  split at e <;> (try (cases ‹Cp.lt = _›)) <;> (try (cases e; done))
  cases e
  exact ⟨_, _, rfl, rfl, rfl⟩
theorem op_le_t : OpR X (compareOp .LtE) (rB C F fun x y => (cmpT .le x y).map .bl) := int_cmp op_le fun x y b e => by
  unfold cmpT at e
  split at e <;> (try (cases ‹Cp.le = _›)) <;> (try (cases e; done))
  cases e
  exact ⟨_, _, rfl, rfl, rfl⟩
theorem op_gt_t : OpR X (compareOp .Gt) (rB C F fun x y => (cmpT .gt x y).map .bl) := int_cmp op_gt fun x y b e => by
  unfold cmpT at e
  split at e <;> (try (cases ‹Cp.gt = _›)) <;> (try (cases e; done))
  cases e
  exact ⟨_, _, rfl, rfl, rfl⟩
theorem op_ge_t : OpR X (compareOp .GtE) (rB C F fun x y => (cmpT .ge x y).map .bl) := int_cmp op_ge fun x y b e => by
  unfold cmpT at e
  split at e <;> (try (cases ‹Cp.ge = _›)) <;> (try (cases e; done))
  cases e
  exact ⟨_, _, rfl, rfl, rfl⟩
theorem inF_of {H : Hp} {tx : T} {ys : List T} {b : Bool} {v : V} {ws : List V} (e : inF tx ys = some b) (h : RepB C F H tx v) (hl : RepL C F H ys ws) : flatV v = true ∧ ws.all flatV = true ∧ b = inV v ws := by
  unfold inF at e
  split at e
  · rename_i d ds e1 e2
    cases e
    obtain ⟨rfl, f1⟩ := flat_of e1 h
    obtain ⟨rfl, f2⟩ := flatL_of e2 hl
    exact ⟨f1, f2, rfl⟩
  · cases e
theorem op_in_t (hK : C.K = X.K) : OpR X (compareOp .In) (rB C F fun x y => (cmpT .isin x y).map .bl) := by
  intro pins s σ H x y v u Q I rx ry ⟨tx, ty, t, ft, hx, hy, e, g⟩
  obtain ⟨b0, e', rfl⟩ := Option.map_eq_some_iff.mp e
  replace e := e'
  unfold cmpT at e
  split at e <;> (try (cases ‹Cp.isin = _›)) <;> (try (cases e; done))
  · obtain ⟨a, vs, rfl, h1, h2⟩ := hy.lst
    obtain ⟨f1, f2, rfl⟩ := inF_of e hx h2
    exact op_in_seq pins s σ H x _ v u Q I rx ry ⟨a, vs, rfl, .inl (SqL.of h1), f1, f2, g.bl⟩
  · obtain ⟨a, vs, rfl, h1, h2⟩ := hy.tup
    obtain ⟨f1, f2, rfl⟩ := inF_of e hx h2
    exact op_in_seq pins s σ H x _ v u Q I rx ry ⟨a, vs, rfl, .inr (hK ▸ h1), f1, f2, g.bl⟩
theorem op_notin_t (hK : C.K = X.K) : OpR X (compareOp .NotIn) (rB C F fun x y => (cmpT .notin x y).map .bl) := by
  intro pins s σ H x y v u Q I rx ry ⟨tx, ty, t, ft, hx, hy, e, g⟩
  obtain ⟨b0, e', rfl⟩ := Option.map_eq_some_iff.mp e
  replace e := e'
  unfold cmpT at e
  split at e <;> (try (cases ‹Cp.notin = _›)) <;> (try (cases e; done))
  · obtain ⟨b, e9, rfl⟩ := Option.map_eq_some_iff.mp e
    clear e
    replace e := e9
    obtain ⟨a, vs, rfl, h1, h2⟩ := hy.lst
    obtain ⟨f1, f2, rfl⟩ := inF_of e hx h2
    exact op_notIn_seq pins s σ H x _ v u Q I rx ry ⟨a, vs, rfl, .inl (SqL.of h1), f1, f2, g.bl⟩
  · obtain ⟨b, e9, rfl⟩ := Option.map_eq_some_iff.mp e
    clear e
    replace e := e9
    obtain ⟨a, vs, rfl, h1, h2⟩ := hy.tup
    obtain ⟨f1, f2, rfl⟩ := inF_of e hx h2
    exact op_notIn_seq pins s σ H x _ v u Q I rx ry ⟨a, vs, rfl, .inr (hK ▸ h1), f1, f2, g.bl⟩
theorem non_iff {H : Hp} : ∀ {t : T} {v : V}, RepB C F H t v → (decide (v = .non) = match t with | .non => true | _ => false)
  | .non, v, h => by rw [h.non]; rfl
  | .bl _, v, h => by rw [h.bl]; rfl
  | .int _, v, h => by rw [h.int]; rfl
  | .str _, v, h => by rw [h.str]; rfl
  | .tup _, v, h => by obtain ⟨a, vs, rfl, _⟩ := h.tup; rfl
  | .lst _, v, h => by obtain ⟨a, vs, rfl, _⟩ := h.lst; rfl
  | .scr _, v, h => by obtain ⟨a, vs, rfl, _⟩ := h.scr; rfl
  | .dic _ _, v, h => by obtain ⟨a, vs, rfl, _⟩ := h.dic; rfl
  | .glo x, v, h => by
    obtain ⟨a, _, rfl⟩ := (h.flat fun _ z => z : Rep C F H (.glo x) v)
    rfl
  | .exc c f m t, v, h => by
    obtain ⟨a, Cl, d, t1, w, rfl, _⟩ := (h.flat fun _ z => z : Rep C F H (.exc c f m t) v)
    rfl
theorem op_isN_t : OpR X (compareOp .Is) (rB C F fun x y => (cmpT .isN x y).map .bl) := by
  intro pins s σ H x y v u Q I rx ry ⟨tx, ty, t, ft, hx, hy, e, g⟩
  obtain ⟨b, e', rfl⟩ := Option.map_eq_some_iff.mp e
  replace e := e'
  have hn := non_iff hx
  have hb : ty = .non ∧ b = decide (x = .non) := by
    unfold cmpT at e
    split at e <;> (try (cases ‹Cp.isN = _›)) <;> (try (cases e; done))
    · cases e; exact ⟨rfl, by rw [hn]⟩
    · cases e
      refine ⟨rfl, ?_⟩
      rw [hn]
      split
      · simp_all
      · rfl
  obtain ⟨rfl, rfl⟩ := hb
  exact op_isN pins s σ H x y v u Q I rx ry ⟨hy.non, g.bl⟩
theorem op_notN_t : OpR X (compareOp .IsNot) (rB C F fun x y => (cmpT .notN x y).map .bl) := by
  intro pins s σ H x y v u Q I rx ry ⟨tx, ty, t, ft, hx, hy, e, g⟩
  obtain ⟨b, e', rfl⟩ := Option.map_eq_some_iff.mp e
  replace e := e'
  have hn := non_iff hx
  have hb : ty = .non ∧ b = !decide (x = .non) := by
    unfold cmpT at e
    split at e <;> (try (cases ‹Cp.notN = _›)) <;> (try (cases e; done))
    · cases e; exact ⟨rfl, by rw [hn]; rfl⟩
    · cases e
      refine ⟨rfl, ?_⟩
      rw [hn]
      split
      · simp_all
      · rfl
  obtain ⟨rfl, rfl⟩ := hb
  exact op_notN pins s σ H x y v u Q I rx ry ⟨hy.non, g.bl⟩
end

theorem qF_l {p : Px} {O : Ow} {a b : Bool} (x : Addr) (h : qF p O a x) : qF p O (a && b) x := by
  cases a with
  | false => exact h
  | true => exact h.elim
theorem qF_r {p : Px} {O : Ow} {a b : Bool} (x : Addr) (h : qF p O b x) : qF p O (a && b) x := by
  cases a with
  | false => exact qF_oo x h
  | true => exact h
/-! ### truth, tests -/
section
variable {X : Cx} {p : Px} {a b e : Expr} {es rest : List Expr} {c ca cb cc : E} {pos : Pos}
theorem tru_of {C : Ct} {F : Fb} {H : Hp} {t : T} {v : V} {k : Bool} (w : WF H) (e : truT t = some k) (h : RepB C F H t v) : TruV C.K v H k := by
  unfold truT at e
  split at e <;> cases e
  · rw [h.non]; exact rfl
  · rw [h.bl]; exact rfl
  · rw [h.int]; exact rfl
  · obtain ⟨a, vs, rfl, h1, h2⟩ := h.lst
    refine .inl ⟨vs, SqL.of h1, ?_⟩
    have := h2.nil_iff
    cases vs <;> simp_all
  · obtain ⟨a, vs, rfl, h1, h2⟩ := h.tup
    refine .inr (.inl ⟨vs, h1, ?_⟩)
    have := h2.nil_iff
    cases vs <;> simp_all
theorem tv_gen (hK : p.C.K = X.K) (ha : PE X a (tEv p ca)) (he : ∀ whole, isTrue a X.env whole = (do let v ← whole; standAt a.pos; holding [v] (truthy v)) := by intro _; rfl) : PT X a (tCv p ca) :=
  pt_imp (pt_truth ha he) fun σ H Q w ⟨O, τ, G, h⟩ => ev_one G h fun x τ1 v H1 G1 X1 P1 W1 h1 => by
    obtain ⟨k, e, q⟩ := h1.ofO
    exact ⟨k, hK ▸ tru_of W1 e P1.bor, fun w' => q H1 G1 X1 w'⟩
theorem cv_one {p : Px} {O : Ow} {τ : Tau} {σ : L2.St} {H : Hp} {β : Type} {g : Bool → Tau → Rs β} {k : β → Tau → Prop} {R : Bool → Hp → Prop} (G0 : Gd p O τ σ H)
    (h : Ob p O σ H (((evE ca τ).bind fun x τ => ofO (truT x) τ).bind g) k)
    (hR : ∀ x τ1 H1, Gd p O τ1 σ H1 → Ext p.C (qF p O (quiet ca)) H H1 → WF H1 → Ob p O σ H (g x τ1) k → R x H1) : tCv p ca σ H R :=
  ⟨O, τ, G0, h.bind.mono fun x τ1 h1 H1 G1 X1 W1 => hR x τ1 H1 G1 X1 W1 h1⟩
theorem Rs.bind_assoc {α β γ : Type} (r : Rs α) (f : α → Tau → Rs β) (g : β → Tau → Rs γ) : (r.bind f).bind g = r.bind fun a τ => (f a τ).bind g := by
  cases r <;> rfl
theorem ofO_map {α β γ : Type} (o : Option α) (f : α → β) (g : β → Tau → Rs γ) (τ : Tau) : (ofO (o.map f) τ).bind g = (ofO o τ).bind fun a τ => g (f a) τ := by
  cases o <;> rfl
theorem truT_not (c : E) (τ : Tau) : ((evE (.not c) τ).bind fun x τ => ofO (truT x) τ) = ((evE c τ).bind fun x τ => ofO (truT x) τ).bind fun b τ => .ok (!b) τ := by
  rw [evE, Rs.bind_assoc, Rs.bind_assoc]
  congr 1
  funext x τ
  rw [ofO_map]
  cases truT x <;> rfl
theorem tv_not (ha : PT X a (tCv p ca)) : PT X (.UnaryOp .Not a pos) (tCv p (.not ca)) := pt_imp (pt_not ha) fun σ H Q w ⟨O, τ, G, h⟩ => by
  rw [truT_not] at h
  exact cv_one G h fun b τ1 H1 G1 X1 W1 h1 => fun w' => h1 H1 G1 X1 w'
theorem truT_and (c d : E) (τ : Tau) : ((evE (.and c d) τ).bind fun x τ => ofO (truT x) τ) = ((evE c τ).bind fun x τ => ofO (truT x) τ).bind fun b τ => if b = true then (evE d τ).bind fun x τ => ofO (truT x) τ else .ok false τ := by
  rw [evE, Rs.bind_assoc, Rs.bind_assoc]
  congr 1
  funext x τ
  cases e : truT x with
  | none => rfl
  | some b => cases b <;> simp [ofO, Rs.bind, e]
theorem truT_or (c d : E) (τ : Tau) : ((evE (.or c d) τ).bind fun x τ => ofO (truT x) τ) = ((evE c τ).bind fun x τ => ofO (truT x) τ).bind fun b τ => if b = true then .ok true τ else (evE d τ).bind fun x τ => ofO (truT x) τ := by
  rw [evE, Rs.bind_assoc, Rs.bind_assoc]
  congr 1
  funext x τ
  cases e : truT x with
  | none => rfl
  | some b => cases b <;> simp [ofO, Rs.bind, e]
/-- a test among others -/
structure TW (X : Cx) (p : Px) (op : BoolOp) (es : List Expr) (c : E) : Prop where
  pw : ∀ pos, PW X (.BoolOp op es pos) (tCv p c)
theorem tw_one {op : BoolOp} (h : PT X a (tCv p ca)) : TW X p op [a] ca := ⟨fun pos => by cases op; exact pw_and1 h; exact pw_or1 h⟩
theorem pw_imp {e : Expr} {t u : TT} (h : PW X e t) (hi : ∀ σ H (Q : Bool → Hp → Prop), WF H → u σ H Q → t σ H fun v H' => WF H' → Q v H') : PW X e u :=
  ⟨fun whole pins s σ H Q I q => thn (h.run whole pins s σ H _ I (hi σ H Q (wf_of I) q)) fun _ _ ⟨H', I', q'⟩ => ⟨H', I', q' (wf_of I')⟩⟩
theorem tw_and (ha : PT X a (tCv p ca)) (hb : TW X p .And (b :: rest) cb) : TW X p .And (a :: b :: rest) (.and ca cb) := ⟨fun pos => pw_imp (pw_and ha (hb.pw pos)) fun σ H Q w ⟨O, τ, G, h⟩ => by
  rw [truT_and] at h
  refine cv_one G h fun k τ1 H1 G1 X1 W1 h1 => ?_
  cases k with
  | true =>
    rw [if_pos rfl] at h1 ⊢
    exact ⟨O, τ1, G1, (h1.at (ext_q X1)).mono fun k2 τ2 h2 H2 G2 X2 W2 => fun _ => h2 H2 G2 (ext_q2 rfl X1 X2) W2⟩
  | false =>
    rw [if_neg (by decide)] at h1 ⊢
    exact fun w' => h1 H1 G1 (X1.mono fun q z => qF_l q z) w'⟩
theorem tw_or (ha : PT X a (tCv p ca)) (hb : TW X p .Or (b :: rest) cb) : TW X p .Or (a :: b :: rest) (.or ca cb) := ⟨fun pos => pw_imp (pw_or ha (hb.pw pos)) fun σ H Q w ⟨O, τ, G, h⟩ => by
  rw [truT_or] at h
  refine cv_one G h fun k τ1 H1 G1 X1 W1 h1 => ?_
  cases k with
  | false =>
    rw [if_neg (by decide)] at h1 ⊢
    exact ⟨O, τ1, G1, (h1.at (ext_q X1)).mono fun k2 τ2 h2 H2 G2 X2 W2 => fun _ => h2 H2 G2 (ext_q2 rfl X1 X2) W2⟩
  | true =>
    rw [if_pos rfl] at h1 ⊢
    exact fun w' => h1 H1 G1 (X1.mono fun q z => qF_l q z) w'⟩
theorem tv_bool {op : BoolOp} (h : TW X p op es ca) : PT X (.BoolOp op es pos) (tCv p ca) := (h.pw pos).pt
/-- as values -/
theorem sn_not (hK : p.C.K = X.K) (ha : PE X a (tEv p ca)) : PE X (.UnaryOp .Not a pos) (tEv p (.not ca)) := pe_imp (pe_notT ha) fun σ H Q w ⟨O, τ, G, h⟩ => by
  unfold evE at h
  refine ev_one G h fun x τ1 v H1 G1 X1 P1 W1 h1 => ?_
  obtain ⟨t, e, k⟩ := h1.ofO
  obtain ⟨b, e9, rfl⟩ := Option.map_eq_some_iff.mp e
  exact ⟨b, hK ▸ tru_of W1 e9 P1.bor, (gives_of (c := .not ca) rfl rfl G1 X1 k).bl⟩
end
end Tm

end

section
set_option linter.all false
set_option maxRecDepth 100000
set_option maxHeartbeats 4000000
/-! exceptions of the program's own classes: made (their __init__ hands a text to the base's and stores one field), held as values, asked for their class, their field, their text -/
namespace Tm
open PySem PySem.Spec PyProof.Rows L2

/-- what the written part says of a class: B the built-in above it -/
structure EK (K : PySem.W.Frag) (C : Addr) (B newId initId : String) (bmB : List Value) : Prop where
  base : ExcBaseFacts B newId initId bmB
  store : PySem.StoreFacts B bmB "object.__setattr__" "object"
  q : PySem.W.excInitIn K C bmB newId = true
  hd : PySem.W.hasDictIn K C = true
  sa : PySem.W.findIn K (.ref C) "__setattr__" = some (some (.builtin "object.__setattr__"))
  kC : PySem.W.keepIn K (.ref C) = true
  exC : PySem.W.subIn K (.ref C) (.type "BaseException") = some true
  tyC : PySem.W.typeIn K (.ref C) = some (.type "type")
  ga : PySem.W.findIn K (.ref C) "__getattribute__" = some (some (.builtin "BaseException.__getattribute__"))
  gg : PySem.W.findIn K (.ref C) "__getattr__" = some none
  ca : PySem.W.findIn K (.ref C) "__class__" = some (some (.builtin "object.__class__"))
  cn : PySem.W.specialIn K (.builtin "object.__class__") "__get__" = some (some (.builtin "getset_descriptor.__get__"))
  ct : PySem.W.takesIn K (.builtin "object.__class__") = some true
  cm : PySem.W.mroIn K C (.type "object") = some true

section
variable {K : PySem.W.Frag} {C : Addr} {B newId initId : String} {bmB : List Value}
/-- the class's own record -/
theorem EK.data (T : EK K C B newId initId bmB) : ∃ cd : ClassData, PySem.W.clsIn K C = some cd ∧ cd.hasDict = true ∧ cd.mro.isEmpty = false ∧ (∀ self, refuseLoop self "__setattr__" cd.mro = pure ()) := by
  have h := T.q
  unfold PySem.W.excInitIn at h
  split at h
  · rename_i dd cd sl ho
    split at h
    · rename_i C' bm k0 k1 k2 k3 n k5 hm hs
      simp only [Bool.and_eq_true, beq_iff_eq] at h
      have hc : PySem.W.clsIn K C = some cd := by unfold PySem.W.clsIn; rw [ho]
      refine ⟨cd, hc, ?_, by rw [hm]; rfl, fun self => ?_⟩
      · have z := T.hd
        unfold PySem.W.hasDictIn at z
        rw [hc] at z
        exact z
      · rw [hm]
        rw [PySem.refuseLoop_ref]
        exact PySem.W.excTail_pass self (T.store.passes self) _ h.2
    · cases h
  · cases h
end

section
variable {prog : Program} {w : World} {A : Around} {E : Value → Shared → Prop} {R : Result → Shared → Prop} {hp : Heap} {g : Array GenState} {d : Drawn} {t : Nat} {os : OsState}
open Builtin Builtin.ObjectAttr
/-- the base's __init__: the arguments' tuple is new -/
theorem base_init {K : PySem.W.Frag} {B newId initId : String} {bmB : List Value} {C e t0 : Addr} {rest : List Value} (T : EK K C B newId initId bmB) (X : K.In hp) (he : hp.get? e = some (HandSPX.excO C t0))
    (hr : rest.length ≤ sizeLine)
    (k : ∀ h', (∀ b o, b ≠ e → hp.get? b = some o → h'.get? b = some o) → h'.get? hp.objs.size = some (PySem.W.kdv_tup rest) → h'.get? e = some (HandSPX.excO C hp.objs.size) → R (.ok (.ret .none)) ⟨h', g, d, t, os⟩) :
    codeAny (model prog w) A (.call (.builtin initId) ⟨.ref e :: rest, []⟩) R ⟨hp, g, d, t, os⟩ := by
  obtain ⟨nm, N, qn, bs, bm, hdct, sn, sub, ab, col, dd, k0, k1, k2, k3, k5, hC, hT⟩ := PySem.W.excInit_of X T.q
  have elt : e < hp.objs.size := Heap.lt_size he
  refine codeAny_call_builtin T.base.init.plain T.base.initEntry (HandSPX.check_init_own T.base hT hC he rfl ?_)
  wp_walk
  refine k _ (fun b o nb ho => ?_) ?_ ?_
  · exact (Heap.get?_update_other _ _ (Ne.symm nb)).trans (Heap.get?_push_of_some _ ho)
  · exact (Heap.get?_update_other _ _ (Nat.ne_of_lt elt)).trans (Heap.get?_push_at rfl rfl)
  · rw [Heap.get?_update_self _ (Heap.get?_push_of_some _ he) rfl]
    rfl
/-- the first field of an exception: it gets its dict -/
theorem first_field {K : PySem.W.Frag} {B newId initId : String} {bmB : List Value} {name : Str} {tk : Tok} {v : Value} {x C : Addr} {fv : Array Value} (T : EK K C B newId initId bmB) (X : K.In hp)
    (ex : hp.get? x = some { cls := .ref C, data := .fields fv }) (hno : PySem.W.findIn K (.ref C) name = some none)
    (k : ∀ h' tk' dx, (∀ b o, b ≠ x → hp.get? b = some o → h'.get? b = some o) → hp.objs.size ≤ dx → dx ≠ x → h'.get? x = some { cls := .ref C, dict := some dx, data := .fields fv } →
      h'.Ns1 dx (fun y => if y = name then some v else none) → R (.ok (.ret .none)) ⟨h', g, d, tk', os⟩) :
    codeAny (model prog w) A (.call (.builtin "object.__setattr__") ⟨[.ref x, .str name tk, v], []⟩) R ⟨hp, g, d, t, os⟩ := by
  obtain ⟨cd, hcd, hh, hne, hps⟩ := T.data
  have inst : PySem.W.InstAt hp x { cls := .ref C, data := .fields fv } C none := ⟨ex, rfl, rfl, trivial⟩
  have st := F.store_object
  have xlt : x ≠ hp.objs.size := Nat.ne_of_lt (Heap.lt_size ex)
  have isob : PySem.W.Looks (model prog w) hp (isInstance (.ref x) (.type "object")) true := inst.type.andThen (PySem.W.looks_mroIn X T.cm)
  have lmro : PySem.W.Looks (model prog w) hp (mroOf (.ref C)) cd.mro := (PySem.W.looks_clsIn X hcd).andThen .now
  have ltk : PySem.W.Looks (model prog w) hp (storeTaker? none) none := .now
  have lcd : PySem.W.Looks (model prog w) hp (classData C) cd := PySem.W.looks_clsIn X hcd
  refine codeAny_call_builtin st.slot.plain st.entry
    (@PySem.W.check_slot (model prog w) _ _ ⟨hp, g, d, t, os⟩ "object.__setattr__" "object" "__setattr__" (.ref x) [.str name tk, v] [] _ st.kind st.split isob (st.args (.ref x) (.str name tk) v) ?_)
  rw [PySem.W.osa_eq, PySem.refuse_eq]
  refine wpAny_bind (wpAny_bind (inst.type.at (wpAny_bind (lmro.at ?_))))
  rw [hps]
  refine wpAny_pure (wpAny_bind (inst.type.at (wpAny_bind ((PySem.W.looks_findIn X hno).at (wpAny_bind (ltk.at ?_))))))
  show wpAny _ _ (storeInOwnDict (.ref x) (.ref C) (.str name tk) name v false) _ _ _
  obtain ⟨c1, c2, c3, c4, c5, hd, c6, c7, c8, c9, c10⟩ := cd
  dsimp only at hh
  subst hh
  unfold storeInOwnDict ownDictForStores
  repeat (first | with_reducible refine HandSPX.store_in_new ?_ ?_ | with_reducible refine wpAny_loadPart_at ex ?_ | with_reducible refine lcd.at ?_ | wp_step)
  · exact ⟨_, #[], _, (Heap.get?_update_ne _ _ _ _ xlt.symm).trans (Heap.get?_push_at rfl rfl), rfl, fun e he => absurd he (by simp), fun _ => rfl⟩
  · intro h' tk' ns sb
    have ex1 : (hp.push { cls := .type "dict", data := .dict #[] }).get? x = some { cls := .ref C, data := .fields fv } := Heap.get?_push_of_some _ ex
    refine k h' tk' hp.objs.size (fun b o nb ho => ?_) (Nat.le_refl _) xlt.symm ?_ ns
    · exact (sb.2 b (Nat.ne_of_lt (Heap.lt_size ho))).trans ((Heap.get?_update_ne _ _ _ _ nb).trans (Heap.get?_push_of_some _ ho))
    · exact (sb.2 x xlt).trans (Heap.get?_update_self _ ex1 rfl)
end
end Tm

end

section
set_option linter.all false
set_option maxRecDepth 100000
set_option maxHeartbeats 4000000
/-! a class of errors called, with keywords too -/
namespace Tm
open PySem PySem.W PySem.HandSPX
section
variable {M : Model} {A : Around} {E : Value → Shared → Prop} {h : Heap} {g : Array GenState} {d : Drawn} {t : Nat} {os : OsState} {prog : Program} {w : World} {R : Result → Shared → Prop}
variable {nm q : Str} {C N : Addr} {bs bm bmB : List Value} {hdct : Bool} {sn : List Str} {sub : List Value} {ab : Bool} {col : Option Bool} {dd : Option Addr} {k0 k1 k2 k3 k5 : Option Value} {B newId initId : String} {rest : List Value} {kw : List (Str × Value)}
theorem check_newK (fb : ExcBaseFacts B newId initId bmB) (hT : ∀ X : String, bm.contains (.type X) = bmB.contains (.type X)) {Q : Unit → Shared → Prop}
    (hC : h.get? C = some (excClassObj nm q C N bs bm hdct sn sub ab col dd k0 k1 k2 k3 k5 newId)) (go : Q () ⟨h, g, d, t, os⟩) : wpAny M A (checkBuiltinCall newId ⟨.ref C :: rest, kw⟩) Q E ⟨h, g, d, t, os⟩ := by
  have has : (Value.ref C :: bm).contains (.type B) = true := by rw [List.contains_cons, hT, fb.hasB, Bool.or_true]
  have ns := fb.noStar
  simp only [checkBuiltinCall, fb.newKind, fb.newSplit, fb.newRow]
  repeat (first | refine wpAny_loadPart_at hC ?_ | (refine wpAny_isSubtype_exc hC ?_; rw [has]) | refine wpAny_staticBase_exc hC ?_ | refine wpAny_madeBy_exc hC ?_ | simp only [bne_self_eq_false, Bool.false_eq_true, if_false] | wp_step)
  exact go
theorem newK (fb : ExcBaseFacts B newId initId bmB) (hT : ∀ X : String, bm.contains (.type X) = bmB.contains (.type X)) (hC : h.get? C = some (excClassObj nm q C N bs bm hdct sn sub ab col dd k0 k1 k2 k3 k5 newId)) (len : rest.length ≤ sizeLine)
    (go : R (.ok (.ret (.ref (h.objs.size + 1)))) ⟨(h.push (kdv_tup rest)).push (excO C h.objs.size), g, d, t, os⟩) : codeAny (model prog w) A (.builtin newId ⟨.ref C :: rest, kw⟩) R ⟨h, g, d, t, os⟩ := by
  have en := fb.ends
  have h1 : (Value.ref C :: bm).contains (.type B) = true := by rw [List.contains_cons, hT, fb.hasB, Bool.or_true]
  have h2 : (Value.ref C :: bm).contains (.type "AttributeError") = false := by rw [List.contains_cons, hT, fb.noAttr]; rfl
  have h3 : (Value.ref C :: bm).contains (.type "NameError") = false := by rw [List.contains_cons, hT, fb.noName]; rfl
  refine codeAny_builtinAt fb.entry ?_
  unfold Builtin.«BaseException.__new__»
  refine wpAt_bind ?_
  show wpAt _ _ _ (stack >>= _) _ _ _
  refine wpAt_bind (wpAt_stack fun p below => wpAt_of_wpAny ?_)
  wp_walk
  refine wpAt_of_wpAny ?_
  rw [fb.owner]
  repeat (first | with_reducible refine wpAny_madeHere_exc fb.canon hC ?_ | with_reducible refine wpAny_loadPart_at hC ?_ | (with_reducible refine wpAny_isSubtype_exc hC ?_; first | rw [h1] | rw [h2] | rw [h3]) | wp_step)
  show R _ _
  rw [Heap.size_push]
  exact go
theorem type_callK (fb : ExcBaseFacts B newId initId bmB) (hT : ∀ X : String, bm.contains (.type X) = bmB.contains (.type X)) {fI : Addr} {Q : Fin → Shared → Prop}
    (hC : h.get? C = some (excClassObj nm q C N bs bm hdct sn sub ab col dd k0 k1 k2 k3 k5 newId)) (len : rest.length ≤ sizeLine)
    (li : Looks (model prog w) h (typeLookup (.ref C) "__init__") (some (.ref fI))) (lb : ∀ self, Looks (model prog w) h (bindSpecial (.ref fI) self) (.ref fI, [self]))
    (go : codeAny (model prog w) A (.call (.ref fI) ⟨.ref (h.objs.size + 1) :: rest, kw⟩)
      (fun r s' => match r with | .ok (.ret v) => v = .none ∧ Q (.done (.ret (.ref (h.objs.size + 1)))) s' | .ok _ => False | .error e => E e s')
      ⟨(h.push (kdv_tup rest)).push (excO C h.objs.size), g, d, t, os⟩) : wpAny (model prog w) A (Builtin.«type.__call__» ⟨.ref C :: rest, kw⟩) Q E ⟨h, g, d, t, os⟩ := by
  repeat (first | with_reducible refine wpAny_loadPart_at hC ?_ | with_reducible refine wpAny_madeBy_exc hC ?_ | wp_step)
  refine codeAny_call_builtin_code (Code.quiet_builtin _ fb.quiet) (check_newK fb hT hC ?_)
  refine newK fb hT hC len ?_
  show wpAny _ _ _ _ _ _
  have kp : ∀ b o, h.get? b = some o → ((h.push (kdv_tup rest)).push (excO C h.objs.size)).get? b = some o := fun b o e => Heap.get?_push_of_some _ (Heap.get?_push_of_some _ e)
  have hC2 := kp _ _ hC
  have made : ((h.push (kdv_tup rest)).push (excO C h.objs.size)).get? (h.objs.size + 1) = some (excO C h.objs.size) := by heap_get
  have self1 : (Value.ref C :: bm).contains (.ref C) = true := by simp
  have l1 := li.keeps kp
  have l2 := (lb (.ref (h.objs.size + 1))).keeps kp
  unfold isInstance
  repeat (first | with_reducible refine wpAny_loadPart_at made ?_ | (with_reducible refine wpAny_isSubtype_exc hC2 ?_; rw [self1]) | wp_step)
  show wpAny _ _ (typeLookup (.ref C) _) _ _ _
  refine l1.at ?_
  refine wpAny_holding (wpAny_bind (l2.at ?_))
  refine wpAny_bind (wpAny_call (codeAny_mono go fun r s' z => ?_))
  rcases r with e | (v | _ | _ | _) <;> first | exact z | exact z.elim | skip
  obtain ⟨rfl, z⟩ := z
  first
    | exact wpAny_pure (wpAny_pure z)
    | (wp_walk; exact z)
/-- C(..): new, then the own __init__ -/
theorem callK (fb : ExcBaseFacts B newId initId bmB) (hT : ∀ X : String, bm.contains (.type X) = bmB.contains (.type X)) {fI : Addr}
    (hC : h.get? C = some (excClassObj nm q C N bs bm hdct sn sub ab col dd k0 k1 k2 k3 k5 newId)) (len : rest.length ≤ sizeLine)
    (li : Looks (model prog w) h (typeLookup (.ref C) "__init__") (some (.ref fI))) (lb : ∀ self, Looks (model prog w) h (bindSpecial (.ref fI) self) (.ref fI, [self]))
    (go : codeAny (model prog w) (A.under (.builtin "type.__call__" ⟨.ref C :: rest, kw⟩)) (.call (.ref fI) ⟨.ref (h.objs.size + 1) :: rest, kw⟩) (InitBack (h.objs.size + 1) R)
      ⟨(h.push (kdv_tup rest)).push (excO C h.objs.size), g, d, t, os⟩) : codeAny (model prog w) A (.call (.ref C) ⟨rest, kw⟩) R ⟨h, g, d, t, os⟩ := by
  have f1 := tc_lookup
  have f2 := tc_bind (.ref C)
  have ty : (⟨h, g, d, t, os⟩ : Shared).TypeIs (.ref C) "type" := ⟨_, hC, rfl⟩
  refine codeAny_of_tree ?_
  show wpAny _ _ (callAny (.ref C) _) _ _ _
  repeat (any_goals (first | assumption | with_reducible refine wpAny_loadPart_at hC ?_ | wp_step))
  refine ⟨rfl, ?_⟩
  refine codeAny_call_builtin_at (Code.quiet_builtin _ (by decide +kernel)) entry_typeCall (wpAny_check_type_call_sub hC (type_callK fb hT hC len li lb ?_))
  refine codeAny_mono go fun r s' z => ?_
  rcases r with e | (v | _ | _ | _) <;> exact z
end
end Tm

end

section
set_option linter.all false
set_option maxRecDepth 100000
set_option maxHeartbeats 4000000
namespace Tm
open PySem PySem.Spec PyProof.Rows L2

theorem exoT_own {e C x t1 : Addr} {d : Option Addr} : exoT e C d t1 ≠ .own x := fun z => HO.noConfusion z
theorem exoT_ok {P : Program} {w : World} {H : Hp} {h : Heap} {e C t1 : Addr} {d : Option Addr} (he : h.get? e = some ({ cls := .ref C, dict := d, data := .fields #[.ref t1, .none, .none, .none, .bool false, .none] } : Obj)) : ObjOk P w H h e (exoT e C d t1) :=
  ⟨he, ⟨_, he⟩, fun _ _ q k => k _ q⟩
theorem exoT_at {P : Program} {w : World} {H : Hp} {h : Heap} {e C t1 : Addr} {d : Option Addr} (hok : HOk P w H h) (he : H e = some (exoT e C d t1)) : h.get? e = some ({ cls := .ref C, dict := d, data := .fields #[.ref t1, .none, .none, .none, .bool false, .none] } : Obj) :=
  (hok e _ he).1
/-- neither a tuple, nor locked, nor a table, nor an instance's dict -/
def Pln (u : HO) : Prop := (∀ xs, u ≠ .tup xs) ∧ (∀ o v, u ≠ .frz o v) ∧ (∀ ps, u ≠ .tbl ps) ∧ ∀ x, u ≠ .own x
theorem pln_ext (φ : Heap → Prop) : Pln (.ext φ) := ⟨fun _ z => HO.noConfusion z, fun _ _ z => HO.noConfusion z, fun _ z => HO.noConfusion z, fun _ z => HO.noConfusion z⟩
theorem ne_at {H : Hp} {a b : Addr} {u v : HO} (h1 : H a = some u) (h2 : H b = some v) (d : u ≠ v) : b ≠ a := fun z => d (by rw [z, h1] at h2; exact Option.some.inj h2)
section
variable {X : Cx} {pins : List (Addr × Obj)} {σ : L2.St} {H : Hp} {s : Shared}
/-- an object is written, another one is new -/
theorem inv_new_mut {h' : Heap} {n a : Addr} {on oa u : HO} {t' : Nat} (I : Inv X pins σ H s) (hn : s.heap.objs.size ≤ n) (e : H a = some u) (pu : Pln u) (k : ∀ b o, b ≠ a → s.heap.get? b = some o → h'.get? b = some o)
    (ha : ∃ o, h'.get? a = some o) (okn : ObjOk X.prog X.w (upd (upd H n on) a oa) h' n on) (oka : ObjOk X.prog X.w (upd (upd H n on) a oa) h' a oa) :
    Inv X pins σ (upd (upd H n on) a oa) { s with heap := h', toks := t' } := by
  have nn : H n = none := I.hok.fresh hn
  have na : ∀ {b : Addr}, H b = none → b ≠ a := fun {b} z y => by rw [y, e] at z; cases z
  have nb : ∀ {b : Addr} {o : Obj}, s.heap.get? b = some o → b ≠ n := fun {b o} q => Nat.ne_of_lt (Nat.lt_of_lt_of_le (Heap.lt_size q) hn)
  refine I.un (t' := t') ⟨fun b o q z _ _ => k b o (na z) q, fun b o q z _ _ => ⟨o.slots, k b o (na z) q⟩, fun b o q z _ => ?_, fun b o q _ => ?_, fun b xs q => ?_, fun b o v q => ?_, fun b ps q => ⟨#[], ?_⟩⟩ fun b o q => ?_
  · rw [upd_ne (na z), upd_ne (nb q)]; exact z
  · by_cases hb : b = a
    · rw [hb]; exact ha
    · exact ⟨o, k b o hb q⟩
  · rw [upd_ne (ne_at e q (pu.1 xs)), upd_ne (ne_of_none q nn)]; exact q
  · rw [upd_ne (ne_at e q (pu.2.1 o v)), upd_ne (ne_of_none q nn)]; exact q
  · rw [upd_ne (ne_at e q (pu.2.2.1 ps)), upd_ne (ne_of_none q nn), q]; simp
  · by_cases hb : b = a
    · subst hb
      rw [upd_same] at q
      cases q
      exact oka
    · rw [upd_ne hb] at q
      by_cases hd : b = n
      · subst hd
        rw [upd_same] at q
        cases q
        exact okn
      · rw [upd_ne hd] at q
        refine (I.hok b o q).stay (fun c v hc z => k c v ?_ z) (fun c hc => ?_) fun c xs hc => ?_
        · rcases hc with hc | hc
          · rw [hc]; exact hb
          · exact ne_at e hc (pu.2.2.2 b)
        · rw [upd_ne (ne_at e hc (pu.2.2.2 b)), upd_ne (ne_of_none hc nn)]; exact hc
        · rw [upd_ne (ne_at e hc (pu.1 xs)), upd_ne (ne_of_none hc nn)]; exact hc
end

/-! ### __init__ -/
/-- B.__init__(self, ..) -/
def tBi (K : PySem.W.Frag) (B newId initId : String) (bmB : List Value) (ta : TA) : TE := fun σ H Q => ta σ H fun vs H1 => ∃ (a C : Addr) (ws : List V), vs = .ref a :: ws ∧ ws.length ≤ 1000 ∧ EK K C B newId initId bmB ∧ H1 a = some (exo a C none) ∧
  ∀ t1, H1 t1 = none → Q .non (upd (upd H1 t1 (.tup ws)) a (exoT a C none t1))
/-- self.f = e, the first field -/
def tFf (K : PySem.W.Frag) (B newId initId : String) (bmB : List Value) (f : Str) (to te : TE) : TS := fun D σ H => te σ H fun y H1 => to σ H1 fun x H2 => ∃ a C t1 : Addr, x = .ref a ∧ EK K C B newId initId bmB ∧ PySem.W.findIn K (.ref C) f = some none ∧
  H2 a = some (exoT a C none t1) ∧ ∀ d, H2 d = none → d ≠ a → D.nx σ (upd (upd H2 d (exd d [(f, y)])) a (exoT a C (some d) t1))
section
variable {X : Cx} {e o : Expr} {es : List Expr} {ta : TA} {to te : TE} {p1 p2 pos p' : Pos} {B newId initId : String} {bmB : List Value} {f : Str}
theorem bi_call {pins : List (Addr × Obj)} {σ : L2.St} {H : Hp} {s : Shared} {us : List Value} {vs : List V} {Q : VK} (I : Inv X pins σ H s) (r : Vals vs us)
    (q : ∃ (a C : Addr) (ws : List V), vs = .ref a :: ws ∧ ws.length ≤ 1000 ∧ EK X.K C B newId initId bmB ∧ H a = some (exo a C none) ∧ ∀ t1, H t1 = none → Q .non (upd (upd H t1 (.tup ws)) a (exoT a C none t1))) :
    wpAny (model X.prog X.w) X.A (call (.builtin initId) us) (EP X pins σ Q) X.xe s := by
  obtain ⟨a, C, ws, rfl, hl, T, ea, q⟩ := q
  cases r with
  | @cons _ u0 _ ur ra rw' =>
    obtain rfl : u0 = Value.ref a := ra
    have hz : ur.length ≤ sizeLine := by
      have := Paired.length rw'
      rw [← this, sizeLine_eq]; omega
    obtain ⟨t0, ho⟩ := exo_at I.hok ea
    obtain ⟨hp, g, dr, tk, os⟩ := s
    refine wpAny_call (base_init T I.kIn ho hz fun h' k ht hx => ?_)
    have J := inv_new_mut (t' := tk) (on := .tup ws) (oa := exoT a C none hp.objs.size) I (Nat.le_refl _) ea (pln_ext _) k ⟨_, hx⟩ ⟨by rw [Paired.length rw']; exact hz, ur, rw', ⟨_, ht, rfl, _, rfl⟩⟩ (exoT_ok hx)
    exact ⟨.non, _, J, rfl, q hp.objs.size (I.hok.fresh (Nat.le_refl _))⟩
/-- the base is the program's own -/
theorem pe_biOwn {pl : Sem Bool} {x : Str} {R : Addr} (hg : Gl X x) (hm : X.mg x = some (.ref R)) (hs : PySem.W.specialIn X.K (.ref R) "__getattribute__" = some (some (.builtin "type.__getattribute__"))) (hr : PySem.W.readsIn X.K R (.type "type") = true)
    (hf : PySem.W.findCls X.K (.ref R) (.type "type") "__init__" = some (.val (.builtin initId))) (ha : PA X (e :: es) ta) (hd : (x == ("__debug__" : Str)) = false)
    (hc : eval (.Call (.Attribute (.Name x p1) "__init__" p2) (e :: es) [] pos) X.env = (do
      let ov ← eval (.Name x p1) X.env
      standAt p2.atName
      let (f, first) ← holding [ov] (getMethod ov "__init__" pl)
      callWith pos f first (backTo pos (starEach (e :: es) X.env)) (backToKw pos (keywordEach [] X.env))))
    (he : starEach (e :: es) X.env = (false, eval e X.env) :: starEach es X.env := by rfl) (hpl : (backTo pos (starEach es X.env)).any (·.1) = false := by rfl) (hp : PySem.W.handedIn (.builtin initId) = true) :
    PE X (.Call (.Attribute (.Name x p1) "__init__" p2) (e :: es) [] pos) (tBi X.K B newId initId bmB ta) := by
  refine ⟨fun pins s σ H Q I h => ?_⟩
  refine PySem.W.methodCall_KW (ld_glob I hg hm ?_ hd) hc
  refine PySem.W.method_cls I.kIn hs (PySem.W.cls_value I.kIn hr hf hp ?_)
  show wpAny _ _ (callWith pos (Value.builtin initId) [] (backTo pos (starEach (e :: es) X.env)) []) _ _ _
  exact PyProof.Rows.callWith_method1 (thn (ha.run pos pins _ σ H _ (I.tok _) h) fun us s1 ⟨vs, H1, I1, r1, q⟩ => bi_call I1 r1 q) he hpl
/-- .. a built-in one -/
theorem pe_biTy {pl : Sem Bool} {x : Str} {T : String} (hg : Gl X x) (hm : X.mg x = none) (hv : bootBuiltins x = some (.type T)) (hn : x ≠ "__name__") (hd : (x == ("__debug__" : Str)) = false) (hty : typeOf (.type T) = pure (.type "type")) (hst : Manifest.isStub T = false)
    (hf : PySem.W.findCls X.K (.type T) (.type "type") "__init__" = some (.val (.builtin initId))) (ha : PA X (e :: es) ta)
    (hc : eval (.Call (.Attribute (.Name x p1) "__init__" p2) (e :: es) [] pos) X.env = (do
      let ov ← eval (.Name x p1) X.env
      standAt p2.atName
      let (f, first) ← holding [ov] (getMethod ov "__init__" pl)
      callWith pos f first (backTo pos (starEach (e :: es) X.env)) (backToKw pos (keywordEach [] X.env))))
    (he : starEach (e :: es) X.env = (false, eval e X.env) :: starEach es X.env := by rfl) (hpl : (backTo pos (starEach es X.env)).any (·.1) = false := by rfl) (hp : PySem.W.handedIn (.builtin initId) = true) :
    PE X (.Call (.Attribute (.Name x p1) "__init__" p2) (e :: es) [] pos) (tBi X.K B newId initId bmB ta) := by
  refine ⟨fun pins s σ H Q I h => ?_⟩
  refine PySem.W.methodCall_KW (ld_blt I hg hm hv ?_ hn hd) hc
  obtain ⟨m, fr⟩ := I.fr
  refine PySem.W.method_type fr I.ok.mod.kin hty hst hf hp ?_
  show wpAny _ _ (callWith pos (Value.builtin initId) [] (backTo pos (starEach (e :: es) X.env)) []) _ _ _
  exact PyProof.Rows.callWith_method1 (thn (ha.run pos pins _ σ H _ (I.tok _) h) fun us s1 ⟨vs, H1, I1, r1, q⟩ => bi_call I1 r1 q) he hpl
theorem ps_ff (ho : PE X o to) (he : PE X e te) (hs : swapsWith e (some (.Attribute o f p')) pos.line X.env = pure false := by rfl) : PS X (.Assign [.Attribute o f p'] e pos) (tFf X.K B newId initId bmB f to te) := by
  refine ⟨fun pins s σ H D I h => ?_⟩
  refine plainObj_wpAny_Assign_Attribute (thn (he.run pins s σ H _ I h) fun v s1 ⟨y, H1, I1, r1, q1⟩ => thn (ho.run pins s1 σ H1 _ I1 q1) fun u s2 ⟨x, H2, I2, r2, a, C, t1, ex, T, hno, ea, q⟩ => ?_) hs
  subst ex
  obtain rfl : u = Value.ref a := r2
  have ho := exoT_at I2.hok ea
  obtain ⟨hp, g, dr, tk, os⟩ := s2
  refine PySem.W.set_plain I2.kIn (ox := { cls := .ref C, dict := none, data := .fields #[.ref t1, .none, .none, .none, .bool false, .none] }) (od := none) ⟨ho, rfl, rfl, trivial⟩ T.sa ?_
  refine first_field T I2.kIn ho hno fun h' tk' dx k dn dne hx hns => ?_
  have J := inv_new_mut (t' := tk') (on := exd dx [(f, y)]) (oa := exoT a C (some dx) t1) I2 dn ea (pln_ext _) k ⟨_, hx⟩ (exd_ok hns (relO_put (fs := []) r1 fun g => True.intro)) (exoT_ok hx)
  exact ⟨σ, _, J, q dx (I2.hok.fresh dn) dne⟩
end
end Tm

end

section
set_option linter.all false
set_option maxRecDepth 100000
set_option maxHeartbeats 4000000
namespace Tm
open PySem PySem.Spec PyProof.Rows L2

/-- __init__'s promise: the object at a gets its arguments (one text) and its field -/
def spI (C : Addr) (f m : Str) : Sp := fun vs H Q _ => ∃ (a : Addr) (w : V), vs = [.ref a, w] ∧ H a = some (exo a C none) ∧
  ∀ t1 d, H t1 = none → H d = none → t1 ≠ a → d ≠ a → d ≠ t1 → Q .non (upd (upd (upd (upd H t1 (.tup [.str m])) a (exoT a C none t1)) d (exd d [(f, w)])) a (exoT a C (some d) t1))
theorem init_read {K : PySem.W.Frag} {B newId initId : String} {bmB : List Value} {C : Addr} {f m : Str} {N : List Str} {vs : List V} {H : Hp} {Q : VK} {E : XK} (hN : N.length = 2) (T : EK K C B newId initId bmB) (hno : PySem.W.findIn K (.ref C) f = some none) (h : spI C f m vs H Q E) :
    tSeq (tDrop (tBi K B newId initId bmB (tCons (tVar 0) (tCons (tC (.str m)) tNil)))) (tFf K B newId initId bmB f (tVar 0) (tVar 1)) { nx := fun _ H' => Q .non H', rt := Q } (start N vs) H := by
  obtain ⟨a, w, rfl, ea, q⟩ := h
  have e0 : (start N [V.ref a, w])[0]? = some (some (V.ref a)) := rfl
  have e1 : (start N [V.ref a, w])[1]? = some (some w) := rfl
  refine ⟨_, e0, a, C, [.str m], rfl, (show 1 ≤ 1000 from Nat.le_of_lt (Nat.lt_of_lt_of_le (Nat.lt_succ_self 1) (Nat.le_of_ble_eq_true rfl))), T, ea, fun t1 ht => ?_⟩
  have ta : t1 ≠ a := fun z => by rw [z, ea] at ht; cases ht
  refine ⟨w, e1, .ref a, e0, a, C, t1, rfl, T, hno, upd_same, fun d hd da => ?_⟩
  rw [upd_ne da] at hd
  have dt : d ≠ t1 := fun z => by rw [z, upd_same] at hd; cases hd
  rw [upd_ne dt] at hd
  exact q t1 d ht hd ta da dt

section
variable {C : Ct} {F : Fb} {H : Hp} {c f m : Str} {t : T} {w : V} {a Cl t1 d : Addr}
/-- the heap behind C(..) -/
def mkH (H : Hp) (a Cl t1 d : Addr) (f m : Str) (w : V) : Hp := upd (upd (upd (upd (upd H a (exo a Cl none)) t1 (.tup [.str m])) a (exoT a Cl none t1)) d (exd d [(f, w)])) a (exoT a Cl (some d) t1)
theorem mkH_ext (ha : H a = none) (ht : H t1 = none) (hd : H d = none) : Ext C (fun _ => False) H (mkH H a Cl t1 d f m w) where
  at_ := fun b o _ e _ => by
    have n1 := ne_of_none e ha
    have n2 := ne_of_none e ht
    have n3 := ne_of_none e hd
    unfold mkH
    rw [upd_ne n1, upd_ne n3, upd_ne n1, upd_ne n2, upd_ne n1]
    exact e
  th := fun b e => by
    unfold mkH at e
    by_cases n1 : b = a
    · rw [n1]; exact ha
    · rw [upd_ne n1] at e
      by_cases n3 : b = d
      · rw [n3]; exact hd
      · rw [upd_ne n3, upd_ne n1] at e
        by_cases n2 : b = t1
        · rw [n2]; exact ht
        · rw [upd_ne n2, upd_ne n1] at e
          exact e
  j := C.hJ _ _ fun b o e _ => by
    have n1 := ne_of_none e ha
    have n2 := ne_of_none e ht
    have n3 := ne_of_none e hd
    unfold mkH
    rw [upd_ne n1, upd_ne n3, upd_ne n1, upd_ne n2, upd_ne n1]
    exact e
theorem mkH_rep (ft : FT F H) (hc : C.mg c = some (.ref Cl)) (ha : H a = none) (ht : H t1 = none) (hd : H d = none) (ta : t1 ≠ a) (da : d ≠ a) (dt : d ≠ t1) (r : Rep C F H t w) : Rep C F (mkH H a Cl t1 d f m w) (.exc c f m t) (.ref a) := by
  refine ⟨a, Cl, d, t1, w, rfl, hc, upd_same, ?_, ?_, Rep.ext ft.ok ((mkH_ext ha ht hd).mono fun _ z => z.elim) t w r⟩
  · unfold mkH
    rw [upd_ne da, upd_same]
  · unfold mkH
    rw [upd_ne ta, upd_ne (Ne.symm dt), upd_ne ta, upd_same]
end

/-- what stands of a class: its facts, its __init__ -/
structure CK (X : Cx) (c f m : Str) (Cl fI : Addr) (fd : FuncData) (k : Nat) : Prop where
  mg : X.mg c = some (.ref Cl)
  ek : ∃ B newId initId bmB, EK X.K Cl B newId initId bmB
  iC : PySem.W.findIn X.K (.ref Cl) "__init__" = some (some (.ref fI))
  tI : PySem.W.typeIn X.K (.ref fI) = some (.type "function")
  fn : FnOk X.prog X.w X.K X.mg X.base (CX X.prog X.w) k fI fd ["self", f] (spI Cl f m)
section
variable {X : Cx} {c f m : Str} {Cl fI : Addr} {fd : FuncData} {k n : Nat} {ks : List Str} {g : List Value → List Value → List Value} {gV : List V → List V → List V}
theorem passes_no {P : Program} {w : World} : Passes (CX X.prog X.w) X (fun _ _ _ => False) := fun _ _ _ _ _ _ _ h => by
  obtain ⟨_, _, _, _, _, _, _, _, _, _, _, _, z⟩ := h
  exact z.elim
theorem run_mk {pins : List (Addr × Obj)} {σ : L2.St} {H : Hp} {s : Shared} {Q : VK} {us ws : List Value} {vs zs : List V} {y : V} (T : CK X c f m Cl fI fd k) (hr : Room (k + 1) X.A) (hb : KBn X.K fd ["self", f] (n + 1) ks g gV) (I : Inv X pins σ H s) (r : Vals vs us) (rz : Vals zs ws)
    (hn1 : n ≤ 1000) (l1 : vs.length = n) (l2 : zs.length = ks.length) (hg : ∀ a : V, gV (a :: vs) zs = [a, y])
    (q : ∀ a t1 d, H a = none → H t1 = none → H d = none → t1 ≠ a → d ≠ a → d ≠ t1 → Q (.ref a) (mkH H a Cl t1 d f m y)) :
    wpAny (model X.prog X.w) X.A (call (.ref Cl) us (ks.zip ws)) (EP X pins σ Q) X.xe s := by
  obtain ⟨B, newId, initId, bmB, ek⟩ := T.ek
  obtain ⟨nm, N, qn, bs, bm, hdct, sn, sub, ab, col, dd, k0, k1, k2, k3, k5, hC, hT⟩ := PySem.W.excInit_of I.kIn ek.q
  obtain ⟨hp, gg, dr, tk, os⟩ := s
  have big : hp.objs.size ≤ hp.objs.size + 1 := Nat.le_succ _
  have hn : H (hp.objs.size + 1) = none := I.hok.fresh big
  have kk : ∀ b o, hp.get? b = some o → ((hp.push (PySem.W.kdv_tup us)).push (PySem.HandSPX.excO Cl hp.objs.size)).get? b = some o := fun b o e => Heap.get?_push_of_some _ (Heap.get?_push_of_some _ e)
  have made : ((hp.push (PySem.W.kdv_tup us)).push (PySem.HandSPX.excO Cl hp.objs.size)).get? (hp.objs.size + 1) = some (PySem.HandSPX.excO Cl hp.objs.size) := by heap_get
  have I2 : Inv X pins σ (upd H (hp.objs.size + 1) (exo (hp.objs.size + 1) Cl none)) ⟨(hp.push (PySem.W.kdv_tup us)).push (PySem.HandSPX.excO Cl hp.objs.size), gg, dr, tk, os⟩ :=
    I.laid (t' := tk) (a := hp.objs.size + 1) (o := exo (hp.objs.size + 1) Cl none) (h' := (hp.push (PySem.W.kdv_tup us)).push (PySem.HandSPX.excO Cl hp.objs.size)) kk big (exo_ok made)
  have r1 : Vals (V.ref (hp.objs.size + 1) :: vs) (Value.ref (hp.objs.size + 1) :: us) := .cons rfl r
  have r2 := hb.rel r1 rz
  have e1 : (Value.ref (hp.objs.size + 1) :: us).length = n + 1 := r1.length.symm.trans (congrArg Nat.succ l1)
  have e2 : ws.length = ks.length := rz.length.symm.trans l2
  have hus : us.length ≤ sizeLine := by
    rw [← r.length, l1, sizeLine_eq]
    omega
  refine wpAny_call (callK ek.base hT hC hus (PySem.W.looks_findIn I.kIn T.iC) (fun self => PySem.W.bind_fn I.kIn self T.tI)
    (codeAny_mono (T.fn.run _ X.stack _ _ ⟨Value.ref (hp.objs.size + 1) :: us, ks.zip ws⟩ (g (Value.ref (hp.objs.size + 1) :: us) ws) _
      (fun v H' => v = .non ∧ Q (.ref (hp.objs.size + 1)) H') (fun _ _ _ => False) (hr.make Cl us (ks.zip ws)) (I2.env0.make Cl us (ks.zip ws)) (hb.to _ (Value.ref (hp.objs.size + 1) :: us) ws I2.kIn e1 e2) r2 ?_) fun r s' hq' => ?_))
  · rw [hg]
    refine ⟨_, _, rfl, upd_same, fun t1 d ht hd ta da dt => ⟨rfl, ?_⟩⟩
    rw [upd_ne ta] at ht
    rw [upd_ne da] at hd
    exact q _ t1 d hn ht hd ta da dt
  · cases r with
    | error er => exact (passes_no (P := X.prog) (w := X.w) pins σ _ _ er s' I2 hq')
    | ok fl =>
      cases fl with
      | ret u =>
        obtain ⟨v, H', I3, rv, ev, q3⟩ := I2.after hq'
        subst ev
        exact ⟨rv, ⟨V.ref (hp.objs.size + 1), H', I3, rfl, q3⟩⟩
      | next => exact False.elim hq'
      | brk => exact False.elim hq'
      | cont => exact False.elim hq'
end
end Tm

end

section
set_option linter.all false
set_option maxRecDepth 100000
set_option maxHeartbeats 4000000
namespace Tm
open PySem PySem.Spec PyProof.Rows L2

theorem pv_nf {p : Px} {O : Ow} {τ : Tau} {σ : L2.St} {c : E} {H H' : Hp} {t : T} {v : V} (hb : isBor c = false) (hf : fresh c = false) (r : Rep p.C (Fo p.F0 O) H' t v) : PV p O τ σ c H t v H' := ⟨fun _ => r, .inl r, (fun z => by rw [hf] at z; cases z), fun z => by rw [hf] at z; cases z⟩
/-- C(..) -/
def tMk (Cl : Addr) (f m : Str) (te : TE) : TE := fun σ H Q => te σ H fun y H1 => ∀ a t1 d, H1 a = none → H1 t1 = none → H1 d = none → t1 ≠ a → d ≠ a → d ≠ t1 → Q (.ref a) (mkH H1 a Cl t1 d f m y)
section
variable {X : Cx} {c f m : Str} {Cl fI : Addr} {fd : FuncData} {k n : Nat} {ks : List Str} {g : List Value → List Value → List Value} {gV : List V → List V → List V} {np pos kpos : Pos} {e : Expr} {te : TE}
theorem CK.kp (T : CK X c f m Cl fI fd k) : PySem.W.keepIn X.K (.ref Cl) = true := by
  obtain ⟨_, _, _, _, ek⟩ := T.ek
  exact ek.kC
def one1 (R : V → Hp → Prop) : List V → Hp → Prop := fun vs H => match vs with
  | [y] => R y H
  | _ => False
theorem one1_of {R : V → Hp → Prop} {vs : List V} {H : Hp} (h : one1 R vs H) : ∃ y, vs = [y] ∧ R y H := by
  unfold one1 at h
  split at h
  · exact ⟨_, rfl, h⟩
  · exact h.elim
def MkQ (Cl : Addr) (f m : Str) (Q : VK) (y : V) (H1 : Hp) : Prop := ∀ a t1 d, H1 a = none → H1 t1 = none → H1 d = none → t1 ≠ a → d ≠ a → d ≠ t1 → Q (.ref a) (mkH H1 a Cl t1 d f m y)
theorem pe_mk1 (T : CK X c f m Cl fI fd k) (hr : Room (k + 1) X.A) (hgl : Gl X c) (hb : KBn X.K fd ["self", f] 2 [] g gV) (hg : ∀ a v : V, gV [a, v] [] = [a, v]) (ha : PE X e te) (hdb : (c == ("__debug__" : Str)) = false := by decide)
    (he : starEach [e] X.env = (false, eval e X.env) :: starEach [] X.env := by rfl) : PE X (.Call (.Name c np) [e] [] pos) (tMk Cl f m te) := by
  refine ⟨fun pins s σ H Q I h => ?_⟩
  refine wpAny_Call_Name_kw (ld_glob I hgl T.mg ?_ hdb)
  refine PySem.W.callWith_K (h₀ := X.base) I.ok.mod.kin T.kp (thn ((pa_cons ha pa_nil he).run pos pins s σ H (one1 (MkQ Cl f m Q)) I h) fun us s1 ⟨vs, H1, I1, r, q⟩ => ⟨I1.kIn, ?_⟩) he rfl
  obtain ⟨y, rfl, q⟩ := one1_of q
  exact run_mk (ks := []) (ws := []) (zs := []) T hr hb I1 r .nil (by decide) rfl rfl (fun a => hg a y) q
/-- C() -/
theorem pe_mk0 {y : V} (T : CK X c f m Cl fI fd k) (hr : Room (k + 1) X.A) (hgl : Gl X c) (hb : KBn X.K fd ["self", f] 1 [] g gV) (hg : ∀ a : V, gV [a] [] = [a, y]) (hdb : (c == ("__debug__" : Str)) = false := by decide) :
    PE X (.Call (.Name c np) [] [] pos) (tMk Cl f m (tC y)) := by
  refine ⟨fun pins s σ H Q I h => ?_⟩
  refine wpAny_Call_Name_kw (ld_glob I hgl T.mg ?_ hdb)
  exact PySem.W.callWith_K0 I.kIn T.kp (run_mk (us := []) (vs := []) (ks := []) (ws := []) (zs := []) T hr hb I .nil .nil (by decide) rfl rfl hg h)
/-- C(f = e) -/
theorem pe_mkK (T : CK X c f m Cl fI fd k) (hr : Room (k + 1) X.A) (hgl : Gl X c) (hb : KBn X.K fd ["self", f] 1 [f] g gV) (hg : ∀ a v : V, gV [a] [v] = [a, v]) (ha : PE X e te) (hdb : (c == ("__debug__" : Str)) = false := by decide) :
    PE X (.Call (.Name c np) [] [⟨some f, e, kpos⟩] pos) (tMk Cl f m te) := by
  refine ⟨fun pins s σ H Q I h => ?_⟩
  refine wpAny_Call_Name_kw (ld_glob I hgl T.mg ?_ hdb)
  refine PySem.W.callWith_KW0 (h₀ := X.base) I.ok.mod.kin T.kp (by rfl) (thn ((pk_cons (nm := some f) ha pk_nil).run pos pins s σ H (one1 (MkQ Cl f m Q)) I h) fun ws s2 ⟨zs, H2, I2, rz, q⟩ => ⟨I2.kIn, ?_⟩) (by rfl)
  obtain ⟨y, rfl, q⟩ := one1_of q
  exact run_mk (us := []) (vs := []) T hr hb I2 .nil rz (by decide) rfl rfl (fun a => hg a y) q
end
section
variable {X : Cx} {p : Px} {c f m : Str} {Cl fI : Addr} {fd : FuncData} {k n : Nat} {g : List Value → List Value → List Value} {gV : List V → List V → List V} {np pos kpos : Pos} {e : Expr} {te : TE} {ca : E}
theorem mk_imp {y : Expr} (hC : p.C.mg = X.mg) (T : CK X c f m Cl fI fd k) (h : PE X y (tMk Cl f m (tEv p ca))) (hb : isBor ca = false) : PE X y (tEv p (.mk c f m ca)) := pe_imp h fun σ H Q w ⟨O, τ, G, h⟩ => by
  unfold evE at h
  refine ev_one G h fun x τ1 v H1 G1 X1 P1 W1 h1 => fun a t1 d na nt nd ta da dt W2 => ?_
  have x2 : Ext p.C (fun _ => False) H1 (mkH H1 a Cl t1 d f m v) := mkH_ext na nt nd
  have r : Rep p.C (Fo p.F0 O) (mkH H1 a Cl t1 d f m v) (.exc c f m x) (.ref a) := mkH_rep G1.ft (by rw [hC]; exact T.mg) na nt nd ta da dt (P1.rep hb)
  exact h1 _ _ (G1.ext0 x2) (X1.trans (ext_any x2)) ⟨fun _ => r, .inl r, (fun z => by cases z), fun z => by cases z⟩ W2
theorem sn_mk1 (hC : p.C.mg = X.mg) (T : CK X c f m Cl fI fd k) (hr : Room (k + 1) X.A) (hgl : Gl X c) (hb : KBn X.K fd ["self", f] 2 [] g gV) (hg : ∀ a v : V, gV [a, v] [] = [a, v]) (ha : PE X e (tEv p ca)) (hbo : isBor ca = false := by rfl) (hdb : (c == ("__debug__" : Str)) = false := by decide)
    (he : starEach [e] X.env = (false, eval e X.env) :: starEach [] X.env := by rfl) : PE X (.Call (.Name c np) [e] [] pos) (tEv p (.mk c f m ca)) := mk_imp hC T (pe_mk1 T hr hgl hb hg ha hdb he) hbo
theorem sn_mk0 (hC : p.C.mg = X.mg) (T : CK X c f m Cl fI fd k) (hr : Room (k + 1) X.A) (hgl : Gl X c) (hb : KBn X.K fd ["self", f] 1 [] g gV) (hg : ∀ a : V, gV [a] [] = [a, .non]) (hdb : (c == ("__debug__" : Str)) = false := by decide) :
    PE X (.Call (.Name c np) [] [] pos) (tEv p (.mk c f m (.cst .non))) := mk_imp hC T (pe_imp (pe_mk0 T hr hgl hb hg hdb) fun σ H Q w ⟨O, τ, G, h⟩ => by
      have q := h .non H G (Ext.refl _ _ _) (pv_nf rfl rfl rfl) w
      exact fun a t1 d na nt nd ta da dt _ => q a t1 d na nt nd ta da dt) rfl
theorem sn_mkK (hC : p.C.mg = X.mg) (T : CK X c f m Cl fI fd k) (hr : Room (k + 1) X.A) (hgl : Gl X c) (hb : KBn X.K fd ["self", f] 1 [f] g gV) (hg : ∀ a v : V, gV [a] [v] = [a, v]) (ha : PE X e (tEv p ca)) (hbo : isBor ca = false := by rfl) (hdb : (c == ("__debug__" : Str)) = false := by decide) :
    PE X (.Call (.Name c np) [] [⟨some f, e, kpos⟩] pos) (tEv p (.mk c f m ca)) := mk_imp hC T (pe_mkK T hr hgl hb hg ha hdb) hbo
end
/-! ### asked -/
/-- the class c: facts for its made errors -/
def XcOk (X : Cx) (cs : List Str) : Prop := ∀ c, cs.contains c = true → ∃ Cl B newId initId bmB, X.mg c = some (.ref Cl) ∧ EK X.K Cl B newId initId bmB ∧ PySem.W.findIn X.K (.ref Cl) "__str__" = some (some (.builtin "BaseException.__str__"))
/-- .. none has such a name of its own -/
def XfOk (X : Cx) (cs : List Str) (f : Str) : Prop := ∀ c, cs.contains c = true → ∃ Cl B newId initId bmB, X.mg c = some (.ref Cl) ∧ EK X.K Cl B newId initId bmB ∧ PySem.W.findIn X.K (.ref Cl) f = some none
def XiOk (X : Cx) (tb : List (Str × List Str)) (tg : Str) (cv : Value) : Prop := ∀ c l, tb.lookup c = some l → ∃ Cl B newId initId bmB, X.mg c = some (.ref Cl) ∧ EK X.K Cl B newId initId bmB ∧ PySem.W.kitOne X.K (.ref Cl) cv = some (l.contains tg)
/-- e.f of a made error -/
def tFld (K : PySem.W.Frag) (f : Str) (te : TE) : TE := fun σ H Q => te σ H fun x H1 => ∃ a Cl d t1 w B newId initId bmB, x = .ref a ∧ EK K Cl B newId initId bmB ∧ PySem.W.findIn K (.ref Cl) f = some none ∧ H1 a = some (exoT a Cl (some d) t1) ∧ H1 d = some (exd d [(f, w)]) ∧ Q w H1
section
variable {X : Cx} {p : Px} {e o : Expr} {te : TE} {pos np apos : Pos} {ca : E} {cs : List Str} {f : Str}
theorem pe_fld (he : PE X e te) (hb : attributeBase e f X.env (eval e X.env) = eval e X.env := by rfl) : PE X (.Attribute e f pos) (tFld X.K f te) := by
  refine ⟨fun pins s σ H Q I h => ?_⟩
  refine attr_of hb (thn (he.run pins s σ H _ I h) fun u s1 hh => ?_)
  obtain ⟨x, H1, I1, rx, a, Cl, d, t1, w, B, newId, initId, bmB, ex, T, hno, ha, hd, q⟩ := hh
  subst ex
  obtain rfl : u = Value.ref a := rx
  have he := exoT_at I1.hok ha
  obtain ⟨mA, hns, hr⟩ := (show ∃ mA, s1.heap.Ns1 d mA ∧ ∀ z, RelO (([(f, w)] : List (Str × V)).lookup z) (mA z) from (I1.hok d _ hd).1)
  obtain ⟨od, ho, hl⟩ := lookIn_ns hns
  obtain ⟨u, hu, ru⟩ := RelO.some_of (v := w) (o := mA f) (by
    have := hr f
    rwa [show ([(f, w)] : List (Str × V)).lookup f = some w by simp] at this)
  have J : PySem.W.InstAt s1.heap a _ Cl (some od) := ⟨he, rfl, rfl, ho⟩
  exact HandSPX.exc_get I1.kIn J T.ga T.gg T.exC (PySem.W.findObj_own T.hd hno rfl (by rw [hl, hu])) (handed_of ru) ⟨w, H1, I1.tok _, ru, q⟩
theorem sn_fld (hC : p.C.mg = X.mg) (hx : XfOk X cs f) (he : PE X e (tEv p ca)) (hb : attributeBase e f X.env (eval e X.env) = eval e X.env := by rfl) : PE X (.Attribute e f pos) (tEv p (.fld cs ca f)) := pe_imp (pe_fld he hb) fun σ H Q w ⟨O, τ, G, h⟩ => by
  unfold evE at h
  refine ev_one G h fun x τ1 v H1 G1 X1 P1 W1 h1 => ?_
  obtain ⟨t, e1, q⟩ := h1.ofO
  unfold fldT at e1
  split at e1
  · rename_i c f' m t0
    split at e1 <;> cases e1
    rename_i hc
    obtain ⟨rfl, hc⟩ := hc
    have r : Rep p.C (Fo p.F0 O) H1 (.exc c f' m t) v := P1.bor.flat fun _ z => z
    obtain ⟨a, Cl, d, t1, w0, e0, e2, h3, h4, h5, h6⟩ := r
    obtain ⟨Cl', B, newId, initId, bmB, e3, T, hno⟩ := hx c hc
    rw [hC, e3] at e2
    cases e2
    exact ⟨a, Cl, d, t1, w0, B, newId, initId, bmB, e0, T, hno, h3, h4, fun W2 => q w0 H1 G1 X1 (pv_nf rfl rfl h6) W2⟩
  · cases e1
/-- isinstance of a made error -/
theorem call_isX {cv : Value} : CallR X (.builtin "isinstance") fun xs H Q => ∃ (a Cl d t1 : Addr) (f : Str) (w c : V) (b : Bool) (B newId initId : String) (bmB : List Value), xs = [.ref a, c] ∧ (∀ u, RelV c u → u = cv) ∧ EK X.K Cl B newId initId bmB ∧
    H a = some (exoT a Cl (some d) t1) ∧ H d = some (exd d [(f, w)]) ∧ PySem.W.kitOne X.K (.ref Cl) cv = some b ∧ Q (.bl b) H := by
  intro pins s σ H xs us Q I r h
  obtain ⟨a, Cl, d, t1, f, w, c, b, B, newId, initId, bmB, rfl, hcv, T, ha, hd, e, q⟩ := h
  obtain ⟨u1, u2, rfl, r1, r2⟩ := vals2 r
  cases (show u1 = Value.ref a from r1)
  have ec := hcv _ r2
  subst ec
  have he := exoT_at I.hok ha
  obtain ⟨mA, hns, hr⟩ := (show ∃ mA, s.heap.Ns1 d mA ∧ ∀ z, RelO (([(f, w)] : List (Str × V)).lookup z) (mA z) from (I.hok d _ hd).1)
  obtain ⟨od, ho, hl⟩ := lookIn_ns hns
  have J : PySem.W.InstAt s.heap a _ Cl (some od) := ⟨he, rfl, rfl, ho⟩
  obtain ⟨cd, hcd, _⟩ := T.data
  exact PySem.W.kia_one (PySem.W.kitx_exc (by rw [hcd]; rfl) T.ga T.gg T.exC T.ca T.cn T.ct T.cm) I.kIn J e (fun z => nomatch z) fun tk => ⟨.bl b, H, I.kept (t' := tk) fun _ _ z => z, rfl, q⟩
theorem call_strX (hu : X.A.units + 2 < cLine) : CallR X (.type "str") fun xs H Q => ∃ (a Cl t1 : Addr) (d : Option Addr) (m : Str) (B newId initId : String) (bmB : List Value), xs = [.ref a] ∧ EK X.K Cl B newId initId bmB ∧ PySem.W.findIn X.K (.ref Cl) "__str__" = some (some (.builtin "BaseException.__str__")) ∧
    H a = some (exoT a Cl d t1) ∧ H t1 = some (.tup [.str m]) ∧ Q (.str m) H := by
  intro pins s σ H xs us Q I r h
  obtain ⟨a, Cl, t1, d, m, B, newId, initId, bmB, rfl, T, hs, ha, ht, q⟩ := h
  obtain ⟨u1, rfl, r1⟩ := vals1 r
  cases (show u1 = Value.ref a from r1)
  have he := exoT_at I.hok ha
  obtain ⟨_, its, rv, o, h1, h2, n, h3⟩ := (show ObjOk X.prog X.w H s.heap t1 (.tup [.str m]) from I.hok t1 _ ht)
  obtain ⟨u2, rfl, r2⟩ := vals1 rv
  obtain ⟨tk, rfl⟩ := (show ∃ t, u2 = Value.str m t from r2)
  exact PySem.P.str_of_C_one hu (C := Cl) (e := a) (t0 := t1) ⟨I.kIn, _, _, he, rfl, rfl, rfl⟩ ⟨o, n, h1, h2, h3⟩ hs T.exC ⟨.str m, H, I, ⟨tk, rfl⟩, q⟩
theorem sn_isi {tb : List (Str × List Str)} {tg : Str} {cv : Value} {vt : V} {b : Expr} (hC : p.C.mg = X.mg) (hx : XiOk X tb tg cv) (hcv : ∀ u, RelV vt u → u = cv) (hg : Gl X "isinstance") (hm : X.mg "isinstance" = none) (ha : PE X e (tEv p ca)) (hb : PE X b (tC vt))
    (he : starEach [e, b] X.env = (false, eval e X.env) :: starEach [b] X.env := by rfl) (he2 : starEach [b] X.env = (false, eval b X.env) :: starEach [] X.env := by rfl) (hpl : (backTo pos (starEach [b] X.env)).any (·.1) = false := by rfl) :
    PE X (.Call (.Name "isinstance" np) [e, b] [] pos) (tEv p (.isi (isE tb tg) ca)) := pe_imp (pe_callB (call_isX (cv := cv)) hg hm (by rfl) (pa_cons ha (pa_cons hb pa_nil he2) he) (by decide) (by decide) he hpl) fun σ H Q w ⟨O, τ, G, h⟩ => by
  unfold evE at h
  refine ev_one G h fun x τ1 v H1 G1 X1 P1 W1 h1 => ?_
  obtain ⟨t, e1, q⟩ := h1.ofO
  obtain ⟨k, e9, rfl⟩ := Option.map_eq_some_iff.mp e1
  unfold isE at e9
  split at e9
  · rename_i c f m t0
    obtain ⟨l, e8, rfl⟩ := Option.map_eq_some_iff.mp e9
    have r : Rep p.C (Fo p.F0 O) H1 (.exc c f m t0) v := P1.bor.flat fun _ z => z
    obtain ⟨a, Cl, d, t1, w0, e0, e2, h3, h4, h5, h6⟩ := r
    obtain ⟨Cl', B, newId, initId, bmB, e3, T, hk⟩ := hx c l e8
    rw [hC, e3] at e2
    cases e2
    subst e0
    exact ⟨a, Cl, d, t1, f, w0, vt, _, B, newId, initId, bmB, rfl, hcv, T, h3, h4, hk, fun W2 => q _ H1 G1 X1 (pv_nf rfl rfl rfl) W2⟩
  · cases e9
theorem sn_strx (hC : p.C.mg = X.mg) (hu : X.A.units + 2 < cLine) (hx : XcOk X cs) (hg : Gl X "str") (hm : X.mg "str" = none) (ha : PE X e (tEv p ca))
    (he : starEach [e] X.env = (false, eval e X.env) :: starEach [] X.env := by rfl) : PE X (.Call (.Name "str" np) [e] [] pos) (tEv p (.str cs ca)) := pe_imp (pe_callTy (CallR.or (call_strX hu) SkE.call_str_str) hg hm (by rfl) (pa_cons ha pa_nil he) (by decide) (by decide) he rfl) fun σ H Q w ⟨O, τ, G, h⟩ => by
  unfold evE at h
  refine ev_one G h fun x τ1 v H1 G1 X1 P1 W1 h1 => ?_
  obtain ⟨t, e1, q⟩ := h1.ofO
  obtain ⟨k, e9, rfl⟩ := Option.map_eq_some_iff.mp e1
  unfold strT at e9
  split at e9
  · rename_i c f m t0
    split at e9 <;> cases e9
    rename_i hc
    have r : Rep p.C (Fo p.F0 O) H1 (.exc c f k t0) v := P1.bor.flat fun _ z => z
    obtain ⟨a, Cl, d, t1, w0, e0, e2, h3, h4, h5, h6⟩ := r
    obtain ⟨Cl', B, newId, initId, bmB, e3, T, hs⟩ := hx c hc
    rw [hC, e3] at e2
    cases e2
    subst e0
    exact .inl ⟨a, Cl, t1, some d, k, B, newId, initId, bmB, rfl, T, hs, h3, h5, fun W2 => q _ H1 G1 X1 (pv_nf rfl rfl rfl) W2⟩
  · cases e9
    have e0 := P1.bor.str
    subst e0
    exact .inr ⟨_, rfl, fun W2 => q _ H1 G1 X1 (pv_nf rfl rfl rfl) W2⟩
  · cases e9
end
end Tm

end

section
set_option linter.all false
set_option maxRecDepth 100000
set_option maxHeartbeats 4000000
namespace Tm
open PySem PySem.Spec PyProof.Rows L2

theorem fresh_ite {a b c : E} : fresh (.ite c a b) = false := rfl
section
variable {X : Cx} {p : Px} {a b e : Expr} {es rest : List Expr} {c ca cb cc cd : E} {pos np : Pos}
theorem Ext.qand {O : Ow} {H H1 H2 : Hp} {x y : Bool} (h1 : Ext p.C (qF p O x) H H1) (h2 : Ext p.C (qF p O y) H1 H2) : Ext p.C (qF p O (x && y)) H H2 := ext_q2 rfl h1 h2
theorem truT_ob {O : Ow} {σ : L2.St} {H : Hp} {β : Type} {k : β → Tau → Prop} {x : T} {a b n : Rs β} (h : Ob p O σ H (match truT x with | some true => a | some false => b | none => n) k) (hn : n = .no) : ∃ t, truT x = some t ∧ Ob p O σ H (if t = true then a else b) k := by
  subst hn
  split at h
  · rename_i e; exact ⟨true, e, h⟩
  · rename_i e; exact ⟨false, e, h⟩
  · exact h.elim
theorem sn_ite (hc : PT X e (tCv p cc)) (ha : PE X a (tEv p ca)) (hb : PE X b (tEv p cb)) (ba : isBor ca = false := by rfl) (bb : isBor cb = false := by rfl) :
    PE X (.IfExp e a b pos) (tEv p (.ite cc ca cb)) := pe_imp (pe_ifExp hc ha hb) fun σ H Q w ⟨O, τ, G, h⟩ => by
  unfold evE at h
  refine ⟨O, τ, G, Ob.bind' (h.bind.mono fun x τ1 h1 => ?_)⟩
  obtain ⟨t, e, h1⟩ := truT_ob h1 rfl
  rw [e]
  refine fun H1 G1 X1 W1 => ?_
  cases t with
  | true =>
    rw [if_pos rfl] at h1 ⊢
    exact ⟨O, τ1, G1, (h1.at (ext_q X1)).mono fun y τ2 h2 v H2 G2 X2 P2 W2 => fun _ => h2 v H2 G2 ((X1.qand X2).mono fun q z => qF_l q z) (pv_nf rfl rfl (P2.rep ba)) W2⟩
  | false =>
    rw [if_neg (by decide)] at h1 ⊢
    refine ⟨O, τ1, G1, (h1.at (ext_q X1)).mono fun y τ2 h2 v H2 G2 X2 P2 W2 => fun _ => h2 v H2 G2 ?_ (pv_nf rfl rfl (P2.rep bb)) W2⟩
    have x3 := X1.qand X2
    refine x3.mono fun q z => ?_
    show qF p O (quiet cc && quiet ca && quiet cb) q
    revert z
    cases quiet cc <;> cases quiet ca <;> cases quiet cb <;> intro z <;> first | exact z | exact qF_oo q z | exact z.elim
/-! ### items -/
theorem RepL.atI {C : Ct} {F : Fb} {H : Hp} {ts : List T} {vs : List V} {i : Int} {t : T} (h : RepL C F H ts vs) (e : L2.atI ts i = some t) : ∃ v, L2.atI vs i = some v ∧ Rep C F H t v := by
  unfold L2.atI at e ⊢
  rw [h.length]
  obtain ⟨j, e1, e2⟩ := Option.bind_eq_some_iff.mp e
  obtain ⟨v, h1, h2⟩ := h.get e2
  exact ⟨v, Option.bind_eq_some_iff.mpr ⟨j, e1, h1⟩, h2⟩
theorem sn_idx (hK : p.C.K = X.K) (ha : PE X a (tEv p ca)) (hb : PE X b (tEv p cb)) (hq : isBor ca = false ∨ quiet cb = true := by first | exact .inl rfl | exact .inr rfl) (hs : PlainIx b := by intro _ _; rfl) :
    PE X (.Subscript a b pos) (tEv p (.idx ca cb)) := pe_imp (pe_ix ix_seq ha hb hs) fun σ H Q w ⟨O, τ, G, h⟩ => by
  unfold evE at h
  refine ev_two hq G h fun x y τ2 v u H2 G2 X2 rx ry W2 h2 => ?_
  obtain ⟨t, e, k⟩ := h2.ofO
  unfold idxT at e
  split at e
  · obtain ⟨a, vs, rfl, h3, h4⟩ := rx.lst
    obtain ⟨v, h5, h6⟩ := h4.atI e
    exact .inl ⟨a, vs, _, v, rfl, ry.int, SqL.of h3, h5, fun W3 => k v H2 G2 X2 (pv_nf rfl rfl h6) W3⟩
  · obtain ⟨a, vs, rfl, h3, h4⟩ := rx.scr
    obtain ⟨v, h5, h6⟩ := h4.atI e
    exact .inl ⟨a, vs, _, v, rfl, ry.int, hK ▸ h3, h5, fun W3 => k v H2 G2 X2 (pv_nf rfl rfl h6) W3⟩
  · obtain ⟨a, vs, rfl, h3, h4⟩ := rx.tup
    obtain ⟨v, h5, h6⟩ := h4.atI e
    exact .inr (.inl ⟨a, vs, _, v, rfl, ry.int, hK ▸ h3, h5, fun W3 => k v H2 G2 X2 (pv_nf rfl rfl h6) W3⟩)
  · cases e
/-! ### slices -/
def tPv (p : Px) (c : E) : TO := fun σ H Q => ∃ O τ, Gd p O τ σ H ∧ Ob p O σ H (evP c τ) fun o τ' => ∀ H', Gd p O τ' σ H' → Ext p.C (qF p O (quiet c)) H H' → WF H' → Q o H'
def PSl (X : Cx) (p : Px) (e : Option Expr) (c : E) : Prop := PO X e (tPv p c)
theorem po_imp {e : Option Expr} {t u : TO} (h : PO X e t) (hi : ∀ σ H (Q : Option Int → Hp → Prop), WF H → u σ H Q → t σ H fun v H' => WF H' → Q v H') : PO X e u :=
  ⟨fun pins s σ H Q I q => thn (h.run pins s σ H _ I (hi σ H Q (wf_of I) q)) fun _ _ ⟨v, H', I', r, q'⟩ => ⟨v, H', I', r, q' (wf_of I')⟩⟩
theorem sl_no : PSl X p none .nil := po_imp po_none fun σ H Q w ⟨O, τ, G, h⟩ => by
  unfold evP at h
  exact fun W => h H G (Ext.refl _ _ _) W
theorem sl_at (he : PE X e (tEv p cc)) : PSl X p (some e) (.cons cc .nil) := po_imp (po_some he) fun σ H Q w ⟨O, τ, G, h⟩ => by
  unfold evP at h
  refine ev_one G h fun x τ1 v H1 G1 X1 P1 W1 h1 => ?_
  obtain ⟨o, e, k⟩ := h1.ofO
  unfold optI at e
  split at e <;> cases e
  exact ⟨_, P1.bor.int, fun W => k H1 G1 (X1.mono fun q z => by show qF p O (quiet cc && true) q; rw [Bool.and_true]; exact z) W⟩
theorem pv_get {O : Ow} {τ : Tau} {σ : L2.St} {H : Hp} {β : Type} {g : Option Int → Tau → Rs β} {k : β → Tau → Prop} {R : Option Int → Hp → Prop} (G0 : Gd p O τ σ H) (h : Ob p O σ H ((evP cc τ).bind g) k)
    (hR : ∀ x τ1 H1, Gd p O τ1 σ H1 → Ext p.C (qF p O (quiet cc)) H H1 → WF H1 → Ob p O σ H (g x τ1) k → R x H1) : tPv p cc σ H R :=
  ⟨O, τ, G0, h.bind.mono fun x τ1 h1 H1 G1 X1 W1 => hR x τ1 H1 G1 X1 W1 h1⟩
theorem RepL.cut {C : Ct} {F : Fb} {H : Hp} {ts : List T} {vs : List V} {lo hi : Option Int} (h : RepL C F H ts vs) : RepL C F H (cutT ts lo hi) (cutV vs lo hi) := by
  unfold cutT cutV
  rw [h.length]
  exact (h.drop _).take _
theorem cut_whole {ts : List T} {lo hi : Option Int} (h : HT.sIx ts.length 0 lo = 0 ∧ HT.sIx ts.length ts.length hi = ts.length) : cutT ts lo hi = ts := by
  unfold cutT
  rw [h.1, h.2]
  simp
theorem sn_slc {lo hi : Option Expr} {p2 : Pos} (hK : p.C.K = X.K) (ha : PE X a (tEv p ca)) (hl : PSl X p lo cb) (hh : PSl X p hi cc) (hq : (isBor ca = false ∨ (quiet cb && quiet cc) = true) := by first | exact .inl rfl | exact .inr rfl) :
    PE X (.Subscript a (.Slice lo hi none p2) pos) (tEv p (.slc ca cb cc)) := pe_imp (pe_slice (SlR.or sl_list sl_tupA) ha hl hh) fun σ H Q w ⟨O, τ, G, h⟩ => by
  unfold evE at h
  refine ev_one G h fun x τ1 v H1 G1 X1 P1 W1 h1 => ?_
  refine pv_get G1 (h1.at (ext_q X1)) fun l τ2 H2 G2 X2 W2 h2 => ?_
  refine pv_get G2 (h2.at (ext_q X2)) fun u τ3 H3 G3 X3 W3 h3 => ?_
  have X12 := X2.qand X3
  have rx : RepB p.C (Fo p.F0 O) H3 x v := by
    rcases hq with hq | hq
    · exact .inl (Rep.ext G1.fok (ext_q X12) x v (P1.rep hq))
    · rw [hq] at X12
      exact P1.bor.ext0 G1.fok X12
  have X13 : Ext p.C (qF p O (quiet ca && quiet cb && quiet cc)) H H3 := (X1.qand X2).qand X3
  obtain ⟨t, e, k⟩ := h3.ofO
  have g := gives_of (Q := Q) (c := .slc ca cb cc) (t := t) rfl (q := quiet ca && quiet cb && quiet cc) rfl G3 X13 k
  unfold slcT at e
  split at e <;> cases e
  · obtain ⟨b, vs, rfl, h4, h5⟩ := rx.lst
    exact .inl ⟨b, vs, rfl, SqL.of h4, fun q hq => g.lst G3.ft h5.cut hq⟩
  · obtain ⟨b, vs, rfl, h4, h5⟩ := rx.scr
    exact .inl ⟨b, vs, rfl, hK ▸ h4, fun q hq => g.lst G3.ft h5.cut hq⟩
  · obtain ⟨b, vs, rfl, h4, h5⟩ := rx.tup
    refine .inr ⟨b, vs, rfl, hK ▸ h4, fun z => ?_, fun z q hq => g.tup G3.ft h5.cut hq⟩
    rw [h5.length] at z
    rw [cut_whole z] at g
    exact g.tup0 h5 h4
/-! ### dicts of texts -/
theorem key_at : ∀ {ks : List Str} {ts : List T} {vs : List V} {C : Ct} {F : Fb} {H : Hp} {k : Str} {t : T}, RepL C F H ts vs → keyT ks ts k = some t → ∃ v, valV (zipK ks vs) (.inr k) = some v ∧ Rep C F H t v
  | [], ts, vs, C, F, H, k, t, h, e => by unfold keyT at e; cases e
  | _ :: _, [], vs, C, F, H, k, t, h, e => by unfold keyT at e; cases e
  | k0 :: ks, t0 :: ts, vs, C, F, H, k, t, h, e => by
    obtain ⟨v, r, rfl, h1, h2⟩ := h
    unfold keyT at e
    split at e
    · rename_i ek
      cases e
      exact ⟨v, valV_pos (congrArg Sum.inr ek), h1⟩
    · rename_i ek
      obtain ⟨w, h3, h4⟩ := key_at h2 e
      exact ⟨w, (valV_neg (fun z => ek (Sum.inr.inj z))).trans h3, h4⟩
theorem sn_key {k : Str} {j : Nat} {p2 : Pos} (hu : X.A.units + 1 < cLine) (ha : PE X a (tEv p ca)) (hs : NoSl (.Constant (.str k) j p2) := by intro _ _; rfl) : PE X (.Subscript a (.Constant (.str k) j p2) pos) (tEv p (.key ca k)) := pe_imp (pe_dget hu ha pe_str hs) fun σ H Q w ⟨O, τ, G, h⟩ => by
  unfold evE at h
  refine ev_one G h fun x τ1 v H1 G1 X1 P1 W1 h1 => ?_
  cases x with
  | dic ks ts =>
    obtain ⟨t, e, q⟩ := h1.ofO
    obtain ⟨b, vs, rfl, h3, hl, h4⟩ := P1.bor.dic
    obtain ⟨v, h5, h6⟩ := key_at h4 e
    exact ⟨b, v, rfl, .inl ⟨_, .inr k, .inl h3, rfl, h5.symm⟩, fun W3 => q v H1 G1 X1 (pv_nf rfl rfl h6) W3⟩
  | _ => exact h1.elim
/-! ### one argument -/
theorem sn_b1 {x : Str} {id : String} {r : List V → Hp → VK → Prop} {f : T → Option T} {c : E} (hr : CallR X (.builtin id) r) (hg : Gl X x) (hm : X.mg x = none) (hv : bootBuiltins x = some (.builtin id)) (ha : PE X a (tEv p ca))
    (hc : ∀ τ, evE c τ = (evE ca τ).bind fun x τ => ofO (f x) τ) (hq : quiet c = quiet ca)
    (hi : ∀ F H t v u Q, FT F H → RepB p.C F H t v → f t = some u → Gives p.C F H u Q → r [v] H Q) (hb : isBor c = false := by rfl)
    (he : starEach [a] X.env = (false, eval a X.env) :: starEach [] X.env := by rfl) (hn : x ≠ "__name__" := by decide) (hdb : (x == ("__debug__" : Str)) = false := by decide) : PE X (.Call (.Name x np) [a] [] pos) (tEv p c) :=
  pe_imp (pe_callB hr hg hm hv (pa_cons ha pa_nil he) hn hdb he rfl) fun σ H Q w ⟨O, τ, G, h⟩ => by
    rw [hc] at h
    refine ev_one G h fun x τ1 v H1 G1 X1 P1 W1 h1 => ?_
    obtain ⟨t, e, k⟩ := h1.ofO
    exact hi _ H1 x v t _ G1.ft P1.bor e (gives_of hb hq G1 X1 k)
theorem ints_of : ∀ {ts : List T} {vs : List V} {C : Ct} {F : Fb} {H : Hp} {ns : List Int}, intsT ts = some ns → RepL C F H ts vs → vs = ns.map V.int
  | [], vs, C, F, H, ns, e, h => by cases e; exact h
  | t :: ts, vs, C, F, H, ns, e, h => by
    obtain ⟨v, r, rfl, h1, h2⟩ := h
    unfold intsT at e
    split at e <;> (try (rename_i e0; cases e0))
    · obtain ⟨ms, e1, rfl⟩ := Option.map_eq_some_iff.mp e
      rw [ints_of e1 h2, show v = V.int _ from h1]
      rfl
    · cases e
theorem items_sq {C : Ct} {F : Fb} {H : Hp} {t : T} {v : V} {ts : List T} (e : itemsT t = some ts) (h : RepB C F H t v) : ∃ a vs, v = .ref a ∧ (SqL C.K H a vs ∨ SqT C.K H a vs) ∧ RepL C F H ts vs := by
  unfold itemsT at e
  split at e <;> cases e
  · obtain ⟨a, vs, rfl, h3, h4⟩ := h.lst
    exact ⟨a, vs, rfl, .inl (SqL.of h3), h4⟩
  · obtain ⟨a, vs, rfl, h3, h4⟩ := h.scr
    exact ⟨a, vs, rfl, .inl h3, h4⟩
  · obtain ⟨a, vs, rfl, h3, h4⟩ := h.tup
    exact ⟨a, vs, rfl, .inr h3, h4⟩
theorem lst_sq {C : Ct} {F : Fb} {H : Hp} {t : T} {v : V} {ts : List T} (e : lstT t = some ts) (h : RepB C F H t v) : ∃ a vs, v = .ref a ∧ SqL C.K H a vs ∧ RepL C F H ts vs := by
  unfold lstT at e
  split at e <;> cases e
  · obtain ⟨a, vs, rfl, h3, h4⟩ := h.lst
    exact ⟨a, vs, rfl, SqL.of h3, h4⟩
  · obtain ⟨a, vs, rfl, h3, h4⟩ := h.scr
    exact ⟨a, vs, rfl, h3, h4⟩
theorem sn_len (hK : p.C.K = X.K) (hg : Gl X "len") (hm : X.mg "len" = none) (ha : PE X a (tEv p ca)) (he : starEach [a] X.env = (false, eval a X.env) :: starEach [] X.env := by rfl) : PE X (.Call (.Name "len" np) [a] [] pos) (tEv p (.len ca)) :=
  sn_b1 (x := "len") (f := fun x => (itemsT x).map fun xs => .int xs.length) call_len hg hm (by rfl) ha (fun τ => by rw [evE]) rfl (fun F H t v u Q ft h e g => by
    obtain ⟨ts, e1, rfl⟩ := Option.map_eq_some_iff.mp e
    obtain ⟨b, vs, rfl, h3, h4⟩ := items_sq e1 h
    rw [hK] at h3
    rw [← h4.length] at g
    refine ⟨.ref b, vs.length, rfl, ?_, g.int⟩
    rcases h3 with h3 | h3
    · exact .inl ⟨vs, h3, rfl⟩
    · exact .inr ⟨vs, h3, rfl⟩) rfl he
theorem sn_sum (hK : p.C.K = X.K) (hc : X.calm = true) (hg : Gl X "sum") (hm : X.mg "sum" = none) (ha : PE X a (tEv p ca)) (he : starEach [a] X.env = (false, eval a X.env) :: starEach [] X.env := by rfl) : PE X (.Call (.Name "sum" np) [a] [] pos) (tEv p (.sum ca)) :=
  sn_b1 (x := "sum") (f := fun x => (lstT x).bind fun xs => (intsT xs).map fun is => .int is.sum) (cr_sum hc) hg hm (by rfl) ha (fun τ => by rw [evE]) rfl (fun F H t v u Q ft h e g => by
    obtain ⟨ts, e1, e2⟩ := Option.bind_eq_some_iff.mp e
    obtain ⟨ns, e3, rfl⟩ := Option.map_eq_some_iff.mp e2
    obtain ⟨b, vs, rfl, h3, h4⟩ := lst_sq e1 h
    rw [hK, ints_of e3 h4] at h3
    exact ⟨b, ns, rfl, h3, g.int⟩) rfl he
end
end Tm

end

section
set_option linter.all false
set_option maxRecDepth 100000
set_option maxHeartbeats 4000000
namespace Tm
open PySem PySem.Spec PyProof.Rows L2

/-- it leaves the slots as they are -/
def plainE : E → Bool
  | .var _ | .bor _ | .cst _ => true
  | .bin _ a b | .cmp _ a b | .and a b | .or a b | .idx a b => plainE a && plainE b
  | .neg a | .not a | .key a _ => plainE a
  | .ite a b c => plainE a && plainE b && plainE c
  | _ => false
theorem Rs.bind_ok {α β : Type} {r : Rs α} {f : α → Tau → Rs β} {b : β} {τ : Tau} (h : r.bind f = .ok b τ) : ∃ a τ1, r = .ok a τ1 ∧ f a τ1 = .ok b τ := by
  cases r with
  | ok a τ1 => exact ⟨a, τ1, rfl, h⟩
  | exc => cases h
  | no => cases h
theorem ofO_ok {α : Type} {o : Option α} {a : α} {τ τ1 : Tau} (h : ofO o τ1 = .ok a τ) : τ = τ1 := by
  cases o <;> cases h; rfl
theorem plain_tau : ∀ {c : E} {τ τ' : Tau} {t : T}, plainE c = true → evE c τ = .ok t τ' → τ' = τ
  | .var i, τ, τ', t, _, e => by
    unfold evE at e
    split at e <;> cases e; rfl
  | .bor i, τ, τ', t, _, e => by
    unfold evE at e
    split at e <;> cases e; rfl
  | .cst u, τ, τ', t, _, e => by
    unfold evE at e
    cases e; rfl
  | .bin o a b, τ, τ', t, hp, e => by
    unfold plainE at hp
    rw [Bool.and_eq_true] at hp
    unfold evE at e
    obtain ⟨x, τ1, e1, e⟩ := Rs.bind_ok e
    obtain ⟨y, τ2, e2, e⟩ := Rs.bind_ok e
    rw [ofO_ok e, plain_tau hp.2 e2, plain_tau hp.1 e1]
  | .cmp o a b, τ, τ', t, hp, e => by
    unfold plainE at hp
    rw [Bool.and_eq_true] at hp
    unfold evE at e
    obtain ⟨x, τ1, e1, e⟩ := Rs.bind_ok e
    obtain ⟨y, τ2, e2, e⟩ := Rs.bind_ok e
    rw [ofO_ok e, plain_tau hp.2 e2, plain_tau hp.1 e1]
  | .and a b, τ, τ', t, hp, e => by
    unfold plainE at hp
    rw [Bool.and_eq_true] at hp
    unfold evE at e
    obtain ⟨x, τ1, e1, e⟩ := Rs.bind_ok e
    split at e
    · rw [plain_tau hp.2 e, plain_tau hp.1 e1]
    · cases e; exact plain_tau hp.1 e1
    · cases e
  | .or a b, τ, τ', t, hp, e => by
    unfold plainE at hp
    rw [Bool.and_eq_true] at hp
    unfold evE at e
    obtain ⟨x, τ1, e1, e⟩ := Rs.bind_ok e
    split at e
    · cases e; exact plain_tau hp.1 e1
    · rw [plain_tau hp.2 e, plain_tau hp.1 e1]
    · cases e
  | .idx a b, τ, τ', t, hp, e => by
    unfold plainE at hp
    rw [Bool.and_eq_true] at hp
    unfold evE at e
    obtain ⟨x, τ1, e1, e⟩ := Rs.bind_ok e
    obtain ⟨y, τ2, e2, e⟩ := Rs.bind_ok e
    rw [ofO_ok e, plain_tau hp.2 e2, plain_tau hp.1 e1]
  | .neg a, τ, τ', t, hp, e => by
    unfold plainE at hp
    unfold evE at e
    obtain ⟨x, τ1, e1, e⟩ := Rs.bind_ok e
    split at e <;> cases e
    exact plain_tau hp e1
  | .not a, τ, τ', t, hp, e => by
    unfold plainE at hp
    unfold evE at e
    obtain ⟨x, τ1, e1, e⟩ := Rs.bind_ok e
    rw [ofO_ok e, plain_tau hp e1]
  | .key a k, τ, τ', t, hp, e => by
    unfold plainE at hp
    unfold evE at e
    obtain ⟨x, τ1, e1, e⟩ := Rs.bind_ok e
    split at e
    · rw [ofO_ok e, plain_tau hp e1]
    · cases e
  | .ite c a b, τ, τ', t, hp, e => by
    unfold plainE at hp
    rw [Bool.and_eq_true, Bool.and_eq_true] at hp
    unfold evE at e
    obtain ⟨x, τ1, e1, e⟩ := Rs.bind_ok e
    split at e
    · rw [plain_tau hp.1.2 e, plain_tau hp.1.1 e1]
    · rw [plain_tau hp.2 e, plain_tau hp.1.1 e1]
    · cases e
theorem flat_rep {C : Ct} {F : Fb} {H : Hp} {t : T} {v : V} (e : flatT t = some v) : Rep C F H t v := by
  unfold flatT at e
  split at e <;> cases e <;> exact rfl
theorem flatL_rep {C : Ct} {F : Fb} {H : Hp} : ∀ {ts : List T} {vs : List V}, flatTL ts = some vs → RepL C F H ts vs
  | [], vs, e => by cases e; exact rfl
  | t :: ts, vs, e => by
    unfold flatTL at e
    split at e
    · rename_i d ds e1 e2
      cases e
      exact ⟨d, ds, rfl, flat_rep e1, flatL_rep e2⟩
    · cases e
def kvP (ks : List Str) (vs : List V) : List (V × V) := (zipK ks vs).map fun kv => (kV kv.1, kv.2)
structure PDs (X : Cx) (p : Px) (pos : Pos) (keys : List (Option Expr)) (values : List Expr) (ks : List Str) (es : E) : Prop where
  ex : ∃ trs, PPs X pos keys values trs ∧ ∀ σ H (Q : List (V × V) → Hp → Prop) O τ, Gd p O τ σ H → (∃ ts vs τ', evA es τ = .ok ts τ' ∧ flatTL ts = some vs ∧ ∀ H', Ext p.C (fun _ => False) H H' → Q (kvP ks vs) H') → tPairs trs σ H Q
  pl : ∀ τ ts τ', evA es τ = .ok ts τ' → τ' = τ ∧ ts.length = ks.length
theorem mergeK_nd : ∀ (more kvs : List (Key × V)), (∀ kv ∈ more, ∀ kv' ∈ kvs, kv'.1 ≠ kv.1) → (more.map Prod.fst).Nodup → mergeK kvs more = kvs ++ more
  | [], kvs, _, _ => by simp [mergeK]
  | kv :: more, kvs, h, hn => by
    rw [List.map_cons, List.nodup_cons] at hn
    have e : putK kvs kv.1 kv.2 = kvs ++ [kv] := by
      unfold putK
      rw [if_neg]
      intro z
      obtain ⟨kv', h1, h2⟩ := List.any_eq_true.mp z
      exact h kv List.mem_cons_self kv' h1 (of_decide_eq_true h2)
    have e2 : mergeK kvs (kv :: more) = mergeK (kvs ++ [kv]) more := by
      show mergeK (putK kvs kv.1 kv.2) more = _
      rw [e]
    rw [e2, mergeK_nd more (kvs ++ [kv]) ?_ hn.2, List.append_assoc, List.singleton_append]
    intro x hx y hy
    rcases List.mem_append.mp hy with hy | hy
    · exact h x (List.mem_cons_of_mem _ hx) y hy
    · rw [List.mem_singleton.mp hy]
      exact fun z => hn.1 (by rw [z]; exact List.mem_map.mpr ⟨x, hx, rfl⟩)
theorem zipK_fst : ∀ {ks : List Str} {vs : List V}, ks.length = vs.length → (zipK ks vs).map Prod.fst = ks.map Sum.inr
  | [], vs, _ => rfl
  | k :: ks, v :: vs, e => by
    show Sum.inr k :: (zipK ks vs).map Prod.fst = _
    rw [zipK_fst (by simpa using e)]
    rfl
  | k :: ks, [], e => by cases e
theorem zipK_length {ks : List Str} {vs : List V} (e : ks.length = vs.length) : (zipK ks vs).length = ks.length := by
  unfold zipK
  rw [List.length_zip, List.length_map, e, Nat.min_self]
theorem nodup_inr : ∀ {ks : List Str}, ks.Nodup → (ks.map (Sum.inr : Str → Key)).Nodup
  | [], _ => List.nodup_nil
  | k :: ks, h => by
    rw [List.nodup_cons] at h
    rw [List.map_cons, List.nodup_cons]
    refine ⟨fun z => ?_, nodup_inr h.2⟩
    obtain ⟨y, h1, h2⟩ := List.mem_map.mp z
    exact h.1 (by rw [← Sum.inr.inj h2]; exact h1)
section
variable {X : Cx} {p : Px} {a b e : Expr} {es rest : List Expr} {c ca cb cc cd : E} {pos np : Pos} {keys : List (Option Expr)} {values : List Expr} {ks : List Str}
theorem pd_nil : PDs X p pos [] [] [] .nil := ⟨⟨[], pps_nil, fun σ H Q O τ G ⟨ts, vs, τ', e1, e2, h⟩ => by
  unfold evA at e1
  cases e1
  cases e2
  exact h H (Ext.refl _ _ _)⟩, fun τ ts τ' e => by
  unfold evA at e
  cases e
  exact ⟨rfl, rfl⟩⟩
theorem pd_cons {k : Str} {j : Nat} {p2 : Pos} (ha : PE X a (tEv p ca)) (hr : PDs X p pos keys values ks cb) (hp : plainE ca = true := by rfl) (hq : quiet ca = true := by rfl) :
    PDs X p pos (some (.Constant (.str k) j p2) :: keys) (a :: values) (k :: ks) (.cons ca cb) := by
  obtain ⟨trs, h1, h2⟩ := hr.ex
  refine ⟨⟨_, pps_cons pe_str ha h1, fun σ H Q O τ G ⟨ts, vs, τ', e1, e2, h⟩ => ?_⟩, fun τ ts τ' e => ?_⟩
  · unfold evA at e1
    obtain ⟨t, τ1, e3, e4⟩ := Rs.bind_ok e1
    obtain ⟨ts1, τ2, e5, e6⟩ := Rs.bind_ok e4
    cases e6
    obtain rfl := plain_tau hp e3
    unfold flatTL at e2
    split at e2
    · rename_i d ds e7 e8
      cases e2
      refine ⟨O, τ1, G, ?_⟩
      rw [e3]
      refine fun v H1 G1 X1 P1 W1 => h2 σ H1 _ O τ1 G1 ⟨ts1, ds, τ', e5, e8, fun H2 X2 => ?_⟩
      rw [hq] at X1
      have ev := (flat_of e7 P1.bor).1
      subst ev
      exact h H2 (Ext.trans X1 X2)
    · cases e2
  · unfold evA at e
    obtain ⟨t, τ1, e3, e4⟩ := Rs.bind_ok e
    obtain ⟨ts1, τ2, e5, e6⟩ := Rs.bind_ok e4
    cases e6
    obtain ⟨e7, e8⟩ := hr.pl _ _ _ e5
    exact ⟨e7.trans (plain_tau hp e3), by rw [List.length_cons, List.length_cons, e8]⟩
theorem sn_dic (hd : PDs X p pos keys values ks ca) (hq : quiet ca = true := by rfl) (hn : ks.Nodup := by decide) (hall : keys.all (·.isSome) = true := by rfl) (hl : keys.length = values.length := by rfl) (h0 : keys ≠ [] := by simp) (h15 : keys.length ≤ 15 := by decide) (h15' : ks.length ≤ 15 := by decide) :
    PE X (.Dict keys values pos) (tEv p (.dic ks ca)) := by
  obtain ⟨trs, h1, h2⟩ := hd.ex
  refine pe_imp (pe_disp h1 hall hl h0 h15) fun σ H Q w ⟨O, τ, G, h⟩ => ?_
  unfold evE at h
  intro q hq0
  have X0 : Ext p.C (fun _ => False) H (upd H q (.dK [])) := ext_new hq0
  cases e1 : evA ca τ with
  | no => rw [e1] at h; exact h.elim
  | exc k f t τ' => rw [e1] at h; exact h.elim
  | ok ts τ' =>
    rw [e1] at h
    obtain ⟨e2, e3⟩ := hd.pl _ _ _ e1
    subst e2
    replace h : Ob p O σ H (if ((flatTL ts).isSome && decide (ks.length = ts.length)) = true then Rs.ok (T.dic ks ts) τ' else .no) _ := h
    split at h
    · rename_i hf
      rw [Bool.and_eq_true, Option.isSome_iff_exists] at hf
      obtain ⟨⟨vs, e4⟩, _⟩ := hf
      have hvl : vs.length = ts.length := (flatL_rep (C := p.C) (F := fun _ => False) (H := H) e4).length
      refine h2 σ _ _ O τ' (G.ext0 X0) ⟨ts, vs, τ', e1, e4, fun H2 X2 => ?_⟩
      have hl2 : ks.length = vs.length := by omega
      have hp2 : H2 q = some (.dK []) := X2.at_ q _ (fun z => z) upd_same (nt_dK _)
      refine ⟨hp2, zipK ks vs, rfl, by rw [zipK_length hl2]; exact h15', ?_⟩
      rw [mergeK_nd _ _ (fun _ _ _ z => by cases z) (by rw [zipK_fst hl2]; exact nodup_inr hn), List.nil_append]
      intro W
      have XX : Ext p.C (fun _ => False) H (upd H2 q (.dK (zipK ks vs))) := by
        refine ⟨fun b o _ eb nt => ?_, fun b eb => ?_, fun j => ?_⟩
        · have nb := ne_of_none eb hq0
          rw [upd_ne nb]
          exact X2.at_ b o (fun z => z) (by rw [upd_ne nb]; exact eb) nt
        · by_cases nb : b = q
          · rw [nb]; exact hq0
          · rw [upd_ne nb] at eb
            have := X2.th b eb
            rwa [upd_ne nb] at this
        · refine p.C.hJ _ _ (fun b o eb sil => ?_) (X2.j (X0.j j))
          by_cases nb : b = q
          · rw [nb, hp2] at eb
            cases eb
            exact (nsil_dK _ sil).elim
          · rw [upd_ne nb]; exact eb
      have nf : ¬ Fo p.F0 O q := fun z => G.ftr q z hq0
      refine h (.ref q) _ (G.ext0 XX) (ext_any XX) ⟨fun _ => ⟨q, vs, rfl, nf, upd_same, e3.symm, flatL_rep e4⟩, .inl ⟨q, vs, rfl, nf, upd_same, e3.symm, flatL_rep e4⟩, (fun _ => ⟨q, rfl, hq0, vs, upd_same, e3.symm, flatL_rep e4⟩), fun _ _ a ea => by
        cases ea
        exact G.plus_ext XX hq0 (fun o eo => .inr ⟨_, by rw [upd_same] at eo; cases eo; rfl⟩) (fun z => by rw [upd_same] at z; cases z)⟩ W
    · exact h.elim
end
end Tm

end

section
set_option linter.all false
set_option maxRecDepth 100000
set_option maxHeartbeats 4000000
namespace Tm
open PySem PySem.Spec PyProof.Rows L2

/-- the walk J gives the trees, while nothing changes but at P -/
def IsW (C : Ct) (P F : Fb) (J : It) (ts : List T) (H : Hp) : Prop := ∃ G Y, Walk J ts.length G Y ∧ (∀ H1, Ext C P H H1 → G H1) ∧
  ∀ i t x H1 H2 F', ts[i]? = some t → Ext C P H H1 → (∀ a, F' a → F a ∨ H a = none) → FT F' H1 → Y i H1 x H2 → Ext C (fun _ => False) H1 H2 ∧ Rep C F' H2 t x
section
variable {C : Ct} {P F F' : Fb} {H H1 : Hp} {ts us : List T} {vs ws : List V} {J : It} {a b : Addr} {t u : T} {v : V}
theorem FOk.or (f : FOk F H) : FOk (fun a => F a ∨ H a = none) H := fun a o z e => by
  rcases z with z | z
  · exact f a o z e
  · rw [z] at e; cases e
theorem Rep.or (h : Rep C F H t v) : Rep C (fun a => F a ∨ H a = none) H t v := Rep.imp (fun a na z => by
  rcases z with z | z
  · exact z
  · exact (na z).elim) t v h
theorem Rep.less {F F' : Fb} (hs : ∀ a, F' a → F a) (h : Rep C F H t v) : Rep C F' H t v := Rep.imp (fun a _ z => hs a z) t v h
theorem RepL.less {F F' : Fb} (hs : ∀ a, F' a → F a) (h : RepL C F H ts vs) : RepL C F' H ts vs := RepL.imp (fun a _ z => hs a z) ts vs h
theorem Rep.move (f : FOk F H) (hs : ∀ a, P a → F a) (hF : ∀ a, F' a → F a ∨ H a = none) (x : Ext C P H H1) (h : Rep C F H t v) : Rep C F' H1 t v :=
  Rep.less hF (Rep.ext f.or (x.mono fun a z => .inl (hs a z)) t v h.or)
theorem isw_list (f : FOk F H) (hs : ∀ a, P a → F a) (hG : ∀ H1, Ext C P H H1 → SqL C.K H1 a vs) (r : RepL C F H ts vs) : IsW C P F (Itl C.K a) ts H :=
  ⟨_, _, r.length ▸ walk_list, hG, fun i t x H1 H2 F' e X hF ft ⟨e1, e2⟩ => by
    obtain ⟨v, h1, h2⟩ := r.get e
    rw [h1] at e2
    cases e2
    subst e1
    exact ⟨Ext.refl _ _ _, h2.move f hs hF X⟩⟩
theorem isw_tup (f : FOk F H) (hs : ∀ a, P a → F a) (h : SqT C.K H a vs) (r : RepL C F H ts vs) : IsW C P F (Itt C.K a) ts H :=
  ⟨_, _, r.length ▸ walk_tup, fun H1 x => sqt_ext f (x.mono hs) h, fun i t x H1 H2 F' e X hF ft ⟨e1, e2⟩ => by
    obtain ⟨v, h1, h2⟩ := r.get e
    rw [h1] at e2
    cases e2
    subst e1
    exact ⟨Ext.refl _ _ _, h2.move f hs hF X⟩⟩
theorem rngL_length (lo hi : Int) : (rngL lo hi).length = (hi - lo).toNat := by
  unfold rngL
  rw [List.length_map, List.length_range]
theorem isw_rng {lo hi : Int} : IsW C P F (Itr lo (hi - lo).toNat) (rngL lo hi) H := by
  have w : Walk (Itr lo (hi - lo).toNat) (rngL lo hi).length (fun _ => True) (YFn fun i => .int (lo + i)) := by rw [rngL_length]; exact walk_range
  refine ⟨_, _, w, fun H1 x => trivial, fun i t x H1 H2 F' e X hF ft ⟨e1, e2⟩ => ?_⟩
  subst e1 e2
  refine ⟨Ext.refl _ _ _, ?_⟩
  unfold rngL at e
  rw [List.getElem?_map] at e
  obtain ⟨j, h1, rfl⟩ := Option.map_eq_some_iff.mp e
  obtain ⟨hj, h2⟩ := List.getElem?_eq_some_iff.mp h1
  rw [List.getElem_range] at h2
  subst h2
  exact rfl
theorem pair_rep {T0 : Addr} {x y : V} (f : FOk F H1) (hT : H1 T0 = none) (r1 : Rep C F H1 t x) (r2 : Rep C F H1 u y) : Ext C (fun _ => False) H1 (upd H1 T0 (.tup [x, y])) ∧ Rep C F (upd H1 T0 (.tup [x, y])) (.tup [t, u]) (.ref T0) :=
  ⟨ext_new hT, T0, [x, y], rfl, SqT.of upd_same, x, [y], rfl, Rep.ext f (ext_new hT) t x r1, y, [], rfl, Rep.ext f (ext_new hT) u y r2, rfl⟩
theorem enmL_length (ts : List T) : (enmL ts).length = ts.length := by
  unfold enmL
  rw [List.length_map, List.length_zip, List.length_range, Nat.min_self]
theorem isw_enm (f : FOk F H) (hs : ∀ a, P a → F a) (hG : ∀ H1, Ext C P H H1 → SqL C.K H1 a vs) (r : RepL C F H ts vs) : IsW C P F (Ite C.K a) (enmL ts) H := by
  have w : Walk (Ite C.K a) (enmL ts).length (fun H => SqL C.K H a vs) (YPair (fun i => some (.int (i : Nat))) (fun i => vs[i]?)) := by rw [enmL_length, ← r.length]; exact walk_enum
  refine ⟨_, _, w, hG, fun i t x H1 H2 F' e X hF ft ⟨T0, y, z, e1, hT, e2, e3, e4⟩ => ?_⟩
  subst e1 e2
  cases e3
  unfold enmL at e
  rw [List.getElem?_map] at e
  obtain ⟨q, h1, rfl⟩ := Option.map_eq_some_iff.mp e
  obtain ⟨h2, h3⟩ := List.getElem?_zip_eq_some.mp h1
  obtain ⟨v, h4, h5⟩ := r.get h3
  replace e4 : vs[i]? = some z := e4
  rw [h4] at e4
  cases e4
  obtain ⟨hj, h6⟩ := List.getElem?_eq_some_iff.mp h2
  rw [List.getElem_range] at h6
  rw [← h6]
  exact pair_rep ft.ok hT (t := .int i) rfl (h5.move f hs hF X)
theorem zipL_length (ts us : List T) : (zipL ts us).length = min ts.length us.length := by
  unfold zipL
  rw [List.length_map, List.length_zip]
theorem zip_step {H2 : Hp} {i : Nat} {x : V} (f : FOk F H) (hs : ∀ a, P a → F a) (r : RepL C F H ts vs) (r2 : RepL C F H us ws) (e : (zipL ts us)[i]? = some t) (X : Ext C P H H1) (hF : ∀ a, F' a → F a ∨ H a = none) (ft : FT F' H1)
    (h : YPair (fun i => vs[i]?) (fun i => ws[i]?) i H1 x H2) : Ext C (fun _ => False) H1 H2 ∧ Rep C F' H2 t x := by
  obtain ⟨T0, y, z, e1, hT, e2, e3, e4⟩ := h
  subst e1 e2
  unfold zipL at e
  rw [List.getElem?_map] at e
  obtain ⟨q, h1, rfl⟩ := Option.map_eq_some_iff.mp e
  obtain ⟨h2, h3⟩ := List.getElem?_zip_eq_some.mp h1
  obtain ⟨v, h4, h5⟩ := r.get h2
  obtain ⟨w, h6, h7⟩ := r2.get h3
  replace e3 : vs[i]? = some y := e3
  replace e4 : ws[i]? = some z := e4
  rw [h4] at e3
  rw [h6] at e4
  cases e3
  cases e4
  exact pair_rep ft.ok hT (h5.move f hs hF X) (h7.move f hs hF X)
theorem isw_zip (f : FOk F H) (hs : ∀ a, P a → F a) (hG : ∀ H1, Ext C P H H1 → SqL C.K H1 a vs) (r : RepL C F H ts vs) (hG2 : ∀ H1, Ext C P H H1 → SqL C.K H1 b ws) (r2 : RepL C F H us ws) : IsW C P F (Itz C.K a b) (zipL ts us) H :=
  ⟨_, _, walk_zip (by rw [zipL_length, r.length, r2.length]), fun H1 x => ⟨hG H1 x, hG2 H1 x⟩, fun i t x H1 H2 F' e X hF ft y => zip_step f hs r r2 e X hF ft y⟩
theorem isw_rev (f : FOk F H) (hs : ∀ a, P a → F a) (hG : ∀ H1, Ext C P H H1 → SqL C.K H1 a vs) (r : RepL C F H ts vs) : IsW C P F (Itv C.K a vs.length) ts.reverse H := by
  have w : Walk (Itv C.K a vs.length) ts.reverse.length (fun H => SqL C.K H a vs) (fun i H x H' => H' = H ∧ vs[vs.length - 1 - i]? = some x) := by rw [List.length_reverse, ← r.length]; exact walk_rev
  refine ⟨_, _, w, hG, fun i t x H1 H2 F' e X hF ft ⟨e1, e2⟩ => ?_⟩
  subst e1
  have hi : i < ts.reverse.length := (List.getElem?_eq_some_iff.mp e).1
  rw [List.length_reverse] at hi
  rw [List.getElem?_reverse hi, ← r.length] at e
  obtain ⟨v, h1, h2⟩ := r.get e
  rw [h1] at e2
  cases e2
  exact ⟨Ext.refl _ _ _, h2.move f hs hF X⟩
end
def isBorI : E → Bool
  | .itr a | .enm a | .rvd a => isBor a
  | .zip a b => isBor a || isBor b
  | _ => false
def iP (p : Px) (O : Ow) (b : Bool) : Fb := if b = true then fun _ => False else Fo p.F0 O
theorem iP_sub {p : Px} {O : Ow} {b : Bool} (a : Addr) (h : iP p O b a) : Fo p.F0 O a := by
  unfold iP at h
  split at h
  · exact h.elim
  · exact h
theorem iP_f {p : Px} {O : Ow} {a : Addr} (h : ¬ Fo p.F0 O a) : ¬ iP p O false a := h
theorem iP_t {p : Px} {O : Ow} {a : Addr} : ¬ iP p O true a := id
def tIv (p : Px) (c : E) : TI := fun σ H R => ∃ O τ, Gd p O τ σ H ∧ Ob p O σ H (evI c τ) fun ts τ' => ∀ J H', Gd p O τ' σ H' → Ext p.C (qF p O (quiet c)) H H' → IsW p.C (iP p O (isBorI c)) (Fo p.F0 O) J ts H' → WF H' → R J H'
theorem pi_imp {X : Cx} {tg it : Expr} {t u : TI} (h : PI X tg it t) (hi : ∀ σ H (R : It → Hp → Prop), WF H → u σ H R → t σ H fun J H' => WF H' → R J H') : PI X tg it u :=
  ⟨fun pins s σ H R I q => thn (h.run pins s σ H _ I (hi σ H R (wf_of I) q)) fun v s1 h1 => thn h1 fun itv s2 ⟨it, fp, tn, J, H', e, I', T, z1, z2, q'⟩ => ⟨it, fp, tn, J, H', e, I', T, z1, z2, q' (wf_of I')⟩⟩
/-- a list or a tuple -/
def iSq (K : PySem.W.Frag) (tl : TE) : TI := fun σ H R => tl σ H fun x H1 => ∃ a, x = .ref a ∧ (((∃ xs, SqL K H1 a xs) ∧ R (Itl K a) H1) ∨ ((∃ xs, SqT K H1 a xs) ∧ R (Itt K a) H1))
section
variable {X : Cx} {tg : Expr}
theorem pi_sq {l : Expr} {tl : TE} (hl : PE X l tl) : PI X tg l (iSq X.K tl) := by
  refine ⟨fun pins s σ H R I h => ?_⟩
  refine thn (hl.run pins s σ H _ I h) fun v s1 ⟨x, H1, I1, r1, q1⟩ => ?_
  obtain ⟨a, e, ⟨⟨xs, hq⟩, q⟩ | ⟨⟨xs, hq⟩, q⟩⟩ := q1
  · subst e
    cases r1
    obtain ⟨its, rv, p, hz⟩ := I1.list hq
    refine wpAny_pyIter_list p.isList ?_
    refine ⟨s1.heap.objs.size, [s1.heap.objs.size], _, _, H1, rfl, I1.kept (t' := s1.toks) fun b o e => Heap.get?_push_of_some _ e, turn_list a _, ⟨_, Heap.get?_push_size _ rfl, rfl, rfl⟩, fun b hb => ?_, q⟩
    have e : b = s1.heap.objs.size := by simpa using hb
    subst e
    exact I1.fpOk (Nat.le_refl _) (I1.hok.fresh (Nat.le_refl _))
  · subst e
    cases r1
    obtain ⟨its, rv, p, hz⟩ := I1.tuple hq
    refine wpAny_pyIter_tuple (show s1.heap.IsTuple a its.toArray from p) ?_
    refine ⟨s1.heap.objs.size, [s1.heap.objs.size], _, _, H1, rfl, I1.kept (t' := s1.toks) fun b o e => Heap.get?_push_of_some _ e, turn_tuple a _, ⟨_, Heap.get?_push_size _ rfl, rfl, rfl⟩, fun b hb => ?_, q⟩
    have e : b = s1.heap.objs.size := by simpa using hb
    subst e
    exact I1.fpOk (Nat.le_refl _) (I1.hok.fresh (Nat.le_refl _))
end
section
variable {X : Cx} {p : Px} {tg a b e : Expr} {ca cb : E} {pos np tpos : Pos} {elts : List Expr} {kk : Nat}
theorem bor_rd {O : Ow} {τ' : Tau} {σ : L2.St} {c : E} {H H' : Hp} {t : T} {v : V} {ts : List T} (P : PV p O τ' σ c H t v H') (e : lstT t = some ts) : ∃ a vs, v = .ref a ∧ (∀ H1, Ext p.C (iP p O (isBor c)) H' H1 → SqL p.C.K H1 a vs) ∧ RepL p.C (Fo p.F0 O) H' ts vs := by
  unfold lstT at e
  split at e <;> cases e
  · cases hb : isBor c with
    | false =>
      obtain ⟨a, vs, rfl, n, h3, h4⟩ := P.rep hb
      exact ⟨a, vs, rfl, fun H1 x => .inl (rd_ext x n (.inl h3)), h4⟩
    | true =>
      obtain ⟨a, vs, rfl, h3, h4⟩ := P.bor.lst
      exact ⟨a, vs, rfl, fun H1 x => .inl (rd_ext x iP_t (.inl h3)), h4⟩
  · have r : Rep p.C (Fo p.F0 O) H' (.scr ts) v := P.bor.flat fun _ z => z
    obtain ⟨a, vs, rfl, h3, h4⟩ := r
    refine ⟨a, vs, rfl, fun H1 x => ?_, h4⟩
    rcases h3 with h3 | h3
    · exact .inl (rd_ext x (fun z => h3.1 (iP_sub a z)) h3.2)
    · exact .inr h3
theorem si_itr (hK : p.C.K = X.K) (ha : PE X a (tEv p ca)) : PI X tg a (tIv p (.itr ca)) := pi_imp (pi_sq ha) fun σ H Q w ⟨O, τ, G, h⟩ => by
  unfold evI at h
  refine ev_one G h fun x τ1 v H1 G1 X1 P1 W1 h1 => ?_
  obtain ⟨ts, e, q⟩ := h1.ofO
  rw [← hK]
  cases x with
  | lst xs =>
    cases e
    obtain ⟨a, vs, rfl, h3, h4⟩ := bor_rd P1 rfl
    exact ⟨a, rfl, .inl ⟨⟨vs, h3 H1 (Ext.refl _ _ _)⟩, fun W => q _ H1 G1 X1 (isw_list G1.fok iP_sub h3 h4) W⟩⟩
  | scr xs =>
    cases e
    obtain ⟨a, vs, rfl, h3, h4⟩ := bor_rd P1 rfl
    exact ⟨a, rfl, .inl ⟨⟨vs, h3 H1 (Ext.refl _ _ _)⟩, fun W => q _ H1 G1 X1 (isw_list G1.fok iP_sub h3 h4) W⟩⟩
  | tup xs =>
    cases e
    obtain ⟨a, vs, rfl, h3, h4⟩ := P1.bor.tup
    exact ⟨a, rfl, .inr ⟨⟨vs, h3⟩, fun W => q _ H1 G1 X1 (isw_tup G1.fok iP_sub h3 h4) W⟩⟩
  | _ => cases e
theorem si_enm (hK : p.C.K = X.K) (hg : Gl X "enumerate") (hm : X.mg "enumerate" = none) (ha : PE X a (tEv p ca)) (he : starEach [a] X.env = [(false, eval a X.env)] := by rfl) :
    PI X (.Tuple elts kk tpos) (.Call (.Name "enumerate" np) [a] [] pos) (tIv p (.enm ca)) := pi_imp (pi_enum hg hm (pa_cons ha pa_nil he) he) fun σ H Q w ⟨O, τ, G, h⟩ => by
  unfold evI at h
  refine ev_one G h fun x τ1 v H1 G1 X1 P1 W1 h1 => ?_
  obtain ⟨ts, e, q⟩ := h1.ofO
  obtain ⟨xs, e1, rfl⟩ := Option.map_eq_some_iff.mp e
  obtain ⟨a, vs, rfl, h3, h4⟩ := bor_rd P1 e1
  rw [← hK]
  exact ⟨a, vs, rfl, h3 H1 (Ext.refl _ _ _), fun W => q _ H1 G1 X1 (isw_enm G1.fok iP_sub h3 h4) W⟩
theorem ev_two' {O : Ow} {τ : Tau} {σ : L2.St} {H : Hp} {β : Type} {g : T → T → Tau → Rs β} {k : β → Tau → Prop} {R : List V → Hp → Prop} (ha : isBor ca = false) (hb : isBor cb = false) (G0 : Gd p O τ σ H)
    (h : Ob p O σ H ((evE ca τ).bind fun x τ => (evE cb τ).bind fun y τ => g x y τ) k)
    (hR : ∀ x y τ2 v u H2, Gd p O τ2 σ H2 → Ext p.C (qF p O (quiet ca && quiet cb)) H H2 → Rep p.C (Fo p.F0 O) H2 x v → Rep p.C (Fo p.F0 O) H2 y u → WF H2 → Ob p O σ H (g x y τ2) k → R [v, u] H2) :
    tCons (tEv p ca) (tCons (tEv p cb) tNil) σ H R := by
  refine ⟨O, τ, G0, h.bind.mono fun x τ1 h1 v H1 G1 X1 P1 W1 => ⟨O, τ1, G1, (h1.bind.at (ext_q X1)).mono fun y τ2 h2 u H2 G2 X2 P2 W2 => ?_⟩⟩
  exact hR x y τ2 v u H2 G2 (ext_q2 rfl X1 X2) (Rep.ext G1.fok (ext_q X2) x v (P1.rep ha)) (P2.rep hb) W2 h2
theorem si_rng (hg : Gl X "range") (hm : X.mg "range" = none) (ha : PE X a (tEv p ca)) (he : starEach [a] X.env = [(false, eval a X.env)] := by rfl) :
    PI X tg (.Call (.Name "range" np) [a] [] pos) (tIv p (.rng ca)) := pi_imp (pi_range1 hg hm (pa_cons ha pa_nil he) he) fun σ H Q w ⟨O, τ, G, h⟩ => by
  unfold evI at h
  refine ev_one G h fun x τ1 v H1 G1 X1 P1 W1 h1 => ?_
  obtain ⟨ts, e, q⟩ := h1.ofO
  unfold rng1T at e
  split at e
  · rename_i j
    split at e <;> cases e
    rename_i hj
    unfold rngOk at hj
    simp only [Bool.and_eq_true, decide_eq_true_eq] at hj
    have ev := P1.bor.int
    subst ev
    refine ⟨j, rfl, hj.1, hj.2, fun W => ?_⟩
    have z := isw_rng (C := p.C) (P := iP p O false) (F := Fo p.F0 O) (lo := 0) (hi := j) (H := H1)
    rw [Int.sub_zero] at z
    exact q _ H1 G1 X1 z W
  · cases e
theorem si_rng2 (hg : Gl X "range") (hm : X.mg "range" = none) (ha : PE X a (tEv p ca)) (hb : PE X b (tEv p cb)) (ba : isBor ca = false := by rfl) (bb : isBor cb = false := by rfl) (hs : starEach [a, b] X.env = [(false, eval a X.env), (false, eval b X.env)] := by rfl) (hs2 : starEach [b] X.env = [(false, eval b X.env)] := by rfl) :
    PI X tg (.Call (.Name "range" np) [a, b] [] pos) (tIv p (.rng2 ca cb)) := pi_imp (pi_range2 hg hm (pa_cons ha (pa_cons hb pa_nil hs2) (by rw [hs, hs2])) hs hs2) fun σ H Q w ⟨O, τ, G, h⟩ => by
  unfold evI at h
  refine ev_two' ba bb G h fun x y τ2 v u H2 G2 X2 rx ry W2 h2 => ?_
  obtain ⟨ts, e, q⟩ := h2.ofO
  unfold rng2T at e
  split at e
  · rename_i i j
    split at e <;> cases e
    rename_i hj
    unfold rngOk at hj
    simp only [Bool.and_eq_true, decide_eq_true_eq] at hj
    cases (show v = .int i from rx)
    cases (show u = .int j from ry)
    exact ⟨i, j, rfl, ⟨hj.1.1, hj.1.2, hj.2.1, hj.2.2⟩, fun W => q _ H2 G2 X2 isw_rng W⟩
  · cases e
end
end Tm

end

section
set_option linter.all false
set_option maxRecDepth 100000
set_option maxHeartbeats 4000000
namespace Tm
open PySem PySem.Spec PyProof.Rows L2

section
variable {p : Px} {O O1 O2 : Ow} {τ τ' : Tau} {σ σ' : L2.St} {H H1 H2 H' : Hp} {i j : Nat} {t : T} {v : V} {a : Addr} {o : HO}
/-- from one state to a later one -/
structure Stp (p : Px) (O : Ow) (H : Hp) (O' : Ow) (H' : Hp) : Prop where
  ext : Ext p.C (Fo p.F0 O) H H'
  sub : ∀ a, Fo p.F0 O' a → Fo p.F0 O a ∨ H a = none
theorem Stp.refl : Stp p O H O H := ⟨Ext.refl _ _ _, fun _ z => .inl z⟩
theorem Stp.trans (x : Stp p O H O1 H1) (y : Stp p O1 H1 O2 H2) : Stp p O H O2 H2 where
  ext := ⟨fun b u n e nt => y.ext.at_ b u (fun z => by
    rcases x.sub b z with z | z
    · exact n z
    · rw [z] at e; cases e) (x.ext.at_ b u n e nt) nt, fun b e => x.ext.th b (y.ext.th b e), fun z => y.ext.j (x.ext.j z)⟩
  sub := fun b z => by
    rcases y.sub b z with z | z
    · exact x.sub b z
    · exact .inr (x.ext.th b z)
theorem Stp.of (x : Ext p.C (Fo p.F0 O) H H') : Stp p O H O H' := ⟨x, fun _ z => .inl z⟩

theorem set_get {α : Type} {l : List (Option α)} {i j : Nat} {x : α} {y : Option α} (h : (l.set i y)[j]? = some (some x)) : (i = j ∧ y = some x ∧ i < l.length) ∨ (i ≠ j ∧ l[j]? = some (some x)) := by
  by_cases e : i = j
  · subst e
    rw [List.getElem?_set] at h
    simp only [if_true] at h
    split at h
    · rename_i hl
      exact .inl ⟨rfl, Option.some.inj h, hl⟩
    · cases h
  · rw [List.getElem?_set_ne e] at h
    exact .inr ⟨e, h⟩
/-- a slot that owns nothing is set -/
theorem Gd.set_plain (G : Gd p O τ σ H) (hi : i ∉ p.M) (r : Rep p.C (Fo p.F0 O) H t v) : Gd p O (τ.set i (some t)) (σ.set i (some v)) H where
  len := by rw [List.length_set, List.length_set, G.len]
  fok := G.fok
  ftr := G.ftr
  own := fun j u hj h => by
    rcases set_get h with ⟨e, _, _⟩ | ⟨ne, h⟩
    · exact (hi (e ▸ hj)).elim
    · obtain ⟨b, h1, h2, h3⟩ := G.own j u hj h
      exact ⟨b, h1, (List.getElem?_set_ne ne).trans h2, h3⟩
  plain := fun j u hj h => by
    rcases set_get h with ⟨e, eu, hl⟩ | ⟨ne, h⟩
    · cases eu
      subst e
      exact ⟨v, by rw [List.getElem?_set_self (by rw [← G.len]; exact hl)], r⟩
    · obtain ⟨w, h1, h2⟩ := G.plain j u hj h
      exact ⟨w, (List.getElem?_set_ne ne).trans h1, h2⟩
  odom := G.odom
  ona := G.ona
  oni := G.oni
  kp := G.kp
  j0 := G.j0
  ext := G.ext
theorem Top.less {C : Ct} {F F' : Fb} {H : Hp} {a : Addr} (hs : ∀ b, F' b → F b) : ∀ {t : T}, Top C F H a t → Top C F' H a t
  | .lst ts, ⟨vs, h1, h2⟩ => ⟨vs, h1, h2.less hs⟩
  | .dic ks ts, ⟨vs, h1, hl, h2⟩ => ⟨vs, h1, hl, h2.less hs⟩
def NoIo (p : Px) : Prop := ∀ a, ¬ p.io a
def newO (O : Ow) (i : Nat) (a : Addr) : Ow := (i, a) :: O.filter (fun q => q.1 != i)
theorem newO_mem {b : Addr} {j : Nat} (h : (j, b) ∈ newO O i a) : (j = i ∧ b = a) ∨ (j ≠ i ∧ (j, b) ∈ O) := by
  unfold newO at h
  rcases List.mem_cons.mp h with h | h
  · cases h; exact .inl ⟨rfl, rfl⟩
  · rw [List.mem_filter] at h
    exact .inr ⟨by simpa using h.2, h.1⟩
theorem newO_old {b : Addr} {j : Nat} (h : (j, b) ∈ O) (n : j ≠ i) : (j, b) ∈ newO O i a := List.mem_cons_of_mem _ (List.mem_filter.mpr ⟨h, by simpa using n⟩)
theorem newO_sub (b : Addr) (h : Fo p.F0 (newO O i a) b) : Fo p.F0 O b ∨ b = a := by
  rcases h with h | ⟨j, h⟩
  · exact .inl (.inl h)
  · rcases newO_mem h with ⟨_, h⟩ | ⟨_, h⟩
    · exact .inr h
    · exact .inl (.inr ⟨j, h⟩)
theorem plus_of (b : Addr) (h : Fo p.F0 O b ∨ b = a) : Fo (p.plus a).F0 O b := by
  rcases h with (h | h) | h
  · exact .inl (.inl h)
  · exact .inr h
  · exact .inl (.inr h)
/-- a slot comes to own a new list or dict -/
theorem Gd.set_own (G : Gd (p.plus a) O τ σ H) (hi : i ∈ p.M) (hF : ¬ p.F0 a) (h0 : p.H0 a = none) (ht : Top p.C (fun b => Fo p.F0 O b ∨ b = a) H a t) (hio : NoIo p ∨ i ≠ 0) :
    Gd p (newO O i a) (τ.set i (some t)) (σ.set i (some (.ref a))) H where
  len := by rw [List.length_set, List.length_set, G.len]
  fok := fun b u z e => G.fok b u (plus_of b (newO_sub b z)) e
  ftr := fun b z => G.ftr b (plus_of b (newO_sub b z))
  own := fun j u hj h => by
    rcases set_get h with ⟨e, eu, hl⟩ | ⟨ne, h⟩
    · cases eu
      subst e
      exact ⟨a, List.mem_cons_self, by rw [List.getElem?_set_self (by rw [← G.len]; exact hl)], ht.less fun b z => newO_sub b z⟩
    · obtain ⟨b, h1, h2, h3⟩ := G.own j u hj h
      exact ⟨b, newO_old h1 (Ne.symm ne), (List.getElem?_set_ne ne).trans h2, h3.less fun b z => plus_of b (newO_sub b z)⟩
  plain := fun j u hj h => by
    rcases set_get h with ⟨e, eu, hl⟩ | ⟨ne, h⟩
    · exact (hj (e ▸ hi)).elim
    · obtain ⟨w, h1, h2⟩ := G.plain j u hj h
      exact ⟨w, (List.getElem?_set_ne ne).trans h1, h2.less fun b z => plus_of b (newO_sub b z)⟩
  odom := fun j b h => by
    rcases newO_mem h with ⟨e1, e2⟩ | ⟨_, h⟩
    · subst e1 e2
      exact ⟨hi, hF, .inr h0⟩
    · obtain ⟨h1, h2, h3⟩ := G.odom j b h
      exact ⟨h1, fun z => h2 (.inl z), h3⟩
  ona := fun j k b h1 h2 => by
    rcases newO_mem h1 with ⟨e1, e2⟩ | ⟨_, h1⟩ <;> rcases newO_mem h2 with ⟨e3, e4⟩ | ⟨_, h2⟩
    · rw [e1, e3]
    · exact ((G.odom k b h2).2.1 (.inr e2)).elim
    · exact ((G.odom j b h1).2.1 (.inr e4)).elim
    · exact G.ona j k b h1 h2
  oni := fun j b c h1 h2 => by
    rcases newO_mem h1 with ⟨e1, e2⟩ | ⟨n1, h1⟩ <;> rcases newO_mem h2 with ⟨e3, e4⟩ | ⟨n2, h2⟩
    · rw [e2, e4]
    · exact (n2 e1).elim
    · exact (n1 e3).elim
    · exact G.oni j b c h1 h2
  kp := fun b hb => by
    rcases hio with hio | hio
    · exact (hio b hb).elim
    · exact newO_old (G.kp b hb) (Ne.symm hio)
  j0 := G.j0
  ext := G.ext
/-- .. changes it -/
theorem Gd.own_upd (G : Gd p O τ σ H) (hO : (i, a) ∈ O) (hs : σ[i]? = some (some (.ref a))) {u : HO} (hu : H a = some u) (ho : (∃ vs, o = .lst vs) ∨ ∃ kvs, o = .dK kvs)
    (ht : Top p.C (Fo p.F0 O) (upd H a o) a t) : Gd p O (τ.set i (some t)) σ (upd H a o) := by
  have fa : Fo p.F0 O a := .inr ⟨i, hO⟩
  have nsu : ¬ Sil u := by
    rcases G.fok a u fa hu with ⟨vs, rfl⟩ | ⟨vs, rfl⟩
    · exact nsil_lst _
    · exact nsil_dK _
  have X : Ext p.C (Fo p.F0 O) H (upd H a o) := ext_mut hu nsu fa
  refine { len := by rw [List.length_set, G.len], fok := fun b w z e => ?_, ftr := fun b z => ?_, own := fun j w hj h => ?_, plain := fun j w hj h => ?_, odom := G.odom, ona := G.ona, oni := G.oni, kp := G.kp, j0 := G.j0, ext := ⟨fun b w n e nt => ?_, fun b e => ?_, fun z => ?_⟩ }
  · by_cases hb : b = a
    · rw [hb, upd_same] at e; cases e; exact ho
    · rw [upd_ne hb] at e; exact G.fok b w z e
  · by_cases hb : b = a
    · rw [hb, upd_same]; exact fun z => by cases z
    · rw [upd_ne hb]; exact G.ftr b z
  · rcases set_get h with ⟨e, eu, hl⟩ | ⟨ne, h⟩
    · cases eu
      subst e
      exact ⟨a, hO, hs, ht⟩
    · obtain ⟨b, h1, h2, h3⟩ := G.own j w hj h
      have hb : b ≠ a := fun z => ne (G.ona i j a hO (z ▸ h1))
      exact ⟨b, h1, h2, Top.ext G.fok X (upd_ne hb) h3⟩
  · rcases set_get h with ⟨e, eu, hl⟩ | ⟨ne, h⟩
    · exact (hj (e ▸ (G.odom i a hO).1)).elim
    · obtain ⟨w1, h1, h2⟩ := G.plain j w hj h
      exact ⟨w1, h1, Rep.ext G.fok X w w1 h2⟩
  · have hb : b ≠ a := fun z => by
      rcases (G.odom i a hO).2.2 with q | q
      · exact n (z ▸ q)
      · rw [z, q] at e; cases e
    rw [upd_ne hb]
    exact G.ext.at_ b w n e nt
  · exact G.ext.th b (X.th b e)
  · exact X.j (G.ext.j z)
end
end Tm

end

section
set_option linter.all false
set_option maxRecDepth 100000
set_option maxHeartbeats 4000000
namespace Tm
open PySem PySem.Spec PyProof.Rows L2

/-! ### targets -/
mutual
def gVars : G → List Nat
  | .nm i => [i]
  | .tp g => gVarsL g
  | .nil => []
  | .cons g r => gVars g ++ gVarsL r
def gVarsL : G → List Nat
  | .nm _ => []
  | .tp _ => []
  | .nil => []
  | .cons g r => gVars g ++ gVarsL r
end
/-- the slots vs aside, as it was -/
structure Sam (vs : List Nat) (σ σ' : L2.St) : Prop where
  len : σ'.length = σ.length
  at_ : ∀ j, j ∉ vs → σ'[j]? = σ[j]?
theorem Sam.refl {vs : List Nat} {σ : L2.St} : Sam vs σ σ := ⟨rfl, fun _ _ => rfl⟩
theorem Sam.trans {vs ws : List Nat} {σ σ1 σ2 : L2.St} (x : Sam vs σ σ1) (y : Sam ws σ1 σ2) : Sam (vs ++ ws) σ σ2 :=
  ⟨y.len.trans x.len, fun j h => (y.at_ j fun z => h (List.mem_append_right _ z)).trans (x.at_ j fun z => h (List.mem_append_left _ z))⟩
mutual
def gLen : G → Nat
  | .nm _ => 0
  | .tp _ => 0
  | .nil => 0
  | .cons _ r => gLen r + 1
end
mutual
def gOf (K : PySem.W.Frag) : G → TG
  | .nm i => gName i
  | .tp g => gTup K (gLen g) (gsOf K g)
  | .nil => gName 0
  | .cons _ _ => gName 0
def gsOf (K : PySem.W.Frag) : G → TGs
  | .nm _ => gNil
  | .tp _ => gNil
  | .nil => gNil
  | .cons g r => gCons (gOf K g) (gsOf K r)
end
def isNm : G → Bool
  | .nm _ | .tp _ => true
  | _ => false
abbrev PGv (X : Cx) (tg : Expr) (g : G) : Prop := PG X tg (gOf X.K g)
abbrev PGsv (X : Cx) (tgs : List Expr) (g : G) : Prop := PGs X tgs (gsOf X.K g) ∧ gLen g = tgs.length
section
variable {p : Px} {K : PySem.W.Frag}
mutual
theorem gOf_run (hK : p.C.K = K) : ∀ {g : G} {v : V} {σ : L2.St} {H : Hp} {Q : L2.St → Hp → Prop} {t0 : T} {O : Ow} {τ τ' : Tau}, (∀ i ∈ gVars g, i ∉ p.M) → Gd p O τ σ H → Rep p.C (Fo p.F0 O) H t0 v → asgG g t0 τ = some τ' → (∀ σ', Gd p O τ' σ' H → Sam (gVars g) σ σ' → Q σ' H) → gOf K g v σ H Q
  | .nm i, v, σ, H, Q, t0, O, τ, τ', hM, G, r, e, q => by
    unfold asgG at e
    split at e <;> cases e
    unfold gOf
    exact q _ (G.set_plain (hM i (List.mem_singleton.mpr rfl)) r) ⟨List.length_set .., fun j h => List.getElem?_set_ne (fun z => h (by rw [z]; exact List.mem_singleton.mpr rfl))⟩
  | .tp g, v, σ, H, Q, t0, O, τ, τ', hM, G, r, e, q => by
    cases t0 with
    | tup ts =>
      obtain ⟨a, vs, rfl, h1, h2⟩ := r
      unfold asgG at e
      unfold gOf
      exact ⟨a, vs, rfl, hK ▸ h1, by rw [h2.length, asgGs_len e], gsOf_run hK hM G h2 e q⟩
    | _ => simp [asgG] at e
  | .nil, v, σ, H, Q, t0, O, τ, τ', hM, G, r, e, q => by simp [asgG] at e
  | .cons _ _, v, σ, H, Q, t0, O, τ, τ', hM, G, r, e, q => by simp [asgG] at e
theorem asgGs_len : ∀ {g : G} {ts : List T} {τ τ' : Tau}, asgGs g ts τ = some τ' → ts.length = gLen g
  | .nm i, ts, τ, τ', e => by simp [asgGs] at e
  | .tp g, ts, τ, τ', e => by simp [asgGs] at e
  | .nil, ts, τ, τ', e => by
    cases ts with
    | nil => rfl
    | cons _ _ => simp [asgGs] at e
  | .cons g r, ts, τ, τ', e => by
    cases ts with
    | nil => simp [asgGs] at e
    | cons t0 ts =>
      unfold asgGs at e
      split at e
      · unfold gLen
        rw [List.length_cons, asgGs_len e]
      · cases e
theorem gsOf_run (hK : p.C.K = K) : ∀ {g : G} {vs : List V} {σ : L2.St} {H : Hp} {Q : L2.St → Hp → Prop} {ts : List T} {O : Ow} {τ τ' : Tau}, (∀ i ∈ gVarsL g, i ∉ p.M) → Gd p O τ σ H → RepL p.C (Fo p.F0 O) H ts vs → asgGs g ts τ = some τ' → (∀ σ', Gd p O τ' σ' H → Sam (gVarsL g) σ σ' → Q σ' H) → gsOf K g vs σ H Q
  | .nm i, vs, σ, H, Q, ts, O, τ, τ', hM, G, r, e, q => by simp [asgGs] at e
  | .tp g, vs, σ, H, Q, ts, O, τ, τ', hM, G, r, e, q => by simp [asgGs] at e
  | .nil, vs, σ, H, Q, ts, O, τ, τ', hM, G, r, e, q => by
    cases ts with
    | cons _ _ => simp [asgGs] at e
    | nil =>
      unfold asgGs at e
      cases e
      cases (show vs = [] from r)
      unfold gsOf
      exact ⟨rfl, q σ G .refl⟩
  | .cons g g2, vs, σ, H, Q, ts, O, τ, τ', hM, G, r, e, q => by
    cases ts with
    | nil => simp [asgGs] at e
    | cons t0 ts =>
      obtain ⟨v, vr, rfl, r1, r2⟩ := r
      unfold asgGs at e
      split at e
      · rename_i τ1 e1
        unfold gsOf
        refine ⟨v, vr, rfl, gOf_run hK (fun i z => hM i (List.mem_append_left _ z)) G r1 e1 fun σ1 G1 S1 => ?_⟩
        exact gsOf_run hK (fun i z => hM i (List.mem_append_right _ z)) G1 r2 e fun σ2 G2 S2 => q σ2 G2 (S1.trans S2)
      · cases e
end
end
section
variable {X : Cx} {tg e : Expr} {tgs : List Expr} {g g2 : G} {pos : Pos}
theorem gv_nm {i : Nat} {x : Str} (hN : X.N.Nodup) (hi : X.N[i]? = some x) (hx : Loc X.env.scope x) (hf : X.fn x = true ∨ X.env.scope.names.lookup x = some .local := by first | exact .inl rfl | exact .inr rfl | assumption) : PGv X (.Name x pos) (.nm i) := by
  show PG X _ (gOf X.K (.nm i))
  unfold gOf
  exact pg_name hN hi hx hf
theorem gv_nil : PGsv X [] .nil := ⟨by unfold gsOf; exact pgs_nil, rfl⟩
theorem gv_cons (h1 : PGv X e g) (h2 : PGsv X tgs g2) (hs : (assignEach (e :: tgs) X.env).map (·.2) = assign e X.env :: (assignEach tgs X.env).map (·.2) := by rfl) : PGsv X (e :: tgs) (.cons g g2) :=
  ⟨by unfold gsOf; exact pgs_cons h1 h2.1 hs, by unfold gLen; rw [h2.2]; rfl⟩
theorem gv_tp {k : Nat} (hc : X.calm = true) (h : PGsv X tgs g) (hn : (assignEach tgs X.env).length = tgs.length := by rfl) (hst : (assignEach tgs X.env).findIdx? (·.1) = none := by rfl) : PGv X (.Tuple tgs k pos) (.tp g) := by
  show PG X _ (gOf X.K (.tp g))
  unfold gOf
  exact pg_tup hc h.1 (by rw [hn, h.2]) hst
end
/-! ### statements -/
def frs : S → Bool
  | .ret e => fresh e
  | .seq a b => frs a && frs b
  | .ife _ a b => frs a && frs b
  | .fo _ _ b => frs b
  | .whl _ b => frs b
  | _ => true
/-- what a def hands back, for its callers -/
structure RtV (p : Px) (fr : Bool) (t : T) (v : V) (H' : Hp) : Prop where
  rep : Rep p.C (fun a => p.F0 a ∨ p.io a) H' t v
  new : fr = true → FreshV p.C (fun a => p.F0 a ∨ p.io a) p.H0 t v H'
def ObS (p : Px) (fr : Bool) (O : Ow) (H : Hp) (o : Out) (D : Ends) : Prop := match o with
  | .nx τ' => ∀ σ' O' H', Gd p O' τ' σ' H' → Stp p O H O' H' → D.nx σ' H'
  | .bk τ' => ∀ σ' O' H', Gd p O' τ' σ' H' → Stp p O H O' H' → D.bk σ' H'
  | .ct τ' => ∀ σ' O' H', Gd p O' τ' σ' H' → Stp p O H O' H' → D.ct σ' H'
  | .rt t τ' => ∀ v σ' O' H', Gd p O' τ' σ' H' → Stp p O H O' H' → RtV p fr t v H' → D.rt v H'
  | .exc k f t τ' => ∀ σ' O' Cl d w H', p.C.mg k = some (.ref Cl) → H' d = some (.xd [(f, w)]) → Gd p O' τ' σ' H' → Rep p.C (Fo p.F0 O') H' t w → Stp p O H O' H' → p.W (.ref Cl) (some d) σ' H'
  | .no => False
def tSv (p : Px) (fr : Bool) (s : S) : TS := fun D σ H => ∃ O τ, Gd p O τ σ H ∧ ObS p fr O H (exS s τ) D
theorem ObS.at {p : Px} {fr : Bool} {O O1 : Ow} {H H1 : Hp} {o : Out} {D : Ends} (h : ObS p fr O H o D) (x : Stp p O H O1 H1) : ObS p fr O1 H1 o D := by
  cases o with
  | nx τ => exact fun σ' O' H' G s => h σ' O' H' G (x.trans s)
  | bk τ => exact fun σ' O' H' G s => h σ' O' H' G (x.trans s)
  | ct τ => exact fun σ' O' H' G s => h σ' O' H' G (x.trans s)
  | rt t τ => exact fun v σ' O' H' G s r => h v σ' O' H' G (x.trans s) r
  | exc k f t τ => exact fun σ' O' Cl d w H' h1 h2 G r s => h σ' O' Cl d w H' h1 h2 G r (x.trans s)
  | no => exact h
theorem ps_imp {X : Cx} {st : Stmt} {t u : TS} (h : PS X st t) (hi : ∀ D σ H, WF H → u D σ H → t D σ H) : PS X st u := ⟨fun pins s σ H D I q => h.run pins s σ H D I (hi D σ H (wf_of I) q)⟩
theorem pss_imp {X : Cx} {st : List Stmt} {t u : TS} (h : PSs X st t) (hi : ∀ D σ H, WF H → u D σ H → t D σ H) : PSs X st u := ⟨fun pins s σ H D I q => h.run pins s σ H D I (hi D σ H (wf_of I) q)⟩
section
variable {X : Cx} {p : Px} {fr : Bool} {c e : Expr} {st : Stmt} {sts : List Stmt} {a b : S} {ce cc : E} {pos pos' : Pos} {g : G}
/-- an expression's outcome, the statement's -/
theorem outR_ob {α : Type} {O : Ow} {σ : L2.St} {H : Hp} {r : Rs α} {k : α → Tau → Out} {D : Ends} {R : α → Tau → Prop} (h : ObS p fr O H (outR r k) D) (hR : ∀ x τ, r = .ok x τ → ObS p fr O H (k x τ) D → R x τ) : Ob p O σ H r R := by
  cases r with
  | ok x τ => exact hR x τ rfl h
  | exc k f t τ => exact fun Cl d w H' h1 h2 h3 h4 h5 => h σ O Cl d w H' h1 h2 h3 h4 (.of h5)
  | no => exact h.elim
theorem st_skip : PSs X [] (tSv p fr .skip) := pss_imp pss_nil fun D σ H w ⟨O, τ, G, h⟩ => h σ O H G .refl
theorem st_pass : PS X (.Pass pos) (tSv p fr .skip) := ps_imp ps_pass fun D σ H w ⟨O, τ, G, h⟩ => h σ O H G .refl
theorem st_brk : PS X (.Break pos) (tSv p fr .brk) := ps_imp ps_break fun D σ H w ⟨O, τ, G, h⟩ => h σ O H G .refl
theorem st_cnt : PS X (.Continue pos) (tSv p fr .cnt) := ps_imp ps_continue fun D σ H w ⟨O, τ, G, h⟩ => h σ O H G .refl
theorem st_seq (h1 : PS X st (tSv p fr a)) (h2 : PSs X sts (tSv p fr b)) : PSs X (st :: sts) (tSv p fr (.seq a b)) := pss_imp (pss_cons h1 h2) fun D σ H w ⟨O, τ, G, h⟩ => by
  refine ⟨O, τ, G, ?_⟩
  unfold exS at h
  revert h
  cases e : exS a τ with
  | nx τ1 => exact fun h σ' O' H' G' s => ⟨O', τ1, G', ObS.at h s⟩
  | bk τ1 => exact fun h => h
  | ct τ1 => exact fun h => h
  | rt t τ1 => exact fun h => h
  | exc k f t τ1 => exact fun h => h
  | no => exact fun h => h
theorem st_one (h1 : PS X st (tSv p fr a)) : PSs X [st] (tSv p fr a) := pss_one h1
theorem st_asg {x : Str} {i : Nat} (hN : X.N.Nodup) (hi : X.N[i]? = some x) (hx : Loc X.env.scope x) (hM : i ∉ p.M) (he : PE X e (tEv p ce)) (hb : isBor ce = false := by rfl) (hs : swapsWith e (some (.Name x pos')) pos.line X.env = pure false := by rfl)
    (hf : X.fn x = true ∨ X.env.scope.names.lookup x = some .local := by first | exact .inl rfl | exact .inr rfl | assumption) :
    PS X (.Assign [.Name x pos'] e pos) (tSv p fr (.asg (.nm i) ce)) := ps_imp (ps_set hN hi hx he hs hf) fun D σ H w ⟨O, τ, G, h⟩ => by
  unfold exS at h
  refine ⟨O, τ, G, outR_ob h fun x τ1 _ h1 v H1 G1 X1 P1 W1 => ?_⟩
  unfold asgG at h1
  split at h1
  · rename_i τ2 e
    split at e <;> cases e
    exact h1 _ O H1 (G1.set_plain hM (P1.rep hb)) (.of (ext_q X1))
  · exact h1.elim
/-- .. to several names -/
theorem st_asgT {tg : Expr} (hK : p.C.K = X.K) (hg : PGv X tg g) (he : PE X e (tEv p ce)) (hb : isBor ce = false := by rfl) (hM : ∀ i ∈ gVars g, i ∉ p.M := by decide) (hs : swapsWithSole [tg] e pos.line X.env = pure false := by rfl) (hw : swappedStores [tg] e X.env = pure none := by rfl)
    (h1 : (assignEach [tg] X.env).map (·.2) = [assign tg X.env] := by rfl) : PS X (.Assign [tg] e pos) (tSv p fr (.asg g ce)) := by
  refine ps_imp (ps_asg he hg hs hw h1) fun D σ H w ⟨O, τ, G, h⟩ => ?_
  unfold exS at h
  refine ⟨O, τ, G, outR_ob h fun x τ1 _ h1 v H1 G1 X1 P1 W1 => ?_⟩
  split at h1
  · rename_i τ2 e
    exact gOf_run hK hM G1 (P1.rep hb) e fun σ' G' S' => h1 σ' O H1 G' (.of (ext_q X1))
  · exact h1.elim
theorem st_asgo {x : Str} {i : Nat} (hN : X.N.Nodup) (hi : X.N[i]? = some x) (hx : Loc X.env.scope x) (hM : i ∈ p.M) (he : PE X e (tEv p ce)) (hf' : fresh ce = true := by rfl) (hio : NoIo p ∨ i ≠ 0 := by first | exact .inr (by decide) | exact .inl fun _ z => z) (hs : swapsWith e (some (.Name x pos')) pos.line X.env = pure false := by rfl)
    (hf : X.fn x = true ∨ X.env.scope.names.lookup x = some .local := by first | exact .inl rfl | exact .inr rfl | assumption) :
    PS X (.Assign [.Name x pos'] e pos) (tSv p fr (.asgo i ce)) := ps_imp (ps_set hN hi hx he hs hf) fun D σ H w ⟨O, τ, G, h⟩ => by
  unfold exS at h
  refine ⟨O, τ, G, outR_ob h fun t τ1 _ h1 v H1 G1 X1 P1 W1 => ?_⟩
  split at h1
  · rename_i hl
    have key : ∀ a, v = .ref a → H a = none → Top p.C (fun b => Fo p.F0 O b ∨ b = a) H1 a t → D.nx (σ.set i (some v)) H1 := fun a ea hn ht => by
      subst ea
      have G2 := (P1.own hf' hl a rfl).set_own hM (fun z => G.ftr a (.inl z) hn) (G.ext.th a hn) ht hio
      refine h1 _ _ H1 G2 ⟨ext_q X1, fun b z => ?_⟩
      rcases newO_sub b z with z | z
      · exact .inl z
      · exact .inr (z ▸ hn)
    have f := P1.new hf'
    cases t with
    | lst ts =>
      obtain ⟨a, ea, hn, ht⟩ := f
      exact key a ea hn ht
    | dic ks ts =>
      obtain ⟨a, ea, hn, ht⟩ := f
      exact key a ea hn ht
    | _ => cases hl
  · exact h1.elim
theorem FreshV.less {C : Ct} {F F' : Fb} {H0 H H' : Hp} {v : V} (hs : ∀ b, F' b → F b) (h0 : ∀ a, H a = none → H0 a = none) : ∀ {t : T}, FreshV C F H t v H' → FreshV C F' H0 t v H'
  | .lst ts, ⟨a, e, hn, h⟩ => ⟨a, e, h0 a hn, h.less fun b z => z.imp (hs b) id⟩
  | .dic ks ts, ⟨a, e, hn, h⟩ => ⟨a, e, h0 a hn, h.less fun b z => z.imp (hs b) id⟩
  | .non, _ | .bl _, _ | .int _, _ | .str _, _ | .glo _, _ | .tup _, _ | .scr _, _ | .exc .., _ => trivial
theorem Gd.fio {O : Ow} {τ : Tau} {σ : L2.St} {H : Hp} (G : Gd p O τ σ H) (a : Addr) (h : p.F0 a ∨ p.io a) : Fo p.F0 O a := by
  rcases h with h | h
  · exact .inl h
  · exact .inr ⟨0, G.kp a h⟩
theorem st_ret (he : PE X e (tEv p ce)) (hb : isBor ce = false := by rfl) (hfr : fr = true → fresh ce = true := by first | exact fun _ => rfl | exact fun z => nomatch z | decide) : PS X (.Return (some e) pos) (tSv p fr (.ret ce)) := ps_imp (ps_ret he) fun D σ H w ⟨O, τ, G, h⟩ => by
  unfold exS at h
  refine ⟨O, τ, G, outR_ob h fun t τ1 _ h1 v H1 G1 X1 P1 W1 => ?_⟩
  exact h1 v σ O H1 G1 (.of (ext_q X1)) ⟨(P1.rep hb).less G1.fio, fun z => (P1.new (hfr z)).less G1.fio G.ext.th⟩
theorem st_retN : PS X (.Return none pos) (tSv p fr (.ret (.cst .non))) := ps_imp ps_retN fun D σ H w ⟨O, τ, G, h⟩ => h .non σ O H G .refl ⟨rfl, fun _ => trivial⟩
/-- return of a list that the def made -/
theorem st_retv {x : Str} {i : Nat} (hN : X.N[i]? = some x) (hv : Vis X.env.scope x) (hM : i ∈ p.M) (hio : NoIo p ∨ i ≠ 0 := by first | exact .inr (by decide) | exact .inl fun _ z => z) (hd : (x == ("__debug__" : Str)) = false := by decide) (hcd : (x == ("__classdict__" : Str)) = false := by decide) :
    PS X (.Return (some (.Name x pos')) pos) (tSv p fr (.retv i)) := ps_imp (ps_ret (pe_var hN hv hd hcd)) fun D σ H w ⟨O, τ, G, h⟩ => by
  unfold exS at h
  split at h
  · rename_i t e
    obtain ⟨a, h0, h1, h2⟩ := G.own i t hM e
    have nio : ¬ p.io a := fun z => by
      rcases hio with q | q
      · exact q a z
      · exact q (G.ona i 0 a h0 (G.kp a z))
    have nF : ¬ (p.F0 a ∨ p.io a) := fun z => z.elim (G.odom i a h0).2.1 nio
    have hn : p.H0 a = none := (G.odom i a h0).2.2.resolve_left nio
    refine ⟨.ref a, h1, h (.ref a) σ O H G .refl ?_⟩
    cases t with
    | lst ts =>
      obtain ⟨vs, h3, h4⟩ := h2
      exact ⟨⟨a, vs, rfl, nF, h3, h4.less G.fio⟩, fun _ => ⟨a, rfl, hn, vs, h3, h4.less fun b z => z.elim (G.fio b) fun z => .inr ⟨i, z ▸ h0⟩⟩⟩
    | dic ks ts =>
      obtain ⟨vs, h3, hl, h4⟩ := h2
      exact ⟨⟨a, vs, rfl, nF, h3, hl, h4.less G.fio⟩, fun _ => ⟨a, rfl, hn, vs, h3, hl, h4.less fun b z => z.elim (G.fio b) fun z => .inr ⟨i, z ▸ h0⟩⟩⟩
    | _ => exact h2.elim
  · exact h.elim
theorem st_drp (he : PE X e (tEv p ce)) (hs : swapsWith e none pos.line X.env = pure false := by rfl) : PS X (.Expr e pos) (tSv p fr (.drp ce)) := ps_imp (ps_expr he hs) fun D σ H w ⟨O, τ, G, h⟩ => by
  unfold exS at h
  exact ⟨O, τ, G, outR_ob h fun t τ1 _ h1 v H1 G1 X1 P1 W1 => h1 σ O H1 G1 (.of (ext_q X1))⟩
theorem st_doc {x : Str} {j : Nat} : PS X (.Expr (.Constant (.str x) j pos) pos') (tSv p fr .skip) := ps_imp ps_doc fun D σ H w ⟨O, τ, G, h⟩ => h σ O H G .refl
theorem st_if {sa sb : List Stmt} (hc : PT X c (tCv p cc)) (ha : PSs X sa (tSv p fr a)) (hb : PSs X sb (tSv p fr b)) : PS X (.If c sa sb pos) (tSv p fr (.ife cc a b)) := ps_imp (ps_if hc ha hb) fun D σ H w ⟨O, τ, G, h⟩ => by
  unfold exS at h
  refine ⟨O, τ, G, Ob.bind' (outR_ob h fun x τ1 _ h1 => ?_)⟩
  cases e : truT x with
  | none => rw [e] at h1; exact h1.elim
  | some k =>
    rw [e] at h1
    refine fun H1 G1 X1 W1 => ?_
    cases k with
    | true => exact ⟨O, τ1, G1, h1.at (.of (ext_q X1))⟩
    | false => exact ⟨O, τ1, G1, h1.at (.of (ext_q X1))⟩
end
end Tm

end

section
set_option linter.all false
set_option maxRecDepth 100000
set_option maxHeartbeats 4000000
namespace Tm
open PySem PySem.Spec PyProof.Rows L2

section
variable {X : Cx} {p : Px} {fr : Bool} {c e it tg : Expr} {st : Stmt} {sts : List Stmt} {a b : S} {ce cc ci : E} {pos pos' apos cpos : Pos} {g : G}
theorem st_for (hK : p.C.K = X.K) (hp : PassesOwn (model X.prog X.w) X.A X.env X.xe) (hc : X.calm = true) (hi : PI X tg it (tIv p ci)) (hg : PGv X tg g) (hb : PSs X sts (tSv p fr b)) (hbi : isBorI ci = false := by rfl) (hM : ∀ i ∈ gVars g, i ∉ p.M := by decide)
    (hs : ∀ x, foldedSetIterable it X.env x = pure x := by intro _; rfl) : PS X (.For tg it sts [] pos) (tSv p fr (.fo g ci b)) := by
  refine ps_imp (ps_for hp hc hi hg hb hs) fun D σ H w ⟨O, τ, G, h⟩ => ?_
  unfold exS at h
  refine ⟨O, τ, G, outR_ob h fun ts τ1 _ h1 J H1 G1 X1 isw W1 => ?_⟩
  obtain ⟨GG, YY, wk, hG, hY⟩ := isw
  rw [hbi] at hG hY
  have h1 := h1.at (O1 := O) (.of (ext_q X1))
  refine for_it wk (fun i σ2 H2 => ∃ O2 τ2, Gd p O2 τ2 σ2 H2 ∧ Stp p O H1 O2 H2 ∧ ObS p fr O2 H2 (forRun g (exS b) (ts.drop i) τ2) D) ⟨O, τ1, G1, .refl, h1⟩ (fun i σ2 H2 hi ⟨O2, τ2, G2, S2, _⟩ => hG H2 S2.ext) (fun i x σ2 H2 H3 hi ⟨O2, τ2, G2, S2, h2⟩ y => ?_) fun σ2 H2 ⟨O2, τ2, G2, S2, h2⟩ => ?_
  · have e1 : ts.drop i = ts[i] :: ts.drop (i + 1) := List.drop_eq_getElem_cons hi
    rw [e1] at h2
    unfold forRun at h2
    obtain ⟨X3, r3⟩ := hY i ts[i] x H2 H3 (Fo p.F0 O2) (by rw [List.getElem?_eq_getElem hi]) S2.ext S2.sub G2.ft y
    split at h2
    · exact h2.elim
    · rename_i τ3 e2
      have X3' : Ext p.C (Fo p.F0 O2) H2 H3 := X3.mono fun _ z => z.elim
      refine gOf_run hK hM (G2.ext0 X3) r3 e2 fun σ3 G3 _ => ⟨O2, τ3, G3, ?_⟩
      have h3 := h2.at (O1 := O2) (.of X3')
      have S3 : Stp p O H1 O2 H3 := S2.trans (.of X3')
      revert h3
      cases e3 : exS b τ3 with
      | nx τ4 => exact fun h3 σ4 O4 H4 G4 S4 => ⟨O4, τ4, G4, S3.trans S4, h3.at S4⟩
      | ct τ4 => exact fun h3 σ4 O4 H4 G4 S4 => ⟨O4, τ4, G4, S3.trans S4, h3.at S4⟩
      | bk τ4 => exact fun h3 σ4 O4 H4 G4 S4 => h3 σ4 O4 H4 G4 S4
      | rt t τ4 => exact fun h3 => h3
      | exc k f t τ4 => exact fun h3 => h3
      | no => exact fun h3 => h3
  · rw [List.drop_length] at h2
    unfold forRun at h2
    exact h2 σ2 O2 H2 G2 .refl
/-! ### changes of what a slot owns -/
theorem rep_upd {O : Ow} {τ : Tau} {σ : L2.St} {H : Hp} {i : Nat} {q : Addr} {u o : HO} (G : Gd p O τ σ H) (hO : (i, q) ∈ O) (hu : H q = some u) : Ext p.C (Fo p.F0 O) H (upd H q o) := by
  have fa : Fo p.F0 O q := .inr ⟨i, hO⟩
  refine ext_mut hu ?_ fa
  rcases G.fok q u fa hu with ⟨vs, rfl⟩ | ⟨vs, rfl⟩
  · exact nsil_lst _
  · exact nsil_dK _
theorem st_app {x : Str} {i : Nat} {px : Pos} (hN : X.N[i]? = some x) (hv : Vis X.env.scope x) (hM : i ∈ p.M) (he : PE X e (tEv p ce)) (hb : isBor ce = false := by rfl)
    (hd : (x == ("__debug__" : Str)) = false := by decide) (hcd : (x == ("__classdict__" : Str)) = false := by decide)
    (hbase : attributeBase (.Name x px) "append" X.env (eval (.Name x px) X.env) = eval (.Name x px) X.env := by rfl)
    (hfew : ((backTo cpos (starEach [e] X.env)).all (fun x => !x.1) && (backToKw cpos (keywordEach [] X.env)).all (fun x => x.1.isSome)
      && decide ([e].length + ([] : List Keyword).length + (if ([] : List Keyword).isEmpty then 0 else 1) < 30)) = true := by rfl)
    (hline : (apos.endLine == cpos.line) = true := by rfl) (hs : starEach [e] X.env = (false, eval e X.env) :: starEach [] X.env := by rfl)
    (hsw : swapsWith (.Call (.Attribute (.Name x px) "append" apos) [e] [] cpos) none pos.line X.env = pure false := by rfl) :
    PS X (.Expr (.Call (.Attribute (.Name x px) "append" apos) [e] [] cpos) pos) (tSv p fr (.app i ce)) :=
  ps_imp (ps_expr (pe_bm PySem.F.plainAttrs_list PySem.F.slot_list_append PySem.F.type_list_append mt_append (pe_var hN hv hd hcd) (pa_cons he pa_nil hs) hbase hfew hline hs rfl) hsw) fun D σ H w ⟨O, τ, G, h⟩ => by
    unfold exS at h
    split at h
    · rename_i xs0 e0
      obtain ⟨q, h0, h1, vs0, h2, _⟩ := G.own i _ hM e0
      refine ⟨.ref q, h1, .inl ⟨rfl, vs0, SqL.of h2⟩, ?_⟩
      refine ⟨O, τ, G, outR_ob h fun t τ1 _ h1 v H1 G1 X1 P1 W1 => ?_⟩
      split at h1
      · rename_i xs e1
        obtain ⟨q', h0', h1', vs, h2', h3'⟩ := G1.own i _ hM e1
        obtain rfl := G1.oni i q q' h0 h0'
        split at h1
        · rename_i hl
          have rl : RepL p.C (Fo p.F0 O) H1 (xs ++ [t]) (vs ++ [v]) := h3'.append (RepL.one (P1.rep hb))
          have xx := rep_upd (o := .lst (vs ++ [v])) G1 h0 h2'
          refine ⟨q, vs, v, rfl, rfl, h2', by rw [h3'.length, sizeLine16]; exact hl, ?_⟩
          exact h1 σ O _ (G1.own_upd h0 h1' h2' (.inl ⟨_, rfl⟩) ⟨_, upd_same, RepL.ext G1.fok xx _ _ rl⟩) (.of ((ext_q X1).trans xx))
        · exact h1.elim
      · exact h1.elim
    · exact h.elim
theorem putT_length {k : Str} {t : T} : ∀ {ks : List Str} {ts : List T}, (putT ks ts k t).length = ts.length
  | [], ts => by unfold putT; rfl
  | _ :: _, [] => by unfold putT; rfl
  | k0 :: ks, t0 :: ts => by
    unfold putT
    split
    · rfl
    · rw [List.length_cons, List.length_cons, putT_length]
theorem put_rep {C : Ct} {F : Fb} {H : Hp} {k : Str} {t : T} {v : V} (r0 : Rep C F H t v) : ∀ {ks : List Str} {ts : List T} {vs : List V}, RepL C F H ts vs → ks.length = ts.length → ks.Nodup → ks.contains k = true → ∃ ws, putK (zipK ks vs) (.inr k) v = zipK ks ws ∧ RepL C F H (putT ks ts k t) ws := by
  have lem : ∀ {ks : List Str} {ts : List T} {vs : List V}, RepL C F H ts vs → ks.length = ts.length → ks.Nodup → ks.contains k = true → ∃ ws, (zipK ks vs).map (fun kv => if kv.1 = (Sum.inr k : Key) then (kv.1, v) else kv) = zipK ks ws ∧ RepL C F H (putT ks ts k t) ws := by
    intro ks
    induction ks with
    | nil => intro ts vs _ _ _ h; cases h
    | cons k0 ks ih =>
      intro ts vs r hl hn hc
      cases ts with
      | nil => cases hl
      | cons t0 ts =>
        obtain ⟨v0, vr, rfl, r1, r2⟩ := r
        rw [List.nodup_cons] at hn
        have hl' : ks.length = ts.length := by simpa using hl
        by_cases ek : k0 = k
        · subst ek
          refine ⟨v :: vr, ?_, ?_⟩
          · show (if (Sum.inr k0 : Key) = Sum.inr k0 then ((Sum.inr k0 : Key), v) else (Sum.inr k0, v0)) :: (zipK ks vr).map _ = (Sum.inr k0, v) :: zipK ks vr
            rw [if_pos rfl]
            congr 1
            have : ∀ kv ∈ zipK ks vr, (if kv.1 = (Sum.inr k0 : Key) then (kv.1, v) else kv) = kv := fun kv hkv => by
              rw [if_neg]
              intro z
              have hm : kv.1 ∈ ks.map Sum.inr := (List.of_mem_zip hkv).1
              obtain ⟨y, h1, h2⟩ := List.mem_map.mp hm
              rw [z] at h2
              exact hn.1 (Sum.inr.inj h2 ▸ h1)
            rw [List.map_congr_left this, List.map_id']
          · unfold putT
            rw [if_pos rfl]
            exact ⟨v, vr, rfl, r0, r2⟩
        · have hc' : ks.contains k = true := by
            rw [List.contains_cons, Bool.or_eq_true] at hc
            rcases hc with hc | hc
            · exact (ek (beq_iff_eq.mp hc).symm).elim
            · exact hc
          obtain ⟨ws, h1, h2⟩ := ih r2 hl' hn.2 hc'
          refine ⟨v0 :: ws, ?_, ?_⟩
          · show (if (Sum.inr k0 : Key) = Sum.inr k then ((Sum.inr k0 : Key), v) else (Sum.inr k0, v0)) :: (zipK ks vr).map _ = (Sum.inr k0, v0) :: zipK ks ws
            rw [if_neg (fun z => ek (Sum.inr.inj z)), h1]
          · unfold putT
            rw [if_neg ek]
            exact ⟨v0, ws, rfl, r1, h2⟩
  intro ks ts vs r hl hn hc
  obtain ⟨ws, h1, h2⟩ := lem r hl hn hc
  refine ⟨ws, ?_, h2⟩
  unfold putK
  rw [if_pos, h1]
  rw [List.any_eq_true]
  have hm : (Sum.inr k : Key) ∈ (zipK ks vs).map Prod.fst := by
    rw [zipK_fst (by rw [r.length]; exact hl)]
    exact List.mem_map.mpr ⟨k, List.contains_iff_mem.mp hc, rfl⟩
  obtain ⟨kv, h3, h4⟩ := List.mem_map.mp hm
  exact ⟨kv, h3, decide_eq_true h4⟩
theorem st_setk {x k : Str} {i j : Nat} {px pk ps : Pos} (hu : X.A.units + 1 < cLine) (hN : X.N[i]? = some x) (hv : Vis X.env.scope x) (hM : i ∈ p.M) (he : PE X e (tEv p ce)) (hb : isBor ce = false := by rfl)
    (hd : (x == ("__debug__" : Str)) = false := by decide) (hcd : (x == ("__classdict__" : Str)) = false := by decide)
    (hs : swapsWith e (some (.Subscript (.Name x px) (.Constant (.str k) j pk) ps)) pos.line X.env = pure false := by rfl) :
    PS X (.Assign [.Subscript (.Name x px) (.Constant (.str k) j pk) ps] e pos) (tSv p fr (.setk i k ce)) :=
  ps_imp (ps_dput hu (pe_var hN hv hd hcd) pe_str he hs) fun D σ H w ⟨O, τ, G, h⟩ => by
    unfold exS at h
    refine ⟨O, τ, G, outR_ob h fun t τ1 _ h1 v H1 G1 X1 P1 W1 => ?_⟩
    split at h1
    · rename_i ks xs e1
      obtain ⟨q, h0, h1', vs, h2, hl, h3⟩ := G1.own i _ hM e1
      split at h1
      · rename_i hc
        simp only [Bool.and_eq_true, decide_eq_true_eq] at hc
        obtain ⟨⟨hc1, hc2⟩, hc3⟩ := hc
        obtain ⟨ws, e2, r2⟩ := put_rep (k := k) (P1.rep hb) h3 hl hc2 hc1
        have xx := rep_upd (o := .dK (zipK ks ws)) G1 h0 h2
        refine ⟨.ref q, h1', q, _, rfl, .inl ⟨_, .inr k, h2, rfl, ?_, rfl⟩, ?_⟩
        · rw [zipK_length (by rw [h3.length]; exact hl)]
          exact Nat.lt_of_le_of_lt hc3 (by rw [sizeLine_eq]; omega)
        · rw [e2]
          refine h1 σ O _ (G1.own_upd h0 h1' h2 (.inr ⟨_, rfl⟩) ⟨ws, upd_same, ?_, RepL.ext G1.fok xx _ _ r2⟩) (.of ((ext_q X1).trans xx))
          rw [putT_length, hl]
      · exact h1.elim
    · exact h1.elim
end
end Tm

end

section
set_option linter.all false
set_option maxRecDepth 100000
set_option maxHeartbeats 4000000
namespace Tm
open PySem PySem.Spec PyProof.Rows L2

/-! ### slots wiped, slots as before -/
theorem wipe_get {α : Type} (w : List (Option α) → List Nat → List (Option α)) (w0 : ∀ l, w l [] = l) (w1 : ∀ l v vs, w l (v :: vs) = (w l vs).set v none) (l : List (Option α)) (j : Nat) : ∀ vs : List Nat, (w l vs)[j]? = if j ∈ vs then (if j < l.length then some none else none) else l[j]?
  | [] => by rw [w0]; simp
  | v :: vs => by
    have hl : ∀ ws, (w l ws).length = l.length := by
      intro ws
      induction ws with
      | nil => rw [w0]
      | cons x xs ih => rw [w1, List.length_set, ih]
    rw [w1]
    by_cases e : v = j
    · subst e
      rw [List.getElem?_set]
      simp [hl]
    · rw [List.getElem?_set_ne e, wipe_get w w0 w1 l j vs]
      by_cases hj : j ∈ vs
      · rw [if_pos hj, if_pos (List.mem_cons_of_mem _ hj)]
      · rw [if_neg hj, if_neg (fun z => by
          rcases List.mem_cons.mp z with z | z
          · exact e z.symm
          · exact hj z)]
theorem wipeT_get (τ : Tau) (j : Nat) (vs : List Nat) : (wipeT τ vs)[j]? = if j ∈ vs then (if j < τ.length then some none else none) else τ[j]? := wipe_get wipeT (fun _ => rfl) (fun _ _ _ => rfl) τ j vs
theorem wipeS_get (σ : L2.St) (j : Nat) (vs : List Nat) : (wipe σ vs)[j]? = if j ∈ vs then (if j < σ.length then some none else none) else σ[j]? := wipe_get wipe (fun _ => rfl) (fun _ _ _ => rfl) σ j vs
theorem wipeT_length (τ : Tau) : ∀ vs : List Nat, (wipeT τ vs).length = τ.length
  | [] => rfl
  | v :: vs => by unfold wipeT; rw [List.length_set, wipeT_length τ vs]
theorem backT_length (τ0 τ : Tau) : ∀ vs : List Nat, (backT τ0 τ vs).length = τ.length
  | [] => rfl
  | v :: vs => by unfold backT; rw [List.length_set, backT_length τ0 τ vs]
theorem backT_get (τ0 τ : Tau) (j : Nat) : ∀ vs : List Nat, (backT τ0 τ vs)[j]? = if j ∈ vs then (if j < τ.length then some (τ0.getD j none) else none) else τ[j]?
  | [] => by simp [backT]
  | v :: vs => by
    unfold backT
    by_cases e : v = j
    · subst e
      rw [List.getElem?_set]
      simp [backT_length]
    · rw [List.getElem?_set_ne e, backT_get τ0 τ j vs]
      by_cases hj : j ∈ vs
      · rw [if_pos hj, if_pos (List.mem_cons_of_mem _ hj)]
      · rw [if_neg hj, if_neg (fun z => by
          rcases List.mem_cons.mp z with z | z
          · exact e z.symm
          · exact hj z)]
/-- inside a comprehension whose new list is at D -/
def Px.lcp (p : Px) (D : Addr) : Px := { p.plus D with W := fun _ _ _ _ => False }
section
variable {p : Px} {O : Ow} {τ τ1 τ2 : Tau} {σ σ2 : L2.St} {H H1 H2 : Hp} {D : Addr} {vs : List Nat}
theorem Gd.lcp (G : Gd (p.plus D) O τ σ H) : Gd (p.lcp D) O τ σ H := ⟨G.len, G.fok, G.ftr, G.own, G.plain, G.odom, G.ona, G.oni, G.kp, G.ext, G.j0⟩
theorem Gd.unlcp (G : Gd (p.lcp D) O τ σ H) : Gd (p.plus D) O τ σ H := ⟨G.len, G.fok, G.ftr, G.own, G.plain, G.odom, G.ona, G.oni, G.kp, G.ext, G.j0⟩
theorem Gd.wipe (G : Gd p O τ σ H) (hM : ∀ i ∈ vs, i ∉ p.M) : Gd p O (wipeT τ vs) (L2.wipe σ vs) H where
  len := by rw [wipeT_length, L2.wipe_length, G.len]
  fok := G.fok
  ftr := G.ftr
  own := fun j u hj h => by
    have hv : j ∉ vs := fun z => hM j z hj
    rw [wipeT_get, if_neg hv] at h
    obtain ⟨b, h1, h2, h3⟩ := G.own j u hj h
    exact ⟨b, h1, by rw [wipeS_get, if_neg hv]; exact h2, h3⟩
  plain := fun j u hj h => by
    by_cases hv : j ∈ vs
    · rw [wipeT_get, if_pos hv] at h
      split at h <;> cases h
    · rw [wipeT_get, if_neg hv] at h
      obtain ⟨w, h1, h2⟩ := G.plain j u hj h
      exact ⟨w, by rw [wipeS_get, if_neg hv]; exact h1, h2⟩
  odom := G.odom
  ona := G.ona
  oni := G.oni
  kp := G.kp
  j0 := G.j0
  ext := G.ext
theorem Sam.wipe {gs : List Nat} (S : Sam gs (L2.wipe σ vs) σ2) (hs : ∀ i ∈ gs, i ∈ vs) : L2.wipe σ2 vs = L2.wipe σ vs := by
  have hl : σ2.length = σ.length := S.len.trans (L2.wipe_length σ vs)
  apply List.ext_getElem?
  intro j
  rw [wipeS_get, wipeS_get, hl]
  by_cases hv : j ∈ vs
  · rw [if_pos hv, if_pos hv]
  · rw [if_neg hv, if_neg hv, S.at_ j fun z => hv (hs j z), wipeS_get, if_neg hv]
theorem Gd.back {gs : List Nat} (G1 : Gd p O τ1 σ H1) (G2 : Gd p O τ2 σ2 H2) (x : Ext p.C (Fo p.F0 O) H1 H2) (S : Sam gs (L2.wipe σ vs) σ2) (hs : ∀ i ∈ gs, i ∈ vs) (hM : ∀ i ∈ vs, i ∉ p.M) : Gd p O (backT τ1 τ2 vs) σ H2 where
  len := by rw [backT_length, G2.len, S.len, L2.wipe_length]
  fok := G2.fok
  ftr := G2.ftr
  own := fun j u hj h => by
    have hv : j ∉ vs := fun z => hM j z hj
    rw [backT_get, if_neg hv] at h
    obtain ⟨b, h1, h2, h3⟩ := G2.own j u hj h
    rw [S.at_ j fun z => hv (hs j z), wipeS_get, if_neg hv] at h2
    exact ⟨b, h1, h2, h3⟩
  plain := fun j u hj h => by
    rw [backT_get] at h
    by_cases hv : j ∈ vs
    · rw [if_pos hv] at h
      split at h
      · have h' : τ1[j]? = some (some u) := by
          have e := Option.some.inj h
          rw [List.getD_eq_getElem?_getD] at e
          cases e1 : τ1[j]? with
          | none => rw [e1] at e; cases e
          | some w => rw [e1] at e; exact congrArg some e
        obtain ⟨w, h1, h2⟩ := G1.plain j u hj h'
        exact ⟨w, h1, Rep.ext G1.fok x u w h2⟩
      · cases h
    · rw [if_neg hv] at h
      obtain ⟨w, h1, h2⟩ := G2.plain j u hj h
      rw [S.at_ j fun z => hv (hs j z), wipeS_get, if_neg hv] at h1
      exact ⟨w, h1, h2⟩
  odom := G2.odom
  ona := G2.ona
  oni := G2.oni
  kp := G2.kp
  j0 := G2.j0
  ext := G2.ext
/-- a forbidden list that is nobody's here changes -/
theorem Gd.f0_upd {xs ys : List V} (G : Gd p O τ σ H) (hF : p.F0 D) (h0 : p.H0 D = none) (hD : H D = some (.lst xs)) : Gd p O τ σ (upd H D (.lst ys)) := by
  have X : Ext p.C (Fo p.F0 O) H (upd H D (.lst ys)) := ext_mut hD (nsil_lst _) (.inl hF)
  refine { len := G.len, fok := fun b w z e => ?_, ftr := fun b z => ?_, own := fun j w hj h => ?_, plain := fun j w hj h => ?_, odom := G.odom, ona := G.ona, oni := G.oni, kp := G.kp, j0 := G.j0, ext := ⟨fun b w n e nt => ?_, fun b e => ?_, fun z => ?_⟩ }
  · by_cases hb : b = D
    · rw [hb, upd_same] at e; cases e; exact .inl ⟨_, rfl⟩
    · rw [upd_ne hb] at e; exact G.fok b w z e
  · by_cases hb : b = D
    · rw [hb, upd_same]; exact fun z => by cases z
    · rw [upd_ne hb]; exact G.ftr b z
  · obtain ⟨b, h1, h2, h3⟩ := G.own j w hj h
    have hb : b ≠ D := fun z => (G.odom j b h1).2.1 (z ▸ hF)
    exact ⟨b, h1, h2, Top.ext G.fok X (upd_ne hb) h3⟩
  · obtain ⟨w1, h1, h2⟩ := G.plain j w hj h
    exact ⟨w1, h1, Rep.ext G.fok X w w1 h2⟩
  · have hb : b ≠ D := fun z => by rw [z, h0] at e; cases e
    rw [upd_ne hb]
    exact G.ext.at_ b w n e nt
  · exact G.ext.th b (X.th b e)
  · exact X.j (G.ext.j z)
theorem Gd.minus (G : Gd (p.plus D) O τ σ H) : Gd p O τ σ H where
  len := G.len
  fok := fun b u z e => G.fok b u (plus_of b (.inl z)) e
  ftr := fun b z => G.ftr b (plus_of b (.inl z))
  own := fun j u hj h => by
    obtain ⟨b, h1, h2, h3⟩ := G.own j u hj h
    exact ⟨b, h1, h2, h3.less fun b z => plus_of b (.inl z)⟩
  plain := fun j u hj h => by
    obtain ⟨w, h1, h2⟩ := G.plain j u hj h
    exact ⟨w, h1, h2.less fun b z => plus_of b (.inl z)⟩
  odom := fun j b h => by
    obtain ⟨h1, h2, h3⟩ := G.odom j b h
    exact ⟨h1, fun z => h2 (.inl z), h3⟩
  ona := G.ona
  oni := G.oni
  kp := G.kp
  j0 := G.j0
  ext := G.ext
end
theorem pe_ex {α : Type} {X : Cx} {e : Expr} {t : α → TE} (h : ∀ a, PE X e (t a)) : PE X e (fun σ H Q => ∃ a, t a σ H Q) := ⟨fun pins s σ H Q I ⟨a, q⟩ => (h a).run pins s σ H Q I q⟩
theorem pts_ex {α : Type} {X : Cx} {e : List Expr} {t : α → TT} (h : ∀ a, PTs X e (t a)) : PTs X e (fun σ H Q => ∃ a, t a σ H Q) := ⟨fun pins s σ H Q I ⟨a, q⟩ => (h a).run pins s σ H Q I q⟩
/-- a comprehension's tests -/
def tQv (p : Px) (c : E) : TT := fun σ H Q => ∃ O τ, Gd p O τ σ H ∧ Ob p O σ H (evC c τ) fun b τ' => ∀ H', Gd p O τ' σ H' → Ext p.C (qF p O (quiet c)) H H' → Q b H'
section
variable {X : Cx} {p : Px} {c e : Expr} {ce cc ci : E}
theorem sq_nil : PTs X [] (tQv p .nil) := ⟨fun pins s σ H Q I ⟨O, τ, G, h⟩ => pts_nil.run pins s σ H Q I (by
  unfold evC at h
  exact h H G (Ext.refl _ _ _))⟩
theorem sq_one (h : PT X c (tCv p cc)) : PTs X [c] (tQv p (.cons cc .nil)) := pts_one (pt_imp h fun σ H Q w ⟨O, τ, G, h⟩ => by
  unfold evC at h
  exact ⟨O, τ, G, h.mono fun b τ1 h1 H1 G1 X1 W1 _ => h1 H1 G1 (X1.mono fun q z => by show qF p O (quiet cc && true) q; rw [Bool.and_true]; exact z)⟩)
theorem sn_lc {elt tg iter : Expr} {ifs : List Expr} {scope : Scope} {own : List (Str × Nat)} {pos : Pos} {g : G} (hK : p.C.K = X.K) (hc : X.calm = true) (hN : X.N.Nodup) (hi : PI X tg iter (tIv p ci)) (ok : BlkOk X.N X.env.scope scope own)
    (hg : ∀ (s : Shared) (H : Hp) (C : Addr) (cl : List (Str × Addr)) (fp : List Addr), PGv (X.blk s H scope (compEnvC scope cl C X.env) fp) tg g)
    (ht : ∀ (D : Addr) (s : Shared) (H : Hp) (C : Addr) (cl : List (Str × Addr)) (fp : List Addr), PTs (X.blk s H scope (compEnvC scope cl C X.env) fp) ifs (tQv (p.lcp D) cc))
    (he : ∀ (D : Addr) (s : Shared) (H : Hp) (C : Addr) (cl : List (Str × Addr)) (fp : List Addr), PE (X.blk s H scope (compEnvC scope cl C X.env) fp) elt (tEv (p.lcp D) ce))
    (hq : isBorI ci = false ∨ (quiet cc && quiet ce) = true := by first | exact .inl rfl | exact .inr rfl) (hb : isBor ce = false := by rfl) (hgv : ∀ i ∈ gVars g, i ∈ own.map (·.2) := by decide) (hM : ∀ i ∈ own.map (·.2), i ∉ p.M := by decide)
    (hs : ∀ x, foldedSetIterable iter X.env x = pure x := by intro _; rfl) :
    PE X (.ListComp elt [⟨tg, iter, ifs, 0⟩] scope pos) (tEv p (.lc (own.map (·.2)) g ci cc ce)) := by
  refine pe_imp (pe_lc (g := gOf X.K g) hc hN hi ok hg (fun s H C cl fp => pts_ex fun D => ht D s H C cl fp) (fun s H C cl fp => pe_ex fun D => he D s H C cl fp) hs) fun σ H Q w ⟨O, τ, G, h⟩ => ?_
  unfold evE at h
  refine ⟨O, τ, G, h.bind.mono fun ts τ1 h1 J H1 G1 X1 isw W1 D hD => ?_⟩
  obtain ⟨hl, h1⟩ := h1.lim
  obtain ⟨GG, YY, wk, hG, hY⟩ := isw
  have hDH : H D = none := X1.th D hD
  have hD0 : p.H0 D = none := G1.ext.th D hD
  have nFo : ¬ Fo p.F0 O D := fun z => G1.ftr D z hD
  have nOo : ¬ Oo O D := fun z => nFo (.inr z)
  have sub : ∀ a, Fo (p.plus D).F0 O a → Fo p.F0 O a ∨ H1 a = none := fun a z => (Fo_plus a z).imp id fun z => by rw [z]; exact hD
  have hX : ∀ {H2 : Hp}, Ext p.C (qF p O (quiet cc && quiet ce)) H1 H2 → Ext p.C (iP p O (isBorI ci)) H1 H2 := fun x => x.mono fun a z => by
    rcases hq with hq | hq
    · rw [hq]; exact .inr (qF_oo a z)
    · rw [hq] at z; exact z.elim
  have X0 : Ext p.C (fun _ => False) H1 (upd H1 D (.lst [])) := ext_new hD
  refine lc_it wk (g := gOf X.K g) (tt := fun σ H Q => ∃ a, tQv (p.lcp a) cc σ H Q) (te := fun σ H Q => ∃ a, tEv (p.lcp a) ce σ H Q) (vs := own.map (·.2)) (σ := σ) (Qd := fun H' => WF H' → Q (.ref D) H') (fun i Hi => ∃ τi acc xs, Gd (p.plus D) O τi σ Hi ∧ Hi D = some (.lst acc) ∧ acc.length ≤ i ∧ RepL p.C (Fo (p.plus D).F0 O) Hi xs acc ∧ Ext p.C (qF p O (quiet cc && quiet ce)) H1 Hi ∧
    Ob p O σ H ((lcRun (own.map (·.2)) g (fun τ => (evC cc τ).bind fun k τ => if k then (evE ce τ).bind fun x τ => .ok (some x) τ else .ok none τ) (ts.drop i) τi).bind fun ys τ => .ok (.lst (xs ++ ys)) τ) fun t τ' => ∀ v H', Gd p O τ' σ H' → Ext p.C (qF p O (quiet (.lc (own.map (·.2)) g ci cc ce))) H H' → PV p O τ' σ (.lc (own.map (·.2)) g ci cc ce) H t v H' → WF H' → Q v H')
    ⟨τ1, [], [], G1.plus_ext X0 hD (fun o e => .inl ⟨[], by rw [upd_same] at e; cases e; rfl⟩) (fun z => by rw [upd_same] at z; cases z), upd_same, Nat.le_refl _, rfl, ext_any X0, h1⟩
    (fun i Hi hi ⟨τi, acc, xs, Gi, hDi, hli, ri, Xi, hi'⟩ => hG Hi (hX Xi)) (fun i x Hi Hi' hi ⟨τi, acc, xs, Gi, hDi, hli, ri, Xi, hob⟩ y => ?_) fun Hn ⟨τn, acc, xs, Gn, hDn, hln, rn, Xn, hob⟩ => ?_
  · obtain ⟨X3, r3⟩ := hY i ts[i] x Hi Hi' (Fo (p.plus D).F0 O) (by rw [List.getElem?_eq_getElem hi]) (hX Xi) sub Gi.ft y
    have e1 : ts.drop i = ts[i] :: ts.drop (i + 1) := List.drop_eq_getElem_cons hi
    rw [e1] at hob
    unfold lcRun at hob
    have Gi' := Gi.ext0 X3
    split at hob
    · exact hob.elim
    · rename_i τ3 e2
      refine gOf_run (p := p.lcp D) hK (fun i z => hM i (hgv i z)) ((Gi'.wipe hM).lcp) r3 e2 fun σ3 G3 S3 => ⟨S3.wipe hgv, D, O, τ3, G3, ?_⟩
      have hD3 : Hi' D = some (.lst acc) := X3.at_ D _ (fun z => z) hDi (nt_lst _)
      cases e4 : evC cc τ3 with
      | no => rw [e4] at hob; exact hob.elim
      | exc k f t τ4 => rw [e4] at hob; exact hob.elim
      | ok b τ4 =>
        rw [e4] at hob
        refine fun H4 G4 X4 => ?_
        have hD4 : H4 D = some (.lst acc) := X4.at_ D _ (fun z => nOo (qF_oo (p := p) D z)) hD3 (nt_lst _)
        have XA : Ext p.C (Fo (p.plus D).F0 O) Hi H4 := (X3.mono fun _ z => z.elim).trans (ext_q (p := p.lcp D) X4)
        have XQ : Ext p.C (qF p O (quiet cc && quiet ce)) H1 H4 := (Xi.trans (ext_any X3)).trans (X4.mono fun q z => qF_l (p := p) q z)
        cases b with
        | false =>
          dsimp only
          rw [if_neg Bool.false_ne_true]
          refine ⟨_, acc, xs, Gi.back G4.unlcp XA S3 hgv hM, hD4, Nat.le_succ_of_le hli, RepL.ext Gi.fok XA _ _ ri, XQ, ?_⟩
          have hob2 : Ob p O σ H (((lcRun (own.map Prod.snd) g (fun τ => (evC cc τ).bind fun k τ => if k then (evE ce τ).bind fun x τ => Rs.ok (some x) τ else Rs.ok none τ) (ts.drop (i + 1)) (backT τi τ4 (own.map Prod.snd))).bind fun r τ3 => Rs.ok r τ3).bind fun ys τ => Rs.ok (T.lst (xs ++ ys)) τ) _ := hob
          rw [Rs.bind_assoc] at hob2
          exact hob2
        | true =>
          dsimp only
          rw [if_pos rfl]
          refine ⟨D, O, τ4, G4, ?_⟩
          cases e5 : evE ce τ4 with
          | no =>
            have hob2 : Ob p O σ H ((match (evE ce τ4).bind fun x τ => Rs.ok (some x) τ with
              | .ok o τ2 => (lcRun (own.map Prod.snd) g (fun τ => (evC cc τ).bind fun k τ => if k then (evE ce τ).bind fun x τ => Rs.ok (some x) τ else Rs.ok none τ) (ts.drop (i + 1)) (backT τi τ2 (own.map Prod.snd))).bind fun r τ3 => Rs.ok (match o with | some x => x :: r | none => r) τ3
              | .exc .. => Rs.no
              | .no => Rs.no).bind fun ys τ => Rs.ok (T.lst (xs ++ ys)) τ) _ := hob
            rw [e5] at hob2; exact hob2.elim
          | exc k f t τ5 =>
            have hob2 : Ob p O σ H ((match (evE ce τ4).bind fun x τ => Rs.ok (some x) τ with
              | .ok o τ2 => (lcRun (own.map Prod.snd) g (fun τ => (evC cc τ).bind fun k τ => if k then (evE ce τ).bind fun x τ => Rs.ok (some x) τ else Rs.ok none τ) (ts.drop (i + 1)) (backT τi τ2 (own.map Prod.snd))).bind fun r τ3 => Rs.ok (match o with | some x => x :: r | none => r) τ3
              | .exc .. => Rs.no
              | .no => Rs.no).bind fun ys τ => Rs.ok (T.lst (xs ++ ys)) τ) _ := hob
            rw [e5] at hob2; exact hob2.elim
          | ok t τ5 =>
            refine fun y H5 G5 X5 P5 W5 => ?_
            have hob2 : Ob p O σ H ((match (evE ce τ4).bind fun x τ => Rs.ok (some x) τ with
              | .ok o τ2 => (lcRun (own.map Prod.snd) g (fun τ => (evC cc τ).bind fun k τ => if k then (evE ce τ).bind fun x τ => Rs.ok (some x) τ else Rs.ok none τ) (ts.drop (i + 1)) (backT τi τ2 (own.map Prod.snd))).bind fun r τ3 => Rs.ok (match o with | some x => x :: r | none => r) τ3
              | .exc .. => Rs.no
              | .no => Rs.no).bind fun ys τ => Rs.ok (T.lst (xs ++ ys)) τ) _ := hob
            rw [e5] at hob2
            have hob3 : Ob p O σ H (((lcRun (own.map Prod.snd) g (fun τ => (evC cc τ).bind fun k τ => if k then (evE ce τ).bind fun x τ => Rs.ok (some x) τ else Rs.ok none τ) (ts.drop (i + 1)) (backT τi τ5 (own.map Prod.snd))).bind fun r τ3 => Rs.ok (t :: r) τ3).bind fun ys τ => Rs.ok (T.lst (xs ++ ys)) τ) _ := hob2
            rw [Rs.bind_assoc] at hob3
            have hD5 : H5 D = some (.lst acc) := X5.at_ D _ (fun z => nOo (qF_oo (p := p) D z)) hD4 (nt_lst _)
            have XB : Ext p.C (Fo (p.plus D).F0 O) Hi H5 := XA.trans (ext_q (p := p.lcp D) X5)
            have XR : Ext p.C (qF p O (quiet cc && quiet ce)) H1 H5 := XQ.trans (X5.mono fun q z => qF_r (p := p) q z)
            have G6 := Gi.back G5.unlcp XB S3 hgv hM
            have XD : Ext p.C (Fo (p.plus D).F0 O) H5 (upd H5 D (.lst (acc ++ [y]))) := ext_mut hD5 (nsil_lst _) (.inl (.inr rfl))
            refine ⟨acc, hD5, by rw [sizeLine16]; rw [sizeLine16] at hl; omega, _, acc ++ [y], xs ++ [t], G6.f0_upd (.inr rfl) hD0 hD5, upd_same, by rw [List.length_append, List.length_singleton]; omega, ?_, ?_, ?_⟩
            · exact RepL.append (RepL.ext Gi.fok (XB.trans XD) _ _ ri) (RepL.one (Rep.ext G6.fok XD _ _ (P5.rep hb)))
            · refine ⟨fun b o n eb nt => ?_, fun b eb => ?_, fun z => XD.j (XR.j z)⟩
              · rw [upd_ne (ne_of_none eb hD)]
                exact XR.at_ b o n eb nt
              · by_cases hb : b = D
                · rw [hb]; exact hD
                · rw [upd_ne hb] at eb
                  exact XR.th b eb
            · rw [show (fun ys τ => Rs.ok (T.lst (xs ++ [t] ++ ys)) τ) = (fun ys τ => Rs.ok (T.lst (xs ++ t :: ys)) τ) by funext ys τ; rw [List.append_assoc]; rfl]
              exact hob3
  · rw [List.drop_length] at hob
    unfold lcRun at hob
    have Gm := Gn.minus
    have XX : Ext p.C (qF p O (quiet (.lc (own.map Prod.snd) g ci cc ce))) H Hn := by
      have := ext_q2 (p := p) (O := O) (a := quiet ci) (b := quiet cc && quiet ce) (c := quiet (.lc (own.map Prod.snd) g ci cc ce)) (by show (quiet ci && quiet cc && quiet ce) = _; rw [Bool.and_assoc]) X1 Xn
      exact this
    have rr : Rep p.C (Fo p.F0 O) Hn (.lst (xs ++ [])) (.ref D) := by
      rw [List.append_nil]
      exact ⟨D, acc, rfl, nFo, hDn, rn.less fun b z => plus_of b (.inl z)⟩
    refine fun W => hob (.ref D) Hn Gm XX ⟨fun _ => rr, .inl rr, fun _ => ?_, fun _ _ a ea => ?_⟩ W
    · rw [List.append_nil]
      exact ⟨D, rfl, hDH, acc, hDn, rn.less fun b z => plus_of b z⟩
    · cases ea
      exact Gn
end
end Tm

end

section
set_option linter.all false
set_option maxRecDepth 100000
set_option maxHeartbeats 4000000
namespace Tm
open PySem PySem.Spec PyProof.Rows L2

/-! ### what a def promises -/
def spM (C : Ct) (fr : Bool) (n : Nat) (m : Mf) : Sp := fun vs H Q E => vs.length = n ∧ C.J H ∧ ∃ (F : Fb) (ts : List T), FT F H ∧ RepL C F H ts vs ∧ match m ts with
  | .ok t => ∀ v H', Ext C (fun _ => False) H H' → Rep C F H' t v → (fr = true → FreshV C F H t v H') → Q v H'
  | .exc k f t => ∀ Cl d w H', C.mg k = some (.ref Cl) → H' d = some (.xd [(f, w)]) → Ext C (fun _ => False) H H' → Rep C F H' t w → E (.ref Cl) (some d) H'
  | .no => False
/-- .. one that changes its first argument -/
def spIo (C : Ct) (n : Nat) (m : Mio) : Sp := fun vs H Q E => vs.length = n ∧ C.J H ∧ ∃ (F : Fb) (a : Addr) (ws : List V) (s0 : T) (ts : List T), vs = .ref a :: ws ∧ ¬ F a ∧ FT (fun b => F b ∨ b = a) H ∧ Top C (fun b => F b ∨ b = a) H a s0 ∧ RepL C (fun b => F b ∨ b = a) H ts ws ∧ match m s0 ts with
  | some (s1, t) => ∀ v H', Ext C (fun b => b = a) H H' → Top C (fun b => F b ∨ b = a) H' a s1 → Rep C (fun b => F b ∨ b = a) H' t v → Q v H'
  | none => False
section
variable {p : Px} {O : Ow} {τ : Tau} {σ : L2.St} {H H' : Hp} {i : Nat} {a : Addr} {t t' : T}
theorem Gd.jj (G : Gd p O τ σ H) : p.C.J H := G.ext.j G.j0
theorem Top.at {C : Ct} {F : Fb} {o : HO} (e : H a = some o) : ∀ {t : T}, Top C F H a t → (∃ vs, o = .lst vs) ∨ ∃ kvs, o = .dK kvs
  | .lst ts, ⟨vs, h, _⟩ => .inl ⟨vs, by rw [h] at e; cases e; rfl⟩
  | .dic ks ts, ⟨vs, h, _⟩ => .inr ⟨zipK ks vs, by rw [h] at e; cases e; rfl⟩
theorem Top.some {C : Ct} {F : Fb} : ∀ {t : T}, Top C F H a t → H a ≠ none
  | .lst ts, ⟨vs, h, _⟩ => fun z => by rw [h] at z; cases z
  | .dic ks ts, ⟨vs, h, _⟩ => fun z => by rw [h] at z; cases z
theorem Gd.io_step (G : Gd p O τ σ H) (hO : (i, a) ∈ O) (hs : σ[i]? = some (some (.ref a))) (x : Ext p.C (fun b => b = a) H H') (ht : Top p.C (Fo p.F0 O) H' a t) : Gd p O (τ.set i (some t)) σ H' := by
  have fa : Fo p.F0 O a := .inr ⟨i, hO⟩
  have X : Ext p.C (Fo p.F0 O) H H' := x.mono fun b z => by rw [z]; exact fa
  refine { len := by rw [List.length_set, G.len], fok := fun b w z e => ?_, ftr := fun b z e => G.ftr b z (x.th b e), own := fun j w hj h => ?_, plain := fun j w hj h => ?_, odom := G.odom, ona := G.ona, oni := G.oni, kp := G.kp, j0 := G.j0, ext := ⟨fun b w n e nt => ?_, fun b e => ?_, fun z => ?_⟩ }
  · by_cases hb : b = a
    · rw [hb] at e; exact ht.at e
    · cases e0 : H b with
      | none => exact (G.ftr b z e0).elim
      | some o0 =>
        have q := G.fok b o0 z e0
        have nt : NT o0 := by rcases q with ⟨_, rfl⟩ | ⟨_, rfl⟩ <;> exact fun _ z => by cases z
        rw [x.at_ b o0 hb e0 nt] at e
        cases e; exact q
  · rcases set_get h with ⟨e, eu, hl⟩ | ⟨ne, h⟩
    · cases eu
      subst e
      exact ⟨a, hO, hs, ht⟩
    · obtain ⟨b, h1, h2, h3⟩ := G.own j w hj h
      have hb : b ≠ a := fun z => ne (G.ona i j a hO (z ▸ h1))
      refine ⟨b, h1, h2, ?_⟩
      cases w with
      | lst ts =>
        obtain ⟨vs, h4, h5⟩ := h3
        exact ⟨vs, x.at_ b _ hb h4 (nt_lst _), RepL.ext G.fok X _ _ h5⟩
      | dic ks ts =>
        obtain ⟨vs, h4, hl, h5⟩ := h3
        exact ⟨vs, x.at_ b _ hb h4 (nt_dK _), hl, RepL.ext G.fok X _ _ h5⟩
      | _ => exact h3.elim
  · rcases set_get h with ⟨e, eu, hl⟩ | ⟨ne, h⟩
    · exact (hj (e ▸ (G.odom i a hO).1)).elim
    · obtain ⟨w1, h1, h2⟩ := G.plain j w hj h
      exact ⟨w1, h1, Rep.ext G.fok X w w1 h2⟩
  · have hb : b ≠ a := fun z => by
      rcases (G.odom i a hO).2.2 with q | q
      · exact n (z ▸ q)
      · rw [z, q] at e; cases e
    exact x.at_ b w hb (G.ext.at_ b w n e nt) nt
  · exact G.ext.th b (x.th b e)
  · exact x.j (G.ext.j z)
end
section
variable {X : Cx} {p : Px} {k n : Nat} {f : Addr} {fd : FuncData} {ps : List Str} {x : Str} {e : Expr} {es : List Expr} {pos np : Pos} {ca : E} {m : Mf} {fr : Bool}
theorem no_pass (hW : p.W = fun _ _ _ _ => False) (σ : L2.St) : PassesAt (CX X.prog X.w) X σ (WE p.W σ) := fun _ _ _ _ _ _ h => by
  obtain ⟨_, _, _, _, _, _, _, _, _, _, _, _, z⟩ := h
  rw [hW] at z
  exact z.elim
theorem call_imp {y : Expr} (hb : PE X y (tCallSD (spM p.C fr n m) [] (WE p.W) (tAv p ca))) (hm : ∀ ts, ts.length ≠ n → m ts = .no) : PE X y (tEv p (.call m fr ca)) := pe_imp hb fun σ H Q w ⟨O, τ, G, h⟩ => by
  unfold evE at h
  refine av_get G h fun ts τ1 vs H1 G1 X1 P1 W1 h1 => ?_
  have hl : ts.length = n := by
    by_cases hl : ts.length = n
    · exact hl
    · rw [hm ts hl] at h1; exact h1.elim
  rw [List.append_nil]
  refine ⟨P1.length.trans hl, G1.jj, Fo p.F0 O, ts, G1.ft, P1, ?_⟩
  cases em : m ts with
  | no => rw [em] at h1; exact h1.elim
  | exc k f t => rw [em] at h1; exact fun Cl d w H' hk hd hx hr => h1 Cl d w H' hk hd (G1.ext0 hx) hr ((ext_q X1).trans (hx.mono fun _ z => z.elim))
  | ok t =>
    rw [em] at h1
    refine fun v H' hx hr hf W2 => h1 v H' (G1.ext0 hx) (X1.trans (ext_any hx)) ⟨fun _ => hr, .inl hr, fun z => (hf z).back X1.th, fun z hl a ea => ?_⟩ W2
    obtain ⟨hn, hb, hs⟩ := (hf z).at hl ea
    exact G1.plus_ext hx hn hb hs
theorem sn_call (F : FnOk X.prog X.w X.K X.mg X.base (CX X.prog X.w) k f fd ps (spM p.C fr n m)) (hr : Room k X.A) (hg : Gl X x) (hmg : X.mg x = some (.ref f)) (hk : PySem.W.keepIn X.K (.ref f) = true) (hb : Binds X.K fd ps []) (hx : ∀ σ, PassesAt (CX X.prog X.w) X σ (WE p.W σ))
    (hm : ∀ ts, ts.length ≠ n → m ts = .no) (ha : PA X (e :: es) (tAv p ca)) (hdb : (x == ("__debug__" : Str)) = false := by decide) (he : starEach (e :: es) X.env = (false, eval e X.env) :: starEach es X.env := by rfl) (hpl : (backTo pos (starEach es X.env)).any (·.1) = false := by rfl) :
    PE X (.Call (.Name x np) (e :: es) [] pos) (tEv p (.call m fr ca)) := call_imp (pe_callSD F hr hg hmg hk hb .nil hx ha hdb he hpl) hm
theorem sn_cio {i : Nat} {y : Str} {yp : Pos} {m : Mio} (F : FnOk X.prog X.w X.K X.mg X.base (CX X.prog X.w) k f fd ps (spIo p.C n m)) (hr : Room k X.A) (hg : Gl X x) (hmg : X.mg x = some (.ref f)) (hk : PySem.W.keepIn X.K (.ref f) = true) (hb : Binds X.K fd ps []) (hx : ∀ σ, PassesAt (CX X.prog X.w) X σ (WE p.W σ))
    (hm : ∀ s ts, ts.length + 1 ≠ n → m s ts = none) (hN : X.N[i]? = some y) (hv : Vis X.env.scope y) (hM : i ∈ p.M) (ha : PA X es (tAv p ca)) (hdb : (x == ("__debug__" : Str)) = false := by decide) (hyd : (y == ("__debug__" : Str)) = false := by decide) (hyc : (y == ("__classdict__" : Str)) = false := by decide)
    (he : starEach (.Name y yp :: es) X.env = (false, eval (.Name y yp) X.env) :: starEach es X.env := by rfl) (hpl : (backTo pos (starEach es X.env)).any (·.1) = false := by rfl) :
    PE X (.Call (.Name x np) (.Name y yp :: es) [] pos) (tEv p (.cio m fr i ca)) := pe_imp (pe_callSD F hr hg hmg hk hb .nil hx (pa_cons (pe_var hN hv hyd hyc) ha he) hdb he hpl) fun σ H Q w ⟨O, τ, G, h⟩ => by
  unfold evE at h
  split at h
  · rename_i s00 e00
    obtain ⟨a, hO, hs, _⟩ := G.own i _ hM e00
    refine ⟨.ref a, hs, ?_⟩
    refine av_get G h fun ts τ1 vs H1 G1 X1 P1 W1 h1 => ?_
    split at h1
    · rename_i s0 e0
      obtain ⟨a', hO', hs', ht⟩ := G1.own i _ hM e0
      obtain rfl := G1.oni i a a' hO hO'
      split at h1
      · rename_i s1 t em
        have hl : ts.length + 1 = n := by
          by_cases hl : ts.length + 1 = n
          · exact hl
          · rw [hm s0 ts hl] at em; cases em
        have fa : Fo p.F0 O a := .inr ⟨i, hO⟩
        have s1' : ∀ b, ((Fo p.F0 O b ∧ b ≠ a) ∨ b = a) → Fo p.F0 O b := fun b z => by
          rcases z with z | z
          · exact z.1
          · rw [z]; exact fa
        have s2' : ∀ b, Fo p.F0 O b → (Fo p.F0 O b ∧ b ≠ a) ∨ b = a := fun b z => by
          by_cases hb : b = a
          · exact .inr hb
          · exact .inl ⟨z, hb⟩
        rw [List.append_nil]
        refine ⟨by rw [List.length_cons, P1.length]; exact hl, G1.jj, fun b => Fo p.F0 O b ∧ b ≠ a, a, vs, s0, ts, rfl, fun z => z.2 rfl, ⟨fun b o z e => G1.fok b o (s1' b z) e, fun b z => G1.ftr b (s1' b z)⟩, ht.less s1', P1.less s1', ?_⟩
        rw [em]
        refine fun v H' hx ht' hr' W2 => h1 v H' (G1.io_step hO hs hx (ht'.less s2')) (show Ext p.C (Oo O) H H' from (X1.mono fun b z => qF_oo b z).trans (hx.mono fun b z => ⟨i, by rw [z]; exact hO⟩)) (pv_nf rfl rfl (hr'.less s2')) W2
      · exact h1.elim
    · exact h1.elim
  · exact h.elim
end
theorem start_len {N : List Str} {vs : List V} (h : vs.length ≤ N.length) : (L2.start N vs).length = N.length := by
  unfold L2.start
  rw [List.length_append, List.length_map, List.length_replicate]
  omega
def tau0 (N : Nat) (ts : List T) : Tau := ts.map some ++ List.replicate (N - ts.length) none
theorem tau0_get {N : Nat} {ts : List T} {i : Nat} {t : T} (h : (tau0 N ts)[i]? = some (some t)) : ts[i]? = some t := by
  unfold tau0 at h
  by_cases hi : i < ts.length
  · rw [List.getElem?_append_left (by rw [List.length_map]; exact hi), List.getElem?_map] at h
    cases e : ts[i]? with
    | none => rw [e] at h; cases h
    | some u => rw [e] at h; cases h; rfl
  · rw [List.getElem?_append_right (by rw [List.length_map]; omega)] at h
    rw [List.getElem?_replicate] at h
    split at h <;> cases h
theorem start_get {N : List Str} {vs : List V} {i : Nat} {v : V} (h : vs[i]? = some v) : (L2.start N vs)[i]? = some (some v) := by
  unfold L2.start
  have hi : i < vs.length := (List.getElem?_eq_some_iff.mp h).1
  rw [List.getElem?_append_left (by rw [List.length_map]; exact hi), List.getElem?_map, h]
  rfl
section
variable {C : Ct} {M : List Nat} {F : Fb} {H : Hp} {ts : List T} {vs : List V} {N : List Str} {W : WX} {a : Addr} {s0 : T}
def pxF (C : Ct) (M : List Nat) (F : Fb) (H : Hp) (W : WX) : Px := ⟨C, M, F, H, fun _ => False, W⟩
def pxIo (C : Ct) (M : List Nat) (F : Fb) (H : Hp) (a : Addr) (W : WX) : Px := ⟨C, M, F, H, fun b => b = a, W⟩
theorem gd_start (ft : FT F H) (j : C.J H) (r : RepL C F H ts vs) (hN : ts.length ≤ N.length) (hM : ∀ i ∈ M, ts.length ≤ i) : Gd (pxF C M F H W) [] (tau0 N.length ts) (L2.start N vs) H where
  len := by
    unfold tau0
    rw [start_len (by rw [r.length]; exact hN), List.length_append, List.length_map, List.length_replicate]
    omega
  fok := fun b o z e => by
    rcases z with z | ⟨_, z⟩
    · exact ft.ok b o z e
    · cases z
  ftr := fun b z => by
    rcases z with z | ⟨_, z⟩
    · exact ft.tr b z
    · cases z
  own := fun i t hi h => by
    have h1 := (List.getElem?_eq_some_iff.mp (tau0_get h)).1
    exact absurd h1 (Nat.not_lt.mpr (hM i hi))
  plain := fun i t hi h => by
    obtain ⟨v, h1, h2⟩ := r.get (tau0_get h)
    exact ⟨v, start_get h1, h2.less fun b z => by
      rcases z with z | ⟨_, z⟩
      · exact z
      · cases z⟩
  odom := fun i b h => by cases h
  ona := fun i j b h => by cases h
  oni := fun i b c h => by cases h
  kp := fun b z => z.elim
  ext := Ext.refl _ _ _
  j0 := j
theorem gd_startIo (nf : ¬ F a) (ft : FT (fun b => F b ∨ b = a) H) (j : C.J H) (ht : Top C (fun b => F b ∨ b = a) H a s0) (r : RepL C (fun b => F b ∨ b = a) H ts vs) (hN : ts.length + 1 ≤ N.length) (h0 : 0 ∈ M) (hM : ∀ i ∈ M, i = 0 ∨ ts.length + 1 ≤ i) :
    Gd (pxIo C M F H a W) [(0, a)] (tau0 N.length (s0 :: ts)) (L2.start N (.ref a :: vs)) H where
  len := by
    unfold tau0
    rw [start_len (by rw [List.length_cons, r.length]; exact hN), List.length_append, List.length_map, List.length_replicate, List.length_cons]
    omega
  fok := fun b o z e => ft.ok b o (by
    rcases z with z | ⟨_, z⟩
    · exact .inl z
    · cases List.mem_singleton.mp z; exact .inr rfl) e
  ftr := fun b z => ft.tr b (by
    rcases z with z | ⟨_, z⟩
    · exact .inl z
    · cases List.mem_singleton.mp z; exact .inr rfl)
  own := fun i t hi h => by
    have h0 := tau0_get h
    have h1 := (List.getElem?_eq_some_iff.mp h0).1
    rw [List.length_cons] at h1
    rcases hM i hi with e | e
    · subst e
      cases h0
      refine ⟨a, List.mem_singleton.mpr rfl, start_get rfl, ht.less fun b z => ?_⟩
      rcases z with z | ⟨_, z⟩
      · exact .inl z
      · cases List.mem_singleton.mp z; exact .inr rfl
    · omega
  plain := fun i t hi h => by
    have hx := tau0_get h
    cases i with
    | zero => exact (hi h0).elim
    | succ i =>
      obtain ⟨v, h1, h2⟩ := r.get (i := i) (by simpa using hx)
      refine ⟨v, start_get (by simpa using h1), h2.less fun b z => ?_⟩
      rcases z with z | ⟨_, z⟩
      · exact .inl z
      · cases List.mem_singleton.mp z; exact .inr rfl
  odom := fun i b h => by
    cases List.mem_singleton.mp h
    exact ⟨h0, nf, .inl rfl⟩
  ona := fun i j b h h' => by
    cases List.mem_singleton.mp h
    cases List.mem_singleton.mp h'
    rfl
  oni := fun i b c h h' => by
    cases List.mem_singleton.mp h
    cases List.mem_singleton.mp h'
    rfl
  kp := fun b z => by cases z; exact List.mem_singleton.mpr rfl
  ext := Ext.refl _ _ _
  j0 := j
end
/-- a def's body answers as its code does -/
theorem run_ok {C : Ct} {M : List Nat} {fr : Bool} {n : Nat} {N : List Str} {s : S} {vs : List V} {H : Hp} {Q : VK} {E : XK} (hN : n ≤ N.length) (hM : ∀ i ∈ M, n ≤ i) (h : spM C fr n (runM n N.length s) vs H Q E) :
    ∃ F, (C.J H ∧ FT F H) ∧ tSv (pxF C M F H fun cls d _ H' => E cls d H') fr s { nx := fun _ H' => Q .non H', rt := Q } (L2.start N vs) H := by
  obtain ⟨hl, j, F, ts, ft, r, h⟩ := h
  have hl' : ts.length = n := r.length.symm.trans hl
  refine ⟨F, ⟨j, ft⟩, [], tau0 N.length ts, gd_start ft j r (by rw [hl']; exact hN) (by rw [hl']; exact hM), ?_⟩
  have e0 : runM n N.length s ts = match exS s (tau0 N.length ts) with
    | .nx _ => .ok .non
    | .rt t _ => .ok t
    | .exc k f t _ => .exc k f t
    | _ => .no := by
    unfold runM tau0
    rw [if_pos hl', hl']
    try (generalize exS s _ = o; cases o <;> rfl)
  rw [e0] at h
  revert h
  cases e : exS s (tau0 N.length ts) with
  | nx τ => exact fun h σ' O' H' G S => h .non H' G.ext rfl fun _ => trivial
  | rt t τ => exact fun h v σ' O' H' G S R => h v H' G.ext (R.rep.less fun b z => .inl z) fun z => (R.new z).less (fun b z => .inl z) fun _ z => z
  | exc k f t τ => exact fun h σ' O' Cl d w H' h1 h2 G R S => h Cl d w H' h1 h2 G.ext (R.less fun b z => .inl z)
  | bk τ => exact fun h => h.elim
  | ct τ => exact fun h => h.elim
  | no => exact fun h => h.elim
theorem runIo_ok {C : Ct} {M : List Nat} {fr : Bool} {n : Nat} {N : List Str} {s : S} {vs : List V} {H : Hp} {Q : VK} {E : XK} (hN : n ≤ N.length) (h0 : 0 ∈ M) (hM : ∀ i ∈ M, i = 0 ∨ n ≤ i) (h : spIo C n (runIo n N.length s) vs H Q E) :
    ∃ F a, (C.J H ∧ FT (fun b => F b ∨ b = a) H) ∧ tSv (pxIo C M F H a fun _ _ _ _ => False) fr s { nx := fun _ H' => Q .non H', rt := Q } (L2.start N vs) H := by
  obtain ⟨hl, j, F, a, ws, s0, ts, rfl, nf, ft, ht, r, h⟩ := h
  have hl' : ts.length + 1 = n := by rw [← r.length]; exact hl
  refine ⟨F, a, ⟨j, ft⟩, [(0, a)], tau0 N.length (s0 :: ts), gd_startIo nf ft j ht r (by rw [hl']; exact hN) h0 (by rw [hl']; exact hM), ?_⟩
  have e0 : runIo n N.length s s0 ts = match exS s (tau0 N.length (s0 :: ts)) with
    | .nx τ => match τ[0]? with
      | some (some s1) => some (s1, .non)
      | _ => none
    | .rt t τ => match τ[0]? with
      | some (some s1) => some (s1, t)
      | _ => none
    | _ => none := by
    unfold runIo tau0
    rw [if_pos hl', List.length_cons, hl']
    show (match exS s (some s0 :: (ts.map some ++ List.replicate (N.length - n) none)) with | .nx τ => _ | .rt t τ => _ | _ => none) = match exS s (some s0 :: (ts.map some ++ List.replicate (N.length - n) none)) with | .nx τ => _ | .rt t τ => _ | _ => none
    try (generalize exS s _ = o; cases o <;> rfl)
  rw [e0] at h
  have top : ∀ {τ : Tau} {σ' : L2.St} {O' : Ow} {H' : Hp} {s1 : T}, Gd (pxIo C M F H a fun _ _ _ _ => False) O' τ σ' H' → τ[0]? = some (some s1) → Top C (fun b => F b ∨ b = a) H' a s1 := fun {τ σ' O' H' s1} G e => by
    obtain ⟨b, h1, h2, h3⟩ := G.own 0 s1 h0 e
    have := G.kp a rfl
    obtain rfl := G.oni 0 a b this h1
    refine h3.less fun c z => ?_
    rcases z with z | z
    · exact .inl z
    · rw [z]; exact .inr ⟨0, this⟩
  revert h
  cases e : exS s (tau0 N.length (s0 :: ts)) with
  | nx τ =>
    intro h σ' O' H' G S
    dsimp only at h
    split at h
    · rename_i s1 e1
      split at e1
      · rename_i s2 e2
        cases e1
        exact h .non H' G.ext (top G e2) rfl
      · cases e1
    · exact h.elim
  | rt t τ =>
    intro h v σ' O' H' G S R
    dsimp only at h
    split at h
    · rename_i s1 t1 e1
      split at e1
      · rename_i s2 e2
        cases e1
        exact h v H' G.ext (top G e2) R.rep
      · cases e1
    · exact h.elim
  | exc k f t τ => exact fun h => h.elim
  | bk τ => exact fun h => h.elim
  | ct τ => exact fun h => h.elim
  | no => exact fun h => h.elim
end Tm

end

section
set_option linter.all false
set_option maxRecDepth 100000
set_option maxHeartbeats 4000000
namespace Tm
open PySem PySem.Spec PyProof.Rows L2

/-! ### defs that let nothing out -/
def runN (n N : Nat) (s : S) : Mf := fun ts => match runM n N s ts with
  | .ok t => .ok t
  | _ => .no
theorem runN_len {n N : Nat} {s : S} : ∀ ts : List T, ts.length ≠ n → runN n N s ts = .no := fun ts h => by
  unfold runN runM
  rw [if_neg h]
theorem runIo_len {n N : Nat} {s : S} : ∀ (s0 : T) (ts : List T), ts.length + 1 ≠ n → runIo n N s s0 ts = none := fun s0 ts h => by
  unfold runIo
  rw [if_neg h]
def noW : WX := fun _ _ _ _ => False
theorem run_okN {C : Ct} {M : List Nat} {fr : Bool} {n : Nat} {N : List Str} {s : S} {vs : List V} {H : Hp} {Q : VK} {E : XK} (hN : n ≤ N.length) (hM : ∀ i ∈ M, n ≤ i) (h : spM C fr n (runN n N.length s) vs H Q E) :
    ∃ F, tSv (pxF C M F H noW) fr s { nx := fun _ H' => Q .non H', rt := Q } (L2.start N vs) H := by
  obtain ⟨hl, j, F, ts, ft, r, h⟩ := h
  have hl' : ts.length = n := r.length.symm.trans hl
  refine ⟨F, [], tau0 N.length ts, gd_start ft j r (by rw [hl']; exact hN) (by rw [hl']; exact hM), ?_⟩
  have e0 : runN n N.length s ts = match exS s (tau0 N.length ts) with
    | .nx _ => .ok .non
    | .rt t _ => .ok t
    | _ => .no := by
    unfold runN runM tau0
    rw [if_pos hl', hl']
    try (generalize exS s _ = o; cases o <;> rfl)
  rw [e0] at h
  revert h
  cases e : exS s (tau0 N.length ts) with
  | nx τ => exact fun h σ' O' H' G S => h .non H' G.ext rfl fun _ => trivial
  | rt t τ => exact fun h v σ' O' H' G S R => h v H' G.ext (R.rep.less fun b z => .inl z) fun z => (R.new z).less (fun b z => .inl z) fun _ z => z
  | exc k f t τ => exact fun h => h.elim
  | bk τ => exact fun h => h.elim
  | ct τ => exact fun h => h.elim
  | no => exact fun h => h.elim
section
variable {P : Program} {w : World} {K : PySem.W.Frag} {mg : Str → Option Value} {base : Heap} {x qual : Str} {params : Arguments} {body : List Stmt} {scope : Scope} {dvs : List V} {kws : List (Str × V)} {f : Addr} {fd : FuncData} {N ps : List Str} {k n : Nat} {C : Ct} {M : List Nat} {fr : Bool} {s : S}
theorem def_ok (F : FunD K x qual params body scope dvs kws f fd) (Sc : FnScope N ps scope) (hn : ps.length = n) (hM : ∀ i ∈ M, n ≤ i)
    (hb : ∀ (cdv : Value) (A : Around) (outer : List Env) (s1 : Shared) (H : Hp) (E : XK) (F0 : Fb), Room k (A.deeper (envOfC qual scope s1.heap.objs.size f cdv)) → PSs (cxOf (CX P w) P w K mg base N qual scope f cdv A outer s1 H E).nox body (tSv (pxF C M F0 H noW) fr s)) :
    FnOk P w K mg base (CX P w) (k + 1) f fd ps (spM C fr n (runN n N.length s)) := by
  have hNl : n ≤ N.length := by
    have := congrArg List.length Sc.pre
    rw [List.length_take] at this
    omega
  refine F.ok Sc (fun vs H Q E h => h.1.trans hn.symm) fun cdv A outer s1 H vs Q E hr h => ?_
  obtain ⟨F0, h2⟩ := run_okN hNl hM h
  exact ⟨_, PSs.nox (hb cdv A outer s1 H E F0 hr), h2⟩
theorem def_okIo (F : FunD K x qual params body scope dvs kws f fd) (Sc : FnScope N ps scope) (hn : ps.length = n) (h0 : 0 ∈ M) (hM : ∀ i ∈ M, i = 0 ∨ n ≤ i)
    (hb : ∀ (cdv : Value) (A : Around) (outer : List Env) (s1 : Shared) (H : Hp) (E : XK) (F0 : Fb) (a : Addr), Room k (A.deeper (envOfC qual scope s1.heap.objs.size f cdv)) → PSs (cxOf (CX P w) P w K mg base N qual scope f cdv A outer s1 H E).nox body (tSv (pxIo C M F0 H a noW) fr s)) :
    FnOk P w K mg base (CX P w) (k + 1) f fd ps (spIo C n (runIo n N.length s)) := by
  have hNl : n ≤ N.length := by
    have := congrArg List.length Sc.pre
    rw [List.length_take] at this
    omega
  refine F.ok Sc (fun vs H Q E h => h.1.trans hn.symm) fun cdv A outer s1 H vs Q E hr h => ?_
  obtain ⟨F0, a, _, h2⟩ := runIo_ok (fr := fr) hNl h0 hM h
  exact ⟨_, PSs.nox (hb cdv A outer s1 H E F0 a hr), h2⟩
end
theorem no_passF {X : Cx} {C : Ct} {M : List Nat} {F : Fb} {H : Hp} (σ : L2.St) : PassesAt (CX X.prog X.w) X σ (WE (pxF C M F H noW).W σ) := no_pass rfl σ

/-! ### classes of errors, told by Bools -/
def ekB (K : PySem.W.Frag) (C : Addr) (newId : String) (bmB : List Value) : Bool :=
  PySem.W.excInitIn K C bmB newId && (PySem.W.hasDictIn K C && (He.eqO (PySem.W.findIn K (.ref C) "__setattr__") (some (some (.builtin "object.__setattr__"))) && (PySem.W.keepIn K (.ref C) && (decide (PySem.W.subIn K (.ref C) (.type "BaseException") = some true) && (decide (PySem.W.typeIn K (.ref C) = some (.type "type")) &&
  (He.eqO (PySem.W.findIn K (.ref C) "__getattribute__") (some (some (.builtin "BaseException.__getattribute__"))) && (He.eqO (PySem.W.findIn K (.ref C) "__getattr__") (some none) && (He.eqO (PySem.W.findIn K (.ref C) "__class__") (some (some (.builtin "object.__class__"))) &&
  (He.eqO (PySem.W.specialIn K (.builtin "object.__class__") "__get__") (some (some (.builtin "getset_descriptor.__get__"))) && (decide (PySem.W.takesIn K (.builtin "object.__class__") = some true) && decide (PySem.W.mroIn K C (.type "object") = some true)))))))))))
theorem ekB_ok {K : PySem.W.Frag} {C : Addr} {B newId initId : String} {bmB : List Value} (hb : ExcBaseFacts B newId initId bmB) (hs : PySem.StoreFacts B bmB "object.__setattr__" "object") (h : ekB K C newId bmB = true) : EK K C B newId initId bmB := by
  obtain ⟨h1, h⟩ := He.ba h
  obtain ⟨h2, h⟩ := He.ba h
  obtain ⟨h3, h⟩ := He.ba h
  obtain ⟨h4, h⟩ := He.ba h
  obtain ⟨h5, h⟩ := He.ba h
  obtain ⟨h6, h⟩ := He.ba h
  obtain ⟨h7, h⟩ := He.ba h
  obtain ⟨h8, h⟩ := He.ba h
  obtain ⟨h9, h⟩ := He.ba h
  obtain ⟨h10, h⟩ := He.ba h
  obtain ⟨h11, h12⟩ := He.ba h
  exact ⟨hb, hs, h1, h2, He.eqO_ok h3, h4, of_decide_eq_true h5, of_decide_eq_true h6, He.eqO_ok h7, He.eqO_ok h8, He.eqO_ok h9, He.eqO_ok h10, of_decide_eq_true h11, of_decide_eq_true h12⟩
/-- a class: its name, its field's name, the built-in above it -/
def clB (K : PySem.W.Frag) (c f : Str) (newId : String) (bmB : List Value) : Bool := ekB K (He.ga K c) newId bmB && (He.eqO (PySem.W.findIn K (.ref (He.ga K c)) "__init__") (some (some (.ref (He.fAd K (c, some "__init__"))))) &&
  (decide (PySem.W.typeIn K (.ref (He.fAd K (c, some "__init__"))) = some (.type "function")) && (He.eqO (PySem.W.findIn K (.ref (He.ga K c)) "__str__") (some (some (.builtin "BaseException.__str__"))) && He.eqO (PySem.W.findIn K (.ref (He.ga K c)) f) (some none))))
structure ClF (K : PySem.W.Frag) (c f : Str) (B newId initId : String) (bmB : List Value) : Prop where
  ek : EK K (He.ga K c) B newId initId bmB
  iC : PySem.W.findIn K (.ref (He.ga K c)) "__init__" = some (some (.ref (He.fAd K (c, some "__init__"))))
  tI : PySem.W.typeIn K (.ref (He.fAd K (c, some "__init__"))) = some (.type "function")
  st : PySem.W.findIn K (.ref (He.ga K c)) "__str__" = some (some (.builtin "BaseException.__str__"))
  no : PySem.W.findIn K (.ref (He.ga K c)) f = some none
theorem clB_ok {K : PySem.W.Frag} {c f : Str} {B newId initId : String} {bmB : List Value} (hb : ExcBaseFacts B newId initId bmB) (hs : PySem.StoreFacts B bmB "object.__setattr__" "object") (h : clB K c f newId bmB = true) : ClF K c f B newId initId bmB := by
  obtain ⟨h1, h⟩ := He.ba h
  obtain ⟨h2, h⟩ := He.ba h
  obtain ⟨h3, h⟩ := He.ba h
  obtain ⟨h4, h5⟩ := He.ba h
  exact ⟨ekB_ok hb hs h1, He.eqO_ok h2, of_decide_eq_true h3, He.eqO_ok h4, He.eqO_ok h5⟩
/-- isinstance's answers for classes cs -/
inductive Tg where
  | own (x : Str)
  | bt (T : String)
def Tg.v (K : PySem.W.Frag) : Tg → Value
  | .own x => .ref (He.ga K x)
  | .bt T => .type T
def isB (K : PySem.W.Frag) (tb : List (Str × List Str)) (tg : Str) (g : Tg) : Bool := tb.all fun q => decide (PySem.W.kitOne K (.ref (He.ga K q.1)) (g.v K) = some (q.2.contains tg))
/-! ### the head's facts, the statics among them -/
def asY (g : Addr → Option Obj) (n : Nat) : List Addr := PySem.cStatics :: He.asD g n
def obsY (n : Nat) (fa : List He.Fa) (fn : List He.DefD) (ex : PySem.W.Frag → Bool) (g : Addr → Option Obj) : He.AlX := (He.obsT fa fn [] (He.frT g (asY g n)), ex (He.frT g (asY g n)))
def hookY (n : Nat) (fa : List He.Fa) (fn : List He.DefD) (ex : PySem.W.Frag → Bool) : PySem.W.Hook where
  α := He.AlX
  obs := fun s => obsY n fa fn ex s.heap.get?
  val := fun w => (He.valT fn [] w, true)
  says := fun w h => ∃ K : PySem.W.Frag, K.In h ∧ He.SaysT fa fn [] w K ∧ ex K = true
  of := fun _ _ e => ⟨_, He.frT_in, congrArg (fun z : He.AlX => z.1) e, congrArg (fun z : He.AlX => z.2) e⟩
  keeps := fun _ _ _ ⟨K, hK, c⟩ k => ⟨K, PySem.W.Frag.In.keeps hK k, c⟩
theorem obsY_eq {n : Nat} {fa : List He.Fa} {fn : List He.DefD} {ex : PySem.W.Frag → Bool} {g : Addr → Option Obj} {s : Shared} (h : ∀ a, g a = s.heap.get? a) : obsY n fa fn ex g = (hookY n fa fn ex).obs s := by
  have e : g = s.heap.get? := funext h
  rw [e] <;> rfl
end Tm

end

section
set_option linter.all false
set_option maxRecDepth 100000
set_option maxHeartbeats 4000000
namespace Tm
open PySem PySem.Spec PyProof.Rows L2

def ctk (K : PySem.W.Frag) (mg : Str → Option Value) : Ct := ⟨K, mg, fun _ => True, fun _ _ _ h => h⟩
theorem hu1 {k : Nat} {A : Around} (r : Room k A) : A.units + 1 < cLine := by have := r.units; omega
theorem hu2 {k : Nat} {A : Around} (r : Room k A) : A.units + 2 < cLine := by have := r.units; omega
/-- a def of the text keeps its promise -/
def DF (P : Program) (w : World) (K : PySem.W.Frag) (mg : Str → Option Value) (base : Heap) (k : Nat) (x : Str) (ps : List Str) (sp : Sp) : Prop :=
  ∃ fd, FnOk P w K mg base (CX P w) k (He.ga K x) fd ps sp ∧ PySem.W.keepIn K (.ref (He.ga K x)) = true ∧ Binds K fd ps []
/-- a class of errors: calls of it -/
def MkC (P : Program) (w : World) (K : PySem.W.Frag) (mg : Str → Option Value) (base : Heap) (d : Bool) (c f m : Str) : Prop :=
  ∃ Cl fI fd, mg c = some (.ref Cl) ∧ (∃ B newId initId bmB, EK K Cl B newId initId bmB) ∧ PySem.W.findIn K (.ref Cl) "__init__" = some (some (.ref fI)) ∧ PySem.W.typeIn K (.ref fI) = some (.type "function") ∧
    FnOk P w K mg base (CX P w) 1 fI fd ["self", f] (spI Cl f m) ∧ (∃ g gV, KBn K fd ["self", f] 2 [] g gV ∧ ∀ a v : V, gV [a, v] [] = [a, v]) ∧ (∃ g gV, KBn K fd ["self", f] 1 [f] g gV ∧ ∀ a v : V, gV [a] [v] = [a, v]) ∧
    (d = true → ∃ g gV, KBn K fd ["self", f] 1 [] g gV ∧ ∀ a : V, gV [a] [] = [a, .non])
section
variable {X : Cx} {p : Px} {k n : Nat} {ps : List Str} {x c f m : Str} {e : Expr} {es : List Expr} {pos np kpos : Pos} {ca : E} {mf : Mf} {fr d : Bool}
theorem sn_callD (D : DF X.prog X.w X.K X.mg X.base k x ps (spM p.C fr n mf)) (hr : Room k X.A) (hg : Gl X x) (hmg : X.mg x = some (.ref (He.ga X.K x))) (hW : p.W = noW)
    (hm : ∀ ts, ts.length ≠ n → mf ts = .no) (ha : PA X (e :: es) (tAv p ca)) (hdb : (x == ("__debug__" : Str)) = false := by decide) (he : starEach (e :: es) X.env = (false, eval e X.env) :: starEach es X.env := by rfl) (hpl : (backTo pos (starEach es X.env)).any (·.1) = false := by rfl) :
    PE X (.Call (.Name x np) (e :: es) [] pos) (tEv p (.call mf fr ca)) := by
  obtain ⟨fd, F, hk, hb⟩ := D
  exact sn_call F hr hg hmg hk hb (no_pass hW) hm ha hdb he hpl
theorem sn_cioD {i : Nat} {y : Str} {yp : Pos} {mi : Mio} (D : DF X.prog X.w X.K X.mg X.base k x ps (spIo p.C n mi)) (hr : Room k X.A) (hg : Gl X x) (hmg : X.mg x = some (.ref (He.ga X.K x))) (hW : p.W = noW)
    (hm : ∀ s ts, ts.length + 1 ≠ n → mi s ts = none) (hN : X.N[i]? = some y) (hv : Vis X.env.scope y) (hM : i ∈ p.M) (ha : PA X es (tAv p ca)) (hdb : (x == ("__debug__" : Str)) = false := by decide) (hyd : (y == ("__debug__" : Str)) = false := by decide) (hyc : (y == ("__classdict__" : Str)) = false := by decide)
    (he : starEach (.Name y yp :: es) X.env = (false, eval (.Name y yp) X.env) :: starEach es X.env := by rfl) (hpl : (backTo pos (starEach es X.env)).any (·.1) = false := by rfl) :
    PE X (.Call (.Name x np) (.Name y yp :: es) [] pos) (tEv p (.cio mi false i ca)) := by
  obtain ⟨fd, F, hk, hb⟩ := D
  exact sn_cio F hr hg hmg hk hb (no_pass hW) hm hN hv hM ha hdb hyd hyc he hpl
theorem sn_mk1D (hC : p.C.mg = X.mg) (M : MkC X.prog X.w X.K X.mg X.base d c f m) (hr : Room 2 X.A) (hgl : Gl X c) (ha : PE X e (tEv p ca)) (hbo : isBor ca = false := by rfl) (hdb : (c == ("__debug__" : Str)) = false := by decide)
    (he : starEach [e] X.env = (false, eval e X.env) :: starEach [] X.env := by rfl) : PE X (.Call (.Name c np) [e] [] pos) (tEv p (.mk c f m ca)) := by
  obtain ⟨Cl, fI, fd, h1, h2, h3, h4, h5, ⟨g, gV, h6, h7⟩, _, _⟩ := M
  exact sn_mk1 (k := 1) hC ⟨h1, h2, h3, h4, h5⟩ hr hgl h6 h7 ha hbo hdb he
theorem sn_mkKD (hC : p.C.mg = X.mg) (M : MkC X.prog X.w X.K X.mg X.base d c f m) (hr : Room 2 X.A) (hgl : Gl X c) (ha : PE X e (tEv p ca)) (hbo : isBor ca = false := by rfl) (hdb : (c == ("__debug__" : Str)) = false := by decide) :
    PE X (.Call (.Name c np) [] [⟨some f, e, kpos⟩] pos) (tEv p (.mk c f m ca)) := by
  obtain ⟨Cl, fI, fd, h1, h2, h3, h4, h5, _, ⟨g, gV, h6, h7⟩, _⟩ := M
  exact sn_mkK (k := 1) hC ⟨h1, h2, h3, h4, h5⟩ hr hgl h6 h7 ha hbo hdb
theorem sn_mk0D (hC : p.C.mg = X.mg) (M : MkC X.prog X.w X.K X.mg X.base true c f m) (hr : Room 2 X.A) (hgl : Gl X c) (hdb : (c == ("__debug__" : Str)) = false := by decide) : PE X (.Call (.Name c np) [] [] pos) (tEv p (.mk c f m (.cst .non))) := by
  obtain ⟨Cl, fI, fd, h1, h2, h3, h4, h5, _, _, h6⟩ := M
  obtain ⟨g, gV, h7, h8⟩ := h6 rfl
  exact sn_mk0 (k := 1) hC ⟨h1, h2, h3, h4, h5⟩ hr hgl h7 h8 hdb
end
section
variable {K : PySem.W.Frag} {x qual : Str} {params : Arguments} {body : List Stmt} {scope : Scope} {kws : List (Str × V)} {f : Addr} {fd : FuncData} {ps : List Str}
theorem kbn0 (F : FunD K x qual params body scope [] kws f fd) (n : Nat) (ks : List Str) (g : {α : Type} → List α → List α → List α)
    (hrel : ∀ {vs zs : List V} {us ws : List Value}, Vals vs us → Vals zs ws → Vals (g vs zs) (g us ws))
    (h : ∀ (kV doc pm : Value) (an : Option Addr) (cdv ct : Value) (us ws : List Value), us.length = n → ws.length = ks.length → bindArgs (PySem.W.fnOf x qual params body scope .none kV doc pm an cdv ct) ⟨us, ks.zip ws⟩ = pure (ps.zip (g us ws))) :
    KBn K fd ps n ks (fun us ws => g us ws) (fun vs zs => g vs zs) := by
  obtain ⟨oc, od, dV, kV, doc, pm, an, cdv, ct, osl, rfl, lk, hcd, hD, hK⟩ := F.ex
  rcases hD with ⟨_, rfl⟩ | ⟨e, _⟩
  · exact ⟨fun s us ws X l1 l2 => .of_eq (h kV doc pm an cdv ct us ws l1 l2), fun r1 r2 => hrel r1 r2⟩
  · exact absurd rfl e
end
end Tm

end

section
set_option linter.all false
set_option maxRecDepth 100000
set_option maxHeartbeats 0
namespace K99
open PySem PySem.Spec PyProof.Rows L2 Tm
/-! ### the text -/

def tps : List Stmt := PySem.Challenge.pw_runsbelieved_k99_errors_by_hand.main.body
def tp (i : Nat) : Stmt := (tps[i]?).getD (.Pass default)
def inner : Stmt → Stmt
  | .ClassDef _ _ _ (s :: _) _ _ _ _ _ _ _ => s
  | s => s
def a__law_mixed : Arguments := ((⟨_, by conv => lhs; whnf⟩ : { y : Arguments // C8.fnArgs (tp 29) = y })).1
def b__law_mixed : List Stmt := ((⟨_, by conv => lhs; whnf⟩ : { y : List Stmt // C8.fnBody (tp 29) = y })).1
def k__law_mixed : Scope := ((⟨_, by conv => lhs; whnf⟩ : { y : Scope // C8.fnScope (tp 29) = y })).1
def a__law_draw : Arguments := ((⟨_, by conv => lhs; whnf⟩ : { y : Arguments // C8.fnArgs (tp 30) = y })).1
def b__law_draw : List Stmt := ((⟨_, by conv => lhs; whnf⟩ : { y : List Stmt // C8.fnBody (tp 30) = y })).1
def k__law_draw : Scope := ((⟨_, by conv => lhs; whnf⟩ : { y : Scope // C8.fnScope (tp 30) = y })).1
def a__law_digit : Arguments := ((⟨_, by conv => lhs; whnf⟩ : { y : Arguments // C8.fnArgs (tp 31) = y })).1
def b__law_digit : List Stmt := ((⟨_, by conv => lhs; whnf⟩ : { y : List Stmt // C8.fnBody (tp 31) = y })).1
def k__law_digit : Scope := ((⟨_, by conv => lhs; whnf⟩ : { y : Scope // C8.fnScope (tp 31) = y })).1
def a__law_kinds : Arguments := ((⟨_, by conv => lhs; whnf⟩ : { y : Arguments // C8.fnArgs (tp 32) = y })).1
def b__law_kinds : List Stmt := ((⟨_, by conv => lhs; whnf⟩ : { y : List Stmt // C8.fnBody (tp 32) = y })).1
def k__law_kinds : Scope := ((⟨_, by conv => lhs; whnf⟩ : { y : Scope // C8.fnScope (tp 32) = y })).1
def a__law_valued : Arguments := ((⟨_, by conv => lhs; whnf⟩ : { y : Arguments // C8.fnArgs (tp 33) = y })).1
def b__law_valued : List Stmt := ((⟨_, by conv => lhs; whnf⟩ : { y : List Stmt // C8.fnBody (tp 33) = y })).1
def k__law_valued : Scope := ((⟨_, by conv => lhs; whnf⟩ : { y : Scope // C8.fnScope (tp 33) = y })).1
def a__law_placed : Arguments := ((⟨_, by conv => lhs; whnf⟩ : { y : Arguments // C8.fnArgs (tp 34) = y })).1
def b__law_placed : List Stmt := ((⟨_, by conv => lhs; whnf⟩ : { y : List Stmt // C8.fnBody (tp 34) = y })).1
def k__law_placed : Scope := ((⟨_, by conv => lhs; whnf⟩ : { y : Scope // C8.fnScope (tp 34) = y })).1
def a__law_right : Arguments := ((⟨_, by conv => lhs; whnf⟩ : { y : Arguments // C8.fnArgs (tp 35) = y })).1
def b__law_right : List Stmt := ((⟨_, by conv => lhs; whnf⟩ : { y : List Stmt // C8.fnBody (tp 35) = y })).1
def k__law_right : Scope := ((⟨_, by conv => lhs; whnf⟩ : { y : Scope // C8.fnScope (tp 35) = y })).1
def a_law : Arguments := ((⟨_, by conv => lhs; whnf⟩ : { y : Arguments // C8.fnArgs (tp 36) = y })).1
def b_law : List Stmt := ((⟨_, by conv => lhs; whnf⟩ : { y : List Stmt // C8.fnBody (tp 36) = y })).1
def k_law : Scope := ((⟨_, by conv => lhs; whnf⟩ : { y : Scope // C8.fnScope (tp 36) = y })).1
def a_i_BadPrime : Arguments := ((⟨_, by conv => lhs; whnf⟩ : { y : Arguments // C8.fnArgs (inner (tp 2)) = y })).1
def b_i_BadPrime : List Stmt := ((⟨_, by conv => lhs; whnf⟩ : { y : List Stmt // C8.fnBody (inner (tp 2)) = y })).1
def k_i_BadPrime : Scope := ((⟨_, by conv => lhs; whnf⟩ : { y : Scope // C8.fnScope (inner (tp 2)) = y })).1
def a_i_BadNumber : Arguments := ((⟨_, by conv => lhs; whnf⟩ : { y : Arguments // C8.fnArgs (inner (tp 3)) = y })).1
def b_i_BadNumber : List Stmt := ((⟨_, by conv => lhs; whnf⟩ : { y : List Stmt // C8.fnBody (inner (tp 3)) = y })).1
def k_i_BadNumber : Scope := ((⟨_, by conv => lhs; whnf⟩ : { y : Scope // C8.fnScope (inner (tp 3)) = y })).1
def a_i_BadName : Arguments := ((⟨_, by conv => lhs; whnf⟩ : { y : Arguments // C8.fnArgs (inner (tp 4)) = y })).1
def b_i_BadName : List Stmt := ((⟨_, by conv => lhs; whnf⟩ : { y : List Stmt // C8.fnBody (inner (tp 4)) = y })).1
def k_i_BadName : Scope := ((⟨_, by conv => lhs; whnf⟩ : { y : Scope // C8.fnScope (inner (tp 4)) = y })).1
def a_i_BadRemainder : Arguments := ((⟨_, by conv => lhs; whnf⟩ : { y : Arguments // C8.fnArgs (inner (tp 5)) = y })).1
def b_i_BadRemainder : List Stmt := ((⟨_, by conv => lhs; whnf⟩ : { y : List Stmt // C8.fnBody (inner (tp 5)) = y })).1
def k_i_BadRemainder : Scope := ((⟨_, by conv => lhs; whnf⟩ : { y : Scope // C8.fnScope (inner (tp 5)) = y })).1
def a_i_BadExpression : Arguments := ((⟨_, by conv => lhs; whnf⟩ : { y : Arguments // C8.fnArgs (inner (tp 6)) = y })).1
def b_i_BadExpression : List Stmt := ((⟨_, by conv => lhs; whnf⟩ : { y : List Stmt // C8.fnBody (inner (tp 6)) = y })).1
def k_i_BadExpression : Scope := ((⟨_, by conv => lhs; whnf⟩ : { y : Scope // C8.fnScope (inner (tp 6)) = y })).1
def a_i_BadProgram : Arguments := ((⟨_, by conv => lhs; whnf⟩ : { y : Arguments // C8.fnArgs (inner (tp 7)) = y })).1
def b_i_BadProgram : List Stmt := ((⟨_, by conv => lhs; whnf⟩ : { y : List Stmt // C8.fnBody (inner (tp 7)) = y })).1
def k_i_BadProgram : Scope := ((⟨_, by conv => lhs; whnf⟩ : { y : Scope // C8.fnScope (inner (tp 7)) = y })).1
def a_i_BadInput : Arguments := ((⟨_, by conv => lhs; whnf⟩ : { y : Arguments // C8.fnArgs (inner (tp 8)) = y })).1
def b_i_BadInput : List Stmt := ((⟨_, by conv => lhs; whnf⟩ : { y : List Stmt // C8.fnBody (inner (tp 8)) = y })).1
def k_i_BadInput : Scope := ((⟨_, by conv => lhs; whnf⟩ : { y : Scope // C8.fnScope (inner (tp 8)) = y })).1
def a_i_BadNet : Arguments := ((⟨_, by conv => lhs; whnf⟩ : { y : Arguments // C8.fnArgs (inner (tp 9)) = y })).1
def b_i_BadNet : List Stmt := ((⟨_, by conv => lhs; whnf⟩ : { y : List Stmt // C8.fnBody (inner (tp 9)) = y })).1
def k_i_BadNet : Scope := ((⟨_, by conv => lhs; whnf⟩ : { y : Scope // C8.fnScope (inner (tp 9)) = y })).1
def a_i_BadLayers : Arguments := ((⟨_, by conv => lhs; whnf⟩ : { y : Arguments // C8.fnArgs (inner (tp 10)) = y })).1
def b_i_BadLayers : List Stmt := ((⟨_, by conv => lhs; whnf⟩ : { y : List Stmt // C8.fnBody (inner (tp 10)) = y })).1
def k_i_BadLayers : Scope := ((⟨_, by conv => lhs; whnf⟩ : { y : Scope // C8.fnScope (inner (tp 10)) = y })).1
def a_i_BadPoint : Arguments := ((⟨_, by conv => lhs; whnf⟩ : { y : Arguments // C8.fnArgs (inner (tp 11)) = y })).1
def b_i_BadPoint : List Stmt := ((⟨_, by conv => lhs; whnf⟩ : { y : List Stmt // C8.fnBody (inner (tp 11)) = y })).1
def k_i_BadPoint : Scope := ((⟨_, by conv => lhs; whnf⟩ : { y : Scope // C8.fnScope (inner (tp 11)) = y })).1
def a_i_BadLine : Arguments := ((⟨_, by conv => lhs; whnf⟩ : { y : Arguments // C8.fnArgs (inner (tp 12)) = y })).1
def b_i_BadLine : List Stmt := ((⟨_, by conv => lhs; whnf⟩ : { y : List Stmt // C8.fnBody (inner (tp 12)) = y })).1
def k_i_BadLine : Scope := ((⟨_, by conv => lhs; whnf⟩ : { y : Scope // C8.fnScope (inner (tp 12)) = y })).1
def a_i_BadTable : Arguments := ((⟨_, by conv => lhs; whnf⟩ : { y : Arguments // C8.fnArgs (inner (tp 13)) = y })).1
def b_i_BadTable : List Stmt := ((⟨_, by conv => lhs; whnf⟩ : { y : List Stmt // C8.fnBody (inner (tp 13)) = y })).1
def k_i_BadTable : Scope := ((⟨_, by conv => lhs; whnf⟩ : { y : Scope // C8.fnScope (inner (tp 13)) = y })).1
def a_i_BadClaim : Arguments := ((⟨_, by conv => lhs; whnf⟩ : { y : Arguments // C8.fnArgs (inner (tp 14)) = y })).1
def b_i_BadClaim : List Stmt := ((⟨_, by conv => lhs; whnf⟩ : { y : List Stmt // C8.fnBody (inner (tp 14)) = y })).1
def k_i_BadClaim : Scope := ((⟨_, by conv => lhs; whnf⟩ : { y : Scope // C8.fnScope (inner (tp 14)) = y })).1
def a_i_BadTalk : Arguments := ((⟨_, by conv => lhs; whnf⟩ : { y : Arguments // C8.fnArgs (inner (tp 15)) = y })).1
def b_i_BadTalk : List Stmt := ((⟨_, by conv => lhs; whnf⟩ : { y : List Stmt // C8.fnBody (inner (tp 15)) = y })).1
def k_i_BadTalk : Scope := ((⟨_, by conv => lhs; whnf⟩ : { y : Scope // C8.fnScope (inner (tp 15)) = y })).1
def a_i_BadCheat : Arguments := ((⟨_, by conv => lhs; whnf⟩ : { y : Arguments // C8.fnArgs (inner (tp 16)) = y })).1
def b_i_BadCheat : List Stmt := ((⟨_, by conv => lhs; whnf⟩ : { y : List Stmt // C8.fnBody (inner (tp 16)) = y })).1
def k_i_BadCheat : Scope := ((⟨_, by conv => lhs; whnf⟩ : { y : Scope // C8.fnScope (inner (tp 16)) = y })).1
def a_i_BadCode : Arguments := ((⟨_, by conv => lhs; whnf⟩ : { y : Arguments // C8.fnArgs (inner (tp 17)) = y })).1
def b_i_BadCode : List Stmt := ((⟨_, by conv => lhs; whnf⟩ : { y : List Stmt // C8.fnBody (inner (tp 17)) = y })).1
def k_i_BadCode : Scope := ((⟨_, by conv => lhs; whnf⟩ : { y : Scope // C8.fnScope (inner (tp 17)) = y })).1
def a_i_BadWord : Arguments := ((⟨_, by conv => lhs; whnf⟩ : { y : Arguments // C8.fnArgs (inner (tp 18)) = y })).1
def b_i_BadWord : List Stmt := ((⟨_, by conv => lhs; whnf⟩ : { y : List Stmt // C8.fnBody (inner (tp 18)) = y })).1
def k_i_BadWord : Scope := ((⟨_, by conv => lhs; whnf⟩ : { y : Scope // C8.fnScope (inner (tp 18)) = y })).1
def a_i_BadTree : Arguments := ((⟨_, by conv => lhs; whnf⟩ : { y : Arguments // C8.fnArgs (inner (tp 19)) = y })).1
def b_i_BadTree : List Stmt := ((⟨_, by conv => lhs; whnf⟩ : { y : List Stmt // C8.fnBody (inner (tp 19)) = y })).1
def k_i_BadTree : Scope := ((⟨_, by conv => lhs; whnf⟩ : { y : Scope // C8.fnScope (inner (tp 19)) = y })).1
def a_i_BadMachine : Arguments := ((⟨_, by conv => lhs; whnf⟩ : { y : Arguments // C8.fnArgs (inner (tp 20)) = y })).1
def b_i_BadMachine : List Stmt := ((⟨_, by conv => lhs; whnf⟩ : { y : List Stmt // C8.fnBody (inner (tp 20)) = y })).1
def k_i_BadMachine : Scope := ((⟨_, by conv => lhs; whnf⟩ : { y : Scope // C8.fnScope (inner (tp 20)) = y })).1
def a_i_BadBatch : Arguments := ((⟨_, by conv => lhs; whnf⟩ : { y : Arguments // C8.fnArgs (inner (tp 21)) = y })).1
def b_i_BadBatch : List Stmt := ((⟨_, by conv => lhs; whnf⟩ : { y : List Stmt // C8.fnBody (inner (tp 21)) = y })).1
def k_i_BadBatch : Scope := ((⟨_, by conv => lhs; whnf⟩ : { y : Scope // C8.fnScope (inner (tp 21)) = y })).1
def a_i_BadText : Arguments := ((⟨_, by conv => lhs; whnf⟩ : { y : Arguments // C8.fnArgs (inner (tp 22)) = y })).1
def b_i_BadText : List Stmt := ((⟨_, by conv => lhs; whnf⟩ : { y : List Stmt // C8.fnBody (inner (tp 22)) = y })).1
def k_i_BadText : Scope := ((⟨_, by conv => lhs; whnf⟩ : { y : Scope // C8.fnScope (inner (tp 22)) = y })).1
def a_i_BadBytes : Arguments := ((⟨_, by conv => lhs; whnf⟩ : { y : Arguments // C8.fnArgs (inner (tp 23)) = y })).1
def b_i_BadBytes : List Stmt := ((⟨_, by conv => lhs; whnf⟩ : { y : List Stmt // C8.fnBody (inner (tp 23)) = y })).1
def k_i_BadBytes : Scope := ((⟨_, by conv => lhs; whnf⟩ : { y : Scope // C8.fnScope (inner (tp 23)) = y })).1
def a_i_BadPaper : Arguments := ((⟨_, by conv => lhs; whnf⟩ : { y : Arguments // C8.fnArgs (inner (tp 24)) = y })).1
def b_i_BadPaper : List Stmt := ((⟨_, by conv => lhs; whnf⟩ : { y : List Stmt // C8.fnBody (inner (tp 24)) = y })).1
def k_i_BadPaper : Scope := ((⟨_, by conv => lhs; whnf⟩ : { y : Scope // C8.fnScope (inner (tp 24)) = y })).1
def a_i_BadDeed : Arguments := ((⟨_, by conv => lhs; whnf⟩ : { y : Arguments // C8.fnArgs (inner (tp 25)) = y })).1
def b_i_BadDeed : List Stmt := ((⟨_, by conv => lhs; whnf⟩ : { y : List Stmt // C8.fnBody (inner (tp 25)) = y })).1
def k_i_BadDeed : Scope := ((⟨_, by conv => lhs; whnf⟩ : { y : Scope // C8.fnScope (inner (tp 25)) = y })).1
def a_i_TooMany : Arguments := ((⟨_, by conv => lhs; whnf⟩ : { y : Arguments // C8.fnArgs (inner (tp 26)) = y })).1
def b_i_TooMany : List Stmt := ((⟨_, by conv => lhs; whnf⟩ : { y : List Stmt // C8.fnBody (inner (tp 26)) = y })).1
def k_i_TooMany : Scope := ((⟨_, by conv => lhs; whnf⟩ : { y : Scope // C8.fnScope (inner (tp 26)) = y })).1
def a_i_NoSuch : Arguments := ((⟨_, by conv => lhs; whnf⟩ : { y : Arguments // C8.fnArgs (inner (tp 27)) = y })).1
def b_i_NoSuch : List Stmt := ((⟨_, by conv => lhs; whnf⟩ : { y : List Stmt // C8.fnBody (inner (tp 27)) = y })).1
def k_i_NoSuch : Scope := ((⟨_, by conv => lhs; whnf⟩ : { y : Scope // C8.fnScope (inner (tp 27)) = y })).1
def d__law_mixed : He.DefD := ⟨("_law_mixed", none), "_law_mixed", "_law_mixed", a__law_mixed, b__law_mixed, k__law_mixed, [], []⟩
def d__law_draw : He.DefD := ⟨("_law_draw", none), "_law_draw", "_law_draw", a__law_draw, b__law_draw, k__law_draw, [], []⟩
def d__law_digit : He.DefD := ⟨("_law_digit", none), "_law_digit", "_law_digit", a__law_digit, b__law_digit, k__law_digit, [], []⟩
def d__law_kinds : He.DefD := ⟨("_law_kinds", none), "_law_kinds", "_law_kinds", a__law_kinds, b__law_kinds, k__law_kinds, [], []⟩
def d__law_valued : He.DefD := ⟨("_law_valued", none), "_law_valued", "_law_valued", a__law_valued, b__law_valued, k__law_valued, [], []⟩
def d__law_placed : He.DefD := ⟨("_law_placed", none), "_law_placed", "_law_placed", a__law_placed, b__law_placed, k__law_placed, [], []⟩
def d__law_right : He.DefD := ⟨("_law_right", none), "_law_right", "_law_right", a__law_right, b__law_right, k__law_right, [], []⟩
def d_law : He.DefD := ⟨("law", none), "law", "law", a_law, b_law, k_law, [], []⟩
def e_BadPrime : He.DefD := ⟨("BadPrime", some "__init__"), "__init__", "BadPrime.__init__", a_i_BadPrime, b_i_BadPrime, k_i_BadPrime, [.non], []⟩
def e_BadNumber : He.DefD := ⟨("BadNumber", some "__init__"), "__init__", "BadNumber.__init__", a_i_BadNumber, b_i_BadNumber, k_i_BadNumber, [.non], []⟩
def e_BadName : He.DefD := ⟨("BadName", some "__init__"), "__init__", "BadName.__init__", a_i_BadName, b_i_BadName, k_i_BadName, [.non], []⟩
def e_BadRemainder : He.DefD := ⟨("BadRemainder", some "__init__"), "__init__", "BadRemainder.__init__", a_i_BadRemainder, b_i_BadRemainder, k_i_BadRemainder, [.non], []⟩
def e_BadExpression : He.DefD := ⟨("BadExpression", some "__init__"), "__init__", "BadExpression.__init__", a_i_BadExpression, b_i_BadExpression, k_i_BadExpression, [.non], []⟩
def e_BadProgram : He.DefD := ⟨("BadProgram", some "__init__"), "__init__", "BadProgram.__init__", a_i_BadProgram, b_i_BadProgram, k_i_BadProgram, [.non], []⟩
def e_BadInput : He.DefD := ⟨("BadInput", some "__init__"), "__init__", "BadInput.__init__", a_i_BadInput, b_i_BadInput, k_i_BadInput, [.non], []⟩
def e_BadNet : He.DefD := ⟨("BadNet", some "__init__"), "__init__", "BadNet.__init__", a_i_BadNet, b_i_BadNet, k_i_BadNet, [.non], []⟩
def e_BadLayers : He.DefD := ⟨("BadLayers", some "__init__"), "__init__", "BadLayers.__init__", a_i_BadLayers, b_i_BadLayers, k_i_BadLayers, [.non], []⟩
def e_BadPoint : He.DefD := ⟨("BadPoint", some "__init__"), "__init__", "BadPoint.__init__", a_i_BadPoint, b_i_BadPoint, k_i_BadPoint, [.non], []⟩
def e_BadLine : He.DefD := ⟨("BadLine", some "__init__"), "__init__", "BadLine.__init__", a_i_BadLine, b_i_BadLine, k_i_BadLine, [.non], []⟩
def e_BadTable : He.DefD := ⟨("BadTable", some "__init__"), "__init__", "BadTable.__init__", a_i_BadTable, b_i_BadTable, k_i_BadTable, [.non], []⟩
def e_BadClaim : He.DefD := ⟨("BadClaim", some "__init__"), "__init__", "BadClaim.__init__", a_i_BadClaim, b_i_BadClaim, k_i_BadClaim, [.non], []⟩
def e_BadTalk : He.DefD := ⟨("BadTalk", some "__init__"), "__init__", "BadTalk.__init__", a_i_BadTalk, b_i_BadTalk, k_i_BadTalk, [.non], []⟩
def e_BadCheat : He.DefD := ⟨("BadCheat", some "__init__"), "__init__", "BadCheat.__init__", a_i_BadCheat, b_i_BadCheat, k_i_BadCheat, [.non], []⟩
def e_BadCode : He.DefD := ⟨("BadCode", some "__init__"), "__init__", "BadCode.__init__", a_i_BadCode, b_i_BadCode, k_i_BadCode, [.non], []⟩
def e_BadWord : He.DefD := ⟨("BadWord", some "__init__"), "__init__", "BadWord.__init__", a_i_BadWord, b_i_BadWord, k_i_BadWord, [.non], []⟩
def e_BadTree : He.DefD := ⟨("BadTree", some "__init__"), "__init__", "BadTree.__init__", a_i_BadTree, b_i_BadTree, k_i_BadTree, [.non], []⟩
def e_BadMachine : He.DefD := ⟨("BadMachine", some "__init__"), "__init__", "BadMachine.__init__", a_i_BadMachine, b_i_BadMachine, k_i_BadMachine, [.non], []⟩
def e_BadBatch : He.DefD := ⟨("BadBatch", some "__init__"), "__init__", "BadBatch.__init__", a_i_BadBatch, b_i_BadBatch, k_i_BadBatch, [.non], []⟩
def e_BadText : He.DefD := ⟨("BadText", some "__init__"), "__init__", "BadText.__init__", a_i_BadText, b_i_BadText, k_i_BadText, [.non], []⟩
def e_BadBytes : He.DefD := ⟨("BadBytes", some "__init__"), "__init__", "BadBytes.__init__", a_i_BadBytes, b_i_BadBytes, k_i_BadBytes, [.non], []⟩
def e_BadPaper : He.DefD := ⟨("BadPaper", some "__init__"), "__init__", "BadPaper.__init__", a_i_BadPaper, b_i_BadPaper, k_i_BadPaper, [.non], []⟩
def e_BadDeed : He.DefD := ⟨("BadDeed", some "__init__"), "__init__", "BadDeed.__init__", a_i_BadDeed, b_i_BadDeed, k_i_BadDeed, [.non], []⟩
def e_TooMany : He.DefD := ⟨("TooMany", some "__init__"), "__init__", "TooMany.__init__", a_i_TooMany, b_i_TooMany, k_i_TooMany, [], []⟩
def e_NoSuch : He.DefD := ⟨("NoSuch", some "__init__"), "__init__", "NoSuch.__init__", a_i_NoSuch, b_i_NoSuch, k_i_NoSuch, [.non], []⟩
def fn : List He.DefD := ([d__law_mixed, d__law_draw, d__law_digit, d__law_kinds, d__law_valued, d__law_placed, d__law_right, d_law, e_BadPrime, e_BadNumber, e_BadName, e_BadRemainder] : List He.DefD) ++ ([e_BadExpression, e_BadProgram, e_BadInput, e_BadNet, e_BadLayers, e_BadPoint, e_BadLine, e_BadTable, e_BadClaim, e_BadTalk, e_BadCheat, e_BadCode] : List He.DefD) ++ ([e_BadWord, e_BadTree, e_BadMachine, e_BadBatch, e_BadText, e_BadBytes, e_BadPaper, e_BadDeed, e_TooMany, e_NoSuch] : List He.DefD)
def glos : List Str := (["RunError", "BadPrime", "BadNumber", "BadName", "BadRemainder", "BadExpression", "BadProgram", "BadInput", "BadNet", "BadLayers", "BadPoint", "BadLine"] : List Str) ++ (["BadTable", "BadClaim", "BadTalk", "BadCheat", "BadCode", "BadWord", "BadTree", "BadMachine", "BadBatch", "BadText", "BadBytes", "BadPaper"] : List Str) ++ (["BadDeed", "TooMany", "NoSuch", "_law_mixed", "_law_draw", "_law_digit", "_law_kinds", "_law_valued", "_law_placed", "_law_right", "law"] : List Str)
def frees : List Str := ["isinstance", "ValueError", "OverflowError", "LookupError", "range", "enumerate", "sum", "str"]
def fa : List He.Fa := glos.map He.Fa.glo ++ frees.map He.Fa.free
abbrev bmV : List Value := [.type "ValueError", .type "Exception", .type "BaseException", .type "object"]
abbrev bmL : List Value := [.type "LookupError", .type "Exception", .type "BaseException", .type "object"]
abbrev bmO : List Value := [.type "OverflowError", .type "ArithmeticError", .type "Exception", .type "BaseException", .type "object"]
/-- which classes an error of the class is of -/
def tb : List (Str × List Str) := ([("BadPrime", ["BadPrime", "RunError", "ValueError"]), ("BadNumber", ["BadNumber", "RunError", "ValueError"]), ("BadName", ["BadName", "RunError", "ValueError"]), ("BadRemainder", ["BadRemainder", "RunError", "ValueError"]), ("BadExpression", ["BadExpression", "RunError", "ValueError"]), ("BadProgram", ["BadProgram", "RunError", "ValueError"]), ("BadInput", ["BadInput", "RunError", "ValueError"]), ("BadNet", ["BadNet", "RunError", "ValueError"])] : List (Str × List Str)) ++ ([("BadLayers", ["BadLayers", "RunError", "ValueError"]), ("BadPoint", ["BadPoint", "RunError", "ValueError"]), ("BadLine", ["BadLine", "RunError", "ValueError"]), ("BadTable", ["BadTable", "RunError", "ValueError"]), ("BadClaim", ["BadClaim", "RunError", "ValueError"]), ("BadTalk", ["BadTalk", "RunError", "ValueError"]), ("BadCheat", ["BadCheat", "RunError", "ValueError"]), ("BadCode", ["BadCode", "RunError", "ValueError"])] : List (Str × List Str)) ++ ([("BadWord", ["BadWord", "RunError", "ValueError"]), ("BadTree", ["BadTree", "RunError", "ValueError"]), ("BadMachine", ["BadMachine", "RunError", "ValueError"]), ("BadBatch", ["BadBatch", "RunError", "ValueError"]), ("BadText", ["BadText", "RunError", "ValueError"]), ("BadBytes", ["BadBytes", "RunError", "ValueError"]), ("BadPaper", ["BadPaper", "RunError", "ValueError"]), ("BadDeed", ["BadDeed", "RunError", "ValueError"])] : List (Str × List Str)) ++ ([("TooMany", ["TooMany", "OverflowError"]), ("NoSuch", ["NoSuch", "LookupError"])] : List (Str × List Str))
def cs_ValueError_value : List Str := (["BadPrime", "BadNumber", "BadName", "BadRemainder"] : List Str)
def cs_ValueError_place : List Str := (["BadExpression", "BadProgram", "BadInput", "BadNet", "BadLayers", "BadPoint", "BadLine", "BadTable", "BadClaim", "BadTalk", "BadCheat", "BadCode"] : List Str) ++ (["BadWord", "BadTree", "BadMachine", "BadBatch", "BadText", "BadBytes", "BadPaper", "BadDeed"] : List Str)
def cs_OverflowError_most : List Str := (["TooMany"] : List Str)
def cs_LookupError_value : List Str := (["NoSuch"] : List Str)
def tgs : List (Str × Tg) := ([("BadPrime", .own "BadPrime"), ("BadNumber", .own "BadNumber"), ("BadName", .own "BadName"), ("BadRemainder", .own "BadRemainder"), ("BadExpression", .own "BadExpression"), ("BadProgram", .own "BadProgram"), ("BadInput", .own "BadInput"), ("BadNet", .own "BadNet")] : List (Str × Tg)) ++ ([("BadLayers", .own "BadLayers"), ("BadPoint", .own "BadPoint"), ("BadLine", .own "BadLine"), ("BadTable", .own "BadTable"), ("BadClaim", .own "BadClaim"), ("BadTalk", .own "BadTalk"), ("BadCheat", .own "BadCheat"), ("BadCode", .own "BadCode")] : List (Str × Tg)) ++ ([("BadWord", .own "BadWord"), ("BadTree", .own "BadTree"), ("BadMachine", .own "BadMachine"), ("BadBatch", .own "BadBatch"), ("BadText", .own "BadText"), ("BadBytes", .own "BadBytes"), ("BadPaper", .own "BadPaper"), ("BadDeed", .own "BadDeed")] : List (Str × Tg)) ++ ([("TooMany", .own "TooMany"), ("NoSuch", .own "NoSuch"), ("RunError", .own "RunError"), ("ValueError", .bt "ValueError"), ("LookupError", .bt "LookupError"), ("OverflowError", .bt "OverflowError")] : List (Str × Tg))
def isV (r : Option PySem.W.CFound) (i : String) : Bool := match r with
  | some (.val (.builtin j)) => decide (j = i)
  | _ => false
def baB (K : PySem.W.Frag) : Bool := He.eqO (PySem.W.specialIn K (.ref (He.ga K "RunError")) "__getattribute__") (some (some (.builtin "type.__getattribute__"))) && (PySem.W.readsIn K (He.ga K "RunError") (.type "type") && (isV (PySem.W.findCls K (.ref (He.ga K "RunError")) (.type "type") "__init__") "ValueError.__init__" &&
  (isV (PySem.W.findCls K (.type "OverflowError") (.type "type") "__init__") "OverflowError.__init__" && isV (PySem.W.findCls K (.type "LookupError") (.type "type") "__init__") "LookupError.__init__")))
def ex (K : PySem.W.Frag) : Bool := baB K && ((cs_ValueError_value.all fun c => clB K c "value" "ValueError.__new__" bmV) && ((cs_ValueError_place.all fun c => clB K c "place" "ValueError.__new__" bmV) && ((cs_OverflowError_most.all fun c => clB K c "most" "OverflowError.__new__" bmO) && ((cs_LookupError_value.all fun c => clB K c "value" "LookupError.__new__" bmL) && ((tgs.all fun t => isB K tb t.1 t.2))))))
abbrev R : PySem.W.OpenRow := PySem.W.OpenLaw.row PySem.Challenge.rw_runsbelieved_k99_errors_by_hand
abbrev hk : PySem.W.Hook := hookY 6 fa fn ex
def ob (s : PySem.W.SharedT) : He.AlX := obsY 6 fa fn ex (HandSHeadRun.getT s)
theorem ob_eq (s : PySem.W.SharedT) : ob s = hk.obs s.abs := obsY_eq (HandSHeadRun.getT_eq s)
def loose : List PySem.Str := (["RunError", "BadPrime", "BadNumber", "BadName", "BadRemainder", "BadExpression", "BadProgram", "BadInput", "BadNet", "BadLayers", "BadPoint", "BadLine"] : List PySem.Str) ++ (["BadTable", "BadClaim", "BadTalk", "BadCheat", "BadCode", "BadWord", "BadTree", "BadMachine", "BadBatch", "BadText", "BadBytes", "BadPaper"] : List PySem.Str) ++ (["BadDeed", "TooMany", "NoSuch", "_law_mixed", "_law_draw", "_law_digit", "_law_kinds", "_law_valued", "_law_placed", "_law_right"] : List PySem.Str)
def cs_value : List Str := cs_ValueError_value ++ cs_LookupError_value
def cs_place : List Str := cs_ValueError_place
def cs_most : List Str := cs_OverflowError_most
def cs_all : List Str := cs_value ++ (cs_place ++ cs_most)
structure Fx (K : PySem.W.Frag) (mg : Str → Option Value) : Prop where
  glo : ∀ x, glos.contains x = true → mg x = some (.ref (He.ga K x))
  free : ∀ x, frees.contains x = true → mg x = none
  ex : ex K = true
section
variable {K : PySem.W.Frag} {mg : Str → Option Value}
theorem isV_ok {r : Option PySem.W.CFound} {i : String} (h : isV r i = true) : r = some (.val (.builtin i)) := by
  unfold isV at h
  split at h
  · rw [of_decide_eq_true h]
  · cases h
theorem Fx.ba (W : Fx K mg) : baB K = true := (He.ba W.ex).1
theorem Fx.ba1 (W : Fx K mg) : PySem.W.specialIn K (.ref (He.ga K "RunError")) "__getattribute__" = some (some (.builtin "type.__getattribute__")) := He.eqO_ok (He.ba W.ba).1
theorem Fx.ba2 (W : Fx K mg) : PySem.W.readsIn K (He.ga K "RunError") (.type "type") = true := (He.ba (He.ba W.ba).2).1
theorem Fx.ba3 (W : Fx K mg) : PySem.W.findCls K (.ref (He.ga K "RunError")) (.type "type") "__init__" = some (.val (.builtin "ValueError.__init__")) := isV_ok (He.ba (He.ba (He.ba W.ba).2).2).1
theorem Fx.ba_OverflowError (W : Fx K mg) : PySem.W.findCls K (.type "OverflowError") (.type "type") "__init__" = some (.val (.builtin "OverflowError.__init__")) := isV_ok (He.ba (He.ba (He.ba (He.ba W.ba).2).2).2).1
theorem Fx.ba_LookupError (W : Fx K mg) : PySem.W.findCls K (.type "LookupError") (.type "type") "__init__" = some (.val (.builtin "LookupError.__init__")) := isV_ok (He.ba (He.ba (He.ba (He.ba W.ba).2).2).2).2
theorem mem_of {l : List Str} {c : Str} (h : l.contains c = true) : c ∈ l := List.contains_iff_mem.mp h
theorem lk_mem {α : Type} {x : Str} {y : α} : ∀ {l : List (Str × α)}, l.lookup x = some y → (x, y) ∈ l
  | [], h => by cases h
  | (b, u) :: r, h => by
    have h2 : (match x == b with | true => some u | false => r.lookup x) = some y := h
    cases q : (x == b) with
    | true =>
      rw [q] at h2
      have e : u = y := Option.some.inj h2
      rw [beq_iff_eq.mp q, e]
      exact List.mem_cons_self
    | false =>
      rw [q] at h2
      exact List.mem_cons_of_mem _ (lk_mem h2)
theorem of_facts {w : World} {h : Heap} (X : K.In h) (G : h.Ns mainGlobals mg) (c : He.SaysT fa fn [] w K) (e : ex K = true) : Fx K mg where
  glo := fun x hx => He.glo_ok X G (c.d.facts (f := .glo x) (List.mem_append_left _ (List.mem_map.mpr ⟨x, mem_of hx, rfl⟩)))
  free := fun x hx => He.free_ok X G (c.d.facts (f := .free x) (List.mem_append_right _ (List.mem_map.mpr ⟨x, mem_of hx, rfl⟩)))
  ex := e
theorem Fx.cl_ValueError_value (W : Fx K mg) (c : Str) (h : cs_ValueError_value.contains c = true) : ClF K c "value" "ValueError" "ValueError.__new__" "ValueError.__init__" bmV := clB_ok PySem.F.excBase_ValueError PySem.F.store_ValueError (List.all_eq_true.mp (He.ba (He.ba W.ex).2).1 c (mem_of h))
theorem Fx.cl_ValueError_place (W : Fx K mg) (c : Str) (h : cs_ValueError_place.contains c = true) : ClF K c "place" "ValueError" "ValueError.__new__" "ValueError.__init__" bmV := clB_ok PySem.F.excBase_ValueError PySem.F.store_ValueError (List.all_eq_true.mp (He.ba (He.ba (He.ba W.ex).2).2).1 c (mem_of h))
theorem Fx.cl_OverflowError_most (W : Fx K mg) (c : Str) (h : cs_OverflowError_most.contains c = true) : ClF K c "most" "OverflowError" "OverflowError.__new__" "OverflowError.__init__" bmO := clB_ok PySem.F.excBase_OverflowError PySem.F.store_OverflowError (List.all_eq_true.mp (He.ba (He.ba (He.ba (He.ba W.ex).2).2).2).1 c (mem_of h))
theorem Fx.cl_LookupError_value (W : Fx K mg) (c : Str) (h : cs_LookupError_value.contains c = true) : ClF K c "value" "LookupError" "LookupError.__new__" "LookupError.__init__" bmL := clB_ok PySem.F.excBase_LookupError PySem.F.store_LookupError (List.all_eq_true.mp (He.ba (He.ba (He.ba (He.ba (He.ba W.ex).2).2).2).2).1 c (mem_of h))
theorem Fx.isB (W : Fx K mg) : (tgs.all fun t => isB K tb t.1 t.2) = true := (He.ba (He.ba (He.ba (He.ba (He.ba W.ex).2).2).2).2).2
theorem Fx.any (W : Fx K mg) (c : Str) (h : cs_all.contains c = true) : ∃ f B newId initId bmB, ClF K c f B newId initId bmB := by
  rcases List.mem_append.mp (mem_of h) with h | h
  · rcases List.mem_append.mp h with h | h
    · exact ⟨_, _, _, _, _, W.cl_ValueError_value c (List.contains_iff_mem.mpr h)⟩
    · exact ⟨_, _, _, _, _, W.cl_LookupError_value c (List.contains_iff_mem.mpr h)⟩
  · rcases List.mem_append.mp h with h | h
    · exact ⟨_, _, _, _, _, W.cl_ValueError_place c (List.contains_iff_mem.mpr h)⟩
    · exact ⟨_, _, _, _, _, W.cl_OverflowError_most c (List.contains_iff_mem.mpr h)⟩
theorem sub_glo : cs_all.all (fun c => glos.contains c) = true := by decide +kernel
theorem tb_all : tb.all (fun q => cs_all.contains q.1) = true := by decide +kernel
theorem Fx.mgc (W : Fx K mg) (c : Str) (h : cs_all.contains c = true) : mg c = some (.ref (He.ga K c)) := W.glo c (List.all_eq_true.mp sub_glo c (mem_of h))
theorem Fx.xc (W : Fx K mg) (c : Str) (h : cs_all.contains c = true) : ∃ Cl B newId initId bmB, mg c = some (.ref Cl) ∧ EK K Cl B newId initId bmB ∧ PySem.W.findIn K (.ref Cl) "__str__" = some (some (.builtin "BaseException.__str__")) := by
  obtain ⟨f, B, n, i, b, T⟩ := W.any c h
  exact ⟨_, B, n, i, b, W.mgc c h, T.ek, T.st⟩
theorem Fx.xf_value (W : Fx K mg) (c : Str) (h : cs_value.contains c = true) : ∃ Cl B newId initId bmB, mg c = some (.ref Cl) ∧ EK K Cl B newId initId bmB ∧ PySem.W.findIn K (.ref Cl) "value" = some none := by
  have m := W.mgc c (List.contains_iff_mem.mpr (List.mem_append_left _ (mem_of h)))
  rcases List.mem_append.mp (mem_of h) with h | h
  · have T := W.cl_ValueError_value c (List.contains_iff_mem.mpr h)
    exact ⟨_, _, _, _, _, m, T.ek, T.no⟩
  · have T := W.cl_LookupError_value c (List.contains_iff_mem.mpr h)
    exact ⟨_, _, _, _, _, m, T.ek, T.no⟩
theorem Fx.xf_place (W : Fx K mg) (c : Str) (h : cs_place.contains c = true) : ∃ Cl B newId initId bmB, mg c = some (.ref Cl) ∧ EK K Cl B newId initId bmB ∧ PySem.W.findIn K (.ref Cl) "place" = some none := by
  have m := W.mgc c (List.contains_iff_mem.mpr (List.mem_append_right _ (List.mem_append_left _ (mem_of h))))
  have T := W.cl_ValueError_place c h
  exact ⟨_, _, _, _, _, m, T.ek, T.no⟩
theorem Fx.xf_most (W : Fx K mg) (c : Str) (h : cs_most.contains c = true) : ∃ Cl B newId initId bmB, mg c = some (.ref Cl) ∧ EK K Cl B newId initId bmB ∧ PySem.W.findIn K (.ref Cl) "most" = some none := by
  have m := W.mgc c (List.contains_iff_mem.mpr (List.mem_append_right _ (List.mem_append_right _ (mem_of h))))
  have T := W.cl_OverflowError_most c h
  exact ⟨_, _, _, _, _, m, T.ek, T.no⟩
theorem Fx.isi (W : Fx K mg) (tg : Str) (g : Tg) (h : tgs.lookup tg = some g) (c : Str) (l : List Str) (hl : tb.lookup c = some l) : ∃ Cl B newId initId bmB, mg c = some (.ref Cl) ∧ EK K Cl B newId initId bmB ∧ PySem.W.kitOne K (.ref Cl) (g.v K) = some (l.contains tg) := by
  have hm := lk_mem hl
  have hc : cs_all.contains c = true := List.all_eq_true.mp tb_all (c, l) hm
  obtain ⟨f, B, n, i, b, T⟩ := W.any c hc
  have z := List.all_eq_true.mp (List.all_eq_true.mp W.isB (tg, g) (lk_mem h)) (c, l) hm
  exact ⟨_, B, n, i, b, W.mgc c hc, T.ek, of_decide_eq_true z⟩
end
end K99

end

section
set_option linter.all false
set_option maxRecDepth 100000
set_option maxHeartbeats 0
namespace K99
open PySem PySem.Spec PyProof.Rows L2 Tm
section
variable {P : Program} {w : World} {K : PySem.W.Frag} {mg : Str → Option Value} {base : Heap}
/-! ### _law_mixed -/
theorem sc__law_mixed : FnScope ["cell", "k", "number"] ["cell", "k"] k__law_mixed := ⟨rfl, rfl, rfl, by decide +kernel, rfl, by decide +kernel, by decide +kernel⟩
def c__law_mixed : S := .seq (.asg (.nm 2) (.bin .add (.bin .add (.bin .mod (.var 0) (.idx (.lst (.cons (.cst (.int (1000000007))) (.cons (.cst (.int (998244353))) (.cons (.cst (.int (2147483629))) (.cons (.cst (.int (1000000009))) (.nil)))))) (.bin .mod (.var 1) (.cst (.int (4)))))) (.bin .mul (.cst (.int (7919))) (.var 1))) (.cst (.int (13))))) (.ret (.bin .mod (.bin .mul (.bin .mod (.bin .mul (.var 2) (.var 2)) (.cst (.int (2147483647)))) (.cst (.int (48271)))) (.cst (.int (2147483647)))))
def m__law_mixed : Mf := runN 2 (["cell", "k", "number"] : List Str).length c__law_mixed
theorem okf__law_mixed (W : Fx K mg) {fd : FuncData} (F : FunD K "_law_mixed" "_law_mixed" a__law_mixed b__law_mixed k__law_mixed [] [] (He.ga K "_law_mixed") fd) : FnOk P w K mg base (CX P w) 1 (He.ga K "_law_mixed") fd ["cell", "k"] (spM (ctk K mg) true 2 m__law_mixed) := by
  unfold m__law_mixed
  refine def_ok (M := []) (fr := true) (s := c__law_mixed) (k := 0) F sc__law_mixed rfl (show ∀ i ∈ ([] : List Nat), 2 ≤ i by decide) ?_
  intro cdv A outer s1 H E F0 hr
  exact st_seq (st_asg (i := 2) sc__law_mixed.nd rfl (.inl rfl) (show (2 : Nat) ∉ ([] : List Nat) by decide) (sn_bin (fun _ => op_add_t rfl) (sn_bin (fun _ => op_add_t rfl) (sn_bin (fun _ => op_mod_t rfl) (sn_var (i := 0) rfl (.inl rfl) (show (0 : Nat) ∉ ([] : List Nat) by decide)) (sn_idx rfl (sn_lst (sa_cons (sn_int) (sa_cons (sn_int) (sa_cons (sn_int) (sa_cons (sn_int) (sa_nil)))))) (sn_bin (fun _ => op_mod_t rfl) (sn_var (i := 1) rfl (.inl rfl) (show (1 : Nat) ∉ ([] : List Nat) by decide)) (sn_int)))) (sn_bin (fun _ => op_mul_t rfl) (sn_int) (sn_var (i := 1) rfl (.inl rfl) (show (1 : Nat) ∉ ([] : List Nat) by decide)))) (sn_int))) (st_one (st_ret (sn_bin (fun _ => op_mod_t rfl) (sn_bin (fun _ => op_mul_t rfl) (sn_bin (fun _ => op_mod_t rfl) (sn_bin (fun _ => op_mul_t rfl) (sn_var (i := 2) rfl (.inl rfl) (show (2 : Nat) ∉ ([] : List Nat) by decide)) (sn_var (i := 2) rfl (.inl rfl) (show (2 : Nat) ∉ ([] : List Nat) by decide))) (sn_int)) (sn_int)) (sn_int))))
theorem ok__law_mixed (W : Fx K mg) {fd : FuncData} (F : FunD K "_law_mixed" "_law_mixed" a__law_mixed b__law_mixed k__law_mixed [] [] (He.ga K "_law_mixed") fd) : DF P w K mg base 1 "_law_mixed" ["cell", "k"] (spM (ctk K mg) true 2 m__law_mixed) := ⟨fd, okf__law_mixed W F , F.kp, F.bindsN fun _ _ _ _ _ _ us hl => match us, hl with | [_, _], _ => rfl⟩
/-! ### _law_draw -/
theorem sc__law_draw : FnScope ["cell", "k"] ["cell", "k"] k__law_draw := ⟨rfl, rfl, rfl, by decide +kernel, rfl, by decide +kernel, by decide +kernel⟩
def c__law_draw : S := .ret (.dic ["left", "cell", "turns"] (.cons (.ite (.cmp .ge (.var 0) (.bin .pow (.cst (.int (10))) (.cst (.int (18))))) (.var 0) (.cst (.int (0)))) (.cons (.var 0) (.cons (.bin .mul (.cst (.int (1000))) (.var 1)) (.nil)))))
def m__law_draw : Mf := runN 2 (["cell", "k"] : List Str).length c__law_draw
theorem okf__law_draw (W : Fx K mg) {fd : FuncData} (F : FunD K "_law_draw" "_law_draw" a__law_draw b__law_draw k__law_draw [] [] (He.ga K "_law_draw") fd) : FnOk P w K mg base (CX P w) 1 (He.ga K "_law_draw") fd ["cell", "k"] (spM (ctk K mg) true 2 m__law_draw) := by
  unfold m__law_draw
  refine def_ok (M := []) (fr := true) (s := c__law_draw) (k := 0) F sc__law_draw rfl (show ∀ i ∈ ([] : List Nat), 2 ≤ i by decide) ?_
  intro cdv A outer s1 H E F0 hr
  exact st_one (st_ret (sn_dic (pd_cons (sn_ite (tv_cmp (fun _ => op_ge_t) (sn_var (i := 0) rfl (.inl rfl) (show (0 : Nat) ∉ ([] : List Nat) by decide)) (sn_bin (fun _ => op_pow_t rfl) (sn_int) (sn_int))) (sn_var (i := 0) rfl (.inl rfl) (show (0 : Nat) ∉ ([] : List Nat) by decide)) (sn_int)) (pd_cons (sn_var (i := 0) rfl (.inl rfl) (show (0 : Nat) ∉ ([] : List Nat) by decide)) (pd_cons (sn_bin (fun _ => op_mul_t rfl) (sn_int) (sn_var (i := 1) rfl (.inl rfl) (show (1 : Nat) ∉ ([] : List Nat) by decide))) (pd_nil))))))
theorem ok__law_draw (W : Fx K mg) {fd : FuncData} (F : FunD K "_law_draw" "_law_draw" a__law_draw b__law_draw k__law_draw [] [] (He.ga K "_law_draw") fd) : DF P w K mg base 1 "_law_draw" ["cell", "k"] (spM (ctk K mg) true 2 m__law_draw) := ⟨fd, okf__law_draw W F , F.kp, F.bindsN fun _ _ _ _ _ _ us hl => match us, hl with | [_, _], _ => rfl⟩
/-! ### _law_digit -/
theorem sc__law_digit : FnScope ["state", "below", "j", "found"] ["state", "below"] k__law_digit := ⟨rfl, rfl, rfl, by decide +kernel, rfl, by decide +kernel, by decide +kernel⟩
def c__law_digit : S := .seq (.ife (.cmp .eq (.key (.bor 0) "left") (.cst (.int (0)))) (.fo (.nm 2) (.rng (.cst (.int (4)))) (.seq (.setk 0 "turns" (.bin .add (.key (.bor 0) "turns") (.cst (.int (1))))) (.setk 0 "left" (.bin .add (.bin .mul (.key (.bor 0) "left") (.cst (.int (2147483647)))) (.call m__law_mixed true (.cons (.key (.bor 0) "cell") (.cons (.key (.bor 0) "turns") (.nil)))))))) (.skip)) (.seq (.asg (.nm 3) (.bin .mod (.key (.bor 0) "left") (.var 1))) (.seq (.setk 0 "left" (.bin .fdiv (.key (.bor 0) "left") (.var 1))) (.ret (.var 3))))
def m__law_digit : Mio := runIo 2 (["state", "below", "j", "found"] : List Str).length c__law_digit
theorem okf__law_digit (W : Fx K mg) {fd : FuncData} (F : FunD K "_law_digit" "_law_digit" a__law_digit b__law_digit k__law_digit [] [] (He.ga K "_law_digit") fd) (D__law_mixed : DF P w K mg base 1 "_law_mixed" ["cell", "k"] (spM (ctk K mg) true 2 m__law_mixed)) : FnOk P w K mg base (CX P w) 2 (He.ga K "_law_digit") fd ["state", "below"] (spIo (ctk K mg) 2 m__law_digit) := by
  unfold m__law_digit
  refine def_okIo (M := [0]) (fr := false) (s := c__law_digit) (k := 1) F sc__law_digit rfl (by decide) (show ∀ i ∈ ([0] : List Nat), i = 0 ∨ 2 ≤ i by decide) ?_
  intro cdv A outer s1 H E F0 a hr
  exact st_seq (st_if (tv_cmp (fun _ => op_eq_t rfl hr.units) (sn_key (hu1 hr) (sn_bor (i := 0) rfl (.inl rfl) (show (0 : Nat) ∈ ([0] : List Nat) by decide))) (sn_int)) (st_one (st_for (g := .nm 2) rfl PassesOwn.never rfl (si_rng rfl (W.free "range" rfl) (sn_int)) (gv_nm (i := 2) sc__law_digit.nd rfl (.inl rfl)) (st_seq (st_setk (i := 0) (hu1 hr) rfl (.inl rfl) (show (0 : Nat) ∈ ([0] : List Nat) by decide) (sn_bin (fun _ => op_add_t rfl) (sn_key (hu1 hr) (sn_bor (i := 0) rfl (.inl rfl) (show (0 : Nat) ∈ ([0] : List Nat) by decide))) (sn_int))) (st_one (st_setk (i := 0) (hu1 hr) rfl (.inl rfl) (show (0 : Nat) ∈ ([0] : List Nat) by decide) (sn_bin (fun _ => op_add_t rfl) (sn_bin (fun _ => op_mul_t rfl) (sn_key (hu1 hr) (sn_bor (i := 0) rfl (.inl rfl) (show (0 : Nat) ∈ ([0] : List Nat) by decide))) (sn_int)) (sn_callD D__law_mixed (hr.mono (by decide)) rfl (W.glo "_law_mixed" rfl) rfl runN_len (sa_cons (sn_key (hu1 hr) (sn_bor (i := 0) rfl (.inl rfl) (show (0 : Nat) ∈ ([0] : List Nat) by decide))) (sa_cons (sn_key (hu1 hr) (sn_bor (i := 0) rfl (.inl rfl) (show (0 : Nat) ∈ ([0] : List Nat) by decide))) (sa_nil)))))))) (hM := (show ∀ i ∈ gVars (.nm 2), i ∉ ([0] : List Nat) by decide)))) (st_skip)) (st_seq (st_asg (i := 3) sc__law_digit.nd rfl (.inl rfl) (show (3 : Nat) ∉ ([0] : List Nat) by decide) (sn_bin (fun _ => op_mod_t rfl) (sn_key (hu1 hr) (sn_bor (i := 0) rfl (.inl rfl) (show (0 : Nat) ∈ ([0] : List Nat) by decide))) (sn_var (i := 1) rfl (.inl rfl) (show (1 : Nat) ∉ ([0] : List Nat) by decide)))) (st_seq (st_setk (i := 0) (hu1 hr) rfl (.inl rfl) (show (0 : Nat) ∈ ([0] : List Nat) by decide) (sn_bin (fun _ => op_fdiv_t rfl) (sn_key (hu1 hr) (sn_bor (i := 0) rfl (.inl rfl) (show (0 : Nat) ∈ ([0] : List Nat) by decide))) (sn_var (i := 1) rfl (.inl rfl) (show (1 : Nat) ∉ ([0] : List Nat) by decide)))) (st_one (st_ret (sn_var (i := 3) rfl (.inl rfl) (show (3 : Nat) ∉ ([0] : List Nat) by decide))))))
theorem ok__law_digit (W : Fx K mg) {fd : FuncData} (F : FunD K "_law_digit" "_law_digit" a__law_digit b__law_digit k__law_digit [] [] (He.ga K "_law_digit") fd) (D__law_mixed : DF P w K mg base 1 "_law_mixed" ["cell", "k"] (spM (ctk K mg) true 2 m__law_mixed)) : DF P w K mg base 2 "_law_digit" ["state", "below"] (spIo (ctk K mg) 2 m__law_digit) := ⟨fd, okf__law_digit W F D__law_mixed, F.kp, F.bindsN fun _ _ _ _ _ _ us hl => match us, hl with | [_, _], _ => rfl⟩
/-! ### _law_kinds -/
theorem sc__law_kinds : FnScope ["e", "some", "word", "is_so"] ["e"] k__law_kinds := ⟨rfl, rfl, rfl, by decide +kernel, rfl, by decide +kernel, by decide +kernel⟩
def c__law_kinds : S := .seq (.asg (.nm 1) (.lst (.cons (.tup (.cons (.cst (.str "BadBatch")) (.cons (.isi (isE tb "BadBatch") (.var 0)) (.nil)))) (.cons (.tup (.cons (.cst (.str "BadBytes")) (.cons (.isi (isE tb "BadBytes") (.var 0)) (.nil)))) (.nil))))) (.seq (.asg (.nm 1) (.bin .add (.var 1) (.lst (.cons (.tup (.cons (.cst (.str "BadCheat")) (.cons (.isi (isE tb "BadCheat") (.var 0)) (.nil)))) (.cons (.tup (.cons (.cst (.str "BadClaim")) (.cons (.isi (isE tb "BadClaim") (.var 0)) (.nil)))) (.nil)))))) (.seq (.asg (.nm 1) (.bin .add (.var 1) (.lst (.cons (.tup (.cons (.cst (.str "BadCode")) (.cons (.isi (isE tb "BadCode") (.var 0)) (.nil)))) (.cons (.tup (.cons (.cst (.str "BadDeed")) (.cons (.isi (isE tb "BadDeed") (.var 0)) (.nil)))) (.nil)))))) (.seq (.asg (.nm 1) (.bin .add (.var 1) (.lst (.cons (.tup (.cons (.cst (.str "BadExpression")) (.cons (.isi (isE tb "BadExpression") (.var 0)) (.nil)))) (.cons (.tup (.cons (.cst (.str "BadInput")) (.cons (.isi (isE tb "BadInput") (.var 0)) (.nil)))) (.nil)))))) (.seq (.asg (.nm 1) (.bin .add (.var 1) (.lst (.cons (.tup (.cons (.cst (.str "BadLayers")) (.cons (.isi (isE tb "BadLayers") (.var 0)) (.nil)))) (.cons (.tup (.cons (.cst (.str "BadLine")) (.cons (.isi (isE tb "BadLine") (.var 0)) (.nil)))) (.nil)))))) (.seq (.asg (.nm 1) (.bin .add (.var 1) (.lst (.cons (.tup (.cons (.cst (.str "BadMachine")) (.cons (.isi (isE tb "BadMachine") (.var 0)) (.nil)))) (.cons (.tup (.cons (.cst (.str "BadName")) (.cons (.isi (isE tb "BadName") (.var 0)) (.nil)))) (.nil)))))) (.seq (.asg (.nm 1) (.bin .add (.var 1) (.lst (.cons (.tup (.cons (.cst (.str "BadNet")) (.cons (.isi (isE tb "BadNet") (.var 0)) (.nil)))) (.cons (.tup (.cons (.cst (.str "BadNumber")) (.cons (.isi (isE tb "BadNumber") (.var 0)) (.nil)))) (.nil)))))) (.seq (.asg (.nm 1) (.bin .add (.var 1) (.lst (.cons (.tup (.cons (.cst (.str "BadPaper")) (.cons (.isi (isE tb "BadPaper") (.var 0)) (.nil)))) (.cons (.tup (.cons (.cst (.str "BadPoint")) (.cons (.isi (isE tb "BadPoint") (.var 0)) (.nil)))) (.nil)))))) (.seq (.asg (.nm 1) (.bin .add (.var 1) (.lst (.cons (.tup (.cons (.cst (.str "BadPrime")) (.cons (.isi (isE tb "BadPrime") (.var 0)) (.nil)))) (.cons (.tup (.cons (.cst (.str "BadProgram")) (.cons (.isi (isE tb "BadProgram") (.var 0)) (.nil)))) (.nil)))))) (.seq (.asg (.nm 1) (.bin .add (.var 1) (.lst (.cons (.tup (.cons (.cst (.str "BadRemainder")) (.cons (.isi (isE tb "BadRemainder") (.var 0)) (.nil)))) (.cons (.tup (.cons (.cst (.str "BadTable")) (.cons (.isi (isE tb "BadTable") (.var 0)) (.nil)))) (.nil)))))) (.seq (.asg (.nm 1) (.bin .add (.var 1) (.lst (.cons (.tup (.cons (.cst (.str "BadTalk")) (.cons (.isi (isE tb "BadTalk") (.var 0)) (.nil)))) (.cons (.tup (.cons (.cst (.str "BadText")) (.cons (.isi (isE tb "BadText") (.var 0)) (.nil)))) (.nil)))))) (.seq (.asg (.nm 1) (.bin .add (.var 1) (.lst (.cons (.tup (.cons (.cst (.str "BadTree")) (.cons (.isi (isE tb "BadTree") (.var 0)) (.nil)))) (.cons (.tup (.cons (.cst (.str "BadWord")) (.cons (.isi (isE tb "BadWord") (.var 0)) (.nil)))) (.nil)))))) (.seq (.asg (.nm 1) (.bin .add (.var 1) (.lst (.cons (.tup (.cons (.cst (.str "NoSuch")) (.cons (.isi (isE tb "NoSuch") (.var 0)) (.nil)))) (.cons (.tup (.cons (.cst (.str "TooMany")) (.cons (.isi (isE tb "TooMany") (.var 0)) (.nil)))) (.nil)))))) (.seq (.asg (.nm 1) (.bin .add (.var 1) (.lst (.cons (.tup (.cons (.cst (.str "base")) (.cons (.isi (isE tb "RunError") (.var 0)) (.nil)))) (.cons (.tup (.cons (.cst (.str "value")) (.cons (.isi (isE tb "ValueError") (.var 0)) (.nil)))) (.nil)))))) (.seq (.asg (.nm 1) (.bin .add (.var 1) (.lst (.cons (.tup (.cons (.cst (.str "lookup")) (.cons (.isi (isE tb "LookupError") (.var 0)) (.nil)))) (.cons (.tup (.cons (.cst (.str "overflow")) (.cons (.isi (isE tb "OverflowError") (.var 0)) (.nil)))) (.nil)))))) (.ret (.lc [2, 3] (.tp (.cons (.nm 2) (.cons (.nm 3) (.nil)))) (.itr (.var 1)) (.cons (.var 3) .nil) (.var 2)))))))))))))))))
def m__law_kinds : Mf := runN 1 (["e", "some", "word", "is_so"] : List Str).length c__law_kinds
theorem okf__law_kinds (W : Fx K mg) {fd : FuncData} (F : FunD K "_law_kinds" "_law_kinds" a__law_kinds b__law_kinds k__law_kinds [] [] (He.ga K "_law_kinds") fd) : FnOk P w K mg base (CX P w) 1 (He.ga K "_law_kinds") fd ["e"] (spM (ctk K mg) true 1 m__law_kinds) := by
  unfold m__law_kinds
  refine def_ok (M := []) (fr := true) (s := c__law_kinds) (k := 0) F sc__law_kinds rfl (show ∀ i ∈ ([] : List Nat), 1 ≤ i by decide) ?_
  intro cdv A outer s1 H E F0 hr
  exact st_seq (st_asg (i := 1) sc__law_kinds.nd rfl (.inl rfl) (show (1 : Nat) ∉ ([] : List Nat) by decide) (sn_lst (sa_cons (sn_tup (sa_cons (sn_str) (sa_cons (sn_isi (vt := .ref (He.ga K "BadBatch")) rfl (W.isi "BadBatch" (.own "BadBatch") rfl) (fun _ z => z) rfl (W.free "isinstance" rfl) (sn_var (i := 0) rfl (.inl rfl) (show (0 : Nat) ∉ ([] : List Nat) by decide)) (pe_glob rfl (W.glo "BadBatch" rfl) rfl)) (sa_nil)))) (sa_cons (sn_tup (sa_cons (sn_str) (sa_cons (sn_isi (vt := .ref (He.ga K "BadBytes")) rfl (W.isi "BadBytes" (.own "BadBytes") rfl) (fun _ z => z) rfl (W.free "isinstance" rfl) (sn_var (i := 0) rfl (.inl rfl) (show (0 : Nat) ∉ ([] : List Nat) by decide)) (pe_glob rfl (W.glo "BadBytes" rfl) rfl)) (sa_nil)))) (sa_nil))))) (st_seq (st_asg (i := 1) sc__law_kinds.nd rfl (.inl rfl) (show (1 : Nat) ∉ ([] : List Nat) by decide) (sn_bin (fun _ => op_add_t rfl) (sn_var (i := 1) rfl (.inl rfl) (show (1 : Nat) ∉ ([] : List Nat) by decide)) (sn_lst (sa_cons (sn_tup (sa_cons (sn_str) (sa_cons (sn_isi (vt := .ref (He.ga K "BadCheat")) rfl (W.isi "BadCheat" (.own "BadCheat") rfl) (fun _ z => z) rfl (W.free "isinstance" rfl) (sn_var (i := 0) rfl (.inl rfl) (show (0 : Nat) ∉ ([] : List Nat) by decide)) (pe_glob rfl (W.glo "BadCheat" rfl) rfl)) (sa_nil)))) (sa_cons (sn_tup (sa_cons (sn_str) (sa_cons (sn_isi (vt := .ref (He.ga K "BadClaim")) rfl (W.isi "BadClaim" (.own "BadClaim") rfl) (fun _ z => z) rfl (W.free "isinstance" rfl) (sn_var (i := 0) rfl (.inl rfl) (show (0 : Nat) ∉ ([] : List Nat) by decide)) (pe_glob rfl (W.glo "BadClaim" rfl) rfl)) (sa_nil)))) (sa_nil)))))) (st_seq (st_asg (i := 1) sc__law_kinds.nd rfl (.inl rfl) (show (1 : Nat) ∉ ([] : List Nat) by decide) (sn_bin (fun _ => op_add_t rfl) (sn_var (i := 1) rfl (.inl rfl) (show (1 : Nat) ∉ ([] : List Nat) by decide)) (sn_lst (sa_cons (sn_tup (sa_cons (sn_str) (sa_cons (sn_isi (vt := .ref (He.ga K "BadCode")) rfl (W.isi "BadCode" (.own "BadCode") rfl) (fun _ z => z) rfl (W.free "isinstance" rfl) (sn_var (i := 0) rfl (.inl rfl) (show (0 : Nat) ∉ ([] : List Nat) by decide)) (pe_glob rfl (W.glo "BadCode" rfl) rfl)) (sa_nil)))) (sa_cons (sn_tup (sa_cons (sn_str) (sa_cons (sn_isi (vt := .ref (He.ga K "BadDeed")) rfl (W.isi "BadDeed" (.own "BadDeed") rfl) (fun _ z => z) rfl (W.free "isinstance" rfl) (sn_var (i := 0) rfl (.inl rfl) (show (0 : Nat) ∉ ([] : List Nat) by decide)) (pe_glob rfl (W.glo "BadDeed" rfl) rfl)) (sa_nil)))) (sa_nil)))))) (st_seq (st_asg (i := 1) sc__law_kinds.nd rfl (.inl rfl) (show (1 : Nat) ∉ ([] : List Nat) by decide) (sn_bin (fun _ => op_add_t rfl) (sn_var (i := 1) rfl (.inl rfl) (show (1 : Nat) ∉ ([] : List Nat) by decide)) (sn_lst (sa_cons (sn_tup (sa_cons (sn_str) (sa_cons (sn_isi (vt := .ref (He.ga K "BadExpression")) rfl (W.isi "BadExpression" (.own "BadExpression") rfl) (fun _ z => z) rfl (W.free "isinstance" rfl) (sn_var (i := 0) rfl (.inl rfl) (show (0 : Nat) ∉ ([] : List Nat) by decide)) (pe_glob rfl (W.glo "BadExpression" rfl) rfl)) (sa_nil)))) (sa_cons (sn_tup (sa_cons (sn_str) (sa_cons (sn_isi (vt := .ref (He.ga K "BadInput")) rfl (W.isi "BadInput" (.own "BadInput") rfl) (fun _ z => z) rfl (W.free "isinstance" rfl) (sn_var (i := 0) rfl (.inl rfl) (show (0 : Nat) ∉ ([] : List Nat) by decide)) (pe_glob rfl (W.glo "BadInput" rfl) rfl)) (sa_nil)))) (sa_nil)))))) (st_seq (st_asg (i := 1) sc__law_kinds.nd rfl (.inl rfl) (show (1 : Nat) ∉ ([] : List Nat) by decide) (sn_bin (fun _ => op_add_t rfl) (sn_var (i := 1) rfl (.inl rfl) (show (1 : Nat) ∉ ([] : List Nat) by decide)) (sn_lst (sa_cons (sn_tup (sa_cons (sn_str) (sa_cons (sn_isi (vt := .ref (He.ga K "BadLayers")) rfl (W.isi "BadLayers" (.own "BadLayers") rfl) (fun _ z => z) rfl (W.free "isinstance" rfl) (sn_var (i := 0) rfl (.inl rfl) (show (0 : Nat) ∉ ([] : List Nat) by decide)) (pe_glob rfl (W.glo "BadLayers" rfl) rfl)) (sa_nil)))) (sa_cons (sn_tup (sa_cons (sn_str) (sa_cons (sn_isi (vt := .ref (He.ga K "BadLine")) rfl (W.isi "BadLine" (.own "BadLine") rfl) (fun _ z => z) rfl (W.free "isinstance" rfl) (sn_var (i := 0) rfl (.inl rfl) (show (0 : Nat) ∉ ([] : List Nat) by decide)) (pe_glob rfl (W.glo "BadLine" rfl) rfl)) (sa_nil)))) (sa_nil)))))) (st_seq (st_asg (i := 1) sc__law_kinds.nd rfl (.inl rfl) (show (1 : Nat) ∉ ([] : List Nat) by decide) (sn_bin (fun _ => op_add_t rfl) (sn_var (i := 1) rfl (.inl rfl) (show (1 : Nat) ∉ ([] : List Nat) by decide)) (sn_lst (sa_cons (sn_tup (sa_cons (sn_str) (sa_cons (sn_isi (vt := .ref (He.ga K "BadMachine")) rfl (W.isi "BadMachine" (.own "BadMachine") rfl) (fun _ z => z) rfl (W.free "isinstance" rfl) (sn_var (i := 0) rfl (.inl rfl) (show (0 : Nat) ∉ ([] : List Nat) by decide)) (pe_glob rfl (W.glo "BadMachine" rfl) rfl)) (sa_nil)))) (sa_cons (sn_tup (sa_cons (sn_str) (sa_cons (sn_isi (vt := .ref (He.ga K "BadName")) rfl (W.isi "BadName" (.own "BadName") rfl) (fun _ z => z) rfl (W.free "isinstance" rfl) (sn_var (i := 0) rfl (.inl rfl) (show (0 : Nat) ∉ ([] : List Nat) by decide)) (pe_glob rfl (W.glo "BadName" rfl) rfl)) (sa_nil)))) (sa_nil)))))) (st_seq (st_asg (i := 1) sc__law_kinds.nd rfl (.inl rfl) (show (1 : Nat) ∉ ([] : List Nat) by decide) (sn_bin (fun _ => op_add_t rfl) (sn_var (i := 1) rfl (.inl rfl) (show (1 : Nat) ∉ ([] : List Nat) by decide)) (sn_lst (sa_cons (sn_tup (sa_cons (sn_str) (sa_cons (sn_isi (vt := .ref (He.ga K "BadNet")) rfl (W.isi "BadNet" (.own "BadNet") rfl) (fun _ z => z) rfl (W.free "isinstance" rfl) (sn_var (i := 0) rfl (.inl rfl) (show (0 : Nat) ∉ ([] : List Nat) by decide)) (pe_glob rfl (W.glo "BadNet" rfl) rfl)) (sa_nil)))) (sa_cons (sn_tup (sa_cons (sn_str) (sa_cons (sn_isi (vt := .ref (He.ga K "BadNumber")) rfl (W.isi "BadNumber" (.own "BadNumber") rfl) (fun _ z => z) rfl (W.free "isinstance" rfl) (sn_var (i := 0) rfl (.inl rfl) (show (0 : Nat) ∉ ([] : List Nat) by decide)) (pe_glob rfl (W.glo "BadNumber" rfl) rfl)) (sa_nil)))) (sa_nil)))))) (st_seq (st_asg (i := 1) sc__law_kinds.nd rfl (.inl rfl) (show (1 : Nat) ∉ ([] : List Nat) by decide) (sn_bin (fun _ => op_add_t rfl) (sn_var (i := 1) rfl (.inl rfl) (show (1 : Nat) ∉ ([] : List Nat) by decide)) (sn_lst (sa_cons (sn_tup (sa_cons (sn_str) (sa_cons (sn_isi (vt := .ref (He.ga K "BadPaper")) rfl (W.isi "BadPaper" (.own "BadPaper") rfl) (fun _ z => z) rfl (W.free "isinstance" rfl) (sn_var (i := 0) rfl (.inl rfl) (show (0 : Nat) ∉ ([] : List Nat) by decide)) (pe_glob rfl (W.glo "BadPaper" rfl) rfl)) (sa_nil)))) (sa_cons (sn_tup (sa_cons (sn_str) (sa_cons (sn_isi (vt := .ref (He.ga K "BadPoint")) rfl (W.isi "BadPoint" (.own "BadPoint") rfl) (fun _ z => z) rfl (W.free "isinstance" rfl) (sn_var (i := 0) rfl (.inl rfl) (show (0 : Nat) ∉ ([] : List Nat) by decide)) (pe_glob rfl (W.glo "BadPoint" rfl) rfl)) (sa_nil)))) (sa_nil)))))) (st_seq (st_asg (i := 1) sc__law_kinds.nd rfl (.inl rfl) (show (1 : Nat) ∉ ([] : List Nat) by decide) (sn_bin (fun _ => op_add_t rfl) (sn_var (i := 1) rfl (.inl rfl) (show (1 : Nat) ∉ ([] : List Nat) by decide)) (sn_lst (sa_cons (sn_tup (sa_cons (sn_str) (sa_cons (sn_isi (vt := .ref (He.ga K "BadPrime")) rfl (W.isi "BadPrime" (.own "BadPrime") rfl) (fun _ z => z) rfl (W.free "isinstance" rfl) (sn_var (i := 0) rfl (.inl rfl) (show (0 : Nat) ∉ ([] : List Nat) by decide)) (pe_glob rfl (W.glo "BadPrime" rfl) rfl)) (sa_nil)))) (sa_cons (sn_tup (sa_cons (sn_str) (sa_cons (sn_isi (vt := .ref (He.ga K "BadProgram")) rfl (W.isi "BadProgram" (.own "BadProgram") rfl) (fun _ z => z) rfl (W.free "isinstance" rfl) (sn_var (i := 0) rfl (.inl rfl) (show (0 : Nat) ∉ ([] : List Nat) by decide)) (pe_glob rfl (W.glo "BadProgram" rfl) rfl)) (sa_nil)))) (sa_nil)))))) (st_seq (st_asg (i := 1) sc__law_kinds.nd rfl (.inl rfl) (show (1 : Nat) ∉ ([] : List Nat) by decide) (sn_bin (fun _ => op_add_t rfl) (sn_var (i := 1) rfl (.inl rfl) (show (1 : Nat) ∉ ([] : List Nat) by decide)) (sn_lst (sa_cons (sn_tup (sa_cons (sn_str) (sa_cons (sn_isi (vt := .ref (He.ga K "BadRemainder")) rfl (W.isi "BadRemainder" (.own "BadRemainder") rfl) (fun _ z => z) rfl (W.free "isinstance" rfl) (sn_var (i := 0) rfl (.inl rfl) (show (0 : Nat) ∉ ([] : List Nat) by decide)) (pe_glob rfl (W.glo "BadRemainder" rfl) rfl)) (sa_nil)))) (sa_cons (sn_tup (sa_cons (sn_str) (sa_cons (sn_isi (vt := .ref (He.ga K "BadTable")) rfl (W.isi "BadTable" (.own "BadTable") rfl) (fun _ z => z) rfl (W.free "isinstance" rfl) (sn_var (i := 0) rfl (.inl rfl) (show (0 : Nat) ∉ ([] : List Nat) by decide)) (pe_glob rfl (W.glo "BadTable" rfl) rfl)) (sa_nil)))) (sa_nil)))))) (st_seq (st_asg (i := 1) sc__law_kinds.nd rfl (.inl rfl) (show (1 : Nat) ∉ ([] : List Nat) by decide) (sn_bin (fun _ => op_add_t rfl) (sn_var (i := 1) rfl (.inl rfl) (show (1 : Nat) ∉ ([] : List Nat) by decide)) (sn_lst (sa_cons (sn_tup (sa_cons (sn_str) (sa_cons (sn_isi (vt := .ref (He.ga K "BadTalk")) rfl (W.isi "BadTalk" (.own "BadTalk") rfl) (fun _ z => z) rfl (W.free "isinstance" rfl) (sn_var (i := 0) rfl (.inl rfl) (show (0 : Nat) ∉ ([] : List Nat) by decide)) (pe_glob rfl (W.glo "BadTalk" rfl) rfl)) (sa_nil)))) (sa_cons (sn_tup (sa_cons (sn_str) (sa_cons (sn_isi (vt := .ref (He.ga K "BadText")) rfl (W.isi "BadText" (.own "BadText") rfl) (fun _ z => z) rfl (W.free "isinstance" rfl) (sn_var (i := 0) rfl (.inl rfl) (show (0 : Nat) ∉ ([] : List Nat) by decide)) (pe_glob rfl (W.glo "BadText" rfl) rfl)) (sa_nil)))) (sa_nil)))))) (st_seq (st_asg (i := 1) sc__law_kinds.nd rfl (.inl rfl) (show (1 : Nat) ∉ ([] : List Nat) by decide) (sn_bin (fun _ => op_add_t rfl) (sn_var (i := 1) rfl (.inl rfl) (show (1 : Nat) ∉ ([] : List Nat) by decide)) (sn_lst (sa_cons (sn_tup (sa_cons (sn_str) (sa_cons (sn_isi (vt := .ref (He.ga K "BadTree")) rfl (W.isi "BadTree" (.own "BadTree") rfl) (fun _ z => z) rfl (W.free "isinstance" rfl) (sn_var (i := 0) rfl (.inl rfl) (show (0 : Nat) ∉ ([] : List Nat) by decide)) (pe_glob rfl (W.glo "BadTree" rfl) rfl)) (sa_nil)))) (sa_cons (sn_tup (sa_cons (sn_str) (sa_cons (sn_isi (vt := .ref (He.ga K "BadWord")) rfl (W.isi "BadWord" (.own "BadWord") rfl) (fun _ z => z) rfl (W.free "isinstance" rfl) (sn_var (i := 0) rfl (.inl rfl) (show (0 : Nat) ∉ ([] : List Nat) by decide)) (pe_glob rfl (W.glo "BadWord" rfl) rfl)) (sa_nil)))) (sa_nil)))))) (st_seq (st_asg (i := 1) sc__law_kinds.nd rfl (.inl rfl) (show (1 : Nat) ∉ ([] : List Nat) by decide) (sn_bin (fun _ => op_add_t rfl) (sn_var (i := 1) rfl (.inl rfl) (show (1 : Nat) ∉ ([] : List Nat) by decide)) (sn_lst (sa_cons (sn_tup (sa_cons (sn_str) (sa_cons (sn_isi (vt := .ref (He.ga K "NoSuch")) rfl (W.isi "NoSuch" (.own "NoSuch") rfl) (fun _ z => z) rfl (W.free "isinstance" rfl) (sn_var (i := 0) rfl (.inl rfl) (show (0 : Nat) ∉ ([] : List Nat) by decide)) (pe_glob rfl (W.glo "NoSuch" rfl) rfl)) (sa_nil)))) (sa_cons (sn_tup (sa_cons (sn_str) (sa_cons (sn_isi (vt := .ref (He.ga K "TooMany")) rfl (W.isi "TooMany" (.own "TooMany") rfl) (fun _ z => z) rfl (W.free "isinstance" rfl) (sn_var (i := 0) rfl (.inl rfl) (show (0 : Nat) ∉ ([] : List Nat) by decide)) (pe_glob rfl (W.glo "TooMany" rfl) rfl)) (sa_nil)))) (sa_nil)))))) (st_seq (st_asg (i := 1) sc__law_kinds.nd rfl (.inl rfl) (show (1 : Nat) ∉ ([] : List Nat) by decide) (sn_bin (fun _ => op_add_t rfl) (sn_var (i := 1) rfl (.inl rfl) (show (1 : Nat) ∉ ([] : List Nat) by decide)) (sn_lst (sa_cons (sn_tup (sa_cons (sn_str) (sa_cons (sn_isi (vt := .ref (He.ga K "RunError")) rfl (W.isi "RunError" (.own "RunError") rfl) (fun _ z => z) rfl (W.free "isinstance" rfl) (sn_var (i := 0) rfl (.inl rfl) (show (0 : Nat) ∉ ([] : List Nat) by decide)) (pe_glob rfl (W.glo "RunError" rfl) rfl)) (sa_nil)))) (sa_cons (sn_tup (sa_cons (sn_str) (sa_cons (sn_isi (vt := .ty "ValueError") rfl (W.isi "ValueError" (.bt "ValueError") rfl) (fun _ z => z) rfl (W.free "isinstance" rfl) (sn_var (i := 0) rfl (.inl rfl) (show (0 : Nat) ∉ ([] : List Nat) by decide)) (pe_bltn rfl (W.free "ValueError" rfl) (by rfl) rfl)) (sa_nil)))) (sa_nil)))))) (st_seq (st_asg (i := 1) sc__law_kinds.nd rfl (.inl rfl) (show (1 : Nat) ∉ ([] : List Nat) by decide) (sn_bin (fun _ => op_add_t rfl) (sn_var (i := 1) rfl (.inl rfl) (show (1 : Nat) ∉ ([] : List Nat) by decide)) (sn_lst (sa_cons (sn_tup (sa_cons (sn_str) (sa_cons (sn_isi (vt := .ty "LookupError") rfl (W.isi "LookupError" (.bt "LookupError") rfl) (fun _ z => z) rfl (W.free "isinstance" rfl) (sn_var (i := 0) rfl (.inl rfl) (show (0 : Nat) ∉ ([] : List Nat) by decide)) (pe_bltn rfl (W.free "LookupError" rfl) (by rfl) rfl)) (sa_nil)))) (sa_cons (sn_tup (sa_cons (sn_str) (sa_cons (sn_isi (vt := .ty "OverflowError") rfl (W.isi "OverflowError" (.bt "OverflowError") rfl) (fun _ z => z) rfl (W.free "isinstance" rfl) (sn_var (i := 0) rfl (.inl rfl) (show (0 : Nat) ∉ ([] : List Nat) by decide)) (pe_bltn rfl (W.free "OverflowError" rfl) (by rfl) rfl)) (sa_nil)))) (sa_nil)))))) (st_one (st_ret (sn_lc (own := [("word", 2), ("is_so", 3)]) (g := .tp (.cons (.nm 2) (.cons (.nm 3) (.nil)))) rfl rfl sc__law_kinds.nd (si_itr rfl (sn_var (i := 1) rfl (.inl rfl) (show (1 : Nat) ∉ ([] : List Nat) by decide))) (show BlkOk ["e", "some", "word", "is_so"] k__law_kinds _ [("word", 2), ("is_so", 3)] from ⟨by rfl, by decide +kernel, by decide +kernel, by decide +kernel, by decide +kernel⟩) (fun _ _ _ _ _ => gv_tp rfl (gv_cons (gv_nm (i := 2) sc__law_kinds.nd rfl (.inl rfl)) (gv_cons (gv_nm (i := 3) sc__law_kinds.nd rfl (.inl rfl)) (gv_nil)))) (fun _ _ _ _ _ _ => sq_one (tv_gen rfl (sn_var (i := 3) rfl (.inl rfl) (show (3 : Nat) ∉ ([] : List Nat) by decide)))) (fun _ _ _ _ _ _ => sn_var (i := 2) rfl (.inl rfl) (show (2 : Nat) ∉ ([] : List Nat) by decide)) (hM := show ∀ i ∈ ([("word", 2), ("is_so", 3)] : List (Str × Nat)).map (·.2), i ∉ ([] : List Nat) by decide))))))))))))))))))
theorem ok__law_kinds (W : Fx K mg) {fd : FuncData} (F : FunD K "_law_kinds" "_law_kinds" a__law_kinds b__law_kinds k__law_kinds [] [] (He.ga K "_law_kinds") fd) : DF P w K mg base 1 "_law_kinds" ["e"] (spM (ctk K mg) true 1 m__law_kinds) := ⟨fd, okf__law_kinds W F , F.kp, F.bindsN fun _ _ _ _ _ _ us hl => match us, hl with | [_], _ => rfl⟩
/-! ### _law_valued -/
theorem sc__law_valued : FnScope ["thing", "found"] ["thing"] k__law_valued := ⟨rfl, rfl, rfl, by decide +kernel, rfl, by decide +kernel, by decide +kernel⟩
def c__law_valued : S := .seq (.asg (.nm 1) (.lst (.cons (.tup (.cons (.mk "BadPrime" "value" "no such prime" (.var 0)) (.cons (.mk "BadPrime" "value" "no such prime" (.var 0)) (.cons (.cst (.str "BadPrime")) (.nil))))) (.nil)))) (.seq (.asg (.nm 1) (.bin .add (.var 1) (.lst (.cons (.tup (.cons (.mk "BadNumber" "value" "no such number" (.var 0)) (.cons (.mk "BadNumber" "value" "no such number" (.var 0)) (.cons (.cst (.str "BadNumber")) (.nil))))) (.nil))))) (.seq (.asg (.nm 1) (.bin .add (.var 1) (.lst (.cons (.tup (.cons (.mk "BadName" "value" "no such name" (.var 0)) (.cons (.mk "BadName" "value" "no such name" (.var 0)) (.cons (.cst (.str "BadName")) (.nil))))) (.nil))))) (.ret (.bin .add (.var 1) (.lst (.cons (.tup (.cons (.mk "BadRemainder" "value" "no such remainder" (.var 0)) (.cons (.mk "BadRemainder" "value" "no such remainder" (.var 0)) (.cons (.cst (.str "BadRemainder")) (.nil))))) (.nil)))))))
def m__law_valued : Mf := runN 1 (["thing", "found"] : List Str).length c__law_valued
theorem okf__law_valued (W : Fx K mg) {fd : FuncData} (F : FunD K "_law_valued" "_law_valued" a__law_valued b__law_valued k__law_valued [] [] (He.ga K "_law_valued") fd) (mk_BadPrime : MkC P w K mg base true "BadPrime" "value" "no such prime") (mk_BadNumber : MkC P w K mg base true "BadNumber" "value" "no such number") (mk_BadName : MkC P w K mg base true "BadName" "value" "no such name") (mk_BadRemainder : MkC P w K mg base true "BadRemainder" "value" "no such remainder") : FnOk P w K mg base (CX P w) 3 (He.ga K "_law_valued") fd ["thing"] (spM (ctk K mg) true 1 m__law_valued) := by
  unfold m__law_valued
  refine def_ok (M := []) (fr := true) (s := c__law_valued) (k := 2) F sc__law_valued rfl (show ∀ i ∈ ([] : List Nat), 1 ≤ i by decide) ?_
  intro cdv A outer s1 H E F0 hr
  exact st_seq (st_asg (i := 1) sc__law_valued.nd rfl (.inl rfl) (show (1 : Nat) ∉ ([] : List Nat) by decide) (sn_lst (sa_cons (sn_tup (sa_cons (sn_mk1D rfl mk_BadPrime (hr.mono (by decide)) rfl (sn_var (i := 0) rfl (.inl rfl) (show (0 : Nat) ∉ ([] : List Nat) by decide))) (sa_cons (sn_mkKD rfl mk_BadPrime (hr.mono (by decide)) rfl (sn_var (i := 0) rfl (.inl rfl) (show (0 : Nat) ∉ ([] : List Nat) by decide))) (sa_cons (sn_str) (sa_nil))))) (sa_nil)))) (st_seq (st_asg (i := 1) sc__law_valued.nd rfl (.inl rfl) (show (1 : Nat) ∉ ([] : List Nat) by decide) (sn_bin (fun _ => op_add_t rfl) (sn_var (i := 1) rfl (.inl rfl) (show (1 : Nat) ∉ ([] : List Nat) by decide)) (sn_lst (sa_cons (sn_tup (sa_cons (sn_mk1D rfl mk_BadNumber (hr.mono (by decide)) rfl (sn_var (i := 0) rfl (.inl rfl) (show (0 : Nat) ∉ ([] : List Nat) by decide))) (sa_cons (sn_mkKD rfl mk_BadNumber (hr.mono (by decide)) rfl (sn_var (i := 0) rfl (.inl rfl) (show (0 : Nat) ∉ ([] : List Nat) by decide))) (sa_cons (sn_str) (sa_nil))))) (sa_nil))))) (st_seq (st_asg (i := 1) sc__law_valued.nd rfl (.inl rfl) (show (1 : Nat) ∉ ([] : List Nat) by decide) (sn_bin (fun _ => op_add_t rfl) (sn_var (i := 1) rfl (.inl rfl) (show (1 : Nat) ∉ ([] : List Nat) by decide)) (sn_lst (sa_cons (sn_tup (sa_cons (sn_mk1D rfl mk_BadName (hr.mono (by decide)) rfl (sn_var (i := 0) rfl (.inl rfl) (show (0 : Nat) ∉ ([] : List Nat) by decide))) (sa_cons (sn_mkKD rfl mk_BadName (hr.mono (by decide)) rfl (sn_var (i := 0) rfl (.inl rfl) (show (0 : Nat) ∉ ([] : List Nat) by decide))) (sa_cons (sn_str) (sa_nil))))) (sa_nil))))) (st_one (st_ret (sn_bin (fun _ => op_add_t rfl) (sn_var (i := 1) rfl (.inl rfl) (show (1 : Nat) ∉ ([] : List Nat) by decide)) (sn_lst (sa_cons (sn_tup (sa_cons (sn_mk1D rfl mk_BadRemainder (hr.mono (by decide)) rfl (sn_var (i := 0) rfl (.inl rfl) (show (0 : Nat) ∉ ([] : List Nat) by decide))) (sa_cons (sn_mkKD rfl mk_BadRemainder (hr.mono (by decide)) rfl (sn_var (i := 0) rfl (.inl rfl) (show (0 : Nat) ∉ ([] : List Nat) by decide))) (sa_cons (sn_str) (sa_nil))))) (sa_nil))))))))
theorem ok__law_valued (W : Fx K mg) {fd : FuncData} (F : FunD K "_law_valued" "_law_valued" a__law_valued b__law_valued k__law_valued [] [] (He.ga K "_law_valued") fd) (mk_BadPrime : MkC P w K mg base true "BadPrime" "value" "no such prime") (mk_BadNumber : MkC P w K mg base true "BadNumber" "value" "no such number") (mk_BadName : MkC P w K mg base true "BadName" "value" "no such name") (mk_BadRemainder : MkC P w K mg base true "BadRemainder" "value" "no such remainder") : DF P w K mg base 3 "_law_valued" ["thing"] (spM (ctk K mg) true 1 m__law_valued) := ⟨fd, okf__law_valued W F mk_BadPrime mk_BadNumber mk_BadName mk_BadRemainder, F.kp, F.bindsN fun _ _ _ _ _ _ us hl => match us, hl with | [_], _ => rfl⟩
/-! ### _law_placed -/
theorem sc__law_placed : FnScope ["thing", "found"] ["thing"] k__law_placed := ⟨rfl, rfl, rfl, by decide +kernel, rfl, by decide +kernel, by decide +kernel⟩
def c__law_placed : S := .seq (.asg (.nm 1) (.lst (.cons (.tup (.cons (.mk "BadExpression" "place" "no such expression" (.var 0)) (.cons (.mk "BadExpression" "place" "no such expression" (.var 0)) (.cons (.cst (.str "BadExpression")) (.nil))))) (.nil)))) (.seq (.asg (.nm 1) (.bin .add (.var 1) (.lst (.cons (.tup (.cons (.mk "BadProgram" "place" "no such program" (.var 0)) (.cons (.mk "BadProgram" "place" "no such program" (.var 0)) (.cons (.cst (.str "BadProgram")) (.nil))))) (.nil))))) (.seq (.asg (.nm 1) (.bin .add (.var 1) (.lst (.cons (.tup (.cons (.mk "BadInput" "place" "no such input" (.var 0)) (.cons (.mk "BadInput" "place" "no such input" (.var 0)) (.cons (.cst (.str "BadInput")) (.nil))))) (.nil))))) (.seq (.asg (.nm 1) (.bin .add (.var 1) (.lst (.cons (.tup (.cons (.mk "BadNet" "place" "no such net" (.var 0)) (.cons (.mk "BadNet" "place" "no such net" (.var 0)) (.cons (.cst (.str "BadNet")) (.nil))))) (.nil))))) (.seq (.asg (.nm 1) (.bin .add (.var 1) (.lst (.cons (.tup (.cons (.mk "BadLayers" "place" "no such layers" (.var 0)) (.cons (.mk "BadLayers" "place" "no such layers" (.var 0)) (.cons (.cst (.str "BadLayers")) (.nil))))) (.nil))))) (.seq (.asg (.nm 1) (.bin .add (.var 1) (.lst (.cons (.tup (.cons (.mk "BadPoint" "place" "no such point" (.var 0)) (.cons (.mk "BadPoint" "place" "no such point" (.var 0)) (.cons (.cst (.str "BadPoint")) (.nil))))) (.nil))))) (.seq (.asg (.nm 1) (.bin .add (.var 1) (.lst (.cons (.tup (.cons (.mk "BadLine" "place" "no such polynomial" (.var 0)) (.cons (.mk "BadLine" "place" "no such polynomial" (.var 0)) (.cons (.cst (.str "BadLine")) (.nil))))) (.nil))))) (.seq (.asg (.nm 1) (.bin .add (.var 1) (.lst (.cons (.tup (.cons (.mk "BadTable" "place" "no such table" (.var 0)) (.cons (.mk "BadTable" "place" "no such table" (.var 0)) (.cons (.cst (.str "BadTable")) (.nil))))) (.nil))))) (.seq (.asg (.nm 1) (.bin .add (.var 1) (.lst (.cons (.tup (.cons (.mk "BadClaim" "place" "no such claim" (.var 0)) (.cons (.mk "BadClaim" "place" "no such claim" (.var 0)) (.cons (.cst (.str "BadClaim")) (.nil))))) (.nil))))) (.seq (.asg (.nm 1) (.bin .add (.var 1) (.lst (.cons (.tup (.cons (.mk "BadTalk" "place" "no such talk" (.var 0)) (.cons (.mk "BadTalk" "place" "no such talk" (.var 0)) (.cons (.cst (.str "BadTalk")) (.nil))))) (.nil))))) (.seq (.asg (.nm 1) (.bin .add (.var 1) (.lst (.cons (.tup (.cons (.mk "BadCheat" "place" "no such cheat" (.var 0)) (.cons (.mk "BadCheat" "place" "no such cheat" (.var 0)) (.cons (.cst (.str "BadCheat")) (.nil))))) (.nil))))) (.seq (.asg (.nm 1) (.bin .add (.var 1) (.lst (.cons (.tup (.cons (.mk "BadCode" "place" "no such row" (.var 0)) (.cons (.mk "BadCode" "place" "no such row" (.var 0)) (.cons (.cst (.str "BadCode")) (.nil))))) (.nil))))) (.seq (.asg (.nm 1) (.bin .add (.var 1) (.lst (.cons (.tup (.cons (.mk "BadWord" "place" "no such word" (.var 0)) (.cons (.mk "BadWord" "place" "no such word" (.var 0)) (.cons (.cst (.str "BadWord")) (.nil))))) (.nil))))) (.seq (.asg (.nm 1) (.bin .add (.var 1) (.lst (.cons (.tup (.cons (.mk "BadTree" "place" "no such tree" (.var 0)) (.cons (.mk "BadTree" "place" "no such tree" (.var 0)) (.cons (.cst (.str "BadTree")) (.nil))))) (.nil))))) (.seq (.asg (.nm 1) (.bin .add (.var 1) (.lst (.cons (.tup (.cons (.mk "BadMachine" "place" "no such machine" (.var 0)) (.cons (.mk "BadMachine" "place" "no such machine" (.var 0)) (.cons (.cst (.str "BadMachine")) (.nil))))) (.nil))))) (.seq (.asg (.nm 1) (.bin .add (.var 1) (.lst (.cons (.tup (.cons (.mk "BadBatch" "place" "no such batch" (.var 0)) (.cons (.mk "BadBatch" "place" "no such batch" (.var 0)) (.cons (.cst (.str "BadBatch")) (.nil))))) (.nil))))) (.seq (.asg (.nm 1) (.bin .add (.var 1) (.lst (.cons (.tup (.cons (.mk "BadText" "place" "no such text" (.var 0)) (.cons (.mk "BadText" "place" "no such text" (.var 0)) (.cons (.cst (.str "BadText")) (.nil))))) (.nil))))) (.seq (.asg (.nm 1) (.bin .add (.var 1) (.lst (.cons (.tup (.cons (.mk "BadBytes" "place" "no such bytes" (.var 0)) (.cons (.mk "BadBytes" "place" "no such bytes" (.var 0)) (.cons (.cst (.str "BadBytes")) (.nil))))) (.nil))))) (.seq (.asg (.nm 1) (.bin .add (.var 1) (.lst (.cons (.tup (.cons (.mk "BadPaper" "place" "no such paper" (.var 0)) (.cons (.mk "BadPaper" "place" "no such paper" (.var 0)) (.cons (.cst (.str "BadPaper")) (.nil))))) (.nil))))) (.ret (.bin .add (.var 1) (.lst (.cons (.tup (.cons (.mk "BadDeed" "place" "no such deed" (.var 0)) (.cons (.mk "BadDeed" "place" "no such deed" (.var 0)) (.cons (.cst (.str "BadDeed")) (.nil))))) (.nil)))))))))))))))))))))))
def m__law_placed : Mf := runN 1 (["thing", "found"] : List Str).length c__law_placed
theorem okf__law_placed (W : Fx K mg) {fd : FuncData} (F : FunD K "_law_placed" "_law_placed" a__law_placed b__law_placed k__law_placed [] [] (He.ga K "_law_placed") fd) (mk_BadExpression : MkC P w K mg base true "BadExpression" "place" "no such expression") (mk_BadProgram : MkC P w K mg base true "BadProgram" "place" "no such program") (mk_BadInput : MkC P w K mg base true "BadInput" "place" "no such input") (mk_BadNet : MkC P w K mg base true "BadNet" "place" "no such net") (mk_BadLayers : MkC P w K mg base true "BadLayers" "place" "no such layers") (mk_BadPoint : MkC P w K mg base true "BadPoint" "place" "no such point") (mk_BadLine : MkC P w K mg base true "BadLine" "place" "no such polynomial") (mk_BadTable : MkC P w K mg base true "BadTable" "place" "no such table") (mk_BadClaim : MkC P w K mg base true "BadClaim" "place" "no such claim") (mk_BadTalk : MkC P w K mg base true "BadTalk" "place" "no such talk") (mk_BadCheat : MkC P w K mg base true "BadCheat" "place" "no such cheat") (mk_BadCode : MkC P w K mg base true "BadCode" "place" "no such row") (mk_BadWord : MkC P w K mg base true "BadWord" "place" "no such word") (mk_BadTree : MkC P w K mg base true "BadTree" "place" "no such tree") (mk_BadMachine : MkC P w K mg base true "BadMachine" "place" "no such machine") (mk_BadBatch : MkC P w K mg base true "BadBatch" "place" "no such batch") (mk_BadText : MkC P w K mg base true "BadText" "place" "no such text") (mk_BadBytes : MkC P w K mg base true "BadBytes" "place" "no such bytes") (mk_BadPaper : MkC P w K mg base true "BadPaper" "place" "no such paper") (mk_BadDeed : MkC P w K mg base true "BadDeed" "place" "no such deed") : FnOk P w K mg base (CX P w) 3 (He.ga K "_law_placed") fd ["thing"] (spM (ctk K mg) true 1 m__law_placed) := by
  unfold m__law_placed
  refine def_ok (M := []) (fr := true) (s := c__law_placed) (k := 2) F sc__law_placed rfl (show ∀ i ∈ ([] : List Nat), 1 ≤ i by decide) ?_
  intro cdv A outer s1 H E F0 hr
  exact st_seq (st_asg (i := 1) sc__law_placed.nd rfl (.inl rfl) (show (1 : Nat) ∉ ([] : List Nat) by decide) (sn_lst (sa_cons (sn_tup (sa_cons (sn_mk1D rfl mk_BadExpression (hr.mono (by decide)) rfl (sn_var (i := 0) rfl (.inl rfl) (show (0 : Nat) ∉ ([] : List Nat) by decide))) (sa_cons (sn_mkKD rfl mk_BadExpression (hr.mono (by decide)) rfl (sn_var (i := 0) rfl (.inl rfl) (show (0 : Nat) ∉ ([] : List Nat) by decide))) (sa_cons (sn_str) (sa_nil))))) (sa_nil)))) (st_seq (st_asg (i := 1) sc__law_placed.nd rfl (.inl rfl) (show (1 : Nat) ∉ ([] : List Nat) by decide) (sn_bin (fun _ => op_add_t rfl) (sn_var (i := 1) rfl (.inl rfl) (show (1 : Nat) ∉ ([] : List Nat) by decide)) (sn_lst (sa_cons (sn_tup (sa_cons (sn_mk1D rfl mk_BadProgram (hr.mono (by decide)) rfl (sn_var (i := 0) rfl (.inl rfl) (show (0 : Nat) ∉ ([] : List Nat) by decide))) (sa_cons (sn_mkKD rfl mk_BadProgram (hr.mono (by decide)) rfl (sn_var (i := 0) rfl (.inl rfl) (show (0 : Nat) ∉ ([] : List Nat) by decide))) (sa_cons (sn_str) (sa_nil))))) (sa_nil))))) (st_seq (st_asg (i := 1) sc__law_placed.nd rfl (.inl rfl) (show (1 : Nat) ∉ ([] : List Nat) by decide) (sn_bin (fun _ => op_add_t rfl) (sn_var (i := 1) rfl (.inl rfl) (show (1 : Nat) ∉ ([] : List Nat) by decide)) (sn_lst (sa_cons (sn_tup (sa_cons (sn_mk1D rfl mk_BadInput (hr.mono (by decide)) rfl (sn_var (i := 0) rfl (.inl rfl) (show (0 : Nat) ∉ ([] : List Nat) by decide))) (sa_cons (sn_mkKD rfl mk_BadInput (hr.mono (by decide)) rfl (sn_var (i := 0) rfl (.inl rfl) (show (0 : Nat) ∉ ([] : List Nat) by decide))) (sa_cons (sn_str) (sa_nil))))) (sa_nil))))) (st_seq (st_asg (i := 1) sc__law_placed.nd rfl (.inl rfl) (show (1 : Nat) ∉ ([] : List Nat) by decide) (sn_bin (fun _ => op_add_t rfl) (sn_var (i := 1) rfl (.inl rfl) (show (1 : Nat) ∉ ([] : List Nat) by decide)) (sn_lst (sa_cons (sn_tup (sa_cons (sn_mk1D rfl mk_BadNet (hr.mono (by decide)) rfl (sn_var (i := 0) rfl (.inl rfl) (show (0 : Nat) ∉ ([] : List Nat) by decide))) (sa_cons (sn_mkKD rfl mk_BadNet (hr.mono (by decide)) rfl (sn_var (i := 0) rfl (.inl rfl) (show (0 : Nat) ∉ ([] : List Nat) by decide))) (sa_cons (sn_str) (sa_nil))))) (sa_nil))))) (st_seq (st_asg (i := 1) sc__law_placed.nd rfl (.inl rfl) (show (1 : Nat) ∉ ([] : List Nat) by decide) (sn_bin (fun _ => op_add_t rfl) (sn_var (i := 1) rfl (.inl rfl) (show (1 : Nat) ∉ ([] : List Nat) by decide)) (sn_lst (sa_cons (sn_tup (sa_cons (sn_mk1D rfl mk_BadLayers (hr.mono (by decide)) rfl (sn_var (i := 0) rfl (.inl rfl) (show (0 : Nat) ∉ ([] : List Nat) by decide))) (sa_cons (sn_mkKD rfl mk_BadLayers (hr.mono (by decide)) rfl (sn_var (i := 0) rfl (.inl rfl) (show (0 : Nat) ∉ ([] : List Nat) by decide))) (sa_cons (sn_str) (sa_nil))))) (sa_nil))))) (st_seq (st_asg (i := 1) sc__law_placed.nd rfl (.inl rfl) (show (1 : Nat) ∉ ([] : List Nat) by decide) (sn_bin (fun _ => op_add_t rfl) (sn_var (i := 1) rfl (.inl rfl) (show (1 : Nat) ∉ ([] : List Nat) by decide)) (sn_lst (sa_cons (sn_tup (sa_cons (sn_mk1D rfl mk_BadPoint (hr.mono (by decide)) rfl (sn_var (i := 0) rfl (.inl rfl) (show (0 : Nat) ∉ ([] : List Nat) by decide))) (sa_cons (sn_mkKD rfl mk_BadPoint (hr.mono (by decide)) rfl (sn_var (i := 0) rfl (.inl rfl) (show (0 : Nat) ∉ ([] : List Nat) by decide))) (sa_cons (sn_str) (sa_nil))))) (sa_nil))))) (st_seq (st_asg (i := 1) sc__law_placed.nd rfl (.inl rfl) (show (1 : Nat) ∉ ([] : List Nat) by decide) (sn_bin (fun _ => op_add_t rfl) (sn_var (i := 1) rfl (.inl rfl) (show (1 : Nat) ∉ ([] : List Nat) by decide)) (sn_lst (sa_cons (sn_tup (sa_cons (sn_mk1D rfl mk_BadLine (hr.mono (by decide)) rfl (sn_var (i := 0) rfl (.inl rfl) (show (0 : Nat) ∉ ([] : List Nat) by decide))) (sa_cons (sn_mkKD rfl mk_BadLine (hr.mono (by decide)) rfl (sn_var (i := 0) rfl (.inl rfl) (show (0 : Nat) ∉ ([] : List Nat) by decide))) (sa_cons (sn_str) (sa_nil))))) (sa_nil))))) (st_seq (st_asg (i := 1) sc__law_placed.nd rfl (.inl rfl) (show (1 : Nat) ∉ ([] : List Nat) by decide) (sn_bin (fun _ => op_add_t rfl) (sn_var (i := 1) rfl (.inl rfl) (show (1 : Nat) ∉ ([] : List Nat) by decide)) (sn_lst (sa_cons (sn_tup (sa_cons (sn_mk1D rfl mk_BadTable (hr.mono (by decide)) rfl (sn_var (i := 0) rfl (.inl rfl) (show (0 : Nat) ∉ ([] : List Nat) by decide))) (sa_cons (sn_mkKD rfl mk_BadTable (hr.mono (by decide)) rfl (sn_var (i := 0) rfl (.inl rfl) (show (0 : Nat) ∉ ([] : List Nat) by decide))) (sa_cons (sn_str) (sa_nil))))) (sa_nil))))) (st_seq (st_asg (i := 1) sc__law_placed.nd rfl (.inl rfl) (show (1 : Nat) ∉ ([] : List Nat) by decide) (sn_bin (fun _ => op_add_t rfl) (sn_var (i := 1) rfl (.inl rfl) (show (1 : Nat) ∉ ([] : List Nat) by decide)) (sn_lst (sa_cons (sn_tup (sa_cons (sn_mk1D rfl mk_BadClaim (hr.mono (by decide)) rfl (sn_var (i := 0) rfl (.inl rfl) (show (0 : Nat) ∉ ([] : List Nat) by decide))) (sa_cons (sn_mkKD rfl mk_BadClaim (hr.mono (by decide)) rfl (sn_var (i := 0) rfl (.inl rfl) (show (0 : Nat) ∉ ([] : List Nat) by decide))) (sa_cons (sn_str) (sa_nil))))) (sa_nil))))) (st_seq (st_asg (i := 1) sc__law_placed.nd rfl (.inl rfl) (show (1 : Nat) ∉ ([] : List Nat) by decide) (sn_bin (fun _ => op_add_t rfl) (sn_var (i := 1) rfl (.inl rfl) (show (1 : Nat) ∉ ([] : List Nat) by decide)) (sn_lst (sa_cons (sn_tup (sa_cons (sn_mk1D rfl mk_BadTalk (hr.mono (by decide)) rfl (sn_var (i := 0) rfl (.inl rfl) (show (0 : Nat) ∉ ([] : List Nat) by decide))) (sa_cons (sn_mkKD rfl mk_BadTalk (hr.mono (by decide)) rfl (sn_var (i := 0) rfl (.inl rfl) (show (0 : Nat) ∉ ([] : List Nat) by decide))) (sa_cons (sn_str) (sa_nil))))) (sa_nil))))) (st_seq (st_asg (i := 1) sc__law_placed.nd rfl (.inl rfl) (show (1 : Nat) ∉ ([] : List Nat) by decide) (sn_bin (fun _ => op_add_t rfl) (sn_var (i := 1) rfl (.inl rfl) (show (1 : Nat) ∉ ([] : List Nat) by decide)) (sn_lst (sa_cons (sn_tup (sa_cons (sn_mk1D rfl mk_BadCheat (hr.mono (by decide)) rfl (sn_var (i := 0) rfl (.inl rfl) (show (0 : Nat) ∉ ([] : List Nat) by decide))) (sa_cons (sn_mkKD rfl mk_BadCheat (hr.mono (by decide)) rfl (sn_var (i := 0) rfl (.inl rfl) (show (0 : Nat) ∉ ([] : List Nat) by decide))) (sa_cons (sn_str) (sa_nil))))) (sa_nil))))) (st_seq (st_asg (i := 1) sc__law_placed.nd rfl (.inl rfl) (show (1 : Nat) ∉ ([] : List Nat) by decide) (sn_bin (fun _ => op_add_t rfl) (sn_var (i := 1) rfl (.inl rfl) (show (1 : Nat) ∉ ([] : List Nat) by decide)) (sn_lst (sa_cons (sn_tup (sa_cons (sn_mk1D rfl mk_BadCode (hr.mono (by decide)) rfl (sn_var (i := 0) rfl (.inl rfl) (show (0 : Nat) ∉ ([] : List Nat) by decide))) (sa_cons (sn_mkKD rfl mk_BadCode (hr.mono (by decide)) rfl (sn_var (i := 0) rfl (.inl rfl) (show (0 : Nat) ∉ ([] : List Nat) by decide))) (sa_cons (sn_str) (sa_nil))))) (sa_nil))))) (st_seq (st_asg (i := 1) sc__law_placed.nd rfl (.inl rfl) (show (1 : Nat) ∉ ([] : List Nat) by decide) (sn_bin (fun _ => op_add_t rfl) (sn_var (i := 1) rfl (.inl rfl) (show (1 : Nat) ∉ ([] : List Nat) by decide)) (sn_lst (sa_cons (sn_tup (sa_cons (sn_mk1D rfl mk_BadWord (hr.mono (by decide)) rfl (sn_var (i := 0) rfl (.inl rfl) (show (0 : Nat) ∉ ([] : List Nat) by decide))) (sa_cons (sn_mkKD rfl mk_BadWord (hr.mono (by decide)) rfl (sn_var (i := 0) rfl (.inl rfl) (show (0 : Nat) ∉ ([] : List Nat) by decide))) (sa_cons (sn_str) (sa_nil))))) (sa_nil))))) (st_seq (st_asg (i := 1) sc__law_placed.nd rfl (.inl rfl) (show (1 : Nat) ∉ ([] : List Nat) by decide) (sn_bin (fun _ => op_add_t rfl) (sn_var (i := 1) rfl (.inl rfl) (show (1 : Nat) ∉ ([] : List Nat) by decide)) (sn_lst (sa_cons (sn_tup (sa_cons (sn_mk1D rfl mk_BadTree (hr.mono (by decide)) rfl (sn_var (i := 0) rfl (.inl rfl) (show (0 : Nat) ∉ ([] : List Nat) by decide))) (sa_cons (sn_mkKD rfl mk_BadTree (hr.mono (by decide)) rfl (sn_var (i := 0) rfl (.inl rfl) (show (0 : Nat) ∉ ([] : List Nat) by decide))) (sa_cons (sn_str) (sa_nil))))) (sa_nil))))) (st_seq (st_asg (i := 1) sc__law_placed.nd rfl (.inl rfl) (show (1 : Nat) ∉ ([] : List Nat) by decide) (sn_bin (fun _ => op_add_t rfl) (sn_var (i := 1) rfl (.inl rfl) (show (1 : Nat) ∉ ([] : List Nat) by decide)) (sn_lst (sa_cons (sn_tup (sa_cons (sn_mk1D rfl mk_BadMachine (hr.mono (by decide)) rfl (sn_var (i := 0) rfl (.inl rfl) (show (0 : Nat) ∉ ([] : List Nat) by decide))) (sa_cons (sn_mkKD rfl mk_BadMachine (hr.mono (by decide)) rfl (sn_var (i := 0) rfl (.inl rfl) (show (0 : Nat) ∉ ([] : List Nat) by decide))) (sa_cons (sn_str) (sa_nil))))) (sa_nil))))) (st_seq (st_asg (i := 1) sc__law_placed.nd rfl (.inl rfl) (show (1 : Nat) ∉ ([] : List Nat) by decide) (sn_bin (fun _ => op_add_t rfl) (sn_var (i := 1) rfl (.inl rfl) (show (1 : Nat) ∉ ([] : List Nat) by decide)) (sn_lst (sa_cons (sn_tup (sa_cons (sn_mk1D rfl mk_BadBatch (hr.mono (by decide)) rfl (sn_var (i := 0) rfl (.inl rfl) (show (0 : Nat) ∉ ([] : List Nat) by decide))) (sa_cons (sn_mkKD rfl mk_BadBatch (hr.mono (by decide)) rfl (sn_var (i := 0) rfl (.inl rfl) (show (0 : Nat) ∉ ([] : List Nat) by decide))) (sa_cons (sn_str) (sa_nil))))) (sa_nil))))) (st_seq (st_asg (i := 1) sc__law_placed.nd rfl (.inl rfl) (show (1 : Nat) ∉ ([] : List Nat) by decide) (sn_bin (fun _ => op_add_t rfl) (sn_var (i := 1) rfl (.inl rfl) (show (1 : Nat) ∉ ([] : List Nat) by decide)) (sn_lst (sa_cons (sn_tup (sa_cons (sn_mk1D rfl mk_BadText (hr.mono (by decide)) rfl (sn_var (i := 0) rfl (.inl rfl) (show (0 : Nat) ∉ ([] : List Nat) by decide))) (sa_cons (sn_mkKD rfl mk_BadText (hr.mono (by decide)) rfl (sn_var (i := 0) rfl (.inl rfl) (show (0 : Nat) ∉ ([] : List Nat) by decide))) (sa_cons (sn_str) (sa_nil))))) (sa_nil))))) (st_seq (st_asg (i := 1) sc__law_placed.nd rfl (.inl rfl) (show (1 : Nat) ∉ ([] : List Nat) by decide) (sn_bin (fun _ => op_add_t rfl) (sn_var (i := 1) rfl (.inl rfl) (show (1 : Nat) ∉ ([] : List Nat) by decide)) (sn_lst (sa_cons (sn_tup (sa_cons (sn_mk1D rfl mk_BadBytes (hr.mono (by decide)) rfl (sn_var (i := 0) rfl (.inl rfl) (show (0 : Nat) ∉ ([] : List Nat) by decide))) (sa_cons (sn_mkKD rfl mk_BadBytes (hr.mono (by decide)) rfl (sn_var (i := 0) rfl (.inl rfl) (show (0 : Nat) ∉ ([] : List Nat) by decide))) (sa_cons (sn_str) (sa_nil))))) (sa_nil))))) (st_seq (st_asg (i := 1) sc__law_placed.nd rfl (.inl rfl) (show (1 : Nat) ∉ ([] : List Nat) by decide) (sn_bin (fun _ => op_add_t rfl) (sn_var (i := 1) rfl (.inl rfl) (show (1 : Nat) ∉ ([] : List Nat) by decide)) (sn_lst (sa_cons (sn_tup (sa_cons (sn_mk1D rfl mk_BadPaper (hr.mono (by decide)) rfl (sn_var (i := 0) rfl (.inl rfl) (show (0 : Nat) ∉ ([] : List Nat) by decide))) (sa_cons (sn_mkKD rfl mk_BadPaper (hr.mono (by decide)) rfl (sn_var (i := 0) rfl (.inl rfl) (show (0 : Nat) ∉ ([] : List Nat) by decide))) (sa_cons (sn_str) (sa_nil))))) (sa_nil))))) (st_one (st_ret (sn_bin (fun _ => op_add_t rfl) (sn_var (i := 1) rfl (.inl rfl) (show (1 : Nat) ∉ ([] : List Nat) by decide)) (sn_lst (sa_cons (sn_tup (sa_cons (sn_mk1D rfl mk_BadDeed (hr.mono (by decide)) rfl (sn_var (i := 0) rfl (.inl rfl) (show (0 : Nat) ∉ ([] : List Nat) by decide))) (sa_cons (sn_mkKD rfl mk_BadDeed (hr.mono (by decide)) rfl (sn_var (i := 0) rfl (.inl rfl) (show (0 : Nat) ∉ ([] : List Nat) by decide))) (sa_cons (sn_str) (sa_nil))))) (sa_nil))))))))))))))))))))))))
theorem ok__law_placed (W : Fx K mg) {fd : FuncData} (F : FunD K "_law_placed" "_law_placed" a__law_placed b__law_placed k__law_placed [] [] (He.ga K "_law_placed") fd) (mk_BadExpression : MkC P w K mg base true "BadExpression" "place" "no such expression") (mk_BadProgram : MkC P w K mg base true "BadProgram" "place" "no such program") (mk_BadInput : MkC P w K mg base true "BadInput" "place" "no such input") (mk_BadNet : MkC P w K mg base true "BadNet" "place" "no such net") (mk_BadLayers : MkC P w K mg base true "BadLayers" "place" "no such layers") (mk_BadPoint : MkC P w K mg base true "BadPoint" "place" "no such point") (mk_BadLine : MkC P w K mg base true "BadLine" "place" "no such polynomial") (mk_BadTable : MkC P w K mg base true "BadTable" "place" "no such table") (mk_BadClaim : MkC P w K mg base true "BadClaim" "place" "no such claim") (mk_BadTalk : MkC P w K mg base true "BadTalk" "place" "no such talk") (mk_BadCheat : MkC P w K mg base true "BadCheat" "place" "no such cheat") (mk_BadCode : MkC P w K mg base true "BadCode" "place" "no such row") (mk_BadWord : MkC P w K mg base true "BadWord" "place" "no such word") (mk_BadTree : MkC P w K mg base true "BadTree" "place" "no such tree") (mk_BadMachine : MkC P w K mg base true "BadMachine" "place" "no such machine") (mk_BadBatch : MkC P w K mg base true "BadBatch" "place" "no such batch") (mk_BadText : MkC P w K mg base true "BadText" "place" "no such text") (mk_BadBytes : MkC P w K mg base true "BadBytes" "place" "no such bytes") (mk_BadPaper : MkC P w K mg base true "BadPaper" "place" "no such paper") (mk_BadDeed : MkC P w K mg base true "BadDeed" "place" "no such deed") : DF P w K mg base 3 "_law_placed" ["thing"] (spM (ctk K mg) true 1 m__law_placed) := ⟨fd, okf__law_placed W F mk_BadExpression mk_BadProgram mk_BadInput mk_BadNet mk_BadLayers mk_BadPoint mk_BadLine mk_BadTable mk_BadClaim mk_BadTalk mk_BadCheat mk_BadCode mk_BadWord mk_BadTree mk_BadMachine mk_BadBatch mk_BadText mk_BadBytes mk_BadPaper mk_BadDeed, F.kp, F.bindsN fun _ _ _ _ _ _ us hl => match us, hl with | [_], _ => rfl⟩
/-! ### _law_right -/
theorem sc__law_right : FnScope ["thing", "one", "other", "name"] ["thing"] k__law_right := ⟨rfl, rfl, rfl, by decide +kernel, rfl, by decide +kernel, by decide +kernel⟩
def c__law_right : S := .seq (.fo (.tp (.cons (.nm 1) (.cons (.nm 2) (.cons (.nm 3) (.nil))))) (.itr (.call m__law_valued true (.cons (.var 0) (.nil)))) (.seq (.ife (.or (.cmp .ne (.call m__law_kinds true (.cons (.var 1) (.nil))) (.lst (.cons (.var 3) (.cons (.cst (.str "base")) (.cons (.cst (.str "value")) (.nil)))))) (.cmp .ne (.call m__law_kinds true (.cons (.var 2) (.nil))) (.lst (.cons (.var 3) (.cons (.cst (.str "base")) (.cons (.cst (.str "value")) (.nil))))))) (.ret (.cst (.bl false))) (.skip)) (.ife (.or (.cmp .ne (.fld cs_value (.var 1) "value") (.var 0)) (.cmp .ne (.fld cs_value (.var 2) "value") (.var 0))) (.ret (.cst (.bl false))) (.skip)))) (.seq (.fo (.tp (.cons (.nm 1) (.cons (.nm 2) (.cons (.nm 3) (.nil))))) (.itr (.call m__law_placed true (.cons (.var 0) (.nil)))) (.seq (.ife (.or (.cmp .ne (.call m__law_kinds true (.cons (.var 1) (.nil))) (.lst (.cons (.var 3) (.cons (.cst (.str "base")) (.cons (.cst (.str "value")) (.nil)))))) (.cmp .ne (.call m__law_kinds true (.cons (.var 2) (.nil))) (.lst (.cons (.var 3) (.cons (.cst (.str "base")) (.cons (.cst (.str "value")) (.nil))))))) (.ret (.cst (.bl false))) (.skip)) (.ife (.or (.cmp .ne (.fld cs_place (.var 1) "place") (.var 0)) (.cmp .ne (.fld cs_place (.var 2) "place") (.var 0))) (.ret (.cst (.bl false))) (.skip)))) (.seq (.fo (.nm 1) (.itr (.tup (.cons (.mk "NoSuch" "value" "nothing so called" (.var 0)) (.cons (.mk "NoSuch" "value" "nothing so called" (.var 0)) (.nil))))) (.ife (.or (.cmp .ne (.call m__law_kinds true (.cons (.var 1) (.nil))) (.lst (.cons (.cst (.str "NoSuch")) (.cons (.cst (.str "lookup")) (.nil))))) (.cmp .ne (.fld cs_value (.var 1) "value") (.var 0))) (.ret (.cst (.bl false))) (.skip))) (.seq (.fo (.nm 1) (.itr (.tup (.cons (.mk "TooMany" "most" "too many" (.var 0)) (.cons (.mk "TooMany" "most" "too many" (.var 0)) (.nil))))) (.ife (.or (.cmp .ne (.call m__law_kinds true (.cons (.var 1) (.nil))) (.lst (.cons (.cst (.str "TooMany")) (.cons (.cst (.str "overflow")) (.nil))))) (.cmp .ne (.fld cs_most (.var 1) "most") (.var 0))) (.ret (.cst (.bl false))) (.skip))) (.ret (.cst (.bl true))))))
def m__law_right : Mf := runN 1 (["thing", "one", "other", "name"] : List Str).length c__law_right
theorem okf__law_right (W : Fx K mg) {fd : FuncData} (F : FunD K "_law_right" "_law_right" a__law_right b__law_right k__law_right [] [] (He.ga K "_law_right") fd) (D__law_kinds : DF P w K mg base 1 "_law_kinds" ["e"] (spM (ctk K mg) true 1 m__law_kinds)) (D__law_valued : DF P w K mg base 3 "_law_valued" ["thing"] (spM (ctk K mg) true 1 m__law_valued)) (D__law_placed : DF P w K mg base 3 "_law_placed" ["thing"] (spM (ctk K mg) true 1 m__law_placed)) (mk_TooMany : MkC P w K mg base false "TooMany" "most" "too many") (mk_NoSuch : MkC P w K mg base true "NoSuch" "value" "nothing so called") : FnOk P w K mg base (CX P w) 4 (He.ga K "_law_right") fd ["thing"] (spM (ctk K mg) false 1 m__law_right) := by
  unfold m__law_right
  refine def_ok (M := []) (fr := false) (s := c__law_right) (k := 3) F sc__law_right rfl (show ∀ i ∈ ([] : List Nat), 1 ≤ i by decide) ?_
  intro cdv A outer s1 H E F0 hr
  exact st_seq (st_for (g := .tp (.cons (.nm 1) (.cons (.nm 2) (.cons (.nm 3) (.nil))))) rfl PassesOwn.never rfl (si_itr rfl (sn_callD D__law_valued (hr.mono (by decide)) rfl (W.glo "_law_valued" rfl) rfl runN_len (sa_cons (sn_var (i := 0) rfl (.inl rfl) (show (0 : Nat) ∉ ([] : List Nat) by decide)) (sa_nil)))) (gv_tp rfl (gv_cons (gv_nm (i := 1) sc__law_right.nd rfl (.inl rfl)) (gv_cons (gv_nm (i := 2) sc__law_right.nd rfl (.inl rfl)) (gv_cons (gv_nm (i := 3) sc__law_right.nd rfl (.inl rfl)) (gv_nil))))) (st_seq (st_if (tv_bool (tw_or (tv_cmp (fun _ => op_ne_t rfl hr.units) (sn_callD D__law_kinds (hr.mono (by decide)) rfl (W.glo "_law_kinds" rfl) rfl runN_len (sa_cons (sn_var (i := 1) rfl (.inl rfl) (show (1 : Nat) ∉ ([] : List Nat) by decide)) (sa_nil))) (sn_lst (sa_cons (sn_var (i := 3) rfl (.inl rfl) (show (3 : Nat) ∉ ([] : List Nat) by decide)) (sa_cons (sn_str) (sa_cons (sn_str) (sa_nil)))))) (tw_one (tv_cmp (fun _ => op_ne_t rfl hr.units) (sn_callD D__law_kinds (hr.mono (by decide)) rfl (W.glo "_law_kinds" rfl) rfl runN_len (sa_cons (sn_var (i := 2) rfl (.inl rfl) (show (2 : Nat) ∉ ([] : List Nat) by decide)) (sa_nil))) (sn_lst (sa_cons (sn_var (i := 3) rfl (.inl rfl) (show (3 : Nat) ∉ ([] : List Nat) by decide)) (sa_cons (sn_str) (sa_cons (sn_str) (sa_nil))))))))) (st_one (st_ret (sn_bl))) (st_skip)) (st_one (st_if (tv_bool (tw_or (tv_cmp (fun _ => op_ne_t rfl hr.units) (sn_fld rfl W.xf_value (sn_var (i := 1) rfl (.inl rfl) (show (1 : Nat) ∉ ([] : List Nat) by decide))) (sn_var (i := 0) rfl (.inl rfl) (show (0 : Nat) ∉ ([] : List Nat) by decide))) (tw_one (tv_cmp (fun _ => op_ne_t rfl hr.units) (sn_fld rfl W.xf_value (sn_var (i := 2) rfl (.inl rfl) (show (2 : Nat) ∉ ([] : List Nat) by decide))) (sn_var (i := 0) rfl (.inl rfl) (show (0 : Nat) ∉ ([] : List Nat) by decide)))))) (st_one (st_ret (sn_bl))) (st_skip)))) (hM := (show ∀ i ∈ gVars (.tp (.cons (.nm 1) (.cons (.nm 2) (.cons (.nm 3) (.nil))))), i ∉ ([] : List Nat) by decide))) (st_seq (st_for (g := .tp (.cons (.nm 1) (.cons (.nm 2) (.cons (.nm 3) (.nil))))) rfl PassesOwn.never rfl (si_itr rfl (sn_callD D__law_placed (hr.mono (by decide)) rfl (W.glo "_law_placed" rfl) rfl runN_len (sa_cons (sn_var (i := 0) rfl (.inl rfl) (show (0 : Nat) ∉ ([] : List Nat) by decide)) (sa_nil)))) (gv_tp rfl (gv_cons (gv_nm (i := 1) sc__law_right.nd rfl (.inl rfl)) (gv_cons (gv_nm (i := 2) sc__law_right.nd rfl (.inl rfl)) (gv_cons (gv_nm (i := 3) sc__law_right.nd rfl (.inl rfl)) (gv_nil))))) (st_seq (st_if (tv_bool (tw_or (tv_cmp (fun _ => op_ne_t rfl hr.units) (sn_callD D__law_kinds (hr.mono (by decide)) rfl (W.glo "_law_kinds" rfl) rfl runN_len (sa_cons (sn_var (i := 1) rfl (.inl rfl) (show (1 : Nat) ∉ ([] : List Nat) by decide)) (sa_nil))) (sn_lst (sa_cons (sn_var (i := 3) rfl (.inl rfl) (show (3 : Nat) ∉ ([] : List Nat) by decide)) (sa_cons (sn_str) (sa_cons (sn_str) (sa_nil)))))) (tw_one (tv_cmp (fun _ => op_ne_t rfl hr.units) (sn_callD D__law_kinds (hr.mono (by decide)) rfl (W.glo "_law_kinds" rfl) rfl runN_len (sa_cons (sn_var (i := 2) rfl (.inl rfl) (show (2 : Nat) ∉ ([] : List Nat) by decide)) (sa_nil))) (sn_lst (sa_cons (sn_var (i := 3) rfl (.inl rfl) (show (3 : Nat) ∉ ([] : List Nat) by decide)) (sa_cons (sn_str) (sa_cons (sn_str) (sa_nil))))))))) (st_one (st_ret (sn_bl))) (st_skip)) (st_one (st_if (tv_bool (tw_or (tv_cmp (fun _ => op_ne_t rfl hr.units) (sn_fld rfl W.xf_place (sn_var (i := 1) rfl (.inl rfl) (show (1 : Nat) ∉ ([] : List Nat) by decide))) (sn_var (i := 0) rfl (.inl rfl) (show (0 : Nat) ∉ ([] : List Nat) by decide))) (tw_one (tv_cmp (fun _ => op_ne_t rfl hr.units) (sn_fld rfl W.xf_place (sn_var (i := 2) rfl (.inl rfl) (show (2 : Nat) ∉ ([] : List Nat) by decide))) (sn_var (i := 0) rfl (.inl rfl) (show (0 : Nat) ∉ ([] : List Nat) by decide)))))) (st_one (st_ret (sn_bl))) (st_skip)))) (hM := (show ∀ i ∈ gVars (.tp (.cons (.nm 1) (.cons (.nm 2) (.cons (.nm 3) (.nil))))), i ∉ ([] : List Nat) by decide))) (st_seq (st_for (g := .nm 1) rfl PassesOwn.never rfl (si_itr rfl (sn_tup (sa_cons (sn_mk1D rfl mk_NoSuch (hr.mono (by decide)) rfl (sn_var (i := 0) rfl (.inl rfl) (show (0 : Nat) ∉ ([] : List Nat) by decide))) (sa_cons (sn_mkKD rfl mk_NoSuch (hr.mono (by decide)) rfl (sn_var (i := 0) rfl (.inl rfl) (show (0 : Nat) ∉ ([] : List Nat) by decide))) (sa_nil))))) (gv_nm (i := 1) sc__law_right.nd rfl (.inl rfl)) (st_one (st_if (tv_bool (tw_or (tv_cmp (fun _ => op_ne_t rfl hr.units) (sn_callD D__law_kinds (hr.mono (by decide)) rfl (W.glo "_law_kinds" rfl) rfl runN_len (sa_cons (sn_var (i := 1) rfl (.inl rfl) (show (1 : Nat) ∉ ([] : List Nat) by decide)) (sa_nil))) (sn_lst (sa_cons (sn_str) (sa_cons (sn_str) (sa_nil))))) (tw_one (tv_cmp (fun _ => op_ne_t rfl hr.units) (sn_fld rfl W.xf_value (sn_var (i := 1) rfl (.inl rfl) (show (1 : Nat) ∉ ([] : List Nat) by decide))) (sn_var (i := 0) rfl (.inl rfl) (show (0 : Nat) ∉ ([] : List Nat) by decide)))))) (st_one (st_ret (sn_bl))) (st_skip))) (hM := (show ∀ i ∈ gVars (.nm 1), i ∉ ([] : List Nat) by decide))) (st_seq (st_for (g := .nm 1) rfl PassesOwn.never rfl (si_itr rfl (sn_tup (sa_cons (sn_mk1D rfl mk_TooMany (hr.mono (by decide)) rfl (sn_var (i := 0) rfl (.inl rfl) (show (0 : Nat) ∉ ([] : List Nat) by decide))) (sa_cons (sn_mkKD rfl mk_TooMany (hr.mono (by decide)) rfl (sn_var (i := 0) rfl (.inl rfl) (show (0 : Nat) ∉ ([] : List Nat) by decide))) (sa_nil))))) (gv_nm (i := 1) sc__law_right.nd rfl (.inl rfl)) (st_one (st_if (tv_bool (tw_or (tv_cmp (fun _ => op_ne_t rfl hr.units) (sn_callD D__law_kinds (hr.mono (by decide)) rfl (W.glo "_law_kinds" rfl) rfl runN_len (sa_cons (sn_var (i := 1) rfl (.inl rfl) (show (1 : Nat) ∉ ([] : List Nat) by decide)) (sa_nil))) (sn_lst (sa_cons (sn_str) (sa_cons (sn_str) (sa_nil))))) (tw_one (tv_cmp (fun _ => op_ne_t rfl hr.units) (sn_fld rfl W.xf_most (sn_var (i := 1) rfl (.inl rfl) (show (1 : Nat) ∉ ([] : List Nat) by decide))) (sn_var (i := 0) rfl (.inl rfl) (show (0 : Nat) ∉ ([] : List Nat) by decide)))))) (st_one (st_ret (sn_bl))) (st_skip))) (hM := (show ∀ i ∈ gVars (.nm 1), i ∉ ([] : List Nat) by decide))) (st_one (st_ret (sn_bl))))))
theorem ok__law_right (W : Fx K mg) {fd : FuncData} (F : FunD K "_law_right" "_law_right" a__law_right b__law_right k__law_right [] [] (He.ga K "_law_right") fd) (D__law_kinds : DF P w K mg base 1 "_law_kinds" ["e"] (spM (ctk K mg) true 1 m__law_kinds)) (D__law_valued : DF P w K mg base 3 "_law_valued" ["thing"] (spM (ctk K mg) true 1 m__law_valued)) (D__law_placed : DF P w K mg base 3 "_law_placed" ["thing"] (spM (ctk K mg) true 1 m__law_placed)) (mk_TooMany : MkC P w K mg base false "TooMany" "most" "too many") (mk_NoSuch : MkC P w K mg base true "NoSuch" "value" "nothing so called") : DF P w K mg base 4 "_law_right" ["thing"] (spM (ctk K mg) false 1 m__law_right) := ⟨fd, okf__law_right W F D__law_kinds D__law_valued D__law_placed mk_TooMany mk_NoSuch, F.kp, F.bindsN fun _ _ _ _ _ _ us hl => match us, hl with | [_], _ => rfl⟩
/-! ### law -/
theorem sc_law : FnScope ["script", "k", "cell", "state", "number", "some", "others", "rows", "thing", "made", "e", "one", "other", "name"] ["script"] k_law := ⟨rfl, rfl, rfl, by decide +kernel, rfl, by decide +kernel, by decide +kernel⟩
def c_law : S := .seq (.fo (.tp (.cons (.nm 1) (.cons (.nm 2) (.nil)))) (.enm (.bin .add (.slc (.var 0) (.nil) (.cons (.cst (.int (4))) .nil)) (.lst (.cons (.sum (.var 0)) (.nil))))) (.seq (.asgo 3 (.call m__law_draw true (.cons (.var 2) (.cons (.var 1) (.nil))))) (.seq (.asg (.nm 4) (.cio m__law_digit false 3 (.cons (.cst (.int (100000))) (.nil)))) (.seq (.asg (.nm 5) (.lst (.cons (.var 4) (.cons (.bin .sub (.cst (.int (0))) (.var 4)) (.cons (.bin .mul (.cst (.str "ab")) (.bin .mod (.var 4) (.cst (.int (50))))) (.cons (.tup (.cons (.cst (.str "atom")) (.cons (.tup (.cons (.cst (.int (0))) (.cons (.var 4) (.nil)))) (.nil)))) (.cons (.cst .non) (.cons (.tup (.cons (.bin .pow (.cst (.int (10))) (.cst (.int (30)))) (.cons (.tup (.nil)) (.nil)))) (.cons (.bin .mul (.tup (.cons (.var 4) (.nil))) (.cst (.int (9)))) (.nil)))))))))) (.ife (.or (.not (.call m__law_right false (.cons (.idx (.var 5) (.cio m__law_digit false 3 (.cons (.cst (.int (7))) (.nil)))) (.nil)))) (.not (.call m__law_right false (.cons (.bin .pow (.bin .pow (.bin .pow (.cst (.int (10))) (.cst (.int (50)))) (.cst (.int (50)))) (.cst (.int (2)))) (.nil))))) (.ret (.cst (.bl false))) (.skip)))))) (.seq (.asg (.nm 5) (.lst (.cons (.mk "BadPrime" "value" "no such prime" (.cst .non)) (.cons (.mk "BadNumber" "value" "no such number" (.cst .non)) (.cons (.mk "BadName" "value" "no such name" (.cst .non)) (.cons (.mk "BadRemainder" "value" "no such remainder" (.cst .non)) (.cons (.mk "NoSuch" "value" "nothing so called" (.cst .non)) (.nil)))))))) (.seq (.asg (.nm 6) (.lst (.cons (.mk "BadExpression" "place" "no such expression" (.cst .non)) (.cons (.mk "BadProgram" "place" "no such program" (.cst .non)) (.cons (.mk "BadInput" "place" "no such input" (.cst .non)) (.cons (.mk "BadNet" "place" "no such net" (.cst .non)) (.cons (.mk "BadLayers" "place" "no such layers" (.cst .non)) (.cons (.mk "BadPoint" "place" "no such point" (.cst .non)) (.cons (.mk "BadLine" "place" "no such polynomial" (.cst .non)) (.nil)))))))))) (.seq (.asg (.nm 6) (.bin .add (.var 6) (.lst (.cons (.mk "BadTable" "place" "no such table" (.cst .non)) (.cons (.mk "BadClaim" "place" "no such claim" (.cst .non)) (.cons (.mk "BadTalk" "place" "no such talk" (.cst .non)) (.cons (.mk "BadCheat" "place" "no such cheat" (.cst .non)) (.cons (.mk "BadCode" "place" "no such row" (.cst .non)) (.cons (.mk "BadWord" "place" "no such word" (.cst .non)) (.cons (.mk "BadTree" "place" "no such tree" (.cst .non)) (.cons (.mk "BadMachine" "place" "no such machine" (.cst .non)) (.cons (.mk "BadBatch" "place" "no such batch" (.cst .non)) (.cons (.mk "BadText" "place" "no such text" (.cst .non)) (.cons (.mk "BadBytes" "place" "no such bytes" (.cst .non)) (.cons (.mk "BadPaper" "place" "no such paper" (.cst .non)) (.cons (.mk "BadDeed" "place" "no such deed" (.cst .non)) (.nil))))))))))))))))) (.seq (.ife (.or (.cmp .ne (.lc [10] (.nm 10) (.itr (.var 5)) (.nil) (.fld cs_value (.var 10) "value")) (.bin .mul (.lst (.cons (.cst .non) (.nil))) (.cst (.int (5))))) (.cmp .ne (.lc [10] (.nm 10) (.itr (.var 6)) (.nil) (.fld cs_place (.var 10) "place")) (.bin .mul (.lst (.cons (.cst .non) (.nil))) (.cst (.int (20)))))) (.ret (.cst (.bl false))) (.skip)) (.seq (.asgo 7 (.lst (.nil))) (.seq (.fo (.nm 8) (.itr (.tup (.cons (.cst (.str "zqzq")) (.cons (.bin .pow (.cst (.int (10))) (.cst (.int (30)))) (.cons (.cst (.int (70707))) (.cons (.cst (.str "")) (.cons (.cst (.str "deed")) (.nil)))))))) (.seq (.asg (.nm 9) (.bin .add (.lc [11, 12, 13] (.tp (.cons (.nm 11) (.cons (.nm 12) (.cons (.nm 13) (.nil))))) (.itr (.bin .add (.call m__law_valued true (.cons (.var 8) (.nil))) (.call m__law_placed true (.cons (.var 8) (.nil))))) (.nil) (.var 11)) (.lst (.cons (.mk "NoSuch" "value" "nothing so called" (.var 8)) (.cons (.mk "TooMany" "most" "too many" (.var 8)) (.nil)))))) (.app 7 (.lc [10] (.nm 10) (.itr (.var 9)) (.nil) (.str cs_all (.var 10)))))) (.ret (.cmp .eq (.bor 7) (.bin .mul (.lst (.cons (.idx (.bor 7) (.cst (.int (0)))) (.nil))) (.cst (.int (5))))))))))))
def m_law : Mf := runN 1 (["script", "k", "cell", "state", "number", "some", "others", "rows", "thing", "made", "e", "one", "other", "name"] : List Str).length c_law
theorem okf_law (W : Fx K mg) {fd : FuncData} (F : FunD K "law" "law" a_law b_law k_law [] [] (He.ga K "law") fd) (D__law_draw : DF P w K mg base 1 "_law_draw" ["cell", "k"] (spM (ctk K mg) true 2 m__law_draw)) (D__law_digit : DF P w K mg base 2 "_law_digit" ["state", "below"] (spIo (ctk K mg) 2 m__law_digit)) (D__law_valued : DF P w K mg base 3 "_law_valued" ["thing"] (spM (ctk K mg) true 1 m__law_valued)) (D__law_placed : DF P w K mg base 3 "_law_placed" ["thing"] (spM (ctk K mg) true 1 m__law_placed)) (D__law_right : DF P w K mg base 4 "_law_right" ["thing"] (spM (ctk K mg) false 1 m__law_right)) (mk_BadPrime : MkC P w K mg base true "BadPrime" "value" "no such prime") (mk_BadNumber : MkC P w K mg base true "BadNumber" "value" "no such number") (mk_BadName : MkC P w K mg base true "BadName" "value" "no such name") (mk_BadRemainder : MkC P w K mg base true "BadRemainder" "value" "no such remainder") (mk_BadExpression : MkC P w K mg base true "BadExpression" "place" "no such expression") (mk_BadProgram : MkC P w K mg base true "BadProgram" "place" "no such program") (mk_BadInput : MkC P w K mg base true "BadInput" "place" "no such input") (mk_BadNet : MkC P w K mg base true "BadNet" "place" "no such net") (mk_BadLayers : MkC P w K mg base true "BadLayers" "place" "no such layers") (mk_BadPoint : MkC P w K mg base true "BadPoint" "place" "no such point") (mk_BadLine : MkC P w K mg base true "BadLine" "place" "no such polynomial") (mk_BadTable : MkC P w K mg base true "BadTable" "place" "no such table") (mk_BadClaim : MkC P w K mg base true "BadClaim" "place" "no such claim") (mk_BadTalk : MkC P w K mg base true "BadTalk" "place" "no such talk") (mk_BadCheat : MkC P w K mg base true "BadCheat" "place" "no such cheat") (mk_BadCode : MkC P w K mg base true "BadCode" "place" "no such row") (mk_BadWord : MkC P w K mg base true "BadWord" "place" "no such word") (mk_BadTree : MkC P w K mg base true "BadTree" "place" "no such tree") (mk_BadMachine : MkC P w K mg base true "BadMachine" "place" "no such machine") (mk_BadBatch : MkC P w K mg base true "BadBatch" "place" "no such batch") (mk_BadText : MkC P w K mg base true "BadText" "place" "no such text") (mk_BadBytes : MkC P w K mg base true "BadBytes" "place" "no such bytes") (mk_BadPaper : MkC P w K mg base true "BadPaper" "place" "no such paper") (mk_BadDeed : MkC P w K mg base true "BadDeed" "place" "no such deed") (mk_TooMany : MkC P w K mg base false "TooMany" "most" "too many") (mk_NoSuch : MkC P w K mg base true "NoSuch" "value" "nothing so called") : FnOk P w K mg base (CX P w) 5 (He.ga K "law") fd ["script"] (spM (ctk K mg) false 1 m_law) := by
  unfold m_law
  refine def_ok (M := [3, 7]) (fr := false) (s := c_law) (k := 4) F sc_law rfl (show ∀ i ∈ ([3, 7] : List Nat), 1 ≤ i by decide) ?_
  intro cdv A outer s1 H E F0 hr
  exact st_seq (st_for (g := .tp (.cons (.nm 1) (.cons (.nm 2) (.nil)))) rfl PassesOwn.never rfl (si_enm rfl rfl (W.free "enumerate" rfl) (sn_bin (fun _ => op_add_t rfl) (sn_slc rfl (sn_var (i := 0) rfl (.inl rfl) (show (0 : Nat) ∉ ([3, 7] : List Nat) by decide)) (sl_no) (sl_at (sn_int))) (sn_lst (sa_cons (sn_sum rfl rfl rfl (W.free "sum" rfl) (sn_var (i := 0) rfl (.inl rfl) (show (0 : Nat) ∉ ([3, 7] : List Nat) by decide))) (sa_nil))))) (gv_tp rfl (gv_cons (gv_nm (i := 1) sc_law.nd rfl (.inl rfl)) (gv_cons (gv_nm (i := 2) sc_law.nd rfl (.inl rfl)) (gv_nil)))) (st_seq (st_asgo (i := 3) sc_law.nd rfl (.inl rfl) (show (3 : Nat) ∈ ([3, 7] : List Nat) by decide) (sn_callD D__law_draw (hr.mono (by decide)) rfl (W.glo "_law_draw" rfl) rfl runN_len (sa_cons (sn_var (i := 2) rfl (.inl rfl) (show (2 : Nat) ∉ ([3, 7] : List Nat) by decide)) (sa_cons (sn_var (i := 1) rfl (.inl rfl) (show (1 : Nat) ∉ ([3, 7] : List Nat) by decide)) (sa_nil))))) (st_seq (st_asg (i := 4) sc_law.nd rfl (.inl rfl) (show (4 : Nat) ∉ ([3, 7] : List Nat) by decide) (sn_cioD D__law_digit (hr.mono (by decide)) rfl (W.glo "_law_digit" rfl) rfl runIo_len rfl (.inl rfl) (show (3 : Nat) ∈ ([3, 7] : List Nat) by decide) (sa_cons (sn_int) (sa_nil)))) (st_seq (st_asg (i := 5) sc_law.nd rfl (.inl rfl) (show (5 : Nat) ∉ ([3, 7] : List Nat) by decide) (sn_lst (sa_cons (sn_var (i := 4) rfl (.inl rfl) (show (4 : Nat) ∉ ([3, 7] : List Nat) by decide)) (sa_cons (sn_bin (fun _ => op_sub_t rfl) (sn_int) (sn_var (i := 4) rfl (.inl rfl) (show (4 : Nat) ∉ ([3, 7] : List Nat) by decide))) (sa_cons (sn_bin (fun _ => op_mul_t rfl) (sn_str) (sn_bin (fun _ => op_mod_t rfl) (sn_var (i := 4) rfl (.inl rfl) (show (4 : Nat) ∉ ([3, 7] : List Nat) by decide)) (sn_int))) (sa_cons (sn_tup (sa_cons (sn_str) (sa_cons (sn_tup (sa_cons (sn_int) (sa_cons (sn_var (i := 4) rfl (.inl rfl) (show (4 : Nat) ∉ ([3, 7] : List Nat) by decide)) (sa_nil)))) (sa_nil)))) (sa_cons (sn_non) (sa_cons (sn_tup (sa_cons (sn_bin (fun _ => op_pow_t rfl) (sn_int) (sn_int)) (sa_cons (sn_tup (sa_nil)) (sa_nil)))) (sa_cons (sn_bin (fun _ => op_mul_t rfl) (sn_tup (sa_cons (sn_var (i := 4) rfl (.inl rfl) (show (4 : Nat) ∉ ([3, 7] : List Nat) by decide)) (sa_nil))) (sn_int)) (sa_nil)))))))))) (st_one (st_if (tv_bool (tw_or (tv_not (tv_gen rfl (sn_callD D__law_right (hr.mono (by decide)) rfl (W.glo "_law_right" rfl) rfl runN_len (sa_cons (sn_idx rfl (sn_var (i := 5) rfl (.inl rfl) (show (5 : Nat) ∉ ([3, 7] : List Nat) by decide)) (sn_cioD D__law_digit (hr.mono (by decide)) rfl (W.glo "_law_digit" rfl) rfl runIo_len rfl (.inl rfl) (show (3 : Nat) ∈ ([3, 7] : List Nat) by decide) (sa_cons (sn_int) (sa_nil)))) (sa_nil))))) (tw_one (tv_not (tv_gen rfl (sn_callD D__law_right (hr.mono (by decide)) rfl (W.glo "_law_right" rfl) rfl runN_len (sa_cons (sn_bin (fun _ => op_pow_t rfl) (sn_bin (fun _ => op_pow_t rfl) (sn_bin (fun _ => op_pow_t rfl) (sn_int) (sn_int)) (sn_int)) (sn_int)) (sa_nil)))))))) (st_one (st_ret (sn_bl))) (st_skip)))))) (hM := (show ∀ i ∈ gVars (.tp (.cons (.nm 1) (.cons (.nm 2) (.nil)))), i ∉ ([3, 7] : List Nat) by decide))) (st_seq (st_asg (i := 5) sc_law.nd rfl (.inl rfl) (show (5 : Nat) ∉ ([3, 7] : List Nat) by decide) (sn_lst (sa_cons (sn_mk0D rfl mk_BadPrime (hr.mono (by decide)) rfl) (sa_cons (sn_mk0D rfl mk_BadNumber (hr.mono (by decide)) rfl) (sa_cons (sn_mk0D rfl mk_BadName (hr.mono (by decide)) rfl) (sa_cons (sn_mk0D rfl mk_BadRemainder (hr.mono (by decide)) rfl) (sa_cons (sn_mk0D rfl mk_NoSuch (hr.mono (by decide)) rfl) (sa_nil)))))))) (st_seq (st_asg (i := 6) sc_law.nd rfl (.inl rfl) (show (6 : Nat) ∉ ([3, 7] : List Nat) by decide) (sn_lst (sa_cons (sn_mk0D rfl mk_BadExpression (hr.mono (by decide)) rfl) (sa_cons (sn_mk0D rfl mk_BadProgram (hr.mono (by decide)) rfl) (sa_cons (sn_mk0D rfl mk_BadInput (hr.mono (by decide)) rfl) (sa_cons (sn_mk0D rfl mk_BadNet (hr.mono (by decide)) rfl) (sa_cons (sn_mk0D rfl mk_BadLayers (hr.mono (by decide)) rfl) (sa_cons (sn_mk0D rfl mk_BadPoint (hr.mono (by decide)) rfl) (sa_cons (sn_mk0D rfl mk_BadLine (hr.mono (by decide)) rfl) (sa_nil)))))))))) (st_seq (st_asg (i := 6) sc_law.nd rfl (.inl rfl) (show (6 : Nat) ∉ ([3, 7] : List Nat) by decide) (sn_bin (fun _ => op_add_t rfl) (sn_var (i := 6) rfl (.inl rfl) (show (6 : Nat) ∉ ([3, 7] : List Nat) by decide)) (sn_lst (sa_cons (sn_mk0D rfl mk_BadTable (hr.mono (by decide)) rfl) (sa_cons (sn_mk0D rfl mk_BadClaim (hr.mono (by decide)) rfl) (sa_cons (sn_mk0D rfl mk_BadTalk (hr.mono (by decide)) rfl) (sa_cons (sn_mk0D rfl mk_BadCheat (hr.mono (by decide)) rfl) (sa_cons (sn_mk0D rfl mk_BadCode (hr.mono (by decide)) rfl) (sa_cons (sn_mk0D rfl mk_BadWord (hr.mono (by decide)) rfl) (sa_cons (sn_mk0D rfl mk_BadTree (hr.mono (by decide)) rfl) (sa_cons (sn_mk0D rfl mk_BadMachine (hr.mono (by decide)) rfl) (sa_cons (sn_mk0D rfl mk_BadBatch (hr.mono (by decide)) rfl) (sa_cons (sn_mk0D rfl mk_BadText (hr.mono (by decide)) rfl) (sa_cons (sn_mk0D rfl mk_BadBytes (hr.mono (by decide)) rfl) (sa_cons (sn_mk0D rfl mk_BadPaper (hr.mono (by decide)) rfl) (sa_cons (sn_mk0D rfl mk_BadDeed (hr.mono (by decide)) rfl) (sa_nil))))))))))))))))) (st_seq (st_if (tv_bool (tw_or (tv_cmp (fun _ => op_ne_t rfl hr.units) (sn_lc (own := [("e", 10)]) (g := .nm 10) rfl rfl sc_law.nd (si_itr rfl (sn_var (i := 5) rfl (.inl rfl) (show (5 : Nat) ∉ ([3, 7] : List Nat) by decide))) (show BlkOk ["script", "k", "cell", "state", "number", "some", "others", "rows", "thing", "made", "e", "one", "other", "name"] k_law _ [("e", 10)] from ⟨by rfl, by decide +kernel, by decide +kernel, by decide +kernel, by decide +kernel⟩) (fun _ _ _ _ _ => gv_nm (i := 10) sc_law.nd rfl (.inl rfl)) (fun _ _ _ _ _ _ => sq_nil) (fun _ _ _ _ _ _ => sn_fld rfl W.xf_value (sn_var (i := 10) rfl (.inl rfl) (show (10 : Nat) ∉ ([3, 7] : List Nat) by decide))) (hM := show ∀ i ∈ ([("e", 10)] : List (Str × Nat)).map (·.2), i ∉ ([3, 7] : List Nat) by decide)) (sn_bin (fun _ => op_mul_t rfl) (sn_lst (sa_cons (sn_non) (sa_nil))) (sn_int))) (tw_one (tv_cmp (fun _ => op_ne_t rfl hr.units) (sn_lc (own := [("e", 10)]) (g := .nm 10) rfl rfl sc_law.nd (si_itr rfl (sn_var (i := 6) rfl (.inl rfl) (show (6 : Nat) ∉ ([3, 7] : List Nat) by decide))) (show BlkOk ["script", "k", "cell", "state", "number", "some", "others", "rows", "thing", "made", "e", "one", "other", "name"] k_law _ [("e", 10)] from ⟨by rfl, by decide +kernel, by decide +kernel, by decide +kernel, by decide +kernel⟩) (fun _ _ _ _ _ => gv_nm (i := 10) sc_law.nd rfl (.inl rfl)) (fun _ _ _ _ _ _ => sq_nil) (fun _ _ _ _ _ _ => sn_fld rfl W.xf_place (sn_var (i := 10) rfl (.inl rfl) (show (10 : Nat) ∉ ([3, 7] : List Nat) by decide))) (hM := show ∀ i ∈ ([("e", 10)] : List (Str × Nat)).map (·.2), i ∉ ([3, 7] : List Nat) by decide)) (sn_bin (fun _ => op_mul_t rfl) (sn_lst (sa_cons (sn_non) (sa_nil))) (sn_int)))))) (st_one (st_ret (sn_bl))) (st_skip)) (st_seq (st_asgo (i := 7) sc_law.nd rfl (.inl rfl) (show (7 : Nat) ∈ ([3, 7] : List Nat) by decide) (sn_lst (sa_nil))) (st_seq (st_for (g := .nm 8) rfl PassesOwn.never rfl (si_itr rfl (sn_tup (sa_cons (sn_str) (sa_cons (sn_bin (fun _ => op_pow_t rfl) (sn_int) (sn_int)) (sa_cons (sn_int) (sa_cons (sn_str) (sa_cons (sn_str) (sa_nil)))))))) (gv_nm (i := 8) sc_law.nd rfl (.inl rfl)) (st_seq (st_asg (i := 9) sc_law.nd rfl (.inl rfl) (show (9 : Nat) ∉ ([3, 7] : List Nat) by decide) (sn_bin (fun _ => op_add_t rfl) (sn_lc (own := [("one", 11), ("other", 12), ("name", 13)]) (g := .tp (.cons (.nm 11) (.cons (.nm 12) (.cons (.nm 13) (.nil))))) rfl rfl sc_law.nd (si_itr rfl (sn_bin (fun _ => op_add_t rfl) (sn_callD D__law_valued (hr.mono (by decide)) rfl (W.glo "_law_valued" rfl) rfl runN_len (sa_cons (sn_var (i := 8) rfl (.inl rfl) (show (8 : Nat) ∉ ([3, 7] : List Nat) by decide)) (sa_nil))) (sn_callD D__law_placed (hr.mono (by decide)) rfl (W.glo "_law_placed" rfl) rfl runN_len (sa_cons (sn_var (i := 8) rfl (.inl rfl) (show (8 : Nat) ∉ ([3, 7] : List Nat) by decide)) (sa_nil))))) (show BlkOk ["script", "k", "cell", "state", "number", "some", "others", "rows", "thing", "made", "e", "one", "other", "name"] k_law _ [("one", 11), ("other", 12), ("name", 13)] from ⟨by rfl, by decide +kernel, by decide +kernel, by decide +kernel, by decide +kernel⟩) (fun _ _ _ _ _ => gv_tp rfl (gv_cons (gv_nm (i := 11) sc_law.nd rfl (.inl rfl)) (gv_cons (gv_nm (i := 12) sc_law.nd rfl (.inl rfl)) (gv_cons (gv_nm (i := 13) sc_law.nd rfl (.inl rfl)) (gv_nil))))) (fun _ _ _ _ _ _ => sq_nil) (fun _ _ _ _ _ _ => sn_var (i := 11) rfl (.inl rfl) (show (11 : Nat) ∉ ([3, 7] : List Nat) by decide)) (hM := show ∀ i ∈ ([("one", 11), ("other", 12), ("name", 13)] : List (Str × Nat)).map (·.2), i ∉ ([3, 7] : List Nat) by decide)) (sn_lst (sa_cons (sn_mk1D rfl mk_NoSuch (hr.mono (by decide)) rfl (sn_var (i := 8) rfl (.inl rfl) (show (8 : Nat) ∉ ([3, 7] : List Nat) by decide))) (sa_cons (sn_mk1D rfl mk_TooMany (hr.mono (by decide)) rfl (sn_var (i := 8) rfl (.inl rfl) (show (8 : Nat) ∉ ([3, 7] : List Nat) by decide))) (sa_nil)))))) (st_one (st_app (i := 7) rfl (.inl rfl) (show (7 : Nat) ∈ ([3, 7] : List Nat) by decide) (sn_lc (own := [("e", 10)]) (g := .nm 10) rfl rfl sc_law.nd (si_itr rfl (sn_var (i := 9) rfl (.inl rfl) (show (9 : Nat) ∉ ([3, 7] : List Nat) by decide))) (show BlkOk ["script", "k", "cell", "state", "number", "some", "others", "rows", "thing", "made", "e", "one", "other", "name"] k_law _ [("e", 10)] from ⟨by rfl, by decide +kernel, by decide +kernel, by decide +kernel, by decide +kernel⟩) (fun _ _ _ _ _ => gv_nm (i := 10) sc_law.nd rfl (.inl rfl)) (fun _ _ _ _ _ _ => sq_nil) (fun _ _ _ _ _ _ => sn_strx rfl (hu2 hr) W.xc rfl (W.free "str" rfl) (sn_var (i := 10) rfl (.inl rfl) (show (10 : Nat) ∉ ([3, 7] : List Nat) by decide))) (hM := show ∀ i ∈ ([("e", 10)] : List (Str × Nat)).map (·.2), i ∉ ([3, 7] : List Nat) by decide))))) (hM := (show ∀ i ∈ gVars (.nm 8), i ∉ ([3, 7] : List Nat) by decide))) (st_one (st_ret (sn_cmp (fun _ => op_eq_t rfl hr.units) (sn_bor (i := 7) rfl (.inl rfl) (show (7 : Nat) ∈ ([3, 7] : List Nat) by decide)) (sn_bin (fun _ => op_mul_t rfl) (sn_lst (sa_cons (sn_idx rfl (sn_bor (i := 7) rfl (.inl rfl) (show (7 : Nat) ∈ ([3, 7] : List Nat) by decide)) (sn_int)) (sa_nil))) (sn_int)))))))))))
theorem ok_law (W : Fx K mg) {fd : FuncData} (F : FunD K "law" "law" a_law b_law k_law [] [] (He.ga K "law") fd) (D__law_draw : DF P w K mg base 1 "_law_draw" ["cell", "k"] (spM (ctk K mg) true 2 m__law_draw)) (D__law_digit : DF P w K mg base 2 "_law_digit" ["state", "below"] (spIo (ctk K mg) 2 m__law_digit)) (D__law_valued : DF P w K mg base 3 "_law_valued" ["thing"] (spM (ctk K mg) true 1 m__law_valued)) (D__law_placed : DF P w K mg base 3 "_law_placed" ["thing"] (spM (ctk K mg) true 1 m__law_placed)) (D__law_right : DF P w K mg base 4 "_law_right" ["thing"] (spM (ctk K mg) false 1 m__law_right)) (mk_BadPrime : MkC P w K mg base true "BadPrime" "value" "no such prime") (mk_BadNumber : MkC P w K mg base true "BadNumber" "value" "no such number") (mk_BadName : MkC P w K mg base true "BadName" "value" "no such name") (mk_BadRemainder : MkC P w K mg base true "BadRemainder" "value" "no such remainder") (mk_BadExpression : MkC P w K mg base true "BadExpression" "place" "no such expression") (mk_BadProgram : MkC P w K mg base true "BadProgram" "place" "no such program") (mk_BadInput : MkC P w K mg base true "BadInput" "place" "no such input") (mk_BadNet : MkC P w K mg base true "BadNet" "place" "no such net") (mk_BadLayers : MkC P w K mg base true "BadLayers" "place" "no such layers") (mk_BadPoint : MkC P w K mg base true "BadPoint" "place" "no such point") (mk_BadLine : MkC P w K mg base true "BadLine" "place" "no such polynomial") (mk_BadTable : MkC P w K mg base true "BadTable" "place" "no such table") (mk_BadClaim : MkC P w K mg base true "BadClaim" "place" "no such claim") (mk_BadTalk : MkC P w K mg base true "BadTalk" "place" "no such talk") (mk_BadCheat : MkC P w K mg base true "BadCheat" "place" "no such cheat") (mk_BadCode : MkC P w K mg base true "BadCode" "place" "no such row") (mk_BadWord : MkC P w K mg base true "BadWord" "place" "no such word") (mk_BadTree : MkC P w K mg base true "BadTree" "place" "no such tree") (mk_BadMachine : MkC P w K mg base true "BadMachine" "place" "no such machine") (mk_BadBatch : MkC P w K mg base true "BadBatch" "place" "no such batch") (mk_BadText : MkC P w K mg base true "BadText" "place" "no such text") (mk_BadBytes : MkC P w K mg base true "BadBytes" "place" "no such bytes") (mk_BadPaper : MkC P w K mg base true "BadPaper" "place" "no such paper") (mk_BadDeed : MkC P w K mg base true "BadDeed" "place" "no such deed") (mk_TooMany : MkC P w K mg base false "TooMany" "most" "too many") (mk_NoSuch : MkC P w K mg base true "NoSuch" "value" "nothing so called") : DF P w K mg base 5 "law" ["script"] (spM (ctk K mg) false 1 m_law) := ⟨fd, okf_law W F D__law_draw D__law_digit D__law_valued D__law_placed D__law_right mk_BadPrime mk_BadNumber mk_BadName mk_BadRemainder mk_BadExpression mk_BadProgram mk_BadInput mk_BadNet mk_BadLayers mk_BadPoint mk_BadLine mk_BadTable mk_BadClaim mk_BadTalk mk_BadCheat mk_BadCode mk_BadWord mk_BadTree mk_BadMachine mk_BadBatch mk_BadText mk_BadBytes mk_BadPaper mk_BadDeed mk_TooMany mk_NoSuch, F.kp, F.bindsN fun _ _ _ _ _ _ us hl => match us, hl with | [_], _ => rfl⟩
end
end K99

end

section
set_option linter.all false
set_option maxRecDepth 100000
set_option maxHeartbeats 0
namespace K99
open PySem PySem.Spec PyProof.Rows L2 Tm
section
variable {P : Program} {w : World} {K : PySem.W.Frag} {mg : Str → Option Value} {base : Heap}
theorem kbp_BadPrime (T : Addr) (kV doc pm : Value) (an : Option Addr) (cdv ct u v i : Value) : ∃ k, bindArgs (PySem.W.fnOf "__init__" "BadPrime.__init__" a_i_BadPrime b_i_BadPrime k_i_BadPrime (.ref T) kV doc pm an cdv ct) ⟨[u, v], []⟩ = seqItems? (.ref T) >>= k ∧ k (some #[i]) = pure ([("self", u), ("value", v)] : List (Str × Value)) := by
  refine ⟨?k, ?e1, ?e2⟩
  case e1 => unfold bindArgs; exact rfl
  case e2 => exact rfl
theorem kbk_BadPrime (T : Addr) (kV doc pm : Value) (an : Option Addr) (cdv ct u v i : Value) : ∃ k, bindArgs (PySem.W.fnOf "__init__" "BadPrime.__init__" a_i_BadPrime b_i_BadPrime k_i_BadPrime (.ref T) kV doc pm an cdv ct) ⟨[u], [("value", v)]⟩ = seqItems? (.ref T) >>= k ∧ k (some #[i]) = pure ([("self", u), ("value", v)] : List (Str × Value)) := by
  refine ⟨?k, ?e1, ?e2⟩
  case e1 => unfold bindArgs; exact rfl
  case e2 => exact rfl
theorem kbn_BadPrime (T : Addr) (kV doc pm : Value) (an : Option Addr) (cdv ct u i : Value) : ∃ k, bindArgs (PySem.W.fnOf "__init__" "BadPrime.__init__" a_i_BadPrime b_i_BadPrime k_i_BadPrime (.ref T) kV doc pm an cdv ct) ⟨[u], []⟩ = seqItems? (.ref T) >>= k ∧ k (some #[i]) = pure ([("self", u), ("value", i)] : List (Str × Value)) := by
  refine ⟨?k, ?e1, ?e2⟩
  case e1 => unfold bindArgs; exact rfl
  case e2 => exact rfl
theorem sc_i_BadPrime : FnScope ["self", "value"] ["self", "value"] k_i_BadPrime := ⟨rfl, rfl, rfl, by decide +kernel, rfl, by decide +kernel, by decide +kernel⟩
theorem ok_mk_BadPrime (W : Fx K mg) {fd : FuncData} (F : FunD K "__init__" "BadPrime.__init__" a_i_BadPrime b_i_BadPrime k_i_BadPrime [V.non] [] (He.fAd K ("BadPrime", some "__init__")) fd) : MkC P w K mg base true "BadPrime" "value" "no such prime" := by
  have T := W.cl_ValueError_value "BadPrime" rfl
  have FO : FnOk P w K mg base (CX P w) 1 (He.fAd K ("BadPrime", some "__init__")) fd ["self", "value"] (spI (He.ga K "BadPrime") "value" "no such prime") := by
    refine F.ok sc_i_BadPrime (fun vs H Q E h => ?_) (fun cdv A outer s1 H vs Q E hr h => ⟨_, PSs.nox ?_, init_read rfl T.ek T.no h⟩)
    rotate_left
    · exact pss_cons (ps_expr (pe_biOwn rfl (W.glo "RunError" rfl) W.ba1 W.ba2 W.ba3 (pa_cons (pv 0) (pa_cons pe_str pa_nil)) (by decide) (by rfl) (hp := by decide +kernel))) (pss_one (ps_ff (pv 0) (pv 1)))
    obtain ⟨_, _, rfl, _⟩ := h
    rfl
  obtain ⟨i1, b1⟩ := F.kbindsD (ps := ["self", "value"]) 2 [] (fun vs _ _ => vs) (by simp) (fun r1 _ _ => r1) (fun T kV doc pm an cdv ct us its ws h1 h2 h3 => match us, h1, its, h2, ws, h3 with | [u, v], _, [i], _, [], _ => kbp_BadPrime T kV doc pm an cdv ct u v i)
  obtain ⟨i2, b2⟩ := F.kbindsD (ps := ["self", "value"]) 1 ["value"] (fun vs _ zs => vs ++ zs) (by simp) (fun r1 _ r3 => r1.append r3) (fun T kV doc pm an cdv ct us its ws h1 h2 h3 => match us, h1, its, h2, ws, h3 with | [u], _, [i], _, [v], _ => kbk_BadPrime T kV doc pm an cdv ct u v i)
  obtain ⟨i3, b3⟩ := F.kbindsD (ps := ["self", "value"]) 1 [] (fun vs ds _ => vs ++ ds) (by simp) (fun r1 r2 _ => r1.append r2) (fun T kV doc pm an cdv ct us its ws h1 h2 h3 => match us, h1, its, h2, ws, h3 with | [u], _, [i], _, [], _ => kbn_BadPrime T kV doc pm an cdv ct u i)
  exact ⟨_, _, fd, W.mgc "BadPrime" rfl, ⟨_, _, _, _, T.ek⟩, T.iC, T.tI, FO, ⟨_, _, b1, fun _ _ => rfl⟩, ⟨_, _, b2, fun _ _ => rfl⟩, fun _ => ⟨_, _, b3, fun _ => rfl⟩⟩
theorem kbp_BadNumber (T : Addr) (kV doc pm : Value) (an : Option Addr) (cdv ct u v i : Value) : ∃ k, bindArgs (PySem.W.fnOf "__init__" "BadNumber.__init__" a_i_BadNumber b_i_BadNumber k_i_BadNumber (.ref T) kV doc pm an cdv ct) ⟨[u, v], []⟩ = seqItems? (.ref T) >>= k ∧ k (some #[i]) = pure ([("self", u), ("value", v)] : List (Str × Value)) := by
  refine ⟨?k, ?e1, ?e2⟩
  case e1 => unfold bindArgs; exact rfl
  case e2 => exact rfl
theorem kbk_BadNumber (T : Addr) (kV doc pm : Value) (an : Option Addr) (cdv ct u v i : Value) : ∃ k, bindArgs (PySem.W.fnOf "__init__" "BadNumber.__init__" a_i_BadNumber b_i_BadNumber k_i_BadNumber (.ref T) kV doc pm an cdv ct) ⟨[u], [("value", v)]⟩ = seqItems? (.ref T) >>= k ∧ k (some #[i]) = pure ([("self", u), ("value", v)] : List (Str × Value)) := by
  refine ⟨?k, ?e1, ?e2⟩
  case e1 => unfold bindArgs; exact rfl
  case e2 => exact rfl
theorem kbn_BadNumber (T : Addr) (kV doc pm : Value) (an : Option Addr) (cdv ct u i : Value) : ∃ k, bindArgs (PySem.W.fnOf "__init__" "BadNumber.__init__" a_i_BadNumber b_i_BadNumber k_i_BadNumber (.ref T) kV doc pm an cdv ct) ⟨[u], []⟩ = seqItems? (.ref T) >>= k ∧ k (some #[i]) = pure ([("self", u), ("value", i)] : List (Str × Value)) := by
  refine ⟨?k, ?e1, ?e2⟩
  case e1 => unfold bindArgs; exact rfl
  case e2 => exact rfl
theorem sc_i_BadNumber : FnScope ["self", "value"] ["self", "value"] k_i_BadNumber := ⟨rfl, rfl, rfl, by decide +kernel, rfl, by decide +kernel, by decide +kernel⟩
theorem ok_mk_BadNumber (W : Fx K mg) {fd : FuncData} (F : FunD K "__init__" "BadNumber.__init__" a_i_BadNumber b_i_BadNumber k_i_BadNumber [V.non] [] (He.fAd K ("BadNumber", some "__init__")) fd) : MkC P w K mg base true "BadNumber" "value" "no such number" := by
  have T := W.cl_ValueError_value "BadNumber" rfl
  have FO : FnOk P w K mg base (CX P w) 1 (He.fAd K ("BadNumber", some "__init__")) fd ["self", "value"] (spI (He.ga K "BadNumber") "value" "no such number") := by
    refine F.ok sc_i_BadNumber (fun vs H Q E h => ?_) (fun cdv A outer s1 H vs Q E hr h => ⟨_, PSs.nox ?_, init_read rfl T.ek T.no h⟩)
    rotate_left
    · exact pss_cons (ps_expr (pe_biOwn rfl (W.glo "RunError" rfl) W.ba1 W.ba2 W.ba3 (pa_cons (pv 0) (pa_cons pe_str pa_nil)) (by decide) (by rfl) (hp := by decide +kernel))) (pss_one (ps_ff (pv 0) (pv 1)))
    obtain ⟨_, _, rfl, _⟩ := h
    rfl
  obtain ⟨i1, b1⟩ := F.kbindsD (ps := ["self", "value"]) 2 [] (fun vs _ _ => vs) (by simp) (fun r1 _ _ => r1) (fun T kV doc pm an cdv ct us its ws h1 h2 h3 => match us, h1, its, h2, ws, h3 with | [u, v], _, [i], _, [], _ => kbp_BadNumber T kV doc pm an cdv ct u v i)
  obtain ⟨i2, b2⟩ := F.kbindsD (ps := ["self", "value"]) 1 ["value"] (fun vs _ zs => vs ++ zs) (by simp) (fun r1 _ r3 => r1.append r3) (fun T kV doc pm an cdv ct us its ws h1 h2 h3 => match us, h1, its, h2, ws, h3 with | [u], _, [i], _, [v], _ => kbk_BadNumber T kV doc pm an cdv ct u v i)
  obtain ⟨i3, b3⟩ := F.kbindsD (ps := ["self", "value"]) 1 [] (fun vs ds _ => vs ++ ds) (by simp) (fun r1 r2 _ => r1.append r2) (fun T kV doc pm an cdv ct us its ws h1 h2 h3 => match us, h1, its, h2, ws, h3 with | [u], _, [i], _, [], _ => kbn_BadNumber T kV doc pm an cdv ct u i)
  exact ⟨_, _, fd, W.mgc "BadNumber" rfl, ⟨_, _, _, _, T.ek⟩, T.iC, T.tI, FO, ⟨_, _, b1, fun _ _ => rfl⟩, ⟨_, _, b2, fun _ _ => rfl⟩, fun _ => ⟨_, _, b3, fun _ => rfl⟩⟩
theorem kbp_BadName (T : Addr) (kV doc pm : Value) (an : Option Addr) (cdv ct u v i : Value) : ∃ k, bindArgs (PySem.W.fnOf "__init__" "BadName.__init__" a_i_BadName b_i_BadName k_i_BadName (.ref T) kV doc pm an cdv ct) ⟨[u, v], []⟩ = seqItems? (.ref T) >>= k ∧ k (some #[i]) = pure ([("self", u), ("value", v)] : List (Str × Value)) := by
  refine ⟨?k, ?e1, ?e2⟩
  case e1 => unfold bindArgs; exact rfl
  case e2 => exact rfl
theorem kbk_BadName (T : Addr) (kV doc pm : Value) (an : Option Addr) (cdv ct u v i : Value) : ∃ k, bindArgs (PySem.W.fnOf "__init__" "BadName.__init__" a_i_BadName b_i_BadName k_i_BadName (.ref T) kV doc pm an cdv ct) ⟨[u], [("value", v)]⟩ = seqItems? (.ref T) >>= k ∧ k (some #[i]) = pure ([("self", u), ("value", v)] : List (Str × Value)) := by
  refine ⟨?k, ?e1, ?e2⟩
  case e1 => unfold bindArgs; exact rfl
  case e2 => exact rfl
theorem kbn_BadName (T : Addr) (kV doc pm : Value) (an : Option Addr) (cdv ct u i : Value) : ∃ k, bindArgs (PySem.W.fnOf "__init__" "BadName.__init__" a_i_BadName b_i_BadName k_i_BadName (.ref T) kV doc pm an cdv ct) ⟨[u], []⟩ = seqItems? (.ref T) >>= k ∧ k (some #[i]) = pure ([("self", u), ("value", i)] : List (Str × Value)) := by
  refine ⟨?k, ?e1, ?e2⟩
  case e1 => unfold bindArgs; exact rfl
  case e2 => exact rfl
theorem sc_i_BadName : FnScope ["self", "value"] ["self", "value"] k_i_BadName := ⟨rfl, rfl, rfl, by decide +kernel, rfl, by decide +kernel, by decide +kernel⟩
theorem ok_mk_BadName (W : Fx K mg) {fd : FuncData} (F : FunD K "__init__" "BadName.__init__" a_i_BadName b_i_BadName k_i_BadName [V.non] [] (He.fAd K ("BadName", some "__init__")) fd) : MkC P w K mg base true "BadName" "value" "no such name" := by
  have T := W.cl_ValueError_value "BadName" rfl
  have FO : FnOk P w K mg base (CX P w) 1 (He.fAd K ("BadName", some "__init__")) fd ["self", "value"] (spI (He.ga K "BadName") "value" "no such name") := by
    refine F.ok sc_i_BadName (fun vs H Q E h => ?_) (fun cdv A outer s1 H vs Q E hr h => ⟨_, PSs.nox ?_, init_read rfl T.ek T.no h⟩)
    rotate_left
    · exact pss_cons (ps_expr (pe_biOwn rfl (W.glo "RunError" rfl) W.ba1 W.ba2 W.ba3 (pa_cons (pv 0) (pa_cons pe_str pa_nil)) (by decide) (by rfl) (hp := by decide +kernel))) (pss_one (ps_ff (pv 0) (pv 1)))
    obtain ⟨_, _, rfl, _⟩ := h
    rfl
  obtain ⟨i1, b1⟩ := F.kbindsD (ps := ["self", "value"]) 2 [] (fun vs _ _ => vs) (by simp) (fun r1 _ _ => r1) (fun T kV doc pm an cdv ct us its ws h1 h2 h3 => match us, h1, its, h2, ws, h3 with | [u, v], _, [i], _, [], _ => kbp_BadName T kV doc pm an cdv ct u v i)
  obtain ⟨i2, b2⟩ := F.kbindsD (ps := ["self", "value"]) 1 ["value"] (fun vs _ zs => vs ++ zs) (by simp) (fun r1 _ r3 => r1.append r3) (fun T kV doc pm an cdv ct us its ws h1 h2 h3 => match us, h1, its, h2, ws, h3 with | [u], _, [i], _, [v], _ => kbk_BadName T kV doc pm an cdv ct u v i)
  obtain ⟨i3, b3⟩ := F.kbindsD (ps := ["self", "value"]) 1 [] (fun vs ds _ => vs ++ ds) (by simp) (fun r1 r2 _ => r1.append r2) (fun T kV doc pm an cdv ct us its ws h1 h2 h3 => match us, h1, its, h2, ws, h3 with | [u], _, [i], _, [], _ => kbn_BadName T kV doc pm an cdv ct u i)
  exact ⟨_, _, fd, W.mgc "BadName" rfl, ⟨_, _, _, _, T.ek⟩, T.iC, T.tI, FO, ⟨_, _, b1, fun _ _ => rfl⟩, ⟨_, _, b2, fun _ _ => rfl⟩, fun _ => ⟨_, _, b3, fun _ => rfl⟩⟩
theorem kbp_BadRemainder (T : Addr) (kV doc pm : Value) (an : Option Addr) (cdv ct u v i : Value) : ∃ k, bindArgs (PySem.W.fnOf "__init__" "BadRemainder.__init__" a_i_BadRemainder b_i_BadRemainder k_i_BadRemainder (.ref T) kV doc pm an cdv ct) ⟨[u, v], []⟩ = seqItems? (.ref T) >>= k ∧ k (some #[i]) = pure ([("self", u), ("value", v)] : List (Str × Value)) := by
  refine ⟨?k, ?e1, ?e2⟩
  case e1 => unfold bindArgs; exact rfl
  case e2 => exact rfl
theorem kbk_BadRemainder (T : Addr) (kV doc pm : Value) (an : Option Addr) (cdv ct u v i : Value) : ∃ k, bindArgs (PySem.W.fnOf "__init__" "BadRemainder.__init__" a_i_BadRemainder b_i_BadRemainder k_i_BadRemainder (.ref T) kV doc pm an cdv ct) ⟨[u], [("value", v)]⟩ = seqItems? (.ref T) >>= k ∧ k (some #[i]) = pure ([("self", u), ("value", v)] : List (Str × Value)) := by
  refine ⟨?k, ?e1, ?e2⟩
  case e1 => unfold bindArgs; exact rfl
  case e2 => exact rfl
theorem kbn_BadRemainder (T : Addr) (kV doc pm : Value) (an : Option Addr) (cdv ct u i : Value) : ∃ k, bindArgs (PySem.W.fnOf "__init__" "BadRemainder.__init__" a_i_BadRemainder b_i_BadRemainder k_i_BadRemainder (.ref T) kV doc pm an cdv ct) ⟨[u], []⟩ = seqItems? (.ref T) >>= k ∧ k (some #[i]) = pure ([("self", u), ("value", i)] : List (Str × Value)) := by
  refine ⟨?k, ?e1, ?e2⟩
  case e1 => unfold bindArgs; exact rfl
  case e2 => exact rfl
theorem sc_i_BadRemainder : FnScope ["self", "value"] ["self", "value"] k_i_BadRemainder := ⟨rfl, rfl, rfl, by decide +kernel, rfl, by decide +kernel, by decide +kernel⟩
theorem ok_mk_BadRemainder (W : Fx K mg) {fd : FuncData} (F : FunD K "__init__" "BadRemainder.__init__" a_i_BadRemainder b_i_BadRemainder k_i_BadRemainder [V.non] [] (He.fAd K ("BadRemainder", some "__init__")) fd) : MkC P w K mg base true "BadRemainder" "value" "no such remainder" := by
  have T := W.cl_ValueError_value "BadRemainder" rfl
  have FO : FnOk P w K mg base (CX P w) 1 (He.fAd K ("BadRemainder", some "__init__")) fd ["self", "value"] (spI (He.ga K "BadRemainder") "value" "no such remainder") := by
    refine F.ok sc_i_BadRemainder (fun vs H Q E h => ?_) (fun cdv A outer s1 H vs Q E hr h => ⟨_, PSs.nox ?_, init_read rfl T.ek T.no h⟩)
    rotate_left
    · exact pss_cons (ps_expr (pe_biOwn rfl (W.glo "RunError" rfl) W.ba1 W.ba2 W.ba3 (pa_cons (pv 0) (pa_cons pe_str pa_nil)) (by decide) (by rfl) (hp := by decide +kernel))) (pss_one (ps_ff (pv 0) (pv 1)))
    obtain ⟨_, _, rfl, _⟩ := h
    rfl
  obtain ⟨i1, b1⟩ := F.kbindsD (ps := ["self", "value"]) 2 [] (fun vs _ _ => vs) (by simp) (fun r1 _ _ => r1) (fun T kV doc pm an cdv ct us its ws h1 h2 h3 => match us, h1, its, h2, ws, h3 with | [u, v], _, [i], _, [], _ => kbp_BadRemainder T kV doc pm an cdv ct u v i)
  obtain ⟨i2, b2⟩ := F.kbindsD (ps := ["self", "value"]) 1 ["value"] (fun vs _ zs => vs ++ zs) (by simp) (fun r1 _ r3 => r1.append r3) (fun T kV doc pm an cdv ct us its ws h1 h2 h3 => match us, h1, its, h2, ws, h3 with | [u], _, [i], _, [v], _ => kbk_BadRemainder T kV doc pm an cdv ct u v i)
  obtain ⟨i3, b3⟩ := F.kbindsD (ps := ["self", "value"]) 1 [] (fun vs ds _ => vs ++ ds) (by simp) (fun r1 r2 _ => r1.append r2) (fun T kV doc pm an cdv ct us its ws h1 h2 h3 => match us, h1, its, h2, ws, h3 with | [u], _, [i], _, [], _ => kbn_BadRemainder T kV doc pm an cdv ct u i)
  exact ⟨_, _, fd, W.mgc "BadRemainder" rfl, ⟨_, _, _, _, T.ek⟩, T.iC, T.tI, FO, ⟨_, _, b1, fun _ _ => rfl⟩, ⟨_, _, b2, fun _ _ => rfl⟩, fun _ => ⟨_, _, b3, fun _ => rfl⟩⟩
theorem kbp_BadExpression (T : Addr) (kV doc pm : Value) (an : Option Addr) (cdv ct u v i : Value) : ∃ k, bindArgs (PySem.W.fnOf "__init__" "BadExpression.__init__" a_i_BadExpression b_i_BadExpression k_i_BadExpression (.ref T) kV doc pm an cdv ct) ⟨[u, v], []⟩ = seqItems? (.ref T) >>= k ∧ k (some #[i]) = pure ([("self", u), ("place", v)] : List (Str × Value)) := by
  refine ⟨?k, ?e1, ?e2⟩
  case e1 => unfold bindArgs; exact rfl
  case e2 => exact rfl
theorem kbk_BadExpression (T : Addr) (kV doc pm : Value) (an : Option Addr) (cdv ct u v i : Value) : ∃ k, bindArgs (PySem.W.fnOf "__init__" "BadExpression.__init__" a_i_BadExpression b_i_BadExpression k_i_BadExpression (.ref T) kV doc pm an cdv ct) ⟨[u], [("place", v)]⟩ = seqItems? (.ref T) >>= k ∧ k (some #[i]) = pure ([("self", u), ("place", v)] : List (Str × Value)) := by
  refine ⟨?k, ?e1, ?e2⟩
  case e1 => unfold bindArgs; exact rfl
  case e2 => exact rfl
theorem kbn_BadExpression (T : Addr) (kV doc pm : Value) (an : Option Addr) (cdv ct u i : Value) : ∃ k, bindArgs (PySem.W.fnOf "__init__" "BadExpression.__init__" a_i_BadExpression b_i_BadExpression k_i_BadExpression (.ref T) kV doc pm an cdv ct) ⟨[u], []⟩ = seqItems? (.ref T) >>= k ∧ k (some #[i]) = pure ([("self", u), ("place", i)] : List (Str × Value)) := by
  refine ⟨?k, ?e1, ?e2⟩
  case e1 => unfold bindArgs; exact rfl
  case e2 => exact rfl
theorem sc_i_BadExpression : FnScope ["self", "place"] ["self", "place"] k_i_BadExpression := ⟨rfl, rfl, rfl, by decide +kernel, rfl, by decide +kernel, by decide +kernel⟩
theorem ok_mk_BadExpression (W : Fx K mg) {fd : FuncData} (F : FunD K "__init__" "BadExpression.__init__" a_i_BadExpression b_i_BadExpression k_i_BadExpression [V.non] [] (He.fAd K ("BadExpression", some "__init__")) fd) : MkC P w K mg base true "BadExpression" "place" "no such expression" := by
  have T := W.cl_ValueError_place "BadExpression" rfl
  have FO : FnOk P w K mg base (CX P w) 1 (He.fAd K ("BadExpression", some "__init__")) fd ["self", "place"] (spI (He.ga K "BadExpression") "place" "no such expression") := by
    refine F.ok sc_i_BadExpression (fun vs H Q E h => ?_) (fun cdv A outer s1 H vs Q E hr h => ⟨_, PSs.nox ?_, init_read rfl T.ek T.no h⟩)
    rotate_left
    · exact pss_cons (ps_expr (pe_biOwn rfl (W.glo "RunError" rfl) W.ba1 W.ba2 W.ba3 (pa_cons (pv 0) (pa_cons pe_str pa_nil)) (by decide) (by rfl) (hp := by decide +kernel))) (pss_one (ps_ff (pv 0) (pv 1)))
    obtain ⟨_, _, rfl, _⟩ := h
    rfl
  obtain ⟨i1, b1⟩ := F.kbindsD (ps := ["self", "place"]) 2 [] (fun vs _ _ => vs) (by simp) (fun r1 _ _ => r1) (fun T kV doc pm an cdv ct us its ws h1 h2 h3 => match us, h1, its, h2, ws, h3 with | [u, v], _, [i], _, [], _ => kbp_BadExpression T kV doc pm an cdv ct u v i)
  obtain ⟨i2, b2⟩ := F.kbindsD (ps := ["self", "place"]) 1 ["place"] (fun vs _ zs => vs ++ zs) (by simp) (fun r1 _ r3 => r1.append r3) (fun T kV doc pm an cdv ct us its ws h1 h2 h3 => match us, h1, its, h2, ws, h3 with | [u], _, [i], _, [v], _ => kbk_BadExpression T kV doc pm an cdv ct u v i)
  obtain ⟨i3, b3⟩ := F.kbindsD (ps := ["self", "place"]) 1 [] (fun vs ds _ => vs ++ ds) (by simp) (fun r1 r2 _ => r1.append r2) (fun T kV doc pm an cdv ct us its ws h1 h2 h3 => match us, h1, its, h2, ws, h3 with | [u], _, [i], _, [], _ => kbn_BadExpression T kV doc pm an cdv ct u i)
  exact ⟨_, _, fd, W.mgc "BadExpression" rfl, ⟨_, _, _, _, T.ek⟩, T.iC, T.tI, FO, ⟨_, _, b1, fun _ _ => rfl⟩, ⟨_, _, b2, fun _ _ => rfl⟩, fun _ => ⟨_, _, b3, fun _ => rfl⟩⟩
theorem kbp_BadProgram (T : Addr) (kV doc pm : Value) (an : Option Addr) (cdv ct u v i : Value) : ∃ k, bindArgs (PySem.W.fnOf "__init__" "BadProgram.__init__" a_i_BadProgram b_i_BadProgram k_i_BadProgram (.ref T) kV doc pm an cdv ct) ⟨[u, v], []⟩ = seqItems? (.ref T) >>= k ∧ k (some #[i]) = pure ([("self", u), ("place", v)] : List (Str × Value)) := by
  refine ⟨?k, ?e1, ?e2⟩
  case e1 => unfold bindArgs; exact rfl
  case e2 => exact rfl
theorem kbk_BadProgram (T : Addr) (kV doc pm : Value) (an : Option Addr) (cdv ct u v i : Value) : ∃ k, bindArgs (PySem.W.fnOf "__init__" "BadProgram.__init__" a_i_BadProgram b_i_BadProgram k_i_BadProgram (.ref T) kV doc pm an cdv ct) ⟨[u], [("place", v)]⟩ = seqItems? (.ref T) >>= k ∧ k (some #[i]) = pure ([("self", u), ("place", v)] : List (Str × Value)) := by
  refine ⟨?k, ?e1, ?e2⟩
  case e1 => unfold bindArgs; exact rfl
  case e2 => exact rfl
theorem kbn_BadProgram (T : Addr) (kV doc pm : Value) (an : Option Addr) (cdv ct u i : Value) : ∃ k, bindArgs (PySem.W.fnOf "__init__" "BadProgram.__init__" a_i_BadProgram b_i_BadProgram k_i_BadProgram (.ref T) kV doc pm an cdv ct) ⟨[u], []⟩ = seqItems? (.ref T) >>= k ∧ k (some #[i]) = pure ([("self", u), ("place", i)] : List (Str × Value)) := by
  refine ⟨?k, ?e1, ?e2⟩
  case e1 => unfold bindArgs; exact rfl
  case e2 => exact rfl
theorem sc_i_BadProgram : FnScope ["self", "place"] ["self", "place"] k_i_BadProgram := ⟨rfl, rfl, rfl, by decide +kernel, rfl, by decide +kernel, by decide +kernel⟩
theorem ok_mk_BadProgram (W : Fx K mg) {fd : FuncData} (F : FunD K "__init__" "BadProgram.__init__" a_i_BadProgram b_i_BadProgram k_i_BadProgram [V.non] [] (He.fAd K ("BadProgram", some "__init__")) fd) : MkC P w K mg base true "BadProgram" "place" "no such program" := by
  have T := W.cl_ValueError_place "BadProgram" rfl
  have FO : FnOk P w K mg base (CX P w) 1 (He.fAd K ("BadProgram", some "__init__")) fd ["self", "place"] (spI (He.ga K "BadProgram") "place" "no such program") := by
    refine F.ok sc_i_BadProgram (fun vs H Q E h => ?_) (fun cdv A outer s1 H vs Q E hr h => ⟨_, PSs.nox ?_, init_read rfl T.ek T.no h⟩)
    rotate_left
    · exact pss_cons (ps_expr (pe_biOwn rfl (W.glo "RunError" rfl) W.ba1 W.ba2 W.ba3 (pa_cons (pv 0) (pa_cons pe_str pa_nil)) (by decide) (by rfl) (hp := by decide +kernel))) (pss_one (ps_ff (pv 0) (pv 1)))
    obtain ⟨_, _, rfl, _⟩ := h
    rfl
  obtain ⟨i1, b1⟩ := F.kbindsD (ps := ["self", "place"]) 2 [] (fun vs _ _ => vs) (by simp) (fun r1 _ _ => r1) (fun T kV doc pm an cdv ct us its ws h1 h2 h3 => match us, h1, its, h2, ws, h3 with | [u, v], _, [i], _, [], _ => kbp_BadProgram T kV doc pm an cdv ct u v i)
  obtain ⟨i2, b2⟩ := F.kbindsD (ps := ["self", "place"]) 1 ["place"] (fun vs _ zs => vs ++ zs) (by simp) (fun r1 _ r3 => r1.append r3) (fun T kV doc pm an cdv ct us its ws h1 h2 h3 => match us, h1, its, h2, ws, h3 with | [u], _, [i], _, [v], _ => kbk_BadProgram T kV doc pm an cdv ct u v i)
  obtain ⟨i3, b3⟩ := F.kbindsD (ps := ["self", "place"]) 1 [] (fun vs ds _ => vs ++ ds) (by simp) (fun r1 r2 _ => r1.append r2) (fun T kV doc pm an cdv ct us its ws h1 h2 h3 => match us, h1, its, h2, ws, h3 with | [u], _, [i], _, [], _ => kbn_BadProgram T kV doc pm an cdv ct u i)
  exact ⟨_, _, fd, W.mgc "BadProgram" rfl, ⟨_, _, _, _, T.ek⟩, T.iC, T.tI, FO, ⟨_, _, b1, fun _ _ => rfl⟩, ⟨_, _, b2, fun _ _ => rfl⟩, fun _ => ⟨_, _, b3, fun _ => rfl⟩⟩
theorem kbp_BadInput (T : Addr) (kV doc pm : Value) (an : Option Addr) (cdv ct u v i : Value) : ∃ k, bindArgs (PySem.W.fnOf "__init__" "BadInput.__init__" a_i_BadInput b_i_BadInput k_i_BadInput (.ref T) kV doc pm an cdv ct) ⟨[u, v], []⟩ = seqItems? (.ref T) >>= k ∧ k (some #[i]) = pure ([("self", u), ("place", v)] : List (Str × Value)) := by
  refine ⟨?k, ?e1, ?e2⟩
  case e1 => unfold bindArgs; exact rfl
  case e2 => exact rfl
theorem kbk_BadInput (T : Addr) (kV doc pm : Value) (an : Option Addr) (cdv ct u v i : Value) : ∃ k, bindArgs (PySem.W.fnOf "__init__" "BadInput.__init__" a_i_BadInput b_i_BadInput k_i_BadInput (.ref T) kV doc pm an cdv ct) ⟨[u], [("place", v)]⟩ = seqItems? (.ref T) >>= k ∧ k (some #[i]) = pure ([("self", u), ("place", v)] : List (Str × Value)) := by
  refine ⟨?k, ?e1, ?e2⟩
  case e1 => unfold bindArgs; exact rfl
  case e2 => exact rfl
theorem kbn_BadInput (T : Addr) (kV doc pm : Value) (an : Option Addr) (cdv ct u i : Value) : ∃ k, bindArgs (PySem.W.fnOf "__init__" "BadInput.__init__" a_i_BadInput b_i_BadInput k_i_BadInput (.ref T) kV doc pm an cdv ct) ⟨[u], []⟩ = seqItems? (.ref T) >>= k ∧ k (some #[i]) = pure ([("self", u), ("place", i)] : List (Str × Value)) := by
  refine ⟨?k, ?e1, ?e2⟩
  case e1 => unfold bindArgs; exact rfl
  case e2 => exact rfl
theorem sc_i_BadInput : FnScope ["self", "place"] ["self", "place"] k_i_BadInput := ⟨rfl, rfl, rfl, by decide +kernel, rfl, by decide +kernel, by decide +kernel⟩
theorem ok_mk_BadInput (W : Fx K mg) {fd : FuncData} (F : FunD K "__init__" "BadInput.__init__" a_i_BadInput b_i_BadInput k_i_BadInput [V.non] [] (He.fAd K ("BadInput", some "__init__")) fd) : MkC P w K mg base true "BadInput" "place" "no such input" := by
  have T := W.cl_ValueError_place "BadInput" rfl
  have FO : FnOk P w K mg base (CX P w) 1 (He.fAd K ("BadInput", some "__init__")) fd ["self", "place"] (spI (He.ga K "BadInput") "place" "no such input") := by
    refine F.ok sc_i_BadInput (fun vs H Q E h => ?_) (fun cdv A outer s1 H vs Q E hr h => ⟨_, PSs.nox ?_, init_read rfl T.ek T.no h⟩)
    rotate_left
    · exact pss_cons (ps_expr (pe_biOwn rfl (W.glo "RunError" rfl) W.ba1 W.ba2 W.ba3 (pa_cons (pv 0) (pa_cons pe_str pa_nil)) (by decide) (by rfl) (hp := by decide +kernel))) (pss_one (ps_ff (pv 0) (pv 1)))
    obtain ⟨_, _, rfl, _⟩ := h
    rfl
  obtain ⟨i1, b1⟩ := F.kbindsD (ps := ["self", "place"]) 2 [] (fun vs _ _ => vs) (by simp) (fun r1 _ _ => r1) (fun T kV doc pm an cdv ct us its ws h1 h2 h3 => match us, h1, its, h2, ws, h3 with | [u, v], _, [i], _, [], _ => kbp_BadInput T kV doc pm an cdv ct u v i)
  obtain ⟨i2, b2⟩ := F.kbindsD (ps := ["self", "place"]) 1 ["place"] (fun vs _ zs => vs ++ zs) (by simp) (fun r1 _ r3 => r1.append r3) (fun T kV doc pm an cdv ct us its ws h1 h2 h3 => match us, h1, its, h2, ws, h3 with | [u], _, [i], _, [v], _ => kbk_BadInput T kV doc pm an cdv ct u v i)
  obtain ⟨i3, b3⟩ := F.kbindsD (ps := ["self", "place"]) 1 [] (fun vs ds _ => vs ++ ds) (by simp) (fun r1 r2 _ => r1.append r2) (fun T kV doc pm an cdv ct us its ws h1 h2 h3 => match us, h1, its, h2, ws, h3 with | [u], _, [i], _, [], _ => kbn_BadInput T kV doc pm an cdv ct u i)
  exact ⟨_, _, fd, W.mgc "BadInput" rfl, ⟨_, _, _, _, T.ek⟩, T.iC, T.tI, FO, ⟨_, _, b1, fun _ _ => rfl⟩, ⟨_, _, b2, fun _ _ => rfl⟩, fun _ => ⟨_, _, b3, fun _ => rfl⟩⟩
theorem kbp_BadNet (T : Addr) (kV doc pm : Value) (an : Option Addr) (cdv ct u v i : Value) : ∃ k, bindArgs (PySem.W.fnOf "__init__" "BadNet.__init__" a_i_BadNet b_i_BadNet k_i_BadNet (.ref T) kV doc pm an cdv ct) ⟨[u, v], []⟩ = seqItems? (.ref T) >>= k ∧ k (some #[i]) = pure ([("self", u), ("place", v)] : List (Str × Value)) := by
  refine ⟨?k, ?e1, ?e2⟩
  case e1 => unfold bindArgs; exact rfl
  case e2 => exact rfl
theorem kbk_BadNet (T : Addr) (kV doc pm : Value) (an : Option Addr) (cdv ct u v i : Value) : ∃ k, bindArgs (PySem.W.fnOf "__init__" "BadNet.__init__" a_i_BadNet b_i_BadNet k_i_BadNet (.ref T) kV doc pm an cdv ct) ⟨[u], [("place", v)]⟩ = seqItems? (.ref T) >>= k ∧ k (some #[i]) = pure ([("self", u), ("place", v)] : List (Str × Value)) := by
  refine ⟨?k, ?e1, ?e2⟩
  case e1 => unfold bindArgs; exact rfl
  case e2 => exact rfl
theorem kbn_BadNet (T : Addr) (kV doc pm : Value) (an : Option Addr) (cdv ct u i : Value) : ∃ k, bindArgs (PySem.W.fnOf "__init__" "BadNet.__init__" a_i_BadNet b_i_BadNet k_i_BadNet (.ref T) kV doc pm an cdv ct) ⟨[u], []⟩ = seqItems? (.ref T) >>= k ∧ k (some #[i]) = pure ([("self", u), ("place", i)] : List (Str × Value)) := by
  refine ⟨?k, ?e1, ?e2⟩
  case e1 => unfold bindArgs; exact rfl
  case e2 => exact rfl
theorem sc_i_BadNet : FnScope ["self", "place"] ["self", "place"] k_i_BadNet := ⟨rfl, rfl, rfl, by decide +kernel, rfl, by decide +kernel, by decide +kernel⟩
theorem ok_mk_BadNet (W : Fx K mg) {fd : FuncData} (F : FunD K "__init__" "BadNet.__init__" a_i_BadNet b_i_BadNet k_i_BadNet [V.non] [] (He.fAd K ("BadNet", some "__init__")) fd) : MkC P w K mg base true "BadNet" "place" "no such net" := by
  have T := W.cl_ValueError_place "BadNet" rfl
  have FO : FnOk P w K mg base (CX P w) 1 (He.fAd K ("BadNet", some "__init__")) fd ["self", "place"] (spI (He.ga K "BadNet") "place" "no such net") := by
    refine F.ok sc_i_BadNet (fun vs H Q E h => ?_) (fun cdv A outer s1 H vs Q E hr h => ⟨_, PSs.nox ?_, init_read rfl T.ek T.no h⟩)
    rotate_left
    · exact pss_cons (ps_expr (pe_biOwn rfl (W.glo "RunError" rfl) W.ba1 W.ba2 W.ba3 (pa_cons (pv 0) (pa_cons pe_str pa_nil)) (by decide) (by rfl) (hp := by decide +kernel))) (pss_one (ps_ff (pv 0) (pv 1)))
    obtain ⟨_, _, rfl, _⟩ := h
    rfl
  obtain ⟨i1, b1⟩ := F.kbindsD (ps := ["self", "place"]) 2 [] (fun vs _ _ => vs) (by simp) (fun r1 _ _ => r1) (fun T kV doc pm an cdv ct us its ws h1 h2 h3 => match us, h1, its, h2, ws, h3 with | [u, v], _, [i], _, [], _ => kbp_BadNet T kV doc pm an cdv ct u v i)
  obtain ⟨i2, b2⟩ := F.kbindsD (ps := ["self", "place"]) 1 ["place"] (fun vs _ zs => vs ++ zs) (by simp) (fun r1 _ r3 => r1.append r3) (fun T kV doc pm an cdv ct us its ws h1 h2 h3 => match us, h1, its, h2, ws, h3 with | [u], _, [i], _, [v], _ => kbk_BadNet T kV doc pm an cdv ct u v i)
  obtain ⟨i3, b3⟩ := F.kbindsD (ps := ["self", "place"]) 1 [] (fun vs ds _ => vs ++ ds) (by simp) (fun r1 r2 _ => r1.append r2) (fun T kV doc pm an cdv ct us its ws h1 h2 h3 => match us, h1, its, h2, ws, h3 with | [u], _, [i], _, [], _ => kbn_BadNet T kV doc pm an cdv ct u i)
  exact ⟨_, _, fd, W.mgc "BadNet" rfl, ⟨_, _, _, _, T.ek⟩, T.iC, T.tI, FO, ⟨_, _, b1, fun _ _ => rfl⟩, ⟨_, _, b2, fun _ _ => rfl⟩, fun _ => ⟨_, _, b3, fun _ => rfl⟩⟩
theorem kbp_BadLayers (T : Addr) (kV doc pm : Value) (an : Option Addr) (cdv ct u v i : Value) : ∃ k, bindArgs (PySem.W.fnOf "__init__" "BadLayers.__init__" a_i_BadLayers b_i_BadLayers k_i_BadLayers (.ref T) kV doc pm an cdv ct) ⟨[u, v], []⟩ = seqItems? (.ref T) >>= k ∧ k (some #[i]) = pure ([("self", u), ("place", v)] : List (Str × Value)) := by
  refine ⟨?k, ?e1, ?e2⟩
  case e1 => unfold bindArgs; exact rfl
  case e2 => exact rfl
theorem kbk_BadLayers (T : Addr) (kV doc pm : Value) (an : Option Addr) (cdv ct u v i : Value) : ∃ k, bindArgs (PySem.W.fnOf "__init__" "BadLayers.__init__" a_i_BadLayers b_i_BadLayers k_i_BadLayers (.ref T) kV doc pm an cdv ct) ⟨[u], [("place", v)]⟩ = seqItems? (.ref T) >>= k ∧ k (some #[i]) = pure ([("self", u), ("place", v)] : List (Str × Value)) := by
  refine ⟨?k, ?e1, ?e2⟩
  case e1 => unfold bindArgs; exact rfl
  case e2 => exact rfl
theorem kbn_BadLayers (T : Addr) (kV doc pm : Value) (an : Option Addr) (cdv ct u i : Value) : ∃ k, bindArgs (PySem.W.fnOf "__init__" "BadLayers.__init__" a_i_BadLayers b_i_BadLayers k_i_BadLayers (.ref T) kV doc pm an cdv ct) ⟨[u], []⟩ = seqItems? (.ref T) >>= k ∧ k (some #[i]) = pure ([("self", u), ("place", i)] : List (Str × Value)) := by
  refine ⟨?k, ?e1, ?e2⟩
  case e1 => unfold bindArgs; exact rfl
  case e2 => exact rfl
theorem sc_i_BadLayers : FnScope ["self", "place"] ["self", "place"] k_i_BadLayers := ⟨rfl, rfl, rfl, by decide +kernel, rfl, by decide +kernel, by decide +kernel⟩
theorem ok_mk_BadLayers (W : Fx K mg) {fd : FuncData} (F : FunD K "__init__" "BadLayers.__init__" a_i_BadLayers b_i_BadLayers k_i_BadLayers [V.non] [] (He.fAd K ("BadLayers", some "__init__")) fd) : MkC P w K mg base true "BadLayers" "place" "no such layers" := by
  have T := W.cl_ValueError_place "BadLayers" rfl
  have FO : FnOk P w K mg base (CX P w) 1 (He.fAd K ("BadLayers", some "__init__")) fd ["self", "place"] (spI (He.ga K "BadLayers") "place" "no such layers") := by
    refine F.ok sc_i_BadLayers (fun vs H Q E h => ?_) (fun cdv A outer s1 H vs Q E hr h => ⟨_, PSs.nox ?_, init_read rfl T.ek T.no h⟩)
    rotate_left
    · exact pss_cons (ps_expr (pe_biOwn rfl (W.glo "RunError" rfl) W.ba1 W.ba2 W.ba3 (pa_cons (pv 0) (pa_cons pe_str pa_nil)) (by decide) (by rfl) (hp := by decide +kernel))) (pss_one (ps_ff (pv 0) (pv 1)))
    obtain ⟨_, _, rfl, _⟩ := h
    rfl
  obtain ⟨i1, b1⟩ := F.kbindsD (ps := ["self", "place"]) 2 [] (fun vs _ _ => vs) (by simp) (fun r1 _ _ => r1) (fun T kV doc pm an cdv ct us its ws h1 h2 h3 => match us, h1, its, h2, ws, h3 with | [u, v], _, [i], _, [], _ => kbp_BadLayers T kV doc pm an cdv ct u v i)
  obtain ⟨i2, b2⟩ := F.kbindsD (ps := ["self", "place"]) 1 ["place"] (fun vs _ zs => vs ++ zs) (by simp) (fun r1 _ r3 => r1.append r3) (fun T kV doc pm an cdv ct us its ws h1 h2 h3 => match us, h1, its, h2, ws, h3 with | [u], _, [i], _, [v], _ => kbk_BadLayers T kV doc pm an cdv ct u v i)
  obtain ⟨i3, b3⟩ := F.kbindsD (ps := ["self", "place"]) 1 [] (fun vs ds _ => vs ++ ds) (by simp) (fun r1 r2 _ => r1.append r2) (fun T kV doc pm an cdv ct us its ws h1 h2 h3 => match us, h1, its, h2, ws, h3 with | [u], _, [i], _, [], _ => kbn_BadLayers T kV doc pm an cdv ct u i)
  exact ⟨_, _, fd, W.mgc "BadLayers" rfl, ⟨_, _, _, _, T.ek⟩, T.iC, T.tI, FO, ⟨_, _, b1, fun _ _ => rfl⟩, ⟨_, _, b2, fun _ _ => rfl⟩, fun _ => ⟨_, _, b3, fun _ => rfl⟩⟩
theorem kbp_BadPoint (T : Addr) (kV doc pm : Value) (an : Option Addr) (cdv ct u v i : Value) : ∃ k, bindArgs (PySem.W.fnOf "__init__" "BadPoint.__init__" a_i_BadPoint b_i_BadPoint k_i_BadPoint (.ref T) kV doc pm an cdv ct) ⟨[u, v], []⟩ = seqItems? (.ref T) >>= k ∧ k (some #[i]) = pure ([("self", u), ("place", v)] : List (Str × Value)) := by
  refine ⟨?k, ?e1, ?e2⟩
  case e1 => unfold bindArgs; exact rfl
  case e2 => exact rfl
theorem kbk_BadPoint (T : Addr) (kV doc pm : Value) (an : Option Addr) (cdv ct u v i : Value) : ∃ k, bindArgs (PySem.W.fnOf "__init__" "BadPoint.__init__" a_i_BadPoint b_i_BadPoint k_i_BadPoint (.ref T) kV doc pm an cdv ct) ⟨[u], [("place", v)]⟩ = seqItems? (.ref T) >>= k ∧ k (some #[i]) = pure ([("self", u), ("place", v)] : List (Str × Value)) := by
  refine ⟨?k, ?e1, ?e2⟩
  case e1 => unfold bindArgs; exact rfl
  case e2 => exact rfl
theorem kbn_BadPoint (T : Addr) (kV doc pm : Value) (an : Option Addr) (cdv ct u i : Value) : ∃ k, bindArgs (PySem.W.fnOf "__init__" "BadPoint.__init__" a_i_BadPoint b_i_BadPoint k_i_BadPoint (.ref T) kV doc pm an cdv ct) ⟨[u], []⟩ = seqItems? (.ref T) >>= k ∧ k (some #[i]) = pure ([("self", u), ("place", i)] : List (Str × Value)) := by
  refine ⟨?k, ?e1, ?e2⟩
  case e1 => unfold bindArgs; exact rfl
  case e2 => exact rfl
theorem sc_i_BadPoint : FnScope ["self", "place"] ["self", "place"] k_i_BadPoint := ⟨rfl, rfl, rfl, by decide +kernel, rfl, by decide +kernel, by decide +kernel⟩
theorem ok_mk_BadPoint (W : Fx K mg) {fd : FuncData} (F : FunD K "__init__" "BadPoint.__init__" a_i_BadPoint b_i_BadPoint k_i_BadPoint [V.non] [] (He.fAd K ("BadPoint", some "__init__")) fd) : MkC P w K mg base true "BadPoint" "place" "no such point" := by
  have T := W.cl_ValueError_place "BadPoint" rfl
  have FO : FnOk P w K mg base (CX P w) 1 (He.fAd K ("BadPoint", some "__init__")) fd ["self", "place"] (spI (He.ga K "BadPoint") "place" "no such point") := by
    refine F.ok sc_i_BadPoint (fun vs H Q E h => ?_) (fun cdv A outer s1 H vs Q E hr h => ⟨_, PSs.nox ?_, init_read rfl T.ek T.no h⟩)
    rotate_left
    · exact pss_cons (ps_expr (pe_biOwn rfl (W.glo "RunError" rfl) W.ba1 W.ba2 W.ba3 (pa_cons (pv 0) (pa_cons pe_str pa_nil)) (by decide) (by rfl) (hp := by decide +kernel))) (pss_one (ps_ff (pv 0) (pv 1)))
    obtain ⟨_, _, rfl, _⟩ := h
    rfl
  obtain ⟨i1, b1⟩ := F.kbindsD (ps := ["self", "place"]) 2 [] (fun vs _ _ => vs) (by simp) (fun r1 _ _ => r1) (fun T kV doc pm an cdv ct us its ws h1 h2 h3 => match us, h1, its, h2, ws, h3 with | [u, v], _, [i], _, [], _ => kbp_BadPoint T kV doc pm an cdv ct u v i)
  obtain ⟨i2, b2⟩ := F.kbindsD (ps := ["self", "place"]) 1 ["place"] (fun vs _ zs => vs ++ zs) (by simp) (fun r1 _ r3 => r1.append r3) (fun T kV doc pm an cdv ct us its ws h1 h2 h3 => match us, h1, its, h2, ws, h3 with | [u], _, [i], _, [v], _ => kbk_BadPoint T kV doc pm an cdv ct u v i)
  obtain ⟨i3, b3⟩ := F.kbindsD (ps := ["self", "place"]) 1 [] (fun vs ds _ => vs ++ ds) (by simp) (fun r1 r2 _ => r1.append r2) (fun T kV doc pm an cdv ct us its ws h1 h2 h3 => match us, h1, its, h2, ws, h3 with | [u], _, [i], _, [], _ => kbn_BadPoint T kV doc pm an cdv ct u i)
  exact ⟨_, _, fd, W.mgc "BadPoint" rfl, ⟨_, _, _, _, T.ek⟩, T.iC, T.tI, FO, ⟨_, _, b1, fun _ _ => rfl⟩, ⟨_, _, b2, fun _ _ => rfl⟩, fun _ => ⟨_, _, b3, fun _ => rfl⟩⟩
theorem kbp_BadLine (T : Addr) (kV doc pm : Value) (an : Option Addr) (cdv ct u v i : Value) : ∃ k, bindArgs (PySem.W.fnOf "__init__" "BadLine.__init__" a_i_BadLine b_i_BadLine k_i_BadLine (.ref T) kV doc pm an cdv ct) ⟨[u, v], []⟩ = seqItems? (.ref T) >>= k ∧ k (some #[i]) = pure ([("self", u), ("place", v)] : List (Str × Value)) := by
  refine ⟨?k, ?e1, ?e2⟩
  case e1 => unfold bindArgs; exact rfl
  case e2 => exact rfl
theorem kbk_BadLine (T : Addr) (kV doc pm : Value) (an : Option Addr) (cdv ct u v i : Value) : ∃ k, bindArgs (PySem.W.fnOf "__init__" "BadLine.__init__" a_i_BadLine b_i_BadLine k_i_BadLine (.ref T) kV doc pm an cdv ct) ⟨[u], [("place", v)]⟩ = seqItems? (.ref T) >>= k ∧ k (some #[i]) = pure ([("self", u), ("place", v)] : List (Str × Value)) := by
  refine ⟨?k, ?e1, ?e2⟩
  case e1 => unfold bindArgs; exact rfl
  case e2 => exact rfl
theorem kbn_BadLine (T : Addr) (kV doc pm : Value) (an : Option Addr) (cdv ct u i : Value) : ∃ k, bindArgs (PySem.W.fnOf "__init__" "BadLine.__init__" a_i_BadLine b_i_BadLine k_i_BadLine (.ref T) kV doc pm an cdv ct) ⟨[u], []⟩ = seqItems? (.ref T) >>= k ∧ k (some #[i]) = pure ([("self", u), ("place", i)] : List (Str × Value)) := by
  refine ⟨?k, ?e1, ?e2⟩
  case e1 => unfold bindArgs; exact rfl
  case e2 => exact rfl
theorem sc_i_BadLine : FnScope ["self", "place"] ["self", "place"] k_i_BadLine := ⟨rfl, rfl, rfl, by decide +kernel, rfl, by decide +kernel, by decide +kernel⟩
theorem ok_mk_BadLine (W : Fx K mg) {fd : FuncData} (F : FunD K "__init__" "BadLine.__init__" a_i_BadLine b_i_BadLine k_i_BadLine [V.non] [] (He.fAd K ("BadLine", some "__init__")) fd) : MkC P w K mg base true "BadLine" "place" "no such polynomial" := by
  have T := W.cl_ValueError_place "BadLine" rfl
  have FO : FnOk P w K mg base (CX P w) 1 (He.fAd K ("BadLine", some "__init__")) fd ["self", "place"] (spI (He.ga K "BadLine") "place" "no such polynomial") := by
    refine F.ok sc_i_BadLine (fun vs H Q E h => ?_) (fun cdv A outer s1 H vs Q E hr h => ⟨_, PSs.nox ?_, init_read rfl T.ek T.no h⟩)
    rotate_left
    · exact pss_cons (ps_expr (pe_biOwn rfl (W.glo "RunError" rfl) W.ba1 W.ba2 W.ba3 (pa_cons (pv 0) (pa_cons pe_str pa_nil)) (by decide) (by rfl) (hp := by decide +kernel))) (pss_one (ps_ff (pv 0) (pv 1)))
    obtain ⟨_, _, rfl, _⟩ := h
    rfl
  obtain ⟨i1, b1⟩ := F.kbindsD (ps := ["self", "place"]) 2 [] (fun vs _ _ => vs) (by simp) (fun r1 _ _ => r1) (fun T kV doc pm an cdv ct us its ws h1 h2 h3 => match us, h1, its, h2, ws, h3 with | [u, v], _, [i], _, [], _ => kbp_BadLine T kV doc pm an cdv ct u v i)
  obtain ⟨i2, b2⟩ := F.kbindsD (ps := ["self", "place"]) 1 ["place"] (fun vs _ zs => vs ++ zs) (by simp) (fun r1 _ r3 => r1.append r3) (fun T kV doc pm an cdv ct us its ws h1 h2 h3 => match us, h1, its, h2, ws, h3 with | [u], _, [i], _, [v], _ => kbk_BadLine T kV doc pm an cdv ct u v i)
  obtain ⟨i3, b3⟩ := F.kbindsD (ps := ["self", "place"]) 1 [] (fun vs ds _ => vs ++ ds) (by simp) (fun r1 r2 _ => r1.append r2) (fun T kV doc pm an cdv ct us its ws h1 h2 h3 => match us, h1, its, h2, ws, h3 with | [u], _, [i], _, [], _ => kbn_BadLine T kV doc pm an cdv ct u i)
  exact ⟨_, _, fd, W.mgc "BadLine" rfl, ⟨_, _, _, _, T.ek⟩, T.iC, T.tI, FO, ⟨_, _, b1, fun _ _ => rfl⟩, ⟨_, _, b2, fun _ _ => rfl⟩, fun _ => ⟨_, _, b3, fun _ => rfl⟩⟩
theorem kbp_BadTable (T : Addr) (kV doc pm : Value) (an : Option Addr) (cdv ct u v i : Value) : ∃ k, bindArgs (PySem.W.fnOf "__init__" "BadTable.__init__" a_i_BadTable b_i_BadTable k_i_BadTable (.ref T) kV doc pm an cdv ct) ⟨[u, v], []⟩ = seqItems? (.ref T) >>= k ∧ k (some #[i]) = pure ([("self", u), ("place", v)] : List (Str × Value)) := by
  refine ⟨?k, ?e1, ?e2⟩
  case e1 => unfold bindArgs; exact rfl
  case e2 => exact rfl
theorem kbk_BadTable (T : Addr) (kV doc pm : Value) (an : Option Addr) (cdv ct u v i : Value) : ∃ k, bindArgs (PySem.W.fnOf "__init__" "BadTable.__init__" a_i_BadTable b_i_BadTable k_i_BadTable (.ref T) kV doc pm an cdv ct) ⟨[u], [("place", v)]⟩ = seqItems? (.ref T) >>= k ∧ k (some #[i]) = pure ([("self", u), ("place", v)] : List (Str × Value)) := by
  refine ⟨?k, ?e1, ?e2⟩
  case e1 => unfold bindArgs; exact rfl
  case e2 => exact rfl
theorem kbn_BadTable (T : Addr) (kV doc pm : Value) (an : Option Addr) (cdv ct u i : Value) : ∃ k, bindArgs (PySem.W.fnOf "__init__" "BadTable.__init__" a_i_BadTable b_i_BadTable k_i_BadTable (.ref T) kV doc pm an cdv ct) ⟨[u], []⟩ = seqItems? (.ref T) >>= k ∧ k (some #[i]) = pure ([("self", u), ("place", i)] : List (Str × Value)) := by
  refine ⟨?k, ?e1, ?e2⟩
  case e1 => unfold bindArgs; exact rfl
  case e2 => exact rfl
theorem sc_i_BadTable : FnScope ["self", "place"] ["self", "place"] k_i_BadTable := ⟨rfl, rfl, rfl, by decide +kernel, rfl, by decide +kernel, by decide +kernel⟩
theorem ok_mk_BadTable (W : Fx K mg) {fd : FuncData} (F : FunD K "__init__" "BadTable.__init__" a_i_BadTable b_i_BadTable k_i_BadTable [V.non] [] (He.fAd K ("BadTable", some "__init__")) fd) : MkC P w K mg base true "BadTable" "place" "no such table" := by
  have T := W.cl_ValueError_place "BadTable" rfl
  have FO : FnOk P w K mg base (CX P w) 1 (He.fAd K ("BadTable", some "__init__")) fd ["self", "place"] (spI (He.ga K "BadTable") "place" "no such table") := by
    refine F.ok sc_i_BadTable (fun vs H Q E h => ?_) (fun cdv A outer s1 H vs Q E hr h => ⟨_, PSs.nox ?_, init_read rfl T.ek T.no h⟩)
    rotate_left
    · exact pss_cons (ps_expr (pe_biOwn rfl (W.glo "RunError" rfl) W.ba1 W.ba2 W.ba3 (pa_cons (pv 0) (pa_cons pe_str pa_nil)) (by decide) (by rfl) (hp := by decide +kernel))) (pss_one (ps_ff (pv 0) (pv 1)))
    obtain ⟨_, _, rfl, _⟩ := h
    rfl
  obtain ⟨i1, b1⟩ := F.kbindsD (ps := ["self", "place"]) 2 [] (fun vs _ _ => vs) (by simp) (fun r1 _ _ => r1) (fun T kV doc pm an cdv ct us its ws h1 h2 h3 => match us, h1, its, h2, ws, h3 with | [u, v], _, [i], _, [], _ => kbp_BadTable T kV doc pm an cdv ct u v i)
  obtain ⟨i2, b2⟩ := F.kbindsD (ps := ["self", "place"]) 1 ["place"] (fun vs _ zs => vs ++ zs) (by simp) (fun r1 _ r3 => r1.append r3) (fun T kV doc pm an cdv ct us its ws h1 h2 h3 => match us, h1, its, h2, ws, h3 with | [u], _, [i], _, [v], _ => kbk_BadTable T kV doc pm an cdv ct u v i)
  obtain ⟨i3, b3⟩ := F.kbindsD (ps := ["self", "place"]) 1 [] (fun vs ds _ => vs ++ ds) (by simp) (fun r1 r2 _ => r1.append r2) (fun T kV doc pm an cdv ct us its ws h1 h2 h3 => match us, h1, its, h2, ws, h3 with | [u], _, [i], _, [], _ => kbn_BadTable T kV doc pm an cdv ct u i)
  exact ⟨_, _, fd, W.mgc "BadTable" rfl, ⟨_, _, _, _, T.ek⟩, T.iC, T.tI, FO, ⟨_, _, b1, fun _ _ => rfl⟩, ⟨_, _, b2, fun _ _ => rfl⟩, fun _ => ⟨_, _, b3, fun _ => rfl⟩⟩
theorem kbp_BadClaim (T : Addr) (kV doc pm : Value) (an : Option Addr) (cdv ct u v i : Value) : ∃ k, bindArgs (PySem.W.fnOf "__init__" "BadClaim.__init__" a_i_BadClaim b_i_BadClaim k_i_BadClaim (.ref T) kV doc pm an cdv ct) ⟨[u, v], []⟩ = seqItems? (.ref T) >>= k ∧ k (some #[i]) = pure ([("self", u), ("place", v)] : List (Str × Value)) := by
  refine ⟨?k, ?e1, ?e2⟩
  case e1 => unfold bindArgs; exact rfl
  case e2 => exact rfl
theorem kbk_BadClaim (T : Addr) (kV doc pm : Value) (an : Option Addr) (cdv ct u v i : Value) : ∃ k, bindArgs (PySem.W.fnOf "__init__" "BadClaim.__init__" a_i_BadClaim b_i_BadClaim k_i_BadClaim (.ref T) kV doc pm an cdv ct) ⟨[u], [("place", v)]⟩ = seqItems? (.ref T) >>= k ∧ k (some #[i]) = pure ([("self", u), ("place", v)] : List (Str × Value)) := by
  refine ⟨?k, ?e1, ?e2⟩
  case e1 => unfold bindArgs; exact rfl
  case e2 => exact rfl
theorem kbn_BadClaim (T : Addr) (kV doc pm : Value) (an : Option Addr) (cdv ct u i : Value) : ∃ k, bindArgs (PySem.W.fnOf "__init__" "BadClaim.__init__" a_i_BadClaim b_i_BadClaim k_i_BadClaim (.ref T) kV doc pm an cdv ct) ⟨[u], []⟩ = seqItems? (.ref T) >>= k ∧ k (some #[i]) = pure ([("self", u), ("place", i)] : List (Str × Value)) := by
  refine ⟨?k, ?e1, ?e2⟩
  case e1 => unfold bindArgs; exact rfl
  case e2 => exact rfl
theorem sc_i_BadClaim : FnScope ["self", "place"] ["self", "place"] k_i_BadClaim := ⟨rfl, rfl, rfl, by decide +kernel, rfl, by decide +kernel, by decide +kernel⟩
theorem ok_mk_BadClaim (W : Fx K mg) {fd : FuncData} (F : FunD K "__init__" "BadClaim.__init__" a_i_BadClaim b_i_BadClaim k_i_BadClaim [V.non] [] (He.fAd K ("BadClaim", some "__init__")) fd) : MkC P w K mg base true "BadClaim" "place" "no such claim" := by
  have T := W.cl_ValueError_place "BadClaim" rfl
  have FO : FnOk P w K mg base (CX P w) 1 (He.fAd K ("BadClaim", some "__init__")) fd ["self", "place"] (spI (He.ga K "BadClaim") "place" "no such claim") := by
    refine F.ok sc_i_BadClaim (fun vs H Q E h => ?_) (fun cdv A outer s1 H vs Q E hr h => ⟨_, PSs.nox ?_, init_read rfl T.ek T.no h⟩)
    rotate_left
    · exact pss_cons (ps_expr (pe_biOwn rfl (W.glo "RunError" rfl) W.ba1 W.ba2 W.ba3 (pa_cons (pv 0) (pa_cons pe_str pa_nil)) (by decide) (by rfl) (hp := by decide +kernel))) (pss_one (ps_ff (pv 0) (pv 1)))
    obtain ⟨_, _, rfl, _⟩ := h
    rfl
  obtain ⟨i1, b1⟩ := F.kbindsD (ps := ["self", "place"]) 2 [] (fun vs _ _ => vs) (by simp) (fun r1 _ _ => r1) (fun T kV doc pm an cdv ct us its ws h1 h2 h3 => match us, h1, its, h2, ws, h3 with | [u, v], _, [i], _, [], _ => kbp_BadClaim T kV doc pm an cdv ct u v i)
  obtain ⟨i2, b2⟩ := F.kbindsD (ps := ["self", "place"]) 1 ["place"] (fun vs _ zs => vs ++ zs) (by simp) (fun r1 _ r3 => r1.append r3) (fun T kV doc pm an cdv ct us its ws h1 h2 h3 => match us, h1, its, h2, ws, h3 with | [u], _, [i], _, [v], _ => kbk_BadClaim T kV doc pm an cdv ct u v i)
  obtain ⟨i3, b3⟩ := F.kbindsD (ps := ["self", "place"]) 1 [] (fun vs ds _ => vs ++ ds) (by simp) (fun r1 r2 _ => r1.append r2) (fun T kV doc pm an cdv ct us its ws h1 h2 h3 => match us, h1, its, h2, ws, h3 with | [u], _, [i], _, [], _ => kbn_BadClaim T kV doc pm an cdv ct u i)
  exact ⟨_, _, fd, W.mgc "BadClaim" rfl, ⟨_, _, _, _, T.ek⟩, T.iC, T.tI, FO, ⟨_, _, b1, fun _ _ => rfl⟩, ⟨_, _, b2, fun _ _ => rfl⟩, fun _ => ⟨_, _, b3, fun _ => rfl⟩⟩
theorem kbp_BadTalk (T : Addr) (kV doc pm : Value) (an : Option Addr) (cdv ct u v i : Value) : ∃ k, bindArgs (PySem.W.fnOf "__init__" "BadTalk.__init__" a_i_BadTalk b_i_BadTalk k_i_BadTalk (.ref T) kV doc pm an cdv ct) ⟨[u, v], []⟩ = seqItems? (.ref T) >>= k ∧ k (some #[i]) = pure ([("self", u), ("place", v)] : List (Str × Value)) := by
  refine ⟨?k, ?e1, ?e2⟩
  case e1 => unfold bindArgs; exact rfl
  case e2 => exact rfl
theorem kbk_BadTalk (T : Addr) (kV doc pm : Value) (an : Option Addr) (cdv ct u v i : Value) : ∃ k, bindArgs (PySem.W.fnOf "__init__" "BadTalk.__init__" a_i_BadTalk b_i_BadTalk k_i_BadTalk (.ref T) kV doc pm an cdv ct) ⟨[u], [("place", v)]⟩ = seqItems? (.ref T) >>= k ∧ k (some #[i]) = pure ([("self", u), ("place", v)] : List (Str × Value)) := by
  refine ⟨?k, ?e1, ?e2⟩
  case e1 => unfold bindArgs; exact rfl
  case e2 => exact rfl
theorem kbn_BadTalk (T : Addr) (kV doc pm : Value) (an : Option Addr) (cdv ct u i : Value) : ∃ k, bindArgs (PySem.W.fnOf "__init__" "BadTalk.__init__" a_i_BadTalk b_i_BadTalk k_i_BadTalk (.ref T) kV doc pm an cdv ct) ⟨[u], []⟩ = seqItems? (.ref T) >>= k ∧ k (some #[i]) = pure ([("self", u), ("place", i)] : List (Str × Value)) := by
  refine ⟨?k, ?e1, ?e2⟩
  case e1 => unfold bindArgs; exact rfl
  case e2 => exact rfl
theorem sc_i_BadTalk : FnScope ["self", "place"] ["self", "place"] k_i_BadTalk := ⟨rfl, rfl, rfl, by decide +kernel, rfl, by decide +kernel, by decide +kernel⟩
theorem ok_mk_BadTalk (W : Fx K mg) {fd : FuncData} (F : FunD K "__init__" "BadTalk.__init__" a_i_BadTalk b_i_BadTalk k_i_BadTalk [V.non] [] (He.fAd K ("BadTalk", some "__init__")) fd) : MkC P w K mg base true "BadTalk" "place" "no such talk" := by
  have T := W.cl_ValueError_place "BadTalk" rfl
  have FO : FnOk P w K mg base (CX P w) 1 (He.fAd K ("BadTalk", some "__init__")) fd ["self", "place"] (spI (He.ga K "BadTalk") "place" "no such talk") := by
    refine F.ok sc_i_BadTalk (fun vs H Q E h => ?_) (fun cdv A outer s1 H vs Q E hr h => ⟨_, PSs.nox ?_, init_read rfl T.ek T.no h⟩)
    rotate_left
    · exact pss_cons (ps_expr (pe_biOwn rfl (W.glo "RunError" rfl) W.ba1 W.ba2 W.ba3 (pa_cons (pv 0) (pa_cons pe_str pa_nil)) (by decide) (by rfl) (hp := by decide +kernel))) (pss_one (ps_ff (pv 0) (pv 1)))
    obtain ⟨_, _, rfl, _⟩ := h
    rfl
  obtain ⟨i1, b1⟩ := F.kbindsD (ps := ["self", "place"]) 2 [] (fun vs _ _ => vs) (by simp) (fun r1 _ _ => r1) (fun T kV doc pm an cdv ct us its ws h1 h2 h3 => match us, h1, its, h2, ws, h3 with | [u, v], _, [i], _, [], _ => kbp_BadTalk T kV doc pm an cdv ct u v i)
  obtain ⟨i2, b2⟩ := F.kbindsD (ps := ["self", "place"]) 1 ["place"] (fun vs _ zs => vs ++ zs) (by simp) (fun r1 _ r3 => r1.append r3) (fun T kV doc pm an cdv ct us its ws h1 h2 h3 => match us, h1, its, h2, ws, h3 with | [u], _, [i], _, [v], _ => kbk_BadTalk T kV doc pm an cdv ct u v i)
  obtain ⟨i3, b3⟩ := F.kbindsD (ps := ["self", "place"]) 1 [] (fun vs ds _ => vs ++ ds) (by simp) (fun r1 r2 _ => r1.append r2) (fun T kV doc pm an cdv ct us its ws h1 h2 h3 => match us, h1, its, h2, ws, h3 with | [u], _, [i], _, [], _ => kbn_BadTalk T kV doc pm an cdv ct u i)
  exact ⟨_, _, fd, W.mgc "BadTalk" rfl, ⟨_, _, _, _, T.ek⟩, T.iC, T.tI, FO, ⟨_, _, b1, fun _ _ => rfl⟩, ⟨_, _, b2, fun _ _ => rfl⟩, fun _ => ⟨_, _, b3, fun _ => rfl⟩⟩
theorem kbp_BadCheat (T : Addr) (kV doc pm : Value) (an : Option Addr) (cdv ct u v i : Value) : ∃ k, bindArgs (PySem.W.fnOf "__init__" "BadCheat.__init__" a_i_BadCheat b_i_BadCheat k_i_BadCheat (.ref T) kV doc pm an cdv ct) ⟨[u, v], []⟩ = seqItems? (.ref T) >>= k ∧ k (some #[i]) = pure ([("self", u), ("place", v)] : List (Str × Value)) := by
  refine ⟨?k, ?e1, ?e2⟩
  case e1 => unfold bindArgs; exact rfl
  case e2 => exact rfl
theorem kbk_BadCheat (T : Addr) (kV doc pm : Value) (an : Option Addr) (cdv ct u v i : Value) : ∃ k, bindArgs (PySem.W.fnOf "__init__" "BadCheat.__init__" a_i_BadCheat b_i_BadCheat k_i_BadCheat (.ref T) kV doc pm an cdv ct) ⟨[u], [("place", v)]⟩ = seqItems? (.ref T) >>= k ∧ k (some #[i]) = pure ([("self", u), ("place", v)] : List (Str × Value)) := by
  refine ⟨?k, ?e1, ?e2⟩
  case e1 => unfold bindArgs; exact rfl
  case e2 => exact rfl
theorem kbn_BadCheat (T : Addr) (kV doc pm : Value) (an : Option Addr) (cdv ct u i : Value) : ∃ k, bindArgs (PySem.W.fnOf "__init__" "BadCheat.__init__" a_i_BadCheat b_i_BadCheat k_i_BadCheat (.ref T) kV doc pm an cdv ct) ⟨[u], []⟩ = seqItems? (.ref T) >>= k ∧ k (some #[i]) = pure ([("self", u), ("place", i)] : List (Str × Value)) := by
  refine ⟨?k, ?e1, ?e2⟩
  case e1 => unfold bindArgs; exact rfl
  case e2 => exact rfl
theorem sc_i_BadCheat : FnScope ["self", "place"] ["self", "place"] k_i_BadCheat := ⟨rfl, rfl, rfl, by decide +kernel, rfl, by decide +kernel, by decide +kernel⟩
theorem ok_mk_BadCheat (W : Fx K mg) {fd : FuncData} (F : FunD K "__init__" "BadCheat.__init__" a_i_BadCheat b_i_BadCheat k_i_BadCheat [V.non] [] (He.fAd K ("BadCheat", some "__init__")) fd) : MkC P w K mg base true "BadCheat" "place" "no such cheat" := by
  have T := W.cl_ValueError_place "BadCheat" rfl
  have FO : FnOk P w K mg base (CX P w) 1 (He.fAd K ("BadCheat", some "__init__")) fd ["self", "place"] (spI (He.ga K "BadCheat") "place" "no such cheat") := by
    refine F.ok sc_i_BadCheat (fun vs H Q E h => ?_) (fun cdv A outer s1 H vs Q E hr h => ⟨_, PSs.nox ?_, init_read rfl T.ek T.no h⟩)
    rotate_left
    · exact pss_cons (ps_expr (pe_biOwn rfl (W.glo "RunError" rfl) W.ba1 W.ba2 W.ba3 (pa_cons (pv 0) (pa_cons pe_str pa_nil)) (by decide) (by rfl) (hp := by decide +kernel))) (pss_one (ps_ff (pv 0) (pv 1)))
    obtain ⟨_, _, rfl, _⟩ := h
    rfl
  obtain ⟨i1, b1⟩ := F.kbindsD (ps := ["self", "place"]) 2 [] (fun vs _ _ => vs) (by simp) (fun r1 _ _ => r1) (fun T kV doc pm an cdv ct us its ws h1 h2 h3 => match us, h1, its, h2, ws, h3 with | [u, v], _, [i], _, [], _ => kbp_BadCheat T kV doc pm an cdv ct u v i)
  obtain ⟨i2, b2⟩ := F.kbindsD (ps := ["self", "place"]) 1 ["place"] (fun vs _ zs => vs ++ zs) (by simp) (fun r1 _ r3 => r1.append r3) (fun T kV doc pm an cdv ct us its ws h1 h2 h3 => match us, h1, its, h2, ws, h3 with | [u], _, [i], _, [v], _ => kbk_BadCheat T kV doc pm an cdv ct u v i)
  obtain ⟨i3, b3⟩ := F.kbindsD (ps := ["self", "place"]) 1 [] (fun vs ds _ => vs ++ ds) (by simp) (fun r1 r2 _ => r1.append r2) (fun T kV doc pm an cdv ct us its ws h1 h2 h3 => match us, h1, its, h2, ws, h3 with | [u], _, [i], _, [], _ => kbn_BadCheat T kV doc pm an cdv ct u i)
  exact ⟨_, _, fd, W.mgc "BadCheat" rfl, ⟨_, _, _, _, T.ek⟩, T.iC, T.tI, FO, ⟨_, _, b1, fun _ _ => rfl⟩, ⟨_, _, b2, fun _ _ => rfl⟩, fun _ => ⟨_, _, b3, fun _ => rfl⟩⟩
theorem kbp_BadCode (T : Addr) (kV doc pm : Value) (an : Option Addr) (cdv ct u v i : Value) : ∃ k, bindArgs (PySem.W.fnOf "__init__" "BadCode.__init__" a_i_BadCode b_i_BadCode k_i_BadCode (.ref T) kV doc pm an cdv ct) ⟨[u, v], []⟩ = seqItems? (.ref T) >>= k ∧ k (some #[i]) = pure ([("self", u), ("place", v)] : List (Str × Value)) := by
  refine ⟨?k, ?e1, ?e2⟩
  case e1 => unfold bindArgs; exact rfl
  case e2 => exact rfl
theorem kbk_BadCode (T : Addr) (kV doc pm : Value) (an : Option Addr) (cdv ct u v i : Value) : ∃ k, bindArgs (PySem.W.fnOf "__init__" "BadCode.__init__" a_i_BadCode b_i_BadCode k_i_BadCode (.ref T) kV doc pm an cdv ct) ⟨[u], [("place", v)]⟩ = seqItems? (.ref T) >>= k ∧ k (some #[i]) = pure ([("self", u), ("place", v)] : List (Str × Value)) := by
  refine ⟨?k, ?e1, ?e2⟩
  case e1 => unfold bindArgs; exact rfl
  case e2 => exact rfl
theorem kbn_BadCode (T : Addr) (kV doc pm : Value) (an : Option Addr) (cdv ct u i : Value) : ∃ k, bindArgs (PySem.W.fnOf "__init__" "BadCode.__init__" a_i_BadCode b_i_BadCode k_i_BadCode (.ref T) kV doc pm an cdv ct) ⟨[u], []⟩ = seqItems? (.ref T) >>= k ∧ k (some #[i]) = pure ([("self", u), ("place", i)] : List (Str × Value)) := by
  refine ⟨?k, ?e1, ?e2⟩
  case e1 => unfold bindArgs; exact rfl
  case e2 => exact rfl
theorem sc_i_BadCode : FnScope ["self", "place"] ["self", "place"] k_i_BadCode := ⟨rfl, rfl, rfl, by decide +kernel, rfl, by decide +kernel, by decide +kernel⟩
theorem ok_mk_BadCode (W : Fx K mg) {fd : FuncData} (F : FunD K "__init__" "BadCode.__init__" a_i_BadCode b_i_BadCode k_i_BadCode [V.non] [] (He.fAd K ("BadCode", some "__init__")) fd) : MkC P w K mg base true "BadCode" "place" "no such row" := by
  have T := W.cl_ValueError_place "BadCode" rfl
  have FO : FnOk P w K mg base (CX P w) 1 (He.fAd K ("BadCode", some "__init__")) fd ["self", "place"] (spI (He.ga K "BadCode") "place" "no such row") := by
    refine F.ok sc_i_BadCode (fun vs H Q E h => ?_) (fun cdv A outer s1 H vs Q E hr h => ⟨_, PSs.nox ?_, init_read rfl T.ek T.no h⟩)
    rotate_left
    · exact pss_cons (ps_expr (pe_biOwn rfl (W.glo "RunError" rfl) W.ba1 W.ba2 W.ba3 (pa_cons (pv 0) (pa_cons pe_str pa_nil)) (by decide) (by rfl) (hp := by decide +kernel))) (pss_one (ps_ff (pv 0) (pv 1)))
    obtain ⟨_, _, rfl, _⟩ := h
    rfl
  obtain ⟨i1, b1⟩ := F.kbindsD (ps := ["self", "place"]) 2 [] (fun vs _ _ => vs) (by simp) (fun r1 _ _ => r1) (fun T kV doc pm an cdv ct us its ws h1 h2 h3 => match us, h1, its, h2, ws, h3 with | [u, v], _, [i], _, [], _ => kbp_BadCode T kV doc pm an cdv ct u v i)
  obtain ⟨i2, b2⟩ := F.kbindsD (ps := ["self", "place"]) 1 ["place"] (fun vs _ zs => vs ++ zs) (by simp) (fun r1 _ r3 => r1.append r3) (fun T kV doc pm an cdv ct us its ws h1 h2 h3 => match us, h1, its, h2, ws, h3 with | [u], _, [i], _, [v], _ => kbk_BadCode T kV doc pm an cdv ct u v i)
  obtain ⟨i3, b3⟩ := F.kbindsD (ps := ["self", "place"]) 1 [] (fun vs ds _ => vs ++ ds) (by simp) (fun r1 r2 _ => r1.append r2) (fun T kV doc pm an cdv ct us its ws h1 h2 h3 => match us, h1, its, h2, ws, h3 with | [u], _, [i], _, [], _ => kbn_BadCode T kV doc pm an cdv ct u i)
  exact ⟨_, _, fd, W.mgc "BadCode" rfl, ⟨_, _, _, _, T.ek⟩, T.iC, T.tI, FO, ⟨_, _, b1, fun _ _ => rfl⟩, ⟨_, _, b2, fun _ _ => rfl⟩, fun _ => ⟨_, _, b3, fun _ => rfl⟩⟩
theorem kbp_BadWord (T : Addr) (kV doc pm : Value) (an : Option Addr) (cdv ct u v i : Value) : ∃ k, bindArgs (PySem.W.fnOf "__init__" "BadWord.__init__" a_i_BadWord b_i_BadWord k_i_BadWord (.ref T) kV doc pm an cdv ct) ⟨[u, v], []⟩ = seqItems? (.ref T) >>= k ∧ k (some #[i]) = pure ([("self", u), ("place", v)] : List (Str × Value)) := by
  refine ⟨?k, ?e1, ?e2⟩
  case e1 => unfold bindArgs; exact rfl
  case e2 => exact rfl
theorem kbk_BadWord (T : Addr) (kV doc pm : Value) (an : Option Addr) (cdv ct u v i : Value) : ∃ k, bindArgs (PySem.W.fnOf "__init__" "BadWord.__init__" a_i_BadWord b_i_BadWord k_i_BadWord (.ref T) kV doc pm an cdv ct) ⟨[u], [("place", v)]⟩ = seqItems? (.ref T) >>= k ∧ k (some #[i]) = pure ([("self", u), ("place", v)] : List (Str × Value)) := by
  refine ⟨?k, ?e1, ?e2⟩
  case e1 => unfold bindArgs; exact rfl
  case e2 => exact rfl
theorem kbn_BadWord (T : Addr) (kV doc pm : Value) (an : Option Addr) (cdv ct u i : Value) : ∃ k, bindArgs (PySem.W.fnOf "__init__" "BadWord.__init__" a_i_BadWord b_i_BadWord k_i_BadWord (.ref T) kV doc pm an cdv ct) ⟨[u], []⟩ = seqItems? (.ref T) >>= k ∧ k (some #[i]) = pure ([("self", u), ("place", i)] : List (Str × Value)) := by
  refine ⟨?k, ?e1, ?e2⟩
  case e1 => unfold bindArgs; exact rfl
  case e2 => exact rfl
theorem sc_i_BadWord : FnScope ["self", "place"] ["self", "place"] k_i_BadWord := ⟨rfl, rfl, rfl, by decide +kernel, rfl, by decide +kernel, by decide +kernel⟩
theorem ok_mk_BadWord (W : Fx K mg) {fd : FuncData} (F : FunD K "__init__" "BadWord.__init__" a_i_BadWord b_i_BadWord k_i_BadWord [V.non] [] (He.fAd K ("BadWord", some "__init__")) fd) : MkC P w K mg base true "BadWord" "place" "no such word" := by
  have T := W.cl_ValueError_place "BadWord" rfl
  have FO : FnOk P w K mg base (CX P w) 1 (He.fAd K ("BadWord", some "__init__")) fd ["self", "place"] (spI (He.ga K "BadWord") "place" "no such word") := by
    refine F.ok sc_i_BadWord (fun vs H Q E h => ?_) (fun cdv A outer s1 H vs Q E hr h => ⟨_, PSs.nox ?_, init_read rfl T.ek T.no h⟩)
    rotate_left
    · exact pss_cons (ps_expr (pe_biOwn rfl (W.glo "RunError" rfl) W.ba1 W.ba2 W.ba3 (pa_cons (pv 0) (pa_cons pe_str pa_nil)) (by decide) (by rfl) (hp := by decide +kernel))) (pss_one (ps_ff (pv 0) (pv 1)))
    obtain ⟨_, _, rfl, _⟩ := h
    rfl
  obtain ⟨i1, b1⟩ := F.kbindsD (ps := ["self", "place"]) 2 [] (fun vs _ _ => vs) (by simp) (fun r1 _ _ => r1) (fun T kV doc pm an cdv ct us its ws h1 h2 h3 => match us, h1, its, h2, ws, h3 with | [u, v], _, [i], _, [], _ => kbp_BadWord T kV doc pm an cdv ct u v i)
  obtain ⟨i2, b2⟩ := F.kbindsD (ps := ["self", "place"]) 1 ["place"] (fun vs _ zs => vs ++ zs) (by simp) (fun r1 _ r3 => r1.append r3) (fun T kV doc pm an cdv ct us its ws h1 h2 h3 => match us, h1, its, h2, ws, h3 with | [u], _, [i], _, [v], _ => kbk_BadWord T kV doc pm an cdv ct u v i)
  obtain ⟨i3, b3⟩ := F.kbindsD (ps := ["self", "place"]) 1 [] (fun vs ds _ => vs ++ ds) (by simp) (fun r1 r2 _ => r1.append r2) (fun T kV doc pm an cdv ct us its ws h1 h2 h3 => match us, h1, its, h2, ws, h3 with | [u], _, [i], _, [], _ => kbn_BadWord T kV doc pm an cdv ct u i)
  exact ⟨_, _, fd, W.mgc "BadWord" rfl, ⟨_, _, _, _, T.ek⟩, T.iC, T.tI, FO, ⟨_, _, b1, fun _ _ => rfl⟩, ⟨_, _, b2, fun _ _ => rfl⟩, fun _ => ⟨_, _, b3, fun _ => rfl⟩⟩
theorem kbp_BadTree (T : Addr) (kV doc pm : Value) (an : Option Addr) (cdv ct u v i : Value) : ∃ k, bindArgs (PySem.W.fnOf "__init__" "BadTree.__init__" a_i_BadTree b_i_BadTree k_i_BadTree (.ref T) kV doc pm an cdv ct) ⟨[u, v], []⟩ = seqItems? (.ref T) >>= k ∧ k (some #[i]) = pure ([("self", u), ("place", v)] : List (Str × Value)) := by
  refine ⟨?k, ?e1, ?e2⟩
  case e1 => unfold bindArgs; exact rfl
  case e2 => exact rfl
theorem kbk_BadTree (T : Addr) (kV doc pm : Value) (an : Option Addr) (cdv ct u v i : Value) : ∃ k, bindArgs (PySem.W.fnOf "__init__" "BadTree.__init__" a_i_BadTree b_i_BadTree k_i_BadTree (.ref T) kV doc pm an cdv ct) ⟨[u], [("place", v)]⟩ = seqItems? (.ref T) >>= k ∧ k (some #[i]) = pure ([("self", u), ("place", v)] : List (Str × Value)) := by
  refine ⟨?k, ?e1, ?e2⟩
  case e1 => unfold bindArgs; exact rfl
  case e2 => exact rfl
theorem kbn_BadTree (T : Addr) (kV doc pm : Value) (an : Option Addr) (cdv ct u i : Value) : ∃ k, bindArgs (PySem.W.fnOf "__init__" "BadTree.__init__" a_i_BadTree b_i_BadTree k_i_BadTree (.ref T) kV doc pm an cdv ct) ⟨[u], []⟩ = seqItems? (.ref T) >>= k ∧ k (some #[i]) = pure ([("self", u), ("place", i)] : List (Str × Value)) := by
  refine ⟨?k, ?e1, ?e2⟩
  case e1 => unfold bindArgs; exact rfl
  case e2 => exact rfl
theorem sc_i_BadTree : FnScope ["self", "place"] ["self", "place"] k_i_BadTree := ⟨rfl, rfl, rfl, by decide +kernel, rfl, by decide +kernel, by decide +kernel⟩
theorem ok_mk_BadTree (W : Fx K mg) {fd : FuncData} (F : FunD K "__init__" "BadTree.__init__" a_i_BadTree b_i_BadTree k_i_BadTree [V.non] [] (He.fAd K ("BadTree", some "__init__")) fd) : MkC P w K mg base true "BadTree" "place" "no such tree" := by
  have T := W.cl_ValueError_place "BadTree" rfl
  have FO : FnOk P w K mg base (CX P w) 1 (He.fAd K ("BadTree", some "__init__")) fd ["self", "place"] (spI (He.ga K "BadTree") "place" "no such tree") := by
    refine F.ok sc_i_BadTree (fun vs H Q E h => ?_) (fun cdv A outer s1 H vs Q E hr h => ⟨_, PSs.nox ?_, init_read rfl T.ek T.no h⟩)
    rotate_left
    · exact pss_cons (ps_expr (pe_biOwn rfl (W.glo "RunError" rfl) W.ba1 W.ba2 W.ba3 (pa_cons (pv 0) (pa_cons pe_str pa_nil)) (by decide) (by rfl) (hp := by decide +kernel))) (pss_one (ps_ff (pv 0) (pv 1)))
    obtain ⟨_, _, rfl, _⟩ := h
    rfl
  obtain ⟨i1, b1⟩ := F.kbindsD (ps := ["self", "place"]) 2 [] (fun vs _ _ => vs) (by simp) (fun r1 _ _ => r1) (fun T kV doc pm an cdv ct us its ws h1 h2 h3 => match us, h1, its, h2, ws, h3 with | [u, v], _, [i], _, [], _ => kbp_BadTree T kV doc pm an cdv ct u v i)
  obtain ⟨i2, b2⟩ := F.kbindsD (ps := ["self", "place"]) 1 ["place"] (fun vs _ zs => vs ++ zs) (by simp) (fun r1 _ r3 => r1.append r3) (fun T kV doc pm an cdv ct us its ws h1 h2 h3 => match us, h1, its, h2, ws, h3 with | [u], _, [i], _, [v], _ => kbk_BadTree T kV doc pm an cdv ct u v i)
  obtain ⟨i3, b3⟩ := F.kbindsD (ps := ["self", "place"]) 1 [] (fun vs ds _ => vs ++ ds) (by simp) (fun r1 r2 _ => r1.append r2) (fun T kV doc pm an cdv ct us its ws h1 h2 h3 => match us, h1, its, h2, ws, h3 with | [u], _, [i], _, [], _ => kbn_BadTree T kV doc pm an cdv ct u i)
  exact ⟨_, _, fd, W.mgc "BadTree" rfl, ⟨_, _, _, _, T.ek⟩, T.iC, T.tI, FO, ⟨_, _, b1, fun _ _ => rfl⟩, ⟨_, _, b2, fun _ _ => rfl⟩, fun _ => ⟨_, _, b3, fun _ => rfl⟩⟩
theorem kbp_BadMachine (T : Addr) (kV doc pm : Value) (an : Option Addr) (cdv ct u v i : Value) : ∃ k, bindArgs (PySem.W.fnOf "__init__" "BadMachine.__init__" a_i_BadMachine b_i_BadMachine k_i_BadMachine (.ref T) kV doc pm an cdv ct) ⟨[u, v], []⟩ = seqItems? (.ref T) >>= k ∧ k (some #[i]) = pure ([("self", u), ("place", v)] : List (Str × Value)) := by
  refine ⟨?k, ?e1, ?e2⟩
  case e1 => unfold bindArgs; exact rfl
  case e2 => exact rfl
theorem kbk_BadMachine (T : Addr) (kV doc pm : Value) (an : Option Addr) (cdv ct u v i : Value) : ∃ k, bindArgs (PySem.W.fnOf "__init__" "BadMachine.__init__" a_i_BadMachine b_i_BadMachine k_i_BadMachine (.ref T) kV doc pm an cdv ct) ⟨[u], [("place", v)]⟩ = seqItems? (.ref T) >>= k ∧ k (some #[i]) = pure ([("self", u), ("place", v)] : List (Str × Value)) := by
  refine ⟨?k, ?e1, ?e2⟩
  case e1 => unfold bindArgs; exact rfl
  case e2 => exact rfl
theorem kbn_BadMachine (T : Addr) (kV doc pm : Value) (an : Option Addr) (cdv ct u i : Value) : ∃ k, bindArgs (PySem.W.fnOf "__init__" "BadMachine.__init__" a_i_BadMachine b_i_BadMachine k_i_BadMachine (.ref T) kV doc pm an cdv ct) ⟨[u], []⟩ = seqItems? (.ref T) >>= k ∧ k (some #[i]) = pure ([("self", u), ("place", i)] : List (Str × Value)) := by
  refine ⟨?k, ?e1, ?e2⟩
  case e1 => unfold bindArgs; exact rfl
  case e2 => exact rfl
theorem sc_i_BadMachine : FnScope ["self", "place"] ["self", "place"] k_i_BadMachine := ⟨rfl, rfl, rfl, by decide +kernel, rfl, by decide +kernel, by decide +kernel⟩
theorem ok_mk_BadMachine (W : Fx K mg) {fd : FuncData} (F : FunD K "__init__" "BadMachine.__init__" a_i_BadMachine b_i_BadMachine k_i_BadMachine [V.non] [] (He.fAd K ("BadMachine", some "__init__")) fd) : MkC P w K mg base true "BadMachine" "place" "no such machine" := by
  have T := W.cl_ValueError_place "BadMachine" rfl
  have FO : FnOk P w K mg base (CX P w) 1 (He.fAd K ("BadMachine", some "__init__")) fd ["self", "place"] (spI (He.ga K "BadMachine") "place" "no such machine") := by
    refine F.ok sc_i_BadMachine (fun vs H Q E h => ?_) (fun cdv A outer s1 H vs Q E hr h => ⟨_, PSs.nox ?_, init_read rfl T.ek T.no h⟩)
    rotate_left
    · exact pss_cons (ps_expr (pe_biOwn rfl (W.glo "RunError" rfl) W.ba1 W.ba2 W.ba3 (pa_cons (pv 0) (pa_cons pe_str pa_nil)) (by decide) (by rfl) (hp := by decide +kernel))) (pss_one (ps_ff (pv 0) (pv 1)))
    obtain ⟨_, _, rfl, _⟩ := h
    rfl
  obtain ⟨i1, b1⟩ := F.kbindsD (ps := ["self", "place"]) 2 [] (fun vs _ _ => vs) (by simp) (fun r1 _ _ => r1) (fun T kV doc pm an cdv ct us its ws h1 h2 h3 => match us, h1, its, h2, ws, h3 with | [u, v], _, [i], _, [], _ => kbp_BadMachine T kV doc pm an cdv ct u v i)
  obtain ⟨i2, b2⟩ := F.kbindsD (ps := ["self", "place"]) 1 ["place"] (fun vs _ zs => vs ++ zs) (by simp) (fun r1 _ r3 => r1.append r3) (fun T kV doc pm an cdv ct us its ws h1 h2 h3 => match us, h1, its, h2, ws, h3 with | [u], _, [i], _, [v], _ => kbk_BadMachine T kV doc pm an cdv ct u v i)
  obtain ⟨i3, b3⟩ := F.kbindsD (ps := ["self", "place"]) 1 [] (fun vs ds _ => vs ++ ds) (by simp) (fun r1 r2 _ => r1.append r2) (fun T kV doc pm an cdv ct us its ws h1 h2 h3 => match us, h1, its, h2, ws, h3 with | [u], _, [i], _, [], _ => kbn_BadMachine T kV doc pm an cdv ct u i)
  exact ⟨_, _, fd, W.mgc "BadMachine" rfl, ⟨_, _, _, _, T.ek⟩, T.iC, T.tI, FO, ⟨_, _, b1, fun _ _ => rfl⟩, ⟨_, _, b2, fun _ _ => rfl⟩, fun _ => ⟨_, _, b3, fun _ => rfl⟩⟩
theorem kbp_BadBatch (T : Addr) (kV doc pm : Value) (an : Option Addr) (cdv ct u v i : Value) : ∃ k, bindArgs (PySem.W.fnOf "__init__" "BadBatch.__init__" a_i_BadBatch b_i_BadBatch k_i_BadBatch (.ref T) kV doc pm an cdv ct) ⟨[u, v], []⟩ = seqItems? (.ref T) >>= k ∧ k (some #[i]) = pure ([("self", u), ("place", v)] : List (Str × Value)) := by
  refine ⟨?k, ?e1, ?e2⟩
  case e1 => unfold bindArgs; exact rfl
  case e2 => exact rfl
theorem kbk_BadBatch (T : Addr) (kV doc pm : Value) (an : Option Addr) (cdv ct u v i : Value) : ∃ k, bindArgs (PySem.W.fnOf "__init__" "BadBatch.__init__" a_i_BadBatch b_i_BadBatch k_i_BadBatch (.ref T) kV doc pm an cdv ct) ⟨[u], [("place", v)]⟩ = seqItems? (.ref T) >>= k ∧ k (some #[i]) = pure ([("self", u), ("place", v)] : List (Str × Value)) := by
  refine ⟨?k, ?e1, ?e2⟩
  case e1 => unfold bindArgs; exact rfl
  case e2 => exact rfl
theorem kbn_BadBatch (T : Addr) (kV doc pm : Value) (an : Option Addr) (cdv ct u i : Value) : ∃ k, bindArgs (PySem.W.fnOf "__init__" "BadBatch.__init__" a_i_BadBatch b_i_BadBatch k_i_BadBatch (.ref T) kV doc pm an cdv ct) ⟨[u], []⟩ = seqItems? (.ref T) >>= k ∧ k (some #[i]) = pure ([("self", u), ("place", i)] : List (Str × Value)) := by
  refine ⟨?k, ?e1, ?e2⟩
  case e1 => unfold bindArgs; exact rfl
  case e2 => exact rfl
theorem sc_i_BadBatch : FnScope ["self", "place"] ["self", "place"] k_i_BadBatch := ⟨rfl, rfl, rfl, by decide +kernel, rfl, by decide +kernel, by decide +kernel⟩
theorem ok_mk_BadBatch (W : Fx K mg) {fd : FuncData} (F : FunD K "__init__" "BadBatch.__init__" a_i_BadBatch b_i_BadBatch k_i_BadBatch [V.non] [] (He.fAd K ("BadBatch", some "__init__")) fd) : MkC P w K mg base true "BadBatch" "place" "no such batch" := by
  have T := W.cl_ValueError_place "BadBatch" rfl
  have FO : FnOk P w K mg base (CX P w) 1 (He.fAd K ("BadBatch", some "__init__")) fd ["self", "place"] (spI (He.ga K "BadBatch") "place" "no such batch") := by
    refine F.ok sc_i_BadBatch (fun vs H Q E h => ?_) (fun cdv A outer s1 H vs Q E hr h => ⟨_, PSs.nox ?_, init_read rfl T.ek T.no h⟩)
    rotate_left
    · exact pss_cons (ps_expr (pe_biOwn rfl (W.glo "RunError" rfl) W.ba1 W.ba2 W.ba3 (pa_cons (pv 0) (pa_cons pe_str pa_nil)) (by decide) (by rfl) (hp := by decide +kernel))) (pss_one (ps_ff (pv 0) (pv 1)))
    obtain ⟨_, _, rfl, _⟩ := h
    rfl
  obtain ⟨i1, b1⟩ := F.kbindsD (ps := ["self", "place"]) 2 [] (fun vs _ _ => vs) (by simp) (fun r1 _ _ => r1) (fun T kV doc pm an cdv ct us its ws h1 h2 h3 => match us, h1, its, h2, ws, h3 with | [u, v], _, [i], _, [], _ => kbp_BadBatch T kV doc pm an cdv ct u v i)
  obtain ⟨i2, b2⟩ := F.kbindsD (ps := ["self", "place"]) 1 ["place"] (fun vs _ zs => vs ++ zs) (by simp) (fun r1 _ r3 => r1.append r3) (fun T kV doc pm an cdv ct us its ws h1 h2 h3 => match us, h1, its, h2, ws, h3 with | [u], _, [i], _, [v], _ => kbk_BadBatch T kV doc pm an cdv ct u v i)
  obtain ⟨i3, b3⟩ := F.kbindsD (ps := ["self", "place"]) 1 [] (fun vs ds _ => vs ++ ds) (by simp) (fun r1 r2 _ => r1.append r2) (fun T kV doc pm an cdv ct us its ws h1 h2 h3 => match us, h1, its, h2, ws, h3 with | [u], _, [i], _, [], _ => kbn_BadBatch T kV doc pm an cdv ct u i)
  exact ⟨_, _, fd, W.mgc "BadBatch" rfl, ⟨_, _, _, _, T.ek⟩, T.iC, T.tI, FO, ⟨_, _, b1, fun _ _ => rfl⟩, ⟨_, _, b2, fun _ _ => rfl⟩, fun _ => ⟨_, _, b3, fun _ => rfl⟩⟩
theorem kbp_BadText (T : Addr) (kV doc pm : Value) (an : Option Addr) (cdv ct u v i : Value) : ∃ k, bindArgs (PySem.W.fnOf "__init__" "BadText.__init__" a_i_BadText b_i_BadText k_i_BadText (.ref T) kV doc pm an cdv ct) ⟨[u, v], []⟩ = seqItems? (.ref T) >>= k ∧ k (some #[i]) = pure ([("self", u), ("place", v)] : List (Str × Value)) := by
  refine ⟨?k, ?e1, ?e2⟩
  case e1 => unfold bindArgs; exact rfl
  case e2 => exact rfl
theorem kbk_BadText (T : Addr) (kV doc pm : Value) (an : Option Addr) (cdv ct u v i : Value) : ∃ k, bindArgs (PySem.W.fnOf "__init__" "BadText.__init__" a_i_BadText b_i_BadText k_i_BadText (.ref T) kV doc pm an cdv ct) ⟨[u], [("place", v)]⟩ = seqItems? (.ref T) >>= k ∧ k (some #[i]) = pure ([("self", u), ("place", v)] : List (Str × Value)) := by
  refine ⟨?k, ?e1, ?e2⟩
  case e1 => unfold bindArgs; exact rfl
  case e2 => exact rfl
theorem kbn_BadText (T : Addr) (kV doc pm : Value) (an : Option Addr) (cdv ct u i : Value) : ∃ k, bindArgs (PySem.W.fnOf "__init__" "BadText.__init__" a_i_BadText b_i_BadText k_i_BadText (.ref T) kV doc pm an cdv ct) ⟨[u], []⟩ = seqItems? (.ref T) >>= k ∧ k (some #[i]) = pure ([("self", u), ("place", i)] : List (Str × Value)) := by
  refine ⟨?k, ?e1, ?e2⟩
  case e1 => unfold bindArgs; exact rfl
  case e2 => exact rfl
theorem sc_i_BadText : FnScope ["self", "place"] ["self", "place"] k_i_BadText := ⟨rfl, rfl, rfl, by decide +kernel, rfl, by decide +kernel, by decide +kernel⟩
theorem ok_mk_BadText (W : Fx K mg) {fd : FuncData} (F : FunD K "__init__" "BadText.__init__" a_i_BadText b_i_BadText k_i_BadText [V.non] [] (He.fAd K ("BadText", some "__init__")) fd) : MkC P w K mg base true "BadText" "place" "no such text" := by
  have T := W.cl_ValueError_place "BadText" rfl
  have FO : FnOk P w K mg base (CX P w) 1 (He.fAd K ("BadText", some "__init__")) fd ["self", "place"] (spI (He.ga K "BadText") "place" "no such text") := by
    refine F.ok sc_i_BadText (fun vs H Q E h => ?_) (fun cdv A outer s1 H vs Q E hr h => ⟨_, PSs.nox ?_, init_read rfl T.ek T.no h⟩)
    rotate_left
    · exact pss_cons (ps_expr (pe_biOwn rfl (W.glo "RunError" rfl) W.ba1 W.ba2 W.ba3 (pa_cons (pv 0) (pa_cons pe_str pa_nil)) (by decide) (by rfl) (hp := by decide +kernel))) (pss_one (ps_ff (pv 0) (pv 1)))
    obtain ⟨_, _, rfl, _⟩ := h
    rfl
  obtain ⟨i1, b1⟩ := F.kbindsD (ps := ["self", "place"]) 2 [] (fun vs _ _ => vs) (by simp) (fun r1 _ _ => r1) (fun T kV doc pm an cdv ct us its ws h1 h2 h3 => match us, h1, its, h2, ws, h3 with | [u, v], _, [i], _, [], _ => kbp_BadText T kV doc pm an cdv ct u v i)
  obtain ⟨i2, b2⟩ := F.kbindsD (ps := ["self", "place"]) 1 ["place"] (fun vs _ zs => vs ++ zs) (by simp) (fun r1 _ r3 => r1.append r3) (fun T kV doc pm an cdv ct us its ws h1 h2 h3 => match us, h1, its, h2, ws, h3 with | [u], _, [i], _, [v], _ => kbk_BadText T kV doc pm an cdv ct u v i)
  obtain ⟨i3, b3⟩ := F.kbindsD (ps := ["self", "place"]) 1 [] (fun vs ds _ => vs ++ ds) (by simp) (fun r1 r2 _ => r1.append r2) (fun T kV doc pm an cdv ct us its ws h1 h2 h3 => match us, h1, its, h2, ws, h3 with | [u], _, [i], _, [], _ => kbn_BadText T kV doc pm an cdv ct u i)
  exact ⟨_, _, fd, W.mgc "BadText" rfl, ⟨_, _, _, _, T.ek⟩, T.iC, T.tI, FO, ⟨_, _, b1, fun _ _ => rfl⟩, ⟨_, _, b2, fun _ _ => rfl⟩, fun _ => ⟨_, _, b3, fun _ => rfl⟩⟩
theorem kbp_BadBytes (T : Addr) (kV doc pm : Value) (an : Option Addr) (cdv ct u v i : Value) : ∃ k, bindArgs (PySem.W.fnOf "__init__" "BadBytes.__init__" a_i_BadBytes b_i_BadBytes k_i_BadBytes (.ref T) kV doc pm an cdv ct) ⟨[u, v], []⟩ = seqItems? (.ref T) >>= k ∧ k (some #[i]) = pure ([("self", u), ("place", v)] : List (Str × Value)) := by
  refine ⟨?k, ?e1, ?e2⟩
  case e1 => unfold bindArgs; exact rfl
  case e2 => exact rfl
theorem kbk_BadBytes (T : Addr) (kV doc pm : Value) (an : Option Addr) (cdv ct u v i : Value) : ∃ k, bindArgs (PySem.W.fnOf "__init__" "BadBytes.__init__" a_i_BadBytes b_i_BadBytes k_i_BadBytes (.ref T) kV doc pm an cdv ct) ⟨[u], [("place", v)]⟩ = seqItems? (.ref T) >>= k ∧ k (some #[i]) = pure ([("self", u), ("place", v)] : List (Str × Value)) := by
  refine ⟨?k, ?e1, ?e2⟩
  case e1 => unfold bindArgs; exact rfl
  case e2 => exact rfl
theorem kbn_BadBytes (T : Addr) (kV doc pm : Value) (an : Option Addr) (cdv ct u i : Value) : ∃ k, bindArgs (PySem.W.fnOf "__init__" "BadBytes.__init__" a_i_BadBytes b_i_BadBytes k_i_BadBytes (.ref T) kV doc pm an cdv ct) ⟨[u], []⟩ = seqItems? (.ref T) >>= k ∧ k (some #[i]) = pure ([("self", u), ("place", i)] : List (Str × Value)) := by
  refine ⟨?k, ?e1, ?e2⟩
  case e1 => unfold bindArgs; exact rfl
  case e2 => exact rfl
theorem sc_i_BadBytes : FnScope ["self", "place"] ["self", "place"] k_i_BadBytes := ⟨rfl, rfl, rfl, by decide +kernel, rfl, by decide +kernel, by decide +kernel⟩
theorem ok_mk_BadBytes (W : Fx K mg) {fd : FuncData} (F : FunD K "__init__" "BadBytes.__init__" a_i_BadBytes b_i_BadBytes k_i_BadBytes [V.non] [] (He.fAd K ("BadBytes", some "__init__")) fd) : MkC P w K mg base true "BadBytes" "place" "no such bytes" := by
  have T := W.cl_ValueError_place "BadBytes" rfl
  have FO : FnOk P w K mg base (CX P w) 1 (He.fAd K ("BadBytes", some "__init__")) fd ["self", "place"] (spI (He.ga K "BadBytes") "place" "no such bytes") := by
    refine F.ok sc_i_BadBytes (fun vs H Q E h => ?_) (fun cdv A outer s1 H vs Q E hr h => ⟨_, PSs.nox ?_, init_read rfl T.ek T.no h⟩)
    rotate_left
    · exact pss_cons (ps_expr (pe_biOwn rfl (W.glo "RunError" rfl) W.ba1 W.ba2 W.ba3 (pa_cons (pv 0) (pa_cons pe_str pa_nil)) (by decide) (by rfl) (hp := by decide +kernel))) (pss_one (ps_ff (pv 0) (pv 1)))
    obtain ⟨_, _, rfl, _⟩ := h
    rfl
  obtain ⟨i1, b1⟩ := F.kbindsD (ps := ["self", "place"]) 2 [] (fun vs _ _ => vs) (by simp) (fun r1 _ _ => r1) (fun T kV doc pm an cdv ct us its ws h1 h2 h3 => match us, h1, its, h2, ws, h3 with | [u, v], _, [i], _, [], _ => kbp_BadBytes T kV doc pm an cdv ct u v i)
  obtain ⟨i2, b2⟩ := F.kbindsD (ps := ["self", "place"]) 1 ["place"] (fun vs _ zs => vs ++ zs) (by simp) (fun r1 _ r3 => r1.append r3) (fun T kV doc pm an cdv ct us its ws h1 h2 h3 => match us, h1, its, h2, ws, h3 with | [u], _, [i], _, [v], _ => kbk_BadBytes T kV doc pm an cdv ct u v i)
  obtain ⟨i3, b3⟩ := F.kbindsD (ps := ["self", "place"]) 1 [] (fun vs ds _ => vs ++ ds) (by simp) (fun r1 r2 _ => r1.append r2) (fun T kV doc pm an cdv ct us its ws h1 h2 h3 => match us, h1, its, h2, ws, h3 with | [u], _, [i], _, [], _ => kbn_BadBytes T kV doc pm an cdv ct u i)
  exact ⟨_, _, fd, W.mgc "BadBytes" rfl, ⟨_, _, _, _, T.ek⟩, T.iC, T.tI, FO, ⟨_, _, b1, fun _ _ => rfl⟩, ⟨_, _, b2, fun _ _ => rfl⟩, fun _ => ⟨_, _, b3, fun _ => rfl⟩⟩
theorem kbp_BadPaper (T : Addr) (kV doc pm : Value) (an : Option Addr) (cdv ct u v i : Value) : ∃ k, bindArgs (PySem.W.fnOf "__init__" "BadPaper.__init__" a_i_BadPaper b_i_BadPaper k_i_BadPaper (.ref T) kV doc pm an cdv ct) ⟨[u, v], []⟩ = seqItems? (.ref T) >>= k ∧ k (some #[i]) = pure ([("self", u), ("place", v)] : List (Str × Value)) := by
  refine ⟨?k, ?e1, ?e2⟩
  case e1 => unfold bindArgs; exact rfl
  case e2 => exact rfl
theorem kbk_BadPaper (T : Addr) (kV doc pm : Value) (an : Option Addr) (cdv ct u v i : Value) : ∃ k, bindArgs (PySem.W.fnOf "__init__" "BadPaper.__init__" a_i_BadPaper b_i_BadPaper k_i_BadPaper (.ref T) kV doc pm an cdv ct) ⟨[u], [("place", v)]⟩ = seqItems? (.ref T) >>= k ∧ k (some #[i]) = pure ([("self", u), ("place", v)] : List (Str × Value)) := by
  refine ⟨?k, ?e1, ?e2⟩
  case e1 => unfold bindArgs; exact rfl
  case e2 => exact rfl
theorem kbn_BadPaper (T : Addr) (kV doc pm : Value) (an : Option Addr) (cdv ct u i : Value) : ∃ k, bindArgs (PySem.W.fnOf "__init__" "BadPaper.__init__" a_i_BadPaper b_i_BadPaper k_i_BadPaper (.ref T) kV doc pm an cdv ct) ⟨[u], []⟩ = seqItems? (.ref T) >>= k ∧ k (some #[i]) = pure ([("self", u), ("place", i)] : List (Str × Value)) := by
  refine ⟨?k, ?e1, ?e2⟩
  case e1 => unfold bindArgs; exact rfl
  case e2 => exact rfl
theorem sc_i_BadPaper : FnScope ["self", "place"] ["self", "place"] k_i_BadPaper := ⟨rfl, rfl, rfl, by decide +kernel, rfl, by decide +kernel, by decide +kernel⟩
theorem ok_mk_BadPaper (W : Fx K mg) {fd : FuncData} (F : FunD K "__init__" "BadPaper.__init__" a_i_BadPaper b_i_BadPaper k_i_BadPaper [V.non] [] (He.fAd K ("BadPaper", some "__init__")) fd) : MkC P w K mg base true "BadPaper" "place" "no such paper" := by
  have T := W.cl_ValueError_place "BadPaper" rfl
  have FO : FnOk P w K mg base (CX P w) 1 (He.fAd K ("BadPaper", some "__init__")) fd ["self", "place"] (spI (He.ga K "BadPaper") "place" "no such paper") := by
    refine F.ok sc_i_BadPaper (fun vs H Q E h => ?_) (fun cdv A outer s1 H vs Q E hr h => ⟨_, PSs.nox ?_, init_read rfl T.ek T.no h⟩)
    rotate_left
    · exact pss_cons (ps_expr (pe_biOwn rfl (W.glo "RunError" rfl) W.ba1 W.ba2 W.ba3 (pa_cons (pv 0) (pa_cons pe_str pa_nil)) (by decide) (by rfl) (hp := by decide +kernel))) (pss_one (ps_ff (pv 0) (pv 1)))
    obtain ⟨_, _, rfl, _⟩ := h
    rfl
  obtain ⟨i1, b1⟩ := F.kbindsD (ps := ["self", "place"]) 2 [] (fun vs _ _ => vs) (by simp) (fun r1 _ _ => r1) (fun T kV doc pm an cdv ct us its ws h1 h2 h3 => match us, h1, its, h2, ws, h3 with | [u, v], _, [i], _, [], _ => kbp_BadPaper T kV doc pm an cdv ct u v i)
  obtain ⟨i2, b2⟩ := F.kbindsD (ps := ["self", "place"]) 1 ["place"] (fun vs _ zs => vs ++ zs) (by simp) (fun r1 _ r3 => r1.append r3) (fun T kV doc pm an cdv ct us its ws h1 h2 h3 => match us, h1, its, h2, ws, h3 with | [u], _, [i], _, [v], _ => kbk_BadPaper T kV doc pm an cdv ct u v i)
  obtain ⟨i3, b3⟩ := F.kbindsD (ps := ["self", "place"]) 1 [] (fun vs ds _ => vs ++ ds) (by simp) (fun r1 r2 _ => r1.append r2) (fun T kV doc pm an cdv ct us its ws h1 h2 h3 => match us, h1, its, h2, ws, h3 with | [u], _, [i], _, [], _ => kbn_BadPaper T kV doc pm an cdv ct u i)
  exact ⟨_, _, fd, W.mgc "BadPaper" rfl, ⟨_, _, _, _, T.ek⟩, T.iC, T.tI, FO, ⟨_, _, b1, fun _ _ => rfl⟩, ⟨_, _, b2, fun _ _ => rfl⟩, fun _ => ⟨_, _, b3, fun _ => rfl⟩⟩
theorem kbp_BadDeed (T : Addr) (kV doc pm : Value) (an : Option Addr) (cdv ct u v i : Value) : ∃ k, bindArgs (PySem.W.fnOf "__init__" "BadDeed.__init__" a_i_BadDeed b_i_BadDeed k_i_BadDeed (.ref T) kV doc pm an cdv ct) ⟨[u, v], []⟩ = seqItems? (.ref T) >>= k ∧ k (some #[i]) = pure ([("self", u), ("place", v)] : List (Str × Value)) := by
  refine ⟨?k, ?e1, ?e2⟩
  case e1 => unfold bindArgs; exact rfl
  case e2 => exact rfl
theorem kbk_BadDeed (T : Addr) (kV doc pm : Value) (an : Option Addr) (cdv ct u v i : Value) : ∃ k, bindArgs (PySem.W.fnOf "__init__" "BadDeed.__init__" a_i_BadDeed b_i_BadDeed k_i_BadDeed (.ref T) kV doc pm an cdv ct) ⟨[u], [("place", v)]⟩ = seqItems? (.ref T) >>= k ∧ k (some #[i]) = pure ([("self", u), ("place", v)] : List (Str × Value)) := by
  refine ⟨?k, ?e1, ?e2⟩
  case e1 => unfold bindArgs; exact rfl
  case e2 => exact rfl
theorem kbn_BadDeed (T : Addr) (kV doc pm : Value) (an : Option Addr) (cdv ct u i : Value) : ∃ k, bindArgs (PySem.W.fnOf "__init__" "BadDeed.__init__" a_i_BadDeed b_i_BadDeed k_i_BadDeed (.ref T) kV doc pm an cdv ct) ⟨[u], []⟩ = seqItems? (.ref T) >>= k ∧ k (some #[i]) = pure ([("self", u), ("place", i)] : List (Str × Value)) := by
  refine ⟨?k, ?e1, ?e2⟩
  case e1 => unfold bindArgs; exact rfl
  case e2 => exact rfl
theorem sc_i_BadDeed : FnScope ["self", "place"] ["self", "place"] k_i_BadDeed := ⟨rfl, rfl, rfl, by decide +kernel, rfl, by decide +kernel, by decide +kernel⟩
theorem ok_mk_BadDeed (W : Fx K mg) {fd : FuncData} (F : FunD K "__init__" "BadDeed.__init__" a_i_BadDeed b_i_BadDeed k_i_BadDeed [V.non] [] (He.fAd K ("BadDeed", some "__init__")) fd) : MkC P w K mg base true "BadDeed" "place" "no such deed" := by
  have T := W.cl_ValueError_place "BadDeed" rfl
  have FO : FnOk P w K mg base (CX P w) 1 (He.fAd K ("BadDeed", some "__init__")) fd ["self", "place"] (spI (He.ga K "BadDeed") "place" "no such deed") := by
    refine F.ok sc_i_BadDeed (fun vs H Q E h => ?_) (fun cdv A outer s1 H vs Q E hr h => ⟨_, PSs.nox ?_, init_read rfl T.ek T.no h⟩)
    rotate_left
    · exact pss_cons (ps_expr (pe_biOwn rfl (W.glo "RunError" rfl) W.ba1 W.ba2 W.ba3 (pa_cons (pv 0) (pa_cons pe_str pa_nil)) (by decide) (by rfl) (hp := by decide +kernel))) (pss_one (ps_ff (pv 0) (pv 1)))
    obtain ⟨_, _, rfl, _⟩ := h
    rfl
  obtain ⟨i1, b1⟩ := F.kbindsD (ps := ["self", "place"]) 2 [] (fun vs _ _ => vs) (by simp) (fun r1 _ _ => r1) (fun T kV doc pm an cdv ct us its ws h1 h2 h3 => match us, h1, its, h2, ws, h3 with | [u, v], _, [i], _, [], _ => kbp_BadDeed T kV doc pm an cdv ct u v i)
  obtain ⟨i2, b2⟩ := F.kbindsD (ps := ["self", "place"]) 1 ["place"] (fun vs _ zs => vs ++ zs) (by simp) (fun r1 _ r3 => r1.append r3) (fun T kV doc pm an cdv ct us its ws h1 h2 h3 => match us, h1, its, h2, ws, h3 with | [u], _, [i], _, [v], _ => kbk_BadDeed T kV doc pm an cdv ct u v i)
  obtain ⟨i3, b3⟩ := F.kbindsD (ps := ["self", "place"]) 1 [] (fun vs ds _ => vs ++ ds) (by simp) (fun r1 r2 _ => r1.append r2) (fun T kV doc pm an cdv ct us its ws h1 h2 h3 => match us, h1, its, h2, ws, h3 with | [u], _, [i], _, [], _ => kbn_BadDeed T kV doc pm an cdv ct u i)
  exact ⟨_, _, fd, W.mgc "BadDeed" rfl, ⟨_, _, _, _, T.ek⟩, T.iC, T.tI, FO, ⟨_, _, b1, fun _ _ => rfl⟩, ⟨_, _, b2, fun _ _ => rfl⟩, fun _ => ⟨_, _, b3, fun _ => rfl⟩⟩
theorem sc_i_TooMany : FnScope ["self", "most"] ["self", "most"] k_i_TooMany := ⟨rfl, rfl, rfl, by decide +kernel, rfl, by decide +kernel, by decide +kernel⟩
theorem ok_mk_TooMany (W : Fx K mg) {fd : FuncData} (F : FunD K "__init__" "TooMany.__init__" a_i_TooMany b_i_TooMany k_i_TooMany [] [] (He.fAd K ("TooMany", some "__init__")) fd) : MkC P w K mg base false "TooMany" "most" "too many" := by
  have T := W.cl_OverflowError_most "TooMany" rfl
  have FO : FnOk P w K mg base (CX P w) 1 (He.fAd K ("TooMany", some "__init__")) fd ["self", "most"] (spI (He.ga K "TooMany") "most" "too many") := by
    refine F.ok sc_i_TooMany (fun vs H Q E h => ?_) (fun cdv A outer s1 H vs Q E hr h => ⟨_, PSs.nox ?_, init_read rfl T.ek T.no h⟩)
    rotate_left
    · exact pss_cons (ps_expr (pe_biTy rfl (W.free "OverflowError" rfl) (by rfl) (by decide) (by decide) (by first | rfl | kernel_rfl) (by decide +kernel) W.ba_OverflowError (pa_cons (pv 0) (pa_cons pe_str pa_nil)) (by rfl) (hp := by decide +kernel))) (pss_one (ps_ff (pv 0) (pv 1)))
    obtain ⟨_, _, rfl, _⟩ := h
    rfl
  have b1 := kbn0 (ps := ["self", "most"]) F 2 [] (fun vs _ => vs) (fun r1 _ => r1) (fun kV doc pm an cdv ct us ws h1 h2 => match us, h1, ws, h2 with | [_, _], _, [], _ => rfl)
  have b2 := kbn0 (ps := ["self", "most"]) F 1 ["most"] (fun vs zs => vs ++ zs) (fun r1 r2 => r1.append r2) (fun kV doc pm an cdv ct us ws h1 h2 => match us, h1, ws, h2 with | [_], _, [_], _ => rfl)
  exact ⟨_, _, fd, W.mgc "TooMany" rfl, ⟨_, _, _, _, T.ek⟩, T.iC, T.tI, FO, ⟨_, _, b1, fun _ _ => rfl⟩, ⟨_, _, b2, fun _ _ => rfl⟩, fun z => by cases z⟩
theorem kbp_NoSuch (T : Addr) (kV doc pm : Value) (an : Option Addr) (cdv ct u v i : Value) : ∃ k, bindArgs (PySem.W.fnOf "__init__" "NoSuch.__init__" a_i_NoSuch b_i_NoSuch k_i_NoSuch (.ref T) kV doc pm an cdv ct) ⟨[u, v], []⟩ = seqItems? (.ref T) >>= k ∧ k (some #[i]) = pure ([("self", u), ("value", v)] : List (Str × Value)) := by
  refine ⟨?k, ?e1, ?e2⟩
  case e1 => unfold bindArgs; exact rfl
  case e2 => exact rfl
theorem kbk_NoSuch (T : Addr) (kV doc pm : Value) (an : Option Addr) (cdv ct u v i : Value) : ∃ k, bindArgs (PySem.W.fnOf "__init__" "NoSuch.__init__" a_i_NoSuch b_i_NoSuch k_i_NoSuch (.ref T) kV doc pm an cdv ct) ⟨[u], [("value", v)]⟩ = seqItems? (.ref T) >>= k ∧ k (some #[i]) = pure ([("self", u), ("value", v)] : List (Str × Value)) := by
  refine ⟨?k, ?e1, ?e2⟩
  case e1 => unfold bindArgs; exact rfl
  case e2 => exact rfl
theorem kbn_NoSuch (T : Addr) (kV doc pm : Value) (an : Option Addr) (cdv ct u i : Value) : ∃ k, bindArgs (PySem.W.fnOf "__init__" "NoSuch.__init__" a_i_NoSuch b_i_NoSuch k_i_NoSuch (.ref T) kV doc pm an cdv ct) ⟨[u], []⟩ = seqItems? (.ref T) >>= k ∧ k (some #[i]) = pure ([("self", u), ("value", i)] : List (Str × Value)) := by
  refine ⟨?k, ?e1, ?e2⟩
  case e1 => unfold bindArgs; exact rfl
  case e2 => exact rfl
theorem sc_i_NoSuch : FnScope ["self", "value"] ["self", "value"] k_i_NoSuch := ⟨rfl, rfl, rfl, by decide +kernel, rfl, by decide +kernel, by decide +kernel⟩
theorem ok_mk_NoSuch (W : Fx K mg) {fd : FuncData} (F : FunD K "__init__" "NoSuch.__init__" a_i_NoSuch b_i_NoSuch k_i_NoSuch [V.non] [] (He.fAd K ("NoSuch", some "__init__")) fd) : MkC P w K mg base true "NoSuch" "value" "nothing so called" := by
  have T := W.cl_LookupError_value "NoSuch" rfl
  have FO : FnOk P w K mg base (CX P w) 1 (He.fAd K ("NoSuch", some "__init__")) fd ["self", "value"] (spI (He.ga K "NoSuch") "value" "nothing so called") := by
    refine F.ok sc_i_NoSuch (fun vs H Q E h => ?_) (fun cdv A outer s1 H vs Q E hr h => ⟨_, PSs.nox ?_, init_read rfl T.ek T.no h⟩)
    rotate_left
    · exact pss_cons (ps_expr (pe_biTy rfl (W.free "LookupError" rfl) (by rfl) (by decide) (by decide) (by first | rfl | kernel_rfl) (by decide +kernel) W.ba_LookupError (pa_cons (pv 0) (pa_cons pe_str pa_nil)) (by rfl) (hp := by decide +kernel))) (pss_one (ps_ff (pv 0) (pv 1)))
    obtain ⟨_, _, rfl, _⟩ := h
    rfl
  obtain ⟨i1, b1⟩ := F.kbindsD (ps := ["self", "value"]) 2 [] (fun vs _ _ => vs) (by simp) (fun r1 _ _ => r1) (fun T kV doc pm an cdv ct us its ws h1 h2 h3 => match us, h1, its, h2, ws, h3 with | [u, v], _, [i], _, [], _ => kbp_NoSuch T kV doc pm an cdv ct u v i)
  obtain ⟨i2, b2⟩ := F.kbindsD (ps := ["self", "value"]) 1 ["value"] (fun vs _ zs => vs ++ zs) (by simp) (fun r1 _ r3 => r1.append r3) (fun T kV doc pm an cdv ct us its ws h1 h2 h3 => match us, h1, its, h2, ws, h3 with | [u], _, [i], _, [v], _ => kbk_NoSuch T kV doc pm an cdv ct u v i)
  obtain ⟨i3, b3⟩ := F.kbindsD (ps := ["self", "value"]) 1 [] (fun vs ds _ => vs ++ ds) (by simp) (fun r1 r2 _ => r1.append r2) (fun T kV doc pm an cdv ct us its ws h1 h2 h3 => match us, h1, its, h2, ws, h3 with | [u], _, [i], _, [], _ => kbn_NoSuch T kV doc pm an cdv ct u i)
  exact ⟨_, _, fd, W.mgc "NoSuch" rfl, ⟨_, _, _, _, T.ek⟩, T.iC, T.tI, FO, ⟨_, _, b1, fun _ _ => rfl⟩, ⟨_, _, b2, fun _ _ => rfl⟩, fun _ => ⟨_, _, b3, fun _ => rfl⟩⟩
end
end K99

end

section
set_option linter.all false
set_option maxRecDepth 100000
set_option maxHeartbeats 0
namespace K99
open PySem PySem.Spec PyProof.Rows L2 Tm
/-! ### the law's mathematics -/
def outB : Out → Option Bool
  | .rt (.bl b) _ => some b
  | _ => none
def okB : Rm → Option Bool
  | .ok (.bl b) => some b
  | _ => none
theorem ok_of {r : Rm} (h : okB r = some true) : r = .ok (.bl true) := by
  unfold okB at h
  split at h
  · cases h; rfl
  · cases h
def bV : S := .seq (.ife (.or (.cmp .ne (.call m__law_kinds true (.cons (.var 1) (.nil))) (.lst (.cons (.var 3) (.cons (.cst (.str "base")) (.cons (.cst (.str "value")) (.nil)))))) (.cmp .ne (.call m__law_kinds true (.cons (.var 2) (.nil))) (.lst (.cons (.var 3) (.cons (.cst (.str "base")) (.cons (.cst (.str "value")) (.nil))))))) (.ret (.cst (.bl false))) (.skip)) (.ife (.or (.cmp .ne (.fld cs_value (.var 1) "value") (.var 0)) (.cmp .ne (.fld cs_value (.var 2) "value") (.var 0))) (.ret (.cst (.bl false))) (.skip))
def bP : S := .seq (.ife (.or (.cmp .ne (.call m__law_kinds true (.cons (.var 1) (.nil))) (.lst (.cons (.var 3) (.cons (.cst (.str "base")) (.cons (.cst (.str "value")) (.nil)))))) (.cmp .ne (.call m__law_kinds true (.cons (.var 2) (.nil))) (.lst (.cons (.var 3) (.cons (.cst (.str "base")) (.cons (.cst (.str "value")) (.nil))))))) (.ret (.cst (.bl false))) (.skip)) (.ife (.or (.cmp .ne (.fld cs_place (.var 1) "place") (.var 0)) (.cmp .ne (.fld cs_place (.var 2) "place") (.var 0))) (.ret (.cst (.bl false))) (.skip))
def bN : S := .ife (.or (.cmp .ne (.call m__law_kinds true (.cons (.var 1) (.nil))) (.lst (.cons (.cst (.str "NoSuch")) (.cons (.cst (.str "lookup")) (.nil))))) (.cmp .ne (.fld cs_value (.var 1) "value") (.var 0))) (.ret (.cst (.bl false))) (.skip)
def bT : S := .ife (.or (.cmp .ne (.call m__law_kinds true (.cons (.var 1) (.nil))) (.lst (.cons (.cst (.str "TooMany")) (.cons (.cst (.str "overflow")) (.nil))))) (.cmp .ne (.fld cs_most (.var 1) "most") (.var 0))) (.ret (.cst (.bl false))) (.skip)
theorem kinds_BadPrime (f m : Str) (t : T) : m__law_kinds [.exc "BadPrime" f m t] = .ok (.lst [.str "BadPrime", .str "base", .str "value"]) := by kernel_rfl
theorem kinds_BadNumber (f m : Str) (t : T) : m__law_kinds [.exc "BadNumber" f m t] = .ok (.lst [.str "BadNumber", .str "base", .str "value"]) := by kernel_rfl
theorem kinds_BadName (f m : Str) (t : T) : m__law_kinds [.exc "BadName" f m t] = .ok (.lst [.str "BadName", .str "base", .str "value"]) := by kernel_rfl
theorem kinds_BadRemainder (f m : Str) (t : T) : m__law_kinds [.exc "BadRemainder" f m t] = .ok (.lst [.str "BadRemainder", .str "base", .str "value"]) := by kernel_rfl
theorem kinds_BadExpression (f m : Str) (t : T) : m__law_kinds [.exc "BadExpression" f m t] = .ok (.lst [.str "BadExpression", .str "base", .str "value"]) := by kernel_rfl
theorem kinds_BadProgram (f m : Str) (t : T) : m__law_kinds [.exc "BadProgram" f m t] = .ok (.lst [.str "BadProgram", .str "base", .str "value"]) := by kernel_rfl
theorem kinds_BadInput (f m : Str) (t : T) : m__law_kinds [.exc "BadInput" f m t] = .ok (.lst [.str "BadInput", .str "base", .str "value"]) := by kernel_rfl
theorem kinds_BadNet (f m : Str) (t : T) : m__law_kinds [.exc "BadNet" f m t] = .ok (.lst [.str "BadNet", .str "base", .str "value"]) := by kernel_rfl
theorem kinds_BadLayers (f m : Str) (t : T) : m__law_kinds [.exc "BadLayers" f m t] = .ok (.lst [.str "BadLayers", .str "base", .str "value"]) := by kernel_rfl
theorem kinds_BadPoint (f m : Str) (t : T) : m__law_kinds [.exc "BadPoint" f m t] = .ok (.lst [.str "BadPoint", .str "base", .str "value"]) := by kernel_rfl
theorem kinds_BadLine (f m : Str) (t : T) : m__law_kinds [.exc "BadLine" f m t] = .ok (.lst [.str "BadLine", .str "base", .str "value"]) := by kernel_rfl
theorem kinds_BadTable (f m : Str) (t : T) : m__law_kinds [.exc "BadTable" f m t] = .ok (.lst [.str "BadTable", .str "base", .str "value"]) := by kernel_rfl
theorem kinds_BadClaim (f m : Str) (t : T) : m__law_kinds [.exc "BadClaim" f m t] = .ok (.lst [.str "BadClaim", .str "base", .str "value"]) := by kernel_rfl
theorem kinds_BadTalk (f m : Str) (t : T) : m__law_kinds [.exc "BadTalk" f m t] = .ok (.lst [.str "BadTalk", .str "base", .str "value"]) := by kernel_rfl
theorem kinds_BadCheat (f m : Str) (t : T) : m__law_kinds [.exc "BadCheat" f m t] = .ok (.lst [.str "BadCheat", .str "base", .str "value"]) := by kernel_rfl
theorem kinds_BadCode (f m : Str) (t : T) : m__law_kinds [.exc "BadCode" f m t] = .ok (.lst [.str "BadCode", .str "base", .str "value"]) := by kernel_rfl
theorem kinds_BadWord (f m : Str) (t : T) : m__law_kinds [.exc "BadWord" f m t] = .ok (.lst [.str "BadWord", .str "base", .str "value"]) := by kernel_rfl
theorem kinds_BadTree (f m : Str) (t : T) : m__law_kinds [.exc "BadTree" f m t] = .ok (.lst [.str "BadTree", .str "base", .str "value"]) := by kernel_rfl
theorem kinds_BadMachine (f m : Str) (t : T) : m__law_kinds [.exc "BadMachine" f m t] = .ok (.lst [.str "BadMachine", .str "base", .str "value"]) := by kernel_rfl
theorem kinds_BadBatch (f m : Str) (t : T) : m__law_kinds [.exc "BadBatch" f m t] = .ok (.lst [.str "BadBatch", .str "base", .str "value"]) := by kernel_rfl
theorem kinds_BadText (f m : Str) (t : T) : m__law_kinds [.exc "BadText" f m t] = .ok (.lst [.str "BadText", .str "base", .str "value"]) := by kernel_rfl
theorem kinds_BadBytes (f m : Str) (t : T) : m__law_kinds [.exc "BadBytes" f m t] = .ok (.lst [.str "BadBytes", .str "base", .str "value"]) := by kernel_rfl
theorem kinds_BadPaper (f m : Str) (t : T) : m__law_kinds [.exc "BadPaper" f m t] = .ok (.lst [.str "BadPaper", .str "base", .str "value"]) := by kernel_rfl
theorem kinds_BadDeed (f m : Str) (t : T) : m__law_kinds [.exc "BadDeed" f m t] = .ok (.lst [.str "BadDeed", .str "base", .str "value"]) := by kernel_rfl
theorem kinds_TooMany (f m : Str) (t : T) : m__law_kinds [.exc "TooMany" f m t] = .ok (.lst [.str "TooMany", .str "overflow"]) := by kernel_rfl
theorem kinds_NoSuch (f m : Str) (t : T) : m__law_kinds [.exc "NoSuch" f m t] = .ok (.lst [.str "NoSuch", .str "lookup"]) := by kernel_rfl
theorem r__law_valued (t : T) : m__law_valued [t] = .ok (.lst [.tup [.exc "BadPrime" "value" "no such prime" t, .exc "BadPrime" "value" "no such prime" t, .str "BadPrime"], .tup [.exc "BadNumber" "value" "no such number" t, .exc "BadNumber" "value" "no such number" t, .str "BadNumber"], .tup [.exc "BadName" "value" "no such name" t, .exc "BadName" "value" "no such name" t, .str "BadName"], .tup [.exc "BadRemainder" "value" "no such remainder" t, .exc "BadRemainder" "value" "no such remainder" t, .str "BadRemainder"]]) := by kernel_rfl
theorem r__law_placed (t : T) : m__law_placed [t] = .ok (.lst [.tup [.exc "BadExpression" "place" "no such expression" t, .exc "BadExpression" "place" "no such expression" t, .str "BadExpression"], .tup [.exc "BadProgram" "place" "no such program" t, .exc "BadProgram" "place" "no such program" t, .str "BadProgram"], .tup [.exc "BadInput" "place" "no such input" t, .exc "BadInput" "place" "no such input" t, .str "BadInput"], .tup [.exc "BadNet" "place" "no such net" t, .exc "BadNet" "place" "no such net" t, .str "BadNet"], .tup [.exc "BadLayers" "place" "no such layers" t, .exc "BadLayers" "place" "no such layers" t, .str "BadLayers"], .tup [.exc "BadPoint" "place" "no such point" t, .exc "BadPoint" "place" "no such point" t, .str "BadPoint"], .tup [.exc "BadLine" "place" "no such polynomial" t, .exc "BadLine" "place" "no such polynomial" t, .str "BadLine"], .tup [.exc "BadTable" "place" "no such table" t, .exc "BadTable" "place" "no such table" t, .str "BadTable"], .tup [.exc "BadClaim" "place" "no such claim" t, .exc "BadClaim" "place" "no such claim" t, .str "BadClaim"], .tup [.exc "BadTalk" "place" "no such talk" t, .exc "BadTalk" "place" "no such talk" t, .str "BadTalk"], .tup [.exc "BadCheat" "place" "no such cheat" t, .exc "BadCheat" "place" "no such cheat" t, .str "BadCheat"], .tup [.exc "BadCode" "place" "no such row" t, .exc "BadCode" "place" "no such row" t, .str "BadCode"], .tup [.exc "BadWord" "place" "no such word" t, .exc "BadWord" "place" "no such word" t, .str "BadWord"], .tup [.exc "BadTree" "place" "no such tree" t, .exc "BadTree" "place" "no such tree" t, .str "BadTree"], .tup [.exc "BadMachine" "place" "no such machine" t, .exc "BadMachine" "place" "no such machine" t, .str "BadMachine"], .tup [.exc "BadBatch" "place" "no such batch" t, .exc "BadBatch" "place" "no such batch" t, .str "BadBatch"], .tup [.exc "BadText" "place" "no such text" t, .exc "BadText" "place" "no such text" t, .str "BadText"], .tup [.exc "BadBytes" "place" "no such bytes" t, .exc "BadBytes" "place" "no such bytes" t, .str "BadBytes"], .tup [.exc "BadPaper" "place" "no such paper" t, .exc "BadPaper" "place" "no such paper" t, .str "BadPaper"], .tup [.exc "BadDeed" "place" "no such deed" t, .exc "BadDeed" "place" "no such deed" t, .str "BadDeed"]]) := by kernel_rfl
theorem bV_ok {c m : Str} {t : T} (hk : m__law_kinds [.exc c "value" m t] = .ok (.lst [.str c, .str "base", .str "value"])) (hx : cs_value.contains c = true) (he : eqD (.lst [.str c, .str "base", .str "value"]) (.lst [.str c, .str "base", .str "value"]) = some true) (h : eqD t t = some true) :
    exS bV [some t, some (.exc c "value" m t), some (.exc c "value" m t), some (.str c)] = .nx [some t, some (.exc c "value" m t), some (.exc c "value" m t), some (.str c)] := by
  simp [bV, exS, evE, evA, Rs.bind, outR, ofO, ofRm, cmpT, lim, truT, fldT, seqO, hk, he, h, List.contains_iff_mem.mp hx]
theorem bP_ok {c m : Str} {t : T} (hk : m__law_kinds [.exc c "place" m t] = .ok (.lst [.str c, .str "base", .str "value"])) (hx : cs_place.contains c = true) (he : eqD (.lst [.str c, .str "base", .str "value"]) (.lst [.str c, .str "base", .str "value"]) = some true) (h : eqD t t = some true) :
    exS bP [some t, some (.exc c "place" m t), some (.exc c "place" m t), some (.str c)] = .nx [some t, some (.exc c "place" m t), some (.exc c "place" m t), some (.str c)] := by
  simp [bP, exS, evE, evA, Rs.bind, outR, ofO, ofRm, cmpT, lim, truT, fldT, seqO, hk, he, h, List.contains_iff_mem.mp hx]
theorem bN_ok {m : Str} {t : T} {x2 x3 : Option T} (h : eqD t t = some true) : exS bN [some t, some (.exc "NoSuch" "value" m t), x2, x3] = .nx [some t, some (.exc "NoSuch" "value" m t), x2, x3] := by
  have hk := kinds_NoSuch "value" m t
  have he : eqD (.lst [.str "NoSuch", .str "lookup"]) (.lst [.str "NoSuch", .str "lookup"]) = some true := by kernel_rfl
  have hx : cs_value.contains "NoSuch" = true := by rfl
  simp [bN, exS, evE, evA, Rs.bind, outR, ofO, ofRm, cmpT, lim, truT, fldT, seqO, hk, he, h, List.contains_iff_mem.mp hx]
theorem bT_ok {m : Str} {t : T} {x2 x3 : Option T} (h : eqD t t = some true) : exS bT [some t, some (.exc "TooMany" "most" m t), x2, x3] = .nx [some t, some (.exc "TooMany" "most" m t), x2, x3] := by
  have hk := kinds_TooMany "most" m t
  have he : eqD (.lst [.str "TooMany", .str "overflow"]) (.lst [.str "TooMany", .str "overflow"]) = some true := by kernel_rfl
  have hx : cs_most.contains "TooMany" = true := by rfl
  simp [bT, exS, evE, evA, Rs.bind, outR, ofO, ofRm, cmpT, lim, truT, fldT, seqO, hk, he, h, List.contains_iff_mem.mp hx]
theorem for_cons {g : G} {b : Tau → Out} {t : T} {ts : List T} {τ τ1 τ2 : Tau} (h1 : asgG g t τ = some τ1) (h2 : b τ1 = .nx τ2) : forRun g b (t :: ts) τ = forRun g b ts τ2 := by simp [forRun, h1, h2]
theorem loopbV {t : T} (h : eqD t t = some true) (x1 x2 x3 : Option T) : forRun (.tp (.cons (.nm 1) (.cons (.nm 2) (.cons (.nm 3) .nil)))) (exS bV) [.tup [.exc "BadPrime" "value" "no such prime" t, .exc "BadPrime" "value" "no such prime" t, .str "BadPrime"], .tup [.exc "BadNumber" "value" "no such number" t, .exc "BadNumber" "value" "no such number" t, .str "BadNumber"], .tup [.exc "BadName" "value" "no such name" t, .exc "BadName" "value" "no such name" t, .str "BadName"], .tup [.exc "BadRemainder" "value" "no such remainder" t, .exc "BadRemainder" "value" "no such remainder" t, .str "BadRemainder"]] [some t, x1, x2, x3] = .nx [some t, some (.exc "BadRemainder" "value" "no such remainder" t), some (.exc "BadRemainder" "value" "no such remainder" t), some (.str "BadRemainder")] := (for_cons rfl (bV_ok (kinds_BadPrime _ _ _) (by rfl) (by kernel_rfl) h)).trans ((for_cons rfl (bV_ok (kinds_BadNumber _ _ _) (by rfl) (by kernel_rfl) h)).trans ((for_cons rfl (bV_ok (kinds_BadName _ _ _) (by rfl) (by kernel_rfl) h)).trans ((for_cons rfl (bV_ok (kinds_BadRemainder _ _ _) (by rfl) (by kernel_rfl) h)).trans (rfl))))
theorem loopbP {t : T} (h : eqD t t = some true) (x1 x2 x3 : Option T) : forRun (.tp (.cons (.nm 1) (.cons (.nm 2) (.cons (.nm 3) .nil)))) (exS bP) [.tup [.exc "BadExpression" "place" "no such expression" t, .exc "BadExpression" "place" "no such expression" t, .str "BadExpression"], .tup [.exc "BadProgram" "place" "no such program" t, .exc "BadProgram" "place" "no such program" t, .str "BadProgram"], .tup [.exc "BadInput" "place" "no such input" t, .exc "BadInput" "place" "no such input" t, .str "BadInput"], .tup [.exc "BadNet" "place" "no such net" t, .exc "BadNet" "place" "no such net" t, .str "BadNet"], .tup [.exc "BadLayers" "place" "no such layers" t, .exc "BadLayers" "place" "no such layers" t, .str "BadLayers"], .tup [.exc "BadPoint" "place" "no such point" t, .exc "BadPoint" "place" "no such point" t, .str "BadPoint"], .tup [.exc "BadLine" "place" "no such polynomial" t, .exc "BadLine" "place" "no such polynomial" t, .str "BadLine"], .tup [.exc "BadTable" "place" "no such table" t, .exc "BadTable" "place" "no such table" t, .str "BadTable"], .tup [.exc "BadClaim" "place" "no such claim" t, .exc "BadClaim" "place" "no such claim" t, .str "BadClaim"], .tup [.exc "BadTalk" "place" "no such talk" t, .exc "BadTalk" "place" "no such talk" t, .str "BadTalk"], .tup [.exc "BadCheat" "place" "no such cheat" t, .exc "BadCheat" "place" "no such cheat" t, .str "BadCheat"], .tup [.exc "BadCode" "place" "no such row" t, .exc "BadCode" "place" "no such row" t, .str "BadCode"], .tup [.exc "BadWord" "place" "no such word" t, .exc "BadWord" "place" "no such word" t, .str "BadWord"], .tup [.exc "BadTree" "place" "no such tree" t, .exc "BadTree" "place" "no such tree" t, .str "BadTree"], .tup [.exc "BadMachine" "place" "no such machine" t, .exc "BadMachine" "place" "no such machine" t, .str "BadMachine"], .tup [.exc "BadBatch" "place" "no such batch" t, .exc "BadBatch" "place" "no such batch" t, .str "BadBatch"], .tup [.exc "BadText" "place" "no such text" t, .exc "BadText" "place" "no such text" t, .str "BadText"], .tup [.exc "BadBytes" "place" "no such bytes" t, .exc "BadBytes" "place" "no such bytes" t, .str "BadBytes"], .tup [.exc "BadPaper" "place" "no such paper" t, .exc "BadPaper" "place" "no such paper" t, .str "BadPaper"], .tup [.exc "BadDeed" "place" "no such deed" t, .exc "BadDeed" "place" "no such deed" t, .str "BadDeed"]] [some t, x1, x2, x3] = .nx [some t, some (.exc "BadDeed" "place" "no such deed" t), some (.exc "BadDeed" "place" "no such deed" t), some (.str "BadDeed")] := (for_cons rfl (bP_ok (kinds_BadExpression _ _ _) (by rfl) (by kernel_rfl) h)).trans ((for_cons rfl (bP_ok (kinds_BadProgram _ _ _) (by rfl) (by kernel_rfl) h)).trans ((for_cons rfl (bP_ok (kinds_BadInput _ _ _) (by rfl) (by kernel_rfl) h)).trans ((for_cons rfl (bP_ok (kinds_BadNet _ _ _) (by rfl) (by kernel_rfl) h)).trans ((for_cons rfl (bP_ok (kinds_BadLayers _ _ _) (by rfl) (by kernel_rfl) h)).trans ((for_cons rfl (bP_ok (kinds_BadPoint _ _ _) (by rfl) (by kernel_rfl) h)).trans ((for_cons rfl (bP_ok (kinds_BadLine _ _ _) (by rfl) (by kernel_rfl) h)).trans ((for_cons rfl (bP_ok (kinds_BadTable _ _ _) (by rfl) (by kernel_rfl) h)).trans ((for_cons rfl (bP_ok (kinds_BadClaim _ _ _) (by rfl) (by kernel_rfl) h)).trans ((for_cons rfl (bP_ok (kinds_BadTalk _ _ _) (by rfl) (by kernel_rfl) h)).trans ((for_cons rfl (bP_ok (kinds_BadCheat _ _ _) (by rfl) (by kernel_rfl) h)).trans ((for_cons rfl (bP_ok (kinds_BadCode _ _ _) (by rfl) (by kernel_rfl) h)).trans ((for_cons rfl (bP_ok (kinds_BadWord _ _ _) (by rfl) (by kernel_rfl) h)).trans ((for_cons rfl (bP_ok (kinds_BadTree _ _ _) (by rfl) (by kernel_rfl) h)).trans ((for_cons rfl (bP_ok (kinds_BadMachine _ _ _) (by rfl) (by kernel_rfl) h)).trans ((for_cons rfl (bP_ok (kinds_BadBatch _ _ _) (by rfl) (by kernel_rfl) h)).trans ((for_cons rfl (bP_ok (kinds_BadText _ _ _) (by rfl) (by kernel_rfl) h)).trans ((for_cons rfl (bP_ok (kinds_BadBytes _ _ _) (by rfl) (by kernel_rfl) h)).trans ((for_cons rfl (bP_ok (kinds_BadPaper _ _ _) (by rfl) (by kernel_rfl) h)).trans ((for_cons rfl (bP_ok (kinds_BadDeed _ _ _) (by rfl) (by kernel_rfl) h)).trans (rfl))))))))))))))))))))
theorem loopbN {t : T} (h : eqD t t = some true) (x1 x2 x3 : Option T) : forRun (.nm 1) (exS bN) [.exc "NoSuch" "value" "nothing so called" t, .exc "NoSuch" "value" "nothing so called" t] [some t, x1, x2, x3] = .nx [some t, some (.exc "NoSuch" "value" "nothing so called" t), x2, x3] := (for_cons rfl (bN_ok h)).trans ((for_cons rfl (bN_ok h)).trans rfl)
theorem loopbT {t : T} (h : eqD t t = some true) (x1 x2 x3 : Option T) : forRun (.nm 1) (exS bT) [.exc "TooMany" "most" "too many" t, .exc "TooMany" "most" "too many" t] [some t, x1, x2, x3] = .nx [some t, some (.exc "TooMany" "most" "too many" t), x2, x3] := (for_cons rfl (bT_ok h)).trans ((for_cons rfl (bT_ok h)).trans rfl)
theorem c_right_eq : c__law_right = .seq (.fo (.tp (.cons (.nm 1) (.cons (.nm 2) (.cons (.nm 3) .nil)))) (.itr (.call m__law_valued true (.cons (.var 0) (.nil)))) bV) (.seq (.fo (.tp (.cons (.nm 1) (.cons (.nm 2) (.cons (.nm 3) .nil)))) (.itr (.call m__law_placed true (.cons (.var 0) (.nil)))) bP) (.seq (.fo (.nm 1) (.itr (.tup (.cons (.mk "NoSuch" "value" "nothing so called" (.var 0)) (.cons (.mk "NoSuch" "value" "nothing so called" (.var 0)) (.nil))))) bN) (.seq (.fo (.nm 1) (.itr (.tup (.cons (.mk "TooMany" "most" "too many" (.var 0)) (.cons (.mk "TooMany" "most" "too many" (.var 0)) (.nil))))) bT) (.ret (.cst (.bl true)))))) := rfl
theorem runN_of {n N : Nat} {s : S} {ts : List T} (hl : ts.length = n) (h : outB (exS s (ts.map some ++ List.replicate (N - n) none)) = some true) : Tm.runN n N s ts = .ok (.bl true) := by
  unfold Tm.runN Tm.runM
  rw [if_pos hl]
  revert h
  generalize exS s (ts.map some ++ List.replicate (N - n) none) = o
  intro h
  unfold outB at h
  split at h
  · cases h; rfl
  · cases h
theorem right_e {t : T} (h : eqD t t = some true) : outB (exS (.seq (.fo (.tp (.cons (.nm 1) (.cons (.nm 2) (.cons (.nm 3) .nil)))) (.itr (.call m__law_valued true (.cons (.var 0) (.nil)))) bV) (.seq (.fo (.tp (.cons (.nm 1) (.cons (.nm 2) (.cons (.nm 3) .nil)))) (.itr (.call m__law_placed true (.cons (.var 0) (.nil)))) bP) (.seq (.fo (.nm 1) (.itr (.tup (.cons (.mk "NoSuch" "value" "nothing so called" (.var 0)) (.cons (.mk "NoSuch" "value" "nothing so called" (.var 0)) (.nil))))) bN) (.seq (.fo (.nm 1) (.itr (.tup (.cons (.mk "TooMany" "most" "too many" (.var 0)) (.cons (.mk "TooMany" "most" "too many" (.var 0)) (.nil))))) bT) (.ret (.cst (.bl true))))))) [some t, none, none, none]) = some true := by
  simp only [exS, evI, evE, evA, Rs.bind, ofO, ofRm, itemsT, outR, List.getElem?_cons_zero, r__law_valued, r__law_placed, loopbV h, loopbP h, seqO, lim, List.length_cons, List.length_nil]
  simp [loopbN h, loopbT h, outB]
theorem right_ok {t : T} (h : eqD t t = some true) : m__law_right [t] = .ok (.bl true) := runN_of (n := 1) (N := (["thing", "one", "other", "name"] : List Str).length) (s := c__law_right) (ts := [t]) rfl (right_e h)
end K99

end

section
set_option linter.all false
set_option maxRecDepth 100000
set_option maxHeartbeats 0
namespace K99
open PySem PySem.Spec PyProof.Rows L2 Tm
def outT : Out → Option T
  | .rt t _ => some t
  | .nx _ => some .non
  | _ => none
theorem runN_ofT {n N : Nat} {s : S} {ts : List T} {t : T} (hl : ts.length = n) (h : outT (exS s (ts.map some ++ List.replicate (N - n) none)) = some t) : Tm.runN n N s ts = .ok t := by
  unfold Tm.runN Tm.runM
  rw [if_pos hl]
  revert h
  generalize exS s (ts.map some ++ List.replicate (N - n) none) = o
  intro h
  unfold outT at h
  split at h <;> cases h <;> rfl
theorem fm (k : Int) {b : Int} (hb : 0 < b) : 0 ≤ k.fmod b ∧ k.fmod b < b := by
  rw [Int.fmod_eq_emod_of_nonneg k (Int.le_of_lt hb)]
  exact ⟨Int.emod_nonneg k (by omega), Int.emod_lt_of_pos k hb⟩
theorem mul_ok {n : Int} (h0 : 0 ≤ n) (h1 : n < 18446744073709551616) : mulOk n n = true := by
  unfold mulOk
  simp only [Bool.or_eq_true, decide_eq_true_eq]
  exact .inl (.inl (by omega))
theorem mul_okr (n : Int) (m : Int) (h : m.natAbs < 18446744073709551616) : mulOk n m = true := by
  unfold mulOk
  simp only [Bool.or_eq_true, decide_eq_true_eq]
  exact .inl (.inr h)
theorem mul_okl (n : Int) (m : Int) (h : n.natAbs < 18446744073709551616) : mulOk n m = true := by
  unfold mulOk
  simp only [Bool.or_eq_true, decide_eq_true_eq]
  exact .inl (.inl h)
theorem at4 (k : Int) : ∃ p : Int, atI ([.int 1000000007, .int 998244353, .int 2147483629, .int 1000000009] : List T) (k.fmod 4) = some (.int p) ∧ 0 < p ∧ p < 2147483648 := by
  obtain ⟨h1, h2⟩ := fm k (b := 4) (by decide)
  have h : k.fmod 4 = 0 ∨ k.fmod 4 = 1 ∨ k.fmod 4 = 2 ∨ k.fmod 4 = 3 := by omega
  rcases h with h | h | h | h <;> rw [h]
  · exact ⟨1000000007, rfl, by decide, by decide⟩
  · exact ⟨998244353, rfl, by decide, by decide⟩
  · exact ⟨2147483629, rfl, by decide, by decide⟩
  · exact ⟨1000000009, rfl, by decide, by decide⟩
theorem mixed_ok (c k : Int) (h0 : 0 ≤ k) (h1 : k ≤ 1000000) : ∃ v : Int, m__law_mixed [.int c, .int k] = .ok (.int v) := by
  obtain ⟨p, hp, p0, p1⟩ := at4 k
  obtain ⟨f0, f1⟩ := fm c p0
  have pn : p ≠ 0 := by omega
  have hm := mul_ok (n := c.fmod p + 7919 * k + 13) (by omega) (by omega)
  have h2 := mul_okl 7919 k (by decide)
  refine ⟨(((c.fmod p + 7919 * k + 13) * (c.fmod p + 7919 * k + 13)).fmod 2147483647 * 48271).fmod 2147483647, runN_ofT (n := 2) (N := (["cell", "k", "number"] : List Str).length) (s := c__law_mixed) rfl ?_⟩
  simp [c__law_mixed, exS, evE, evA, Rs.bind, ofO, ofRm, outR, Tm.binT, idxT, hp, pn, lim, asgG, seqO, h2, hm, outT, mul_okr _ 48271 (by decide)]
theorem draw_ok (c k : Int) : m__law_draw [.int c, .int k] = .ok (.dic ["left", "cell", "turns"] [.int (if 1000000000000000000 ≤ c then c else 0), .int c, .int (1000 * k)]) := by
  have h2 := mul_okl 1000 k (by decide)
  have hp : powOk 10 18 = true := by decide +kernel
  refine runN_ofT (n := 2) (N := (["cell", "k"] : List Str).length) (s := c__law_draw) rfl ?_
  by_cases h : 1000000000000000000 ≤ c
  · simp [c__law_draw, exS, evE, evA, Rs.bind, ofO, ofRm, outR, Tm.binT, cmpT, truT, lim, h2, hp, h, outT, flatTL, flatT]
  · simp [c__law_draw, exS, evE, evA, Rs.bind, ofO, ofRm, outR, Tm.binT, cmpT, truT, lim, h2, hp, h, outT, flatTL, flatT]
end K99

end

section
set_option linter.all false
set_option maxRecDepth 100000
set_option maxHeartbeats 0
namespace K99
open PySem PySem.Spec PyProof.Rows Tm
abbrev KS : List Str := ["left", "cell", "turns"]
theorem k1 (a b c : T) : keyT KS [a, b, c] "left" = some a := rfl
theorem k2 (a b c : T) : keyT KS [a, b, c] "cell" = some b := rfl
theorem k3 (a b c : T) : keyT KS [a, b, c] "turns" = some c := rfl
theorem p1 (a b c x : T) : putT KS [a, b, c] "left" x = [x, b, c] := rfl
theorem p3 (a b c x : T) : putT KS [a, b, c] "turns" x = [a, b, x] := rfl
theorem c1 : (KS.contains "left" && decide KS.Nodup && decide (KS.length ≤ 1000)) = true := by decide +kernel
theorem c3 : (KS.contains "turns" && decide KS.Nodup && decide (KS.length ≤ 1000)) = true := by decide +kernel
def bD : S := .seq (.setk 0 "turns" (.bin .add (.key (.bor 0) "turns") (.cst (.int (1))))) (.setk 0 "left" (.bin .add (.bin .mul (.key (.bor 0) "left") (.cst (.int (2147483647)))) (.call m__law_mixed true (.cons (.key (.bor 0) "cell") (.cons (.key (.bor 0) "turns") (.nil))))))
def gD (l c t : Int) : T := .dic KS [.int l, .int c, .int t]
theorem bD_ok (l c t : Int) (b x2 x3 : Option T) (h0 : 0 ≤ t) (h1 : t ≤ 100000) : ∃ l', exS bD [some (gD l c t), b, x2, x3] = .nx [some (gD l' c (t + 1)), b, x2, x3] := by
  obtain ⟨v, hv⟩ := mixed_ok c (t + 1) (by omega) (by omega)
  refine ⟨l * 2147483647 + v, ?_⟩
  have hm := mul_okr l 2147483647 (by decide)
  simp only [bD, gD, exS, evE, evA, Rs.bind, ofO, ofRm, outR, seqO, Tm.binT, List.getElem?_cons_zero, List.set_cons_zero, k1, k2, k3, p1, p3, c1, c3, if_true, hm, hv]
theorem eqD_int (l m : Int) : eqD (.int l) (.int m) = some (decide (l = m)) := by
  unfold eqD toD
  simp [SeqAt.shaped, PyData.eqv]
  exact ⟨⟨⟨rfl, Nat.le_of_ble_eq_true rfl⟩, rfl, Nat.le_of_ble_eq_true rfl⟩, by by_cases h : l = m <;> simp [h]⟩
theorem loop_ok (c t : Int) (b x3 : Option T) (h0 : 0 ≤ t) (h1 : t ≤ 90000) (l : Int) : ∃ l' x2, forRun (.nm 2) (exS bD) [.int 0, .int 1, .int 2, .int 3] [some (gD l c t), b, none, x3] = .nx [some (gD l' c (t + 4)), b, x2, x3] := by
  obtain ⟨l1, e1⟩ := bD_ok l c t b (some (.int 0)) x3 h0 (by omega)
  obtain ⟨l2, e2⟩ := bD_ok l1 c (t + 1) b (some (.int 1)) x3 (by omega) (by omega)
  obtain ⟨l3, e3⟩ := bD_ok l2 c (t + 1 + 1) b (some (.int 2)) x3 (by omega) (by omega)
  obtain ⟨l4, e4⟩ := bD_ok l3 c (t + 1 + 1 + 1) b (some (.int 3)) x3 (by omega) (by omega)
  refine ⟨l4, some (.int 3), (for_cons rfl e1).trans ((for_cons rfl e2).trans ((for_cons rfl e3).trans ((for_cons rfl e4).trans ?_)))⟩
  rw [show t + 1 + 1 + 1 + 1 = t + 4 by omega]
  rfl
def tD : S := .seq (.asg (.nm 3) (.bin .mod (.key (.bor 0) "left") (.var 1))) (.seq (.setk 0 "left" (.bin .fdiv (.key (.bor 0) "left") (.var 1))) (.ret (.var 3)))
theorem tail_ok (l c t b : Int) (x2 x3 : Option T) (b0 : 0 < b) (b1 : b < 1073741824) : exS tD [some (gD l c t), some (.int b), x2, x3] = .rt (.int (l.fmod b)) [some (gD (l / b) c t), some (.int b), x2, some (.int (l.fmod b))] := by
  have bn : b ≠ 0 := by omega
  have hf : fdivOk l b = true := by
    unfold fdivOk
    rw [decide_eq_true b0, decide_eq_true b1]; rfl
  simp [tD, gD, exS, evE, evA, Rs.bind, ofO, outR, seqO, Tm.binT, asgG, k1, bn]
  simp only [hf, if_true, List.getElem?_cons_zero]
  rw [if_pos (by decide +kernel)]
  simp [p1]
theorem head_eq : c__law_digit = .seq (.ife (.cmp .eq (.key (.bor 0) "left") (.cst (.int (0)))) (.fo (.nm 2) (.rng (.cst (.int (4)))) bD) (.skip)) tD := rfl
theorem runIo_ofT {n N : Nat} {s : S} {s0 s1 : T} {ts : List T} {t : T} {τ : Tau} (hl : ts.length + 1 = n) (h : exS s (some s0 :: (ts.map some ++ List.replicate (N - n) none)) = .rt t (some s1 :: τ)) : runIo n N s s0 ts = some (s1, t) := by
  unfold runIo
  rw [if_pos hl, h]
  rfl
theorem digit_ok (l c t b : Int) (h0 : 0 ≤ t) (h1 : t ≤ 90000) (b0 : 0 < b) (b1 : b < 1073741824) : ∃ l' t' v, m__law_digit (gD l c t) [.int b] = some (gD l' c t', .int v) ∧ 0 ≤ v ∧ v < b ∧ t ≤ t' ∧ t' ≤ t + 4 := by
  by_cases h : l = 0
  · subst h
    obtain ⟨l1, x2, e1⟩ := loop_ok c t (some (.int b)) none h0 h1 0
    obtain ⟨f0, f1⟩ := fm l1 b0
    refine ⟨l1 / b, t + 4, l1.fmod b, runIo_ofT (n := 2) (N := (["state", "below", "j", "found"] : List Str).length) (s := c__law_digit) (τ := [some (.int b), x2, some (.int (l1.fmod b))]) rfl ?_, f0, f1, by omega, by omega⟩
    show exS c__law_digit [some (gD 0 c t), some (.int b), none, none] = _
    rw [head_eq]
    have e2 : exS (.ife (.cmp .eq (.key (.bor 0) "left") (.cst (.int (0)))) (.fo (.nm 2) (.rng (.cst (.int (4)))) bD) (.skip)) [some (gD 0 c t), some (.int b), none, none] = .nx [some (gD l1 c (t + 4)), some (.int b), x2, none] := by
      simp only [gD] at e1 ⊢
      simp only [exS, evE, evI, Rs.bind, ofO, outR, List.getElem?_cons_zero, k1, cmpT, eqD_int, decide_true, Option.map_some, truT, rng1T]
      exact e1
    show seqO (exS (.ife _ _ _) _) (exS tD) = _
    rw [e2]
    exact tail_ok l1 c (t + 4) b x2 none b0 b1
  · obtain ⟨f0, f1⟩ := fm l b0
    refine ⟨l / b, t, l.fmod b, runIo_ofT (n := 2) (N := (["state", "below", "j", "found"] : List Str).length) (s := c__law_digit) (τ := [some (.int b), none, some (.int (l.fmod b))]) rfl ?_, f0, f1, by omega, by omega⟩
    show exS c__law_digit [some (gD l c t), some (.int b), none, none] = _
    rw [head_eq]
    have e2 : exS (.ife (.cmp .eq (.key (.bor 0) "left") (.cst (.int (0)))) (.fo (.nm 2) (.rng (.cst (.int (4)))) bD) (.skip)) [some (gD l c t), some (.int b), none, none] = .nx [some (gD l c t), some (.int b), none, none] := by
      simp only [gD]
      simp only [exS, evE, evI, Rs.bind, ofO, outR, List.getElem?_cons_zero, k1, cmpT, eqD_int, decide_eq_false h, Option.map_some, truT]
    show seqO (exS (.ife _ _ _) _) (exS tD) = _
    rw [e2]
    exact tail_ok l c t b none none b0 b1
end K99

end

section
set_option linter.all false
set_option maxRecDepth 100000
set_option maxHeartbeats 0
namespace K99
open PySem PySem.Spec PyProof.Rows Tm
def bL : S := .seq (.asgo 3 (.call m__law_draw true (.cons (.var 2) (.cons (.var 1) (.nil))))) (.seq (.asg (.nm 4) (.cio m__law_digit false 3 (.cons (.cst (.int (100000))) (.nil)))) (.seq (.asg (.nm 5) (.lst (.cons (.var 4) (.cons (.bin .sub (.cst (.int (0))) (.var 4)) (.cons (.bin .mul (.cst (.str "ab")) (.bin .mod (.var 4) (.cst (.int (50))))) (.cons (.tup (.cons (.cst (.str "atom")) (.cons (.tup (.cons (.cst (.int (0))) (.cons (.var 4) (.nil)))) (.nil)))) (.cons (.cst .non) (.cons (.tup (.cons (.bin .pow (.cst (.int (10))) (.cst (.int (30)))) (.cons (.tup (.nil)) (.nil)))) (.cons (.bin .mul (.tup (.cons (.var 4) (.nil))) (.cst (.int (9)))) (.nil)))))))))) (.ife (.or (.not (.call m__law_right false (.cons (.idx (.var 5) (.cio m__law_digit false 3 (.cons (.cst (.int (7))) (.nil)))) (.nil)))) (.not (.call m__law_right false (.cons (.bin .pow (.bin .pow (.bin .pow (.cst (.int (10))) (.cst (.int (50)))) (.cst (.int (50)))) (.cst (.int (2)))) (.nil))))) (.ret (.cst (.bl false))) (.skip))))
def lE : E := .lst (.cons (.var 4) (.cons (.bin .sub (.cst (.int (0))) (.var 4)) (.cons (.bin .mul (.cst (.str "ab")) (.bin .mod (.var 4) (.cst (.int (50))))) (.cons (.tup (.cons (.cst (.str "atom")) (.cons (.tup (.cons (.cst (.int (0))) (.cons (.var 4) (.nil)))) (.nil)))) (.cons (.cst .non) (.cons (.tup (.cons (.bin .pow (.cst (.int (10))) (.cst (.int (30)))) (.cons (.tup (.nil)) (.nil)))) (.cons (.bin .mul (.tup (.cons (.var 4) (.nil))) (.cst (.int (9)))) (.nil))))))))
def iL : S := .ife (.or (.not (.call m__law_right false (.cons (.idx (.var 5) (.cio m__law_digit false 3 (.cons (.cst (.int (7))) (.nil)))) (.nil)))) (.not (.call m__law_right false (.cons (.bin .pow (.bin .pow (.bin .pow (.cst (.int (10))) (.cst (.int (50)))) (.cst (.int (50)))) (.cst (.int (2)))) (.nil))))) (.ret (.cst (.bl false))) (.skip)
def rL : S := .seq (.asg (.nm 5) (.lst (.cons (.mk "BadPrime" "value" "no such prime" (.cst .non)) (.cons (.mk "BadNumber" "value" "no such number" (.cst .non)) (.cons (.mk "BadName" "value" "no such name" (.cst .non)) (.cons (.mk "BadRemainder" "value" "no such remainder" (.cst .non)) (.cons (.mk "NoSuch" "value" "nothing so called" (.cst .non)) (.nil)))))))) (.seq (.asg (.nm 6) (.lst (.cons (.mk "BadExpression" "place" "no such expression" (.cst .non)) (.cons (.mk "BadProgram" "place" "no such program" (.cst .non)) (.cons (.mk "BadInput" "place" "no such input" (.cst .non)) (.cons (.mk "BadNet" "place" "no such net" (.cst .non)) (.cons (.mk "BadLayers" "place" "no such layers" (.cst .non)) (.cons (.mk "BadPoint" "place" "no such point" (.cst .non)) (.cons (.mk "BadLine" "place" "no such polynomial" (.cst .non)) (.nil)))))))))) (.seq (.asg (.nm 6) (.bin .add (.var 6) (.lst (.cons (.mk "BadTable" "place" "no such table" (.cst .non)) (.cons (.mk "BadClaim" "place" "no such claim" (.cst .non)) (.cons (.mk "BadTalk" "place" "no such talk" (.cst .non)) (.cons (.mk "BadCheat" "place" "no such cheat" (.cst .non)) (.cons (.mk "BadCode" "place" "no such row" (.cst .non)) (.cons (.mk "BadWord" "place" "no such word" (.cst .non)) (.cons (.mk "BadTree" "place" "no such tree" (.cst .non)) (.cons (.mk "BadMachine" "place" "no such machine" (.cst .non)) (.cons (.mk "BadBatch" "place" "no such batch" (.cst .non)) (.cons (.mk "BadText" "place" "no such text" (.cst .non)) (.cons (.mk "BadBytes" "place" "no such bytes" (.cst .non)) (.cons (.mk "BadPaper" "place" "no such paper" (.cst .non)) (.cons (.mk "BadDeed" "place" "no such deed" (.cst .non)) (.nil))))))))))))))))) (.seq (.ife (.or (.cmp .ne (.lc [10] (.nm 10) (.itr (.var 5)) (.nil) (.fld cs_value (.var 10) "value")) (.bin .mul (.lst (.cons (.cst .non) (.nil))) (.cst (.int (5))))) (.cmp .ne (.lc [10] (.nm 10) (.itr (.var 6)) (.nil) (.fld cs_place (.var 10) "place")) (.bin .mul (.lst (.cons (.cst .non) (.nil))) (.cst (.int (20)))))) (.ret (.cst (.bl false))) (.skip)) (.seq (.asgo 7 (.lst (.nil))) (.seq (.fo (.nm 8) (.itr (.tup (.cons (.cst (.str "zqzq")) (.cons (.bin .pow (.cst (.int (10))) (.cst (.int (30)))) (.cons (.cst (.int (70707))) (.cons (.cst (.str "")) (.cons (.cst (.str "deed")) (.nil)))))))) (.seq (.asg (.nm 9) (.bin .add (.lc [11, 12, 13] (.tp (.cons (.nm 11) (.cons (.nm 12) (.cons (.nm 13) (.nil))))) (.itr (.bin .add (.call m__law_valued true (.cons (.var 8) (.nil))) (.call m__law_placed true (.cons (.var 8) (.nil))))) (.nil) (.var 11)) (.lst (.cons (.mk "NoSuch" "value" "nothing so called" (.var 8)) (.cons (.mk "TooMany" "most" "too many" (.var 8)) (.nil)))))) (.app 7 (.lc [10] (.nm 10) (.itr (.var 9)) (.nil) (.str cs_all (.var 10)))))) (.ret (.cmp .eq (.bor 7) (.bin .mul (.lst (.cons (.idx (.bor 7) (.cst (.int (0)))) (.nil))) (.cst (.int (5)))))))))))
theorem law_eq : c_law = .seq (.fo (.tp (.cons (.nm 1) (.cons (.nm 2) .nil))) (.enm (.bin .add (.slc (.var 0) (.nil) (.cons (.cst (.int (4))) .nil)) (.lst (.cons (.sum (.var 0)) (.nil))))) bL) rL := rfl
theorem bL_eq : bL = .seq (.asgo 3 (.call m__law_draw true (.cons (.var 2) (.cons (.var 1) (.nil))))) (.seq (.asg (.nm 4) (.cio m__law_digit false 3 (.cons (.cst (.int (100000))) (.nil)))) (.seq (.asg (.nm 5) lE) iL)) := rfl
theorem rest_ok (x0 x1 x2 x3 x4 x5 x6 x7 x8 x9 x10 x11 x12 x13 : Option T) : outB (exS rL [x0, x1, x2, x3, x4, x5, x6, x7, x8, x9, x10, x11, x12, x13]) = some true := by kernel_rfl
end K99

end

section
set_option linter.all false
set_option maxRecDepth 100000
set_option maxHeartbeats 0
namespace K99
open PySem PySem.Spec PyProof.Rows Tm
theorem str_ok (v : Int) : strOk "ab" (v.fmod 50) = true := by
  obtain ⟨h1, h2⟩ := fm v (b := 50) (by decide)
  have key : ∀ n : Nat, n < 50 → strOk "ab" (n : Int) = true := by decide +kernel
  have := key (v.fmod 50).toNat (by omega)
  rwa [Int.toNat_of_nonneg h1] at this
def LL (v : Int) : List T := [.int v, .int (0 - v), .str (strRep "ab" (v.fmod 50)), .tup [.str "atom", .tup [.int 0, .int v]], .non, .tup [.int (10 ^ 30), .tup []], .tup (repT [.int v] 9)]
theorem lE_ok (τ : Tau) (v : Int) (h : τ[4]? = some (some (.int v))) : evE lE τ = .ok (.lst (LL v)) τ := by
  have hs := str_ok v
  have hp : powOk 10 30 = true := by decide +kernel
  have e50 : ¬ (50 : Int) = 0 := by decide
  have ht : (![T.int v].isEmpty && decide ((2 : Int) ≤ 9) && decide ((9 : Int) ≤ 1000) && decide ([T.int v].length ≤ 1000)) = true := by rfl
  simp only [lE, evE, evA, Rs.bind, ofO, h, Tm.binT, hs, hp, ht, if_true, if_neg e50, lim, List.length_cons, List.length_nil, Nat.reduceAdd, Nat.reduceLeDiff, Nat.zero_le]
  rfl
theorem eqD_self {t : T} {d : PyData} (h : toD t = some d) (hs : SeqAt.shaped d = true) (hp : d.plain = true) : eqD t t = some true := by
  unfold eqD
  rw [h]
  simp only [hs, Bool.and_self, if_true]
  rw [SeqAt.eqv_refl_plain d hp]
theorem str_eq (v : Int) : eqD (.str (strRep "ab" (v.fmod 50))) (.str (strRep "ab" (v.fmod 50))) = some true := by
  obtain ⟨h1, h2⟩ := fm v (b := 50) (by decide)
  have key : ∀ n : Nat, n < 50 → SeqAt.shaped (.str (strRep "ab" (n : Int))) = true := by decide +kernel
  have := key (v.fmod 50).toNat (by omega)
  rw [Int.toNat_of_nonneg h1] at this
  exact eqD_self rfl this rfl
theorem eq_all (v : Int) (i : Int) (h0 : 0 ≤ i) (h1 : i < 7) : ∃ t, L2.atI (LL v) i = some t ∧ eqD t t = some true := by
  have h : i = 0 ∨ i = 1 ∨ i = 2 ∨ i = 3 ∨ i = 4 ∨ i = 5 ∨ i = 6 := by omega
  rcases h with h | h | h | h | h | h | h <;> subst h
  · exact ⟨_, rfl, by rw [eqD_int, decide_eq_true rfl]⟩
  · exact ⟨_, rfl, by rw [eqD_int, decide_eq_true rfl]⟩
  · exact ⟨_, rfl, str_eq v⟩
  · exact ⟨_, rfl, eqD_self (d := .tuple [.str "atom", .tuple [.int 0, .int v]]) rfl (by kernel_rfl) (by kernel_rfl)⟩
  · exact ⟨_, rfl, by rfl⟩
  · exact ⟨_, rfl, eqD_self (d := .tuple [.int (10 ^ 30), .tuple []]) rfl (by kernel_rfl) (by kernel_rfl)⟩
  · exact ⟨_, rfl, eqD_self (d := .tuple [.int v, .int v, .int v, .int v, .int v, .int v, .int v, .int v, .int v]) rfl (by kernel_rfl) (by kernel_rfl)⟩
/-- one turn -/
theorem bL_ok (k c : Int) (h0 : 0 ≤ k) (h1 : k ≤ 64) (x0 x3 x4 x5 x6 x7 x8 x9 x10 x11 x12 x13 : Option T) : ∃ y3 y4 y5, exS bL [x0, some (.int k), some (.int c), x3, x4, x5, x6, x7, x8, x9, x10, x11, x12, x13] = .nx [x0, some (.int k), some (.int c), y3, y4, y5, x6, x7, x8, x9, x10, x11, x12, x13] := by
  obtain ⟨l1, t1, v1, e1, a1, b1, d1, f1⟩ := digit_ok (if 1000000000000000000 ≤ c then c else 0) c (1000 * k) 100000 (by omega) (by omega) (by decide) (by decide)
  obtain ⟨l2, t2, v2, e2, a2, b2, d2, f2⟩ := digit_ok l1 c t1 7 (by omega) (by omega) (by decide) (by decide)
  obtain ⟨t, et, eqt⟩ := eq_all v1 v2 a2 b2
  have r1 := right_ok eqt
  have hp1 : powOk 10 50 = true := by decide +kernel
  have hp2 : powOk (10 ^ (50 : Int).toNat) 50 = true := by decide +kernel
  have hp3 : powOk ((10 ^ (50 : Int).toNat) ^ (50 : Int).toNat) 2 = true := by decide +kernel
  have r2 := right_ok (t := .int (((10 ^ (50 : Int).toNat) ^ (50 : Int).toNat) ^ (2 : Int).toNat)) (by rw [eqD_int, decide_eq_true rfl])
  refine ⟨some (gD l2 c t2), some (.int v1), some (.lst (LL v1)), ?_⟩
  rw [bL_eq]
  have s1 : exS (.asgo 3 (.call m__law_draw true (.cons (.var 2) (.cons (.var 1) (.nil))))) [x0, some (.int k), some (.int c), x3, x4, x5, x6, x7, x8, x9, x10, x11, x12, x13] = .nx [x0, some (.int k), some (.int c), some (gD (if 1000000000000000000 ≤ c then c else 0) c (1000 * k)), x4, x5, x6, x7, x8, x9, x10, x11, x12, x13] := by
    have := draw_ok c k
    simp [exS, evE, evA, Rs.bind, ofRm, outR, this, isLD, gD]
  have s2 : exS (.asg (.nm 4) (.cio m__law_digit false 3 (.cons (.cst (.int (100000))) (.nil)))) [x0, some (.int k), some (.int c), some (gD (if 1000000000000000000 ≤ c then c else 0) c (1000 * k)), x4, x5, x6, x7, x8, x9, x10, x11, x12, x13] = .nx [x0, some (.int k), some (.int c), some (gD l1 c t1), some (.int v1), x5, x6, x7, x8, x9, x10, x11, x12, x13] := by
    simp [exS, evE, evA, Rs.bind, ofRm, outR, e1, asgG]
  have s3 : exS (.asg (.nm 5) lE) [x0, some (.int k), some (.int c), some (gD l1 c t1), some (.int v1), x5, x6, x7, x8, x9, x10, x11, x12, x13] = .nx [x0, some (.int k), some (.int c), some (gD l1 c t1), some (.int v1), some (.lst (LL v1)), x6, x7, x8, x9, x10, x11, x12, x13] := by
    have := lE_ok [x0, some (.int k), some (.int c), some (gD l1 c t1), some (.int v1), x5, x6, x7, x8, x9, x10, x11, x12, x13] v1 rfl
    simp [exS, outR, this, asgG]
  have s4 : exS iL [x0, some (.int k), some (.int c), some (gD l1 c t1), some (.int v1), some (.lst (LL v1)), x6, x7, x8, x9, x10, x11, x12, x13] = .nx [x0, some (.int k), some (.int c), some (gD l2 c t2), some (.int v1), some (.lst (LL v1)), x6, x7, x8, x9, x10, x11, x12, x13] := by
    simp only [iL, exS, evE, evA, Rs.bind, ofRm, ofO, outR, List.getElem?_cons_zero, List.getElem?_cons_succ, List.set_cons_succ, List.set_cons_zero, e2, idxT, et, r1, truT, Option.map_some, Bool.not_true, Tm.binT, hp1, hp2, hp3, if_true, r2]
  show seqO (exS (.asgo 3 _) _) (exS (.seq _ _)) = _
  rw [s1]
  show seqO (exS (.asg (.nm 4) _) _) (exS (.seq _ _)) = _
  rw [s2]
  show seqO (exS (.asg (.nm 5) _) _) (exS _) = _
  rw [s3]
  exact s4
end K99

end

section
set_option linter.all false
set_option maxRecDepth 100000
set_option maxHeartbeats 0
namespace K99
open PySem PySem.Spec PyProof.Rows Tm
abbrev gL : G := .tp (.cons (.nm 1) (.cons (.nm 2) .nil))
theorem loopL : ∀ (ps : List (Nat × Int)) (x0 x1 x2 x3 x4 x5 x6 x7 x8 x9 x10 x11 x12 x13 : Option T), (∀ p ∈ ps, p.1 ≤ 64) → ∃ y1 y2 y3 y4 y5, forRun gL (exS bL) (ps.map fun p => .tup [.int p.1, .int p.2]) [x0, x1, x2, x3, x4, x5, x6, x7, x8, x9, x10, x11, x12, x13] = .nx [x0, y1, y2, y3, y4, y5, x6, x7, x8, x9, x10, x11, x12, x13]
  | [], x0, x1, x2, x3, x4, x5, x6, x7, x8, x9, x10, x11, x12, x13, _ => ⟨x1, x2, x3, x4, x5, rfl⟩
  | p :: ps, x0, x1, x2, x3, x4, x5, x6, x7, x8, x9, x10, x11, x12, x13, h => by
    obtain ⟨y3, y4, y5, e⟩ := bL_ok (p.1 : Int) p.2 (by omega) (by have := h p List.mem_cons_self; omega) x0 x3 x4 x5 x6 x7 x8 x9 x10 x11 x12 x13
    obtain ⟨z1, z2, z3, z4, z5, e2⟩ := loopL ps x0 (some (.int p.1)) (some (.int p.2)) y3 y4 y5 x6 x7 x8 x9 x10 x11 x12 x13 fun q hq => h q (List.mem_cons_of_mem _ hq)
    exact ⟨z1, z2, z3, z4, z5, (for_cons rfl e).trans e2⟩
theorem ints_map (ns : List Int) : intsT (ns.map T.int) = some ns := by
  induction ns with
  | nil => rfl
  | cons n ns ih => rw [List.map_cons]; unfold intsT; rw [ih]; rfl
theorem enm_map (zs : List Int) : enmL (zs.map T.int) = (((List.range zs.length).zip zs).map fun p => T.tup [.int p.1, .int p.2]) := by
  unfold enmL
  rw [List.length_map, List.zip_map_right, List.map_map]
  rfl
theorem cut_map (ns : List Int) (lo hi : Option Int) : ∃ zs : List Int, cutT (ns.map T.int) lo hi = zs.map T.int ∧ zs.length ≤ ns.length := by
  unfold cutT
  rw [List.length_map, ← List.map_drop, ← List.map_take]
  exact ⟨_, rfl, by rw [List.length_take, List.length_drop]; omega⟩
end K99

end

section
set_option linter.all false
set_option maxRecDepth 100000
set_option maxHeartbeats 0
namespace K99
open PySem PySem.Spec PyProof.Rows Tm
theorem s2_ok (ns zs : List Int) (hz : cutT (ns.map T.int) none (some 4) = zs.map T.int) (hle : (cutT (ns.map T.int) none (some 4)).length + 1 ≤ 16777216) : evI (.enm (.bin .add (.slc (.var 0) (.nil) (.cons (.cst (.int (4))) .nil)) (.lst (.cons (.sum (.var 0)) (.nil))))) [some (.scr (ns.map T.int)), none, none, none, none, none, none, none, none, none, none, none, none, none] = .ok (enmL ((zs ++ [ns.sum]).map T.int)) [some (.scr (ns.map T.int)), none, none, none, none, none, none, none, none, none, none, none, none, none] := by
  have h0 : ∀ r : Rs T, lim 1 r = r := fun r => by unfold lim; rw [if_pos (by decide)]
  simp only [evI, evE, evA, evP, Rs.bind, ofO, List.getElem?_cons_zero, optI, slcT, lstT, Option.bind_some, ints_map, Option.map_some, List.length_cons, List.length_nil, Nat.zero_add, h0, Tm.binT]
  rw [if_pos hle]
  simp only [lstT, Option.map_some]
  rw [hz, List.map_append]
  rfl
end K99

end

section
set_option linter.all false
set_option maxRecDepth 100000
set_option maxHeartbeats 0
namespace K99
open PySem PySem.Spec PyProof.Rows Tm
theorem fo_of {g : G} {i : E} {b : S} {τ τ1 : Tau} {ts : List T} (h : evI i τ = .ok ts τ1) : exS (.fo g i b) τ = forRun g (exS b) ts τ1 := by
  rw [exS, h]; rfl
theorem seq_of {a b : S} {τ τ1 : Tau} (h : exS a τ = .nx τ1) : exS (.seq a b) τ = exS b τ1 := by
  rw [exS, h]; rfl
theorem law_e (ns : List Int) (hn : ns.length ≤ 63) : outB (exS c_law [some (.scr (ns.map T.int)), none, none, none, none, none, none, none, none, none, none, none, none, none]) = some true := by
  obtain ⟨zs, hz, hl⟩ := cut_map ns none (some 4)
  obtain ⟨y1, y2, y3, y4, y5, e⟩ := loopL ((List.range (zs ++ [ns.sum]).length).zip (zs ++ [ns.sum])) (some (.scr (ns.map T.int))) none none none none none none none none none none none none none (fun p hp => by
    have := (List.of_mem_zip hp).1
    rw [List.mem_range, List.length_append, List.length_singleton] at this
    omega)
  rw [← enm_map] at e
  have hle : (cutT (ns.map T.int) none (some 4)).length + 1 ≤ 16777216 := by
    rw [hz, List.length_map]; omega
  rw [law_eq, seq_of ((fo_of (s2_ok ns zs hz hle)).trans e)]
  exact rest_ok _ _ _ _ _ _ _ _ _ _ _ _ _ _
theorem law_ok (ns : List Int) (hn : ns.length ≤ 63) : m_law [.scr (ns.map T.int)] = .ok (.bl true) :=
  runN_of (n := 1) (N := (["script", "k", "cell", "state", "number", "some", "others", "rows", "thing", "made", "e", "one", "other", "name"] : List Str).length) (s := c_law) (ts := [.scr (ns.map T.int)]) rfl (law_e ns hn)
end K99

end

section
set_option linter.all false
set_option maxRecDepth 100000
set_option maxHeartbeats 0
namespace K99
open PySem PySem.Spec PyProof.Rows L2 Tm
theorem facts {P : Program} {w : World} {K : PySem.W.Frag} {h : Heap} {mg : Str → Option Value} {f : Addr} (X : K.In h) (G : h.Ns mainGlobals mg) (hfa : mg ("law" : Str) = some (.ref f)) (c : He.SaysT fa fn [] w K) (e : ex K = true) :
    ∃ fd : FuncData, (∀ (s : Shared) (v : Value), BindsTo s fd ⟨[v], []⟩ [("script", v)]) ∧ ∀ base : Heap, K.In base → base.Ns mainGlobals mg → FnOk P w K mg base (CX P w) 5 f fd ["script"] (spM (ctk K mg) false 1 m_law) := by
  have W : Fx K mg := of_facts X G c e
  have ef := hfa.symm.trans (W.glo "law" rfl)
  cases ef
  obtain ⟨f__law_mixed, F__law_mixed⟩ := c.d.defs (d := d__law_mixed) (by unfold fn; simp)
  obtain ⟨f__law_draw, F__law_draw⟩ := c.d.defs (d := d__law_draw) (by unfold fn; simp)
  obtain ⟨f__law_digit, F__law_digit⟩ := c.d.defs (d := d__law_digit) (by unfold fn; simp)
  obtain ⟨f__law_kinds, F__law_kinds⟩ := c.d.defs (d := d__law_kinds) (by unfold fn; simp)
  obtain ⟨f__law_valued, F__law_valued⟩ := c.d.defs (d := d__law_valued) (by unfold fn; simp)
  obtain ⟨f__law_placed, F__law_placed⟩ := c.d.defs (d := d__law_placed) (by unfold fn; simp)
  obtain ⟨f__law_right, F__law_right⟩ := c.d.defs (d := d__law_right) (by unfold fn; simp)
  obtain ⟨f_law, F_law⟩ := c.d.defs (d := d_law) (by unfold fn; simp)
  obtain ⟨g_BadPrime, G_BadPrime⟩ := c.d.defs (d := e_BadPrime) (by unfold fn; simp)
  obtain ⟨g_BadNumber, G_BadNumber⟩ := c.d.defs (d := e_BadNumber) (by unfold fn; simp)
  obtain ⟨g_BadName, G_BadName⟩ := c.d.defs (d := e_BadName) (by unfold fn; simp)
  obtain ⟨g_BadRemainder, G_BadRemainder⟩ := c.d.defs (d := e_BadRemainder) (by unfold fn; simp)
  obtain ⟨g_BadExpression, G_BadExpression⟩ := c.d.defs (d := e_BadExpression) (by unfold fn; simp)
  obtain ⟨g_BadProgram, G_BadProgram⟩ := c.d.defs (d := e_BadProgram) (by unfold fn; simp)
  obtain ⟨g_BadInput, G_BadInput⟩ := c.d.defs (d := e_BadInput) (by unfold fn; simp)
  obtain ⟨g_BadNet, G_BadNet⟩ := c.d.defs (d := e_BadNet) (by unfold fn; simp)
  obtain ⟨g_BadLayers, G_BadLayers⟩ := c.d.defs (d := e_BadLayers) (by unfold fn; simp)
  obtain ⟨g_BadPoint, G_BadPoint⟩ := c.d.defs (d := e_BadPoint) (by unfold fn; simp)
  obtain ⟨g_BadLine, G_BadLine⟩ := c.d.defs (d := e_BadLine) (by unfold fn; simp)
  obtain ⟨g_BadTable, G_BadTable⟩ := c.d.defs (d := e_BadTable) (by unfold fn; simp)
  obtain ⟨g_BadClaim, G_BadClaim⟩ := c.d.defs (d := e_BadClaim) (by unfold fn; simp)
  obtain ⟨g_BadTalk, G_BadTalk⟩ := c.d.defs (d := e_BadTalk) (by unfold fn; simp)
  obtain ⟨g_BadCheat, G_BadCheat⟩ := c.d.defs (d := e_BadCheat) (by unfold fn; simp)
  obtain ⟨g_BadCode, G_BadCode⟩ := c.d.defs (d := e_BadCode) (by unfold fn; simp)
  obtain ⟨g_BadWord, G_BadWord⟩ := c.d.defs (d := e_BadWord) (by unfold fn; simp)
  obtain ⟨g_BadTree, G_BadTree⟩ := c.d.defs (d := e_BadTree) (by unfold fn; simp)
  obtain ⟨g_BadMachine, G_BadMachine⟩ := c.d.defs (d := e_BadMachine) (by unfold fn; simp)
  obtain ⟨g_BadBatch, G_BadBatch⟩ := c.d.defs (d := e_BadBatch) (by unfold fn; simp)
  obtain ⟨g_BadText, G_BadText⟩ := c.d.defs (d := e_BadText) (by unfold fn; simp)
  obtain ⟨g_BadBytes, G_BadBytes⟩ := c.d.defs (d := e_BadBytes) (by unfold fn; simp)
  obtain ⟨g_BadPaper, G_BadPaper⟩ := c.d.defs (d := e_BadPaper) (by unfold fn; simp)
  obtain ⟨g_BadDeed, G_BadDeed⟩ := c.d.defs (d := e_BadDeed) (by unfold fn; simp)
  obtain ⟨g_TooMany, G_TooMany⟩ := c.d.defs (d := e_TooMany) (by unfold fn; simp)
  obtain ⟨g_NoSuch, G_NoSuch⟩ := c.d.defs (d := e_NoSuch) (by unfold fn; simp)
  have b := FunD.bindsA (ps := ["script"]) F_law fun _ _ _ _ _ _ us hl => match us, hl with | [_], _ => rfl
  refine ⟨f_law, fun s v => b s [v] rfl, fun base _ _ => ?_⟩
  have mk_BadPrime : MkC P w K mg base true "BadPrime" "value" "no such prime" := ok_mk_BadPrime W G_BadPrime
  have mk_BadNumber : MkC P w K mg base true "BadNumber" "value" "no such number" := ok_mk_BadNumber W G_BadNumber
  have mk_BadName : MkC P w K mg base true "BadName" "value" "no such name" := ok_mk_BadName W G_BadName
  have mk_BadRemainder : MkC P w K mg base true "BadRemainder" "value" "no such remainder" := ok_mk_BadRemainder W G_BadRemainder
  have mk_BadExpression : MkC P w K mg base true "BadExpression" "place" "no such expression" := ok_mk_BadExpression W G_BadExpression
  have mk_BadProgram : MkC P w K mg base true "BadProgram" "place" "no such program" := ok_mk_BadProgram W G_BadProgram
  have mk_BadInput : MkC P w K mg base true "BadInput" "place" "no such input" := ok_mk_BadInput W G_BadInput
  have mk_BadNet : MkC P w K mg base true "BadNet" "place" "no such net" := ok_mk_BadNet W G_BadNet
  have mk_BadLayers : MkC P w K mg base true "BadLayers" "place" "no such layers" := ok_mk_BadLayers W G_BadLayers
  have mk_BadPoint : MkC P w K mg base true "BadPoint" "place" "no such point" := ok_mk_BadPoint W G_BadPoint
  have mk_BadLine : MkC P w K mg base true "BadLine" "place" "no such polynomial" := ok_mk_BadLine W G_BadLine
  have mk_BadTable : MkC P w K mg base true "BadTable" "place" "no such table" := ok_mk_BadTable W G_BadTable
  have mk_BadClaim : MkC P w K mg base true "BadClaim" "place" "no such claim" := ok_mk_BadClaim W G_BadClaim
  have mk_BadTalk : MkC P w K mg base true "BadTalk" "place" "no such talk" := ok_mk_BadTalk W G_BadTalk
  have mk_BadCheat : MkC P w K mg base true "BadCheat" "place" "no such cheat" := ok_mk_BadCheat W G_BadCheat
  have mk_BadCode : MkC P w K mg base true "BadCode" "place" "no such row" := ok_mk_BadCode W G_BadCode
  have mk_BadWord : MkC P w K mg base true "BadWord" "place" "no such word" := ok_mk_BadWord W G_BadWord
  have mk_BadTree : MkC P w K mg base true "BadTree" "place" "no such tree" := ok_mk_BadTree W G_BadTree
  have mk_BadMachine : MkC P w K mg base true "BadMachine" "place" "no such machine" := ok_mk_BadMachine W G_BadMachine
  have mk_BadBatch : MkC P w K mg base true "BadBatch" "place" "no such batch" := ok_mk_BadBatch W G_BadBatch
  have mk_BadText : MkC P w K mg base true "BadText" "place" "no such text" := ok_mk_BadText W G_BadText
  have mk_BadBytes : MkC P w K mg base true "BadBytes" "place" "no such bytes" := ok_mk_BadBytes W G_BadBytes
  have mk_BadPaper : MkC P w K mg base true "BadPaper" "place" "no such paper" := ok_mk_BadPaper W G_BadPaper
  have mk_BadDeed : MkC P w K mg base true "BadDeed" "place" "no such deed" := ok_mk_BadDeed W G_BadDeed
  have mk_TooMany : MkC P w K mg base false "TooMany" "most" "too many" := ok_mk_TooMany W G_TooMany
  have mk_NoSuch : MkC P w K mg base true "NoSuch" "value" "nothing so called" := ok_mk_NoSuch W G_NoSuch
  have D__law_mixed := ok__law_mixed (P := P) (w := w) (base := base) W F__law_mixed  
  have D__law_draw := ok__law_draw (P := P) (w := w) (base := base) W F__law_draw  
  have D__law_digit := ok__law_digit (P := P) (w := w) (base := base) W F__law_digit D__law_mixed 
  have D__law_kinds := ok__law_kinds (P := P) (w := w) (base := base) W F__law_kinds  
  have D__law_valued := ok__law_valued (P := P) (w := w) (base := base) W F__law_valued  mk_BadPrime mk_BadNumber mk_BadName mk_BadRemainder
  have D__law_placed := ok__law_placed (P := P) (w := w) (base := base) W F__law_placed  mk_BadExpression mk_BadProgram mk_BadInput mk_BadNet mk_BadLayers mk_BadPoint mk_BadLine mk_BadTable mk_BadClaim mk_BadTalk mk_BadCheat mk_BadCode mk_BadWord mk_BadTree mk_BadMachine mk_BadBatch mk_BadText mk_BadBytes mk_BadPaper mk_BadDeed
  have D__law_right := ok__law_right (P := P) (w := w) (base := base) W F__law_right D__law_kinds D__law_valued D__law_placed mk_TooMany mk_NoSuch
  exact okf_law (P := P) (w := w) (base := base) W F_law D__law_draw D__law_digit D__law_valued D__law_placed D__law_right mk_BadPrime mk_BadNumber mk_BadName mk_BadRemainder mk_BadExpression mk_BadProgram mk_BadInput mk_BadNet mk_BadLayers mk_BadPoint mk_BadLine mk_BadTable mk_BadClaim mk_BadTalk mk_BadCheat mk_BadCode mk_BadWord mk_BadTree mk_BadMachine mk_BadBatch mk_BadText mk_BadBytes mk_BadPaper mk_BadDeed mk_TooMany mk_NoSuch
end K99

end

section
set_option linter.all false
set_option maxRecDepth 100000
namespace K99
open PySem PySem.Spec PyProof.Rows L2 Tm
def CXA (P : Program) : CXT := fun outer H s E u s' => ∃ w, CX P w outer H s E u s'
theorem fnok_cx {P : Program} {w : World} {K : PySem.W.Frag} {mg : Str → Option Value} {base : Heap} {k : Nat} {f : Addr} {fd : FuncData} {ps : List Str} {sp : Sp} (F : FnOk P w K mg base (CX P w) k f fd ps sp) : FnOk P w K mg base (CXA P) k f fd ps sp :=
  ⟨F.len, fun A outer s H args us vs Q E hr e0 hb r h => codeAny_mono (F.run A outer s H args us vs Q E hr e0 hb r h) fun rr s' z => by
    cases rr with
    | error e => exact ⟨w, z⟩
    | ok fl => cases fl <;> exact z⟩
theorem cxa_no {P : Program} (H : Hp) (s : Shared) (e : Value) (s' : Shared) (h : CXA P [] H s (fun _ _ _ => False) e s') : False := by
  obtain ⟨w, _, _, _, _, _, _, _, _, _, _, _, _, z⟩ := h
  exact z
theorem sp_law {K : PySem.W.Frag} {mg : Str → Option Value} {fr : Bool} {H : Hp} {a : Addr} {ns : List Int} (hn : ns.length ≤ 63) (hS : SqL K H a (ns.map V.int)) : spM (ctk K mg) fr 1 m_law [.ref a] H (fun v _ => v = .bl true) (fun _ _ _ => False) := by
  have rl : ∀ ms : List Int, RepL (ctk K mg) (fun _ => False) H (ms.map T.int) (ms.map V.int) := fun ms => by
    induction ms with
    | nil => exact rfl
    | cons m ms ih => exact ⟨_, _, rfl, rfl, ih⟩
  refine ⟨rfl, trivial, fun _ => False, [.scr (ns.map T.int)], ⟨fun _ _ z => z.elim, fun _ z => z.elim⟩, RepL.one ⟨a, _, rfl, ?_, rl ns⟩, ?_⟩
  · rcases hS with h | h
    · exact .inl ⟨fun z => z, h⟩
    · exact .inr h
  · rw [law_ok ns hn]
    exact fun v H' _ r _ => r
end K99

end

section
set_option linter.all false
set_option maxRecDepth 100000
set_option maxHeartbeats 0
namespace K99
open PySem PySem.Spec PyProof.Rows L2 Tm
theorem run (w : World) : HandSHeadRun.RunEq R (PySem.W.view R.prog [36]) hk ob 8000 loose w := by
  intro os
  kernel_rfl
end K99
open PySem PySem.W PySem.Calls PyProof.Rows
theorem PySem.Challenge.cw_runsbelieved_k99_errors_by_hand_holds : PySem.Challenge.rw_runsbelieved_k99_errors_by_hand.Holds := by
  w_on; o_law
  refine HandSHeadRun.head_any (r := OpenLaw.row PySem.Challenge.rw_runsbelieved_k99_errors_by_hand) (q := view (OpenLaw.row PySem.Challenge.rw_runsbelieved_k99_errors_by_hand).prog [36]) (H := K99.hk) (ob := K99.ob) (M := 8000) (loose := K99.loose) (d := HandSHeadRun.topDef (OpenLaw.row PySem.Challenge.rw_runsbelieved_k99_errors_by_hand).prog 36) (kwd := []) K99.ob_eq
    (by kernel_rfl) (fun s => by kernel_rfl) K99.run (by kernel_rfl) (by kernel_rfl) (by kernel_rfl) (by rfl) (by first | assumption | decide +kernel) (by decide +kernel) ⟨rfl, rfl, rfl, rfl, rfl, by decide +kernel⟩ ?hw ?hc
  case hw => w_witness2
  case hc =>
    refine L2.walk_ofE (l := PySem.Challenge.rw_runsbelieved_k99_errors_by_hand) (n := 63) (k := 5) (x := "script") (CX := K99.CXA (PySem.Challenge.rw_runsbelieved_k99_errors_by_hand).prog) rfl (by decide) (by kernel_rfl) ⟨rfl, by decide, by decide⟩ ?F (fun H s e s' h => K99.cxa_no H s e s' h)
    intro w mg fa h Y G hmg0
    obtain ⟨K, KX, c, ex⟩ := Y
    have hmg : mg ("law" : PySem.Str) = some (.ref fa) := by
      have e : (HandSHeadRun.topDef (OpenLaw.row PySem.Challenge.rw_runsbelieved_k99_errors_by_hand).prog 36).name = ("law" : PySem.Str) := by kernel_rfl
      rw [← e]
      exact hmg0
    obtain ⟨fd, hb, hF⟩ := K99.facts (P := (PySem.Challenge.rw_runsbelieved_k99_errors_by_hand).prog) (w := w) KX G hmg c ex
    exact ⟨K, fd, _, KX, hb, fun H a ns hl _ hS => K99.sp_law hl hS, fun base h1 h2 => K99.fnok_cx (hF base h1 h2)⟩

end
